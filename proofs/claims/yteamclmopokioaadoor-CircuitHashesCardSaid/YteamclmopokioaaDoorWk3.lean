/-
  What the functions compute.
-/
import Derived.Test.YteamclmopokioaaDoorWk2
set_option linter.unusedSimpArgs false
set_option linter.unusedVariables false
/- The reference of the channel: Draw, Absorb. -/
namespace Go.VE
open Go Go.Proofs
set_option maxRecDepth 20000
/-- A channel. -/
def chan (f : Int) (s : List Int) : List Value := .int .i64 f :: u4 s
def drawM (f : Int) (s : List Int) : List Int := pst f (s.set 1 (fAdd f (at0 s 1) 2)) 8
def abs0 (f : Int) (j : Nat) (s : List Int) : List Int := s.set j (fAdd f (at0 s j) 0)
def abs1 (f : Int) (s : List Int) (x : Int) : List Int := pst f ((hSt1 f s x).set 1 (fAdd f (at0 (hSt1 f s x) 1) 1)) 8
def absGo (f : Int) : List Int → List Int → List Int
  | [], s => s
  | x :: r, s => absGo f r (abs1 f s x)

theorem chan_len {f : Int} {s : List Int} (h : s.length = 4) : (chan f s).length = 5 := by simp [chan, u4, h]
theorem chan_0 (f : Int) (s : List Int) : (chan f s)[0]? = some (.int .i64 f) := rfl
theorem chan_get {f : Int} {s : List Int} {k : Nat} (h : k < s.length) : (chan f s)[1 + k]? = some (.int .u64 (at0 s k)) := by
  rw [Nat.add_comm]
  exact u4_get h
theorem chan_cut {f : Int} {s : List Int} (h : s.length = 4) : cut (chan f s) 1 4 = some (u4 s) := by
  obtain ⟨a, b, c, d, rfl⟩ := len4 h
  rfl
theorem chan_set {f : Int} {s : List Int} (h : s.length = 4) {k : Nat} (hk : k < 4) (x : Int) : splice (chan f s) (1 + k) [.int .u64 x] = chan f (s.set k x) := by
  obtain ⟨a, b, c, d, rfl⟩ := len4 h
  match k, hk with
  | 0, _ => rfl
  | 1, _ => rfl
  | 2, _ => rfl
  | 3, _ => rfl
theorem chan_put {f : Int} {s q : List Int} (h : s.length = 4) (hq : q.length = 4) : splice (chan f s) 1 (u4 q) = chan f q := by
  obtain ⟨a, b, c, d, rfl⟩ := len4 h
  obtain ⟨a', b', c', d', rfl⟩ := len4 hq
  rfl
theorem chan_one (f : Int) (s : List Int) : (chan f s).all (·.oneCell') = true := by
  show (true && (u4 s).all (·.oneCell')) = true
  rw [u4_one]; rfl
theorem chan_flat {f : Int} {s : List Int} (h : s.length = 4) (x : Int) : flat' (.tuple (.mk [.agg (.mk (chan f s)), .int .u64 x])) = true := by
  obtain ⟨a, b, c, d, rfl⟩ := len4 h
  rfl
theorem chan_flat1 {f : Int} {s : List Int} (h : s.length = 4) : flat' (.agg (.mk (chan f s))) = true := by
  obtain ⟨a, b, c, d, rfl⟩ := len4 h
  rfl
theorem chan_veq {f : Int} {s : List Int} (h : s.length = 4) : veq (.agg (.mk (chan f s))) (.agg (.mk (chan f s))) = true := by
  obtain ⟨a, b, c, d, rfl⟩ := len4 h
  simp [veq, veqA, veqL, chan, u4]

/-- A channel in a block. -/
structure ChIn (f : Int) (s0 s : St) (A : Nat) (l : List Int) : Prop where
  here : s.at A = some (.cells (chan f l) 65 false)
  new : s0.n ≤ A
  wf : Wf s
  grew : Grew s0 s
  len : l.length = 4
  nn : ∀ x ∈ l, 0 ≤ x

section
variable {ro : Nat} {s : St} {K : Value → St → Prop}
theorem ChIn.set {f : Int} {s0 s : St} {A : Nat} {l : List Int} (h : ChIn f s0 s A l) (hw0 : Wf s0) (hro : ro ≤ s0.n) {o k : Nat} (ho : o = 1 + k) (hk4 : k < 4) {x : Int} (hx : 0 ≤ x) {ty : TypeId} {K : Value → St → Prop} (hk : ∀ s', ChIn f s0 s' A (l.set k x) → (∀ B, B ≠ A → s'.at B = s.at B) → K undef s') :
    wop P ro (.store 24 (.const (.pointer (some ⟨A, o, none⟩))) (.const (.int .u64 x))) ty s K := by
  subst ho
  have hn := h.new
  refine store1_rule isz_24 h.here h.wf (by omega) (by rw [chan_len h.len]; omega) rfl fun s' p => hk s' ⟨?_, h.new, p.wf, p.grew _ hw0 h.grew h.new, by rw [List.length_set]; exact h.len, nn_set h.nn hx⟩ p.rest
  rw [p.here, chan_set h.len hk4]

theorem ChIn.put {f : Int} {s0 s : St} {A : Nat} {l q : List Int} (h : ChIn f s0 s A l) (hw0 : Wf s0) (hro : ro ≤ s0.n) (hq : q.length = 4) (hqn : ∀ x ∈ q, 0 ≤ x) {ty : TypeId} {K : Value → St → Prop} (hk : ∀ s', ChIn f s0 s' A q → (∀ B, B ≠ A → s'.at B = s.at B) → K undef s') :
    wop P ro (.store 58 (.const (.pointer (some ⟨A, 1, none⟩))) (.const (.agg (.mk (u4 q))))) ty s K := by
  have hn := h.new
  refine store_rule isz_58 h.here (show (u4 q).length = 4 by rw [u4_len]; exact hq) (by decide) h.wf (by omega) (by rw [chan_len h.len]; exact Nat.le_refl _) (u4_one _) fun s' p => hk s' ⟨?_, h.new, p.wf, p.grew _ hw0 h.grew h.new, hq, hqn⟩ p.rest
  rw [p.here, chan_put h.len hq]

theorem wDraw (f : Int) (hv : fV f = true) {l : List Int} (hl : l.length = 4) (hnn : ∀ x ∈ l, 0 ≤ x) (hw : Wf s) (hro : ro ≤ s.n) : CallWP P ro 28 [.agg (.mk (chan f l))] s K = K (.tuple (.mk [.agg (.mk (chan f (drawM f l))), .int .u64 (at0 (drawM f l) 0)])) s := by
  refine callEq (call_wp b28 rfl ?_) K
  rw [n28]
  unfold v28
  simp (maxSteps := 10000000) only [wW, reduceCtorEq, Nat.reduceEqDiff]
  refine box_rule hw.ent fun C s1 m1 => ?_
  refine alloc_rule ty_65 m1.wf fun R s2 m2 => ?_
  have e1 := m1.eq
  have e2 := m2.eq
  have n1 := m1.n
  have n2 := m2.n
  have hn0 : (ent s).n = s.n := rfl
  have c2 : ChIn f (ent s) s2 C l := ⟨(m2.grew.same C (by omega)).trans m1.here, by omega, m2.wf, m1.grew.trans m2.grew, hl, hnn⟩
  have hg1 : (chan f l)[2]? = some (.int .u64 (at0 l 1)) := chan_get (k := 1) (by omega)
  simp (maxSteps := 10000000) only [wW, reduceCtorEq, Nat.reduceEqDiff, wL, Nat.reduceAdd, fa_65_0, fa_65_1, acells_some c2.here, chan_0, wrValid, hv, Bool.true_eq_false, sx1, hg1]
  rw [wrAdd f (at0_nn hnn 1) (by decide)]
  refine c2.set (k := 1) hw.ent hro rfl (by decide) (fAdd_bounds _ _ _).1 fun s3 c3 r3 => ?_
  have hcut := chan_cut (f := f) c3.len
  rw [acells_some c3.here, wopt_some, chan_0, wopt_some, wopt_some, hcut, wopt_some]
  have hg3 := c3.grew.n
  show CallWP P ro 67 [.int .i64 f, .agg (.mk (u4 (l.set 1 (fAdd f (at0 l 1) 2))))] s3 _
  rw [wPerm f hv c3.len c3.nn c3.wf (by omega)]
  have hd : pst f (l.set 1 (fAdd f (at0 l 1) 2)) 8 = drawM f l := rfl
  rw [hd]
  have hdl : (drawM f l).length = 4 := pst_len f c3.len 8
  have hdn : ∀ x ∈ drawM f l, (0 : Int) ≤ x := pst_nn c3.nn 8
  generalize drawM f l = q at hdl hdn ⊢
  refine c3.put hw.ent hro hdl hdn fun s4 c4 r4 => ?_
  have hcut5 : cut (chan f q) 0 5 = some (chan f q) := cut_all (chan_len hdl)
  have hg0 : (chan f q)[1]? = some (.int .u64 (at0 q 0)) := chan_get (k := 0) (by omega)
  simp (maxSteps := 10000000) only [wW, reduceCtorEq, Nat.reduceEqDiff, wL, Nat.reduceAdd, loadN ap_65, fa_65_0, fa_65_1, acells_some c4.here, hcut5, sx0, hg0]
  refine ⟨chan_veq hdl, by simp [veq], ?_⟩
  have hR4 : s4.at R = _ := (r4 R (by omega)).trans ((r3 R (by omega)).trans m2.here)
  refine storeAll_rule isz_65 hR4 (chan_len hdl) (by decide) c4.wf (by omega) rfl (chan_one _ _) fun s5 p5 => ?_
  refine ⟨p5.keeps (by simp [rngOff]; omega), ?_⟩
  rw [acells_some p5.here, wopt_some, hcut5, wopt_some]
  exact fin_flat (chan_flat hdl _) (p5.grew _ hw.ent c4.grew (by omega)) ⟨rfl, rfl⟩

theorem abs0_len (f : Int) (n : Nat) (l : List Int) : (abs0 f n l).length = l.length := by simp [abs0]
theorem abs0_nn (f : Int) (n : Nat) (l : List Int) (h : ∀ x ∈ l, 0 ≤ x) : ∀ x ∈ abs0 f n l, (0 : Int) ≤ x := nn_set h (fAdd_bounds _ _ _).1

theorem wAbsorb (f : Int) (hv : fV f = true) {l xs : List Int} (hl : l.length = 4) (hnn : ∀ x ∈ l, 0 ≤ x) {u : Value} (hu : U64s s u xs) (hlen : xs.length < 2 ^ 60) (hxn : ∀ x ∈ xs, 0 ≤ x) (hw : Wf s) (hro : ro ≤ s.n) : CallWP P ro 29 [.agg (.mk (chan f l)), u] s K = K (.agg (.mk (chan f (absGo f xs (it (abs0 f) 4 l))))) s := by
  refine callEq (call_wp b29 rfl ?_) K
  rw [n29]
  unfold v29
  simp (maxSteps := 10000000) only [wW, reduceCtorEq, Nat.reduceEqDiff]
  refine box_rule hw.ent fun C s1 m1 => ?_
  refine alloc_rule ty_65 m1.wf fun R s2 m2 => ?_
  have e1 := m1.eq
  have e2 := m2.eq
  have n1 := m1.n
  have n2 := m2.n
  have hn0 : (ent s).n = s.n := rfl
  have c2 : ChIn f (ent s) s2 C l := ⟨(m2.grew.same C (by omega)).trans m1.here, by omega, m2.wf, m1.grew.trans m2.grew, hl, hnn⟩
  simp (maxSteps := 10000000) only [wW, reduceCtorEq, Nat.reduceEqDiff, wL, Nat.reduceAdd, fa_65_0, acells_some c2.here, chan_0, wrValid, hv, Bool.true_eq_false]
  refine wloop l29_110100 m29_110100 (fun (j : Nat) τ ds s' => j ≤ 4 ∧ τ 1 = u ∧ τ 2 = ptr C ∧ τ 4 = ptr R ∧ τ 5 = .int .i64 j ∧ ds = [] ∧ s'.at R = s2.at R ∧ ChIn f (ent s) s' C (it (abs0 f) j l)) (fun j => 4 - j) ?_ 0 ⟨by omega, ?_, ?_, ?_, ?_, rfl, rfl, c2⟩
  · clear c2
    rintro j τ ds s' ⟨hj, t1, t2, t4, t5, rfl, hR, cj⟩
    by_cases hj4 : j < 4
    · rw [n29_110100]
      unfold v29_110100
      have hg := chan_get (f := f) (s := it (abs0 f) j l) (k := j) (by rw [cj.len]; exact hj4)
      simp (maxSteps := 10000000) only [wW, reduceCtorEq, Nat.reduceEqDiff, wL, Nat.reduceAdd, t2, t5, fa_65_0, fa_65_1, acells_some cj.here, chan_0, six _ _ hj4, hg]
      rw [if_pos (by omega)]
      refine ⟨by simp [veq], by simp [veq], ?_⟩
      rw [wrAdd f (at0_nn cj.nn _) (Int.le_refl 0)]
      refine cj.set hw.ent hro rfl hj4 (fAdd_bounds _ _ _).1 fun s4 c4 r4 => ?_
      rw [wrap_i64 (by omega) (by omega)]
      refine ⟨j + 1, by omega, by omega, ?_, ?_, ?_, ?_, trivial, (r4 R (by have := cj.grew.n; have := St.at_lt cj.here; omega)).trans hR, c4⟩
      · simp only [U, tset_eq, wW, reduceCtorEq, Nat.reduceEqDiff, t1]
      · simp only [U, tset_eq, wW, reduceCtorEq, Nat.reduceEqDiff, t2]
      · simp only [U, tset_eq, wW, reduceCtorEq, Nat.reduceEqDiff, t4]
      · simp only [U, tset_eq, wW, reduceCtorEq, Nat.reduceEqDiff]; rfl
    · obtain rfl : j = 4 := by omega
      rw [n29_110100]
      unfold v29_110100
      simp (maxSteps := 10000000) only [wW, reduceCtorEq, Nat.reduceEqDiff, t5]
      rw [if_neg (by omega)]
      refine wloop l29_1110100 m29_1110100 (fun (i : Nat) τ ds s' => i ≤ xs.length ∧ τ 1 = u ∧ τ 2 = ptr C ∧ τ 4 = ptr R ∧ τ 6 = .int .i64 i ∧ ds = [] ∧ s'.at R = s2.at R ∧ ∃ q, ChIn f (ent s) s' C q ∧ absGo f (xs.drop i) q = absGo f xs (it (abs0 f) 4 l)) (fun i => xs.length - i) ?_ 0 ⟨by omega, ?_, ?_, ?_, ?_, rfl, hR, _, cj, rfl⟩
      · clear t1 t2 t4 t5 hR cj
        rintro i τ ds s' ⟨hi, t1, t2, t4, t6, rfl, hR, q, cq, hgo⟩
        rw [n29_1110100]
        unfold v29_1110100
        have hgn := cq.grew.n
        have hRC : R ≠ C := by omega
        by_cases hlt : i < xs.length
        · obtain ⟨A5, o5, c5, z1, z2, z3⟩ := U64s.at1 (s := s') ((Sl.ent hu).grew cq.grew.same) (i := (i : Int)) (x := xs[i]) (by omega) (by rw [Int.toNat_natCast]; exact List.getElem?_eq_getElem hlt)
          have hg0 : (chan f q)[1]? = some (.int .u64 (at0 q 0)) := chan_get (k := 0) (by rw [cq.len]; decide)
          simp (maxSteps := 10000000) only [wW, reduceCtorEq, Nat.reduceEqDiff, wL, Nat.reduceAdd, t1, t2, t6, Sl.wlen hu se_23, fa_65_0, fa_65_1, acells_some cq.here, chan_0, sx0, sx1, hg0, z1, z2, z3]
          rw [if_pos (by omega)]
          refine ⟨by simp [veq], by simp [veq], by simp [veq], ?_⟩
          rw [wrAdd f (at0_nn cq.nn 0) (hxn _ (List.getElem_mem _))]
          refine cq.set (k := 0) hw.ent hro rfl (by decide) (fAdd_bounds _ _ _).1 fun s4 c4 r4 => ?_
          have hq4 : q.set 0 (fAdd f (at0 q 0) xs[i]) = hSt1 f q xs[i] := rfl
          rw [hq4] at c4
          have hg1 : (chan f (hSt1 f q xs[i]))[2]? = some (.int .u64 (at0 (hSt1 f q xs[i]) 1)) := chan_get (k := 1) (by rw [c4.len]; decide)
          rw [acells_some c4.here, wopt_some, chan_0, wopt_some, wopt_some, hg1, wopt_some, wrAdd f (at0_nn c4.nn 1) (by decide)]
          refine c4.set (k := 1) hw.ent hro rfl (by decide) (fAdd_bounds _ _ _).1 fun s6 c6 r6 => ?_
          have hcut := chan_cut (f := f) c6.len
          rw [acells_some c6.here, wopt_some, chan_0, wopt_some, wopt_some, hcut, wopt_some]
          have hg6 := c6.grew.n
          show CallWP P ro 67 [.int .i64 f, .agg (.mk (u4 ((hSt1 f q xs[i]).set 1 (fAdd f (at0 (hSt1 f q xs[i]) 1) 1))))] s6 _
          rw [wPerm f hv c6.len c6.nn c6.wf (by omega)]
          have hd : pst f ((hSt1 f q xs[i]).set 1 (fAdd f (at0 (hSt1 f q xs[i]) 1) 1)) 8 = abs1 f q xs[i] := rfl
          rw [hd]
          have hdl : (abs1 f q xs[i]).length = 4 := pst_len f c6.len 8
          have hdn : ∀ x ∈ abs1 f q xs[i], (0 : Int) ≤ x := pst_nn c6.nn 8
          have hgo2 : absGo f (xs.drop (i + 1)) (abs1 f q xs[i]) = absGo f xs (it (abs0 f) 4 l) := by
            rw [← hgo, drop_cons hlt, absGo]
          generalize abs1 f q xs[i] = q7 at hdl hdn hgo2 ⊢
          refine c6.put hw.ent hro hdl hdn fun s7 c7 r7 => ?_
          rw [wrap_i64 (by omega) (by omega)]
          refine ⟨i + 1, by omega, by omega, ?_, ?_, ?_, ?_, trivial, (r7 R hRC).trans ((r6 R hRC).trans ((r4 R hRC).trans hR)), q7, c7, hgo2⟩
          · simp only [U, tset_eq, wW, reduceCtorEq, Nat.reduceEqDiff, t1]
          · simp only [U, tset_eq, wW, reduceCtorEq, Nat.reduceEqDiff, t2]
          · simp only [U, tset_eq, wW, reduceCtorEq, Nat.reduceEqDiff, t4]
          · simp only [U, tset_eq, wW, reduceCtorEq, Nat.reduceEqDiff]; rfl
        · obtain rfl : i = xs.length := by omega
          rw [List.drop_of_length_le (Nat.le_refl _), absGo] at hgo
          subst hgo
          have hql := cq.len
          generalize absGo f xs (it (abs0 f) 4 l) = q at cq hql ⊢
          have hcut5 : cut (chan f q) 0 5 = some (chan f q) := cut_all (chan_len hql)
          simp (maxSteps := 10000000) only [wW, reduceCtorEq, Nat.reduceEqDiff, t1, t6, Sl.wlen hu se_23]
          rw [if_neg (by omega)]
          simp (maxSteps := 10000000) only [U, tset_eq, wW, reduceCtorEq, Nat.reduceEqDiff, wL, Nat.reduceAdd, loadN ap_65, t2, t4, acells_some cq.here, hcut5]
          have hR4 : s'.at R = _ := hR.trans m2.here
          refine storeAll_rule isz_65 hR4 (chan_len hql) (by decide) cq.wf (by omega) rfl (chan_one _ _) fun s5 p5 => ?_
          rw [acells_some p5.here, wopt_some, hcut5, wopt_some]
          exact fin_flat (chan_flat1 hql) (p5.grew _ hw.ent cq.grew (by omega)) ⟨rfl, rfl⟩
      · simp only [U, tset_eq, wW, reduceCtorEq, Nat.reduceEqDiff, t1]
      · simp only [U, tset_eq, wW, reduceCtorEq, Nat.reduceEqDiff, t2]
      · simp only [U, tset_eq, wW, reduceCtorEq, Nat.reduceEqDiff, t4]
      · simp only [U, tset_eq, wW, reduceCtorEq, Nat.reduceEqDiff]; rfl
  · simp only [U, tset_eq, wW, reduceCtorEq, Nat.reduceEqDiff]
  · simp only [U, tset_eq, wW, reduceCtorEq, Nat.reduceEqDiff]
  · simp only [U, tset_eq, wW, reduceCtorEq, Nat.reduceEqDiff]
  · simp only [U, tset_eq, wW, reduceCtorEq, Nat.reduceEqDiff]; rfl

end
end Go.VE
/- A range over a function: slices.Chunk of a list, by two. -/
namespace Go.VE
open Go Go.Proofs
set_option maxRecDepth 20000
section
variable {ro : Nat} {s : St} {K : Value → St → Prop}
theorem sub3 {v : Value} {l : List Int} (h : Ints s v l) {a b : Int} (h0 : 0 ≤ a) (hab : a < b) (hb : b ≤ l.length) : ∃ w, Ints s w ((l.drop a.toNat).take (b.toNat - a.toNat)) ∧ (∀ B oA n, OffS B oA n v → OffS B oA n w) ∧ veq w w = true ∧
    ∀ (ty : TypeId) (s' : St) (K : Value → St → Prop), wop P ro (.slice 30 (.const v) (some (.const (.int .i64 a))) (some (.const (.int .i64 b))) (some (.const (.int .i64 b)))) ty s' K = K w s' := by
  have hs : isz P 3 = some 1 := isz_3
  have hund : P.underlying 30 = some (.slice 3) := un_30
  obtain ⟨x, c, rfl, hl, ⟨hc, hnone, hsp⟩, hbk⟩ := h
  obtain ⟨A, o, m, cells, t, op, rfl, hm, hA, hcs⟩ := hbk (by omega)
  have hm2 := hsp _ rfl
  simp only at hm2
  have htl : ((l.drop a.toNat).take (b.toNat - a.toNat)).length = b.toNat - a.toNat := by rw [List.length_take, List.length_drop]; omega
  have hmx : abound (some (.int .i64 b)) 0 c = some b.toNat := by
    simp only [abound]
    rw [if_pos ⟨by omega, by omega⟩]
  have hhi : abound (some (.int .i64 b)) 0 b.toNat = some b.toNat := by
    simp only [abound]
    rw [if_pos ⟨by omega, by omega⟩]
  have hlo : abound (some (.int .i64 a)) 0 b.toNat = some a.toNat := by
    simp only [abound]
    rw [if_pos ⟨by omega, by omega⟩]
  have hne : ¬ b.toNat = a.toNat := by omega
  refine ⟨.slice (some ⟨A, o + a.toNat * 1, none⟩) (b.toNat - a.toNat) (b.toNat - a.toNat), ⟨_, _, by rw [htl], by simp, ⟨by rw [htl]; omega, fun h => (by cases h), fun x hx => (by cases hx; exact .inl rfl)⟩, fun _ => ⟨A, _, none, cells, t, op, rfl, rfl, hA, ?_⟩⟩, fun B oA n hf A' o' sp' n' c' e => ?_, by simp [veq], fun ty s' K => ?_⟩
  · rw [htl, List.map_take, List.map_drop, ← hcs, List.drop_take, List.drop_drop, List.take_take]
    congr 1
    · rw [Nat.mul_one, Nat.mul_one]
      omega
    · rw [Nat.mul_one]
  · cases e; exact hf A o m _ _ rfl
  · rw [wop_slice]
    rcases hm2 with rfl | ⟨rfl, hpos⟩ <;> simp only [asliceOp, hund, hs, sliceThree, Option.map_some, Option.map_none, aval, hmx, hhi, hlo, Option.bind_some, hne, if_false, wopt_some]

theorem min_i64 (a b : Int) (ty : TypeId) (s : St) (K : Value → St → Prop) : wop P ro (.call ⟨.builtin .min, ⟨[.const (.int .i64 a), .const (.int .i64 b)]⟩, #[3, 3]⟩) ty s K = K (.int .i64 (if b < a then b else a)) s := by kernel_rfl

/-- slices.Chunk's loop: a round for each two elements. -/
theorem wChunk1 {L C N : Nat} {u : Value} {l : List Int} (r0 : Lp) (Inv : Nat → St → Prop) (hlen : r0.params.length = 1)
    (hloop : ∀ i s, Inv i s → s.at L = some (.loop r0)) (hC : ∀ i s, Inv i s → ∃ T o, s.at C = some (.cells [u] T o)) (hN : ∀ i s, Inv i s → ∃ T o, s.at N = some (.cells [.int .i64 2] T o)) (hI : ∀ i s, Inv i s → Ints s u l) (hl : l.length < 2 ^ 60)
    (hLs : L < s.n)
    (hround : ∀ i s' w, 2 * i < l.length → Inv i s' → Ints s' w ((l.drop (2 * i)).take 2) → (∀ B oA n, OffS B oA n u → OffS B oA n w) → RoundWP P ro L (setAll r0.t r0.params [w]) r0.assign r0.body s' fun v s2 => v = .bool true ∧ s2.lo ≤ L ∧ Inv (i + 1) s2)
    (h0e : Inv 0 (ent s)) (hk0 : l.length = 0 → K (.tuple (.mk [])) s) (hk : ∀ s', Inv ((l.length + 1) / 2) s' → K (.tuple (.mk [])) { s' with lo := min s.lo s'.lo }) :
    CallWP P ro 91 [.func (.yield L) (.mk []) (.mk []), ptr C, ptr N] s K := by
  refine call_wp b91 rfl ?_
  rw [n91]
  unfold v91
  simp (maxSteps := 10000000) only [wW, reduceCtorEq, Nat.reduceEqDiff]
  refine wloop l91_100 m91_100 (fun (i : Nat) τ ds s' => 2 * i ≤ l.length + 1 ∧ τ 0 = .func (.yield L) (.mk []) (.mk []) ∧ τ 1 = ptr C ∧ τ 2 = ptr N ∧ τ 4 = .int .i64 ((2 * i : Nat) : Int) ∧ ds = [] ∧ Inv i s' ∧ (i = 0 → s' = ent s) ∧ (0 < i → s'.lo ≤ L)) (fun i => l.length + 1 - 2 * i) ?_ 0 ⟨by omega, ?_, ?_, ?_, ?_, rfl, h0e, fun _ => rfl, fun h => absurd h (by omega)⟩
  · rintro i τ ds s' ⟨hi, t0, t1, t2, t4, rfl, hInv, hz, hp⟩
    rw [n91_100]
    unfold v91_100
    obtain ⟨T1, o1, hc⟩ := hC i s' hInv
    obtain ⟨T2, o2, hn⟩ := hN i s' hInv
    have hIs := hI i s' hInv
    by_cases hlt : 2 * i < l.length
    · obtain ⟨w1, i1, _, _, q1⟩ := subLo (ro := ro) hIs (k := ((2 * i : Nat) : Int)) (by omega) (by omega)
      have hmin : (if ((l.drop (2 * i)).length : Int) < 2 then ((l.drop (2 * i)).length : Int) else 2) = ((min 2 (l.length - 2 * i) : Nat) : Int) := by
        rw [List.length_drop]
        split <;> omega
      rw [Int.toNat_natCast] at i1
      obtain ⟨w3, i3, f3, _, q3⟩ := sub3 (ro := ro) hIs (a := ((2 * i : Nat) : Int)) (b := ((2 * i : Nat) : Int) + ((min 2 (l.length - 2 * i) : Nat) : Int)) (by omega) (by omega) (by omega)
      have hadd : IntKind.i64.wrap (((2 * i : Nat) : Int) + ((min 2 (l.length - 2 * i) : Nat) : Int)) = ((2 * i : Nat) : Int) + ((min 2 (l.length - 2 * i) : Nat) : Int) := wrap_i64 (by omega) (by omega)
      simp (maxSteps := 10000000) only [wW, reduceCtorEq, Nat.reduceEqDiff, wL, Nat.reduceAdd, load1 ap_30, t0, t1, t2, t4, acells_some hc, acells_some hn, List.getElem?_cons_zero, hIs.wlen se_30, q1, i1.wlen se_30, min_i64, hmin, hadd, q3]
      rw [if_pos (by omega)]
      have hch : (l.drop ((2 * i : Nat) : Int).toNat).take ((((2 * i : Nat) : Int) + ((min 2 (l.length - 2 * i) : Nat) : Int)).toNat - ((2 * i : Nat) : Int).toNat) = (l.drop (2 * i)).take 2 := by
        rw [Int.toNat_natCast, show (((2 * i : Nat) : Int) + ((min 2 (l.length - 2 * i) : Nat) : Int)).toNat - 2 * i = min 2 (l.length - 2 * i) by omega]
        rcases Nat.lt_or_ge (l.length - 2 * i) 2 with h | h
        · rw [Nat.min_eq_right (by omega), List.take_of_length_le (by rw [List.length_drop]; exact Nat.le_refl _), List.take_of_length_le (by rw [List.length_drop]; omega)]
        · rw [Nat.min_eq_left h]
      rw [hch] at i3
      refine wYield (hloop i s' hInv) hlen ?_
      obtain ⟨n, v, s2, e, rfl, h2, h3⟩ := hround i s' w3 hlt hInv i3 f3
      refine ⟨n, _, s2, e, ?_⟩
      obtain ⟨T3, o3, hn2⟩ := hN (i + 1) s2 h3
      simp (maxSteps := 10000000) only [wW, reduceCtorEq, Nat.reduceEqDiff, wL, Nat.reduceAdd, acells_some hn2, List.getElem?_cons_zero]
      rw [wrap_i64 (by omega) (by omega)]
      refine ⟨i + 1, by omega, by omega, ?_, ?_, ?_, ?_, trivial, h3, fun h => absurd h (by omega), fun _ => h2⟩
      · simp only [U, tset_eq, wW, reduceCtorEq, Nat.reduceEqDiff, t0]
      · simp only [U, tset_eq, wW, reduceCtorEq, Nat.reduceEqDiff, t1]
      · simp only [U, tset_eq, wW, reduceCtorEq, Nat.reduceEqDiff, t2]
      · simp only [U, tset_eq, wW, reduceCtorEq, Nat.reduceEqDiff]
        congr 1
    · have hie : i = (l.length + 1) / 2 := by omega
      simp (maxSteps := 10000000) only [wW, reduceCtorEq, Nat.reduceEqDiff, wL, Nat.reduceAdd, load1 ap_30, t1, t4, acells_some hc, List.getElem?_cons_zero, hIs.wlen se_30]
      rw [if_neg (by omega)]
      by_cases hz0 : l.length = 0
      · rw [hz (by omega), wfin_flat (Nat.le_refl _) rfl]
        exact hk0 hz0
      · have hlo2 := hp (by omega)
        rw [wfin_old (by omega)]
        rw [hie] at hInv
        exact hk _ hInv
  · simp only [U, tset_eq, wW, reduceCtorEq, Nat.reduceEqDiff]
  · simp only [U, tset_eq, wW, reduceCtorEq, Nat.reduceEqDiff]
  · simp only [U, tset_eq, wW, reduceCtorEq, Nat.reduceEqDiff]
  · simp only [U, tset_eq, wW, reduceCtorEq, Nat.reduceEqDiff]; rfl

/-- slices.Chunk hands back its loop over a copy of the slice. -/
theorem wChunk {u : Value} (hw : Wf s) (h1 : u.cells.toList = [u]) (hk : ∀ C N s', Grew s s' → s.n ≤ C → s.n ≤ N → C ≠ N → s'.at C = some (.cells [u] 30 false) → s'.at N = some (.cells [.int .i64 2] 3 false) → K (.func (.func 91) (.mk []) (.mk [ptr C, ptr N])) s') :
    CallWP P ro 65 [u, .int .i64 2] s K := by
  refine call_wp b65 rfl ?_
  rw [n65]
  unfold v65
  simp (maxSteps := 10000000) only [wW, reduceCtorEq, Nat.reduceEqDiff]
  refine box_rule hw.ent fun C s1 m1 => ?_
  refine box_rule m1.wf fun N s2 m2 => ?_
  have e1 := m1.eq
  have e2 := m2.eq
  have n1 := m1.n
  have hn0 : (ent s).n = s.n := rfl
  refine load_rule (load_one ap_3 m2.here rfl) ?_
  simp (maxSteps := 10000000) only [wW, reduceCtorEq, Nat.reduceEqDiff]
  rw [if_neg (by decide)]
  refine wfin_new hw (m1.grew.trans m2.grew) rfl fun s' hg hn hat => hk C N s' hg (by omega) (by omega) (by omega) ?_ ?_
  · rw [hat C, m2.grew.same C (by omega), m1.here, h1]
  · rw [hat N, m2.here]; rfl

end
end Go.VE
/- A builder that lives: Hash. -/
namespace Go.VE
open Go Go.Proofs
set_option maxRecDepth 20000
noncomputable def hStep : List Int → Bd × W4 → Bd × W4
  | [x], c => mPerm (mLinear c.1 c.2.a x 1 1 0).1 { c.2 with a := (mLinear c.1 c.2.a x 1 1 0).2 }
  | [x, y], c => mPerm (mLinear (mLinear c.1 c.2.a x 1 1 0).1 c.2.b y 1 1 0).1 { c.2 with a := (mLinear c.1 c.2.a x 1 1 0).2, b := (mLinear (mLinear c.1 c.2.a x 1 1 0).1 c.2.b y 1 1 0).2 }
  | _, c => c
noncomputable def hashI (l : List Int) (c : Bd × W4) : Nat → Bd × W4
  | 0 => c
  | i + 1 => hStep ((l.drop (2 * i)).take 2) (hashI l c i)

theorem hStep_le (ch : List Int) (c : Bd × W4) : c.1.Le (hStep ch c).1 := by
  unfold hStep
  split
  · exact (mLinear_le _ _ _ _ _ _).trans (mPerm_le _ _)
  · exact (mLinear_le _ _ _ _ _ _).trans ((mLinear_le _ _ _ _ _ _).trans (mPerm_le _ _))
  · exact .refl _
theorem hashI_le (l : List Int) (c : Bd × W4) : ∀ i, c.1.Le (hashI l c i).1
  | 0 => .refl _
  | i + 1 => (hashI_le l c i).trans (hStep_le _ _)

theorem len2 {l : List Int} (h : l.length = 2) : ∃ a b, l = [a, b] := by
  match l, h with
  | [a, b], _ => exact ⟨a, b, rfl⟩

theorem build4w (a b c d : Int) : abuild P 53 (partVals .e [(0, .const (.int .i64 a)), (1, .const (.int .i64 b)), (2, .const (.int .i64 c)), (3, .const (.int .i64 d))]) = some (.agg (.mk [.int .i64 a, .int .i64 b, .int .i64 c, .int .i64 d])) := by kernel_rfl

section
variable {ro : Nat} {s : St} {B : Nat} {oA : Option Nat} {d : Bd} {K : Value → St → Prop}
/-- What a range over Chunk keeps in Hash. -/
structure HashI (ro : Nat) (s0 : St) (B : Nat) (s1 : St) (oA1 : Option Nat) (u : Value) (l : List Int) (X R S C N D L A1 A2 A3 n0 : Nat) (oR : AO) (r0 : Lp) (r nv : Int) (c0 : Bd × W4) (i : Nat) (s : St) (oA : Option Nat) : Prop where
  run : RunL ro s0 B s1 oA1 s oA (hashI l c0 i).1
  x : Lc s B oA X (.cells [ptr B] 25 false)
  rr : Lc s B oA R oR
  w : Lc s B oA S (.cells (hashI l c0 i).2.cells 53 false)
  c : Lc s B oA C (.cells [u] 30 false)
  nn : Lc s B oA N (.cells [.int .i64 2] 3 false)
  dd : Lc s B oA D (.defd (some []))
  lr : Lc s B oA L (.loop r0)
  ints : Ints s u l
  off : OffS B oA s0.n u
  who : WholeAt n0 s B oA A1 A2 A3 r nv

/-- A round of Hash's loop. -/
theorem hashRound {s0 s1 : St} {oA1 : Option Nat} {u : Value} {l : List Int} {X R S C N D L A1 A2 A3 n0 : Nat} {oR : AO} {lp : Lp} {r nv : Int} {c0 : Bd × W4} {i : Nat} {t : Tr} {τ0 : Tau} (ht : Agr 71 t τ0) (h2 : τ0 2 = ptr X) (h6 : τ0 6 = ptr S)
    (hlp : lp.state = .ready ∧ lp.pending = none ∧ lp.t = t ∧ lp.params = [42] ∧ lp.assign = c24_1111110100 ∧ lp.body = c24_1111110101)
    (hne : X ≠ S ∧ X ≠ L ∧ R ≠ S ∧ R ≠ L ∧ C ≠ S ∧ C ≠ L ∧ N ≠ S ∧ N ≠ L ∧ D ≠ S ∧ D ≠ L ∧ S ≠ L) (hA : (A1 ≠ S ∧ A1 ≠ L) ∧ (A2 ≠ S ∧ A2 ≠ L) ∧ (A3 ≠ S ∧ A3 ≠ L)) (hS : s0.n ≤ S) (hL : s0.n ≤ L) (hi : 2 * i < l.length)
    (hI : HashI ro s0 B s1 oA1 u l X R S C N D L A1 A2 A3 n0 oR lp r nv c0 i s oA) {w : Value} (hw : Ints s w ((l.drop (2 * i)).take 2)) (hwo : ∀ B oA n, OffS B oA n u → OffS B oA n w) :
    RoundWP P ro L (setAll lp.t lp.params [w]) lp.assign lp.body s fun v s2 => v = .bool true ∧ s2.lo ≤ L ∧ ∃ oA', HashI ro s0 B s1 oA1 u l X R S C N D L A1 A2 A3 n0 oR lp r nv c0 (i + 1) s2 oA' := by
  rw [hlp.2.2.1, hlp.2.2.2.1, hlp.2.2.2.2.1, hlp.2.2.2.2.2]
  have hro := hI.run.ro
  refine round_wp (N := 71) (Agr.set ht 42 _ (by decide)) l24_1111110100 l24_1111110101 (by omega) ?_
  rw [n24_1111110100]
  unfold v24_1111110100
  refine ⟨lp, hI.lr.here, hlp.1, ?_⟩
  have pb := Put.mk' hI.run.liv.wf hI.lr.lt (.loop { lp with state := .busy })
  generalize s.put L (.loop { lp with state := .busy }) = sb at pb ⊢
  have rb := hI.run.put pb hL hI.lr.own
  have xb := hI.x.put pb hne.2.1
  have rrb := hI.rr.put pb hne.2.2.2.1
  have wb := hI.w.put pb hne.2.2.2.2.2.2.2.2.2.2
  have cb := hI.c.put pb hne.2.2.2.2.2.1
  have nb := hI.nn.put pb hne.2.2.2.2.2.2.2.1
  have db := hI.dd.put pb hne.2.2.2.2.2.2.2.2.2.1
  have ib : Ints sb u l := hI.off.slPut hL pb hI.ints
  have wob := hwo _ _ _ hI.off
  have iwb : Ints sb w ((l.drop (2 * i)).take 2) := wob.slPut hL pb hw
  have whb := hI.who.putN pb hA.1.2 hA.2.1.2 hA.2.2.2
  have lb : Lc sb B oA L (.loop { lp with state := .busy }) := ⟨pb.here, hI.lr.ne, hI.lr.own⟩
  rw [n24_1111110101]
  unfold v24_1111110101
  have hs0 := rb.n0
  have hsn := rb.n
  have hcl : ((l.drop (2 * i)).take 2).length = 1 ∨ ((l.drop (2 * i)).take 2).length = 2 := by rw [List.length_take, List.length_drop]; omega
  have hc0 : ∀ {x : Int}, ((l.drop (2 * i)).take 2)[0]? = some x → at0 ((l.drop (2 * i)).take 2) 0 = x := fun {x} h => by unfold at0; rw [show (0 : Int).toNat = 0 from rfl, h]; rfl
  obtain ⟨Aw, ow, cw, z1, z2, z3⟩ := iwb.at1 (i := 0) (x := at0 ((l.drop (2 * i)).take 2) 0) (by decide) (at0_get (by decide) (by omega))
  have hg0 : (hashI l c0 i).2.cells[0]? = some (.int .i64 (hashI l c0 i).2.a) := rfl
  simp (maxSteps := 10000000) only [U, tset_eq, wW, reduceCtorEq, Nat.reduceEqDiff, wL, Nat.reduceAdd, load1 ap_25, h2, h6, acells_some xb.here, acells_some wb.here, List.getElem?_cons_zero, hg0, z1, z2, z3]
  refine ⟨by simp [veq], by simp [veq], by simp [veq], ?_⟩
  refine lLinear rb.liv _ _ _ _ _ fun s3 oA3 l3 m3 => ?_
  have r3 := rb.call l3 m3
  have w3 := wb.mut m3
  have hcw : (hashI l c0 i).2.cells.length = 4 := rfl
  refine store1_rule isz_3 w3.here r3.liv.wf (by omega) (by rw [hcw]; decide) rfl fun s4 p4 => ?_
  have r4 := r3.put p4 hS w3.own
  have x4 := (xb.mut m3).put p4 hne.1
  have iw4 : Ints s4 w ((l.drop (2 * i)).take 2) := (wob.mut (by omega) m3).slPut hS p4 (wob.sl (by omega) m3 iwb)
  have hsp4 : splice (hashI l c0 i).2.cells 0 [.int .i64 (mLinear (hashI l c0 i).1 (hashI l c0 i).2.a (at0 ((l.drop (2 * i)).take 2) 0) 1 1 0).2] = ({ (hashI l c0 i).2 with a := (mLinear (hashI l c0 i).1 (hashI l c0 i).2.a (at0 ((l.drop (2 * i)).take 2) 0) 1 1 0).2 } : W4).cells := rfl
  have w4 : Lc s4 B oA3 S (.cells ({ (hashI l c0 i).2 with a := (mLinear (hashI l c0 i).1 (hashI l c0 i).2.a (at0 ((l.drop (2 * i)).take 2) 0) 1 1 0).2 } : W4).cells 53 false) := ⟨by rw [p4.here, hsp4], w3.ne, w3.own⟩
  -- the end of a round
  have fin : ∀ {sa : St} {oa : Option Nat} {da : Bd} {wa : W4}, RunL ro s0 B s1 oA1 sa oa da → Lc sa B oa X (.cells [ptr B] 25 false) → Lc sa B oa R oR → Lc sa B oa S (.cells wa.cells 53 false) → Lc sa B oa C (.cells [u] 30 false) → Lc sa B oa N (.cells [.int .i64 2] 3 false) → Lc sa B oa D (.defd (some [])) → Lc sa B oa L (.loop { lp with state := .busy }) → Ints sa u l → OffS B oa s0.n u → WholeAt n0 sa B oa A1 A2 A3 r nv → mPerm da wa = hashI l c0 (i + 1) →
      ∀ {Y : Value → St → Prop}, (∀ sz, (∃ r', sz.at L = some (.loop r') ∧ (fun v s2 => v = Value.bool true ∧ s2.lo ≤ L ∧ ∃ oA', HashI ro s0 B s1 oA1 u l X R S C N D L A1 A2 A3 n0 oR lp r nv c0 (i + 1) s2 oA') (.bool (jumpOf .normal).isNone) (sz.put L (.loop { r' with state := if (jumpOf .normal).isNone = true then .ready else .done, pending := jumpOf .normal }))) → ∀ v, Y v sz) →
      CallWP P ro 20 [ptr B, .agg (.mk wa.cells)] sa fun v2 s8 => wop P ro (.store 53 (.const (ptr S)) (.const v2)) 0 s8 fun _ s9 => Y v2 s9 := fun {sa oa da wa} ra xa rra wla ca na dda la ia offa wha hp {Y} hY => by
    refine lPerm ra.liv wa fun s5 o5 l5 m5 => ?_
    have r5 := ra.call l5 m5
    have w5 := wla.mut m5
    rw [hp] at l5 r5 ⊢
    refine storeAll_rule isz_53 w5.here (l := (hashI l c0 (i + 1)).2.cells) rfl (by decide) r5.liv.wf (by omega) rfl rfl fun s6 p6 => ?_
    have r6 := r5.put p6 hS w5.own
    have l6 := (la.mut m5).put p6 (Ne.symm hne.2.2.2.2.2.2.2.2.2.2)
    refine hY s6 ⟨_, l6.here, ?_⟩ _
    have pf := Put.mk' r6.liv.wf l6.lt (.loop { lp with state := if (jumpOf .normal).isNone = true then .ready else .done, pending := jumpOf .normal })
    show _ ∧ (s6.put L (.loop { lp with state := if (jumpOf .normal).isNone = true then .ready else .done, pending := jumpOf .normal })).lo ≤ L ∧ _
    refine ⟨rfl, Nat.min_le_right _ _, o5, ?_⟩
    have elp : ({ lp with state := if (jumpOf .normal).isNone = true then .ready else .done, pending := jumpOf .normal } : Lp) = lp := by
      obtain ⟨a, b, _⟩ := hlp
      cases lp
      simp only at a b
      subst a b
      rfl
    show HashI ro s0 B s1 oA1 u l X R S C N D L A1 A2 A3 n0 oR lp r nv c0 (i + 1) (s6.put L (.loop { lp with state := if (jumpOf .normal).isNone = true then .ready else .done, pending := jumpOf .normal })) o5
    rw [elp] at pf ⊢
    generalize s6.put L (.loop lp) = sf at pf ⊢
    have ran := ra.n
    have off5 := offa.mut (n := s0.n) (by omega) m5
    exact ⟨r6.put pf hL l6.own, ((xa.mut m5).put p6 hne.1).put pf hne.2.1, ((rra.mut m5).put p6 hne.2.2.1).put pf hne.2.2.2.1, (⟨p6.here, w5.ne, w5.own⟩ : Lc s6 B o5 S _).put pf hne.2.2.2.2.2.2.2.2.2.2, ((ca.mut m5).put p6 hne.2.2.2.2.1).put pf hne.2.2.2.2.2.1, ((na.mut m5).put p6 hne.2.2.2.2.2.2.1).put pf hne.2.2.2.2.2.2.2.1, ((dda.mut m5).put p6 hne.2.2.2.2.2.2.2.2.1).put pf hne.2.2.2.2.2.2.2.2.2.1, ⟨pf.here, l6.ne, l6.own⟩, off5.slPut hL pf (off5.slPut hS p6 (offa.sl (by omega) m5 ia)), off5, ((wha.mut m5).putN p6 hA.1.1 hA.2.1.1 hA.2.2.1).putN pf hA.1.2 hA.2.1.2 hA.2.2.2⟩
  have c4 := (cb.mut m3).put p4 hne.2.2.2.2.1
  have n4 := (nb.mut m3).put p4 hne.2.2.2.2.2.2.1
  have d4 := (db.mut m3).put p4 hne.2.2.2.2.2.2.2.2.1
  have l4 := (lb.mut m3).put p4 (Ne.symm hne.2.2.2.2.2.2.2.2.2.2)
  have rr4 := (rrb.mut m3).put p4 hne.2.2.1
  have off3 := hI.off.mut (n := s0.n) (by omega) m3
  have i4 : Ints s4 u l := off3.slPut hS p4 (hI.off.sl (by omega) m3 ib)
  have wh4 := (whb.mut m3).putN p4 hA.1.1 hA.2.1.1 hA.2.2.1
  have hnext : hashI l c0 (i + 1) = hStep ((l.drop (2 * i)).take 2) (hashI l c0 i) := rfl
  simp (maxSteps := 10000000) only [wW, reduceCtorEq, Nat.reduceEqDiff, iw4.wlen se_30]
  rcases hcl with h1 | h1
  · rw [if_neg (by omega)]
    have hch : (l.drop (2 * i)).take 2 = [at0 ((l.drop (2 * i)).take 2) 0] := by
      obtain ⟨x, hx⟩ := List.length_eq_one_iff.1 h1
      rw [hx]; rfl
    rw [acells_some x4.here, wopt_some, List.getElem?_cons_zero, wopt_some]
    rw [load_all ap_53 w4.here rfl, wopt_some]
    refine fin r4 x4 rr4 w4 c4 n4 d4 l4 i4 off3 wh4 ?_ fun sz hz v => hz
    rw [hnext, hch]
    rfl
  · rw [if_pos (by omega)]
    have hch : (l.drop (2 * i)).take 2 = [at0 ((l.drop (2 * i)).take 2) 0, at0 ((l.drop (2 * i)).take 2) 1] := by
      obtain ⟨x, y, hx⟩ := len2 h1
      rw [hx]; rfl
    obtain ⟨Ay, oy, cy, y1, y2, y3⟩ := iw4.at1 (i := 1) (x := at0 ((l.drop (2 * i)).take 2) 1) (by decide) (at0_get (by decide) (by omega))
    have hg1 : (({ (hashI l c0 i).2 with a := (mLinear (hashI l c0 i).1 (hashI l c0 i).2.a (at0 ((l.drop (2 * i)).take 2) 0) 1 1 0).2 } : W4).cells)[1]? = some (.int .i64 (hashI l c0 i).2.b) := rfl
    simp (maxSteps := 10000000) only [wW, reduceCtorEq, Nat.reduceEqDiff, wL, Nat.reduceAdd, load1 ap_25, acells_some x4.here, acells_some w4.here, List.getElem?_cons_zero, hg1, y1, y2, y3]
    refine ⟨by simp [veq], by simp [veq], by simp [veq], ?_⟩
    have hro4 := r4.n
    refine lLinear r4.liv _ _ _ _ _ fun s5 oA5 l5 m5 => ?_
    have r5 := r4.call l5 m5
    have w5 := w4.mut m5
    refine store1_rule isz_3 w5.here r5.liv.wf (by omega) (by show 1 < 4; decide) rfl fun s6 p6 => ?_
    have r6 := r5.put p6 hS w5.own
    have x6 := (x4.mut m5).put p6 hne.1
    have hsp6 : splice ({ (hashI l c0 i).2 with a := (mLinear (hashI l c0 i).1 (hashI l c0 i).2.a (at0 ((l.drop (2 * i)).take 2) 0) 1 1 0).2 } : W4).cells 1 [.int .i64 (mLinear (mLinear (hashI l c0 i).1 (hashI l c0 i).2.a (at0 ((l.drop (2 * i)).take 2) 0) 1 1 0).1 (hashI l c0 i).2.b (at0 ((l.drop (2 * i)).take 2) 1) 1 1 0).2] = ({ (hashI l c0 i).2 with a := (mLinear (hashI l c0 i).1 (hashI l c0 i).2.a (at0 ((l.drop (2 * i)).take 2) 0) 1 1 0).2, b := (mLinear (mLinear (hashI l c0 i).1 (hashI l c0 i).2.a (at0 ((l.drop (2 * i)).take 2) 0) 1 1 0).1 (hashI l c0 i).2.b (at0 ((l.drop (2 * i)).take 2) 1) 1 1 0).2 } : W4).cells := rfl
    have w6 : Lc s6 B oA5 S (.cells ({ (hashI l c0 i).2 with a := (mLinear (hashI l c0 i).1 (hashI l c0 i).2.a (at0 ((l.drop (2 * i)).take 2) 0) 1 1 0).2, b := (mLinear (mLinear (hashI l c0 i).1 (hashI l c0 i).2.a (at0 ((l.drop (2 * i)).take 2) 0) 1 1 0).1 (hashI l c0 i).2.b (at0 ((l.drop (2 * i)).take 2) 1) 1 1 0).2 } : W4).cells 53 false) := ⟨by rw [p6.here, hsp6], w5.ne, w5.own⟩
    have off5 := off3.mut (n := s0.n) (by omega) m5
    rw [acells_some x6.here, wopt_some, List.getElem?_cons_zero, wopt_some]
    rw [load_all ap_53 w6.here rfl, wopt_some]
    refine fin r6 x6 ((rr4.mut m5).put p6 hne.2.2.1) w6 ((c4.mut m5).put p6 hne.2.2.2.2.1) ((n4.mut m5).put p6 hne.2.2.2.2.2.2.1) ((d4.mut m5).put p6 hne.2.2.2.2.2.2.2.2.1) ((l4.mut m5).put p6 (Ne.symm hne.2.2.2.2.2.2.2.2.2.2)) (off5.slPut hS p6 (off3.sl (by omega) m5 i4)) off5 ((wh4.mut m5).putN p6 hA.1.1 hA.2.1.1 hA.2.2.1) ?_ fun sz hz v => hz
    rw [hnext, hch]
    rfl

end
end Go.VE
/- A builder that lives: Hash. -/
namespace Go.VE
open Go Go.Proofs
set_option maxRecDepth 20000
noncomputable def hashC (d : Bd) (l : List Int) : Bd × W4 :=
  let z := mConst d 0
  let n := mConst z.1 (fAdd z.1.f l.length 0)
  if l.length = 0 then mPerm n.1 ⟨z.2, z.2, n.2, z.2⟩ else (n.1, ⟨z.2, z.2, n.2, z.2⟩)
noncomputable def hashE (d : Bd) (l : List Int) : Bd × W4 := hashI l (hashC d l) ((l.length + 1) / 2)
noncomputable def mHash (d : Bd) (l : List Int) : Bd × Int × Int :=
  if (mready d (kn d l && nums d [])).2 = true then (mUndo (hashE d l).1 d.rows.length d.nv, mPair (hashE d l).1 (hashE d l).2.a (hashE d l).2.b)
  else ((mready d (kn d l && nums d [])).1, (-1, -1))

theorem hashC_le (d : Bd) (l : List Int) : d.Le (hashC d l).1 := by
  unfold hashC
  simp only
  split
  · exact (mConst_le _ _).trans ((mConst_le _ _).trans (mPerm_le _ _))
  · exact (mConst_le _ _).trans (mConst_le _ _)
theorem hashE_le (d : Bd) (l : List Int) : d.Le (hashE d l).1 := (hashC_le d l).trans (hashI_le _ _ _)

def p2c (p : Int × Int) : List Value := [.int .i64 p.1, .int .i64 p.2]
section
variable {ro : Nat} {s : St} {B : Nat} {oA : Option Nat} {d : Bd} {K : Value → St → Prop}
theorem hashOut {s0 : St} {oA0 : Option Nat} {c : Bd × W4} {X R S A1 A2 A3 n0 D : Nat} {r nv : Int} {oc : List Value} (run : Run1 ro s0 B oA0 s oA c.1) (hx : Lc s B oA X (.cells [ptr B] 25 false)) (hr : Lc s B oA R (.cells oc 47 false)) (hoc : oc.length = 2) (hs : Lc s B oA S (.cells c.2.cells 53 false)) (who : WholeAt n0 s B oA A1 A2 A3 r nv) (hd : Lc s B oA D (.defd (some [])))
    (hR : s0.n ≤ R) (hDR : D ≠ R) (hAR : A1 ≠ R ∧ A2 ≠ R ∧ A3 ≠ R) {τ1 : Tau} (t2 : τ1 2 = ptr X) (t4 : τ1 4 = ptr R) (t6 : τ1 6 = ptr S) {ds1 : List Deferred} {Q : Ex → XK}
    (hk : ∀ al s' oA', Run1 ro s0 B oA0 s' oA' c.1 → Lc s' B oA' R (.cells (p2c (mPair c.1 c.2.a c.2.b)) 47 false) → WholeAt n0 s' B oA' A1 A2 A3 r nv → Lc s' B oA' D (.defd (some [])) → U τ1 al 4 = ptr R → Q .ret τ1 al ds1 s') :
    wop P ro (.load 25 (.const (τ1 2))) 25 s fun v65_2 s2 =>
     wop P ro (.indexAddr 53 (.const (τ1 6)) (.const (.int .i64 0))) 0 s2 fun v66_3 s3 =>
     wop P ro (.load 3 (.const v66_3)) 3 s3 fun v67_4 s4 =>
     wop P ro (.indexAddr 53 (.const (τ1 6)) (.const (.int .i64 1))) 0 s4 fun v68_5 s5 =>
     wop P ro (.load 3 (.const v68_5)) 3 s5 fun v69_6 s6 =>
     CallWP P ro 57 [v65_2, v67_4, v69_6] s6 fun v70_7 s7 =>
     wop P ro (.store 47 (.const (τ1 4)) (.const v70_7)) 0 s7 fun _ s8 =>
     Q .ret τ1 [(70, v70_7), (69, v69_6), (68, v68_5), (67, v67_4), (66, v66_3), (65, v65_2)] ds1 s8 := by
  have g0 : c.2.cells[0]? = some (.int .i64 c.2.a) := rfl
  have g1 : c.2.cells[1]? = some (.int .i64 c.2.b) := rfl
  have hro := run.ro
  simp (maxSteps := 10000000) only [wW, reduceCtorEq, Nat.reduceEqDiff, wL, Nat.reduceAdd, load1 ap_25, t2, t4, t6, acells_some hx.here, acells_some hs.here, List.getElem?_cons_zero, g0, g1]
  rw [lPair run.liv]
  refine storeAll_rule isz_47 hr.here (l := p2c (mPair c.1 c.2.a c.2.b)) rfl (by decide) run.liv.wf (by omega) hoc rfl fun s8 p8 => ?_
  refine hk _ s8 oA (run.put p8 hR hr.own) ⟨p8.here, hr.ne, hr.own⟩ (who.putN p8 hAR.1 hAR.2.1 hAR.2.2) (hd.put p8 hDR) ?_
  simp only [U, tset_eq, wW, reduceCtorEq, Nat.reduceEqDiff, t4]

theorem hashTail {s0 : St} {oA0 : Option Nat} {c0 : Bd × W4} {u : Value} {l : List Int} {X R S A1 A2 A3 n0 : Nat} {r nv : Int} {oc : List Value} (run : Run1 ro s0 B oA0 s oA c0.1) (hx : Lc s B oA X (.cells [ptr B] 25 false)) (hr : Lc s B oA R (.cells oc 47 false)) (hoc : oc.length = 2) (hs : Lc s B oA S (.cells c0.2.cells 53 false)) (hu : Ints s u l) (hlen : l.length < 2 ^ 60) (hoff : OffS B oA s0.n u) (who : WholeAt n0 s B oA A1 A2 A3 r nv)
    (hne : X ≠ S ∧ R ≠ S ∧ X ≠ R) (hge : s0.n ≤ S ∧ s0.n ≤ R) (hA : A1 ≠ S ∧ A2 ≠ S ∧ A3 ≠ S) (hAR : A1 ≠ R ∧ A2 ≠ R ∧ A3 ≠ R) (hrn : s0.n ≤ s.n)
    {τ : Tau} (t1 : τ 1 = u) (t2 : τ 2 = ptr X) (t4 : τ 4 = ptr R) (t6 : τ 6 = ptr S) {ds : List Deferred} {Q : Ex → XK}
    (hk : ∀ τ' al s' oA' D, Run1 ro s0 B oA0 s' oA' (hashI l c0 ((l.length + 1) / 2)).1 → Lc s' B oA' R (.cells (p2c (mPair (hashI l c0 ((l.length + 1) / 2)).1 (hashI l c0 ((l.length + 1) / 2)).2.a (hashI l c0 ((l.length + 1) / 2)).2.b)) 47 false) → WholeAt n0 s' B oA' A1 A2 A3 r nv → Lc s' B oA' D (.defd (some [])) → D ≠ R → s0.n ≤ D → A1 ≠ D → A2 ≠ D → A3 ≠ D → U τ' al 4 = ptr R → Q .ret τ' al ({ target := .collected D, args := #[] } :: ds) s') :
    xp (prims P ro) none 71 k24 c24_111111 [1, 1, 1, 1, 1, 1] τ [] ds s Q := by
  rw [n24_111111]
  unfold v24_111111
  rw [t1]
  simp (maxSteps := 10000000) only [wW, reduceCtorEq, Nat.reduceEqDiff]
  have hcells : u.cells.toList = [u] := by
    obtain ⟨a, c, rfl, _⟩ := hu
    rfl
  refine wChunk run.liv.wf hcells fun C N s10 g10 hC10 hN10 hCN c10 n10 => ?_
  have r10 := run.grew g10
  have x10 := hx.grew g10
  have rr10 := hr.grew g10
  have w10 := hs.grew g10
  have wh10 := who.mut (.ofGrew g10)
  have hu10 : Ints s10 u l := Sl.grew hu g10.same
  have cC : Lc s10 B oA C (.cells [u] 30 false) := ⟨c10, (run.fresh hC10).1, (run.fresh hC10).2⟩
  have cN : Lc s10 B oA N (.cells [.int .i64 2] 3 false) := ⟨n10, (run.fresh hN10).1, (run.fresh hN10).2⟩
  have hro := run.ro
  refine wrange (by have := r10.mt.n; omega) fun t ht => ?_
  have hD := r10.fresh (A := s10.n) (Nat.le_refl _)
  have g11 : Grew s10 (s10.new (.defd (some []))) := .new _ _
  have r11 := r10.grew g11
  have hL := r11.fresh (A := s10.n + 1) (Nat.le_refl _)
  have g12 : Grew (s10.new (.defd (some []))) ((s10.new (.defd (some []))).new (.loop { state := .ready, pending := none, t := t, params := #[42].toList, assign := c24_1111110100, body := c24_1111110101, defers := s10.n })) := .new _ _
  generalize hr0 : ({ state := .ready, pending := none, t := t, params := #[42].toList, assign := c24_1111110100, body := c24_1111110101, defers := s10.n } : Lp) = lp at g12 ⊢
  have hD11 : Lc (s10.new (.defd (some []))) B oA s10.n (.defd (some [])) := ⟨at_newest _ _, hD.1, hD.2⟩
  have hL12 : Lc ((s10.new (.defd (some []))).new (.loop lp)) B oA (s10.n + 1) (.loop lp) := ⟨at_newest _ _, hL.1, hL.2⟩
  have g1012 := g11.trans g12
  have r12 := r10.grew g1012
  generalize hs12 : (s10.new (.defd (some []))).new (.loop lp) = s12 at *
  have n12 : s12.n = s10.n + 2 := by rw [← hs12]; rfl
  have hlp : lp.state = .ready ∧ lp.pending = none ∧ lp.t = t ∧ lp.params = [42] ∧ lp.assign = c24_1111110100 ∧ lp.body = c24_1111110101 := by rw [← hr0]; exact ⟨rfl, rfl, rfl, rfl, rfl, rfl⟩
  clear hr0
  have xn := x10.lt
  have wn := w10.lt
  have rn := rr10.lt
  have sn := hs.lt
  have rsn := hr.lt
  have cn := cC.lt
  have nnn := cN.lt
  have aln := wh10.lt
  have alo := who.lt
  have whE : WholeAt n0 s12 B oA A1 A2 A3 r nv := wh10.mut (.ofGrew g1012)
  have hu12 : Ints s12 u l := Sl.grew hu10 g1012.same
  have hn10 := r10.mt.n
  have fin : ∀ sF oF, Run1 ro s0 B oA0 sF oF (hashI l c0 ((l.length + 1) / 2)).1 → Lc sF B oF X (.cells [ptr B] 25 false) → Lc sF B oF R (.cells oc 47 false) → Lc sF B oF S (.cells (hashI l c0 ((l.length + 1) / 2)).2.cells 53 false) → Lc sF B oF s10.n (.defd (some [])) → Lc sF B oF (s10.n + 1) (.loop lp) → WholeAt n0 sF B oF A1 A2 A3 r nv → ∀ {K1 : WK} {Q1 : Ex → WK} {τ ds}, (∀ sG oG, Run1 ro s0 B oA0 sG oG (hashI l c0 ((l.length + 1) / 2)).1 → Lc sG B oG X (.cells [ptr B] 25 false) → Lc sG B oG R (.cells oc 47 false) → Lc sG B oG S (.cells (hashI l c0 ((l.length + 1) / 2)).2.cells 53 false) → Lc sG B oG s10.n (.defd (some [])) → WholeAt n0 sG B oG A1 A2 A3 r nv → K1 τ ds sG) →
      ∃ r ex, sF.at (s10.n + 1) = some (.loop r) ∧ (r.state = .ready ∨ r.state = .done) ∧ pendEx r.pending = some ex ∧ thenW K1 Q1 ex τ ds (sF.put (s10.n + 1) (.loop { r with state := .exhausted })) := fun sF oF rF xF rrF wF dF lF whF {K1 Q1 τ ds} hK1 => by
    refine ⟨lp, .normal, lF.here, .inl hlp.1, by rw [hlp.2.1]; rfl, ?_⟩
    have p := Put.mk' rF.liv.wf lF.lt (.loop { lp with state := .exhausted })
    exact hK1 _ oF (rF.put p (by omega) lF.own) (xF.put p (by omega)) (rrF.put p (by omega)) (wF.put p (by omega)) (dF.put p (by omega)) (whF.putN p (by omega) (by omega) (by omega))
  refine wChunk1 (u := u) (l := l) lp (fun i s' => ∃ oA', HashI ro s0 B s12 oA u l X R S C N s10.n (s10.n + 1) A1 A2 A3 n0 (.cells oc 47 false) lp r nv c0 i s' oA') (by rw [hlp.2.2.2.1]; rfl) (fun i s' hI => ?_) (fun i s' hI => ?_) (fun i s' hI => ?_) (fun i s' hI => ?_) hlen (by omega) (fun i s' w hi hI hw hwo => ?_) ?_ (fun hz => ?_) (fun s' hI => ?_)
  · obtain ⟨o, hI⟩ := hI; exact hI.lr.here
  · obtain ⟨o, hI⟩ := hI; exact ⟨_, _, hI.c.here⟩
  · obtain ⟨o, hI⟩ := hI; exact ⟨_, _, hI.nn.here⟩
  · obtain ⟨o, hI⟩ := hI; exact hI.ints
  · obtain ⟨oA1, hI⟩ := hI
    refine hashRound ht ?_ ?_ hlp ⟨by omega, by omega, by omega, by omega, by omega, by omega, by omega, by omega, by omega, by omega, by omega⟩ ⟨⟨by omega, by omega⟩, ⟨by omega, by omega⟩, ⟨by omega, by omega⟩⟩ (by omega) (by omega) hi hI hw hwo
    · simp only [U, tset_eq, wW, reduceCtorEq, Nat.reduceEqDiff, t2]
    · simp only [U, tset_eq, wW, reduceCtorEq, Nat.reduceEqDiff, t6]
  · exact ⟨oA, .start r12, (x10.grew g1012).ent, (rr10.grew g1012).ent, (w10.grew g1012).ent, (cC.grew g1012).ent, (cN.grew g1012).ent, (hD11.grew g12).ent, hL12.ent, hu12.ent, hoff, whE⟩
  · have h0 : (l.length + 1) / 2 = 0 := by omega
    have hc : hashI l c0 ((l.length + 1) / 2) = c0 := by rw [h0]; rfl
    rw [hc] at fin hk
    refine fin s12 oA r12 (x10.grew g1012) (rr10.grew g1012) (w10.grew g1012) (hD11.grew g12) hL12 whE fun sG oG r20 x20 rr20 w20 d20 wh20 => ?_
    refine hashOut r20 x20 rr20 hoc w20 wh20 d20 hge.2 (by omega) hAR ?_ ?_ ?_ fun al s' oA' a b c e f => hk _ al s' oA' s10.n a b c e (by omega) (by omega) (by omega) (by omega) (by omega) f
    · simp only [U, tset_eq, wW, reduceCtorEq, Nat.reduceEqDiff, t2]
    · simp only [U, tset_eq, wW, reduceCtorEq, Nat.reduceEqDiff, t4]
    · simp only [U, tset_eq, wW, reduceCtorEq, Nat.reduceEqDiff, t6]
  · obtain ⟨oF, hI⟩ := hI
    refine fin _ oF (hI.run.finish r12) hI.x.lo hI.rr.lo hI.w.lo hI.dd.lo hI.lr.lo hI.who fun sG oG r20 x20 rr20 w20 d20 wh20 => ?_
    refine hashOut r20 x20 rr20 hoc w20 wh20 d20 hge.2 (by omega) hAR ?_ ?_ ?_ fun al s' oA' a b c e f => hk _ al s' oA' s10.n a b c e (by omega) (by omega) (by omega) (by omega) (by omega) f
    · simp only [U, tset_eq, wW, reduceCtorEq, Nat.reduceEqDiff, t2]
    · simp only [U, tset_eq, wW, reduceCtorEq, Nat.reduceEqDiff, t4]
    · simp only [U, tset_eq, wW, reduceCtorEq, Nat.reduceEqDiff, t6]

theorem who_ne {n0 A1 A2 A3 : Nat} {r nv : Int} (h : WholeAt n0 s B oA A1 A2 A3 r nv) {R : Nat} (hR : R < n0) : A1 ≠ R := by
  obtain ⟨t1, t2, t3, o1, o2, o3, h1, h2, h3, k1, k2, k3, k4⟩ := h
  omega
theorem who_ne2 {n0 A1 A2 A3 : Nat} {r nv : Int} (h : WholeAt n0 s B oA A1 A2 A3 r nv) {R : Nat} (hR : R < n0) : A2 ≠ R := by
  obtain ⟨t1, t2, t3, o1, o2, o3, h1, h2, h3, k1, k2, k3, k4⟩ := h
  omega
theorem who_ne3 {n0 A1 A2 A3 : Nat} {r nv : Int} (h : WholeAt n0 s B oA A1 A2 A3 r nv) {R : Nat} (hR : R < n0) : A3 ≠ R := by
  obtain ⟨t1, t2, t3, o1, o2, o3, h1, h2, h3, k1, k2, k3, k4⟩ := h
  omega

theorem Lc.keepsB {s' : St} {oA' : Option Nat} {X A : Nat} {o : AO} (h : Lc s B oA X o) (m : Mut s B oA s' oA') (e : X = A) (i : Nat) : Keeps [(i, .blk A)] s s' := by
  subst e
  refine ⟨m.n, fun x hx => ?_⟩
  simp only [List.mem_cons, List.not_mem_nil, or_false] at hx
  subst hx
  intro y hy
  rw [m.same X (St.at_lt hy) h.ne h.own]
  exact hy

theorem lHash (h : Liv ro s B oA d) {u : Value} {l : List Int} (hu : Ints s u l) (hlen : l.length < 2 ^ 60) (hoff : OffS B oA s.n u) (hk : ∀ s' oA', Liv ro s' B oA' (mHash d l).1 → Mut s B oA s' oA' → K (.agg (.mk (p2c (mHash d l).2))) s') :
    CallWP P ro 24 [ptr B, u] s K := by
  refine call_wp b24 rfl ?_
  rw [n24]
  unfold v24
  simp (maxSteps := 10000000) only [wW, reduceCtorEq, Nat.reduceEqDiff]
  have r0 := Run1.start h
  have hro := h.ron
  refine box_rule h.wf.ent fun X s1 m1 => ?_
  refine alloc_rule ty_47 m1.wf fun R s2 m2 => ?_
  have r1 := r0.grew m1.grew
  have e1 := m1.eq
  have n1 := m1.n
  have e2 := m2.eq
  have n2 := m2.n
  have hn0 : (Go.VE.ent s).n = s.n := rfl
  have x1 : Lc s1 B oA X (.cells [ptr B] 25 false) := ⟨m1.here, (r0.fresh (A := X) (by omega)).1, (r0.fresh (A := X) (by omega)).2⟩
  have r2 := r1.grew m2.grew
  have x2 := x1.grew m2.grew
  have rr2 : Lc s2 B oA R (.cells [.int .i64 0, .int .i64 0] 47 false) := ⟨m2.here, (r1.fresh (A := R) (by omega)).1, (r1.fresh (A := R) (by omega)).2⟩
  have hu2 : Ints s2 u l := ((Sl.ent hu).grew m1.grew.same).grew m2.grew.same
  simp (maxSteps := 10000000) only [wW, reduceCtorEq, Nat.reduceEqDiff, wL, Nat.reduceAdd, load1 ap_25, acells_some x2.here, List.getElem?_cons_zero]
  refine ⟨by simp [veq], by simp [veq], ?_⟩
  rw [lKnown r2.liv hu2 (by omega)]
  refine ⟨.refl _, ?_⟩
  refine lReady' r2.liv _ (U64s.nil _) (show 0 < 2 ^ 62 by decide) fun s5 h5 m5 => ?_
  have r5 := r2.call h5 m5
  have x5 := x2.mut m5
  have rr5 := rr2.mut m5
  simp (maxSteps := 10000000) only [wW, reduceCtorEq, Nat.reduceEqDiff, wL, Nat.reduceAdd, load1 ap_25, acells_some x5.here, List.getElem?_cons_zero]
  have hk' := hk
  unfold mHash at hk'
  by_cases hr : (mready d (kn d l && nums d [])).2 = true
  · rw [if_pos hr] at hk'
    obtain ⟨q1, he, _⟩ := mready_true hr
    rw [hr]
    rw [q1] at h5 r5
    simp (maxSteps := 10000000) only [wW, reduceCtorEq, Nat.reduceEqDiff]
    refine lWhole h5 fun A1 A2 A3 s6 h6 m6 hw6 => ⟨trivial, ?_⟩
    rw [wdefer_fn]
    have r6 := r5.call h6 m6
    have x6 := x5.mut m6
    have rr6 := rr5.mut m6
    simp (maxSteps := 10000000) only [wW, reduceCtorEq, Nat.reduceEqDiff, wL, Nat.reduceAdd, load1 ap_25, acells_some x6.here, List.getElem?_cons_zero]
    refine lConst h6 _ fun s7 oA7 h7 m7 => ?_
    have r7 := r6.call h7 m7
    have x7 := x6.mut m7
    have rr7 := rr6.mut m7
    have hw7 := hw6.mut m7
    have n7 := r7.mt.n
    have hu5 : Ints s5 u l := hoff.sl (by omega) m5 hu2
    have o5 : OffS B oA s.n u := hoff
    have hu6 : Ints s6 u l := o5.sl (by have := r5.mt.n; omega) m6 hu5
    have o6 : OffS B oA s.n u := o5.mut (by have := r5.mt.n; omega) m6
    have hu7 : Ints s7 u l := o6.sl (by have := r6.mt.n; omega) m7 hu6
    have o7 : OffS B oA7 s.n u := o6.mut (by have := r6.mt.n; omega) m7
    simp (maxSteps := 10000000) only [wW, reduceCtorEq, Nat.reduceEqDiff, wL, Nat.reduceAdd, load1 ap_25, acells_some x7.here, List.getElem?_cons_zero]
    refine ⟨by simp [veq], by simp [veq], ?_⟩
    rw [fa_81_1, wopt_some, fa_34_0, wopt_some, h7.load ap_3 (v := .int .i64 (mConst d 0).1.f) (fun u => rfl), wopt_some]
    simp (maxSteps := 10000000) only [wW, reduceCtorEq, Nat.reduceEqDiff, Sl.wlen hu7 se_30, conv_int_u64]
    rw [wrap_u64 (by omega) (by omega)]
    refine ⟨by simp [veq], by simp [veq], by simp [veq], ?_⟩
    refine alloc_rule ty_53 h7.wf fun S s8 m8 => ?_
    have e8 := m8.eq
    have n8 := m8.n
    have r8 := r7.grew m8.grew
    have hS := r7.fresh (A := S) (by omega)
    have s8l : Lc s8 B oA7 S (.cells [.int .i64 0, .int .i64 0, .int .i64 0, .int .i64 0] 53 false) := ⟨m8.here, hS.1, hS.2⟩
    refine ⟨m8.fresh (by kernel_rfl), ?_⟩
    rw [wfAdd _ (by omega) (Int.le_refl 0) r8.liv.wf (by omega) r8.liv.fl]
    refine ⟨.refl _, ?_⟩
    have x8 := x7.grew m8.grew
    have rr8 := rr7.grew m8.grew
    have hw8 := hw7.mut (.ofGrew m8.grew)
    have hu8 : Ints s8 u l := Sl.grew hu7 m8.grew.same
    refine lConst r8.liv _ fun s9 oA9 h9 m9 => ?_
    have r9 := r8.call h9 m9
    have x9 := x8.mut m9
    have rr9 := rr8.mut m9
    have s9l := s8l.mut m9
    have hw9 := hw8.mut m9
    have hu9 : Ints s9 u l := o7.sl (by omega) m9 hu8
    have o9 : OffS B oA9 s.n u := o7.mut (by omega) m9
    refine ⟨s8l.keepsB m9 (by omega) _, ?_⟩
    rw [build4w, wopt_some]
    refine storeAll_rule isz_53 s9l.here (l := (⟨(mConst d 0).2, (mConst d 0).2, (mConst (mConst d 0).1 (fAdd (mConst d 0).1.f l.length 0)).2, (mConst d 0).2⟩ : W4).cells) rfl (by decide) h9.wf (by omega) rfl rfl fun s10 p10 => ?_
    have n9 := r9.mt.n
    have r10 := r9.put p10 (by omega) s9l.own
    have n10 := p10.n
    have xl := x9.lt
    have rl := rr9.lt
    have x10 := x9.put p10 (by have := x7.lt; omega)
    have rr10 := rr9.put p10 (by have := rr7.lt; omega)
    have s10l : Lc s10 B oA9 S (.cells (⟨(mConst d 0).2, (mConst d 0).2, (mConst (mConst d 0).1 (fAdd (mConst d 0).1.f l.length 0)).2, (mConst d 0).2⟩ : W4).cells 53 false) := ⟨p10.here, s9l.ne, s9l.own⟩
    have hwl := hw7.lt
    have hw10 := hw9.putN p10 (by omega) (by omega) (by omega)
    have hu10 : Ints s10 u l := o9.slPut (by omega) p10 hu9
    refine ⟨by omega, ?_⟩
    have hXR : X ≠ R := by omega
    have hxl7 := x7.lt
    have hrl7 := rr7.lt
    have hR5 : R < s5.n := rr5.lt
    have last : ∀ {c0 : Bd × W4} {sA : St} {oB : Option Nat} {τ : Tau}, c0 = hashC d l → Run1 ro (Go.VE.ent s) B oA sA oB c0.1 → Lc sA B oB X (.cells [ptr B] 25 false) → Lc sA B oB R (.cells [.int .i64 0, .int .i64 0] 47 false) → Lc sA B oB S (.cells c0.2.cells 53 false) → Ints sA u l → OffS B oB s.n u → WholeAt s5.n sA B oB A1 A2 A3 d.rows.length d.nv → τ 1 = u → τ 2 = ptr X → τ 4 = ptr R → τ 6 = ptr S →
        xp (prims P ro) none 71 k24 c24_111111 [1, 1, 1, 1, 1, 1] τ [] [{ target := .fn (.func 83) (.mk [ptr A1, ptr A2, ptr A3]), args := (.mk []) }] sA (xleave (prims P ro) s Tryd.f24.results.toList K) := fun {c0 sA oB τ} hc rA xA rrA sAl huA oA' whA t1 t2 t4 t6 => by
      refine hashTail rA xA rrA rfl sAl huA hlen oA' whA ⟨by omega, by omega, by omega⟩ ⟨by omega, by omega⟩ ⟨by omega, by omega, by omega⟩ ⟨?_, ?_, ?_⟩ rA.mt.n t1 t2 t4 t6 fun τ' al s' oB' D rB rrB whB dB hDR hDs hD1 hD2 hD3 hU => ?_
      · exact who_ne whA hR5
      · exact who_ne2 whA hR5
      · exact who_ne3 whA hR5
      rw [xleave_U, r24]
      refine ⟨dB.here, by have := rB.mt.n; omega, ?_⟩
      have pd := Put.mk' rB.liv.wf dB.lt (.defd none)
      have rP := rB.put pd hDs dB.own
      have wP := whB.putN pd hD1 hD2 hD3
      have rrP := rrB.put pd (Ne.symm hDR)
      generalize sP0 : s'.put D (.defd none) = sP at pd rP wP rrP ⊢
      subst hc
      refine lUndo rP.liv wP (hashE_le d l).rows h.ok.nv fun s8 h8 m8 => ?_
      rw [hU]
      refine load_rule (load_all ap_47 (rrP.mut m8).here rfl) ?_
      exact fin_mut h h8 (rP.mt.trans m8) rfl fun s' h' m' => hk' s' _ h' m'
    by_cases hz : (l.length : Int) = 0
    · rw [if_pos hz]
      rw [acells_some x10.here, wopt_some, List.getElem?_cons_zero, wopt_some, load_all ap_53 s10l.here rfl, wopt_some]
      have hc : mPerm (mConst (mConst d 0).1 (fAdd (mConst d 0).1.f l.length 0)).1 ⟨(mConst d 0).2, (mConst d 0).2, (mConst (mConst d 0).1 (fAdd (mConst d 0).1.f l.length 0)).2, (mConst d 0).2⟩ = hashC d l := by
        unfold hashC
        simp only
        rw [if_pos (by omega)]
      refine lPerm r10.liv ⟨(mConst d 0).2, (mConst d 0).2, (mConst (mConst d 0).1 (fAdd (mConst d 0).1.f l.length 0)).2, (mConst d 0).2⟩ fun s11 oA11 h11 m11 => ?_
      have r11 := r10.call h11 m11
      have s11l := s10l.mut m11
      have hw11 := hw10.mut m11
      rw [hc] at h11 r11 ⊢
      refine storeAll_rule isz_53 s11l.here (l := (hashC d l).2.cells) rfl (by decide) h11.wf (by omega) rfl rfl fun s12 p12 => ?_
      have hn11 := m11.n
      have hu11 : Ints s11 u l := o9.sl (by omega) m11 hu10
      have o11 : OffS B oA11 s.n u := o9.mut (by omega) m11
      refine last rfl (r11.put p12 (by omega) s11l.own) ((x10.mut m11).put p12 (by omega)) ((rr10.mut m11).put p12 (by omega)) ⟨p12.here, s11l.ne, s11l.own⟩ (o11.slPut (by omega) p12 hu11) o11 (hw11.putN p12 (by omega) (by omega) (by omega)) ?_ ?_ ?_ ?_ <;> simp only [U, tset_eq, wW, reduceCtorEq, Nat.reduceEqDiff]
    · rw [if_neg hz]
      have hc : ((mConst (mConst d 0).1 (fAdd (mConst d 0).1.f l.length 0)).1, (⟨(mConst d 0).2, (mConst d 0).2, (mConst (mConst d 0).1 (fAdd (mConst d 0).1.f l.length 0)).2, (mConst d 0).2⟩ : W4)) = hashC d l := by
        unfold hashC
        simp only
        rw [if_neg (by omega)]
      refine last hc r10 x10 rr10 s10l hu10 o9 hw10 ?_ ?_ ?_ ?_ <;> simp only [U, tset_eq, wW, reduceCtorEq, Nat.reduceEqDiff]
  · have hr' : (mready d (kn d l && nums d [])).2 = false := by simpa using hr
    rw [if_neg hr] at hk'
    rw [hr']
    simp (maxSteps := 10000000) only [wW, reduceCtorEq, Nat.reduceEqDiff]
    rw [show abuild P 47 (partVals .e [(0, .const (.int .i64 (-1))), (1, .const (.int .i64 (-1)))]) = some (.agg (.mk [.int .i64 (-1), .int .i64 (-1)])) by kernel_rfl]
    simp (maxSteps := 10000000) only [wW, reduceCtorEq, Nat.reduceEqDiff]
    have n5 := r5.mt.n
    refine storeAll_rule isz_47 rr5.here (l := [.int .i64 (-1), .int .i64 (-1)]) rfl (by decide) r5.liv.wf (by have := rr2.lt; omega) rfl rfl fun s6 p6 => ?_
    rw [load_all ap_47 p6.here rfl, wopt_some]
    have r6' := r5.put p6 (by omega) rr5.own
    exact fin_mut h r6'.liv r6'.mt rfl fun s' h' m' => hk' s' oA h' m'

end
end Go.VE
/- What Hash, Absorb, Draw mean. -/
namespace Go.VE
open Go Go.Proofs
set_option maxRecDepth 20000
/-- A builder's program of which four variables are a sponge's state. -/
structure Sw (xs : List Int) (d : Bd) (w : W4) (V : List Int) (c : Prop) (q : List Int) : Prop where
  sm : Sm xs d V c
  wi : ∀ v ∈ w.list, 0 ≤ v ∧ v < V.length
  val : w.list.map (at0 V) = q

section
variable {xs V q : List Int} {d : Bd} {c : Prop} {w : W4}
theorem Sw.perm (h : Sw xs d w V c q) (hr : d.rows.length + 9 ≤ 8000) (hn : d.nv + 32 ≤ 40000) :
    ∃ V', V <+: V' ∧ V'.length = V.length + 32 ∧ Sw xs (mPerm d w).1 (mPerm d w).2 V' c (pst d.f q 8) ∧ (mPerm d w).1.f = d.f ∧ (mPerm d w).1.rows.length = d.rows.length + 9 := by
  obtain ⟨e1, e2, e3, e4, e5⟩ := h.sm.perm h.wi hr hn
  refine ⟨_, List.prefix_append _ _, by rw [List.length_append, pnews_len], ⟨e3, e4, by rw [e5, h.val]⟩, e1, e2⟩

theorem fAdd_v {f : Int} (h : fV f = true) (a b : Int) : fAdd f a b = (a + b) % fP f := by unfold fAdd; rw [if_pos h]

theorem Sw.at (h : Sw xs d w V c q) : q = [at0 V w.a, at0 V w.b, at0 V w.c, at0 V w.d] := h.val.symm

theorem Sw.len (h : Sw xs d w V c q) : q.length = 4 := by rw [h.at]; rfl

theorem Sw.pre (h : Sw xs d w V c q) {V' : List Int} {d' : Bd} {c' : Prop} (hs : Sm xs d' V' c') (hp : V <+: V') : Sw xs d' w V' c' q := by
  have hl := hp.length_le
  refine ⟨hs, fun v hv => by have := h.wi v hv; omega, ?_⟩
  rw [← h.val]
  exact List.map_congr_left fun v hv => at0_pre hp (h.wi v hv)

theorem Sw.setA (h : Sw xs d w V c q) {x : Int} (hx : 0 ≤ x ∧ x < V.length) : Sw xs d { w with a := x } V c (q.set 0 (at0 V x)) := by
  have hw := h.wi
  simp only [W4.list, List.mem_cons, List.not_mem_nil, or_false, forall_eq_or_imp, forall_eq] at hw
  refine ⟨h.sm, ?_, ?_⟩
  · simp only [W4.list, List.mem_cons, List.not_mem_nil, or_false, forall_eq_or_imp, forall_eq]
    exact ⟨hx, hw.2.1, hw.2.2.1, hw.2.2.2⟩
  · rw [h.at]; rfl
theorem Sw.setB (h : Sw xs d w V c q) {x : Int} (hx : 0 ≤ x ∧ x < V.length) : Sw xs d { w with b := x } V c (q.set 1 (at0 V x)) := by
  have hw := h.wi
  simp only [W4.list, List.mem_cons, List.not_mem_nil, or_false, forall_eq_or_imp, forall_eq] at hw
  refine ⟨h.sm, ?_, ?_⟩
  · simp only [W4.list, List.mem_cons, List.not_mem_nil, or_false, forall_eq_or_imp, forall_eq]
    exact ⟨hw.1, hx, hw.2.2.1, hw.2.2.2⟩
  · rw [h.at]; rfl

theorem Sw.addA (h : Sw xs d w V c q) {x : Int} (hx : 0 ≤ x ∧ x < V.length) (hr : d.rows.length < 8000) (hn : d.nv < 40000) :
    ∃ V', V <+: V' ∧ V'.length = V.length + 1 ∧ Sw xs (mLinear d w.a x 1 1 0).1 { w with a := (mLinear d w.a x 1 1 0).2 } V' c (hSt1 d.f q (at0 V x)) ∧ (mLinear d w.a x 1 1 0).1.f = d.f ∧ (mLinear d w.a x 1 1 0).1.rows.length = d.rows.length + 1 := by
  have hp := fP_one h.sm.f
  obtain ⟨e1, e2, e3, e4⟩ := h.sm.linear (u := w.a) (v := x) (x := 1) (y := 1) (z := 0) (h.wi _ (by simp [W4.list])) hx (by omega) (by omega) (by omega) hr hn
  refine ⟨V ++ [(1 * at0 V w.a + 1 * at0 V x + 0) % fP d.f], List.prefix_append _ _, by rw [List.length_append]; rfl, ?_, e2, e3⟩
  have k := (h.pre e4 (List.prefix_append _ _)).setA (x := (mLinear d w.a x 1 1 0).2) (by rw [e1, List.length_append, List.length_singleton]; omega)
  rw [e1] at k ⊢
  have el : at0 (V ++ [(1 * at0 V w.a + 1 * at0 V x + 0) % fP d.f]) (V.length : Nat) = (1 * at0 V w.a + 1 * at0 V x + 0) % fP d.f := at0_last (W := [])
  rw [el] at k
  have ev : hSt1 d.f q (at0 V x) = q.set 0 ((1 * at0 V w.a + 1 * at0 V x + 0) % fP d.f) := by
    unfold hSt1
    rw [fAdd_v h.sm.f, h.at]
    show [_, _, _, _] = [_, _, _, _]
    rw [Int.one_mul, Int.one_mul, Int.add_zero]
    rfl
  rw [ev]
  exact k

theorem Sw.addB (h : Sw xs d w V c q) {x : Int} (hx : 0 ≤ x ∧ x < V.length) (hr : d.rows.length < 8000) (hn : d.nv < 40000) :
    ∃ V', V <+: V' ∧ V'.length = V.length + 1 ∧ Sw xs (mLinear d w.b x 1 1 0).1 { w with b := (mLinear d w.b x 1 1 0).2 } V' c (hSt2 d.f q (at0 V x)) ∧ (mLinear d w.b x 1 1 0).1.f = d.f ∧ (mLinear d w.b x 1 1 0).1.rows.length = d.rows.length + 1 := by
  have hp := fP_one h.sm.f
  obtain ⟨e1, e2, e3, e4⟩ := h.sm.linear (u := w.b) (v := x) (x := 1) (y := 1) (z := 0) (h.wi _ (by simp [W4.list])) hx (by omega) (by omega) (by omega) hr hn
  refine ⟨V ++ [(1 * at0 V w.b + 1 * at0 V x + 0) % fP d.f], List.prefix_append _ _, by rw [List.length_append]; rfl, ?_, e2, e3⟩
  have k := (h.pre e4 (List.prefix_append _ _)).setB (x := (mLinear d w.b x 1 1 0).2) (by rw [e1, List.length_append, List.length_singleton]; omega)
  rw [e1] at k ⊢
  have el : at0 (V ++ [(1 * at0 V w.b + 1 * at0 V x + 0) % fP d.f]) (V.length : Nat) = (1 * at0 V w.b + 1 * at0 V x + 0) % fP d.f := at0_last (W := [])
  rw [el] at k
  have ev : hSt2 d.f q (at0 V x) = q.set 1 ((1 * at0 V w.b + 1 * at0 V x + 0) % fP d.f) := by
    unfold hSt2
    rw [fAdd_v h.sm.f, h.at]
    show [_, _, _, _] = [_, _, _, _]
    rw [Int.one_mul, Int.one_mul, Int.add_zero]
    rfl
  rw [ev]
  exact k

/-- A constant is added to the second element. -/
theorem Sw.incB (h : Sw xs d w V c q) {z : Int} (hz : 0 ≤ z ∧ z < fP d.f) (hr : d.rows.length < 8000) (hn : d.nv < 40000) :
    ∃ V', V <+: V' ∧ V'.length = V.length + 1 ∧ Sw xs (mLinear d w.b w.b 1 0 z).1 { w with b := (mLinear d w.b w.b 1 0 z).2 } V' c (q.set 1 (fAdd d.f (at0 q 1) z)) ∧ (mLinear d w.b w.b 1 0 z).1.f = d.f ∧ (mLinear d w.b w.b 1 0 z).1.rows.length = d.rows.length + 1 := by
  have hp := fP_one h.sm.f
  have hb := h.wi w.b (by simp [W4.list])
  obtain ⟨e1, e2, e3, e4⟩ := h.sm.linear (u := w.b) (v := w.b) (x := 1) (y := 0) (z := z) hb hb (by omega) (by omega) hz hr hn
  refine ⟨V ++ [(1 * at0 V w.b + 0 * at0 V w.b + z) % fP d.f], List.prefix_append _ _, by rw [List.length_append]; rfl, ?_, e2, e3⟩
  have k := (h.pre e4 (List.prefix_append _ _)).setB (x := (mLinear d w.b w.b 1 0 z).2) (by rw [e1, List.length_append, List.length_singleton]; omega)
  rw [e1] at k ⊢
  have el : at0 (V ++ [(1 * at0 V w.b + 0 * at0 V w.b + z) % fP d.f]) (V.length : Nat) = (1 * at0 V w.b + 0 * at0 V w.b + z) % fP d.f := at0_last (W := [])
  rw [el] at k
  have ev : q.set 1 (fAdd d.f (at0 q 1) z) = q.set 1 ((1 * at0 V w.b + 0 * at0 V w.b + z) % fP d.f) := by
    rw [fAdd_v h.sm.f, h.at]
    show [_, _, _, _] = [_, _, _, _]
    rw [Int.one_mul, Int.zero_mul, Int.add_zero]
    rfl
  rw [ev]
  exact k

theorem Sw.draw (h : Sw xs d w V c q) (h2 : 2 < fP d.f) (hr : d.rows.length + 10 ≤ 8000) (hn : d.nv + 33 ≤ 40000) :
    ∃ V', V <+: V' ∧ V'.length = V.length + 33 ∧ Sw xs (mDraw d w).1 (mDraw d w).2.1 V' c (drawM d.f q) ∧ (mDraw d w).1.f = d.f ∧ (mDraw d w).2.2 = (mDraw d w).2.1.a := by
  have hl := h.sm.len
  obtain ⟨V1, p1, l1, s1, f1, r1⟩ := h.incB (z := 2) (by omega) (by omega) (by omega)
  have hl1 := s1.sm.len
  obtain ⟨V2, p2, l2, s2, f2, r2⟩ := s1.perm (by omega) (by omega)
  have em : mDraw d w = ((mPerm (mLinear d w.b w.b 1 0 2).1 { w with b := (mLinear d w.b w.b 1 0 2).2 }).1, (mPerm (mLinear d w.b w.b 1 0 2).1 { w with b := (mLinear d w.b w.b 1 0 2).2 }).2, (mPerm (mLinear d w.b w.b 1 0 2).1 { w with b := (mLinear d w.b w.b 1 0 2).2 }).2.a) := by
    unfold mDraw
    rw [h.sm.kn h.wi, nums_t (by simp), Bool.and_true, mready_t h.sm.e, if_pos rfl, undo_ok s2.sm.e]
  rw [em]
  refine ⟨V2, p1.trans p2, by omega, ?_, f2.trans f1, rfl⟩
  have : drawM d.f q = pst (mLinear d w.b w.b 1 0 2).1.f (q.set 1 (fAdd d.f (at0 q 1) 2)) 8 := by rw [f1]; rfl
  rw [this]
  exact s2

theorem Sw.absorb (h : Sw xs d w V c q) {z : Int} (hz : 0 ≤ z ∧ z < V.length) (hr : d.rows.length + 11 ≤ 8000) (hn : d.nv + 34 ≤ 40000) :
    ∃ V', V <+: V' ∧ V'.length = V.length + 34 ∧ Sw xs (mAbsorb d w z).1 (mAbsorb d w z).2 V' c (abs1 d.f q (at0 V z)) ∧ (mAbsorb d w z).1.f = d.f ∧ (mAbsorb d w z).1.rows.length = d.rows.length + 11 := by
  have hl := h.sm.len
  have hp := fP_one h.sm.f
  obtain ⟨V0, p0, l0, s0, f0, r0⟩ := h.addA hz (by omega) (by omega)
  have hl0 := s0.sm.len
  obtain ⟨V1, p1, l1, s1, f1, r1⟩ := s0.incB (z := 1) (by rw [f0]; omega) (by omega) (by omega)
  have hl1 := s1.sm.len
  obtain ⟨V2, p2, l2, s2, f2, r2⟩ := s1.perm (by omega) (by omega)
  have em : mAbsorb d w z = absorbed d w z := by
    have e2 : (absorbed d w z).1.e = 0 := s2.sm.e
    unfold mAbsorb
    rw [h.sm.kn h.wi, h.sm.kn (l := [z]) (by simpa using hz), nums_t (by simp), Bool.and_true, Bool.and_true, mready_t h.sm.e, if_pos rfl, undo_ok e2]
  rw [em]
  refine ⟨V2, p0.trans (p1.trans p2), by omega, ?_, f2.trans (f1.trans f0), ?_⟩
  · have : abs1 d.f q (at0 V z) = pst (mLinear (mLinear d w.a z 1 1 0).1 w.b w.b 1 0 1).1.f ((hSt1 d.f q (at0 V z)).set 1 (fAdd (mLinear d w.a z 1 1 0).1.f (at0 (hSt1 d.f q (at0 V z)) 1) 1)) 8 := by rw [f1, f0]; rfl
    rw [this]
    exact s2
  · show (mPerm _ _).1.rows.length = _
    rw [r2, r1, r0]

/-- A round of Hash. -/
theorem Sw.step (h : Sw xs d w V c q) {l : List Int} (hl : ∀ v ∈ l, 0 ≤ v ∧ v < V.length) (hl1 : l.length = 1 ∨ l.length = 2) (hr : d.rows.length + 11 ≤ 8000) (hn : d.nv + 34 ≤ 40000) :
    ∃ V' q', V <+: V' ∧ V'.length ≤ V.length + 34 ∧ Sw xs (hStep l (d, w)).1 (hStep l (d, w)).2 V' c q' ∧ (hStep l (d, w)).1.f = d.f ∧ (hStep l (d, w)).1.rows.length ≤ d.rows.length + 11 ∧ (l.length = 1 → ∀ r, r = [] → hGo d.f (l.map (at0 V) ++ r) q = hGo d.f r q') ∧ (l.length = 2 → ∀ r, hGo d.f (l.map (at0 V) ++ r) q = hGo d.f r q') := by
  have hlen := h.sm.len
  rcases hl1 with hl1 | hl1
  · obtain ⟨x, rfl⟩ := List.length_eq_one_iff.1 hl1
    obtain ⟨V0, p0, l0, s0, f0, r0⟩ := h.addA (hl x (by simp)) (by omega) (by omega)
    have hl0 := s0.sm.len
    obtain ⟨V2, p2, l2, s2, f2, r2⟩ := s0.perm (by omega) (by omega)
    refine ⟨V2, _, p0.trans p2, by omega, s2, f2.trans f0, Nat.le_trans (Nat.le_of_eq r2) (by omega), fun _ r hr => ?_, fun h => by simp at h⟩
    subst hr
    rw [f0]
    rfl
  · obtain ⟨x, y, rfl⟩ := len2 hl1
    obtain ⟨V0, p0, l0, s0, f0, r0⟩ := h.addA (hl x (by simp)) (by omega) (by omega)
    have hl0 := s0.sm.len
    have hy := hl y (by simp)
    obtain ⟨V1, p1, l1, s1, f1, r1⟩ := s0.addB (x := y) (by omega) (by omega) (by omega)
    have hl1' := s1.sm.len
    obtain ⟨V2, p2, l2, s2, f2, r2⟩ := s1.perm (by omega) (by omega)
    refine ⟨V2, _, p0.trans (p1.trans p2), by omega, s2, f2.trans (f1.trans f0), Nat.le_trans (Nat.le_of_eq r2) (by omega), fun h => by simp at h, fun _ r => ?_⟩
    have e1 : (mLinear (mLinear d w.a x 1 1 0).1 w.b y 1 1 0).1.f = d.f := f1.trans f0
    show _ = hGo d.f r (pst (mLinear (mLinear d w.a x 1 1 0).1 w.b y 1 1 0).1.f (hSt2 (mLinear d w.a x 1 1 0).1.f (hSt1 d.f q (at0 V x)) (at0 V0 y)) 8)
    rw [e1, f0, at0_pre p0 hy]
    rfl

end
end Go.VE
/- What Hash means. -/
namespace Go.VE
open Go Go.Proofs
set_option maxRecDepth 20000
section
variable {xs V q : List Int} {d : Bd} {c : Prop} {w : W4}
theorem Sw.hashGo (h : Sw xs d w V c q) {l : List Int} (hl : ∀ v ∈ l, 0 ≤ v ∧ v < V.length) : ∀ i, 2 * i ≤ l.length + 1 → d.rows.length + 11 * i ≤ 8000 → d.nv + 34 * i ≤ 40000 →
    ∃ V' q', V <+: V' ∧ V'.length ≤ V.length + 34 * i ∧ Sw xs (hashI l (d, w) i).1 (hashI l (d, w) i).2 V' c q' ∧ (hashI l (d, w) i).1.f = d.f ∧ (hashI l (d, w) i).1.rows.length ≤ d.rows.length + 11 * i ∧ hGo d.f (l.map (at0 V)) q = hGo d.f ((l.map (at0 V)).drop (2 * i)) q'
  | 0, _, _, _ => ⟨V, q, List.prefix_refl _, by omega, h, rfl, by show d.rows.length ≤ _; omega, rfl⟩
  | i + 1, h1, h2, h3 => by
    obtain ⟨V1, q1, p1, l1, s1, f1, r1, g1⟩ := h.hashGo hl i (by omega) (by omega) (by omega)
    have hlen := h.sm.len
    have hlen1 := s1.sm.len
    have hle := p1.length_le
    have hcl : ((l.drop (2 * i)).take 2).length = 1 ∨ ((l.drop (2 * i)).take 2).length = 2 := by rw [List.length_take, List.length_drop]; omega
    have hm : ∀ v ∈ (l.drop (2 * i)).take 2, 0 ≤ v ∧ v < V.length := fun v hv => hl v (List.mem_of_mem_drop (List.mem_of_mem_take hv))
    have hmap : ((l.drop (2 * i)).take 2).map (at0 V1) = ((l.map (at0 V)).drop (2 * i)).take 2 := by
      rw [← List.map_drop, ← List.map_take]
      exact List.map_congr_left fun v hv => at0_pre p1 (hm v hv)
    obtain ⟨V2, q2, p2, l2, s2, f2, r2, ga, gb⟩ := s1.step (l := (l.drop (2 * i)).take 2) (fun v hv => by have := hm v hv; omega) hcl (by omega) (by omega)
    refine ⟨V2, q2, p1.trans p2, by omega, s2, f2.trans f1, Nat.le_trans r2 (by omega), ?_⟩
    rw [g1]
    rw [f1, hmap] at ga gb
    have hsplit : (l.map (at0 V)).drop (2 * i) = ((l.map (at0 V)).drop (2 * i)).take 2 ++ (l.map (at0 V)).drop (2 * (i + 1)) := by
      rw [show 2 * (i + 1) = 2 * i + 2 by omega, ← List.drop_drop]
      exact (List.take_append_drop 2 _).symm
    rcases hcl with hc | hc
    · have hnil : (l.map (at0 V)).drop (2 * (i + 1)) = [] := List.drop_of_length_le (by
        rw [List.length_take, List.length_drop] at hc
        rw [List.length_map]; omega)
      have := ga hc _ hnil
      rw [← hsplit] at this
      exact this
    · have := gb hc ((l.map (at0 V)).drop (2 * (i + 1)))
      rw [← hsplit] at this
      exact this

theorem fAdd_comm (f a b : Int) : fAdd f a b = fAdd f b a := by unfold fAdd; rw [Int.add_comm]

theorem Sm.hashC (h : Sm xs d V c) {l : List Int} (hr : d.rows.length + 11 ≤ 8000) (hn : d.nv + 34 ≤ 40000) :
    ∃ V', V <+: V' ∧ V'.length ≤ V.length + 34 ∧ Sw xs (Go.VE.hashC d l).1 (Go.VE.hashC d l).2 V' c (hInit d.f (l.map (at0 V))) ∧ (Go.VE.hashC d l).1.f = d.f ∧ (Go.VE.hashC d l).1.rows.length ≤ d.rows.length + 11 := by
  have hlen := h.len
  have hp := fP_one h.f
  obtain ⟨e1, f1, r1, s1⟩ := h.const (x := 0) (by omega) (by omega) (by omega)
  have hl1 := s1.len
  have hV1 : (V ++ [(0 : Int)]).length = V.length + 1 := by simp
  have ha := fAdd_lt h.f (l.length : Int) 0
  obtain ⟨e2, f2, r2, s2⟩ := s1.const (x := fAdd (mConst d 0).1.f l.length 0) (by rw [f1]; exact ha) (by omega) (by omega)
  have hl2 := s2.len
  have hV2 : (V ++ [(0 : Int)] ++ [fAdd (mConst d 0).1.f l.length 0]).length = V.length + 2 := by simp
  have sw : Sw xs (mConst (mConst d 0).1 (fAdd (mConst d 0).1.f l.length 0)).1 ⟨(mConst d 0).2, (mConst d 0).2, (mConst (mConst d 0).1 (fAdd (mConst d 0).1.f l.length 0)).2, (mConst d 0).2⟩ (V ++ [(0 : Int)] ++ [fAdd (mConst d 0).1.f l.length 0]) c [0, 0, fAdd d.f 0 l.length, 0] := by
    refine ⟨s2, ?_, ?_⟩
    · simp only [W4.list, List.mem_cons, List.not_mem_nil, or_false, forall_eq_or_imp, forall_eq]
      rw [e1, e2, hV1, hV2]
      omega
    · have a1 : at0 (V ++ [(0 : Int)] ++ [fAdd (mConst d 0).1.f l.length 0]) (V.length : Nat) = 0 := by
        rw [at0_app (by omega) (by rw [hV1]; omega)]
        exact at0_last (W := [])
      have a2 : at0 (V ++ [(0 : Int)] ++ [fAdd (mConst d 0).1.f l.length 0]) ((V ++ [(0 : Int)]).length : Nat) = fAdd (mConst d 0).1.f l.length 0 := at0_last (W := [])
      show [_, _, _, _] = _
      rw [e1, e2, a1, a2, f1, fAdd_comm]
  unfold Go.VE.hashC hInit
  simp only [List.length_map]
  by_cases hz : l.length = 0
  · rw [if_pos hz, if_pos hz]
    obtain ⟨V3, p3, l3, s3, f3, r3⟩ := sw.perm (by omega) (by omega)
    refine ⟨V3, (List.prefix_append _ _).trans ((List.prefix_append _ _).trans p3), by omega, ?_, f3.trans (f2.trans f1), by omega⟩
    rw [f2.trans f1] at s3
    exact s3
  · rw [if_neg hz, if_neg hz]
    exact ⟨_, (List.prefix_append _ _).trans (List.prefix_append _ _), by omega, sw, f2.trans f1, by show (mConst _ _).1.rows.length ≤ _; omega⟩

theorem Sm.hash (h : Sm xs d V c) {l : List Int} (hl : ∀ v ∈ l, 0 ≤ v ∧ v < V.length) (hr : d.rows.length + 6 * l.length + 22 ≤ 8000) (hn : d.nv + 17 * l.length + 68 ≤ 40000) :
    ∃ V', V <+: V' ∧ V'.length ≤ V.length + 17 * l.length + 68 ∧ Sm xs (mHash d l).1 V' c ∧ (mHash d l).1.f = d.f ∧ (mHash d l).1.rows.length ≤ d.rows.length + 6 * l.length + 22 ∧ (0 ≤ (mHash d l).2.1 ∧ (mHash d l).2.1 < V'.length) ∧ (0 ≤ (mHash d l).2.2 ∧ (mHash d l).2.2 < V'.length) ∧
      at0 V' (mHash d l).2.1 = at0 (hEnd d.f (l.map (at0 V))) 0 ∧ at0 V' (mHash d l).2.2 = at0 (hEnd d.f (l.map (at0 V))) 1 := by
  have hlen := h.len
  obtain ⟨V1, p1, l1, s1, f1, r1⟩ := h.hashC (l := l) (by omega) (by omega)
  have hl1 := s1.sm.len
  have hle := p1.length_le
  obtain ⟨V2, q2, p2, l2, s2, f2, r2, g2⟩ := s1.hashGo (l := l) (fun v hv => by have := hl v hv; omega) ((l.length + 1) / 2) (by omega) (by omega) (by omega)
  have eE : hashI l ((Go.VE.hashC d l).1, (Go.VE.hashC d l).2) ((l.length + 1) / 2) = hashE d l := rfl
  rw [eE] at s2 f2 r2
  have em : mHash d l = ((hashE d l).1, ((hashE d l).2.a, (hashE d l).2.b)) := by
    unfold mHash mPair
    rw [h.kn hl, nums_t (by simp), Bool.and_true, mready_t h.e, if_pos rfl, undo_ok s2.sm.e, if_neg (by simpa using s2.sm.e)]
  rw [em]
  have hmap : l.map (at0 V1) = l.map (at0 V) := List.map_congr_left fun v hv => at0_pre p1 (hl v hv)
  rw [hmap, f1, List.drop_of_length_le (by rw [List.length_map]; omega)] at g2
  have hq : hEnd d.f (l.map (at0 V)) = q2 := g2
  rw [hq]
  refine ⟨V2, p1.trans p2, by omega, s2.sm, f2.trans f1, by show (hashE d l).1.rows.length ≤ _; omega, s2.wi _ (by simp [W4.list]), s2.wi _ (by simp [W4.list]), ?_, ?_⟩
  · rw [s2.at]; rfl
  · rw [s2.at]; rfl

end
end Go.VE
/- CircuitHashes: the plain law. -/
namespace Go.VE
open Go Go.Proofs
set_option maxRecDepth 20000
def modL (f : Int) (l : List Int) : List Int := l.map (· % fP f)
def hsXs (f : Int) (l S : List Int) (x : Int) : List Int := modL f S ++ x % fP f :: modL f l
def hsD0 (f : Int) (n : Nat) : Bd := ⟨f, n, 0, n, [], 0⟩
def w0123 : W4 := ⟨0, 1, 2, 3⟩
noncomputable def hsH (f : Int) (k : Nat) : Bd × Int × Int := mHash (hsD0 f (5 + k)) (upTo 5 k)
noncomputable def hsA (f : Int) (k : Nat) : Bd × W4 := mAbsorb (hsH f k).1 w0123 4
noncomputable def hsD (f : Int) (k : Nat) : Bd × W4 × Int := mDraw (hsA f k).1 (hsA f k).2

theorem fAdd_mod (f a b : Int) : fAdd f a (b % fP f) = fAdd f a b := by
  unfold fAdd
  split
  · rw [Int.add_emod, Int.emod_emod, ← Int.add_emod]
  · rfl

theorem hGo_mod (f : Int) : ∀ (n : Nat) (l q : List Int), l.length ≤ n → hGo f (modL f l) q = hGo f l q
  | _, [], q, _ => rfl
  | _, [x], q, _ => by
    show hGo f [x % fP f] q = _
    unfold hGo hSt1
    rw [fAdd_mod]
  | n + 1, x :: y :: r, q, h => by
    show hGo f (x % fP f :: y % fP f :: modL f r) q = _
    rw [hGo, hGo]
    unfold hSt2 hSt1
    rw [fAdd_mod, fAdd_mod]
    exact hGo_mod f n r _ (by simp only [List.length_cons] at h; omega)
theorem hEnd_mod (f : Int) (l : List Int) : hEnd f (modL f l) = hEnd f l := by
  unfold hEnd
  rw [hGo_mod f _ _ _ (Nat.le_refl _)]
  unfold hInit modL
  rw [List.length_map]

theorem abs0_mod {f : Int} (h : fV f = true) {S : List Int} (hl : S.length = 4) : it (abs0 f) 4 S = modL f S := by
  obtain ⟨a, b, c, d, rfl⟩ := len4 hl
  have e : ∀ x : Int, fAdd f x 0 = x % fP f := fun x => by rw [fAdd_v h, Int.add_zero]
  show [fAdd f a 0, fAdd f b 0, fAdd f c 0, fAdd f d 0] = [a % fP f, b % fP f, c % fP f, d % fP f]
  rw [e, e, e, e]

theorem abs1_mod (f : Int) (q : List Int) (x : Int) : abs1 f q (x % fP f) = abs1 f q x := by
  unfold abs1 hSt1
  rw [fAdd_mod]

theorem at0_mid {A B : List Int} {x : Int} {k : Int} (hk : k = A.length) : at0 (A ++ x :: B) k = x := by rw [hk]; exact at0_last
theorem map_upTo {A B : List Int} {x : Int} {a : Int} (ha : a = A.length + 1) : (upTo a B.length).map (at0 (A ++ x :: B)) = B := by
  apply List.ext_getElem?
  intro i
  unfold upTo
  rw [List.map_map, List.getElem?_map]
  rcases Nat.lt_or_ge i B.length with hi | hi
  · rw [List.getElem?_range hi, List.getElem?_eq_getElem hi]
    show some (at0 _ _) = _
    congr 1
    unfold at0
    rw [show (a + (i : Int)).toNat = A.length + (i + 1) by omega, List.getElem?_append_right (by omega), show A.length + (i + 1) - A.length = i + 1 by omega, List.getElem?_cons_succ, List.getElem?_eq_getElem hi]
    rfl
  · rw [List.getElem?_eq_none (by simpa using hi), List.getElem?_eq_none hi]; rfl

/-- What the law looks at. -/
structure HsOk (f : Int) (l S : List Int) (x : Int) (V : List Int) : Prop where
  sm : Sm (hsXs f l S x) (hsD f l.length).1 V True
  h0 : 0 ≤ (hsH f l.length).2.1 ∧ (hsH f l.length).2.1 < V.length
  h1 : 0 ≤ (hsH f l.length).2.2 ∧ (hsH f l.length).2.2 < V.length
  wi : ∀ v ∈ (hsD f l.length).2.1.list, 0 ≤ v ∧ v < V.length
  y : (hsD f l.length).2.2 = (hsD f l.length).2.1.a
  v0 : at0 V (hsH f l.length).2.1 = at0 (hEnd f l) 0
  v1 : at0 V (hsH f l.length).2.2 = at0 (hEnd f l) 1
  val : (hsD f l.length).2.1.list.map (at0 V) = drawM f (absGo f [x] (it (abs0 f) 4 S))

theorem hs_plain {f : Int} (hv : fV f = true) {l S : List Int} {x : Int} (hl : l.length ≤ 8) (hS : S.length = 4) : ∃ V, HsOk f l S x V := by
  have hp := fP_one hv
  have hm : ∀ y : Int, 0 ≤ y % fP f ∧ y % fP f < fP f := fun y => ⟨Int.emod_nonneg _ (by omega), Int.emod_lt_of_pos _ (by omega)⟩
  have hlS : (modL f S).length = 4 := by unfold modL; rw [List.length_map, hS]
  have hll : (modL f l).length = l.length := by unfold modL; rw [List.length_map]
  have hxl : (hsXs f l S x).length = 5 + l.length := by unfold hsXs; rw [List.length_append, List.length_cons, hlS, hll]; omega
  have hst := Sm.start (xs := hsXs f l S x) (f := f) hv (by omega) (fun y hy => by
    unfold hsXs modL at hy
    simp only [List.mem_append, List.mem_cons, List.mem_map] at hy
    rcases hy with ⟨z, _, rfl⟩ | rfl | ⟨z, _, rfl⟩ <;> exact hm _)
  rw [hxl] at hst
  have e0 : (⟨f, ((5 + l.length : Nat) : Int), 0, ((5 + l.length : Nat) : Int), [], 0⟩ : Bd) = hsD0 f (5 + l.length) := rfl
  rw [e0] at hst
  have hr0 : (hsD0 f (5 + l.length)).rows.length = 0 := rfl
  have hf0 : (hsD0 f (5 + l.length)).f = f := rfl
  have hn0 : (hsD0 f (5 + l.length)).nv = ((5 + l.length : Nat) : Int) := rfl
  have hul : (upTo 5 l.length).length = l.length := by simp [upTo]
  obtain ⟨V1, p1, l1, s1, f1, r1, a1, a2, a3, a4⟩ := hst.hash (l := upTo 5 l.length) (fun v hv' => by
    obtain ⟨i, hi, rfl⟩ := List.mem_map.1 hv'
    have := List.mem_range.1 hi
    rw [hxl]
    omega) (by omega) (by omega)
  have hval : (upTo 5 l.length).map (at0 (hsXs f l S x)) = modL f l := by
    have := map_upTo (A := modL f S) (B := modL f l) (x := x % fP f) (a := 5) (by rw [hlS]; rfl)
    rw [hll] at this
    exact this
  rw [hval, hf0, hEnd_mod] at a3 a4
  have eH : mHash (hsD0 f (5 + l.length)) (upTo 5 l.length) = hsH f l.length := rfl
  rw [eH] at s1 f1 r1 a1 a2 a3 a4
  have hle1 := p1.length_le
  have hlen1 := s1.len
  have sw : Sw (hsXs f l S x) (hsH f l.length).1 w0123 V1 True (modL f S) := by
    refine ⟨s1, fun v hv' => ?_, ?_⟩
    · simp only [W4.list, w0123, List.mem_cons, List.not_mem_nil, or_false] at hv'
      omega
    · obtain ⟨a, b, cc, d, e⟩ := len4 hlS
      have hk : ∀ k : Nat, k < 4 → at0 V1 k = at0 (modL f S) k := fun k hk => by
        rw [at0_pre p1 (by omega)]
        unfold hsXs
        exact at0_app (by omega) (by omega)
      show [at0 V1 (0 : Nat), at0 V1 (1 : Nat), at0 V1 (2 : Nat), at0 V1 (3 : Nat)] = _
      rw [hk 0 (by decide), hk 1 (by decide), hk 2 (by decide), hk 3 (by decide), e]
      rfl
  obtain ⟨V2, p2, l2, s2, f2, r2⟩ := sw.absorb (z := 4) (by omega) (by omega) (by omega)
  have h4 : at0 V1 4 = x % fP f := by
    rw [at0_pre p1 (by omega)]
    exact at0_mid (by rw [hlS]; rfl)
  rw [h4, f1, hf0, abs1_mod] at s2
  have eA : mAbsorb (hsH f l.length).1 w0123 4 = hsA f l.length := rfl
  rw [eA] at s2 f2 r2
  have hlen2 := s2.sm.len
  have ff : (hsA f l.length).1.f = f := f2.trans (f1.trans hf0)
  have h2 : 2 < fP (hsA f l.length).1.f := by
    rw [ff]
    rcases fV_cases hv with rfl | rfl | rfl | rfl <;> decide
  obtain ⟨V3, p3, l3, s3, f3, hy⟩ := s2.draw h2 (by omega) (by omega)
  have eD : mDraw (hsA f l.length).1 (hsA f l.length).2 = hsD f l.length := rfl
  rw [eD] at s3 f3 hy
  have p13 := p2.trans p3
  have hle13 := p13.length_le
  refine ⟨V3, s3.sm, by omega, by omega, s3.wi, hy, (at0_pre p13 a1).trans a3, (at0_pre p13 a2).trans a4, ?_⟩
  rw [s3.val, ff]
  show _ = drawM f (abs1 f (it (abs0 f) 4 S) x)
  rw [abs0_mod hv hS]

end Go.VE
/- attestorlaw30.values: a builder's program is run. -/
namespace Go.VE
open Go Go.Proofs
set_option maxRecDepth 20000
section
variable {ro : Nat} {s : St} {B : Nat} {oA : Option Nat} {d : Bd} {xs V : List Int} {c : Prop} {K : Value → St → Prop}
theorem fin_slb {si s : St} {v : Value} {n : Nat} {cs : List Value} {b : Bool} (hw : Wf si) (hg : Grew (ent si) s) (hs : Sl s v 1 n cs) (h : ∀ s', Grew si s' → Sl s' v 1 n cs → K (.tuple (.mk [v, .bool b])) s') : wfin si K (.tuple (.mk [v, .bool b])) s := by
  obtain ⟨a, c, e, _⟩ := id hs
  subst e
  cases a with
  | none => exact fin_flat rfl hg (h si (.refl _) (hs.flat rfl))
  | some x => exact wfin_new hw hg rfl fun s' hg' _ hat => h s' hg' (Sl.sameAt hs fun A o sp n c e => hat A)

theorem wValues (h : Liv ro s B oA d) (hs : Sm xs d V c) {u : Value} (hu : U64s s u xs) (hk : ∀ v s' b, (b = true ↔ c) → Grew s s' → U64s s' v V → K (.tuple (.mk [v, .bool b])) s') :
    CallWP P ro 18 [ptr B, u] s K := by
  refine call_wp b18 rfl ?_
  rw [n18]
  unfold v18
  simp (maxSteps := 10000000) only [wW, reduceCtorEq, Nat.reduceEqDiff]
  have hro := h.ron
  have hn0 : (Go.VE.ent s).n = s.n := rfl
  refine lGates h.ent hs.e fun w s4 g4 hw4 => ?_
  simp (maxSteps := 10000000) only [wW, reduceCtorEq, Nat.reduceEqDiff, List.getElem?_cons_zero, List.getElem?_cons_succ]
  refine alloc_rule ty_34 (h.ent.wf.grew g4) fun G s5 m5 => ?_
  have e5 := m5.eq
  have n5 := m5.n
  have g4n := g4.n
  have hwone : w.oneCell' = true := by
    obtain ⟨a, c, rfl, _⟩ := hw4
    rfl
  refine storeAll_rule isz_34 m5.here (l := d.gp.cells w) rfl (by decide) m5.wf (by omega) rfl (by simp only [Gp.cells, List.all_cons, hwone]; rfl) fun s6 p6 => ?_
  simp (maxSteps := 10000000) only [wW, reduceCtorEq, Nat.reduceEqDiff, wL, Nat.reduceAdd, acells_some p6.here]
  have keep : ∀ A, A < s4.n → s6.at A = s4.at A := fun A hA => (p6.rest A (by omega)).trans (m5.grew.same A hA)
  have hw6 : RowsS s6 w d.gp.rows := Sl.grew hw4 keep
  have hIn6 : U64s s6 u xs := Sl.grew (Sl.grew (Sl.ent hu) g4.same) keep
  have n6 := p6.n
  have hrl := h.ok.rows
  have hxl := hs.sl
  obtain ⟨k1, k2, k3⟩ := hs.done
  refine wRun d.gp hs.nn p6.wf (by omega) hw6 (by show d.rows.length < 2 ^ 60; omega) (U64s.nil s6) hIn6 (fun x hx => by cases hx) (fun x hx => (hs.inb x hx).1) (by decide) (by omega) (fun hb => absurd k1 hb) fun _ v7 s7 g7 hv7 => ?_
  have k3' : okM d.gp (runV d.gp [] xs).1 d.gp.rows.length = true ↔ c := k3
  generalize okM d.gp (runV d.gp [] xs).1 d.gp.rows.length = b at k3' ⊢
  rw [k2] at hv7
  simp (maxSteps := 10000000) only [wW, reduceCtorEq, Nat.reduceEqDiff, List.getElem?_cons_zero, List.getElem?_cons_succ]
  have gr : Grew (Go.VE.ent s) s7 := (p6.grew _ h.wf.ent (g4.trans m5.grew) (by omega)).trans g7
  cases b with
  | true =>
    simp (maxSteps := 10000000) only [wW, reduceCtorEq, Nat.reduceEqDiff]
    exact fin_slb h.wf gr hv7 fun s' hg hsl => hk _ s' true k3' hg hsl
  | false =>
    simp (maxSteps := 10000000) only [wW, reduceCtorEq, Nat.reduceEqDiff]
    exact fin_slb h.wf gr hv7 fun s' hg hsl => hk _ s' false k3' hg hsl

end
end Go.VE
/- CircuitHashes: what the law's function does, the inputs. -/
namespace Go.VE
open Go Go.Proofs
set_option maxRecDepth 20000
def imax (a b : Int) : Int := if a < b then b else a
def imin (a b : Int) : Int := if b < a then b else a
theorem imax_lt {a b n : Int} (h1 : a < n) (h2 : b < n) : imax a b < n := by unfold imax; split <;> assumption
theorem imin_ge {a b n : Int} (h1 : n ≤ a) (h2 : n ≤ b) : n ≤ imin a b := by unfold imin; split <;> assumption

section
variable {ro : Nat} {s : St} {K : Value → St → Prop}
/-- A number as a slice of its own, appended where an order was drawn. -/
theorem Ac.pushF {t e : TypeId} {bytes : Nat} {z : Value} (hse : sliceElem P t = some e) (hni : notInt P t = true) (hty : tyOk P e 1 bytes z = true) (hby : 0 < bytes) {s0 s : St} {v : Value} {n : Nat} {cs : List Value} {oA : Option Nat} (h : Ac e 1 s0 s v n cs oA) (hw0 : Wf s0) (hro : ro ≤ s0.n)
    {x : Value} (hx : x.cells.toList = [x]) (h1 : x.oneCell' = true) (hv : veq x x = true) (hlim : (2 * (n + 1) + 1000) * bytes ≤ 2 ^ 47) {ty ty' : TypeId} {K : Value → Value → St → Prop}
    (hk : ∀ v1 v2 A s2, Ac e 1 s0 s2 v2 (n + 1) (cs ++ [x]) (some A) → s.n ≤ A → (∀ C, C < s.n → oA ≠ some C → s2.at C = s.at C) → K v1 v2 s2) :
    wop P ro (.buildSlice t 1 ⟨[(0, .const x)]⟩) ty s fun v1 s1 => FreshOk s s1 ∧ wop P ro (.call ⟨.builtin .append, ⟨[.const v, .const v1]⟩, #[t, t]⟩) ty' s1 (fun v2 s2 => s1.n ≤ s2.n ∧ K v1 v2 s2) := by
  refine buildSlice_rule (sz := 1) hse hty h.wf [x] rfl rfl (by decide) (by simp [← Array.length_toList, hx]) fun A s1 m1 => ?_
  have hfl : ([x].flatMap (·.cells.toList)) = [x] := by simp [hx]
  rw [hfl] at m1
  refine ⟨m1.fresh (by simp [veqL, hv]), ?_⟩
  refine append_rule hse hni hty (by decide) hby (h.own.grew m1.grew) (m1.sl (n := 1) rfl) (by decide) m1.wf (fun B hB => Nat.le_trans hro (h.fresh B hB)) hlim (by simp [h1]) fun v2 s2 o2 a2 => ?_
  have hgn := h.grew.n
  have e1 := m1.eq
  have n1 := m1.n
  have n2 := a2.n
  refine ⟨by omega, hk _ v2 s1.n s2 ⟨o2, fun B hB => by cases hB; omega, a2.wf, a2.grew s0 hw0 (h.grew.trans m1.grew) h.fresh⟩ (by omega) fun C hC hne => ?_⟩
  rw [a2.rest C (by omega) hne]
  exact m1.grew.same C hC

theorem max6 (a b c d e f : Int) (ty : TypeId) (s : St) (K : Value → St → Prop) : wop P ro (.call ⟨.builtin .max, ⟨[.const (.int .i64 a), .const (.int .i64 b), .const (.int .i64 c), .const (.int .i64 d), .const (.int .i64 e), .const (.int .i64 f)]⟩, #[3, 3, 3, 3, 3, 3]⟩) ty s K =
    K (.int .i64 (imax (imax (imax (imax (imax a b) c) d) e) f)) s := by kernel_rfl
theorem min3 (a b c : Int) (ty : TypeId) (s : St) (K : Value → St → Prop) : wop P ro (.call ⟨.builtin .min, ⟨[.const (.int .i64 a), .const (.int .i64 b), .const (.int .i64 c)]⟩, #[3, 3, 3]⟩) ty s K =
    K (.int .i64 (imin (imin a b) c)) s := by kernel_rfl

end
end Go.VE
/- CircuitHashes: what the law's function does. -/
namespace Go.VE
open Go Go.Proofs
set_option maxRecDepth 20000
section
variable {ro : Nat} {s : St} {K : Value → St → Prop}
theorem Liv.made {B : Nat} {oA : Option Nat} {d : Bd} (h : Liv ro s B oA d) {A : Nat} {o : AO} {s1 : St} (m : Made s A o s1) : Liv ro s1 B oA d ∧ Lc s1 B oA A o ∧ s.n ≤ A ∧ s1.n = s.n + 1 := by
  have e := m.eq
  have hB := h.lt
  exact ⟨h.grew m.grew, ⟨m.here, by omega, fun e2 => by have := (h.hA A e2).2.2; omega⟩, by omega, m.n⟩
theorem Liv.putL {B : Nat} {oA : Option Nat} {d : Bd} (h : Liv ro s B oA d) {A : Nat} {o o' : AO} {s1 : St} (a : Lc s B oA A o) (hA : ro ≤ A) (p : Put s A o' s1) : Liv ro s1 B oA d ∧ Lc s1 B oA A o' := ⟨h.put p ⟨hA, a.ne, a.own⟩, p.here, a.ne, a.own⟩
theorem Ac.offS {e : TypeId} {s0 : St} {v : Value} {n : Nat} {cs : List Value} {oA : Option Nat} (h : Ac e 1 s0 s v n cs oA) : OffS s.n none s.n v := fun A o sp k c e' => by
  cases oA with
  | none => obtain ⟨e2, _⟩ := h.own; rw [e2] at e'; cases e'
  | some A' =>
    have hlt := h.own.lt
    obtain ⟨e2, _⟩ := h.own
    rw [e2] at e'
    cases e'
    exact ⟨hlt, by omega, fun e3 => by cases e3⟩

theorem ip2_0' (A : Nat) : aindexAddr P 47 (ptr A) (.int .i64 0) = some (.pointer (some ⟨A, 0, none⟩)) := by kernel_rfl
theorem ip2_1' (A : Nat) : aindexAddr P 47 (ptr A) (.int .i64 1) = some (.pointer (some ⟨A, 1, none⟩)) := by kernel_rfl
theorem ia4_2 (A : Nat) : aindexAddr P 53 (ptr A) (.int .i64 2) = some (.pointer (some ⟨A, 2, none⟩)) := by kernel_rfl
theorem ia4_3 (A : Nat) : aindexAddr P 53 (ptr A) (.int .i64 3) = some (.pointer (some ⟨A, 3, none⟩)) := by kernel_rfl

theorem sx2 (A o : Nat) : aindexAddr P 58 (.pointer (some ⟨A, o, none⟩)) (.int .i64 2) = some (.pointer (some ⟨A, o + 2, none⟩)) := by kernel_rfl
theorem sx3 (A o : Nat) : aindexAddr P 58 (.pointer (some ⟨A, o, none⟩)) (.int .i64 3) = some (.pointer (some ⟨A, o + 3, none⟩)) := by kernel_rfl
theorem dg0 (A : Nat) : aindexAddr P 43 (ptr A) (.int .i64 0) = some (.pointer (some ⟨A, 0, none⟩)) := by kernel_rfl
theorem dg1 (A : Nat) : aindexAddr P 43 (ptr A) (.int .i64 1) = some (.pointer (some ⟨A, 1, none⟩)) := by kernel_rfl
theorem buildChan (f a b c d : Int) : abuild P 65 (partVals .e [(0, .const (.int .i64 f)), (1, .const (.agg (.mk (u4 [a, b, c, d]))))]) = some (.agg (.mk (chan f [a, b, c, d]))) := by kernel_rfl

theorem abs_len (f : Int) {S : List Int} (hS : S.length = 4) (x : Int) : (absGo f [x] (it (abs0 f) 4 S)).length = 4 := by
  have h0 : (it (abs0 f) 4 S).length = 4 := by rw [it_len (abs0_len f), hS]
  generalize it (abs0 f) 4 S = q at h0 ⊢
  rw [absGo, absGo, abs1]
  exact pst_len f (by rw [List.length_set, hSt1_len f h0]) 8
theorem abs_nn (f : Int) {S : List Int} (hS : S.length = 4) (hS0 : ∀ y ∈ S, (0 : Int) ≤ y) (x : Int) : ∀ y ∈ absGo f [x] (it (abs0 f) 4 S), (0 : Int) ≤ y := by
  have h0 : ∀ y ∈ it (abs0 f) 4 S, (0 : Int) ≤ y := it_nn (abs0_nn f) hS0 4
  generalize it (abs0 f) 4 S = q at h0 ⊢
  rw [absGo, absGo, abs1]
  exact pst_nn (nn_set (hSt1_nn h0 x) (fAdd_bounds _ _ _).1) 8

theorem modL_take (f : Int) (l : List Int) {i : Nat} (h : i < l.length) : modL f (l.take (i + 1)) = modL f (l.take i) ++ [l[i] % fP f] := by
  unfold modL
  rw [take_succ_eq (List.getElem?_eq_getElem h), List.map_append]
  rfl

theorem wHs {f x : Int} {l S : List Int} {u : Value} (hu : U64s s u l) (hl0 : ∀ y ∈ l, 0 ≤ y) (hS : S.length = 4) (hS0 : ∀ y ∈ S, 0 ≤ y) (hx : 0 ≤ x)
    (hw : Wf s) (hF : FieldsAt s) (hro : ro ≤ s.n) (hr0 : 0 < ro) : CallWP P ro 6 [.int .i64 f, u, .agg (.mk (u4 S)), .int .u64 x] s fun v _ => v = .bool true := by
  refine call_wp b6 rfl ?_
  rw [n6]
  unfold v6
  simp (maxSteps := 10000000) only [wW, reduceCtorEq, Nat.reduceEqDiff]
  refine box_rule hw.ent fun X s1 m1 => ?_
  have e1 := m1.eq
  have n1 := m1.n
  have hn0 : (ent s).n = s.n := rfl
  rw [wrValid]
  cases hv : fV f with
  | false =>
    simp (maxSteps := 10000000) only [wW, reduceCtorEq, Nat.reduceEqDiff, wLiv]
    exact fin_K fun _ => rfl
  | true =>
    simp (maxSteps := 10000000) only [wW, reduceCtorEq, Nat.reduceEqDiff, Sl.wlen hu se_23]
    by_cases h8 : (l.length : Int) > 8
    · rw [if_pos h8, wLiv]
      exact fin_K fun _ => rfl
    · rw [if_neg h8]
      have hlen : l.length < 2 ^ 60 := by omega
      have hpp := fP_pos hv
      have hX1 : s1.at X = some (.cells (u4 S) 58 false) := m1.here
      refine wloop l6_1110100 m6_1110100 (fun (i : Nat) τ ds s' => i ≤ 4 ∧ τ 0 = .int .i64 f ∧ τ 1 = u ∧ τ 3 = .int .u64 x ∧ τ 6 = ptr X ∧ τ 10 = .int .i64 i ∧ ds = [] ∧ ∃ oA, Ac 24 1 s1 s' (τ 9) i ((modL f (S.take i)).map (.int .u64)) oA) (fun i => 4 - i) ?_ 0 ⟨by omega, ?_, ?_, ?_, ?_, ?_, rfl, none, ?_⟩
      · rintro i τ ds s' ⟨hi, t0, t1, t3, t6, t10, rfl, oA, hA⟩
        rw [n6_1110100]
        unfold v6_1110100
        simp (maxSteps := 10000000) only [wW, reduceCtorEq, Nat.reduceEqDiff, t10]
        by_cases hlt : i < 4
        · rw [if_pos (by omega)]
          have hX' := (hA.grew.same X (by omega)).trans hX1
          have hg : (u4 S)[i]? = some (.int .u64 (at0 S i)) := u4_get (by omega)
          have hSi : 0 ≤ at0 S i := at0_nn hS0 _
          simp (maxSteps := 10000000) only [wW, reduceCtorEq, Nat.reduceEqDiff, wL, Nat.reduceAdd, t0, t6, six X 0 hlt, acells_some hX', hg, wrP]
          refine ⟨by simp [veq], .refl _, ?_⟩
          rw [int_rem keq_u64 _ _ (by omega), wopt_some, tmod_nonneg hSi]
          refine hA.pushF se_23 (by kernel_rfl) ty_24 (by decide) m1.wf (by omega) rfl rfl (by simp [veq]) (by omega) fun v1 v2 A s3 a3 _ _ => ?_
          rw [wrap_i64 (by omega) (by omega)]
          refine ⟨i + 1, by omega, by omega, ?_, ?_, ?_, ?_, ?_, trivial, some A, ?_⟩
          · simp only [U, tset_eq, wW, reduceCtorEq, Nat.reduceEqDiff, t0]
          · simp only [U, tset_eq, wW, reduceCtorEq, Nat.reduceEqDiff, t1]
          · simp only [U, tset_eq, wW, reduceCtorEq, Nat.reduceEqDiff, t3]
          · simp only [U, tset_eq, wW, reduceCtorEq, Nat.reduceEqDiff, t6]
          · simp only [U, tset_eq, wW, reduceCtorEq, Nat.reduceEqDiff]; rfl
          · have e : (modL f (S.take (i + 1))).map (Value.int .u64) = (modL f (S.take i)).map (.int .u64) ++ [.int .u64 (at0 S i % fP f)] := by
              rw [modL_take f S (by omega), List.map_append]
              congr 3
              unfold at0
              rw [Int.toNat_natCast, List.getElem?_eq_getElem (by omega)]
              rfl
            rw [e]
            simp only [U, tset_eq, wW, reduceCtorEq, Nat.reduceEqDiff]
            exact a3
        · obtain rfl : i = 4 := by omega
          rw [if_neg (by omega)]
          have hSt : S.take 4 = S := List.take_of_length_le (by omega)
          rw [hSt] at hA
          simp (maxSteps := 10000000) only [wW, reduceCtorEq, Nat.reduceEqDiff, U, tset_eq, t0, t3, wrP]
          rw [int_rem keq_u64 _ _ (by omega), wopt_some, tmod_nonneg hx]
          refine hA.push se_23 (by kernel_rfl) ty_24 (by decide) (by decide) (by decide) m1.wf (by omega) (x := .int .u64 (x % fP f)) rfl rfl rfl (by omega) fun v1 v2 A s3 a3 _ _ => ?_
          have hbase : (modL f S).map (Value.int .u64) ++ (Value.int .u64 (x % fP f)).cells.toList = (modL f S ++ x % fP f :: modL f (l.take 0)).map (.int .u64) := by simp [modL, Value.cells]
          rw [hbase] at a3
          clear hA
          have hs3 := a3.grew.n
          refine wloop l6_111110100 m6_111110100 (fun (j : Nat) τ ds s' => j ≤ l.length ∧ τ 0 = .int .i64 f ∧ τ 1 = u ∧ τ 3 = .int .u64 x ∧ τ 6 = ptr X ∧ τ 11 = .int .i64 j ∧ ds = [] ∧ ∃ oA, Ac 24 1 s1 s' (τ 9) (5 + j) ((modL f S ++ x % fP f :: modL f (l.take j)).map (.int .u64)) oA) (fun j => l.length - j) ?_ 0 ⟨by omega, ?_, ?_, ?_, ?_, ?_, rfl, some A, ?_⟩
          · clear t0 t1 t3 t6 t10
            rintro j τ ds s' ⟨hj, t0, t1, t3, t6, t11, rfl, oA, hA⟩
            rw [n6_111110100]
            unfold v6_111110100
            have hus : U64s s' u l := Sl.grew ((Sl.ent hu).grew m1.grew.same) hA.grew.same
            simp (maxSteps := 10000000) only [wW, reduceCtorEq, Nat.reduceEqDiff, t1, t11, Sl.wlen hus se_23]
            by_cases hlt : j < l.length
            · rw [if_pos (by omega)]
              obtain ⟨A5, o5, c5, z1, z2, z3⟩ := hus.at1 (i := ((j : Nat) : Int)) (x := l[j]) (by omega) (by rw [Int.toNat_natCast]; exact List.getElem?_eq_getElem hlt)
              simp (maxSteps := 10000000) only [wW, reduceCtorEq, Nat.reduceEqDiff, wL, Nat.reduceAdd, t0, z1, z2, z3, wrP]
              refine ⟨by simp [veq], .refl _, ?_⟩
              rw [int_rem keq_u64 _ _ (by omega), wopt_some, tmod_nonneg (hl0 _ (List.getElem_mem _))]
              refine hA.pushF se_23 (by kernel_rfl) ty_24 (by decide) m1.wf (by omega) rfl rfl (by simp [veq]) (by omega) fun v1 v2 A s3 a3 _ _ => ?_
              rw [wrap_i64 (by omega) (by omega)]
              refine ⟨j + 1, by omega, by omega, ?_, ?_, ?_, ?_, ?_, trivial, some A, ?_⟩
              · simp only [U, tset_eq, wW, reduceCtorEq, Nat.reduceEqDiff, t0]
              · simp only [U, tset_eq, wW, reduceCtorEq, Nat.reduceEqDiff, t1]
              · simp only [U, tset_eq, wW, reduceCtorEq, Nat.reduceEqDiff, t3]
              · simp only [U, tset_eq, wW, reduceCtorEq, Nat.reduceEqDiff, t6]
              · simp only [U, tset_eq, wW, reduceCtorEq, Nat.reduceEqDiff]; rfl
              · have e : (modL f S ++ x % fP f :: modL f (l.take (j + 1))).map (Value.int .u64) = (modL f S ++ x % fP f :: modL f (l.take j)).map (.int .u64) ++ [.int .u64 (l[j] % fP f)] := by
                  rw [modL_take f l hlt]
                  simp
                rw [e]
                simp only [U, tset_eq, wW, reduceCtorEq, Nat.reduceEqDiff]
                exact a3
            · obtain rfl : j = l.length := by omega
              rw [if_neg (by omega)]
              rw [List.take_length] at hA
              have hIn : U64s s' (τ 9) (hsXs f l S x) := by
                have e := hA.own.sl
                unfold U64s
                rw [show (hsXs f l S x).length = 5 + l.length by unfold hsXs modL; simp; omega]
                exact e
              have hoff := hA.offS
              have hgn := hA.grew.n
              have hF' : FieldsAt s' := FieldsAt.grew (FieldsAt.grew (s := ent s) hF m1.grew) hA.grew
              have hxl : (hsXs f l S x).length = 5 + l.length := by unfold hsXs modL; simp; omega
              generalize hin : τ 9 = iv at *
              simp (maxSteps := 10000000) only [U, tset_eq, wW, reduceCtorEq, Nat.reduceEqDiff, hin, t0, t1, hIn.wlen se_23, hxl]
              refine lNew f 0 _ hA.wf hF' (by omega) hr0 (fun hb => absurd ⟨hv, by decide, by omega, by omega⟩ hb) fun _ _ _ sa ga la => ?_
              rw [Int.zero_add] at la
              have e0 : (⟨f, ((5 + l.length : Nat) : Int), 0, ((5 + l.length : Nat) : Int), [], 0⟩ : Bd) = hsD0 f (5 + l.length) := rfl
              rw [e0] at la
              simp (maxSteps := 10000000) only [wW, reduceCtorEq, Nat.reduceEqDiff, List.getElem?_cons_zero, List.getElem?_cons_succ]
              rw [Sl.wlen hu se_23]
              have gan := ga.n
              refine wFrom 5 (by decide) (n := l.length) (by omega) la.wf (by omega) fun v sb gb hvb hfv => ?_
              have lb := la.grew gb
              have hB := la.lt
              have gbn := gb.n
              have hIn2 : U64s sb iv (hsXs f l S x) := Sl.grew hIn (ga.trans gb).same
              refine lHash lb hvb (by simp [upTo]; omega) (fun A o sp k c e => ⟨(hfv A o sp k c e).2, by have := (hfv A o sp k c e).1; omega, fun e => by cases e⟩) fun sc oc lc mc => ?_
              have hIn3 := hoff.sl (by omega) mc hIn2
              have off3 := hoff.mut (by omega) mc
              have mcn := mc.n
              have eH : mHash (hsD0 f (5 + l.length)) (upTo 5 l.length) = hsH f l.length := rfl
              rw [eH] at lc ⊢
              obtain ⟨V, ok⟩ := hs_plain (x := x) (l := l) hv (by omega) hS
              refine alloc_rule ty_47 lc.wf fun H sd md => ?_
              obtain ⟨ld, hH, nH, nd⟩ := lc.made md
              refine storeAll_rule isz_47 hH.here (l := p2c (hsH f l.length).2) rfl (by decide) ld.wf (by omega) rfl rfl fun se pe => ?_
              obtain ⟨le, hHe⟩ := ld.putL hH (by omega) pe
              have pen := pe.n
              have hIn5 : U64s se iv (hsXs f l S x) := off3.slPut (by omega) pe (Sl.grew hIn3 md.grew.same)
              rw [build4w, wopt_some]
              refine lAbsorb le w0123 4 fun sf oF lf mf => ?_
              have eA : mAbsorb (hsH f l.length).1 w0123 4 = hsA f l.length := rfl
              rw [eA] at lf ⊢
              have mfn := mf.n
              have hHf := hHe.mut mf
              have hIn6 := off3.sl (by omega) mf hIn5
              have off6 := off3.mut (by omega) mf
              refine alloc_rule ty_53 lf.wf fun C sg mg => ?_
              obtain ⟨lg, hC, nC, ng⟩ := lf.made mg
              have hHlt := hHf.lt
              refine storeAll_rule isz_53 hC.here (l := (hsA f l.length).2.cells) rfl (by decide) lg.wf (by omega) rfl rfl fun sh ph => ?_
              obtain ⟨lh, hCh⟩ := lg.putL hC (by omega) ph
              have phn := ph.n
              have hHh := (hHf.grew mg.grew).put ph (by omega)
              have hIn7 : U64s sh iv (hsXs f l S x) := off6.slPut (by omega) ph (Sl.grew hIn6 mg.grew.same)
              refine load_rule (load_all ap_53 hCh.here rfl) ?_
              refine lDraw lh (hsA f l.length).2 fun si oi li mi => ?_
              have eD : mDraw (hsA f l.length).1 (hsA f l.length).2 = hsD f l.length := rfl
              rw [eD] at li ⊢
              have min := mi.n
              have hHi := hHh.mut mi
              have hIn8 := off6.sl (by omega) mi hIn7
              have off8 := off6.mut (by omega) mi
              obtain ⟨osm, oh0, oh1, owi, oy, ov0, ov1, oval⟩ := ok
              generalize hEH : hsH f l.length = eh at *
              generalize hED : hsD f l.length = ed at *
              obtain ⟨dh, h0, h1⟩ := eh
              obtain ⟨dd, wd, y⟩ := ed
              simp only at oh0 oh1 ov0 ov1 oy owi oval osm li hHi ⊢
              subst oy
              simp (maxSteps := 10000000) only [wW, reduceCtorEq, Nat.reduceEqDiff, List.getElem?_cons_zero, List.getElem?_cons_succ]
              refine alloc_rule ty_53 li.wf fun D sj mj => ?_
              obtain ⟨lj, hD, nD, nj⟩ := li.made mj
              have hHlt2 := hHi.lt
              refine storeAll_rule isz_53 hD.here (l := wd.cells) rfl (by decide) lj.wf (by omega) rfl rfl fun sk pk => ?_
              obtain ⟨lk, hDk⟩ := lj.putL hD (by omega) pk
              have pkn := pk.n
              have hHk := (hHi.grew mj.grew).put pk (by omega)
              have hIn9 : U64s sk iv (hsXs f l S x) := off8.slPut (by omega) pk (Sl.grew hIn8 mj.grew.same)
              refine wValues lk osm hIn9 fun vv sl b hb gl hvv => ?_
              obtain rfl : b = true := hb.2 trivial
              have hHl := hHk.grew gl
              have hDl := hDk.grew gl
              clear hHe hHf hHh hHi hHk hDk hIn hIn2 hIn3 hIn5 hIn6 hIn7 hIn8 hIn9
              have eW := oval
              simp only [W4.list, List.map_cons, List.map_nil] at eW
              simp only [W4.list, List.mem_cons, List.not_mem_nil, or_false, forall_eq_or_imp, forall_eq] at owi
              obtain ⟨w0, w1, w2, w3⟩ := owi
              have gH0 : (p2c (h0, h1))[0]? = some (.int .i64 h0) := rfl
              have gH1 : (p2c (h0, h1))[1]? = some (.int .i64 h1) := rfl
              have gD0 : wd.cells[0]? = some (.int .i64 wd.a) := rfl
              have gD1 : wd.cells[1]? = some (.int .i64 wd.b) := rfl
              have gD2 : wd.cells[2]? = some (.int .i64 wd.c) := rfl
              have gD3 : wd.cells[3]? = some (.int .i64 wd.d) := rfl
              have hlen9 : ∀ i : Int, 0 ≤ i → i < V.length → V[i.toNat]? = some (at0 V i) := fun i a b => at0_get a b
              simp (maxSteps := 10000000) only [wW, reduceCtorEq, Nat.reduceEqDiff, wL, Nat.reduceAdd, List.getElem?_cons_zero, List.getElem?_cons_succ, acells_some hHl.here, acells_some hDl.here, ip2_0', ip2_1', ia4_0, ia4_1, ia4_2, ia4_3, gH0, gH1, gD0, gD1, gD2, gD3]
              rw [if_neg (by omega), if_neg (by omega), if_neg (by omega), if_neg (by simp), max6]
              simp (maxSteps := 10000000) only [wW, reduceCtorEq, Nat.reduceEqDiff, hvv.wlen se_23]
              have hmx : imax (imax (imax (imax (imax h0 h1) wd.a) wd.b) wd.c) wd.d < V.length := imax_lt (imax_lt (imax_lt (imax_lt (imax_lt oh0.2 oh1.2) w0.2) w1.2) w2.2) w3.2
              have hmn : 0 ≤ imin (imin wd.a wd.b) wd.c := imin_ge (imin_ge w0.1 w1.1) w2.1
              rw [if_neg (by omega)]
              simp (maxSteps := 10000000) only [wW, reduceCtorEq, Nat.reduceEqDiff, acells_some hDl.here, gD0, gD1, gD2, gD3, min3]
              rw [if_neg (by omega)]
              have ocn : ∀ A, A < s'.n → oc ≠ some A := fun A hA => mc.own_ne (by omega) (fun e => by cases e)
              have ofn : ∀ A, A < s'.n → oF ≠ some A := fun A hA => mf.own_ne (by omega) (ocn A hA)
              have keep : ∀ A, A < s'.n → sl.at A = s'.at A := fun A hA => by
                rw [gl.same A (by omega), pk.rest A (by omega), mj.grew.same A (by omega), mi.same A (by omega) (by omega) (ofn A hA), ph.rest A (by omega), mg.grew.same A (by omega), mf.same A (by omega) (by omega) (ocn A hA), pe.rest A (by omega), md.grew.same A (by omega), mc.same A (by omega) (by omega) (fun e => by cases e), (ga.trans gb).same A hA]
              have hul : U64s sl u l := Sl.grew hus keep
              have lwf := lk.wf.grew gl
              have gln := gl.n
              rw [wHash f hv hul hlen hl0 lwf (by omega)]
              refine alloc_rule ty_43 lwf fun W sm mm => ?_
              have eW1 := mm.eq
              have nW := mm.n
              refine storeAll_rule isz_43 mm.here (l := d2 (hEnd f l)) rfl (by decide) mm.wf (by omega) rfl rfl fun sn pn => ?_
              have pnn := pn.n
              have hX9 : sn.at X = some (.cells (u4 S) 58 false) := by
                rw [pn.rest X (by omega), mm.grew.same X (by omega), keep X (by omega), hA.grew.same X (by omega)]
                exact hX1
              rw [t6, load_all ap_58 hX9 (by rw [u4_len]; exact hS), wopt_some]
              obtain ⟨sa0, sb0, sc0, sd0, hSe⟩ := len4 hS
              have hbc : abuild P 65 (partVals .e [(0, .const (.int .i64 f)), (1, .const (.agg (.mk (u4 S))))]) = some (.agg (.mk (chan f S))) := by rw [hSe]; exact buildChan _ _ _ _ _
              rw [hbc, wopt_some]
              refine alloc_rule ty_65 pn.wf fun Z so mo => ?_
              have eZ1 := mo.eq
              have nZ := mo.n
              refine storeAll_rule isz_65 mo.here (l := chan f S) (chan_len hS) (by decide) mo.wf (by omega) rfl (chan_one _ _) fun sp pp => ?_
              have ppn := pp.n
              rw [load_all ap_65 pp.here (chan_len hS), wopt_some, t3]
              refine buildSlice_rule se_23 ty_24 pp.wf [.int .u64 x] rfl rfl (by decide) (by simp [Value.cells]) fun Y sq mq => ?_
              have nY := mq.n
              have eY := mq.eq
              have hus1 : U64s sq (.slice (some ⟨Y, 0, none⟩) 1 1) [x] := mq.sl rfl
              rw [wAbsorb f hv hS hS0 hus1 (by simp) (by simpa using hx) mq.wf (by omega)]
              have hq4 := abs_len f hS x
              have hqn := abs_nn f hS hS0 x
              have hM4 : (drawM f (absGo f [x] (it (abs0 f) 4 S))).length = 4 := by rw [← eW]; rfl
              rw [wDraw f hv hq4 hqn mq.wf (by omega)]
              generalize drawM f (absGo f [x] (it (abs0 f) 4 S)) = M at *
              simp (maxSteps := 10000000) only [wW, reduceCtorEq, Nat.reduceEqDiff, List.getElem?_cons_zero, List.getElem?_cons_succ]
              have hZq : sq.at Z = some (.cells (chan f S) 65 false) := (mq.grew.same Z (by omega)).trans pp.here
              refine storeAll_rule isz_65 hZq (l := chan f M) (chan_len hM4) (by decide) mq.wf (by omega) (chan_len hS) (chan_one _ _) fun sr pr => ?_
              have keep2 : ∀ A, A < sl.n → sr.at A = sl.at A := fun A hA => by
                rw [pr.rest A (by omega), mq.grew.same A (by omega), pp.rest A (by omega), mo.grew.same A (by omega), pn.rest A (by omega), mm.grew.same A hA]
              have hVr : U64s sr vv V := Sl.grew hvv keep2
              have hHr : sr.at H = _ := (keep2 H hHl.lt).trans hHl.here
              have hDr : sr.at D = _ := (keep2 D hDl.lt).trans hDl.here
              have hWr : sr.at W = some (.cells (d2 (hEnd f l)) 43 false) := by
                rw [pr.rest W (by omega), mq.grew.same W (by omega), pp.rest W (by omega), mo.grew.same W (by omega)]
                exact pn.here
              have gW0 : (d2 (hEnd f l))[0]? = some (.int .u64 (at0 (hEnd f l) 0)) := rfl
              have gW1 : (d2 (hEnd f l))[1]? = some (.int .u64 (at0 (hEnd f l) 1)) := rfl
              subst eW
              have gM0 : (chan f [at0 V wd.a, at0 V wd.b, at0 V wd.c, at0 V wd.d])[1]? = some (.int .u64 (at0 V wd.a)) := rfl
              have gM1 : (chan f [at0 V wd.a, at0 V wd.b, at0 V wd.c, at0 V wd.d])[2]? = some (.int .u64 (at0 V wd.b)) := rfl
              have gM2 : (chan f [at0 V wd.a, at0 V wd.b, at0 V wd.c, at0 V wd.d])[3]? = some (.int .u64 (at0 V wd.c)) := rfl
              have gM3 : (chan f [at0 V wd.a, at0 V wd.b, at0 V wd.c, at0 V wd.d])[4]? = some (.int .u64 (at0 V wd.d)) := rfl
              have gM : at0 [at0 V wd.a, at0 V wd.b, at0 V wd.c, at0 V wd.d] 0 = at0 V wd.a := rfl
              obtain ⟨A1, o1, c1, x1, x2, x3⟩ := hVr.at1 oh0.1 (hlen9 _ oh0.1 oh0.2)
              obtain ⟨A2, o2, c2, y1, y2, y3⟩ := hVr.at1 oh1.1 (hlen9 _ oh1.1 oh1.2)
              obtain ⟨A3, o3, c3, z1, z2, z3⟩ := hVr.at1 w0.1 (hlen9 _ w0.1 w0.2)
              obtain ⟨A4, o4, c4, v1, v2, v3⟩ := hVr.at1 w1.1 (hlen9 _ w1.1 w1.2)
              obtain ⟨A5, o5, c5, q1, q2, q3⟩ := hVr.at1 w2.1 (hlen9 _ w2.1 w2.2)
              obtain ⟨A6, o6, c6, r1, r2, r3⟩ := hVr.at1 w3.1 (hlen9 _ w3.1 w3.2)
              have hi : ∀ z : Int, veq (.int .u64 z) (.int .u64 z) = true := fun z => by simp [veq]
              have hi2 : ∀ z : Int, veq (.int .i64 z) (.int .i64 z) = true := fun z => by simp [veq]
              simp (maxSteps := 10000000) only [wW, reduceCtorEq, Nat.reduceEqDiff, wL, Nat.reduceAdd, List.getElem?_cons_zero, List.getElem?_cons_succ, acells_some hHr, acells_some hDr, acells_some hWr, acells_some pr.here, ip2_0', ip2_1', ia4_0, ia4_1, ia4_2, ia4_3, gH0, gH1, gD0, gD1, gD2, gD3, gW0, gW1, gM0, gM1, gM2, gM3, gM, x1, x2, x3, y1, y2, y3, z1, z2, z3, v1, v2, v3, q1, q2, q3, r1, r2, r3, hi, hi2, ov0, ov1, fa_65_1, sx0, sx1, sx2, sx3, dg0, dg1, true_and, wLiv]
              exact fin_K fun _ => rfl
          · simp only [U, tset_eq, wW, reduceCtorEq, Nat.reduceEqDiff, t0]
          · simp only [U, tset_eq, wW, reduceCtorEq, Nat.reduceEqDiff, t1]
          · simp only [U, tset_eq, wW, reduceCtorEq, Nat.reduceEqDiff, t3]
          · simp only [U, tset_eq, wW, reduceCtorEq, Nat.reduceEqDiff, t6]
          · simp only [U, tset_eq, wW, reduceCtorEq, Nat.reduceEqDiff]; rfl
          · simp only [U, tset_eq, wW, reduceCtorEq, Nat.reduceEqDiff]
            exact a3
      · simp only [U, tset_eq, wW, reduceCtorEq, Nat.reduceEqDiff]
      · simp only [U, tset_eq, wW, reduceCtorEq, Nat.reduceEqDiff]
      · simp only [U, tset_eq, wW, reduceCtorEq, Nat.reduceEqDiff]
      · simp only [U, tset_eq, wW, reduceCtorEq, Nat.reduceEqDiff]
      · simp only [U, tset_eq, wW, reduceCtorEq, Nat.reduceEqDiff]; rfl
      · simp only [U, tset_eq, wW, reduceCtorEq, Nat.reduceEqDiff]
        exact .nil m1.wf (.refl _)

end
end Go.VE
/- CircuitHashes at every start. -/
namespace Go.VE
open Go Go.Proofs
set_option maxRecDepth 20000
theorem u64_nn {V : List Int} (h : ∀ i ∈ V, (Lit.int .u64 i).wf = true) : ∀ i ∈ V, 0 ≤ i := fun i hi => (wf_u64 (h i hi)).1

theorem hs_args {al : List Value} {s : St} (h : Args P 8 [3, 23, 58, 24] al s) : ∃ f u l S x, al = [.int .i64 f, u, .agg (.mk (u4 S)), .int .u64 x] ∧ U64s s u l ∧ (∀ y ∈ l, 0 ≤ y) ∧ S.length = 4 ∧ (∀ y ∈ S, 0 ≤ y) ∧ 0 ≤ x := by
  obtain ⟨v1, r1, a1, rfl, hv1, hm1, v2, r2, a2, rfl, hv2, hm2, v3, r3, a3, rfl, hv3, hm3, v4, r4, a4, rfl, hv4, hm4, rfl⟩ := h
  rw [av_3] at hv1
  subst hv1
  rw [av_23] at hv2
  subst hv2
  rw [av_58] at hv3
  subst hv3
  rw [av_24] at hv4
  subst hv4
  rw [me_3] at hm1
  obtain ⟨f, e1, _⟩ := hm1
  simp only [List.cons.injEq, and_true] at e1
  subst e1
  rw [me_24] at hm4
  obtain ⟨x, e4, hx⟩ := hm4
  simp only [List.cons.injEq, and_true] at e4
  subst e4
  rw [me_23] at hm2
  obtain ⟨u, l, e2, hlen, hs, hl⟩ := hm2
  simp only [List.cons.injEq, and_true] at e2
  subst e2
  simp only [me_24] at hl
  obtain ⟨V, hV, hn, hVw⟩ := ints_flat hl
  rw [me_58] at hm3
  obtain ⟨m, rfl, hm, hml⟩ := hm3
  simp only [me_24] at hml
  obtain ⟨S, hS, hSn, hSw⟩ := ints_flat hml
  refine ⟨f, v2, V, S, x, by rw [hS]; rfl, ?_, u64_nn hVw, by omega, u64_nn hSw, (wf_u64 hx).1⟩
  unfold U64s
  rw [hn, ← hV]
  exact hs

theorem hs_runs (laid : List (String × DataW Unit)) (h : startB laid = true) : LawRuns P 30 8 6 [3, 23, 58, 24] laid :=
  law_runs' h fun s al hw hF h0 ha => by
    obtain ⟨f, u, l, S, x, rfl, hu, hl0, hS, hS0, hx⟩ := hs_args ha
    exact wHs hu hl0 hS hS0 hx hw hF (Nat.le_refl _) h0

end Go.VE
