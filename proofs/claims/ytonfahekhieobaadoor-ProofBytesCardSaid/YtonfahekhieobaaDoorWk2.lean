/-
  What the functions compute.
-/
import Derived.Test.YtonfahekhieobaaDoorWk1
set_option linter.unusedSimpArgs false
set_option linter.unusedVariables false
/- proof.places. -/
namespace Go.VE
open Go Go.Proofs
set_option maxRecDepth 20000
abbrev fnV (f : Nat) : Value := .func (.func f) (.mk []) (.mk [])
def plC : List Value := [.nilFunc, fnV 75, fnV 76, fnV 77, fnV 78, fnV 79, fnV 80, fnV 81, fnV 82, fnV 83, fnV 84, fnV 85]
theorem bldPl (s : St) : abuildSlice P s 84 12 [(1, fnV 75), (2, fnV 76), (3, fnV 77), (4, fnV 78), (5, fnV 79), (6, fnV 80), (7, fnV 81), (8, fnV 82), (9, fnV 83), (10, fnV 84), (11, fnV 85)] =
    some (.slice (some ⟨s.n, 0, none⟩) 12 12, s.new (.cells plC 83 false)) := by kernel_rfl
def lstC (k : Nat) (p : Value) : List Value :=
  if k = 6 ∨ k = 8 then [p, .pointer none, .pointer none, .pointer none]
  else if k = 2 ∨ k = 7 then [.pointer none, .pointer none, p, .pointer none]
  else if k = 10 then [.pointer none, .pointer none, .pointer none, p]
  else [.pointer none, p, .pointer none, .pointer none]
abbrev ptrO (A o : Nat) : Value := .pointer (some ⟨A, o, none⟩)
theorem bldL0 (A o : Nat) : abuild P 82 (partVals .e [(0, .const (ptrO A o))]) = some (.agg (.mk [ptrO A o, .pointer none, .pointer none, .pointer none])) := by kernel_rfl
theorem bldL1 (A o : Nat) : abuild P 82 (partVals .e [(1, .const (ptrO A o))]) = some (.agg (.mk [.pointer none, ptrO A o, .pointer none, .pointer none])) := by kernel_rfl
theorem bldL2 (A o : Nat) : abuild P 82 (partVals .e [(2, .const (ptrO A o))]) = some (.agg (.mk [.pointer none, .pointer none, ptrO A o, .pointer none])) := by kernel_rfl
theorem bldL3 (A o : Nat) : abuild P 82 (partVals .e [(3, .const (ptrO A o))]) = some (.agg (.mk [.pointer none, .pointer none, .pointer none, ptrO A o])) := by kernel_rfl
theorem ixOp {ob Q : Nat} {q : Int} (h0 : 0 ≤ q) (h1 : q < Q) : aindexAddr P 37 (.slice (some ⟨ob, 0, none⟩) Q Q) (.int .i64 q) = some (ptrO ob (13 * q.toNat)) := by
  simp only [aindexAddr, un_37, isz_59, Option.bind_some, aplace]
  rw [if_pos ⟨h0, h1⟩, Nat.zero_add, Nat.mul_comm]
theorem ixRd {rb R : Nat} {i : Int} (h0 : 0 ≤ i) (h1 : i < R) : aindexAddr P 35 (.slice (some ⟨rb, 0, none⟩) R R) (.int .i64 i) = some (ptrO rb i.toNat) := by
  simp only [aindexAddr, un_35, isz_33, Option.bind_some, aplace]
  rw [if_pos ⟨h0, h1⟩, Nat.zero_add, Nat.mul_one]
theorem ixFl {fb R : Nat} {i : Int} (h0 : 0 ≤ i) (h1 : i < R) : aindexAddr P 57 (.slice (some ⟨fb, 0, none⟩) R R) (.int .i64 i) = some (ptrO fb (9 * i.toNat)) := by
  simp only [aindexAddr, un_57, isz_114, Option.bind_some, aplace]
  rw [if_pos ⟨h0, h1⟩, Nat.zero_add, Nat.mul_comm]
theorem bld110 (A o : Nat) (a b c d e f : Nat) : abuild P 110 (partVals .e [(0, .const (ptrO A (o + a))), (1, .const (ptrO A (o + b))), (2, .const (ptrO A (o + c))), (3, .const (ptrO A (o + d))), (4, .const (ptrO A (o + e))), (5, .const (ptrO A (o + f)))]) = some (.agg (.mk [ptrO A (o + a), ptrO A (o + b), ptrO A (o + c), ptrO A (o + d), ptrO A (o + e), ptrO A (o + f)])) := by kernel_rfl
theorem bld111 (A o : Nat) (a b c d e f : Nat) : abuild P 111 (partVals .e [(0, .const (ptrO A (o + a))), (1, .const (ptrO A (o + b))), (2, .const (ptrO A (o + c))), (3, .const (ptrO A (o + d))), (4, .const (ptrO A (o + e))), (5, .const (ptrO A (o + f)))]) = some (.agg (.mk [ptrO A (o + a), ptrO A (o + b), ptrO A (o + c), ptrO A (o + d), ptrO A (o + e), ptrO A (o + f)])) := by kernel_rfl
theorem aix6 {t e : TypeId} (hu : P.underlying t = some (.array 6 e)) (hs : isz P e = some 1) (ha : ∀ c o, apart P e c o = c[o]?) (l : List Value) {i : Int} (h0 : 0 ≤ i) (h1 : i < 6) : aindex P t (.agg (.mk l)) (.int .i64 i) = l[i.toNat]? := by
  simp only [aindex, hu, hs, Option.bind_some]
  rw [if_pos ⟨h0, h1⟩, Nat.mul_one, ha]
section
variable {ro : Nat} {s : St} {K : Value → St → Prop}
theorem wPlaces (hw : Wf s) (hk : ∀ A s', Grew s s' → Wf s' → s'.at A = some (.cells plC 83 false) → K (.slice (some ⟨A, 0, none⟩) 12 12) s') : CallWP P ro 48 [] s K := by
  refine call_wp b48 rfl ?_
  rw [n48]
  unfold v48
  simp (maxSteps := 10000000) only [wW, reduceCtorEq, Nat.reduceEqDiff]
  rw [wop_buildSlice]
  show wopt (abuildSlice P (ent s) 84 12 [(1, fnV 75), (2, fnV 76), (3, fnV 77), (4, fnV 78), (5, fnV 79), (6, fnV 80), (7, fnV 81), (8, fnV 82), (9, fnV 83), (10, fnV 84), (11, fnV 85)]) _
  rw [bldPl, wopt_some]
  have m := Made.mk' hw.ent (.cells plC 83 false)
  refine wfin_new hw m.grew rfl fun s' g' hn hat => hk _ s' g' (hw.grew g') ?_
  rw [hat]
  exact m.here
theorem wPl1 {Pb : Nat} {x : Prt} (hw : Wf s) (hro : ro ≤ s.n) (hk : ∀ s', Grew s s' → Wf s' → K (.agg (.mk (lstC 1 (ptrO Pb 0)))) s') : CallWP P ro 75 [ptr Pb, .agg (.mk x.cells)] s K := by
  refine call_wp b75 rfl ?_
  rw [n75]
  unfold v75
  simp (maxSteps := 10000000) only [wW, reduceCtorEq, Nat.reduceEqDiff]
  refine box_rule hw.ent fun C s1 m1 => ?_
  have e1 := m1.eq
  have hn0 : (ent s).n = s.n := rfl
  have n1 := m1.n
  refine alloc_rule ty_82 m1.wf fun O s2 m2 => ?_
  have e2 := m2.eq
  simp (maxSteps := 10000000) only [wW, reduceCtorEq, Nat.reduceEqDiff, fa_39_0, Nat.zero_add]
  rw [bldL1, wopt_some]
  refine storeAll_rule isz_82 m2.here (l := lstC 1 (ptrO Pb 0)) rfl (by decide) m2.wf (by omega) rfl rfl fun s3 p3 => ?_
  rw [wop_load, load_all ap_82 p3.here rfl, wopt_some]
  exact wfin_new hw (p3.grew _ hw.ent (m1.grew.trans m2.grew) (by omega)) rfl fun s' g' hn hat => hk s' g' (hw.grew g')
theorem wPl2 {Pb : Nat} {x : Prt} (hw : Wf s) (hro : ro ≤ s.n) (hk : ∀ s', Grew s s' → Wf s' → K (.agg (.mk (lstC 2 (ptrO Pb 3)))) s') : CallWP P ro 76 [ptr Pb, .agg (.mk x.cells)] s K := by
  refine call_wp b76 rfl ?_
  rw [n76]
  unfold v76
  simp (maxSteps := 10000000) only [wW, reduceCtorEq, Nat.reduceEqDiff]
  refine box_rule hw.ent fun C s1 m1 => ?_
  have e1 := m1.eq
  have hn0 : (ent s).n = s.n := rfl
  have n1 := m1.n
  refine alloc_rule ty_82 m1.wf fun O s2 m2 => ?_
  have e2 := m2.eq
  simp (maxSteps := 10000000) only [wW, reduceCtorEq, Nat.reduceEqDiff, fa_39_3, Nat.zero_add]
  rw [bldL2, wopt_some]
  refine storeAll_rule isz_82 m2.here (l := lstC 2 (ptrO Pb 3)) rfl (by decide) m2.wf (by omega) rfl rfl fun s3 p3 => ?_
  rw [wop_load, load_all ap_82 p3.here rfl, wopt_some]
  exact wfin_new hw (p3.grew _ hw.ent (m1.grew.trans m2.grew) (by omega)) rfl fun s' g' hn hat => hk s' g' (hw.grew g')
theorem wPl3 {Pb : Nat} {x : Prt} (hw : Wf s) (hro : ro ≤ s.n) (hk : ∀ s', Grew s s' → Wf s' → K (.agg (.mk (lstC 3 (ptrO Pb 1)))) s') : CallWP P ro 77 [ptr Pb, .agg (.mk x.cells)] s K := by
  refine call_wp b77 rfl ?_
  rw [n77]
  unfold v77
  simp (maxSteps := 10000000) only [wW, reduceCtorEq, Nat.reduceEqDiff]
  refine box_rule hw.ent fun C s1 m1 => ?_
  have e1 := m1.eq
  have hn0 : (ent s).n = s.n := rfl
  have n1 := m1.n
  refine alloc_rule ty_82 m1.wf fun O s2 m2 => ?_
  have e2 := m2.eq
  simp (maxSteps := 10000000) only [wW, reduceCtorEq, Nat.reduceEqDiff, fa_39_1, Nat.zero_add]
  rw [bldL1, wopt_some]
  refine storeAll_rule isz_82 m2.here (l := lstC 3 (ptrO Pb 1)) rfl (by decide) m2.wf (by omega) rfl rfl fun s3 p3 => ?_
  rw [wop_load, load_all ap_82 p3.here rfl, wopt_some]
  exact wfin_new hw (p3.grew _ hw.ent (m1.grew.trans m2.grew) (by omega)) rfl fun s' g' hn hat => hk s' g' (hw.grew g')
theorem wPl4 {Pb : Nat} {x : Prt} (hw : Wf s) (hro : ro ≤ s.n) (hk : ∀ s', Grew s s' → Wf s' → K (.agg (.mk (lstC 4 (ptrO Pb 2)))) s') : CallWP P ro 78 [ptr Pb, .agg (.mk x.cells)] s K := by
  refine call_wp b78 rfl ?_
  rw [n78]
  unfold v78
  simp (maxSteps := 10000000) only [wW, reduceCtorEq, Nat.reduceEqDiff]
  refine box_rule hw.ent fun C s1 m1 => ?_
  have e1 := m1.eq
  have hn0 : (ent s).n = s.n := rfl
  have n1 := m1.n
  refine alloc_rule ty_82 m1.wf fun O s2 m2 => ?_
  have e2 := m2.eq
  simp (maxSteps := 10000000) only [wW, reduceCtorEq, Nat.reduceEqDiff, fa_39_2, Nat.zero_add]
  rw [bldL1, wopt_some]
  refine storeAll_rule isz_82 m2.here (l := lstC 4 (ptrO Pb 2)) rfl (by decide) m2.wf (by omega) rfl rfl fun s3 p3 => ?_
  rw [wop_load, load_all ap_82 p3.here rfl, wopt_some]
  exact wfin_new hw (p3.grew _ hw.ent (m1.grew.trans m2.grew) (by omega)) rfl fun s' g' hn hat => hk s' g' (hw.grew g')
theorem wPl6 {Pb : Nat} {x : Prt} (hw : Wf s) (hro : ro ≤ s.n) (hk : ∀ s', Grew s s' → Wf s' → K (.agg (.mk (lstC 6 (ptrO Pb 5)))) s') : CallWP P ro 80 [ptr Pb, .agg (.mk x.cells)] s K := by
  refine call_wp b80 rfl ?_
  rw [n80]
  unfold v80
  simp (maxSteps := 10000000) only [wW, reduceCtorEq, Nat.reduceEqDiff]
  refine box_rule hw.ent fun C s1 m1 => ?_
  have e1 := m1.eq
  have hn0 : (ent s).n = s.n := rfl
  have n1 := m1.n
  refine alloc_rule ty_82 m1.wf fun O s2 m2 => ?_
  have e2 := m2.eq
  simp (maxSteps := 10000000) only [wW, reduceCtorEq, Nat.reduceEqDiff, fa_39_5, Nat.zero_add]
  rw [bldL0, wopt_some]
  refine storeAll_rule isz_82 m2.here (l := lstC 6 (ptrO Pb 5)) rfl (by decide) m2.wf (by omega) rfl rfl fun s3 p3 => ?_
  rw [wop_load, load_all ap_82 p3.here rfl, wopt_some]
  exact wfin_new hw (p3.grew _ hw.ent (m1.grew.trans m2.grew) (by omega)) rfl fun s' g' hn hat => hk s' g' (hw.grew g')
theorem wPl7 {Pb : Nat} {x : Prt} (hw : Wf s) (hro : ro ≤ s.n) (hk : ∀ s', Grew s s' → Wf s' → K (.agg (.mk (lstC 7 (ptrO Pb 6)))) s') : CallWP P ro 81 [ptr Pb, .agg (.mk x.cells)] s K := by
  refine call_wp b81 rfl ?_
  rw [n81]
  unfold v81
  simp (maxSteps := 10000000) only [wW, reduceCtorEq, Nat.reduceEqDiff]
  refine box_rule hw.ent fun C s1 m1 => ?_
  have e1 := m1.eq
  have hn0 : (ent s).n = s.n := rfl
  have n1 := m1.n
  refine alloc_rule ty_82 m1.wf fun O s2 m2 => ?_
  have e2 := m2.eq
  simp (maxSteps := 10000000) only [wW, reduceCtorEq, Nat.reduceEqDiff, fa_39_6, Nat.zero_add]
  rw [bldL2, wopt_some]
  refine storeAll_rule isz_82 m2.here (l := lstC 7 (ptrO Pb 6)) rfl (by decide) m2.wf (by omega) rfl rfl fun s3 p3 => ?_
  rw [wop_load, load_all ap_82 p3.here rfl, wopt_some]
  exact wfin_new hw (p3.grew _ hw.ent (m1.grew.trans m2.grew) (by omega)) rfl fun s' g' hn hat => hk s' g' (hw.grew g')
variable {W : Nat → Prop} {cs : List Value} {B : PfB} {R Q : Nat} {g : Nat → Nat → Nat → List Int}
theorem wPl5 {Pb : Nat} {x : Prt} (hPb : s.at Pb = some (.cells cs 39 false)) (h : PfAt s W cs B R Q g) (hi : 0 ≤ x.i ∧ x.i < R) (hw : Wf s) (hro : ro ≤ s.n) (hk : ∀ s', Grew s s' → Wf s' → K (.agg (.mk (lstC 5 (ptrO B.rb x.i.toNat)))) s') : CallWP P ro 79 [ptr Pb, .agg (.mk x.cells)] s K := by
  refine call_wp b79 rfl ?_
  rw [n79]
  unfold v79
  simp (maxSteps := 10000000) only [wW, reduceCtorEq, Nat.reduceEqDiff]
  refine box_rule hw.ent fun C s1 m1 => ?_
  have e1 := m1.eq
  have hn0 : (ent s).n = s.n := rfl
  have n1 := m1.n
  refine alloc_rule ty_82 m1.wf fun O s2 m2 => ?_
  have e2 := m2.eq
  have hPl := St.at_lt hPb
  have hP2 : s2.at Pb = some (.cells cs 39 false) := (m2.grew.same Pb (by omega)).trans ((m1.grew.same Pb (by omega)).trans hPb)
  have hC2 : s2.at C = some (.cells x.cells 30 false) := (m2.grew.same C (by omega)).trans m1.here
  have hx2 : x.cells[2]? = some (.int .i64 x.i) := rfl
  have hi2 : veq (.int .i64 x.i) (.int .i64 x.i) = true := by simp [veq]
  have hs2 : veq (.slice (some ⟨B.rb, 0, none⟩) R R) (.slice (some ⟨B.rb, 0, none⟩) R R) = true := by simp [veq]
  simp (maxSteps := 10000000) only [wW, reduceCtorEq, Nat.reduceEqDiff, fa_39_4, Nat.zero_add, wop_load, load1 ap_35, acells_some hP2, h.c4, hs2, true_and, fa_30_2, load1 ap_3, acells_some hC2, hx2, hi2, wop_indexAddr, ixRd hi.1 hi.2]
  rw [bldL1, wopt_some]
  refine storeAll_rule isz_82 m2.here (l := lstC 5 (ptrO B.rb x.i.toNat)) rfl (by decide) m2.wf (by omega) rfl rfl fun s3 p3 => ?_
  rw [load_all ap_82 p3.here rfl, wopt_some]
  exact wfin_new hw (p3.grew _ hw.ent (m1.grew.trans m2.grew) (by omega)) rfl fun s' g' hn hat => hk s' g' (hw.grew g')
theorem wPl8 {Pb : Nat} {x : Prt} (hPb : s.at Pb = some (.cells cs 39 false)) (h : PfAt s W cs B R Q g) (hq : 0 ≤ x.q ∧ x.q < Q) (hi : 0 ≤ x.i ∧ x.i < 6) (hw : Wf s) (hro : ro ≤ s.n) (hk : ∀ s', Grew s s' → Wf s' → K (.agg (.mk (lstC 8 (ptrO B.ob (13 * x.q.toNat + x.i.toNat))))) s') : CallWP P ro 82 [ptr Pb, .agg (.mk x.cells)] s K := by
  refine call_wp b82 rfl ?_
  rw [n82]
  unfold v82
  simp (maxSteps := 10000000) only [wW, reduceCtorEq, Nat.reduceEqDiff]
  refine box_rule hw.ent fun C s1 m1 => ?_
  have e1 := m1.eq
  have hn0 : (ent s).n = s.n := rfl
  have n1 := m1.n
  refine alloc_rule ty_82 m1.wf fun O s2 m2 => ?_
  have e2 := m2.eq
  have hPl := St.at_lt hPb
  have hP2 : s2.at Pb = some (.cells cs 39 false) := (m2.grew.same Pb (by omega)).trans ((m1.grew.same Pb (by omega)).trans hPb)
  have hC2 : s2.at C = some (.cells x.cells 30 false) := (m2.grew.same C (by omega)).trans m1.here
  have hx1 : x.cells[1]? = some (.int .i64 x.q) := rfl
  have hx2 : x.cells[2]? = some (.int .i64 x.i) := rfl
  have hi2 : ∀ z : Int, veq (.int .i64 z) (.int .i64 z) = true := fun z => by simp [veq]
  have hs2 : veq (.slice (some ⟨B.ob, 0, none⟩) Q Q) (.slice (some ⟨B.ob, 0, none⟩) Q Q) = true := by simp [veq]
  simp (maxSteps := 10000000) only [wW, reduceCtorEq, Nat.reduceEqDiff, fa_39_7, Nat.zero_add, wop_load, load1 ap_37, acells_some hP2, h.c7, hs2, true_and, fa_30_1, fa_30_2, load1 ap_3, acells_some hC2, hx1, hx2, hi2, wop_indexAddr, ixOp hq.1 hq.2]
  have hget : aindex P 110 (.agg (.mk [ptrO B.ob (13 * x.q.toNat + 0), ptrO B.ob (13 * x.q.toNat + 1), ptrO B.ob (13 * x.q.toNat + 2), ptrO B.ob (13 * x.q.toNat + 3), ptrO B.ob (13 * x.q.toNat + 4), ptrO B.ob (13 * x.q.toNat + 5)])) (.int .i64 x.i) = some (ptrO B.ob (13 * x.q.toNat + x.i.toNat)) := by
    rw [aix6 un_110 isz_77 ap_77 _ hi.1 hi.2]
    obtain ⟨i, hii⟩ : ∃ i : Nat, x.i = i := ⟨x.i.toNat, by omega⟩
    rw [hii, Int.toNat_natCast]
    have : i < 6 := by omega
    match i, this with
    | 0, _ => rfl
    | 1, _ => rfl
    | 2, _ => rfl
    | 3, _ => rfl
    | 4, _ => rfl
    | 5, _ => rfl
  simp (maxSteps := 10000000) only [fa_59_0, fa_59_1, fa_59_2, fa_59_3, fa_59_4, fa_59_5, wopt_some, wW, reduceCtorEq, Nat.reduceEqDiff, bld110]
  show wopt (abuild P 110 (partVals .e [(0, .const (ptrO B.ob (13 * x.q.toNat + 0))), (1, .const (ptrO B.ob (13 * x.q.toNat + 1))), (2, .const (ptrO B.ob (13 * x.q.toNat + 2))), (3, .const (ptrO B.ob (13 * x.q.toNat + 3))), (4, .const (ptrO B.ob (13 * x.q.toNat + 4))), (5, .const (ptrO B.ob (13 * x.q.toNat + 5)))])) _
  rw [bld110, wopt_some, wop_index_agg, hget, wopt_some, bldL0, wopt_some]
  refine storeAll_rule isz_82 m2.here (l := lstC 8 (ptrO B.ob (13 * x.q.toNat + x.i.toNat))) rfl (by decide) m2.wf (by omega) rfl rfl fun s3 p3 => ?_
  rw [load_all ap_82 p3.here rfl, wopt_some]
  exact wfin_new hw (p3.grew _ hw.ent (m1.grew.trans m2.grew) (by omega)) rfl fun s' g' hn hat => hk s' g' (hw.grew g')
theorem wPl9 {Pb : Nat} {x : Prt} (hPb : s.at Pb = some (.cells cs 39 false)) (h : PfAt s W cs B R Q g) (hq : 0 ≤ x.q ∧ x.q < Q) (hi : 0 ≤ x.i ∧ x.i < 6) (hw : Wf s) (hro : ro ≤ s.n) (hk : ∀ s', Grew s s' → Wf s' → K (.agg (.mk (lstC 9 (ptrO B.ob (13 * x.q.toNat + 6 + x.i.toNat))))) s') : CallWP P ro 83 [ptr Pb, .agg (.mk x.cells)] s K := by
  refine call_wp b83 rfl ?_
  rw [n83]
  unfold v83
  simp (maxSteps := 10000000) only [wW, reduceCtorEq, Nat.reduceEqDiff]
  refine box_rule hw.ent fun C s1 m1 => ?_
  have e1 := m1.eq
  have hn0 : (ent s).n = s.n := rfl
  have n1 := m1.n
  refine alloc_rule ty_82 m1.wf fun O s2 m2 => ?_
  have e2 := m2.eq
  have hPl := St.at_lt hPb
  have hP2 : s2.at Pb = some (.cells cs 39 false) := (m2.grew.same Pb (by omega)).trans ((m1.grew.same Pb (by omega)).trans hPb)
  have hC2 : s2.at C = some (.cells x.cells 30 false) := (m2.grew.same C (by omega)).trans m1.here
  have hx1 : x.cells[1]? = some (.int .i64 x.q) := rfl
  have hx2 : x.cells[2]? = some (.int .i64 x.i) := rfl
  have hi2 : ∀ z : Int, veq (.int .i64 z) (.int .i64 z) = true := fun z => by simp [veq]
  have hs2 : veq (.slice (some ⟨B.ob, 0, none⟩) Q Q) (.slice (some ⟨B.ob, 0, none⟩) Q Q) = true := by simp [veq]
  simp (maxSteps := 10000000) only [wW, reduceCtorEq, Nat.reduceEqDiff, fa_39_7, Nat.zero_add, wop_load, load1 ap_37, acells_some hP2, h.c7, hs2, true_and, fa_30_1, fa_30_2, load1 ap_3, acells_some hC2, hx1, hx2, hi2, wop_indexAddr, ixOp hq.1 hq.2]
  have hget : aindex P 111 (.agg (.mk [ptrO B.ob (13 * x.q.toNat + 6), ptrO B.ob (13 * x.q.toNat + 7), ptrO B.ob (13 * x.q.toNat + 8), ptrO B.ob (13 * x.q.toNat + 9), ptrO B.ob (13 * x.q.toNat + 10), ptrO B.ob (13 * x.q.toNat + 11)])) (.int .i64 x.i) = some (ptrO B.ob (13 * x.q.toNat + 6 + x.i.toNat)) := by
    rw [aix6 un_111 isz_78 ap_78 _ hi.1 hi.2]
    obtain ⟨i, hii⟩ : ∃ i : Nat, x.i = i := ⟨x.i.toNat, by omega⟩
    rw [hii, Int.toNat_natCast]
    have : i < 6 := by omega
    match i, this with
    | 0, _ => rfl
    | 1, _ => rfl
    | 2, _ => rfl
    | 3, _ => rfl
    | 4, _ => rfl
    | 5, _ => rfl
  simp (maxSteps := 10000000) only [fa_59_6, fa_59_7, fa_59_8, fa_59_9, fa_59_10, fa_59_11, wopt_some, wW, reduceCtorEq, Nat.reduceEqDiff, bld111]
  rw [hget, wopt_some, bldL1, wopt_some]
  refine storeAll_rule isz_82 m2.here (l := lstC 9 (ptrO B.ob (13 * x.q.toNat + 6 + x.i.toNat))) rfl (by decide) m2.wf (by omega) rfl rfl fun s3 p3 => ?_
  rw [load_all ap_82 p3.here rfl, wopt_some]
  exact wfin_new hw (p3.grew _ hw.ent (m1.grew.trans m2.grew) (by omega)) rfl fun s' g' hn hat => hk s' g' (hw.grew g')
theorem wPl10 {Pb : Nat} {x : Prt} (hPb : s.at Pb = some (.cells cs 39 false)) (h : PfAt s W cs B R Q g) (hq : 0 ≤ x.q ∧ x.q < Q) (hi : 0 ≤ x.i ∧ x.i < R) (hw : Wf s) (hro : ro ≤ s.n) (hk : ∀ s', Grew s s' → Wf s' → K (.agg (.mk (lstC 10 (ptrO (B.fb x.q.toNat) (9 * x.i.toNat))))) s') : CallWP P ro 84 [ptr Pb, .agg (.mk x.cells)] s K := by
  refine call_wp b84 rfl ?_
  rw [n84]
  unfold v84
  simp (maxSteps := 10000000) only [wW, reduceCtorEq, Nat.reduceEqDiff]
  refine box_rule hw.ent fun C s1 m1 => ?_
  have e1 := m1.eq
  have hn0 : (ent s).n = s.n := rfl
  have n1 := m1.n
  refine alloc_rule ty_82 m1.wf fun O s2 m2 => ?_
  have e2 := m2.eq
  have hPl := St.at_lt hPb
  have hP2 : s2.at Pb = some (.cells cs 39 false) := (m2.grew.same Pb (by omega)).trans ((m1.grew.same Pb (by omega)).trans hPb)
  have hC2 : s2.at C = some (.cells x.cells 30 false) := (m2.grew.same C (by omega)).trans m1.here
  have hx1 : x.cells[1]? = some (.int .i64 x.q) := rfl
  have hx2 : x.cells[2]? = some (.int .i64 x.i) := rfl
  have hi2 : ∀ z : Int, veq (.int .i64 z) (.int .i64 z) = true := fun z => by simp [veq]
  have hs2 : ∀ A n c, veq (.slice (some ⟨A, 0, none⟩) n c) (.slice (some ⟨A, 0, none⟩) n c) = true := fun A n c => by simp [veq]
  obtain ⟨oc, ho, _, hof⟩ := h.ob
  have hol := St.at_lt ho
  have ho2 : s2.at B.ob = some (.cells oc 59 false) := (m2.grew.same B.ob (by omega)).trans ((m1.grew.same B.ob (by omega)).trans ho)
  simp (maxSteps := 10000000) only [wW, reduceCtorEq, Nat.reduceEqDiff, fa_39_7, Nat.zero_add, wop_load, load1 ap_37, acells_some hP2, h.c7, hs2, true_and, fa_30_1, fa_30_2, load1 ap_3, acells_some hC2, hx1, hx2, hi2, wop_indexAddr, ixOp hq.1 hq.2, fa_59_12, load1 ap_57, acells_some ho2, hof x.q.toNat (by omega), ixFl hi.1 hi.2, fa_114_0]
  rw [bldL3, wopt_some]
  refine storeAll_rule isz_82 m2.here (l := lstC 10 (ptrO (B.fb x.q.toNat) (9 * x.i.toNat))) rfl (by decide) m2.wf (by omega) rfl rfl fun s3 p3 => ?_
  rw [load_all ap_82 p3.here rfl, wopt_some]
  exact wfin_new hw (p3.grew _ hw.ent (m1.grew.trans m2.grew) (by omega)) rfl fun s' g' hn hat => hk s' g' (hw.grew g')
theorem wPl11 {Pb : Nat} {x : Prt} (hPb : s.at Pb = some (.cells cs 39 false)) (h : PfAt s W cs B R Q g) (hq : 0 ≤ x.q ∧ x.q < Q) (hi : 0 ≤ x.i ∧ x.i < R) (hw : Wf s) (hro : ro ≤ s.n) (hk : ∀ s', Grew s s' → Wf s' → K (.agg (.mk (lstC 11 (ptrO (B.fb x.q.toNat) (9 * x.i.toNat + 8))))) s') : CallWP P ro 85 [ptr Pb, .agg (.mk x.cells)] s K := by
  refine call_wp b85 rfl ?_
  rw [n85]
  unfold v85
  simp (maxSteps := 10000000) only [wW, reduceCtorEq, Nat.reduceEqDiff]
  refine box_rule hw.ent fun C s1 m1 => ?_
  have e1 := m1.eq
  have hn0 : (ent s).n = s.n := rfl
  have n1 := m1.n
  refine alloc_rule ty_82 m1.wf fun O s2 m2 => ?_
  have e2 := m2.eq
  have hPl := St.at_lt hPb
  have hP2 : s2.at Pb = some (.cells cs 39 false) := (m2.grew.same Pb (by omega)).trans ((m1.grew.same Pb (by omega)).trans hPb)
  have hC2 : s2.at C = some (.cells x.cells 30 false) := (m2.grew.same C (by omega)).trans m1.here
  have hx1 : x.cells[1]? = some (.int .i64 x.q) := rfl
  have hx2 : x.cells[2]? = some (.int .i64 x.i) := rfl
  have hi2 : ∀ z : Int, veq (.int .i64 z) (.int .i64 z) = true := fun z => by simp [veq]
  have hs2 : ∀ A n c, veq (.slice (some ⟨A, 0, none⟩) n c) (.slice (some ⟨A, 0, none⟩) n c) = true := fun A n c => by simp [veq]
  obtain ⟨oc, ho, _, hof⟩ := h.ob
  have hol := St.at_lt ho
  have ho2 : s2.at B.ob = some (.cells oc 59 false) := (m2.grew.same B.ob (by omega)).trans ((m1.grew.same B.ob (by omega)).trans ho)
  simp (maxSteps := 10000000) only [wW, reduceCtorEq, Nat.reduceEqDiff, fa_39_7, Nat.zero_add, wop_load, load1 ap_37, acells_some hP2, h.c7, hs2, true_and, fa_30_1, fa_30_2, load1 ap_3, acells_some hC2, hx1, hx2, hi2, wop_indexAddr, ixOp hq.1 hq.2, fa_59_12, load1 ap_57, acells_some ho2, hof x.q.toNat (by omega), ixFl hi.1 hi.2, fa_114_1]
  rw [bldL1, wopt_some]
  refine storeAll_rule isz_82 m2.here (l := lstC 11 (ptrO (B.fb x.q.toNat) (9 * x.i.toNat + 8))) rfl (by decide) m2.wf (by omega) rfl rfl fun s3 p3 => ?_
  rw [load_all ap_82 p3.here rfl, wopt_some]
  exact wfin_new hw (p3.grew _ hw.ent (m1.grew.trans m2.grew) (by omega)) rfl fun s' g' hn hat => hk s' g' (hw.grew g')
end
end Go.VE
/- slices.Chunk of numbers, by two. -/
namespace Go.VE
open Go Go.Proofs
set_option maxRecDepth 20000
section
variable {ro : Nat} {s : St} {K : Value → St → Prop}
theorem subLoU {v : Value} {l : List Int} (h : U64s s v l) {k : Int} (h0 : 0 ≤ k) (hk : k < l.length) : ∃ w, U64s s w (l.drop k.toNat) ∧ veq w w = true ∧
    ∀ (ty : TypeId) (s' : St) (K : Value → St → Prop), wop P ro (.slice 36 (.const v) (some (.const (.int .i64 k))) none none) ty s' K = K w s' := by
  have hs : isz P 34 = some 1 := isz_34
  have hund : P.underlying 36 = some (.slice 34) := un_36
  obtain ⟨a, c, rfl, hl, ⟨hc, hnone, hsp⟩, hb⟩ := h
  obtain ⟨A, o, m, cells, t, op, rfl, hm, hA, hcs⟩ := hb (by omega)
  have hm2 := hsp _ rfl
  simp only at hm2
  have hlen : ((l.drop k.toNat).map (Value.int .u64)).length = (l.drop k.toNat).length * 1 := by simp
  have hhi : abound none l.length c = some l.length := rfl
  have hlo : abound (some (.int .i64 k)) 0 l.length = some k.toNat := by
    simp only [abound]
    rw [if_pos ⟨by omega, by omega⟩]
  have hblk : ∀ sp, mkOk sp = true → (l.drop k.toNat).length * 1 ≠ 0 → ∃ A' o' m' cells t op, some (⟨A, o + k.toNat * 1, sp⟩ : Addr) = some ⟨A', o', m'⟩ ∧ mkOk m' = true ∧ s.at A' = some (.cells cells t op) ∧ (cells.drop o').take ((l.drop k.toNat).length * 1) = (l.drop k.toNat).map (.int .u64) := fun sp hsp' _ => by
    refine ⟨A, _, sp, cells, t, op, rfl, hsp', hA, ?_⟩
    rw [List.map_drop, ← hcs, List.drop_take, List.drop_drop]
    congr 1
    · simp
    · rw [Nat.mul_one]
  rcases hm2 with rfl | ⟨rfl, hpos⟩
  · refine ⟨.slice (some ⟨A, o + k.toNat * 1, none⟩) (l.length - k.toNat) (c - k.toNat), ⟨_, _, by rw [List.length_drop], hlen, ⟨by rw [List.length_drop]; omega, fun h => (by cases h), fun x hx => (by cases hx; exact .inl rfl)⟩, hblk none rfl⟩, by simp [veq], fun ty s' K => ?_⟩
    rw [wop_slice]
    have hne : ¬ c = k.toNat := by omega
    simp only [asliceOp, hund, hs, sliceTwo, Option.map_some, Option.map_none, aval, hhi, hlo, Option.bind_some, hne, if_false, wopt_some]
  · refine ⟨.slice (some ⟨A, o + k.toNat * 1, some 0⟩) (l.length - k.toNat) (c - k.toNat), ⟨_, _, by rw [List.length_drop], hlen, ⟨by rw [List.length_drop]; omega, fun h => (by cases h), fun x hx => (by cases hx; exact .inr ⟨rfl, by omega⟩)⟩, hblk (some 0) rfl⟩, by simp [veq], fun ty s' K => ?_⟩
    rw [wop_slice]
    have hne : k.toNat < c := by omega
    simp only [asliceOp, hund, hs, sliceTwo, Option.map_some, Option.map_none, aval, hhi, hlo, Option.bind_some, hne, if_true, wopt_some]
theorem sub3U {v : Value} {l : List Int} (h : U64s s v l) {i : Nat} (hi : i + 2 ≤ l.length) : ∃ A o cells t op, s.at A = some (.cells cells t op) ∧ cut cells o 2 = some [.int .u64 (l[i]), .int .u64 (l[i + 1])] ∧
    ∀ (ty : TypeId) (s' : St) (K : Value → St → Prop), wop P ro (.slice 36 (.const v) (some (.const (.int .i64 (i : Int)))) (some (.const (.int .i64 ((i : Int) + 2)))) (some (.const (.int .i64 ((i : Int) + 2))))) ty s' K = K (.slice (some ⟨A, o, none⟩) 2 2) s' := by
  have hs : isz P 34 = some 1 := isz_34
  have hund : P.underlying 36 = some (.slice 34) := un_36
  obtain ⟨x, c, rfl, hl, ⟨hc, hnone, hsp⟩, hbk⟩ := h
  obtain ⟨A, o, m, cells, t, op, rfl, hm, hA, hcs⟩ := hbk (by omega)
  have hm2 := hsp _ rfl
  simp only at hm2
  have hmx : abound (some (.int .i64 ((i : Int) + 2))) 0 c = some (i + 2) := by
    simp only [abound]
    rw [if_pos ⟨by omega, by omega⟩]
    rfl
  have hhi : abound (some (.int .i64 ((i : Int) + 2))) 0 (i + 2) = some (i + 2) := by
    simp only [abound]
    rw [if_pos ⟨by omega, by omega⟩]
    rfl
  have hlo : abound (some (.int .i64 (i : Int))) 0 (i + 2) = some i := by
    simp only [abound]
    rw [if_pos ⟨by omega, by omega⟩]
    rfl
  have hne : ¬ i + 2 = i := by omega
  have hcl : o + l.length ≤ cells.length := by
    have := congrArg List.length hcs
    rw [List.length_take, List.length_drop, List.length_map] at this
    omega
  refine ⟨A, o + i * 1, cells, t, op, hA, ?_, fun ty s' K => ?_⟩
  · rw [cut_eq (by omega)]
    have e : (cells.drop (o + i * 1)).take 2 = ((l.map (Value.int .u64)).drop i).take 2 := by
      rw [← hcs, List.drop_take, List.drop_drop, List.take_take, Nat.mul_one, Nat.min_eq_left (by omega)]
    rw [e, drop_cons (by rw [List.length_map]; omega), drop_cons (by rw [List.length_map]; omega), List.getElem_map, List.getElem_map]
    rfl
  · rw [wop_slice]
    have e2 : i + 2 - i = 2 := by omega
    rcases hm2 with rfl | ⟨rfl, hpos⟩ <;> simp only [asliceOp, hund, hs, sliceThree, Option.map_some, Option.map_none, aval, hmx, hhi, hlo, Option.bind_some, hne, if_false, wopt_some, e2]
theorem wChunkU1 {L C N : Nat} {u : Value} {l : List Int} (r0 : Lp) (Inv : Nat → St → Prop) (hlen : r0.params.length = 1)
    (hloop : ∀ i s, Inv i s → s.at L = some (.loop r0)) (hC : ∀ i s, Inv i s → ∃ T o, s.at C = some (.cells [u] T o)) (hN : ∀ i s, Inv i s → ∃ T o, s.at N = some (.cells [.int .i64 2] T o)) (hI : ∀ i s, Inv i s → U64s s u l) (hl : l.length < 2 ^ 60) {m : Nat} (hev : l.length = 2 * m)
    (hLs : L < s.n)
    (hround : ∀ i s' A o cells t op (hi : 2 * i + 2 ≤ l.length), Inv i s' → s'.at A = some (.cells cells t op) → cut cells o 2 = some [.int .u64 (l[2 * i]), .int .u64 (l[2 * i + 1])] → RoundWP P ro L (setAll r0.t r0.params [.slice (some ⟨A, o, none⟩) 2 2]) r0.assign r0.body s' fun v s2 => v = .bool true ∧ s2.lo ≤ L ∧ Inv (i + 1) s2)
    (h0e : Inv 0 (ent s)) (hk0 : m = 0 → K (.tuple (.mk [])) s) (hk : ∀ s', Inv m s' → K (.tuple (.mk [])) { s' with lo := min s.lo s'.lo }) :
    CallWP P ro 96 [.func (.yield L) (.mk []) (.mk []), ptr C, ptr N] s K := by
  refine call_wp b96 rfl ?_
  rw [n96]
  unfold v96
  simp (maxSteps := 10000000) only [wW, reduceCtorEq, Nat.reduceEqDiff]
  refine wloop l96_100 m96_100 (fun (i : Nat) τ ds s' => i ≤ m ∧ τ 0 = .func (.yield L) (.mk []) (.mk []) ∧ τ 1 = ptr C ∧ τ 2 = ptr N ∧ τ 4 = .int .i64 ((2 * i : Nat) : Int) ∧ ds = [] ∧ Inv i s' ∧ (i = 0 → s' = ent s) ∧ (0 < i → s'.lo ≤ L)) (fun i => m - i) ?_ 0 ⟨by omega, ?_, ?_, ?_, ?_, rfl, h0e, fun _ => rfl, fun h => absurd h (by omega)⟩
  · rintro i τ ds s' ⟨hi, t0, t1, t2, t4, rfl, hInv, hz, hp⟩
    rw [n96_100]
    unfold v96_100
    obtain ⟨T1, o1, hc⟩ := hC i s' hInv
    obtain ⟨T2, o2, hn⟩ := hN i s' hInv
    have hIs := hI i s' hInv
    by_cases hlt : i < m
    · obtain ⟨w1, i1, _, q1⟩ := subLoU (ro := ro) hIs (k := ((2 * i : Nat) : Int)) (by omega) (by omega)
      rw [Int.toNat_natCast] at i1
      have hmin : (if ((l.drop (2 * i)).length : Int) < 2 then ((l.drop (2 * i)).length : Int) else 2) = 2 := by
        rw [List.length_drop, if_neg (by omega)]
      obtain ⟨A, o, cells, t, op, hA, hcut, q3⟩ := sub3U (ro := ro) hIs (i := 2 * i) (by omega)
      have hadd : IntKind.i64.wrap (((2 * i : Nat) : Int) + 2) = ((2 * i : Nat) : Int) + 2 := wrap_i64 (by omega) (by omega)
      simp (maxSteps := 10000000) only [wW, reduceCtorEq, Nat.reduceEqDiff, wop_load, load1 ap_36, load1 ap_3, t0, t1, t2, t4, acells_some hc, acells_some hn, List.getElem?_cons_zero, hIs.wlen se_36, q1, i1.wlen se_36, min_i64', hmin, hadd, q3]
      rw [if_pos (by omega)]
      refine wYield (hloop i s' hInv) hlen ?_
      obtain ⟨n, v, s2, e, rfl, h2, h3⟩ := hround i s' A o cells t op (by omega) hInv hA hcut
      refine ⟨n, _, s2, e, ?_⟩
      obtain ⟨T3, o3, hn2⟩ := hN (i + 1) s2 h3
      simp (maxSteps := 10000000) only [wW, reduceCtorEq, Nat.reduceEqDiff, load1 ap_3, acells_some hn2, List.getElem?_cons_zero]
      rw [wrap_i64 (by omega) (by omega)]
      refine ⟨i + 1, by omega, by omega, ?_, ?_, ?_, ?_, trivial, h3, fun h => absurd h (by omega), fun _ => h2⟩
      · simp only [U, tset_eq, wW, reduceCtorEq, Nat.reduceEqDiff, t0]
      · simp only [U, tset_eq, wW, reduceCtorEq, Nat.reduceEqDiff, t1]
      · simp only [U, tset_eq, wW, reduceCtorEq, Nat.reduceEqDiff, t2]
      · simp only [U, tset_eq, wW, reduceCtorEq, Nat.reduceEqDiff]
        congr 1
    · obtain rfl : i = m := by omega
      simp (maxSteps := 10000000) only [wW, reduceCtorEq, Nat.reduceEqDiff, wop_load, load1 ap_36, t1, t4, acells_some hc, List.getElem?_cons_zero, hIs.wlen se_36]
      rw [if_neg (by omega)]
      by_cases hz0 : i = 0
      · rw [hz (by omega), wfin_flat (Nat.le_refl _) rfl]
        exact hk0 hz0
      · have hlo2 := hp (by omega)
        rw [wfin_old (by omega)]
        exact hk _ hInv
  · simp only [U, tset_eq, wW, reduceCtorEq, Nat.reduceEqDiff]
  · simp only [U, tset_eq, wW, reduceCtorEq, Nat.reduceEqDiff]
  · simp only [U, tset_eq, wW, reduceCtorEq, Nat.reduceEqDiff]
  · simp only [U, tset_eq, wW, reduceCtorEq, Nat.reduceEqDiff]; rfl
theorem wChunkU {u : Value} (hw : Wf s) (h1 : u.cells.toList = [u]) (hk : ∀ C N s', Grew s s' → s.n ≤ C → s.n ≤ N → C ≠ N → s'.at C = some (.cells [u] 36 false) → s'.at N = some (.cells [.int .i64 2] 3 false) → K (.func (.func 96) (.mk []) (.mk [ptr C, ptr N])) s') :
    CallWP P ro 86 [u, .int .i64 2] s K := by
  refine call_wp b86 rfl ?_
  rw [n86]
  unfold v86
  simp (maxSteps := 10000000) only [wW, reduceCtorEq, Nat.reduceEqDiff]
  refine box_rule hw.ent fun C s1 m1 => ?_
  refine box_rule m1.wf fun N s2 m2 => ?_
  have e1 := m1.eq
  have e2 := m2.eq
  have n1 := m1.n
  have hn0 : (ent s).n = s.n := rfl
  refine load_rule (load_one ap_3 m2.here rfl) ?_
  simp (maxSteps := 10000000) only [wW, reduceCtorEq, Nat.reduceEqDiff]
  rw [if_neg (by decide)]
  refine wfin_new hw (m1.grew.trans m2.grew) rfl fun s' hg hn hat => hk C N s' hg (by omega) (by omega) (by omega) ?_ ?_
  · rw [hat C, m2.grew.same C (by omega), m1.here, h1]
  · rw [hat N, m2.here]; rfl
end
end Go.VE
/- (proof.list).set. -/
namespace Go.VE
open Go Go.Proofs
set_option maxRecDepth 20000
theorem Keeps.ptr1 {s s' : St} {i A o : Nat} (hn : s.n ≤ s'.n) (h : s'.at A = s.at A) : Keeps [(i, .ptr (ptrO A o))] s s' := by
  refine ⟨hn, fun x hx => ?_⟩
  simp only [List.mem_cons, List.not_mem_nil, or_false] at hx
  subst hx
  intro y z e hz
  cases e
  rw [h]
  exact hz
theorem splice2 {c : List Value} {o : Nat} {a b : List Value} (h : o + a.length ≤ c.length) (hab : a.length = b.length) : splice (splice c o a) o b = splice c o b := by
  unfold splice
  have h1 : (c.take o).length = o := by rw [List.length_take]; omega
  rw [List.take_append_of_le_length (by omega), List.take_of_length_le (by omega), List.drop_append, h1, List.drop_of_length_le (by omega), List.nil_append, show o + b.length - o = a.length by omega, List.drop_left, hab]
structure SetR (s : St) (W : Nat → Prop) (A o : Nat) (c : List Value) (T : TypeId) (k : Nat) (l : List Int) (s' : St) : Prop where
  wf : Wf s'
  n : s.n ≤ s'.n
  same : ∀ X, X < s.n → X ≠ A → s'.at X = s.at X
  ex : ∃ vals, s'.at A = some (.cells (splice c o vals) T false) ∧ SlotW s' W k vals l
  gr : ∀ s0, Wf s0 → Grew s0 s → s0.n ≤ A → Grew s0 s'
structure StI (s0 : St) (A o : Nat) (c : List Value) (T : TypeId) (Bx L D C N : Nat) (lp : Lp) (u : Value) (pl : List Value) (l : List Int) (i : Nat) (s : St) : Prop where
  wf : Wf s
  n : s0.n ≤ s.n
  same : ∀ X, X < s0.n → X ≠ A → s.at X = s0.at X
  lo : A ≤ s.lo
  loop : s.at L = some (.loop lp)
  dfr : s.at D = some (.defd (some []))
  bx : s.at Bx = some (.cells pl 82 false)
  hC : s.at C = some (.cells [u] 36 false)
  hN : s.at N = some (.cells [.int .i64 2] 3 false)
  ne : s0.n ≤ Bx ∧ s0.n ≤ C ∧ s0.n ≤ N ∧ s0.n ≤ D ∧ Bx < D ∧ C < D ∧ N < D ∧ L = D + 1
  ex : ∃ v oA, s.at A = some (.cells (splice c o [v]) T false) ∧ Own s v 55 2 i ((l.take (2 * i)).map (.int .u64)) oA ∧ ∀ X, oA = some X → s0.n ≤ X ∧ X ≠ Bx ∧ X ≠ L ∧ X ≠ D ∧ X ≠ C ∧ X ≠ N
section
variable {ro : Nat} {s : St} {K : Value → St → Prop}
theorem pn77 (ty : TypeId) (s : St) (K : Value → St → Prop) : wop P ro (.binOp .neq 77 (.const (.pointer none)) (.const (.pointer none)) 77) ty s K = K (.bool false) s := by kernel_rfl
theorem pn79 (ty : TypeId) (s : St) (K : Value → St → Prop) : wop P ro (.binOp .neq 79 (.const (.pointer none)) (.const (.pointer none)) 79) ty s K = K (.bool false) s := by kernel_rfl
theorem pn80 (ty : TypeId) (s : St) (K : Value → St → Prop) : wop P ro (.binOp .neq 80 (.const (.pointer none)) (.const (.pointer none)) 80) ty s K = K (.bool false) s := by kernel_rfl
theorem ps77 (A o : Nat) (ty : TypeId) (s : St) (K : Value → St → Prop) : wop P ro (.binOp .neq 77 (.const (ptrO A o)) (.const (.pointer none)) 77) ty s K = K (.bool true) s := by kernel_rfl
theorem ps79 (A o : Nat) (ty : TypeId) (s : St) (K : Value → St → Prop) : wop P ro (.binOp .neq 79 (.const (ptrO A o)) (.const (.pointer none)) 79) ty s K = K (.bool true) s := by kernel_rfl
theorem ps80 (A o : Nat) (ty : TypeId) (s : St) (K : Value → St → Prop) : wop P ro (.binOp .neq 80 (.const (ptrO A o)) (.const (.pointer none)) 80) ty s K = K (.bool true) s := by kernel_rfl
theorem wSetD {W : Nat → Prop} {k A o : Nat} {c : List Value} {T : TypeId} {u : Value} {l : List Int} {m : Nat} (hk0 : k = 1 ∨ k = 3 ∨ k = 4 ∨ k = 5 ∨ k = 9 ∨ k = 11) (hA : s.at A = some (.cells c T false)) (hfit : o + 1 ≤ c.length) (hW : W A) (hWlt : ∀ X, W X → X < s.n)
    (hu : U64s s u l) (hub : ∀ X o sp k c, u = .slice (some ⟨X, o, sp⟩) k c → X < s.n ∧ ¬ W X) (hlen : l.length < 2 ^ 30) (hev : l.length = 2 * m) (hw : Wf s) (hro : ro ≤ A) (hk : ∀ s', SetR s W A o c T k l s' → K (.tuple (.mk [])) s') :
    CallWP P ro 49 [.agg (.mk (lstC k (ptrO A o))), u] s K := by
  refine call_wp b49 rfl ?_
  rw [n49]
  unfold v49
  have hAl := St.at_lt hA
  have hn0 : (ent s).n = s.n := rfl
  have hl1 : lstC k (ptrO A o) = [.pointer none, ptrO A o, .pointer none, .pointer none] := by
    unfold lstC
    rw [if_neg (by omega), if_neg (by omega), if_neg (by omega)]
  rw [hl1]
  simp (maxSteps := 10000000) only [wW, reduceCtorEq, Nat.reduceEqDiff]
  refine box_rule hw.ent fun Bx s1 m1 => ?_
  have e1 := m1.eq
  have n1 := m1.n
  have hB1 : s1.at Bx = some (.cells [.pointer none, ptrO A o, .pointer none, .pointer none] 82 false) := m1.here
  simp (maxSteps := 10000000) only [wW, reduceCtorEq, Nat.reduceEqDiff, wop_load, fa_82_0, fa_82_1, fa_82_2, fa_82_3, load1 ap_77, load1 ap_78, load1 ap_79, load1 ap_80, acells_some hB1, pn77, pn79, pn80, Nat.zero_add, List.getElem?_cons_zero, List.getElem?_cons_succ]
  have hAl' : A < s1.n := by omega
  have hA1 : s1.at A = some (.cells c T false) := (m1.grew.same A hAl).trans hA
  refine store1_rule isz_33 hA1 m1.wf hro (by omega) rfl fun s2 p2 => ?_
  have n2 := p2.n
  have huc : u.cells.toList = [u] := by obtain ⟨a, cc, rfl, _⟩ := hu; rfl
  refine wChunkU p2.wf huc fun C N s3 g3 hC3 hN3 hCN c3 nn3 => ?_
  have n3 := g3.n
  have w3 := p2.wf.grew g3
  have hCl := St.at_lt c3
  have hNl := St.at_lt nn3
  refine wrange (by omega) fun t ht => ?_
  have g4 : Grew s3 (s3.new (.defd (some []))) := .new _ _
  generalize hr0 : ({ state := .ready, pending := none, t := t, params := #[10].toList, assign := c49_101111111100, body := c49_101111111101, defers := s3.n } : Lp) = lp
  have g5 : Grew (s3.new (.defd (some []))) ((s3.new (.defd (some []))).new (.loop lp)) := .new _ _
  have hD5 : ((s3.new (.defd (some []))).new (.loop lp)).at s3.n = some (.defd (some [])) := (g5.same s3.n (Nat.lt_succ_self s3.n)).trans (at_newest _ _)
  have hL5 : ((s3.new (.defd (some []))).new (.loop lp)).at (s3.n + 1) = some (.loop lp) := at_newest (s3.new (.defd (some []))) _
  have w5 : Wf ((s3.new (.defd (some []))).new (.loop lp)) := (w3.new _).new _
  have n5 : ((s3.new (.defd (some []))).new (.loop lp)).n = s3.n + 2 := rfl
  have g35 := g4.trans g5
  have hlp : lp.state = .ready ∧ lp.pending = none ∧ lp.t = t ∧ lp.params = [10] ∧ lp.assign = c49_101111111100 ∧ lp.body = c49_101111111101 := by rw [← hr0]; exact ⟨rfl, rfl, rfl, rfl, rfl, rfl⟩
  clear hr0
  generalize (s3.new (.defd (some []))).new (.loop lp) = s5 at *
  have g25 := g3.trans g35
  have elp : ({ lp with state := .ready, pending := none } : Lp) = lp := by
    obtain ⟨a, b, _⟩ := hlp
    cases lp
    simp only at a b
    subst a b
    rfl
  have hold : ∀ X, X < s.n → X ≠ A → s5.at X = s.at X := fun X hX hne => by
    rw [g25.same X (by omega), p2.rest X hne, m1.grew.same X hX]
    rfl
  have hA5 : s5.at A = some (.cells (splice c o [nilS]) T false) := (g25.same A (by omega)).trans p2.here
  have hus : ∀ s', (∀ X, X < s.n → X ≠ A → s'.at X = s.at X) → U64s s' u l := fun s' hs => Sl.sameAt hu fun X o sp k c e => hs X (hub X o sp k c e).1 fun e2 => (hub X o sp k c e).2 (by rw [e2]; exact hW)
  have hI0 : ∀ s6, s6.n = s5.n → (∀ X, s6.at X = s5.at X) → Wf s6 → A ≤ s6.lo → StI s A o c T Bx (s3.n + 1) s3.n C N lp u [.pointer none, ptrO A o, .pointer none, .pointer none] l 0 s6 := fun s6 hn6 hat w6 hlo6 => by
    refine ⟨w6, by omega, fun X hX hne => (hat X).trans (hold X hX hne), hlo6, (hat _).trans hL5, (hat _).trans hD5, (hat _).trans ((g25.same Bx (by omega)).trans ((p2.rest Bx (by omega)).trans hB1)), (hat _).trans ((g35.same C hCl).trans c3), (hat _).trans ((g35.same N hNl).trans nn3), ⟨by omega, by omega, by omega, by omega, by omega, by omega, by omega, rfl⟩, nilS, none, (hat _).trans hA5, ⟨rfl, rfl, by simp⟩, fun X e => by cases e⟩
  refine wChunkU1 (L := s3.n + 1) (C := C) (N := N) (u := u) (l := l) (m := m) lp (fun i s' => StI s A o c T Bx (s3.n + 1) s3.n C N lp u [.pointer none, ptrO A o, .pointer none, .pointer none] l i s') (by rw [hlp.2.2.2.1]; rfl) (fun i s' hI => hI.loop) (fun i s' hI => ⟨_, _, hI.hC⟩) (fun i s' hI => ⟨_, _, hI.hN⟩) (fun i s' hI => hus s' hI.same) (by omega) hev (by omega) (fun i s' A1 o1 cells tt op hi hI hA1 hcut => ?_) ?_ (fun hm0 => ?_) (fun s' hI => ?_)
  · rw [hlp.2.2.1, hlp.2.2.2.1, hlp.2.2.2.2.1, hlp.2.2.2.2.2]
    obtain ⟨v, oA, hAv, hO, hX⟩ := hI.ex
    have hne := hI.ne
    have hLl := St.at_lt hI.loop
    have hnI := hI.n
    have hBl := St.at_lt hI.bx
    refine round_wp (N := 51) (Agr.set ht 10 _ (by decide)) l49_101111111100 l49_101111111101 (by omega) ?_
    rw [n49_101111111100]
    unfold v49_101111111100
    refine ⟨lp, hI.loop, hlp.1, ?_⟩
    have pb := Put.mk' hI.wf hLl (.loop { lp with state := .busy })
    generalize s'.put (s3.n + 1) (.loop { lp with state := .busy }) = sb at pb ⊢
    have nb := pb.n
    rw [n49_101111111101]
    unfold v49_101111111101
    have hBb := (pb.rest Bx (by omega)).trans hI.bx
    have hAb := (pb.rest A (by omega)).trans hAv
    have hA1l := St.at_lt hA1
    have hA1b : A1 ≠ s3.n + 1 := fun e => by
      rw [e, hI.loop] at hA1
      cases hA1
    have hA1b' := (pb.rest A1 hA1b).trans hA1
    have hvp : veq (ptrO A o) (ptrO A o) = true := by simp [veq]
    have hvv : veq v v = true := by
      cases oA with
      | none => obtain ⟨e, _⟩ := hO; rw [e]; rfl
      | some Y => obtain ⟨e, _⟩ := hO; rw [e]; simp [veq]
    have hvd : veq (.agg (.mk [.int .u64 l[2 * i], .int .u64 l[2 * i + 1]])) (.agg (.mk [.int .u64 l[2 * i], .int .u64 l[2 * i + 1]])) = true := by simp [veq, veqA, veqL]
    have hspl : (splice c o [v])[o]? = some v := by
      have := splice_in (c := c) (o := o) (l := [v]) (j := 0) (by simp; omega) (by simp)
      rw [Nat.add_zero] at this
      rw [this]; rfl
    have har : aarrptr P 55 (.slice (some ⟨A1, o1, none⟩) 2 2) = some (ptrO A1 o1) := by
      simp only [aarrptr, un_55]
      rw [if_pos (by omega)]
    simp (maxSteps := 10000000) only [U, tset_eq, wW, reduceCtorEq, Nat.reduceEqDiff, wop_load, fa_82_1, load1 ap_78, load1 ap_33, acells_some hBb, acells_some hAb, Nat.zero_add, List.getElem?_cons_zero, List.getElem?_cons_succ, hvp, true_and, hspl, hvv, wop_arrptr, har]
    rw [load_part ap_55 hA1b' hcut, wopt_some]
    refine ⟨hvd, ?_⟩
    refine buildSlice_rule se_33 ty_55 pb.wf [.agg (.mk [.int .u64 l[2 * i], .int .u64 l[2 * i + 1]])] rfl rfl (by decide) (fun v hv => by
      simp only [List.mem_cons, List.not_mem_nil, or_false] at hv
      subst hv
      rfl) fun A6 s6 m6 => ?_
    refine ⟨m6.fresh (by simp [veqL, veq, List.flatMap, Value.cells]), ?_⟩
    have e6 := m6.eq
    have n6 := m6.n
    have x6 : Sl s6 (.slice (some ⟨A6, 0, none⟩) 1 1) 2 1 [.int .u64 l[2 * i], .int .u64 l[2 * i + 1]] := m6.sl rfl
    have hO6 : Own s6 v 55 2 i ((l.take (2 * i)).map (.int .u64)) oA := Own.grew (Own.same (s' := sb) hO fun X e => pb.rest X (by have := hX X e; omega)) m6.grew
    refine append_rule se_33 (by kernel_rfl) ty_55 (by decide) (by decide) hO6 x6 (by decide) m6.wf (fun X e => by have := hX X e; omega) (by omega) rfl fun v7 s7 hO7 ap => ?_
    have n7 := ap.n
    have hB7 : s7.at Bx = s6.at Bx := ap.rest Bx (by omega) (fun e => by have := hX _ e; omega)
    refine ⟨Keeps.ptr1 (by omega) hB7, ?_⟩
    have hA7 : s7.at A = some (.cells (splice c o [v]) T false) := (ap.rest A (by omega) (fun e => by have := hX _ e; omega)).trans ((m6.grew.same A (by omega)).trans hAb)
    have h1v : v7.oneCell' = true := by obtain ⟨e, _⟩ := hO7; rw [e]; rfl
    have hsl : (splice c o [v]).length = c.length := splice_length (by simp; omega)
    refine store1_rule isz_33 hA7 ap.wf hro (by omega) h1v fun s8 p8 => ?_
    have n8 := p8.n
    refine ⟨by omega, ?_⟩
    have h8s : splice (splice c o [v]) o [v7] = splice c o [v7] := splice2 (by simp; omega) rfl
    have hother : ∀ X, X < s'.n → X ≠ A → X ≠ s3.n + 1 → oA ≠ some X → s8.at X = s'.at X := fun X h1 h2 h3 h4 => by
      rw [p8.rest X h2, ap.rest X (by omega) h4, m6.grew.same X (by omega), pb.rest X h3]
    have hL8 : s8.at (s3.n + 1) = some (.loop { lp with state := .busy }) := by
      rw [p8.rest _ (by omega), ap.rest _ (by omega) (fun e => by have := hX _ e; omega), m6.grew.same _ (by omega)]
      exact pb.here
    refine ⟨_, hL8, rfl, ?_⟩
    show (s8.put (s3.n + 1) (.loop { lp with state := .ready, pending := none })).lo ≤ s3.n + 1 ∧ _
    refine ⟨Nat.min_le_right _ _, ?_⟩
    show StI s A o c T Bx (s3.n + 1) s3.n C N lp u _ l (i + 1) (s8.put (s3.n + 1) (.loop { lp with state := .ready, pending := none }))
    rw [elp]
    have pf := Put.mk' p8.wf (St.at_lt hL8) (.loop lp)
    generalize s8.put (s3.n + 1) (.loop lp) = sf at pf ⊢
    have nf := pf.n
    have hoth : ∀ X, X < s'.n → X ≠ A → X ≠ s3.n + 1 → oA ≠ some X → sf.at X = s'.at X := fun X h1 h2 h3 h4 => (pf.rest X h3).trans (hother X h1 h2 h3 h4)
    have hCl' := St.at_lt hI.hC
    have hNl' := St.at_lt hI.hN
    have hDl' := St.at_lt hI.dfr
    have htk : (l.take (2 * (i + 1))).map (Value.int .u64) = (l.take (2 * i)).map (Value.int .u64) ++ [.int .u64 l[2 * i], .int .u64 l[2 * i + 1]] := by
      rw [show 2 * (i + 1) = 2 * i + 1 + 1 by omega, take_succ_eq (List.getElem?_eq_getElem (show 2 * i + 1 < l.length by omega)), take_succ_eq (List.getElem?_eq_getElem (show 2 * i < l.length by omega)), List.map_append, List.map_append, List.append_assoc]
      rfl
    refine ⟨pf.wf, by omega, fun X h1 h2 => (hoth X (by omega) h2 (by omega) (fun e => by have := hX X e; omega)).trans (hI.same X h1 h2), ?_, pf.here, ?_, ?_, ?_, ?_, hne, v7, some s6.n, ?_, ?_, fun X e => ?_⟩
    · have h1 := pf.lo
      have h2 := p8.lo
      have h3 := ap.lo2 A (by rw [m6.grew.lo, pb.lo]; have := hI.lo; omega) (fun X e => by have := hX X e; omega)
      omega
    · exact (hoth s3.n hDl' (by omega) (by omega) (fun e => by have := hX _ e; omega)).trans hI.dfr
    · exact (hoth Bx hBl (by omega) (by omega) (fun e => by have := hX _ e; omega)).trans hI.bx
    · exact (hoth C hCl' (by omega) (by omega) (fun e => by have := hX _ e; omega)).trans hI.hC
    · exact (hoth N hNl' (by omega) (by omega) (fun e => by have := hX _ e; omega)).trans hI.hN
    · rw [pf.rest A (by omega), p8.here, h8s]
    · rw [htk]
      refine Own.same (s := s7) hO7 fun X e => ?_
      cases e
      rw [pf.rest _ (by omega), p8.rest _ (by omega)]
    · cases e
      omega
  · exact hI0 (ent s5) rfl (fun _ => rfl) w5.ent (by show A ≤ s5.n; omega)
  · subst hm0
    have hI6 := hI0 s5 rfl (fun _ => rfl) w5 (by have h1 := g25.lo; have h2 := p2.lo; have h3 := m1.grew.lo; have h4 : (ent s).lo = s.n := rfl; omega)
    have hloU : s5.lo ≤ A := by have h1 := g25.lo; have h2 := p2.lo; omega
    obtain ⟨v, oA, hAv, hO, hX⟩ := hI6.ex
    have hne := hI6.ne
    refine ⟨lp, .normal, hI6.loop, .inl hlp.1, by rw [hlp.2.1]; rfl, ?_⟩
    have pe := Put.mk' hI6.wf (St.at_lt hI6.loop) (.loop { lp with state := .exhausted })
    generalize (s5).put (s3.n + 1) (.loop { lp with state := .exhausted }) = se at pe ⊢
    have hDe := (pe.rest s3.n (by omega)).trans hI6.dfr
    have ne := pe.n
    refine ⟨hDe, by omega, ?_⟩
    have pd := Put.mk' pe.wf (St.at_lt hDe) (.defd none)
    generalize se.put s3.n (.defd none) = sd at pd ⊢
    have nd := pd.n
    have hloA := hI6.lo
    have hn6 := hI6.n
    have hpl := pe.lo
    have hdl := pd.lo
    have hat : ∀ X, X ≠ s3.n → X ≠ s3.n + 1 → sd.at X = (s5).at X := fun X h1 h2 => (pd.rest X h1).trans (pe.rest X h2)
    show wfin s K (.tuple (.mk [])) sd
    rw [wfin_old (by omega)]
    rw [List.take_of_length_le (by omega)] at hO
    refine hk _ ⟨⟨by show min s.lo sd.lo ≤ sd.n; have := hw.lo; omega, pd.wf.len⟩, by show s.n ≤ sd.n; omega, fun X hX1 hX2 => (hat X (by omega) (by omega)).trans (hI6.same X hX1 hX2), ⟨[v], (hat A (by omega) (by omega)).trans hAv, ?_⟩, fun s0 h0 g hle => ⟨by show s0.n ≤ sd.n; have := g.n; omega, by show min s.lo sd.lo = s0.lo; have := g.lo; have := h0.lo; omega, fun X hX1 => ?_, fun _ => pd.wf.len⟩⟩
    · unfold SlotW
      rw [if_neg (by omega), if_neg (by omega), if_neg (by omega)]
      refine ⟨v, rfl, 0, by omega, ?_, fun X o' sp kk cc e => ?_⟩
      · have hO2 : Own sd v 55 2 0 (l.map (.int .u64)) oA := Own.same hO fun X e => hat X (by have := hX X e; omega) (by have := hX X e; omega)
        exact Sl.sameAt (Own.sl hO2) fun _ _ _ _ _ _ => rfl
      · cases oA with
        | none =>
          obtain ⟨e1, _⟩ := hO
          rw [e1] at e
          cases e
        | some Y =>
          have hY := hX Y rfl
          have hYl := Own.lt hO
          obtain ⟨e1, _⟩ := hO
          rw [e1] at e
          cases e
          refine ⟨?_, fun hw' => ?_⟩
          · show _ < sd.n
            omega
          · have := hWlt _ hw'
            omega
    · have := g.n
      show sd.at X = s0.at X
      rw [hat X (by omega) (by omega), hI6.same X (by omega) (by omega)]
      exact g.same X hX1
  · have hloU : min s5.lo s'.lo ≤ A := by have h1 := g25.lo; have h2 := p2.lo; omega
    have hloL : A ≤ min s5.lo s'.lo := by have h1 := g25.lo; have h2 := p2.lo; have h3 := m1.grew.lo; have h4 : (ent s).lo = s.n := rfl; have := hI.lo; omega
    have hI6 : StI s A o c T Bx (s3.n + 1) s3.n C N lp u [.pointer none, ptrO A o, .pointer none, .pointer none] l m ({ s' with lo := min s5.lo s'.lo } : St) := ⟨⟨by show min s5.lo s'.lo ≤ s'.n; have := hI.wf.lo; omega, hI.wf.len⟩, hI.n, hI.same, hloL, hI.loop, hI.dfr, hI.bx, hI.hC, hI.hN, hI.ne, by
      obtain ⟨v, oA, h1, h2, h3⟩ := hI.ex
      exact ⟨v, oA, h1, Own.same h2 (fun _ _ => rfl), h3⟩⟩
    generalize hs6 : ({ s' with lo := min s5.lo s'.lo } : St) = s6 at hI6 ⊢
    have hloU' : s6.lo ≤ A := by rw [← hs6]; exact hloU
    obtain ⟨v, oA, hAv, hO, hX⟩ := hI6.ex
    have hne := hI6.ne
    refine ⟨lp, .normal, hI6.loop, .inl hlp.1, by rw [hlp.2.1]; rfl, ?_⟩
    have pe := Put.mk' hI6.wf (St.at_lt hI6.loop) (.loop { lp with state := .exhausted })
    generalize (s6).put (s3.n + 1) (.loop { lp with state := .exhausted }) = se at pe ⊢
    have hDe := (pe.rest s3.n (by omega)).trans hI6.dfr
    have ne := pe.n
    refine ⟨hDe, by omega, ?_⟩
    have pd := Put.mk' pe.wf (St.at_lt hDe) (.defd none)
    generalize se.put s3.n (.defd none) = sd at pd ⊢
    have nd := pd.n
    have hloA := hI6.lo
    have hn6 := hI6.n
    have hpl := pe.lo
    have hdl := pd.lo
    have hat : ∀ X, X ≠ s3.n → X ≠ s3.n + 1 → sd.at X = (s6).at X := fun X h1 h2 => (pd.rest X h1).trans (pe.rest X h2)
    show wfin s K (.tuple (.mk [])) sd
    rw [wfin_old (by omega)]
    rw [List.take_of_length_le (by omega)] at hO
    refine hk _ ⟨⟨by show min s.lo sd.lo ≤ sd.n; have := hw.lo; omega, pd.wf.len⟩, by show s.n ≤ sd.n; omega, fun X hX1 hX2 => (hat X (by omega) (by omega)).trans (hI6.same X hX1 hX2), ⟨[v], (hat A (by omega) (by omega)).trans hAv, ?_⟩, fun s0 h0 g hle => ⟨by show s0.n ≤ sd.n; have := g.n; omega, by show min s.lo sd.lo = s0.lo; have := g.lo; have := h0.lo; omega, fun X hX1 => ?_, fun _ => pd.wf.len⟩⟩
    · unfold SlotW
      rw [if_neg (by omega), if_neg (by omega), if_neg (by omega)]
      refine ⟨v, rfl, m, by omega, ?_, fun X o' sp kk cc e => ?_⟩
      · have hO2 : Own sd v 55 2 m (l.map (.int .u64)) oA := Own.same hO fun X e => hat X (by have := hX X e; omega) (by have := hX X e; omega)
        exact Sl.sameAt (Own.sl hO2) fun _ _ _ _ _ _ => rfl
      · cases oA with
        | none =>
          obtain ⟨e1, _⟩ := hO
          rw [e1] at e
          cases e
        | some Y =>
          have hY := hX Y rfl
          have hYl := Own.lt hO
          obtain ⟨e1, _⟩ := hO
          rw [e1] at e
          cases e
          refine ⟨?_, fun hw' => ?_⟩
          · show _ < sd.n
            omega
          · have := hWlt _ hw'
            omega
    · have := g.n
      show sd.at X = s0.at X
      rw [hat X (by omega) (by omega), hI6.same X (by omega) (by omega)]
      exact g.same X hX1
end
end Go.VE
/- (proof.list).set of every kind. -/
namespace Go.VE
open Go Go.Proofs
set_option maxRecDepth 20000
def lenOk (k : Nat) (l : List Int) : Prop := if k = 2 ∨ k = 7 then l.length = 1 else if k = 10 then l.length = 8 else if k = 6 ∨ k = 8 then True else l.length % 2 = 0
section
variable {ro : Nat} {s : St} {K : Value → St → Prop}
theorem SetR.put {W : Nat → Prop} {k A o : Nat} {c vals : List Value} {T : TypeId} {l : List Int} {s1 s2 : St} (hA : s.at A = some (.cells c T false)) (hw : Wf s) (g1 : Grew (ent s) s1) (p2 : Put s1 A (.cells (splice c o vals) T false) s2) (hS : SlotW ({ s2 with lo := min s.lo s2.lo } : St) W k vals l) :
    SetR s W A o c T k l { s2 with lo := min s.lo s2.lo } := by
  have hAl := St.at_lt hA
  have hn := g1.n
  have hn0 : (ent s).n = s.n := rfl
  have hl : (ent s).lo = s.n := rfl
  have hlo := g1.lo
  have h2 := p2.lo
  have n2 := p2.n
  refine ⟨⟨by show min s.lo s2.lo ≤ s2.n; have := hw.lo; omega, p2.wf.len⟩, by show s.n ≤ s2.n; omega, fun X h1 hne => (p2.rest X hne).trans (g1.same X h1), ⟨vals, p2.here, hS⟩, fun s0 h0 g hle => ⟨by show s0.n ≤ s2.n; have := g.n; omega, by show min s.lo s2.lo = s0.lo; have := g.lo; have := h0.lo; omega, fun X hX => ?_, fun _ => p2.wf.len⟩⟩
  have := g.n
  show s2.at X = s0.at X
  rw [p2.rest X (by omega), g1.same X (by show X < s.n; omega)]
  exact g.same X hX
theorem wSet {W : Nat → Prop} {k A o : Nat} {c : List Value} {T : TypeId} {u : Value} {l : List Int} (hk1 : 1 ≤ k ∧ k ≤ 11) (hA : s.at A = some (.cells c T false)) (hfit : o + slotE k ≤ c.length) (hW : W A) (hWlt : ∀ X, W X → X < s.n)
    (hu : U64s s u l) (hub : ∀ X o sp k c, u = .slice (some ⟨X, o, sp⟩) k c → X < s.n ∧ ¬ W X) (hlen : l.length < 2 ^ 30) (hlk : lenOk k l) (hw : Wf s) (hro : ro ≤ A) (hk : ∀ s', SetR s W A o c T k l s' → K (.tuple (.mk [])) s') :
    CallWP P ro 49 [.agg (.mk (lstC k (ptrO A o))), u] s K := by
  unfold lenOk at hlk
  unfold slotE at hfit
  by_cases hd : k = 1 ∨ k = 3 ∨ k = 4 ∨ k = 5 ∨ k = 9 ∨ k = 11
  · rw [if_neg (by omega), if_neg (by omega), if_neg (by omega)] at hlk
    rw [if_neg (by omega)] at hfit
    exact wSetD (m := l.length / 2) hd hA hfit hW hWlt hu hub hlen (by omega) hw hro hk
  have hAl := St.at_lt hA
  have hn0 : (ent s).n = s.n := rfl
  refine call_wp b49 rfl ?_
  rw [n49]
  unfold v49
  have huc : u.cells.toList = [u] := by obtain ⟨a, cc, rfl, _⟩ := hu; rfl
  have hu1 : u.oneCell' = true := by obtain ⟨a, cc, rfl, _⟩ := hu; rfl
  by_cases he : k = 6 ∨ k = 8
  · have hl1 : lstC k (ptrO A o) = [ptrO A o, .pointer none, .pointer none, .pointer none] := by
      unfold lstC
      rw [if_pos he]
    rw [if_neg (by omega)] at hfit
    rw [hl1]
    simp (maxSteps := 10000000) only [wW, reduceCtorEq, Nat.reduceEqDiff]
    refine box_rule hw.ent fun Bx s1 m1 => ?_
    have e1 := m1.eq
    have n1 := m1.n
    have hB1 : s1.at Bx = some (.cells [ptrO A o, .pointer none, .pointer none, .pointer none] 82 false) := m1.here
    simp (maxSteps := 10000000) only [wW, reduceCtorEq, Nat.reduceEqDiff, wop_load, fa_82_0, load1 ap_77, acells_some hB1, Nat.zero_add, List.getElem?_cons_zero, ps77]
    have hA1 := (m1.grew.same A hAl).trans (show (ent s).at A = _ from hA)
    refine store1_rule isz_36 hA1 m1.wf hro (by omega) hu1 fun s2 p2 => ?_
    have h1 := p2.lo
    rw [wfin_old (by omega)]
    refine hk _ (SetR.put hA hw m1.grew p2 ?_)
    unfold SlotW
    rw [if_neg (by omega), if_neg (by omega), if_pos he]
    have n2 := p2.n
    refine ⟨u, rfl, l.length, by omega, ?_, fun X o' sp kk cc e => ⟨by show X < s2.n; have := (hub X o' sp kk cc e).1; omega, (hub X o' sp kk cc e).2⟩⟩
    refine Sl.sameAt hu fun X o' sp kk cc e => ?_
    have hX := hub X o' sp kk cc e
    show s2.at X = s.at X
    rw [p2.rest X (fun e2 => hX.2 (by rw [e2]; exact hW))]
    exact m1.grew.same X hX.1
  by_cases ho : k = 2 ∨ k = 7
  · have hl1 : lstC k (ptrO A o) = [.pointer none, .pointer none, ptrO A o, .pointer none] := by
      unfold lstC
      rw [if_neg he, if_pos ho]
    rw [if_neg (by omega)] at hfit
    rw [if_pos ho] at hlk
    rw [hl1]
    simp (maxSteps := 10000000) only [wW, reduceCtorEq, Nat.reduceEqDiff]
    refine box_rule hw.ent fun Bx s1 m1 => ?_
    have e1 := m1.eq
    have n1 := m1.n
    have hB1 : s1.at Bx = some (.cells [.pointer none, .pointer none, ptrO A o, .pointer none] 82 false) := m1.here
    have hvp : veq (ptrO A o) (ptrO A o) = true := by simp [veq]
    obtain ⟨x, rfl⟩ : ∃ x, l = [x] := by
      match l, hlk with
      | [x], _ => exact ⟨x, rfl⟩
    have hu' : U64s s1 u [x] := (Sl.ent hu).grew m1.grew.same
    obtain ⟨A5, o5, q1, q2, _⟩ := Sl.ix hu' (by decide) (show (0 : Int) ≤ 0 by decide) (show (0 : Int) < ([x].length : Int) by simp)
    have q2' := q2 0 (by decide)
    have hld : aload P s1 34 (.pointer (some ⟨A5, o5, none⟩)) = some (.int .u64 x) := by
      rw [load1 ap_34]
      exact q2'
    have hvx : veq (.int .u64 x) (.int .u64 x) = true := by simp [veq]
    simp (maxSteps := 10000000) only [wW, reduceCtorEq, Nat.reduceEqDiff, wop_load, fa_82_0, fa_82_2, load1 ap_77, load1 ap_79, acells_some hB1, Nat.zero_add, List.getElem?_cons_zero, List.getElem?_cons_succ, pn77, ps79, hvp, true_and, wop_indexAddr, q1 se_36 isz_34, hld, hvx]
    have hA1 := (m1.grew.same A hAl).trans (show (ent s).at A = _ from hA)
    refine store1_rule isz_34 hA1 m1.wf hro (by omega) rfl fun s2 p2 => ?_
    have h1 := p2.lo
    rw [wfin_old (by omega)]
    refine hk _ (SetR.put hA hw m1.grew p2 ?_)
    unfold SlotW
    rw [if_pos ho]
    exact ⟨x, rfl, rfl⟩
  · have h10 : k = 10 := by omega
    subst h10
    have hl1 : lstC 10 (ptrO A o) = [.pointer none, .pointer none, .pointer none, ptrO A o] := rfl
    rw [if_pos rfl] at hfit
    rw [if_neg (by omega), if_pos rfl] at hlk
    rw [hl1]
    simp (maxSteps := 10000000) only [wW, reduceCtorEq, Nat.reduceEqDiff]
    refine box_rule hw.ent fun Bx s1 m1 => ?_
    have e1 := m1.eq
    have n1 := m1.n
    have hB1 : s1.at Bx = some (.cells [.pointer none, .pointer none, .pointer none, ptrO A o] 82 false) := m1.here
    have hu' : U64s s1 u l := (Sl.ent hu).grew m1.grew.same
    have hA1 := (m1.grew.same A hAl).trans (show (ent s).at A = _ from hA)
    have hsl : asliceOp P 112 (.pointer (some ⟨A, o, none⟩)) none none none = some (.slice (some ⟨A, o, none⟩) 8 8) := by
      simp only [asliceOp, un_112, isz_34, sliceArr, abound, Option.bind_some]
      simp
    simp (maxSteps := 10000000) only [wW, reduceCtorEq, Nat.reduceEqDiff, wop_load, fa_82_0, fa_82_2, fa_82_3, load1 ap_77, load1 ap_79, load1 ap_80, acells_some hB1, Nat.zero_add, List.getElem?_cons_zero, List.getElem?_cons_succ, pn77, pn79, ps80, wop_sliceArr]
    rw [show asliceOp P 112 (.pointer (some ⟨A, o, none⟩)) (Option.map (aval .e) none) (Option.map (aval .e) none) (Option.map (aval .e) none) = some (.slice (some ⟨A, o, none⟩) 8 8) from hsl, wopt_some, wop_copy]
    obtain ⟨q1, q2⟩ := hu'.first
    have hml : (l.map (Value.int .u64)).length = 8 := by rw [List.length_map]; exact hlk
    have hcp : acopy P ro s1 #[36, 36] [.slice (some ⟨A, o, none⟩) 8 8, u] = some (goInt (8 : Nat), s1.put A (.cells (splice c o (l.map (.int .u64))) T false)) := by
      have hmin : min l.length 8 = 8 := by omega
      have q2' : afirst s1 1 8 u = some (l.map (.int .u64)) := by rw [← hlk]; exact q2
      simp only [acopy, se_36, isz_34, q1, hmin, q2', Option.bind_some]
      rw [awrite_some hA1 hro (by omega) (by omega) (by rw [List.all_map]; exact List.all_eq_true.2 fun _ _ => rfl)]
      rfl
    rw [hcp, wopt_some]
    have p2 := Put.mk' m1.wf (St.at_lt hA1) (.cells (splice c o (l.map (.int .u64))) T false)
    generalize s1.put A (.cells (splice c o (l.map (.int .u64))) T false) = s2 at p2 ⊢
    have h1 := p2.lo
    show wfin s K (.tuple (.mk [])) s2
    rw [wfin_old (by omega)]
    refine hk _ (SetR.put hA hw m1.grew p2 ?_)
    unfold SlotW
    rw [if_neg (by omega), if_pos rfl]
    exact ⟨hlk, rfl⟩
end
end Go.VE
/- Numbers out of bytes. -/
namespace Go.VE
open Go Go.Proofs
set_option maxRecDepth 20000
def Bys (s : St) (v : Value) (l : List Int) : Prop := Sl s v 1 l.length (l.map (.int .u8))
def byt (b : List Int) (i : Nat) : Int := (b[i]?).getD 0
def accB (b : List Int) (o : Nat) : Nat → Int
  | 0 => 0
  | i + 1 => accB b o i + byt b (o + i) * 2 ^ (8 * i)
def numAt (b : List Int) (k : Nat) : Int := accB b (4 * k) 4
theorem byt_bounds {b : List Int} (hb : ∀ x ∈ b, 0 ≤ x ∧ x < 256) (i : Nat) : 0 ≤ byt b i ∧ byt b i < 256 := by
  unfold byt
  cases h : b[i]? with
  | none => simp
  | some x => exact hb x (List.mem_of_getElem? h)
theorem accB_bounds {b : List Int} (hb : ∀ x ∈ b, 0 ≤ x ∧ x < 256) (o : Nat) : ∀ i, 0 ≤ accB b o i ∧ accB b o i < 2 ^ (8 * i)
  | 0 => by simp [accB]
  | i + 1 => by
    have ih := accB_bounds hb o i
    have hx := byt_bounds hb (o + i)
    have hp : (0 : Int) < 2 ^ (8 * i) := Int.pow_pos (by decide)
    have e : (2 : Int) ^ (8 * (i + 1)) = 256 * 2 ^ (8 * i) := by rw [Nat.mul_succ, Int.pow_add, Int.mul_comm]; rfl
    have h1 : byt b (o + i) * 2 ^ (8 * i) ≤ 255 * 2 ^ (8 * i) := Int.mul_le_mul_of_nonneg_right (by omega) (Int.le_of_lt hp)
    have h2 : 0 ≤ byt b (o + i) * 2 ^ (8 * i) := Int.mul_nonneg hx.1 (Int.le_of_lt hp)
    unfold accB
    rw [e]
    omega
theorem or_sum {a x : Int} {n : Nat} (ha : 0 ≤ a ∧ a < 2 ^ n) (hx : 0 ≤ x) (hs : a + x * 2 ^ n < 2 ^ 64) : abinInt P .or .u64 a .u64 (x * 2 ^ n) = some (.int .u64 (a + x * 2 ^ n)) := by
  rw [int_or keq_u64]
  have hp : (0 : Int) < 2 ^ n := Int.pow_pos (by decide)
  have hx2 : 0 ≤ x * 2 ^ n := Int.mul_nonneg hx (Int.le_of_lt hp)
  obtain ⟨a', rfl⟩ : ∃ m : Nat, a = m := ⟨a.toNat, by omega⟩
  obtain ⟨x', rfl⟩ : ∃ m : Nat, x = m := ⟨x.toNat, by omega⟩
  have ha2 : a' < 2 ^ n := by exact_mod_cast ha.2
  have hcast : ((x' : Int) * 2 ^ n) = ((2 ^ n * x' : Nat) : Int) := by push_cast; rw [Int.mul_comm]
  have hs2 : 2 ^ n * x' + a' < 2 ^ 64 := by
    rw [hcast] at hs
    exact_mod_cast (by omega : ((2 ^ n * x' : Nat) : Int) + (a' : Int) < 2 ^ 64)
  have hb : (BitVec.ofInt 64 (a' : Int) ||| BitVec.ofInt 64 ((2 ^ n * x' : Nat) : Int)).toNat = 2 ^ n * x' + a' := by
    rw [BitVec.toNat_or, BitVec.ofInt_natCast, BitVec.ofInt_natCast, BitVec.toNat_ofNat, BitVec.toNat_ofNat, Nat.mod_eq_of_lt (by omega), Nat.mod_eq_of_lt (by omega), Nat.or_comm, ← Nat.two_pow_add_eq_or_of_lt ha2]
  rw [hcast]
  have e64 : IntKind.u64.bits = 64 := rfl
  rw [e64, hb]
  congr 2
  rw [wrap_u64 (by omega) (by exact_mod_cast hs2)]
  push_cast
  omega
section
variable {ro : Nat} {s : St} {K : Value → St → Prop}
theorem conv_u8_u64 (x : Int) (ty : TypeId) (s : St) (K : Value → St → Prop) : wop P ro (.convert 5 34 (.const (.int .u8 x))) ty s K = K (.int .u64 (IntKind.u64.wrap x)) s := by kernel_rfl
theorem Bys.ix {v : Value} {l : List Int} (h : Bys s v l) {i : Int} (h0 : 0 ≤ i) (hi : i < l.length) : ∃ p, aindexAddr P 32 v (.int .i64 i) = some p ∧ aload P s 5 p = some (.int .u8 (byt l i.toNat)) := by
  obtain ⟨A, o, h1, h2, _⟩ := Sl.ix h (by decide) h0 hi
  refine ⟨_, h1 se_32 isz_5, ?_⟩
  rw [load1 ap_5]
  have := h2 0 (by decide)
  rw [Nat.add_zero, Nat.add_zero, Nat.mul_one] at this
  rw [this, List.getElem?_map]
  unfold byt
  rw [List.getElem?_eq_getElem (show i.toNat < l.length by omega)]
  rfl
theorem subB {v : Value} {l : List Int} (h : Bys s v l) {a b : Nat} (hab : a < b) (hb : b ≤ l.length) : ∃ w, Bys s w ((l.drop a).take (b - a)) ∧
    ∀ (ty : TypeId) (s' : St) (K : Value → St → Prop), wop P ro (.slice 32 (.const v) (some (.const (.int .i64 (a : Int)))) (some (.const (.int .i64 (b : Int)))) none) ty s' K = K w s' := by
  have hs : isz P 5 = some 1 := isz_5
  have hund : P.underlying 32 = some (.slice 5) := un_32
  obtain ⟨x, c, rfl, hl, ⟨hc, hnone, hsp⟩, hbk⟩ := h
  obtain ⟨A, o, m, cells, t, op, rfl, hm, hA, hcs⟩ := hbk (by omega)
  have hm2 := hsp _ rfl
  simp only at hm2
  have htl : ((l.drop a).take (b - a)).length = b - a := by rw [List.length_take, List.length_drop]; omega
  have hhi : abound (some (.int .i64 (b : Int))) l.length c = some b := by
    simp only [abound]
    rw [if_pos ⟨by omega, by omega⟩]
    rfl
  have hlo : abound (some (.int .i64 (a : Int))) 0 b = some a := by
    simp only [abound]
    rw [if_pos ⟨by omega, by omega⟩]
    rfl
  have hblk : ∀ sp, mkOk sp = true → (b - a) * 1 ≠ 0 → ∃ A' o' m' cells t op, some (⟨A, o + a * 1, sp⟩ : Addr) = some ⟨A', o', m'⟩ ∧ mkOk m' = true ∧ s.at A' = some (.cells cells t op) ∧ (cells.drop o').take ((b - a) * 1) = ((l.drop a).take (b - a)).map (.int .u8) := fun sp hsp' _ => by
    refine ⟨A, _, sp, cells, t, op, rfl, hsp', hA, ?_⟩
    rw [List.map_take, List.map_drop, ← hcs, List.drop_take, List.drop_drop, List.take_take, Nat.mul_one, Nat.mul_one]
    congr 1
    omega
  rcases hm2 with rfl | ⟨rfl, hpos⟩
  · refine ⟨.slice (some ⟨A, o + a * 1, none⟩) (b - a) (c - a), ⟨_, _, by rw [htl], by simp, ⟨by rw [htl]; omega, fun h => (by cases h), fun x hx => (by cases hx; exact .inl rfl)⟩, by rw [htl]; exact hblk none rfl⟩, fun ty s' K => ?_⟩
    rw [wop_slice]
    have hne : ¬ c = a := by omega
    simp only [asliceOp, hund, hs, sliceTwo, Option.map_some, Option.map_none, aval, hhi, hlo, Option.bind_some, hne, if_false, wopt_some]
  · refine ⟨.slice (some ⟨A, o + a * 1, some 0⟩) (b - a) (c - a), ⟨_, _, by rw [htl], by simp, ⟨by rw [htl]; omega, fun h => (by cases h), fun x hx => (by cases hx; exact .inr ⟨rfl, by omega⟩)⟩, by rw [htl]; exact hblk (some 0) rfl⟩, fun ty s' K => ?_⟩
    rw [wop_slice]
    have hne : a < c := by omega
    simp only [asliceOp, hund, hs, sliceTwo, Option.map_some, Option.map_none, aval, hhi, hlo, Option.bind_some, hne, if_true, wopt_some]
structure Kd (τ τ' : Tau) : Prop where
  a1 : τ' 1 = τ 1
  a2 : τ' 2 = τ 2
  a4 : τ' 4 = τ 4
  a7 : τ' 7 = τ 7
  a10 : τ' 10 = τ 10
  a22 : τ' 22 = τ 22
  a23 : τ' 23 = τ 23
  a24 : τ' 24 = τ 24
theorem Kd.refl (τ : Tau) : Kd τ τ := ⟨rfl, rfl, rfl, rfl, rfl, rfl, rfl, rfl⟩
theorem Kd.trans {a b c : Tau} (h : Kd a b) (k : Kd b c) : Kd a c := ⟨k.a1.trans h.a1, k.a2.trans h.a2, k.a4.trans h.a4, k.a7.trans h.a7, k.a10.trans h.a10, k.a22.trans h.a22, k.a23.trans h.a23, k.a24.trans h.a24⟩
structure Ke (τ τ' : Tau) : Prop where
  d : Kd τ τ'
  a8 : τ' 8 = τ 8
  a11 : τ' 11 = τ 11
  a32 : τ' 32 = τ 32
  a33 : τ' 33 = τ 33
theorem Ke.refl (τ : Tau) : Ke τ τ := ⟨.refl _, rfl, rfl, rfl, rfl⟩
theorem Ke.trans {a b c : Tau} (h : Ke a b) (k : Ke b c) : Ke a c := ⟨h.d.trans k.d, k.a8.trans h.a8, k.a11.trans h.a11, k.a32.trans h.a32, k.a33.trans h.a33⟩
theorem byt_sub (b : List Int) {o i : Nat} (hi : i < 4) : byt ((b.drop o).take 4) i = byt b (o + i) := by
  unfold byt
  rw [List.getElem?_take, if_pos hi, List.getElem?_drop]
theorem dcB {b : List Int} {w : Value} {o : Nat} (hb : ∀ x ∈ b, 0 ≤ x ∧ x < 256) (hw4 : Bys s w ((b.drop o).take 4)) (hl : o + 4 ≤ b.length) {τ : Tau} {ds : List Deferred} {Kx kx : WK} {L : List (Nat × WK)} (t47 : τ 47 = w) (t48 : τ 48 = .int .i64 4) (t49 : τ 49 = .int .i64 0) (t12 : τ 12 = .int .u64 0)
    (hk : ∀ τ', Ke τ τ' → τ' 12 = .int .u64 (accB b o 4) → kx τ' ds s) :
    WLoop P ro 93 none c17_1111010011001101001100110100 τ ds s Kx ((4, kx) :: L) := by
  refine wloop l17_1111010011001101001100110100 m17_1111010011001101001100110100 (fun (i : Nat) τ' ds' s' => i ≤ 4 ∧ Ke τ τ' ∧ τ' 47 = w ∧ τ' 48 = .int .i64 4 ∧ τ' 49 = .int .i64 i ∧ τ' 12 = .int .u64 (accB b o i) ∧ ds' = ds ∧ s' = s) (fun i => 4 - i) ?_ 0 ⟨by omega, .refl _, t47, t48, t49, t12, rfl, rfl⟩
  rintro i τ' ds' s' ⟨hi, ke, a47, a48, a49, a12, rfl, rfl⟩
  rw [n17_1111010011001101001100110100]
  unfold v17_1111010011001101001100110100
  have hwl : ((b.drop o).take 4).length = 4 := by rw [List.length_take, List.length_drop]; omega
  by_cases hlt : i < 4
  · obtain ⟨p, q1, q2⟩ := hw4.ix (i := (i : Int)) (by omega) (by rw [hwl]; omega)
    rw [Int.toNat_natCast, byt_sub b hlt] at q2
    have hx := byt_bounds hb (o + i)
    have ha := accB_bounds hb o i
    have hab := accB_bounds hb o (i + 1)
    have hp8 : (2 : Int) ^ (8 * (i + 1)) ≤ 2 ^ 32 := by
      have := Nat.pow_le_pow_right (show 0 < 2 by decide) (show 8 * (i + 1) ≤ 32 by omega)
      exact_mod_cast this
    have hp9 : (0 : Int) < 2 ^ (8 * i) := Int.pow_pos (by decide)
    have hacc : accB b o (i + 1) = accB b o i + byt b (o + i) * 2 ^ (8 * i) := rfl
    have hxn : 0 ≤ byt b (o + i) * 2 ^ (8 * i) := Int.mul_nonneg hx.1 (Int.le_of_lt hp9)
    have hsh : abinInt P .shl .u64 (byt b (o + i)) .i64 (8 * (i : Int)) = some (.int .u64 (byt b (o + i) * 2 ^ (8 * i))) := by
      rw [int_shl _ _ _ _ (by omega)]
      have e64 : IntKind.u64.bits = 64 := rfl
      rw [e64, show min (8 * (i : Int)).toNat 64 = 8 * i by omega, wrap_u64 hxn (by omega)]
    simp (maxSteps := 10000000) only [wW, reduceCtorEq, Nat.reduceEqDiff, a47, a48, a49, a12, wop_indexAddr, q1, wop_load, q2, conv_u8_u64]
    rw [if_pos (by omega), wrap_u64 hx.1 (by omega), wrap_i64 (n := 8 * (i : Int)) (by omega) (by omega), hsh, wopt_some]
    simp (maxSteps := 10000000) only [wW, reduceCtorEq, Nat.reduceEqDiff]
    rw [or_sum ha hx.1 (by omega), wopt_some, ← hacc, wrap_i64 (n := (i : Int) + 1) (by omega) (by omega)]
    refine ⟨i + 1, by omega, by omega, ke.trans ⟨⟨?_, ?_, ?_, ?_, ?_, ?_, ?_, ?_⟩, ?_, ?_, ?_, ?_⟩, ?_, ?_, ?_, ?_, by first | trivial | rfl, by first | trivial | rfl⟩
    all_goals first | rfl | (simp only [U, tset_eq, wW, reduceCtorEq, Nat.reduceEqDiff]; done) | (simp only [U, tset_eq, wW, reduceCtorEq, Nat.reduceEqDiff, a47, a48]; done) | (simp only [U, tset_eq, wW, reduceCtorEq, Nat.reduceEqDiff]; rfl)
  · obtain rfl : i = 4 := by omega
    simp (maxSteps := 10000000) only [wW, reduceCtorEq, Nat.reduceEqDiff, a48, a49]
    rw [if_neg (by decide)]
    refine hk _ (ke.trans ⟨⟨?_, ?_, ?_, ?_, ?_, ?_, ?_, ?_⟩, ?_, ?_, ?_, ?_⟩) ?_
    all_goals first | rfl | (simp only [U, tset_eq, wW, reduceCtorEq, Nat.reduceEqDiff]; done) | (simp only [U, tset_eq, wW, reduceCtorEq, Nat.reduceEqDiff, a12]; done)
end
end Go.VE
/- The numbers of a part. -/
namespace Go.VE
open Go Go.Proofs
set_option maxRecDepth 20000
def rdE (b : List Int) (p : Int) (k : Nat) : Option (Int × Int) := if (b.length : Int) < 4 * k + 4 then some ((b.length : Int), 5) else if p ≤ numAt b k then some (4 * (k : Int), 2) else none
def numsB (b : List Int) (k n : Nat) : List Int := (List.range n).map fun j => numAt b (k + j)
theorem numsB_succ (b : List Int) (k n : Nat) : numsB b k (n + 1) = numsB b k n ++ [numAt b (k + n)] := by
  unfold numsB
  rw [List.range_succ, List.map_append]; rfl
theorem numsB_len (b : List Int) (k n : Nat) : (numsB b k n).length = n := by unfold numsB; simp
def zeroCs : List Value := [nilS, nilS, nilS, .int .u64 0, nilS, nilS, .int .u64 0, nilS]
theorem bldZ : abuild P 39 (partVals .e []) = some (.agg (.mk zeroCs)) := by kernel_rfl
theorem append_in {ro : Nat} {s : St} {A m c : Nat} {cs : List Value} {x : Value} {y : Int} (hA : s.at A = some (.cells cs 34 false)) (hw : Wf s) (hro : ro ≤ A) (hx : Sl s x 1 1 [.int .u64 y]) (hm : m + 1 ≤ c) (hc : cs.length = c) {ty : TypeId} {K : Value → St → Prop}
    (hk : ∀ s', Put s A (.cells (splice cs m [.int .u64 y]) 34 false) s' → K (.slice (some ⟨A, 0, none⟩) (m + 1) c) s') : wop P ro (.call ⟨.builtin .append, ⟨[.const (.slice (some ⟨A, 0, none⟩) m c), .const x]⟩, #[36, 36]⟩) ty s K := by
  obtain ⟨i, hi, his, hib, hz, hf, hzs⟩ := tyOk_spec ty_34
  obtain ⟨ha, hfst⟩ := hx.first
  rw [wop_append]
  have e1 : aappend P ro s #[36, 36] [.slice (some ⟨A, 0, none⟩) m c, x] = some (.slice (some ⟨A, 0, none⟩) (m + 1) c, s.put A (.cells (splice cs m [.int .u64 y]) 34 false)) := by
    have hni : notInt P 36 = true := by kernel_rfl
    simp only [aappend, se_36, hni, hi, ha, his, hfst, Option.bind_some, aappendTo]
    rw [if_pos hm, Nat.zero_add, Nat.mul_one, awrite_some hA hro (by simp) (by simp; omega) rfl]
    rfl
  rw [e1]
  exact hk _ (.mk' hw (St.at_lt hA) _)
section
variable {ro : Nat} {K : Value → St → Prop} {h : Shp} {s0 s : St}
structure DnI (s0 sP : St) (C O A : Nat) (h : Shp) (b : List Int) (u : Value) (k0 n r : Nat) (s : St) : Prop where
  wf : Wf s
  g0 : Grew s0 s
  g : Grew sP s
  l : ∃ c, s.at A = some (.cells c 34 false) ∧ c.length = n ∧ c.take r = (numsB b k0 r).map (.int .u64)
theorem dcN {b : List Int} {u : Value} {C O A k0 n : Nat} {sP : St} (hb : ∀ x ∈ b, 0 ≤ x ∧ x < 256) (hbl : b.length < 2 ^ 40) (hC : sP.at C = some (.cells h.cells 23 false)) (hO : ∃ c, sP.at O = some (.cells c 39 false) ∧ c.length = 8) (hO0 : s0.n ≤ O) (hu : Bys sP u b) (hF : FieldsAt sP) (hwP : Wf sP) (hg0P : Grew s0 sP) (hw0 : Wf s0) (hro0 : ro ≤ s0.n) (hAP : sP.n ≤ A)
    (hkn : 4 * k0 ≤ b.length) (hn : n ≤ 2 ^ 20) (hI : DnI s0 sP C O A h b u k0 n 0 s)
    {τ : Tau} {ds : List Deferred} {Kx kx k4 : WK} {L : List (Nat × WK)} (t1 : τ 1 = u) (t2 : τ 2 = ptr C) (t4 : τ 4 = ptr O) (t8 : τ 8 = .int .i64 (4 * k0)) (t11 : τ 11 = .slice (some ⟨A, 0, none⟩) 0 n) (t32 : τ 32 = .int .i64 n) (t33 : τ 33 = .int .i64 0)
    (hk : ∀ τ' s', Kd τ τ' → τ' 8 = .int .i64 (4 * (k0 + n : Nat)) → τ' 11 = .slice (some ⟨A, 0, none⟩) n n → 4 * (k0 + n) ≤ b.length → (∀ j, k0 ≤ j → j < k0 + n → rdE b (fP h.f) j = none) → DnI s0 sP C O A h b u k0 n n s' → kx τ' ds s')
    (hret : ∀ τ' s' e j, k0 ≤ j → j < k0 + n → (∀ j', k0 ≤ j' → j' < j → rdE b (fP h.f) j' = none) → rdE b (fP h.f) j = some e → τ' 4 = ptr O → τ' 5 = .int .i64 e.1 → τ' 6 = .int .i64 e.2 → Wf s' → Grew s0 s' → s'.at O = some (.cells zeroCs 39 false) → Kx τ' ds s') :
    WLoop P ro 93 none c17_111101001100110100 τ ds s Kx ((2, kx) :: (4, k4) :: L) := by
  have hCl := St.at_lt hC
  refine wloop l17_111101001100110100 m17_111101001100110100 (fun (r : Nat) τ' ds' s' => r ≤ n ∧ Kd τ τ' ∧ τ' 8 = .int .i64 (4 * (k0 + r : Nat)) ∧ τ' 11 = .slice (some ⟨A, 0, none⟩) r n ∧ τ' 32 = .int .i64 n ∧ τ' 33 = .int .i64 r ∧ ds' = ds ∧ 4 * (k0 + r) ≤ b.length ∧ (∀ j, k0 ≤ j → j < k0 + r → rdE b (fP h.f) j = none) ∧ DnI s0 sP C O A h b u k0 n r s') (fun r => n - r) ?_ 0 ⟨by omega, .refl _, t8, t11, t32, t33, rfl, by omega, fun j h1 h2 => by omega, hI⟩
  rintro r τ' ds' s' ⟨hr, kd, a8, a11, a32, a33, rfl, hkr, hgood, hI'⟩
  rw [n17_111101001100110100]
  unfold v17_111101001100110100
  have a1 := kd.a1.trans t1
  have a2 := kd.a2.trans t2
  have a4 := kd.a4.trans t4
  obtain ⟨lc, hl, hll, hlt'⟩ := hI'.l
  have hus : Bys s' u b := Sl.grew hu hI'.g.same
  have hgn := hI'.g.n
  have hg0n := hg0P.n
  obtain ⟨co, hOc, hO8⟩ := hO
  have hOl := St.at_lt hOc
  have hOs : s'.at O = some (.cells co 39 false) := (hI'.g.same O hOl).trans hOc
  have hCs : s'.at C = some (.cells h.cells 23 false) := (hI'.g.same C hCl).trans hC
  simp (maxSteps := 10000000) only [wW, reduceCtorEq, Nat.reduceEqDiff, a8, a32, a33]
  by_cases hlt : r < n
  · rw [if_pos (by omega), wrap_i64 (n := 4 * ((k0 + r : Nat) : Int) + 4) (by omega) (by omega)]
    simp (maxSteps := 10000000) only [wW, reduceCtorEq, Nat.reduceEqDiff, a1, Sl.wlen hus se_32]
    by_cases hsh : (b.length : Int) < 4 * ((k0 + r : Nat) : Int) + 4
    · rw [if_pos hsh, bldZ, wopt_some, a4]
      refine storeAll_rule isz_39 hOs (l := zeroCs) rfl (by decide) hI'.wf (by omega) hO8 rfl fun s3 p3 => ?_
      refine hret _ s3 ((b.length : Int), 5) (k0 + r) (by omega) (by omega) hgood (by unfold rdE; rw [if_pos hsh]) ?_ ?_ ?_ p3.wf (p3.grew _ hw0 hI'.g0 hO0) p3.here
      · simp only [U, tset_eq, wW, reduceCtorEq, Nat.reduceEqDiff, a4]
      · simp only [U, tset_eq, wW, reduceCtorEq, Nat.reduceEqDiff]
      · simp only [U, tset_eq, wW, reduceCtorEq, Nat.reduceEqDiff]
    · rw [if_neg hsh]
      obtain ⟨w, hw, q1⟩ := subB (ro := ro) hus (a := 4 * (k0 + r)) (b := 4 * (k0 + r) + 4) (by omega) (by omega)
      rw [show 4 * (k0 + r) + 4 - 4 * (k0 + r) = 4 by omega] at hw
      have ea : (4 * ((k0 + r : Nat) : Int)) = ((4 * (k0 + r) : Nat) : Int) := by push_cast; rfl
      have eb : (4 * ((k0 + r : Nat) : Int) + 4) = ((4 * (k0 + r) + 4 : Nat) : Int) := by push_cast; rfl
      rw [eb, ea, q1]
      have hwl : ((b.drop (4 * (k0 + r))).take 4).length = 4 := by rw [List.length_take, List.length_drop]; omega
      have hw' := hw
      unfold Bys at hw'
      rw [Sl.wlen hw' se_32, hwl]
      refine dcB hb (o := 4 * (k0 + r)) hw (by omega) ?_ ?_ ?_ ?_ fun τ2 ke b12 => ?_
      · simp only [U, tset_eq, wW, reduceCtorEq, Nat.reduceEqDiff]
      · simp only [U, tset_eq, wW, reduceCtorEq, Nat.reduceEqDiff]; rfl
      · simp only [U, tset_eq, wW, reduceCtorEq, Nat.reduceEqDiff]
      · simp only [U, tset_eq, wW, reduceCtorEq, Nat.reduceEqDiff]
      have c1 : τ2 1 = u := by rw [ke.d.a1]; simp only [U, tset_eq, wW, reduceCtorEq, Nat.reduceEqDiff, a1]
      have c2 : τ2 2 = ptr C := by rw [ke.d.a2]; simp only [U, tset_eq, wW, reduceCtorEq, Nat.reduceEqDiff, a2]
      have c4 : τ2 4 = ptr O := by rw [ke.d.a4]; simp only [U, tset_eq, wW, reduceCtorEq, Nat.reduceEqDiff, a4]
      have c7 : τ2 7 = τ' 7 := by rw [ke.d.a7]; simp only [U, tset_eq, wW, reduceCtorEq, Nat.reduceEqDiff]
      have c10 : τ2 10 = τ' 10 := by rw [ke.d.a10]; simp only [U, tset_eq, wW, reduceCtorEq, Nat.reduceEqDiff]
      have c22 : τ2 22 = τ' 22 := by rw [ke.d.a22]; simp only [U, tset_eq, wW, reduceCtorEq, Nat.reduceEqDiff]
      have c23 : τ2 23 = τ' 23 := by rw [ke.d.a23]; simp only [U, tset_eq, wW, reduceCtorEq, Nat.reduceEqDiff]
      have c24 : τ2 24 = τ' 24 := by rw [ke.d.a24]; simp only [U, tset_eq, wW, reduceCtorEq, Nat.reduceEqDiff]
      have c8 : τ2 8 = .int .i64 (4 * (k0 + r : Nat)) := by rw [ke.a8]; simp only [U, tset_eq, wW, reduceCtorEq, Nat.reduceEqDiff, a8]
      have c11 : τ2 11 = .slice (some ⟨A, 0, none⟩) r n := by rw [ke.a11]; simp only [U, tset_eq, wW, reduceCtorEq, Nat.reduceEqDiff, a11]
      have c32 : τ2 32 = .int .i64 n := by rw [ke.a32]; simp only [U, tset_eq, wW, reduceCtorEq, Nat.reduceEqDiff, a32]
      have c33 : τ2 33 = .int .i64 r := by rw [ke.a33]; simp only [U, tset_eq, wW, reduceCtorEq, Nat.reduceEqDiff, a33]
      have hnum : accB b (4 * (k0 + r)) 4 = numAt b (k0 + r) := rfl
      rw [hnum] at b12
      have hFs : FieldsAt s' := hF.grew hI'.g
      simp (maxSteps := 10000000) only [wW, reduceCtorEq, Nat.reduceEqDiff, c2, wop_load, fa_23_0, load1 ap_3, acells_some hCs, shc0, Nat.zero_add]
      rw [wfP h.f hI'.wf (by omega) hFs]
      simp (maxSteps := 10000000) only [wW, reduceCtorEq, Nat.reduceEqDiff, b12]
      by_cases hge : numAt b (k0 + r) ≥ fP h.f
      · rw [if_pos hge, bldZ, wopt_some, c4]
        refine storeAll_rule isz_39 hOs (l := zeroCs) rfl (by decide) hI'.wf (by omega) hO8 rfl fun s3 p3 => ?_
        refine hret _ s3 (4 * ((k0 + r : Nat) : Int), 2) (k0 + r) (by omega) (by omega) hgood (by unfold rdE; rw [if_neg hsh, if_pos hge]) ?_ ?_ ?_ p3.wf (p3.grew _ hw0 hI'.g0 hO0) p3.here
        · simp only [U, tset_eq, wW, reduceCtorEq, Nat.reduceEqDiff, c4]
        · simp only [U, tset_eq, wW, reduceCtorEq, Nat.reduceEqDiff, c8]
        · simp only [U, tset_eq, wW, reduceCtorEq, Nat.reduceEqDiff]
      · rw [if_neg hge]
        refine buildSlice_rule se_36 ty_34 hI'.wf [.int .u64 (numAt b (k0 + r))] rfl rfl (by decide) (fun v hv => by
          simp only [List.mem_cons, List.not_mem_nil, or_false] at hv
          subst hv
          rfl) fun A6 s6 m6 => ?_
        have e6 := m6.eq
        have n6 := m6.n
        have hAs := St.at_lt hl
        have x6 : Sl s6 (.slice (some ⟨A6, 0, none⟩) 1 1) 1 1 [.int .u64 (numAt b (k0 + r))] := m6.sl rfl
        rw [c11]
        refine append_in ((m6.grew.same A hAs).trans hl) m6.wf (by omega) x6 (by omega) hll fun s7 p7 => ?_
        simp (maxSteps := 10000000) only [wW, reduceCtorEq, Nat.reduceEqDiff, c8, c33]
        rw [wrap_i64 (n := 4 * ((k0 + r : Nat) : Int) + 4) (by omega) (by omega), wrap_i64 (n := (r : Int) + 1) (by omega) (by omega)]
        have hsl : (splice lc r [.int .u64 (numAt b (k0 + r))]).length = lc.length := splice_length (by simp; omega)
        refine ⟨r + 1, by omega, by omega, ⟨?_, ?_, ?_, ?_, ?_, ?_, ?_, ?_⟩, ?_, ?_, ?_, ?_, by first | trivial | rfl, by omega, fun j h1 h2 => ?_, ⟨p7.wf, p7.grew _ hw0 (hI'.g0.trans m6.grew) (by omega), p7.grew _ hwP (hI'.g.trans m6.grew) hAP, _, p7.here, hsl.trans hll, ?_⟩⟩
        · simp only [U, tset_eq, wW, reduceCtorEq, Nat.reduceEqDiff, c1, t1]
        · simp only [U, tset_eq, wW, reduceCtorEq, Nat.reduceEqDiff, c2, t2]
        · simp only [U, tset_eq, wW, reduceCtorEq, Nat.reduceEqDiff, c4, t4]
        · simp only [U, tset_eq, wW, reduceCtorEq, Nat.reduceEqDiff, c7, kd.a7]
        · simp only [U, tset_eq, wW, reduceCtorEq, Nat.reduceEqDiff, c10, kd.a10]
        · simp only [U, tset_eq, wW, reduceCtorEq, Nat.reduceEqDiff, c22, kd.a22]
        · simp only [U, tset_eq, wW, reduceCtorEq, Nat.reduceEqDiff, c23, kd.a23]
        · simp only [U, tset_eq, wW, reduceCtorEq, Nat.reduceEqDiff, c24, kd.a24]
        · simp only [U, tset_eq, wW, reduceCtorEq, Nat.reduceEqDiff]
          congr 1 <;> omega
        · simp only [U, tset_eq, wW, reduceCtorEq, Nat.reduceEqDiff]
        · simp only [U, tset_eq, wW, reduceCtorEq, Nat.reduceEqDiff, c32]
        · simp only [U, tset_eq, wW, reduceCtorEq, Nat.reduceEqDiff]; rfl
        · by_cases hj : j = k0 + r
          · subst hj
            unfold rdE
            rw [if_neg hsh, if_neg (by omega)]
          · exact hgood j h1 (by omega)
        · rw [numsB_succ, List.map_append, ← hlt']
          unfold splice
          have hl1 : (lc.take r).length = r := by rw [List.length_take]; omega
          rw [← List.append_assoc]
          have hl2 : (lc.take r ++ [Value.int .u64 (numAt b (k0 + r))]).length = r + 1 := by rw [List.length_append, hl1]; rfl
          rw [← hl2, List.take_left]
          rfl
  · obtain rfl : r = n := by omega
    rw [if_neg (by omega)]
    refine hk _ s' (kd.trans ⟨?_, ?_, ?_, ?_, ?_, ?_, ?_, ?_⟩) ?_ ?_ hkr hgood hI'
    all_goals first | rfl | (simp only [U, tset_eq, wW, reduceCtorEq, Nat.reduceEqDiff]; done) | (simp only [U, tset_eq, wW, reduceCtorEq, Nat.reduceEqDiff, a8, a11]; done)
end
end Go.VE
/- What the parts are; a proof's list is written by its place. -/
namespace Go.VE
open Go Go.Proofs
set_option maxRecDepth 20000
def lenN (k n : Nat) : Prop := if k = 2 ∨ k = 7 then n = 1 else if k = 10 then n = 8 else if k = 6 ∨ k = 8 then True else n % 2 = 0
def PrtZ (R Q : Nat) (x : Prt) : Prop := ∃ k q i n : Nat, x = ⟨k, q, i, n⟩ ∧ OkS R Q k q i ∧ n < 2 ^ 20 ∧ lenN k n
theorem it_all {Pr : Prt → Prop} {g : Nat → List Prt → List Prt} : ∀ (n : Nat) {l : List Prt}, (∀ x ∈ l, Pr x) → (∀ i, i < n → ∀ l, (∀ x ∈ l, Pr x) → ∀ x ∈ g i l, Pr x) → ∀ x ∈ it g n l, Pr x
  | 0, _, h, _ => h
  | n + 1, l, h, hg => hg n (by omega) _ (it_all n h fun i hi => hg i (by omega))
theorem mem_snoc {Pr : Prt → Prop} {l r : List Prt} (h : ∀ x ∈ l, Pr x) (hr : ∀ x ∈ r, Pr x) : ∀ x ∈ l ++ r, Pr x := fun x hx => by
  rcases List.mem_append.1 hx with hx | hx
  · exact h x hx
  · exact hr x hx
theorem partsAll_ok {h : Shp} (hv : shV h = true) : ∀ x ∈ partsAll h, PrtZ (shR h).toNat h.q.toNat x := by
  unfold shV inR at hv
  simp only [Bool.and_eq_true, decide_eq_true_eq] at hv
  have ha : 1 ≤ h.a ∧ h.a ≤ 13 := by omega
  have hb : 1 ≤ h.b ∧ h.b ≤ 5 := by omega
  have hc : 0 ≤ h.c ∧ h.c ≤ 8 := by omega
  have hR : 0 ≤ shR h ∧ 3 * shR h ≤ h.a ∧ h.a - 3 * shR h ≤ 2 := by unfold shR; omega
  have hC : ∀ n : Int, ∃ c : Nat, shC h n = c ∧ c ≤ 2 ^ 10 := fun n => by
    refine ⟨2 ^ (minI h.c n).toNat, by unfold shC; push_cast; rfl, Nat.pow_le_pow_right (by decide) ?_⟩
    unfold minI
    split <;> omega
  have hPp : ∀ n : Int, 0 ≤ n ∧ n ≤ 100 → ∃ c : Nat, shP h n = c ∧ c ≤ 100 := fun n hn => by
    have := shP_bound (h := h) (n := n) (by omega) hn
    exact ⟨(shP h n).toNat, by omega, by omega⟩
  have hcol : ∀ i, ∃ c : Nat, colAt h i = c ∧ c ≤ 100 := fun i => by
    unfold colAt
    split
    · exact ⟨h.u.toNat, by omega, by omega⟩
    · exact ⟨h.v.toNat, by omega, by omega⟩
    · exact ⟨h.w.toNat, by omega, by omega⟩
    · exact ⟨h.x.toNat, by omega, by omega⟩
    · exact ⟨h.v.toNat, by omega, by omega⟩
    · exact ⟨h.w.toNat, by omega, by omega⟩
  obtain ⟨c0, hc0, hc0'⟩ := hC (h.a + h.b)
  obtain ⟨p0, hp0, hp0'⟩ := hPp (h.a + h.b) (by omega)
  have one : ∀ {x : Prt}, PrtZ (shR h).toNat h.q.toNat x → ∀ y ∈ [x], PrtZ (shR h).toNat h.q.toNat y := fun hx y hy => by
    simp only [List.mem_cons, List.not_mem_nil, or_false] at hy
    subst hy; exact hx
  have dig : ∀ k, (k = 1 ∨ k = 3 ∨ k = 4 ∨ k = 5 ∨ k = 9 ∨ k = 11) → ∀ m : Nat, lenN k (2 * m) := fun k hk m => by
    unfold lenN
    rw [if_neg (by omega), if_neg (by omega), if_neg (by omega)]
    omega
  have hpre : ∀ x ∈ preA h, PrtZ (shR h).toNat h.q.toNat x := fun x hx => by
    unfold preA at hx
    rw [hc0] at hx
    simp only [List.mem_cons, List.not_mem_nil, or_false] at hx
    rcases hx with rfl | rfl | rfl | rfl
    · exact ⟨1, 0, 0, 2 * c0, by push_cast; rfl, .top 1 (by omega), by omega, dig 1 (by omega) c0⟩
    · exact ⟨2, 0, 0, 1, rfl, .top 2 (by omega), by omega, rfl⟩
    · by_cases hw : h.w = 0
      · rw [if_pos hw]
        exact ⟨3, 0, 0, 0, rfl, .top 3 (by omega), by omega, dig 3 (by omega) 0⟩
      · rw [if_neg hw]
        exact ⟨3, 0, 0, 2 * c0, by push_cast; rfl, .top 3 (by omega), by omega, dig 3 (by omega) c0⟩
    · exact ⟨4, 0, 0, 2 * c0, by push_cast; rfl, .top 4 (by omega), by omega, dig 4 (by omega) c0⟩
  have hmid : ∀ x ∈ midA h, PrtZ (shR h).toNat h.q.toNat x := by
    refine mem_snoc (it_all _ hpre fun i hi l hl => mem_snoc hl (one ?_)) fun x hx => ?_
    · obtain ⟨c, hc, hc'⟩ := hC (shH h i)
      exact ⟨5, 0, i, 2 * c, by rw [hc]; push_cast; rfl, .round i hi, by omega, dig 5 (by omega) c⟩
    · simp only [List.mem_cons, List.not_mem_nil, or_false] at hx
      have h2 : 2 ^ (h.a - 3 * shR h).toNat ≤ 2 ^ 2 := Nat.pow_le_pow_right (by decide) (by omega)
      rcases hx with rfl | rfl
      · exact ⟨6, 0, 0, 2 ^ (h.a - 3 * shR h).toNat, by push_cast; rfl, .top 6 (by omega), by omega, trivial⟩
      · exact ⟨7, 0, 0, 1, rfl, .top 7 (by omega), by omega, rfl⟩
  refine it_all _ hmid fun j hj l hl => ?_
  unfold alQ
  refine it_all _ (it_all _ (it_all _ hl fun i hi l hl => mem_snoc hl (one ?_)) fun i hi l hl => mem_snoc hl (one ?_)) fun i hi l hl => mem_snoc hl fun x hx => ?_
  · obtain ⟨c, hc, hc'⟩ := hcol i
    exact ⟨8, j, i, c, by rw [hc]; rfl, .row j i hj hi, by omega, trivial⟩
  · by_cases hz : colAt h i = 0
    · rw [if_pos hz]
      exact ⟨9, j, i, 0, rfl, .path j i hj hi, by omega, dig 9 (by omega) 0⟩
    · rw [if_neg hz]
      exact ⟨9, j, i, 2 * p0, by rw [hp0]; push_cast; rfl, .path j i hj hi, by omega, dig 9 (by omega) p0⟩
  · simp only [List.mem_cons, List.not_mem_nil, or_false] at hx
    obtain ⟨p, hp, hp'⟩ := hPp (shH h i) (by unfold shH; omega)
    rcases hx with rfl | rfl
    · exact ⟨10, j, i, 8, rfl, .leaf j i hj hi, by omega, rfl⟩
    · exact ⟨11, j, i, 2 * p, by rw [hp]; push_cast; rfl, .fold j i hj hi, by omega, dig 11 (by omega) p⟩
theorem partsR_ok {h : Shp} (hv : shV h = true) : ∀ x ∈ partsR h, PrtZ (shR h).toNat h.q.toNat x := fun x hx => by
  rw [← partsAll_keep hv] at hx
  exact partsAll_ok hv x (List.mem_filter.1 hx).1
section
variable {ro : Nat} {s s' : St} {K : Value → St → Prop} {W : Nat → Prop} {cs : List Value} {B : PfB} {R Q : Nat} {g : Nat → Nat → Nat → List Int}
theorem OkS.k1 {k q i : Nat} (ok : OkS R Q k q i) : 1 ≤ k ∧ k ≤ 11 := by
  cases ok with
  | top k hk => omega
  | _ => omega
theorem wPl {Pb k q i n : Nat} (hPb : s.at Pb = some (.cells cs 39 false)) (h : PfAt s W cs B R Q g) (ok : OkS R Q k q i) (hw : Wf s) (hro : ro ≤ s.n) :
    ∃ f, plC[k]? = some (fnV f) ∧ ∀ K : Value → St → Prop, (∀ s', Grew s s' → Wf s' → K (.agg (.mk (lstC k (ptrO ((slotA B k q i).1.getD Pb) (slotA B k q i).2)))) s') → CallWP P ro f [ptr Pb, .agg (.mk (Prt.cells ⟨k, q, i, n⟩))] s K := by
  cases ok with
  | top k hk' =>
    rcases hk' with rfl | rfl | rfl | rfl | rfl | rfl
    · exact ⟨_, rfl, fun K hk => wPl1 hw hro hk⟩
    · exact ⟨_, rfl, fun K hk => wPl2 hw hro hk⟩
    · exact ⟨_, rfl, fun K hk => wPl3 hw hro hk⟩
    · exact ⟨_, rfl, fun K hk => wPl4 hw hro hk⟩
    · exact ⟨_, rfl, fun K hk => wPl6 hw hro hk⟩
    · exact ⟨_, rfl, fun K hk => wPl7 hw hro hk⟩
  | round i hi => exact ⟨_, rfl, fun K hk => wPl5 (x := ⟨5, 0, i, n⟩) hPb h ⟨by show (0 : Int) ≤ i; omega, by show (i : Int) < R; omega⟩ hw hro hk⟩
  | row q i hq hi => exact ⟨_, rfl, fun K hk => wPl8 (x := ⟨8, q, i, n⟩) hPb h ⟨by show (0 : Int) ≤ q; omega, by show (q : Int) < Q; omega⟩ ⟨by show (0 : Int) ≤ i; omega, by show (i : Int) < 6; omega⟩ hw hro hk⟩
  | path q i hq hi => exact ⟨_, rfl, fun K hk => wPl9 (x := ⟨9, q, i, n⟩) hPb h ⟨by show (0 : Int) ≤ q; omega, by show (q : Int) < Q; omega⟩ ⟨by show (0 : Int) ≤ i; omega, by show (i : Int) < 6; omega⟩ hw hro hk⟩
  | leaf q i hq hi => exact ⟨_, rfl, fun K hk => wPl10 (x := ⟨10, q, i, n⟩) hPb h ⟨by show (0 : Int) ≤ q; omega, by show (q : Int) < Q; omega⟩ ⟨by show (0 : Int) ≤ i; omega, by show (i : Int) < R; omega⟩ hw hro hk⟩
  | fold q i hq hi => exact ⟨_, rfl, fun K hk => wPl11 (x := ⟨11, q, i, n⟩) hPb h ⟨by show (0 : Int) ≤ q; omega, by show (q : Int) < Q; omega⟩ ⟨by show (0 : Int) ≤ i; omega, by show (i : Int) < R; omega⟩ hw hro hk⟩
theorem PfAt.place {Pb k q i : Nat} (h : PfAt s W cs B R Q g) (hPb : s.at Pb = some (.cells cs 39 false)) (hWp : W Pb) (ok : OkS R Q k q i) : ∃ c T, s.at ((slotA B k q i).1.getD Pb) = some (.cells c T false) ∧ (slotA B k q i).2 + slotE k ≤ c.length ∧ W ((slotA B k q i).1.getD Pb) ∧ cellsAt s cs (slotA B k q i).1 = some c := by
  cases hp : (slotA B k q i).1 with
  | none => exact ⟨cs, _, hPb, h.fit ok (by rw [hp]; rfl), hWp, rfl⟩
  | some A =>
    obtain ⟨c, T, hA, hW⟩ := h.blk (slot_blk ok hp)
    have hc : cellsAt s cs (slotA B k q i).1 = some c := by rw [hp]; show acells (s.at A) = _; rw [hA]; rfl
    rw [hp] at hc
    exact ⟨c, T, hA, h.fit ok (by rw [hp]; exact hc), hW, hc⟩
theorem PfAt.setR {Pb k q i : Nat} {c : List Value} {T : TypeId} {nums : List Int} (h : PfAt s W cs B R Q g) (hPb : s.at Pb = some (.cells cs 39 false)) (hWp : W Pb) (hne : Pb ≠ B.rb ∧ Pb ≠ B.ob ∧ ∀ j, j < Q → Pb ≠ B.fb j) (ok : OkS R Q k q i)
    (hA : s.at ((slotA B k q i).1.getD Pb) = some (.cells c T false)) (r : SetR s W ((slotA B k q i).1.getD Pb) (slotA B k q i).2 c T k nums s') :
    ∃ cs', s'.at Pb = some (.cells cs' 39 false) ∧ PfAt s' W cs' B R Q (updG g k q i nums) := by
  obtain ⟨vals, hv, hS⟩ := r.ex
  obtain ⟨c0, T0, hA0, hfit, hWA, _⟩ := h.place hPb hWp ok
  have hleaf : ∀ X, X < s.n → ¬ W X → s'.at X = s.at X := fun X h1 h2 => r.same X h1 fun e => h2 (by rw [e]; exact hWA)
  cases hp : (slotA B k q i).1 with
  | none =>
    rw [hp] at hv hA
    simp only [Option.getD_none] at hv hA
    rw [hPb] at hA
    cases hA
    refine ⟨_, hv, h.set ok r.n hleaf hS (by rw [hp]) fun X hX c T hc => ?_⟩
    have hneX : X ≠ Pb := by
      rcases hX with rfl | rfl | ⟨j, hj, rfl⟩
      · exact fun e => hne.1 e.symm
      · exact fun e => hne.2.1 e.symm
      · exact fun e => hne.2.2 j hj e.symm
    rw [if_neg (by rw [hp]; simp), r.same X (St.at_lt hc) (by rw [hp]; exact hneX)]
    exact hc
  | some A =>
    rw [hp] at hv hA
    simp only [Option.getD_some] at hv hA
    have hAne : Pb ≠ A := by
      rcases slot_blk ok hp with rfl | rfl | ⟨j, hj, rfl⟩
      · exact hne.1
      · exact hne.2.1
      · exact hne.2.2 j hj
    refine ⟨cs, (r.same Pb (St.at_lt hPb) (by rw [hp]; exact hAne)).trans hPb, h.set ok r.n hleaf hS (by rw [hp]) fun X hX c2 T2 hc => ?_⟩
    by_cases hXA : A = X
    · subst hXA
      rw [if_pos hp]
      rw [hc] at hA
      cases hA
      exact hv
    · rw [if_neg (by rw [hp]; simpa using hXA), r.same X (St.at_lt hc) (by rw [hp]; exact fun e => hXA e.symm)]
      exact hc
end
end Go.VE
/- proof.Decode: its loop over the parts. -/
namespace Go.VE
open Go Go.Proofs
set_option maxRecDepth 20000
theorem Bys.sameAt {s s' : St} {v : Value} {b : List Int} (h : Bys s v b) (hs : b ≠ [] → ∀ A o sp k c, v = .slice (some ⟨A, o, sp⟩) k c → s'.at A = s.at A) : Bys s' v b := by
  cases b with
  | nil =>
    obtain ⟨a, c, hv, hl, hx, _⟩ := h
    exact ⟨a, c, hv, hl, hx, fun hn => absurd rfl hn⟩
  | cons x b => exact Sl.sameAt h (hs (by simp))
def stepG (b : List Int) (kg : Nat × (Nat → Nat → Nat → List Int)) (x : Prt) : Nat × (Nat → Nat → Nat → List Int) := (kg.1 + x.n.toNat, updG kg.2 x.k.toNat x.q.toNat x.i.toNat (numsB b kg.1 x.n.toNat))
def goneG (b : List Int) (l : List Prt) : Nat × (Nat → Nat → Nat → List Int) := l.foldl (stepG b) (0, g0)
theorem goneG_snoc (b : List Int) (l : List Prt) (x : Prt) : goneG b (l ++ [x]) = stepG b (goneG b l) x := by unfold goneG; rw [List.foldl_append]; rfl
theorem goneG_le (b : List Int) : ∀ (l : List Prt) (kg : Nat × (Nat → Nat → Nat → List Int)), kg.1 ≤ (l.foldl (stepG b) kg).1
  | [], _ => Nat.le_refl _
  | x :: l, kg => Nat.le_trans (Nat.le_add_right kg.1 x.n.toNat) (goneG_le b l (stepG b kg x))
theorem goneG_take (b : List Int) (l : List Prt) (i : Nat) : (goneG b (l.take i)).1 ≤ (goneG b l).1 := by
  have : l = l.take i ++ l.drop i := (List.take_append_drop i l).symm
  conv => rhs; rw [this]
  unfold goneG
  rw [List.foldl_append]
  exact goneG_le b _ _
def errF (b : List Int) (p : Int) : Nat → Nat → Option (Int × Int)
  | 0, _ => none
  | c + 1, k => match rdE b p k with
    | some e => some e
    | none => errF b p c (k + 1)
theorem errF_some {b : List Int} {p : Int} {e : Int × Int} {j : Nat} : ∀ {c k : Nat}, (∀ j', k ≤ j' → j' < j → rdE b p j' = none) → rdE b p j = some e → k ≤ j → j < k + c → errF b p c k = some e
  | 0, k, _, _, h1, h2 => by omega
  | c + 1, k, hg, he, h1, h2 => by
    unfold errF
    by_cases hj : j = k
    · subst hj; rw [he]
    · rw [hg k (Nat.le_refl _) (by omega)]
      exact errF_some (fun j' a b => hg j' (by omega) b) he (by omega) (by omega)
theorem errF_none {b : List Int} {p : Int} : ∀ {c k : Nat}, (∀ j, k ≤ j → j < k + c → rdE b p j = none) → errF b p c k = none
  | 0, _, _ => rfl
  | c + 1, k, h => by
    unfold errF
    rw [h k (Nat.le_refl _) (by omega)]
    exact errF_none fun j a b => h j (by omega) (by omega)
def decE (b : List Int) (p : Int) (N : Nat) : Int × Int :=
  match errF b p N 0 with
  | some e => e
  | none => if (4 * N : Int) < b.length then (4 * (N : Int), 3) else (0, 0)
structure DcI (s0 sL : St) (W : Nat → Prop) (O Pb : Nat) (B : PfB) (R Q : Nat) (b : List Int) (p : Int) (l : List Prt) (i : Nat) (s : St) : Prop where
  wf : Wf s
  g0 : Grew s0 s
  n : sL.n ≤ s.n
  keep : ∀ A, A < sL.n → ¬ W A → s.at A = sL.at A
  pf : ∃ cs, s.at Pb = some (.cells cs 39 false) ∧ PfAt s (fun A => W A ∨ (A = O ∨ A < s0.n)) cs B R Q (goneG b (l.take i)).2
  k : 4 * (goneG b (l.take i)).1 ≤ b.length
  good : ∀ j, j < (goneG b (l.take i)).1 → rdE b p j = none
section
variable {ro : Nat} {K : Value → St → Prop} {h : Shp} {s0 sL : St}
theorem dcP {b : List Int} {u v : Value} {C O Pb : Nat} {W : Nat → Prop} {B : PfB} {R Q : Nat} {l : List Prt} (hb : ∀ x ∈ b, 0 ≤ x ∧ x < 256) (hbl : b.length < 2 ^ 40) (hC : sL.at C = some (.cells h.cells 23 false)) (hCW : ¬ W C) (hO : ∃ c, sL.at O = some (.cells c 39 false) ∧ c.length = 8) (hOW : ¬ W O) (hO0 : s0.n ≤ O)
    (hu : Bys sL u b) (huW : b ≠ [] → ∀ A o sp n c, u = .slice (some ⟨A, o, sp⟩) n c → A < sL.n ∧ ¬ W A) (hF : FieldsAt sL) (hFW : ¬ W 0) (hP : PrsS sL v l) (hPW : ∀ A o sp n c, v = .slice (some ⟨A, o, sp⟩) n c → A < sL.n ∧ ¬ W A) (hl : l.length ≤ 2000) (hok : ∀ x ∈ l, PrtZ R Q x)
    (hWp : W Pb) (hBW : W B.rb ∧ W B.ob ∧ ∀ j, j < Q → W (B.fb j)) (hPbne : Pb ≠ B.rb ∧ Pb ≠ B.ob ∧ ∀ j, j < Q → Pb ≠ B.fb j) (hWL : ∀ A, W A → s0.n ≤ A ∧ A < sL.n) (hw0 : Wf s0) (hro0 : ro ≤ s0.n) (hI : DcI s0 sL W O Pb B R Q b (fP h.f) l 0 sL)
    {τ : Tau} {ds : List Deferred} {Kx kx k2 k4 : WK} (t1 : τ 1 = u) (t2 : τ 2 = ptr C) (t4 : τ 4 = ptr O) (t7 : τ 7 = ptr Pb) (t8 : τ 8 = .int .i64 0) (t22 : τ 22 = v) (t23 : τ 23 = .int .i64 l.length) (t24 : τ 24 = .int .i64 0)
    (hk : ∀ τ' s', τ' 1 = u → τ' 4 = ptr O → τ' 7 = ptr Pb → τ' 8 = .int .i64 (4 * ((goneG b l).1 : Nat)) → DcI s0 sL W O Pb B R Q b (fP h.f) l l.length s' → kx τ' ds s')
    (hret : ∀ τ' s' e, errF b (fP h.f) (goneG b l).1 0 = some e → τ' 4 = ptr O → τ' 5 = .int .i64 e.1 → τ' 6 = .int .i64 e.2 → Wf s' → Grew s0 s' → s'.at O = some (.cells zeroCs 39 false) → Kx τ' ds s') :
    WLoop P ro 93 none c17_11110100 τ ds sL Kx [(0, kx), (2, k2), (4, k4)] := by
  refine wloop l17_11110100 m17_11110100 (fun (i : Nat) τ' ds' s' => i ≤ l.length ∧ τ' 1 = u ∧ τ' 2 = ptr C ∧ τ' 4 = ptr O ∧ τ' 7 = ptr Pb ∧ τ' 8 = .int .i64 (4 * ((goneG b (l.take i)).1 : Nat)) ∧ τ' 22 = v ∧ τ' 23 = .int .i64 l.length ∧ τ' 24 = .int .i64 i ∧ ds' = ds ∧ DcI s0 sL W O Pb B R Q b (fP h.f) l i s') (fun i => l.length - i) ?_ 0 ⟨by omega, t1, t2, t4, t7, by rw [t8]; rfl, t22, t23, t24, rfl, hI⟩
  rintro i τ' ds' s' ⟨hi, a1, a2, a4, a7, a8, a22, a23, a24, rfl, hI'⟩
  rw [n17_11110100]
  unfold v17_11110100
  simp (maxSteps := 10000000) only [wW, reduceCtorEq, Nat.reduceEqDiff, a22, a23, a24]
  have hIn := hI'.n
  have hOWl : O < sL.n := by obtain ⟨c, hc, _⟩ := hO; exact St.at_lt hc
  have hCl := St.at_lt hC
  by_cases hlt : i < l.length
  · rw [if_pos (by omega)]
    obtain ⟨k, q, ix, n, hx, ok, hn20, hln⟩ := hok l[i] (List.getElem_mem hlt)
    have hPs : PrsS s' v l := Sl.sameAt hP fun A o sp n c e => hI'.keep A (hPW A o sp n c e).1 (hPW A o sp n c e).2
    obtain ⟨Ax, ox, q1, q2⟩ := hPs.ix hlt
    rw [wop_indexAddr, q1, wopt_some, wop_load, q2, wopt_some, hx]
    refine alloc_rule ty_30 hI'.wf fun E s4 m4 => ?_
    have e4 := m4.eq
    have n4 := m4.n
    have hg0 := hI'.g0.n
    refine storeAll_rule isz_30 m4.here (l := Prt.cells ⟨k, q, ix, n⟩) rfl (by decide) m4.wf (by omega) rfl rfl fun s5 p5 => ?_
    have n5 := p5.n
    have g5 : Grew s' s5 := p5.grew _ hI'.wf m4.grew (by omega)
    have hx3 : (Prt.cells ⟨k, q, ix, n⟩)[3]? = some (.int .i64 n) := rfl
    have hx0 : (Prt.cells ⟨k, q, ix, n⟩)[0]? = some (.int .u8 k) := rfl
    simp (maxSteps := 10000000) only [wW, reduceCtorEq, Nat.reduceEqDiff, fa_30_3, wop_load, load1 ap_3, acells_some p5.here, Nat.zero_add, hx3]
    refine makeLC_rule se_36 ty_34 p5.wf (by decide) (by omega) (by omega) (by decide) fun A s6 m6 => ?_
    have e6 := m6.eq
    have n6 := m6.n
    have g6 : Grew s' s6 := g5.trans m6.grew
    have hE6 : s6.at E = some (.cells (Prt.cells ⟨k, q, ix, n⟩) 30 false) := (m6.grew.same E (by omega)).trans p5.here
    simp (maxSteps := 10000000) only [wW, reduceCtorEq, Nat.reduceEqDiff, fa_30_3, wop_load, load1 ap_3, acells_some hE6, Nat.zero_add, hx3]
    have hkeep5 : ∀ X, X < sL.n → ¬ W X → s5.at X = sL.at X := fun X h1 h2 => (g5.same X (by omega)).trans (hI'.keep X h1 h2)
    have hO5 : ∃ c, s5.at O = some (.cells c 39 false) ∧ c.length = 8 := by
      obtain ⟨c, hc, h8⟩ := hO
      exact ⟨c, (hkeep5 O hOWl hOW).trans hc, h8⟩
    have hu5 : Bys s5 u b := Bys.sameAt hu fun b0 X o sp n c e => hkeep5 X (huW b0 X o sp n c e).1 (huW b0 X o sp n c e).2
    have hF5 : FieldsAt s5 := by
      obtain ⟨x0, x1, x2, x3, n0, n1, n2, n3, c0, c1, c2, c3, t, op, hf⟩ := hF
      exact ⟨x0, x1, x2, x3, n0, n1, n2, n3, c0, c1, c2, c3, t, op, (hkeep5 0 (St.at_lt hf) hFW).trans hf⟩
    have hg05 : Grew s0 s5 := hI'.g0.trans g5
    have hDn : DnI s0 s5 C O A h b u (goneG b (l.take i)).1 n 0 s6 := ⟨m6.wf, hg05.trans m6.grew, m6.grew, _, m6.here, by rw [zeroList_len]; omega, by simp [numsB]⟩
    have hst : goneG b (l.take (i + 1)) = stepG b (goneG b (l.take i)) ⟨k, q, ix, n⟩ := by rw [take_succ_eq (List.getElem?_eq_getElem hlt), goneG_snoc, hx]
    have hst1 : (goneG b (l.take (i + 1))).1 = (goneG b (l.take i)).1 + n := by rw [hst]; rfl
    have hle := goneG_take b l (i + 1)
    have hk1 := ok.k1
    refine dcN (h := h) (k0 := (goneG b (l.take i)).1) (n := n) (A := A) (sP := s5) hb hbl ((hkeep5 C hCl hCW).trans hC) hO5 hO0 hu5 hF5 p5.wf hg05 hw0 hro0 (by omega) hI'.k (Nat.le_of_lt hn20) hDn ?_ ?_ ?_ ?_ ?_ ?_ ?_ (fun τ7 s7 kd b8 b11 hk7 hgood7 hD7 => ?_) (fun τ7 s7 e j hj1 hj2 hjg hje c4 c5 c6 w7 g7 hO7 => ?_)
    · first | (simp only [U, tset_eq, wW, reduceCtorEq, Nat.reduceEqDiff, a1, a2, a4, a8]; done) | (simp only [U, tset_eq, wW, reduceCtorEq, Nat.reduceEqDiff, a1, a2, a4, a8]; rfl) | rfl
    · first | (simp only [U, tset_eq, wW, reduceCtorEq, Nat.reduceEqDiff, a1, a2, a4, a8]; done) | (simp only [U, tset_eq, wW, reduceCtorEq, Nat.reduceEqDiff, a1, a2, a4, a8]; rfl) | rfl
    · first | (simp only [U, tset_eq, wW, reduceCtorEq, Nat.reduceEqDiff, a1, a2, a4, a8]; done) | (simp only [U, tset_eq, wW, reduceCtorEq, Nat.reduceEqDiff, a1, a2, a4, a8]; rfl) | rfl
    · first | (simp only [U, tset_eq, wW, reduceCtorEq, Nat.reduceEqDiff, a1, a2, a4, a8]; done) | (simp only [U, tset_eq, wW, reduceCtorEq, Nat.reduceEqDiff, a1, a2, a4, a8]; rfl) | rfl
    · first | (simp only [U, tset_eq, wW, reduceCtorEq, Nat.reduceEqDiff, a1, a2, a4, a8]; done) | (simp only [U, tset_eq, wW, reduceCtorEq, Nat.reduceEqDiff, a1, a2, a4, a8]; rfl) | rfl
    · first | (simp only [U, tset_eq, wW, reduceCtorEq, Nat.reduceEqDiff, a1, a2, a4, a8]; done) | (simp only [U, tset_eq, wW, reduceCtorEq, Nat.reduceEqDiff, a1, a2, a4, a8]; rfl) | rfl
    · first | (simp only [U, tset_eq, wW, reduceCtorEq, Nat.reduceEqDiff, a1, a2, a4, a8]; done) | (simp only [U, tset_eq, wW, reduceCtorEq, Nat.reduceEqDiff, a1, a2, a4, a8]; rfl) | rfl
    · have d1 : τ7 1 = u := by rw [kd.a1]; simp only [U, tset_eq, wW, reduceCtorEq, Nat.reduceEqDiff, a1]
      have d2 : τ7 2 = ptr C := by rw [kd.a2]; simp only [U, tset_eq, wW, reduceCtorEq, Nat.reduceEqDiff, a2]
      have d4 : τ7 4 = ptr O := by rw [kd.a4]; simp only [U, tset_eq, wW, reduceCtorEq, Nat.reduceEqDiff, a4]
      have d7 : τ7 7 = ptr Pb := by rw [kd.a7]; simp only [U, tset_eq, wW, reduceCtorEq, Nat.reduceEqDiff, a7]
      have d10 : τ7 10 = ptr E := by rw [kd.a10]; simp only [U, tset_eq, wW, reduceCtorEq, Nat.reduceEqDiff]
      have d22 : τ7 22 = v := by rw [kd.a22]; simp only [U, tset_eq, wW, reduceCtorEq, Nat.reduceEqDiff, a22]
      have d23 : τ7 23 = .int .i64 l.length := by rw [kd.a23]; simp only [U, tset_eq, wW, reduceCtorEq, Nat.reduceEqDiff, a23]
      have d24 : τ7 24 = .int .i64 i := by rw [kd.a24]; simp only [U, tset_eq, wW, reduceCtorEq, Nat.reduceEqDiff, a24]
      have hE7 : s7.at E = some (.cells (Prt.cells ⟨k, q, ix, n⟩) 30 false) := (hD7.g.same E (by omega)).trans p5.here
      have hn7 := hD7.g.n
      have hki : veq (.int .u8 (k : Int)) (.int .u8 (k : Int)) = true := by simp [veq]
      have hxv : veq (.agg (.mk (Prt.cells ⟨k, q, ix, n⟩))) (.agg (.mk (Prt.cells ⟨k, q, ix, n⟩))) = true := by simp [veq, veqA, veqL, Prt.cells]
      simp (maxSteps := 10000000) only [wW, reduceCtorEq, Nat.reduceEqDiff, d7, d10, d24, b11, fa_30_0, wop_load, load1 ap_28, acells_some hE7, Nat.zero_add, hx0, hki, true_and]
      rw [load_all ap_30 hE7 rfl, wopt_some]
      refine ⟨hxv, ?_⟩
      refine wPlaces hD7.wf fun Ap s8 g8 w8 hAp => ?_
      refine ⟨g8.keeps, ?_⟩
      have hn8 := g8.n
      have hpix : aindexAddr P 84 (.slice (some ⟨Ap, 0, none⟩) 12 12) (.int .u8 (k : Int)) = some (ptrO Ap k) := by
        simp only [aindexAddr, un_84, isz_83, Option.bind_some, aplace]
        rw [if_pos ⟨by omega, by omega⟩, Int.toNat_natCast, Nat.mul_one, Nat.zero_add]
      obtain ⟨cs, hPb, hpf⟩ := hI'.pf
      have hPbl := (hWL Pb hWp).2
      have g78 := hD7.g.trans g8
      have g8s := g5.trans g78
      have hPb8 : s8.at Pb = some (.cells cs 39 false) := (g8s.same Pb (by omega)).trans hPb
      have hpf8 := hpf.grew g8s
      obtain ⟨f, hf, hcall⟩ := wPl (ro := ro) (n := n) hPb8 hpf8 ok w8 (by omega)
      have hvf : veq (fnV f) (fnV f) = true := by simp [veq, veqA, veqL]
      rw [wop_indexAddr, hpix, wopt_some, load1 ap_83, acells_some hAp, Option.bind_some, hf, wopt_some]
      refine ⟨hvf, ?_⟩
      show CallWP P ro f [ptr Pb, .agg (.mk (Prt.cells ⟨k, q, ix, n⟩))] s8 _
      refine hcall _ fun s9 g9 w9 => ?_
      have hn9 := g9.n
      have g9s := g8s.trans g9
      have hPb9 : s9.at Pb = some (.cells cs 39 false) := (g9s.same Pb (by omega)).trans hPb
      have hpf9 := hpf.grew g9s
      obtain ⟨c, T, hA9, hfit, hWA2, _⟩ := hpf9.place hPb9 (.inl hWp) ok
      obtain ⟨lc, hlc, hlcl, hlct⟩ := hD7.l
      have hlce : lc = (numsB b (goneG b (l.take i)).1 n).map (.int .u64) := by rw [← hlct, List.take_of_length_le (by omega)]
      have hAl7 := St.at_lt hlc
      have hlc9 := ((g8.trans g9).same A hAl7).trans hlc
      have hu9 : U64s s9 (.slice (some ⟨A, 0, none⟩) n n) (numsB b (goneG b (l.take i)).1 n) := by
        unfold U64s
        rw [numsB_len]
        exact ⟨_, _, rfl, by rw [List.length_map, numsB_len]; omega, ⟨Nat.le_refl _, fun h => (by cases h), fun x hx => by cases hx; exact .inl rfl⟩, fun _ => ⟨A, 0, none, _, _, false, rfl, rfl, hlc9, by rw [List.drop_zero, List.take_of_length_le (by omega)]; exact hlce⟩⟩
      have hAW : ¬ (W A ∨ (A = O ∨ A < s0.n)) := fun e => by
        rcases e with e | e
        · have := hWL A e; omega
        · omega
      have hWA : W ((slotA B k q ix).1.getD Pb) := by
        cases hp : (slotA B k q ix).1 with
        | none => exact hWp
        | some Y =>
          rcases slot_blk ok hp with rfl | rfl | ⟨j, hj, rfl⟩
          · exact hBW.1
          · exact hBW.2.1
          · exact hBW.2.2 j hj
      have hWA' := hWL _ hWA
      refine wSet (W := fun A => W A ∨ (A = O ∨ A < s0.n)) hk1 hA9 hfit hWA2 (fun X hX => by
        rcases hX with hX | hX
        · have := hWL X hX; omega
        · omega) hu9 (fun X o' sp n' c' e => by cases e; exact ⟨by omega, hAW⟩) (by rw [numsB_len]; omega) (by unfold lenOk; rw [numsB_len]; exact hln) w9 (by omega) fun s10 r => ?_
      obtain ⟨cs', hPb10, hpf10⟩ := hpf9.setR hPb9 (.inl hWp) hPbne ok hA9 r
      have hn10 := r.n
      rw [wrap_i64 (n := (i : Int) + 1) (by omega) (by omega)]
      refine ⟨i + 1, by omega, by omega, ?_, ?_, ?_, ?_, ?_, ?_, ?_, ?_, r.wf, r.gr s0 hw0 (hI'.g0.trans g9s) hWA'.1, by omega, fun X h1 h2 => ?_, ⟨cs', hPb10, ?_⟩, by rw [hst1]; omega, fun j hj => ?_⟩
      · simp only [U, tset_eq, wW, reduceCtorEq, Nat.reduceEqDiff, d1]
      · simp only [U, tset_eq, wW, reduceCtorEq, Nat.reduceEqDiff, d2]
      · simp only [U, tset_eq, wW, reduceCtorEq, Nat.reduceEqDiff, d4]
      · simp only [U, tset_eq, wW, reduceCtorEq, Nat.reduceEqDiff, d7]
      · simp only [U, tset_eq, wW, reduceCtorEq, Nat.reduceEqDiff, b8, hst1]
      · simp only [U, tset_eq, wW, reduceCtorEq, Nat.reduceEqDiff, d22]
      · simp only [U, tset_eq, wW, reduceCtorEq, Nat.reduceEqDiff, d23]
      · simp only [U, tset_eq, wW, reduceCtorEq, Nat.reduceEqDiff]; rfl
      · rw [r.same X (by omega) (fun e => h2 (by rw [e]; exact hWA)), g9s.same X (by omega)]
        exact hI'.keep X h1 h2
      · rw [hst]
        exact hpf10
      · rw [hst1] at hj
        by_cases hjj : j < (goneG b (l.take i)).1
        · exact hI'.good j hjj
        · exact hgood7 j (by omega) hj
    · refine hret τ7 s7 e (errF_some (fun j' _ h2 => ?_) hje (by omega) (by omega)) c4 c5 c6 w7 g7 hO7
      by_cases hjj : j' < (goneG b (l.take i)).1
      · exact hI'.good j' hjj
      · exact hjg j' (by omega) h2
  · obtain rfl : i = l.length := by omega
    rw [if_neg (by omega)]
    rw [List.take_length] at a8
    refine hk _ s' ?_ ?_ ?_ ?_ hI'
    all_goals first | rfl | (simp only [U, tset_eq, wW, reduceCtorEq, Nat.reduceEqDiff]; done) | (simp only [U, tset_eq, wW, reduceCtorEq, Nat.reduceEqDiff, a1, a4, a7, a8]; done)
end
end Go.VE
/- proof.Decode. -/
namespace Go.VE
open Go Go.Proofs
set_option maxRecDepth 20000
theorem errF_ne {b : List Int} {p : Int} {e : Int × Int} : ∀ {c k : Nat}, errF b p c k = some e → e.2 ≠ 0
  | 0, k, h => by cases h
  | c + 1, k, h => by
    unfold errF at h
    cases hr : rdE b p k with
    | none => rw [hr] at h; exact errF_ne h
    | some e' =>
      rw [hr] at h
      cases h
      unfold rdE at hr
      split at hr
      · cases hr
        exact (by decide : (5 : Int) ≠ 0)
      · split at hr
        · cases hr
          exact (by decide : (2 : Int) ≠ 0)
        · cases hr
theorem it_mem {g : Nat → List Prt → List Prt} {x : Prt} (hg : ∀ i l, x ∈ l → x ∈ g i l) {l : List Prt} (h : x ∈ l) : ∀ n, x ∈ it g n l
  | 0 => h
  | n + 1 => hg n _ (it_mem hg h n)
theorem partsR_pos {h : Shp} (hv : shV h = true) : 0 < (partsR h).length := by
  have h1 : (⟨2, 0, 0, 1⟩ : Prt) ∈ partsAll h := by
    unfold partsAll midA
    refine it_mem (fun i l hl => ?_) (List.mem_append_left _ (it_mem (fun i l hl => List.mem_append_left _ hl) (by simp [preA]) _)) _
    unfold alQ
    exact it_mem (fun i l hl => List.mem_append_left _ hl) (it_mem (fun i l hl => List.mem_append_left _ hl) (it_mem (fun i l hl => List.mem_append_left _ hl) hl _) _) _
  have h2 : (⟨2, 0, 0, 1⟩ : Prt) ∈ partsR h := by
    rw [← partsAll_keep hv]
    exact List.mem_filter.2 ⟨h1, by decide⟩
  exact List.length_pos_of_mem h2
section
variable {s s' : St} {W : Nat → Prop} {cs : List Value} {B : PfB} {R Q : Nat} {g : Nat → Nat → Nat → List Int}
theorem PfAt.off {X : Nat} (h : PfAt s W cs B R Q g) (hn : s.n ≤ s'.n) (hat : ∀ A, A ≠ X → s'.at A = s.at A) (hX : W X) (h1 : X ≠ B.rb) (h2 : X ≠ B.ob) (h3 : ∀ j, j < Q → X ≠ B.fb j) : PfAt s' W cs B R Q g := by
  obtain ⟨c1, r1, l1⟩ := h.rb
  obtain ⟨c2, r2, l2, f2⟩ := h.ob
  have hl : ∀ A, A < s.n → ¬ W A → s'.at A = s.at A := fun A _ hA => hat A fun e => hA (by rw [e]; exact hX)
  have hb : ∀ A, (A = B.rb ∨ A = B.ob ∨ ∃ j, j < Q ∧ A = B.fb j) → s'.at A = s.at A := fun A hA => hat A fun e => by
    rcases hA with rfl | rfl | ⟨j, hj, rfl⟩
    · exact h1 e.symm
    · exact h2 e.symm
    · exact h3 j hj e.symm
  refine ⟨h.cl, h.c4, h.c7, ⟨c1, (hb _ (.inl rfl)).trans r1, l1⟩, ⟨c2, (hb _ (.inr (.inl rfl))).trans r2, l2, f2⟩, fun j hj => ?_, h.ne, h.nef, h.w, fun k q i ok => ?_⟩
  · obtain ⟨c3, r3, l3⟩ := h.fb j hj
    exact ⟨c3, (hb _ (.inr (.inr ⟨j, hj, rfl⟩))).trans r3, l3⟩
  · obtain ⟨c, hc, hs⟩ := h.sl k q i ok
    refine ⟨c, ?_, hs.mono hn hl fun _ _ => rfl⟩
    cases hp : (slotA B k q i).1 with
    | none => rw [hp] at hc; exact hc
    | some A =>
      rw [hp] at hc
      show acells (s'.at A) = some c
      rw [hb A (slot_blk ok hp)]
      exact hc
theorem PfAt.one (h : PfAt s W cs B R Q g) : cs.all (·.oneCell') = true := by
  have get : ∀ i, i < 8 → ∃ v, cs[i]? = some v ∧ v.oneCell' = true := fun i hi => by
    have sv : ∀ k, (k = 1 ∨ k = 3 ∨ k = 4 ∨ k = 6) → ∃ v, cs[(slotA B k 0 0).2]? = some v ∧ v.oneCell' = true := fun k hk => by
      obtain ⟨c, hc, hs⟩ := h.sl k 0 0 (.top k (by omega))
      have hcs : c = cs := by rcases hk with rfl | rfl | rfl | rfl <;> simpa [slotA, cellsAt] using hc.symm
      subst hcs
      unfold SlotC at hs
      rw [if_neg (by omega), if_neg (by omega)] at hs
      obtain ⟨v, e, hv⟩ := hs
      exact ⟨v, e, hv.one.1⟩
    have sn : ∀ k, (k = 2 ∨ k = 7) → ∃ v, cs[(slotA B k 0 0).2]? = some v ∧ v.oneCell' = true := fun k hk => by
      obtain ⟨c, hc, hs⟩ := h.sl k 0 0 (.top k (by omega))
      have hcs : c = cs := by rcases hk with rfl | rfl <;> simpa [slotA, cellsAt] using hc.symm
      subst hcs
      unfold SlotC at hs
      rw [if_pos hk] at hs
      obtain ⟨x, _, e⟩ := hs
      exact ⟨_, e, rfl⟩
    match i, hi with
    | 0, _ => exact sv 1 (by omega)
    | 1, _ => exact sv 3 (by omega)
    | 2, _ => exact sv 4 (by omega)
    | 3, _ => exact sn 2 (by omega)
    | 4, _ => exact ⟨_, h.c4, rfl⟩
    | 5, _ => exact sv 6 (by omega)
    | 6, _ => exact sn 7 (by omega)
    | 7, _ => exact ⟨_, h.c7, rfl⟩
  refine List.all_eq_true.2 fun v hv => ?_
  obtain ⟨i, hi⟩ := List.getElem?_of_mem hv
  have hlt := (List.getElem?_eq_some_iff.1 hi).1
  obtain ⟨w, hw, h1⟩ := get i (by have := h.cl; omega)
  rw [hw] at hi
  cases hi
  exact h1
end
section
variable {ro : Nat} {s : St} {K : Value → St → Prop}
theorem wDecode (h : Shp) {b : List Int} {u : Value} (hb : ∀ x ∈ b, 0 ≤ x ∧ x < 256) (hbl : b.length < 2 ^ 40) (hu : Bys s u b) (huA : b ≠ [] → ∀ A o sp n c, u = .slice (some ⟨A, o, sp⟩) n c → A < s.n) (hw : Wf s) (hro : ro ≤ s.n) (hF : FieldsAt s)
    (h0 : shV h = false → K (.tuple (.mk [.agg (.mk zeroCs), .int .i64 0, .int .i64 1])) s)
    (h1 : shV h = true → (decE b (fP h.f) (goneG b (partsR h)).1).2 ≠ 0 → K (.tuple (.mk [.agg (.mk zeroCs), .int .i64 (decE b (fP h.f) (goneG b (partsR h)).1).1, .int .i64 (decE b (fP h.f) (goneG b (partsR h)).1).2])) s)
    (h2 : shV h = true → decE b (fP h.f) (goneG b (partsR h)).1 = (0, 0) → (∀ j, j < (goneG b (partsR h)).1 → rdE b (fP h.f) j = none) → ∀ cs B s' W, Grew s s' → (∀ A, W A → A < s'.n) → (∀ A, A < s.n → W A) → (s.n ≤ B.rb ∧ s.n ≤ B.ob ∧ ∀ j, j < h.q.toNat → s.n ≤ B.fb j) → PfAt s' W cs B (shR h).toNat h.q.toNat (goneG b (partsR h)).2 → K (.tuple (.mk [.agg (.mk cs), .int .i64 0, .int .i64 0])) s') :
    CallWP P ro 17 [.agg (.mk h.cells), u] s K := by
  refine call_wp b17 rfl ?_
  rw [n17]
  unfold v17
  simp (maxSteps := 10000000) only [wW, reduceCtorEq, Nat.reduceEqDiff]
  refine box_rule hw.ent fun C s1 m1 => ?_
  have e1 := m1.eq
  have n1 := m1.n
  have hn0 : (ent s).n = s.n := rfl
  refine alloc_rule ty_39 m1.wf fun O s2 m2 => ?_
  have e2 := m2.eq
  have n2 := m2.n
  have g2 : Grew (ent s) s2 := m1.grew.trans m2.grew
  have hC2 : s2.at C = some (.cells h.cells 23 false) := (m2.grew.same C (by omega)).trans m1.here
  have hO2 : s2.at O = some (.cells zeroCs 39 false) := m2.here
  have hF2 : FieldsAt s2 := FieldsAt.grew (s := ent s) hF g2
  have h0n : 0 < s.n := hF.lt
  rw [wop_load, load_all ap_23 hC2 rfl, wopt_some, wHValid h m2.wf (by omega) hF2]
  simp (maxSteps := 10000000) only [wW, reduceCtorEq, Nat.reduceEqDiff]
  cases hv : shV h with
  | false =>
    rw [if_pos rfl, bldZ, wopt_some]
    refine storeAll_rule isz_39 hO2 (l := zeroCs) rfl (by decide) m2.wf (by omega) rfl rfl fun s3 p3 => ?_
    rw [wop_load, load_all ap_39 p3.here rfl, wopt_some]
    exact fin_flat rfl (p3.grew _ hw.ent g2 (by omega)) (h0 hv)
  | true =>
    rw [if_neg (by decide), wop_load, load_all ap_23 hC2 rfl, wopt_some]
    have hv' := hv
    unfold shV inR at hv'
    simp only [Bool.and_eq_true, decide_eq_true_eq] at hv'
    refine wBlank h hv m2.wf (by omega) fun B s3 g3 hB hpf => ?_
    have n3 := g3.n
    have w3 := m2.wf.grew g3
    obtain ⟨b1, b2, b3⟩ := hB
    refine alloc_rule ty_39 w3 fun Pb s4 m4 => ?_
    have e4 := m4.eq
    have n4 := m4.n
    refine storeAll_rule isz_39 m4.here (l := blankCs (shR h).toNat h.q.toNat B.rb B.ob) rfl (by decide) m4.wf (by omega) rfl rfl fun s5 p5 => ?_
    have n5 := p5.n
    have g35 : Grew s3 s5 := p5.grew _ w3 m4.grew (by omega)
    have g05 : Grew (ent s) s5 := g2.trans (g3.trans g35)
    have g25 := g3.trans g35
    have hC5 : s5.at C = some (.cells h.cells 23 false) := (g25.same C (by omega)).trans hC2
    rw [wop_load, load_all ap_23 hC5 rfl, wopt_some]
    refine wGParts h p5.wf (by omega) (FieldsAt.grew (s := ent s) hF g05) (fun hf => by rw [hv] at hf; cases hf) fun _ v s6 g6 hP hPA => ?_
    have n6 := g6.n
    have hpos := partsR_pos hv
    have hlen := partsR_len hv
    rw [Sl.wlen hP se_24]
    have hWdef : ∀ A, (A = Pb ∨ A = B.rb ∨ A = B.ob ∨ ∃ j, j < h.q.toNat ∧ A = B.fb j) → s2.n ≤ A ∧ A < s5.n := fun A hA => by
      have hp := hpf (fun _ => True) trivial trivial (fun _ _ => trivial)
      obtain ⟨c1, r1, _⟩ := hp.rb
      obtain ⟨c2, r2, _⟩ := hp.ob
      have l1 := St.at_lt r1
      have l2 := St.at_lt r2
      rcases hA with rfl | rfl | rfl | ⟨j, hj, rfl⟩
      · omega
      · omega
      · omega
      · obtain ⟨c3, r3, _⟩ := hp.fb j hj
        have l3 := St.at_lt r3
        have := b3 j hj
        omega
    have hp3 := hpf (fun A => (A = Pb ∨ A = B.rb ∨ A = B.ob ∨ ∃ j, j < h.q.toNat ∧ A = B.fb j) ∨ (A = O ∨ A < (ent s).n)) (.inl (.inr (.inl rfl))) (.inl (.inr (.inr (.inl rfl)))) (fun j hj => .inl (.inr (.inr (.inr ⟨j, hj, rfl⟩))))
    have hp6 := (hp3.grew g35).grew g6
    have hPb6 : s6.at Pb = some (.cells (blankCs (shR h).toNat h.q.toNat B.rb B.ob) 39 false) := (g6.same Pb (by omega)).trans p5.here
    have hPbne : Pb ≠ B.rb ∧ Pb ≠ B.ob ∧ ∀ j, j < h.q.toNat → Pb ≠ B.fb j := by
      obtain ⟨c1, r1, _⟩ := hp3.rb
      obtain ⟨c2, r2, _⟩ := hp3.ob
      have l1 := St.at_lt r1
      have l2 := St.at_lt r2
      refine ⟨by omega, by omega, fun j hj => ?_⟩
      obtain ⟨c3, r3, _⟩ := hp3.fb j hj
      have l3 := St.at_lt r3
      omega
    have g06 : Grew (ent s) s6 := g05.trans g6
    have w6 := p5.wf.grew g6
    have hC6 : s6.at C = some (.cells h.cells 23 false) := (g6.same C (by omega)).trans hC5
    have hO6 : s6.at O = some (.cells zeroCs 39 false) := ((g25.trans g6).same O (by omega)).trans hO2
    have hI6 : DcI (ent s) s6 (fun A => A = Pb ∨ A = B.rb ∨ A = B.ob ∨ ∃ j, j < h.q.toNat ∧ A = B.fb j) O Pb B (shR h).toNat h.q.toNat b (fP h.f) (partsR h) 0 s6 :=
      ⟨w6, g06, Nat.le_refl _, fun _ _ _ => rfl, ⟨_, hPb6, hp6⟩, by show 4 * 0 ≤ _; omega, fun j hj => by have hj : j < 0 := hj; omega⟩
    have zfl : ∀ x y : Int, flat' (.tuple (.mk [.agg (.mk zeroCs), .int .i64 x, .int .i64 y])) = true := fun x y => rfl
    refine dcP (h := h) (C := C) (O := O) (Pb := Pb) (B := B) (R := (shR h).toNat) (Q := h.q.toNat) hb hbl hC6 (fun e => by have := hWdef C e; omega) ⟨_, hO6, rfl⟩ (fun e => by have := hWdef O e; omega) (by omega) ((Sl.ent hu).grew g06.same) (fun b0 A o sp n c e => ⟨by have := huA b0 A o sp n c e; omega, fun hA => by have := hWdef A hA; have := huA b0 A o sp n c e; omega⟩) (FieldsAt.grew (s := ent s) hF g06) (fun e => by have := hWdef 0 e; omega) hP (fun A o sp n c e => ⟨?_, fun hA => by have := hWdef A hA; have := hPA A o sp n c e; omega⟩) hlen (partsR_ok hv) (.inl rfl) ⟨.inr (.inl rfl), .inr (.inr (.inl rfl)), fun j hj => .inr (.inr (.inr ⟨j, hj, rfl⟩))⟩ hPbne (fun A hA => by have := hWdef A hA; omega) hw.ent hro hI6 ?_ ?_ ?_ ?_ ?_ ?_ ?_ ?_ (fun τ7 s7 c1 c4 c7 c8 hI7 => ?_) (fun τ7 s7 e he c4 c5 c6 w7 g7 hO7 => ?_)
    · obtain ⟨a, cc, ev, _, _, hbk⟩ := hP
      obtain ⟨A', o', m', cells, t, op, ha, _, hA', _⟩ := hbk (by omega)
      rw [ev, ha] at e
      cases e
      exact St.at_lt hA'
    · simp only [U, tset_eq, wW, reduceCtorEq, Nat.reduceEqDiff]
    · simp only [U, tset_eq, wW, reduceCtorEq, Nat.reduceEqDiff]
    · simp only [U, tset_eq, wW, reduceCtorEq, Nat.reduceEqDiff]
    · simp only [U, tset_eq, wW, reduceCtorEq, Nat.reduceEqDiff]
    · simp only [U, tset_eq, wW, reduceCtorEq, Nat.reduceEqDiff]
    · simp only [U, tset_eq, wW, reduceCtorEq, Nat.reduceEqDiff]
    · simp only [U, tset_eq, wW, reduceCtorEq, Nat.reduceEqDiff]
    · simp only [U, tset_eq, wW, reduceCtorEq, Nat.reduceEqDiff]
    · have hgood := hI7.good
      have hkk := hI7.k
      rw [List.take_length] at hgood hkk
      obtain ⟨cs, hPb7, hp7⟩ := hI7.pf
      rw [List.take_length] at hp7
      have hn7 := hI7.n
      have hu7 : Bys s7 u b := Bys.sameAt hu fun b0 A o sp n c e => by
        have hA := huA b0 A o sp n c e
        rw [hI7.keep A (by omega) (fun hA' => by have := hWdef A hA'; omega), g06.same A hA]
        rfl
      have hO7 : s7.at O = some (.cells zeroCs 39 false) := (hI7.keep O (by omega) (fun e => by have := hWdef O e; omega)).trans hO6
      have hnone := errF_none (b := b) (p := fP h.f) (c := (goneG b (partsR h)).1) (k := 0) fun j _ hj => hgood j (by omega)
      simp (maxSteps := 10000000) only [wW, reduceCtorEq, Nat.reduceEqDiff, c1, c4, c7, c8, Sl.wlen hu7 se_32]
      by_cases hlt : (4 * ((goneG b (partsR h)).1 : Int)) < b.length
      · have hdec : decE b (fP h.f) (goneG b (partsR h)).1 = (4 * ((goneG b (partsR h)).1 : Int), 3) := by
          unfold decE
          rw [hnone]
          simp only
          rw [if_pos hlt]
        rw [if_pos hlt, bldZ, wopt_some]
        refine storeAll_rule isz_39 hO7 (l := zeroCs) rfl (by decide) hI7.wf (by omega) rfl rfl fun s8 p8 => ?_
        rw [wop_load, load_all ap_39 p8.here rfl, wopt_some]
        have := h1 hv (by rw [hdec]; exact (by decide : (3 : Int) ≠ 0))
        rw [hdec] at this
        exact fin_flat (zfl _ _) (p8.grew _ hw.ent hI7.g0 (by omega)) this
      · have hdec : decE b (fP h.f) (goneG b (partsR h)).1 = (0, 0) := by
          unfold decE
          rw [hnone]
          simp only
          rw [if_neg hlt]
        rw [if_neg hlt, wop_load, load_all ap_39 hPb7 hp7.cl, wopt_some]
        have hone : cs.all (·.oneCell') = true := hp7.one
        refine storeAll_rule isz_39 hO7 (l := cs) hp7.cl (by decide) hI7.wf (by omega) rfl hone fun s8 p8 => ?_
        rw [wop_load, load_all ap_39 p8.here hp7.cl, wopt_some]
        have g8 := p8.grew _ hw.ent hI7.g0 (by omega)
        obtain ⟨sB, hsB⟩ : ∃ x, cs[7]? = some (.slice (some x) h.q.toNat h.q.toNat) := ⟨_, hp7.c7⟩
        have hfl : flat' (.tuple (.mk [.agg (.mk cs), .int .i64 0, .int .i64 0])) = false := by
          show (false || (flatL cs && (true && (true && true)))) = false
          have : flatL cs = false := by
            cases hf : flatL cs with
            | false => rfl
            | true => have := flatL_get hf hsB; cases this
          rw [this]; rfl
        refine wfin_new hw g8 hfl fun s9 g9 hn9 hat => ?_
        have n8 := p8.n
        refine h2 hv hdec hgood cs B s9 (fun A => (A = Pb ∨ A = B.rb ∨ A = B.ob ∨ ∃ j, j < h.q.toNat ∧ A = B.fb j) ∨ (A = O ∨ A < (ent s).n)) g9 (fun A hA => ?_) (fun A hA => .inr (.inr hA)) ⟨?_, ?_, fun j hj => ?_⟩ ?_
        · rcases hA with hA | rfl | hA
          · have := hWdef A hA
            omega
          · omega
          · omega
        · have := hWdef B.rb (.inr (.inl rfl)); omega
        · have := hWdef B.ob (.inr (.inr (.inl rfl))); omega
        · have := hWdef (B.fb j) (.inr (.inr (.inr ⟨j, hj, rfl⟩))); omega
        · refine hp7.off (X := O) (by omega) (fun A hA => (hat A).trans (p8.rest A hA)) (.inr (.inl rfl)) (fun e => ?_) (fun e => ?_) fun j hj e => ?_
          · have := hWdef B.rb (.inr (.inl rfl)); omega
          · have := hWdef B.ob (.inr (.inr (.inl rfl))); omega
          · have := hWdef (B.fb j) (.inr (.inr (.inr ⟨j, hj, rfl⟩))); omega
    · have hdec : decE b (fP h.f) (goneG b (partsR h)).1 = e := by
        unfold decE
        rw [he]
      rw [r17]
      simp (maxSteps := 10000000) only [wW, reduceCtorEq, Nat.reduceEqDiff, c4, c5, c6]
      rw [wop_load, load_all ap_39 hO7 rfl, wopt_some]
      have := h1 hv (by rw [hdec]; exact errF_ne he)
      rw [hdec] at this
      exact fin_flat (zfl _ _) g7 this
end
end Go.VE
/- (proof.list).get, field.Is. -/
namespace Go.VE
open Go Go.Proofs
set_option maxRecDepth 20000
theorem append_inN {ro : Nat} {s : St} {A m c n : Nat} {cs : List Value} {x : Value} {ys : List Value} (hA : s.at A = some (.cells cs 34 false)) (hw : Wf s) (hro : ro ≤ A) (hx : Sl s x 1 n ys) (hn : 0 < n) (h1 : ys.all (·.oneCell') = true) (hm : m + n ≤ c) (hc : cs.length = c) {ty : TypeId} {K : Value → St → Prop}
    (hk : ∀ s', Put s A (.cells (splice cs m ys) 34 false) s' → K (.slice (some ⟨A, 0, none⟩) (m + n) c) s') : wop P ro (.call ⟨.builtin .append, ⟨[.const (.slice (some ⟨A, 0, none⟩) m c), .const x]⟩, #[36, 36]⟩) ty s K := by
  obtain ⟨i, hi, his, hib, hz, hf, hzs⟩ := tyOk_spec ty_34
  obtain ⟨ha, hfst⟩ := hx.first
  have hyl := hx.len
  rw [wop_append]
  have e1 : aappend P ro s #[36, 36] [.slice (some ⟨A, 0, none⟩) m c, x] = some (.slice (some ⟨A, 0, none⟩) (m + n) c, s.put A (.cells (splice cs m ys) 34 false)) := by
    have hni : notInt P 36 = true := by kernel_rfl
    simp only [aappend, se_36, hni, hi, ha, his, hfst, Option.bind_some, aappendTo]
    rw [if_pos hm, Nat.zero_add, Nat.mul_one, awrite_some hA hro (by omega) (by omega) h1]
    rfl
  rw [e1]
  exact hk _ (.mk' hw (St.at_lt hA) _)
theorem splice_front {c l : List Value} {m : Nat} (h : m + l.length ≤ c.length) : (splice c m l).take (m + l.length) = c.take m ++ l := by
  unfold splice
  have h1 : (c.take m).length = m := by rw [List.length_take]; omega
  rw [← List.append_assoc]
  have h2 : (c.take m ++ l).length = m + l.length := by rw [List.length_append, h1]
  rw [← h2, List.take_left]
def fIs (f : Int) (l : List Int) : Bool := decide (∀ x ∈ l, x < fP f) && fV f
section
variable {ro : Nat} {s : St} {K : Value → St → Prop}
theorem slArr (A o : Nat) (ty : TypeId) (s : St) (K : Value → St → Prop) : wop P ro (.slice 112 (.const (ptrO A o)) none none none) ty s K = K (.slice (some ⟨A, o, none⟩) 8 8) s := by
  rw [wop_sliceArr]
  have hsl : asliceOp P 112 (.pointer (some ⟨A, o, none⟩)) none none none = some (.slice (some ⟨A, o, none⟩) 8 8) := by
    simp only [asliceOp, un_112, isz_34, sliceArr, abound, Option.bind_some]
    simp
  rw [show asliceOp P 112 (.pointer (some ⟨A, o, none⟩)) (Option.map (aval .e) none) (Option.map (aval .e) none) (Option.map (aval .e) none) = some (.slice (some ⟨A, o, none⟩) 8 8) from hsl, wopt_some]
theorem slDig (A : Nat) (ty : TypeId) (s : St) (K : Value → St → Prop) : wop P ro (.slice 55 (.const (ptrO A 0)) none none none) ty s K = K (.slice (some ⟨A, 0, none⟩) 2 2) s := by
  rw [wop_sliceArr]
  have hsl : asliceOp P 55 (.pointer (some ⟨A, 0, none⟩)) none none none = some (.slice (some ⟨A, 0, none⟩) 2 2) := by
    simp only [asliceOp, un_55, isz_34, sliceArr, abound, Option.bind_some]
    simp
  rw [show asliceOp P 55 (.pointer (some ⟨A, 0, none⟩)) (Option.map (aval .e) none) (Option.map (aval .e) none) (Option.map (aval .e) none) = some (.slice (some ⟨A, 0, none⟩) 2 2) from hsl, wopt_some]
theorem wGetD {W : Nat → Prop} {k A o : Nat} {c : List Value} {l : List Int} (hk0 : k = 1 ∨ k = 3 ∨ k = 4 ∨ k = 5 ∨ k = 9 ∨ k = 11) (hA : acells (s.at A) = some c) (hS : SlotC s W k c o l) (hlen : l.length < 2 ^ 20) (hw : Wf s) (hro : ro ≤ s.n) (hk : ∀ v s', Grew s s' → U64s s' v l → K v s') :
    CallWP P ro 57 [.agg (.mk (lstC k (ptrO A o)))] s K := by
  refine call_wp b57 rfl ?_
  rw [n57]
  unfold v57
  have hn0 : (ent s).n = s.n := rfl
  have hl1 : lstC k (ptrO A o) = [.pointer none, ptrO A o, .pointer none, .pointer none] := by
    unfold lstC
    rw [if_neg (by omega), if_neg (by omega), if_neg (by omega)]
  rw [hl1]
  unfold SlotC at hS
  rw [if_neg (by omega), if_neg (by omega), if_neg (by omega)] at hS
  obtain ⟨v, hv, m, hm, hvs, _⟩ := hS
  simp (maxSteps := 10000000) only [wW, reduceCtorEq, Nat.reduceEqDiff]
  refine box_rule hw.ent fun Bx s1 m1 => ?_
  have e1 := m1.eq
  have n1 := m1.n
  have hB1 : s1.at Bx = some (.cells [.pointer none, ptrO A o, .pointer none, .pointer none] 82 false) := m1.here
  have hAl : A < s.n := by
    cases hc : s.at A with
    | none => rw [hc] at hA; cases hA
    | some x => exact St.at_lt hc
  have hA1 : acells (s1.at A) = some c := by rw [m1.grew.same A hAl]; exact hA
  have hv1 : Sl s1 v 2 m (l.map (.int .u64)) := (Sl.ent hvs).grew m1.grew.same
  simp (maxSteps := 10000000) only [wW, reduceCtorEq, Nat.reduceEqDiff, wop_load, fa_82_0, fa_82_1, fa_82_2, fa_82_3, load1 ap_77, load1 ap_78, load1 ap_79, load1 ap_80, load1 ap_33, acells_some hB1, hA1, hv, Nat.zero_add, List.getElem?_cons_zero, List.getElem?_cons_succ, pn77, pn79, pn80, Sl.wlen hv1 se_33]
  rw [wrap_i64 (n := 2 * (m : Int)) (by omega) (by omega)]
  refine makeLC_rule se_36 ty_34 m1.wf (by decide) (by omega) (by omega) (by decide) fun D s2 m2 => ?_
  have e2 := m2.eq
  have n2 := m2.n
  have hB2 := (m2.grew.same Bx (by omega)).trans hB1
  have hA2 : acells (s2.at A) = some c := by rw [m2.grew.same A (by omega)]; exact hA1
  have hv2 : Sl s2 v 2 m (l.map (.int .u64)) := hv1.grew m2.grew.same
  simp (maxSteps := 10000000) only [wW, reduceCtorEq, Nat.reduceEqDiff, wop_load, fa_82_1, load1 ap_78, load1 ap_33, acells_some hB2, hA2, hv, Nat.zero_add, List.getElem?_cons_zero, List.getElem?_cons_succ, Sl.wlen hv2 se_33]
  have e2m : (2 * (m : Int)).toNat = 2 * m := by omega
  have g02 : Grew (ent s) s2 := m1.grew.trans m2.grew
  refine wloop l57_1110100 m57_1110100 (fun (i : Nat) τ ds s' => i ≤ m ∧ τ 41 = v ∧ τ 42 = .int .i64 m ∧ τ 43 = .int .i64 i ∧ τ 3 = .slice (some ⟨D, 0, none⟩) (2 * i) (2 * m) ∧ ds = [] ∧ Wf s' ∧ Grew (ent s) s' ∧ Sl s' v 2 m (l.map (.int .u64)) ∧ ∃ dc, s'.at D = some (.cells dc 34 false) ∧ dc.length = 2 * m ∧ dc.take (2 * i) = (l.take (2 * i)).map (.int .u64)) (fun i => m - i) ?_ 0 ⟨by omega, ?_, ?_, ?_, ?_, rfl, m2.wf, g02, hv2, _, m2.here, by rw [zeroList_len]; omega, by simp⟩
  · rintro i τ ds s' ⟨hi, t41, t42, t43, t3, rfl, w', g', hv', dc, hD, hDl, hDt⟩
    rw [n57_1110100]
    unfold v57_1110100
    have hgn := g'.n
    simp (maxSteps := 10000000) only [wW, reduceCtorEq, Nat.reduceEqDiff, t41, t42, t43, t3]
    by_cases hlt : i < m
    · rw [if_pos (by omega)]
      obtain ⟨A5, o5, q1, _, q3⟩ := Sl.ix hv' (by decide) (show (0 : Int) ≤ i by omega) (show (i : Int) < m by omega)
      have q3' := q3 0 2 (by decide) (by decide)
      rw [Nat.add_zero, Nat.add_zero, Int.toNat_natCast] at q3'
      have hcut : cut (l.map (Value.int .u64)) (i * 2) 2 = some [.int .u64 (l[2 * i]), .int .u64 (l[2 * i + 1])] := by
        rw [cut_eq (by rw [List.length_map]; omega), drop_cons (by rw [List.length_map]; omega), drop_cons (by rw [List.length_map]; omega), List.getElem_map, List.getElem_map]
        simp only [Nat.mul_comm i 2]
        rfl
      rw [hcut] at q3'
      have hld : aload P s' 55 (.pointer (some ⟨A5, o5, none⟩)) = some (.agg (.mk [.int .u64 (l[2 * i]), .int .u64 (l[2 * i + 1])])) := by
        rw [loadN ap_55, q3']
        rfl
      rw [wop_indexAddr, q1 se_33 isz_55, wopt_some, wop_load, hld, wopt_some]
      refine alloc_rule ty_55 w' fun E s5 m5 => ?_
      have e5 := m5.eq
      have n5 := m5.n
      have hDl' := St.at_lt hD
      refine storeAll_rule isz_55 m5.here (l := [.int .u64 (l[2 * i]), .int .u64 (l[2 * i + 1])]) rfl (by decide) m5.wf (by omega) rfl rfl fun s6 p6 => ?_
      have n6 := p6.n
      have g6 : Grew s' s6 := p6.grew _ w' m5.grew (by omega)
      rw [slDig]
      have hx6 : Sl s6 (.slice (some ⟨E, 0, none⟩) 2 2) 1 2 [.int .u64 (l[2 * i]), .int .u64 (l[2 * i + 1])] := ⟨_, _, rfl, rfl, ⟨Nat.le_refl _, fun h => (by cases h), fun x hx => by cases hx; exact .inl rfl⟩, fun _ => ⟨E, 0, none, _, _, false, rfl, rfl, p6.here, rfl⟩⟩
      refine append_inN ((g6.same D hDl').trans hD) p6.wf (by omega) hx6 (by decide) rfl (by omega) hDl fun s7 p7 => ?_
      rw [wrap_i64 (n := (i : Int) + 1) (by omega) (by omega)]
      have htk : (l.take (2 * (i + 1))).map (Value.int .u64) = (l.take (2 * i)).map (Value.int .u64) ++ [.int .u64 l[2 * i], .int .u64 l[2 * i + 1]] := by
        rw [show 2 * (i + 1) = 2 * i + 1 + 1 by omega, take_succ_eq (List.getElem?_eq_getElem (show 2 * i + 1 < l.length by omega)), take_succ_eq (List.getElem?_eq_getElem (show 2 * i < l.length by omega)), List.map_append, List.map_append, List.append_assoc]
        rfl
      have hDn : D ≠ s'.n := by omega
      have hvD : ∀ A o sp k c, v = .slice (some ⟨A, o, sp⟩) k c → s7.at A = s6.at A := fun A o sp k c e => by
        refine p7.rest A fun e2 => ?_
        subst e2
        obtain ⟨a, cc, ev, _, _, hb⟩ := hvs
        obtain ⟨A', o', m', cells, t, op, ha, _, hA', _⟩ := hb (by omega)
        rw [ev, ha] at e
        cases e
        have := St.at_lt hA'
        omega
      refine ⟨i + 1, by omega, by omega, ?_, ?_, ?_, ?_, by first | trivial | rfl, p7.wf, p7.grew _ hw.ent (g'.trans g6) (by omega), (hv'.grew g6.same).sameAt hvD, _, p7.here, ?_, ?_⟩
      · simp only [U, tset_eq, wW, reduceCtorEq, Nat.reduceEqDiff, t41]
      · simp only [U, tset_eq, wW, reduceCtorEq, Nat.reduceEqDiff, t42]
      · simp only [U, tset_eq, wW, reduceCtorEq, Nat.reduceEqDiff]; rfl
      · simp only [U, tset_eq, wW, reduceCtorEq, Nat.reduceEqDiff]
        rfl
      · rw [splice_length (by simp; omega)]; exact hDl
      · have := splice_front (c := dc) (l := [.int .u64 l[2 * i], .int .u64 l[2 * i + 1]]) (m := 2 * i) (by simp; omega)
        rw [htk, ← hDt]
        exact this
    · obtain rfl : i = m := by omega
      rw [if_neg (by omega)]
      simp (maxSteps := 10000000) only [U, tset_eq, wW, reduceCtorEq, Nat.reduceEqDiff, t3]
      have hdce : dc = l.map (.int .u64) := by
        rw [List.take_of_length_le (by omega), List.take_of_length_le (by omega)] at hDt
        exact hDt
      have hU : Sl s' (.slice (some ⟨D, 0, none⟩) (2 * i) (2 * i)) 1 l.length (l.map (.int .u64)) := by
        rw [show l.length = 2 * i by omega]
        exact ⟨_, _, rfl, by rw [List.length_map]; omega, ⟨Nat.le_refl _, fun h => (by cases h), fun x hx => by cases hx; exact .inl rfl⟩, fun _ => ⟨D, 0, none, _, _, false, rfl, rfl, hD, by rw [List.drop_zero, List.take_of_length_le (by omega)]; exact hdce⟩⟩
      exact wfin_sl hw g' hU fun s9 g9 hs9 => hk _ s9 g9 hs9
  · simp only [U, tset_eq, wW, reduceCtorEq, Nat.reduceEqDiff]
  · simp only [U, tset_eq, wW, reduceCtorEq, Nat.reduceEqDiff]
  · simp only [U, tset_eq, wW, reduceCtorEq, Nat.reduceEqDiff]; rfl
  · simp only [U, tset_eq, wW, reduceCtorEq, Nat.reduceEqDiff, e2m]
    rfl
theorem wGet {W : Nat → Prop} {k A o : Nat} {c : List Value} {l : List Int} (hk1 : 1 ≤ k ∧ k ≤ 11) (hA : acells (s.at A) = some c) (hfit : o + slotE k ≤ c.length) (hS : SlotC s W k c o l) (hlen : l.length < 2 ^ 20) (hw : Wf s) (hro : ro ≤ s.n) (hk : ∀ v s', Grew s s' → U64s s' v l → K v s') :
    CallWP P ro 57 [.agg (.mk (lstC k (ptrO A o)))] s K := by
  by_cases hd : k = 1 ∨ k = 3 ∨ k = 4 ∨ k = 5 ∨ k = 9 ∨ k = 11
  · exact wGetD hd hA hS hlen hw hro hk
  refine call_wp b57 rfl ?_
  rw [n57]
  unfold v57
  have hn0 : (ent s).n = s.n := rfl
  have hAl : A < s.n := by
    cases hc : s.at A with
    | none => rw [hc] at hA; cases hA
    | some x => exact St.at_lt hc
  unfold SlotC at hS
  unfold slotE at hfit
  by_cases he : k = 6 ∨ k = 8
  · have hl1 : lstC k (ptrO A o) = [ptrO A o, .pointer none, .pointer none, .pointer none] := by
      unfold lstC
      rw [if_pos he]
    rw [hl1]
    rw [if_neg (by omega), if_neg (by omega), if_pos he] at hS
    obtain ⟨v, hv, m, hm, hvs, _⟩ := hS
    simp (maxSteps := 10000000) only [wW, reduceCtorEq, Nat.reduceEqDiff]
    refine box_rule hw.ent fun Bx s1 m1 => ?_
    have e1 := m1.eq
    have hB1 : s1.at Bx = some (.cells [ptrO A o, .pointer none, .pointer none, .pointer none] 82 false) := m1.here
    have hA1 : acells (s1.at A) = some c := by rw [m1.grew.same A hAl]; exact hA
    simp (maxSteps := 10000000) only [wW, reduceCtorEq, Nat.reduceEqDiff, wop_load, fa_82_0, load1 ap_77, load1 ap_36, acells_some hB1, hA1, hv, Nat.zero_add, List.getElem?_cons_zero, ps77]
    have hU : Sl s1 v 1 l.length (l.map (.int .u64)) := by
      rw [show l.length = m by omega]
      exact (Sl.ent hvs).grew m1.grew.same
    exact wfin_sl hw m1.grew hU fun s9 g9 hs9 => hk _ s9 g9 hs9
  by_cases ho : k = 2 ∨ k = 7
  · have hl1 : lstC k (ptrO A o) = [.pointer none, .pointer none, ptrO A o, .pointer none] := by
      unfold lstC
      rw [if_neg he, if_pos ho]
    rw [hl1]
    rw [if_pos ho] at hS
    obtain ⟨x, rfl, hx⟩ := hS
    simp (maxSteps := 10000000) only [wW, reduceCtorEq, Nat.reduceEqDiff]
    refine box_rule hw.ent fun Bx s1 m1 => ?_
    have e1 := m1.eq
    have hB1 : s1.at Bx = some (.cells [.pointer none, .pointer none, ptrO A o, .pointer none] 82 false) := m1.here
    have hA1 : acells (s1.at A) = some c := by rw [m1.grew.same A hAl]; exact hA
    simp (maxSteps := 10000000) only [wW, reduceCtorEq, Nat.reduceEqDiff, wop_load, fa_82_0, fa_82_2, load1 ap_77, load1 ap_79, load1 ap_34, acells_some hB1, hA1, hx, Nat.zero_add, List.getElem?_cons_zero, List.getElem?_cons_succ, pn77, ps79]
    refine buildSlice_rule se_36 ty_34 m1.wf [.int .u64 x] rfl rfl (by decide) (fun v hv => by
      simp only [List.mem_cons, List.not_mem_nil, or_false] at hv
      subst hv
      rfl) fun A6 s6 m6 => ?_
    have hU : Sl s6 (.slice (some ⟨A6, 0, none⟩) 1 1) 1 1 [.int .u64 x] := m6.sl rfl
    exact wfin_sl hw (m1.grew.trans m6.grew) hU fun s9 g9 hs9 => hk _ s9 g9 hs9
  · have h10 : k = 10 := by omega
    subst h10
    rw [if_pos rfl] at hfit
    have hl1 : lstC 10 (ptrO A o) = [.pointer none, .pointer none, .pointer none, ptrO A o] := rfl
    rw [hl1]
    rw [if_neg (by omega), if_pos rfl] at hS
    obtain ⟨hl8, hget⟩ := hS
    simp (maxSteps := 10000000) only [wW, reduceCtorEq, Nat.reduceEqDiff]
    refine box_rule hw.ent fun Bx s1 m1 => ?_
    have e1 := m1.eq
    have hB1 : s1.at Bx = some (.cells [.pointer none, .pointer none, .pointer none, ptrO A o] 82 false) := m1.here
    simp (maxSteps := 10000000) only [wW, reduceCtorEq, Nat.reduceEqDiff, wop_load, fa_82_0, fa_82_2, fa_82_3, load1 ap_77, load1 ap_79, load1 ap_80, acells_some hB1, Nat.zero_add, List.getElem?_cons_zero, List.getElem?_cons_succ, pn77, pn79, ps80, slArr]
    have hU : Sl s1 (.slice (some ⟨A, o, none⟩) 8 8) 1 l.length (l.map (.int .u64)) := by
      rw [hl8]
      refine ⟨_, _, rfl, by rw [List.length_map]; omega, ⟨Nat.le_refl _, fun h => (by cases h), fun x hx => by cases hx; exact .inl rfl⟩, fun _ => ?_⟩
      cases hc : s.at A with
      | none => rw [hc] at hA; cases hA
      | some ob =>
        cases ob with
        | cells cc T op =>
          rw [hc] at hA
          simp only [acells, Option.some.injEq] at hA
          subst hA
          refine ⟨A, o, none, cc, T, op, rfl, rfl, (m1.grew.same A hAl).trans hc, List.ext_getElem? fun j => ?_⟩
          rw [List.getElem?_take]
          by_cases hj : j < 8
          · rw [if_pos (by omega), List.getElem?_drop, hget j hj, List.getElem?_map]
          · rw [if_neg (by omega), List.getElem?_eq_none (by rw [List.length_map]; omega)]
        | _ => rw [hc] at hA; cases hA
    exact wfin_sl hw m1.grew hU fun s9 g9 hs9 => hk _ s9 g9 hs9
theorem wfIs (f : Int) {v : Value} {l : List Int} (hv : U64s s v l) (hlen : l.length < 2 ^ 30) (hw : Wf s) (hro : ro ≤ s.n) (hF : FieldsAt s) : CallWP P ro 58 [.int .i64 f, v] s K = K (.bool (fIs f l)) s := by
  refine callEq (call_wp b58 rfl ?_) K
  rw [n58]
  unfold v58
  have hve : U64s (ent s) v l := Sl.ent hv
  simp (maxSteps := 10000000) only [wW, reduceCtorEq, Nat.reduceEqDiff]
  rw [Sl.wlen hve se_36]
  refine wloop l58_10100 m58_10100 (fun (i : Nat) τ ds s' => i ≤ l.length ∧ τ 0 = .int .i64 f ∧ τ 7 = v ∧ τ 8 = .int .i64 l.length ∧ τ 9 = .int .i64 i ∧ ds = [] ∧ s' = ent s ∧ ∀ x ∈ l.take i, x < fP f) (fun i => l.length - i) ?_ 0 ⟨by omega, ?_, ?_, ?_, ?_, rfl, rfl, by simp⟩
  · rintro i τ ds s' ⟨hi, t0, t7, t8, t9, rfl, rfl, hall⟩
    rw [n58_10100]
    unfold v58_10100
    simp (maxSteps := 10000000) only [wW, reduceCtorEq, Nat.reduceEqDiff, t0, t7, t8, t9]
    by_cases hlt : i < l.length
    · rw [if_pos (by omega)]
      obtain ⟨A5, o5, q1, q2, _⟩ := Sl.ix hve (by decide) (show (0 : Int) ≤ i by omega) (show (i : Int) < l.length by omega)
      have q2' := q2 0 (by decide)
      rw [Nat.add_zero, Nat.add_zero, Nat.mul_one, Int.toNat_natCast, List.getElem?_map, List.getElem?_eq_getElem hlt] at q2'
      have hld : aload P (ent s) 34 (.pointer (some ⟨A5, o5, none⟩)) = some (.int .u64 l[i]) := by
        rw [load1 ap_34]
        exact q2'
      rw [wop_indexAddr, q1 se_36 isz_34, wopt_some, wop_load, hld, wopt_some, wfP f hw.ent hro hF]
      simp (maxSteps := 10000000) only [wW, reduceCtorEq, Nat.reduceEqDiff]
      by_cases hge : l[i] ≥ fP f
      · rw [if_pos hge]
        show xleave (prims P ro) s Tryd.f58.results.toList _ .ret _ [] [] (ent s)
        rw [r58]
        simp (maxSteps := 10000000) only [U, tset_eq, wW, reduceCtorEq, Nat.reduceEqDiff]
        have hfi : fIs f l = false := by
          unfold fIs
          rw [decide_eq_false (fun h => by have := h _ (List.getElem_mem hlt); omega), Bool.false_and]
        exact fin_flat rfl (.refl _) ⟨by rw [hfi], rfl⟩
      · rw [if_neg hge]
        rw [wrap_i64 (by omega) (by omega)]
        refine ⟨i + 1, by omega, by omega, ?_, ?_, ?_, ?_, by first | trivial | rfl, by first | trivial | rfl, fun x hx => ?_⟩
        · simp only [U, tset_eq, wW, reduceCtorEq, Nat.reduceEqDiff, t0]
        · simp only [U, tset_eq, wW, reduceCtorEq, Nat.reduceEqDiff, t7]
        · simp only [U, tset_eq, wW, reduceCtorEq, Nat.reduceEqDiff, t8]
        · simp only [U, tset_eq, wW, reduceCtorEq, Nat.reduceEqDiff]; rfl
        · rw [take_succ_eq (List.getElem?_eq_getElem hlt)] at hx
          rcases List.mem_append.1 hx with h | h
          · exact hall x h
          · simp only [List.mem_cons, List.not_mem_nil, or_false] at h
            subst h; omega
    · obtain rfl : i = l.length := by omega
      rw [if_neg (by omega)]
      rw [List.take_length] at hall
      simp (maxSteps := 10000000) only [U, tset_eq, wW, reduceCtorEq, Nat.reduceEqDiff, t0]
      rw [wfValid]
      have hfi : fIs f l = fV f := by
        unfold fIs
        rw [decide_eq_true hall, Bool.true_and]
      exact fin_flat rfl (.refl _) ⟨by rw [hfi], rfl⟩
  · simp only [U, tset_eq, wW, reduceCtorEq, Nat.reduceEqDiff]
  · simp only [U, tset_eq, wW, reduceCtorEq, Nat.reduceEqDiff]
  · first | (simp only [U, tset_eq, wW, reduceCtorEq, Nat.reduceEqDiff]; done) | (simp only [U, tset_eq, wW, reduceCtorEq, Nat.reduceEqDiff]; rfl)
  · first | (simp only [U, tset_eq, wW, reduceCtorEq, Nat.reduceEqDiff]; done) | (simp only [U, tset_eq, wW, reduceCtorEq, Nat.reduceEqDiff]; rfl)
end
end Go.VE
/- proof.Fits: its parts. -/
namespace Go.VE
open Go Go.Proofs
set_option maxRecDepth 20000
def gOf (g : Nat → Nat → Nat → List Int) (x : Prt) : List Int := g x.k.toNat x.q.toNat x.i.toNat
def fitX (f : Int) (g : Nat → Nat → Nat → List Int) (x : Prt) : Bool := decide (((gOf g x).length : Int) = x.n) && fIs f (gOf g x)
def fitsB (h : Shp) (g : Nat → Nat → Nat → List Int) : Bool := (partsAll h).all (fitX h.f g)
section
variable {s s' : St} {W : Nat → Prop} {cs : List Value} {B : PfB} {R Q : Nat} {g : Nat → Nat → Nat → List Int}
theorem PfAt.keep (h : PfAt s W cs B R Q g) (hn : s.n ≤ s'.n) (hs : ∀ X, X < s.n → s'.at X = s.at X) : PfAt s' W cs B R Q g := by
  have e : ∀ A c T op, s.at A = some (.cells c T op) → s'.at A = some (.cells c T op) := fun A c T op h => (hs A (St.at_lt h)).trans h
  obtain ⟨c1, h1, h2⟩ := h.rb
  obtain ⟨c2, h3, h4, h5⟩ := h.ob
  refine ⟨h.cl, h.c4, h.c7, ⟨c1, e _ _ _ _ h1, h2⟩, ⟨c2, e _ _ _ _ h3, h4, h5⟩, fun j hj => ?_, h.ne, h.nef, h.w, fun k q i ok => ?_⟩
  · obtain ⟨c3, h6, h7⟩ := h.fb j hj
    exact ⟨c3, e _ _ _ _ h6, h7⟩
  · obtain ⟨c, hc, hS⟩ := h.sl k q i ok
    refine ⟨c, ?_, hS.mono hn (fun A hA _ => hs A hA) fun _ _ => rfl⟩
    cases hp : (slotA B k q i).1 with
    | none => rw [hp] at hc; exact hc
    | some A =>
      rw [hp] at hc
      have hc : acells (s.at A) = some c := hc
      show acells (s'.at A) = some c
      cases hA : s.at A with
      | none => rw [hA] at hc; cases hc
      | some o => rw [hs A (St.at_lt hA)]; exact hc
theorem PfAt.at (h : PfAt s W cs B R Q g) {Pb : Nat} (hPb : s.at Pb = some (.cells cs 39 false)) {k q i : Nat} (ok : OkS R Q k q i) : ∃ c, acells (s.at ((slotA B k q i).1.getD Pb)) = some c ∧ (slotA B k q i).2 + slotE k ≤ c.length ∧ SlotC s W k c (slotA B k q i).2 (g k q i) := by
  obtain ⟨c, hc, hS⟩ := h.sl k q i ok
  refine ⟨c, ?_, h.fit ok hc, hS⟩
  cases hp : (slotA B k q i).1 with
  | none =>
    rw [hp] at hc
    simp only [cellsAt, Option.some.injEq] at hc
    subst hc
    exact acells_some hPb
  | some A =>
    rw [hp] at hc
    exact hc
end
section
variable {ro : Nat} {s : St} {K : Value → St → Prop} {W : Nat → Prop} {cs : List Value} {B : PfB} {R Q : Nat} {g : Nat → Nat → Nat → List Int} {h : Shp}
theorem wFoldsOk {C : Nat} (hC : s.at C = some (.cells h.cells 23 false)) (hp : PfAt s W cs B R Q g) (hR : (R : Int) = shR h) (ha : 0 ≤ h.a ∧ h.a ≤ 100) (hQ : Q ≤ 100) (hw : Wf s) (hro : ro ≤ s.n) :
    CallWP P ro 55 [.slice (some ⟨B.ob, 0, none⟩) Q Q, .func (.func 56) (.mk []) (.mk [ptr C])] s K = K (.bool false) s := by
  refine callEq (call_wp b55 rfl ?_) K
  rw [n55]
  unfold v55
  simp (maxSteps := 10000000) only [wW, reduceCtorEq, Nat.reduceEqDiff]
  obtain ⟨oc, ho, hol, hof⟩ := hp.ob
  have hidx : ∀ {K : Value → St → Prop}, CallWP P ro 91 [.slice (some ⟨B.ob, 0, none⟩) Q Q, .func (.func 56) (.mk []) (.mk [ptr C])] (ent s) K = K (.int .i64 (-1)) (ent s) := fun {K} => by
    refine callEq (call_wp b91 rfl ?_) K
    rw [n91]
    unfold v91
    simp (maxSteps := 10000000) only [wW, reduceCtorEq, Nat.reduceEqDiff, wop_len se_37]
    refine wloop l91_10100 m91_10100 (fun (i : Nat) τ ds s' => i ≤ Q ∧ τ 0 = .slice (some ⟨B.ob, 0, none⟩) Q Q ∧ τ 1 = .func (.func 56) (.mk []) (.mk [ptr C]) ∧ τ 7 = .int .i64 Q ∧ τ 8 = .int .i64 i ∧ ds = [] ∧ s' = ent (ent s)) (fun i => Q - i) ?_ 0 ⟨by omega, ?_, ?_, ?_, ?_, rfl, rfl⟩
    · rintro i τ ds s' ⟨hi, t0, t1, t7, t8, rfl, rfl⟩
      rw [n91_10100]
      unfold v91_10100
      simp (maxSteps := 10000000) only [wW, reduceCtorEq, Nat.reduceEqDiff, t0, t1, t7, t8]
      by_cases hlt : i < Q
      · rw [if_pos (by omega), wop_indexAddr, ixOp (by omega) (by omega), wopt_some, Int.toNat_natCast]
        have ho' : (ent (ent s)).at B.ob = some (.cells oc 59 false) := ho
        have hcut : cut oc (13 * i) 13 = some ((oc.drop (13 * i)).take 13) := cut_eq (by omega)
        rw [wop_load, load_part ap_59 ho' hcut, wopt_some]
        have hC' : (ent (ent s)).at C = some (.cells h.cells 23 false) := hC
        have hweq : Wf (ent (ent s)) := hw.ent.ent
        have hcall : ∀ {K : Value → St → Prop}, CallWP P ro 56 [.agg (.mk ((oc.drop (13 * i)).take 13)), ptr C] (ent (ent s)) K = K (.bool false) (ent (ent s)) := fun {K} => by
          refine callEq (call_wp b56 rfl ?_) K
          rw [n56]
          unfold v56
          simp (maxSteps := 10000000) only [wW, reduceCtorEq, Nat.reduceEqDiff]
          refine box_rule hweq.ent fun E s1 m1 => ?_
          have e1 := m1.eq
          have hCl := St.at_lt hC'
          have hE : s1.at E = some (.cells ((oc.drop (13 * i)).take 13) 59 false) := m1.here
          have h12 : ((oc.drop (13 * i)).take 13)[12]? = some (.slice (some ⟨B.fb i, 0, none⟩) R R) := by
            rw [List.getElem?_take, if_pos (by decide), List.getElem?_drop]
            exact hof i hlt
          have hsv : veq (.slice (some ⟨B.fb i, 0, none⟩) R R) (.slice (some ⟨B.fb i, 0, none⟩) R R) = true := by simp [veq]
          have hveq : veq (.agg (.mk h.cells)) (.agg (.mk h.cells)) = true := by simp [veq, veqA, veqL, Shp.cells]
          have hC1 : s1.at C = some (.cells h.cells 23 false) := (m1.grew.same C hCl).trans hC'
          simp (maxSteps := 10000000) only [wW, reduceCtorEq, Nat.reduceEqDiff, wop_load, fa_59_12, load1 ap_57, acells_some hE, Nat.zero_add, h12, hsv, true_and, wop_len se_57]
          rw [load_all ap_23 hC1 rfl, wopt_some]
          refine ⟨hveq, ?_⟩
          rw [wGRounds h ha m1.wf]
          refine ⟨.refl _, ?_⟩
          simp (maxSteps := 10000000) only [wW, reduceCtorEq, Nat.reduceEqDiff]
          rw [decide_eq_true hR]
          exact fin_flat rfl m1.grew ⟨rfl, rfl⟩
        show CallWP P ro 56 [.agg (.mk ((oc.drop (13 * i)).take 13)), ptr C] (ent (ent s)) _
        rw [hcall, wdec_false]
        rw [wrap_i64 (by omega) (by omega)]
        refine ⟨i + 1, by omega, by omega, ?_, ?_, ?_, ?_, by first | trivial | rfl, by first | trivial | rfl⟩
        · simp only [U, tset_eq, wW, reduceCtorEq, Nat.reduceEqDiff, t0]
        · simp only [U, tset_eq, wW, reduceCtorEq, Nat.reduceEqDiff, t1]
        · simp only [U, tset_eq, wW, reduceCtorEq, Nat.reduceEqDiff, t7]
        · simp only [U, tset_eq, wW, reduceCtorEq, Nat.reduceEqDiff]; rfl
      · obtain rfl : i = Q := by omega
        rw [if_neg (by omega)]
        exact fin_flat rfl (.refl _) ⟨rfl, rfl⟩
    · simp only [U, tset_eq, wW, reduceCtorEq, Nat.reduceEqDiff]
    · simp only [U, tset_eq, wW, reduceCtorEq, Nat.reduceEqDiff]
    · first | (simp only [U, tset_eq, wW, reduceCtorEq, Nat.reduceEqDiff]; done) | (simp only [U, tset_eq, wW, reduceCtorEq, Nat.reduceEqDiff]; rfl)
    · first | (simp only [U, tset_eq, wW, reduceCtorEq, Nat.reduceEqDiff]; done) | (simp only [U, tset_eq, wW, reduceCtorEq, Nat.reduceEqDiff]; rfl)
  rw [hidx]
  simp (maxSteps := 10000000) only [wW, reduceCtorEq, Nat.reduceEqDiff]
  exact fin_flat rfl (.refl _) ⟨rfl, rfl⟩
end
end Go.VE
/- proof.Fits. -/
namespace Go.VE
open Go Go.Proofs
set_option maxRecDepth 20000
structure FtJ (s0 : St) (h : Shp) (cs : List Value) (g : Nat → Nat → Nat → List Int) (C E T L D : Nat) (r0 : Lp) (i : Nat) (M : List Nat) (s : St) : Prop where
  wf : Wf s
  n : s0.n ≤ s.n
  same : ∀ A, A < s0.n → s.at A = s0.at A
  lo : s0.n ≤ s.lo
  loop : s.at L = some (.loop r0)
  dfr : s.at D = some (.defd (some []))
  c : s.at C = some (.cells h.cells 23 false)
  e : s.at E = some (.cells cs 39 false)
  t : s.at T = some (.cells [.bool false] 4 false)
  good : ∀ x ∈ (partsAll h).take i, fitX h.f g x = true
  m : M = [L]
structure FtS (s0 : St) (h : Shp) (g : Nat → Nat → Nat → List Int) (T L D : Nat) (r0 : Lp) (s : St) : Prop where
  wf : Wf s
  n : s0.n ≤ s.n
  lo : s0.n ≤ s.lo
  same : ∀ A, A < s0.n → s.at A = s0.at A
  loop : s.at L = some (.loop { r0 with state := .done, pending := some .ret })
  dfr : s.at D = some (.defd (some []))
  t : s.at T = some (.cells [.bool false] 4 false)
  bad : fitsB h g = false
section
variable {s0 : St} {h : Shp} {cs : List Value} {g : Nat → Nat → Nat → List Int} {C E T L D : Nat} {r0 : Lp}
theorem FtJ.cli : Cli L r0 (FtJ s0 h cs g C E T L D r0) where
  loop := fun h => h.loop
  wf := fun h => h.wf
  lt := fun h A hA => by
    rw [h.m] at hA
    simp only [List.mem_cons, List.not_mem_nil, or_false] at hA
    subst hA
    exact St.at_lt h.loop
  grew := fun h g w => by
    have e : ∀ A o, _ = some o → _ = some o := fun A o he => (g.same A (St.at_lt he)).trans he
    have hn := h.n
    exact ⟨w, Nat.le_trans h.n g.n, fun A hA => (g.same A (by omega)).trans (h.same A hA), by rw [g.lo]; exact h.lo, e _ _ h.loop, e _ _ h.dfr, e _ _ h.c, e _ _ h.e, e _ _ h.t, h.good, h.m⟩
theorem fitsB_false {i : Nat} (hi : i < (partsAll h).length) (hx : fitX h.f g (partsAll h)[i] = false) : fitsB h g = false := by
  unfold fitsB
  cases hb : (partsAll h).all (fitX h.f g) with
  | false => rfl
  | true =>
    have := List.all_eq_true.1 hb _ (List.getElem_mem hi)
    rw [hx] at this
    cases this
end
section
variable {ro : Nat} {s : St} {K : Value → St → Prop} {W : Nat → Prop} {cs : List Value} {B : PfB} {Q : Nat} {g : Nat → Nat → Nat → List Int} {h : Shp}
theorem ftRound {s0 s' : St} {C E T L D : Nat} {lp : Lp} {t : Tr} {τ : Tau} (ht : Agr 53 t τ) (hlp : lp.state = .ready ∧ lp.pending = none ∧ lp.t = t ∧ lp.params = [32] ∧ lp.assign = c22_1110100 ∧ lp.body = c22_1110101)
    (t2 : τ 2 = ptr C) (t3 : τ 3 = ptr E) (t4 : τ 4 = ptr T) (hp : PfAt s0 W cs B (shR h).toNat h.q.toNat g) (hv : shV h = true) (hg : ∀ k q i, (g k q i).length < 2 ^ 20) (hF : FieldsAt s0) (hro : ro ≤ s0.n)
    (hne : s0.n ≤ C ∧ s0.n ≤ E ∧ s0.n ≤ T ∧ s0.n ≤ L ∧ s0.n ≤ D ∧ C ≠ L ∧ E ≠ L ∧ T ≠ L ∧ D ≠ L ∧ D ≠ T) {i : Nat} {M : List Nat} (hi : i < (partsAll h).length) (hJ : FtJ s0 h cs g C E T L D lp i M s') :
    RoundWP P ro L (setAll lp.t lp.params [.agg (.mk ((partsAll h)[i]).cells)]) lp.assign lp.body s' fun v s2 => (v = .bool true ∧ s2.lo ≤ L ∧ ∃ M', FtJ s0 h cs g C E T L D lp (i + 1) M' s2 ∧ Step M s' M' s2) ∨ (v = .bool false ∧ s2.lo ≤ L ∧ FtS s0 h g T L D lp s2) := by
  rw [hlp.2.2.1, hlp.2.2.2.1, hlp.2.2.2.2.1, hlp.2.2.2.2.2]
  have hLl := St.at_lt hJ.loop
  have hCl := St.at_lt hJ.c
  have hEl := St.at_lt hJ.e
  have hTl := St.at_lt hJ.t
  have hDl := St.at_lt hJ.dfr
  have hJn := hJ.n
  obtain ⟨k, q, ix, n, hx, ok, hn20, hln⟩ := partsAll_ok hv (partsAll h)[i] (List.getElem_mem hi)
  have hgx : gOf g (partsAll h)[i] = g k q ix := by rw [hx]; rfl
  refine round_wp (N := 53) (Agr.set ht 32 _ (by decide)) l22_1110100 l22_1110101 (by omega) ?_
  rw [n22_1110100]
  unfold v22_1110100
  simp (maxSteps := 10000000) only [U, tset_eq, wW, reduceCtorEq, Nat.reduceEqDiff, hx]
  refine alloc_rule ty_30 hJ.wf fun E4 s4 m4 => ?_
  have e4 := m4.eq
  have n4 := m4.n
  refine storeAll_rule isz_30 m4.here (l := Prt.cells ⟨k, q, ix, n⟩) rfl (by decide) m4.wf (by omega) rfl rfl fun s5 p5 => ?_
  have n5 := p5.n
  have g5 : Grew s' s5 := p5.grew _ hJ.wf m4.grew (by omega)
  have hL5 := (g5.same _ hLl).trans hJ.loop
  refine ⟨lp, hL5, hlp.1, ?_⟩
  have pb := Put.mk' p5.wf (St.at_lt hL5) (.loop { lp with state := .busy })
  generalize s5.put L (.loop { lp with state := .busy }) = sb at pb ⊢
  have nb := pb.n
  rw [n22_1110101]
  unfold v22_1110101
  have hE4 : sb.at E4 = some (.cells (Prt.cells ⟨k, q, ix, n⟩) 30 false) := (pb.rest E4 (by omega)).trans p5.here
  have hCb := (pb.rest C hne.2.2.2.2.2.1).trans ((g5.same C hCl).trans hJ.c)
  have hEb := (pb.rest E hne.2.2.2.2.2.2.1).trans ((g5.same E hEl).trans hJ.e)
  have hTb := (pb.rest T hne.2.2.2.2.2.2.2.1).trans ((g5.same T hTl).trans hJ.t)
  have hDb := (pb.rest D hne.2.2.2.2.2.2.2.2.1).trans ((g5.same D hDl).trans hJ.dfr)
  have hoth : ∀ A, A < s'.n → A ≠ L → sb.at A = s'.at A := fun A h1 h2 => (pb.rest A h2).trans (g5.same A h1)
  have hold : ∀ A, A < s0.n → sb.at A = s0.at A := fun A hA => (hoth A (by omega) (by omega)).trans (hJ.same A hA)
  have hpb : PfAt sb W cs B (shR h).toNat h.q.toNat g := hp.keep (by omega) hold
  have hFb : FieldsAt sb := by
    obtain ⟨x0, x1, x2, x3, n0, n1, n2, n3, c0, c1, c2, c3, t, op, hf⟩ := hF
    exact ⟨x0, x1, x2, x3, n0, n1, n2, n3, c0, c1, c2, c3, t, op, (hold 0 (St.at_lt hf)).trans hf⟩
  have hx0 : (Prt.cells ⟨k, q, ix, n⟩)[0]? = some (.int .u8 k) := rfl
  have hx3 : (Prt.cells ⟨k, q, ix, n⟩)[3]? = some (.int .i64 n) := rfl
  have hki : veq (.int .u8 (k : Int)) (.int .u8 (k : Int)) = true := by simp [veq]
  have hxv : veq (.agg (.mk (Prt.cells ⟨k, q, ix, n⟩))) (.agg (.mk (Prt.cells ⟨k, q, ix, n⟩))) = true := by simp [veq, veqA, veqL, Prt.cells]
  have hvf : ∀ f, veq (fnV f) (fnV f) = true := fun f => by simp [veq, veqA, veqL]
  simp (maxSteps := 10000000) only [U, tset_eq, wW, reduceCtorEq, Nat.reduceEqDiff, t2, t3, t4, fa_30_0, wop_load, load1 ap_28, acells_some hE4, Nat.zero_add, hx0, hki, true_and]
  rw [load_all ap_30 hE4 rfl, wopt_some]
  refine ⟨hxv, ?_⟩
  refine wPlaces pb.wf fun Ap s8 g8 w8 hAp => ?_
  refine ⟨g8.keeps, ?_⟩
  have hn8 := g8.n
  have hk1 := ok.k1
  have hpix : aindexAddr P 84 (.slice (some ⟨Ap, 0, none⟩) 12 12) (.int .u8 (k : Int)) = some (ptrO Ap k) := by
    simp only [aindexAddr, un_84, isz_83, Option.bind_some, aplace]
    rw [if_pos ⟨by omega, by omega⟩, Int.toNat_natCast, Nat.mul_one, Nat.zero_add]
  have hE8 := (g8.same E (by omega)).trans hEb
  have hp8 := hpb.grew g8
  obtain ⟨f, hf, hcall⟩ := wPl (ro := ro) (n := n) hE8 hp8 ok w8 (by omega)
  rw [wop_indexAddr, hpix, wopt_some, load1 ap_83, acells_some hAp, Option.bind_some, hf, wopt_some]
  refine ⟨hvf f, ?_⟩
  show CallWP P ro f [ptr E, .agg (.mk (Prt.cells ⟨k, q, ix, n⟩))] s8 _
  refine hcall _ fun s9 g9 w9 => ?_
  have hn9 := g9.n
  have g89 := g8.trans g9
  have hE9 := (g89.same E (by omega)).trans hEb
  have hp9 := hpb.grew g89
  obtain ⟨c, hc, hfit, hS⟩ := hp9.at hE9 ok
  refine wGet hk1 hc hfit hS (hg k q ix) w9 (by omega) fun v sx gx hU => ?_
  have wx := w9.grew gx
  have nx := gx.n
  have gbx := g89.trans gx
  have hE4x := (gbx.same E4 (by omega)).trans hE4
  have hCx := (gbx.same C (by omega)).trans hCb
  have hTx := (gbx.same T (by omega)).trans hTb
  have hLx := (gbx.same L (by omega)).trans pb.here
  have hDx := (gbx.same D (by omega)).trans hDb
  have hFx : FieldsAt sx := by
    obtain ⟨x0, x1, x2, x3, n0, n1, n2, n3, c0, c1, c2, c3, t, op, hf⟩ := hFb
    exact ⟨x0, x1, x2, x3, n0, n1, n2, n3, c0, c1, c2, c3, t, op, (gbx.same 0 (St.at_lt hf)).trans hf⟩
  have hlo : sx.lo = min s'.lo L := by rw [gbx.lo, pb.lo, g5.lo]
  have hJlo := hJ.lo
  have hc0 : h.cells[0]? = some (.int .i64 h.f) := rfl
  rw [Sl.wlen hU se_36]
  simp (maxSteps := 10000000) only [wW, reduceCtorEq, Nat.reduceEqDiff, fa_30_3, wop_load, load1 ap_3, acells_some hE4x, Nat.zero_add, hx3]
  have hstop : fitX h.f g (partsAll h)[i] = false → ∀ (K : Value → St → Prop), (∀ s2, (s2.lo ≤ L ∧ FtS s0 h g T L D lp s2) → K (.bool false) s2) → wop P ro (.store 4 (.const (ptr T)) (.const (.bool false))) 0 sx fun _ s2 => ∃ r, s2.at L = some (.loop r) ∧ K (.bool false) (s2.put L (.loop { r with state := .done, pending := some .ret })) := fun hbad K hK => by
    refine store1_rule isz_4 hTx wx (by omega) (by simp) rfl fun s6 p6 => ?_
    have n6 := p6.n
    have hL6 := (p6.rest L (fun e => hne.2.2.2.2.2.2.2.1 e.symm)).trans hLx
    refine ⟨_, hL6, hK _ ⟨?_, ?_⟩⟩
    · show min s6.lo L ≤ L
      exact Nat.min_le_right _ _
    · have pf := Put.mk' p6.wf (St.at_lt hL6) (.loop { lp with state := .done, pending := some .ret })
      show FtS s0 h g T L D lp (s6.put L (.loop { lp with state := .done, pending := some .ret }))
      generalize s6.put L (.loop { lp with state := .done, pending := some .ret }) = sf at pf ⊢
      have nf := pf.n
      refine ⟨pf.wf, by omega, ?_, fun A hA => ?_, pf.here, ?_, ?_, fitsB_false hi hbad⟩
      · rw [pf.lo, p6.lo, hlo]; omega
      · rw [pf.rest A (by omega), p6.rest A (by omega), gbx.same A (by omega)]
        exact hold A hA
      · rw [pf.rest D hne.2.2.2.2.2.2.2.2.1, p6.rest D hne.2.2.2.2.2.2.2.2.2]
        exact hDx
      · rw [pf.rest T hne.2.2.2.2.2.2.2.1]
        exact p6.here
  by_cases hlen : ((g k q ix).length : Int) = n
  · rw [if_neg (fun h => h hlen)]
    simp (maxSteps := 10000000) only [wW, reduceCtorEq, Nat.reduceEqDiff, fa_23_0, wop_load, load1 ap_3, acells_some hCx, Nat.zero_add, hc0]
    show CallWP P ro 58 [.int .i64 h.f, v] sx _
    rw [wfIs h.f hU (by have := hg k q ix; omega) wx (by omega) hFx]
    simp (maxSteps := 10000000) only [wW, reduceCtorEq, Nat.reduceEqDiff]
    by_cases hfi : fIs h.f (g k q ix) = true
    · rw [hfi]
      simp (maxSteps := 10000000) only [wW, reduceCtorEq, Nat.reduceEqDiff]
      refine ⟨_, hLx, .inl ⟨rfl, ?_, [L], ?_, ?_⟩⟩
      · show min sx.lo L ≤ L
        exact Nat.min_le_right _ _
      · have elp : ({ lp with state := .ready, pending := none } : Lp) = lp := by
          obtain ⟨a, b, _⟩ := hlp
          cases lp
          simp only at a b
          subst a b
          rfl
        have pf := Put.mk' wx (St.at_lt hLx) (.loop lp)
        show FtJ s0 h cs g C E T L D lp (i + 1) _ (sx.put L (.loop { lp with state := .ready, pending := none }))
        rw [elp]
        generalize sx.put L (.loop lp) = sf at pf ⊢
        have nf := pf.n
        refine ⟨pf.wf, by omega, fun A hA => ?_, ?_, pf.here, ?_, ?_, ?_, ?_, fun x hx' => ?_, rfl⟩
        · rw [pf.rest A (by omega), gbx.same A (by omega)]
          exact hold A hA
        · rw [pf.lo, hlo]; omega
        · rw [pf.rest D hne.2.2.2.2.2.2.2.2.1]; exact hDx
        · rw [pf.rest C hne.2.2.2.2.2.1]; exact hCx
        · rw [pf.rest E hne.2.2.2.2.2.2.1]; exact (gx.same E (by omega)).trans hE9
        · rw [pf.rest T hne.2.2.2.2.2.2.2.1]; exact hTx
        · rw [take_succ_eq (List.getElem?_eq_getElem hi)] at hx'
          rcases List.mem_append.1 hx' with h1 | h1
          · exact hJ.good x h1
          · simp only [List.mem_cons, List.not_mem_nil, or_false] at h1
            subst h1
            unfold fitX
            rw [hgx, hfi, Bool.and_true]
            have : (partsAll h)[i].n = n := by rw [hx]
            rw [this]
            exact decide_eq_true hlen
      · have nf : (sx.put L (.loop { lp with state := if (jumpOf .normal).isNone = true then .ready else .done, pending := jumpOf .normal })).n = sx.n := rfl
        rw [hJ.m]
        refine ⟨by rw [nf]; omega, fun A hA1 hA2 => ?_, fun A hA1 => .inl hA1⟩
        simp only [List.mem_cons, List.not_mem_nil, or_false] at hA2
        rw [at_put' _ _ _ _ (St.at_lt hLx) wx.len, if_neg hA2, gbx.same A (by omega)]
        exact hoth A hA1 hA2
    · have hfi' : fIs h.f (g k q ix) = false := by simpa using hfi
      rw [hfi']
      simp (maxSteps := 10000000) only [wW, reduceCtorEq, Nat.reduceEqDiff]
      refine hstop ?_ (fun v s2 => (v = .bool true ∧ s2.lo ≤ L ∧ ∃ M', FtJ s0 h cs g C E T L D lp (i + 1) M' s2 ∧ Step M s' M' s2) ∨ (v = .bool false ∧ s2.lo ≤ L ∧ FtS s0 h g T L D lp s2)) fun s2 hs2 => Or.inr ⟨rfl, hs2⟩
      unfold fitX
      rw [hgx, hfi', Bool.and_false]
  · rw [if_pos hlen]
    refine hstop ?_ (fun v s2 => (v = .bool true ∧ s2.lo ≤ L ∧ ∃ M', FtJ s0 h cs g C E T L D lp (i + 1) M' s2 ∧ Step M s' M' s2) ∨ (v = .bool false ∧ s2.lo ≤ L ∧ FtS s0 h g T L D lp s2)) fun s2 hs2 => Or.inr ⟨rfl, hs2⟩
    unfold fitX
    rw [hgx]
    have : (partsAll h)[i].n = n := by rw [hx]
    rw [this, decide_eq_false hlen, Bool.false_and]
end
end Go.VE
/- proof.Fits. -/
namespace Go.VE
open Go Go.Proofs
set_option maxRecDepth 20000
section
variable {ro : Nat} {s : St} {K : Value → St → Prop} {W : Nat → Prop} {cs : List Value} {B : PfB} {Q : Nat} {g : Nat → Nat → Nat → List Int}
theorem veqAgg {l : List Value} (h : ∀ v ∈ l, veq v v = true) : veq (.agg (.mk l)) (.agg (.mk l)) = true := by
  simp only [veq, veqA]
  induction l with
  | nil => rfl
  | cons v l ih =>
    simp only [veqL, h v List.mem_cons_self, Bool.true_and]
    exact ih fun x hx => h x (List.mem_cons_of_mem _ hx)
theorem veqSl (A o : Nat) (sp : Option Nat) (n c : Nat) : veq (.slice (some ⟨A, o, sp⟩) n c) (.slice (some ⟨A, o, sp⟩) n c) = true := by simp [veq]
theorem veqShp (h : Shp) : veq (.agg (.mk h.cells)) (.agg (.mk h.cells)) = true := by simp [veq, veqA, veqL, Shp.cells]
theorem shV_bd {h : Shp} (hv : shV h = true) : (0 ≤ h.a ∧ h.a ≤ 100) ∧ 0 ≤ shR h ∧ shR h ≤ 100 ∧ 1 ≤ h.q ∧ h.q ≤ 64 := by
  have hv' := hv
  unfold shV inR at hv'
  simp only [Bool.and_eq_true, decide_eq_true_eq] at hv'
  have h1 : 0 ≤ h.a ∧ h.a ≤ 100 := by omega
  have h2 : 1 ≤ h.q ∧ h.q ≤ 64 := by omega
  have h3 : 0 ≤ shR h ∧ shR h ≤ 100 := by unfold shR; omega
  exact ⟨h1, h3.1, h3.2, h2.1, h2.2⟩
theorem wFits (h : Shp) (hv : shV h = true) (hp : PfAt s W cs B (shR h).toNat h.q.toNat g) (hg : ∀ k q i, (g k q i).length < 2 ^ 20) (hw : Wf s) (hro : ro ≤ s.n) (hF : FieldsAt s) : CallWP P ro 22 [.agg (.mk h.cells), .agg (.mk cs)] s K = K (.bool (fitsB h g)) s := by
  refine callEq (call_wp b22 rfl ?_) K
  rw [n22]
  unfold v22
  simp (maxSteps := 10000000) only [wW, reduceCtorEq, Nat.reduceEqDiff]
  refine box_rule hw.ent fun C s1 m1 => ?_
  refine box_rule m1.wf fun E s2 m2 => ?_
  have e1 := m1.eq
  have n1 := m1.n
  have e2 := m2.eq
  have n2 := m2.n
  refine alloc_rule ty_4 m2.wf fun T s3 m3 => ?_
  have e3 := m3.eq
  have n3 := m3.n
  have hn0 : (ent s).n = s.n := rfl
  have g03 : Grew (ent s) s3 := (m1.grew.trans m2.grew).trans m3.grew
  have hC3 : s3.at C = some (.cells h.cells 23 false) := ((m2.grew.trans m3.grew).same C (by omega)).trans m1.here
  have hE3 : s3.at E = some (.cells cs 39 false) := (m3.grew.same E (by omega)).trans m2.here
  have hbd := shV_bd hv
  have hp0 : PfAt (ent s) W cs B (shR h).toNat h.q.toNat g := hp.keep (s' := ent s) (Nat.le_refl _) fun _ _ => rfl
  have hp3 := hp0.grew g03
  have hF3 : FieldsAt s3 := FieldsAt.grew (s := ent s) hF g03
  rw [wop_load, load_all ap_23 hC3 rfl, wopt_some]
  refine ⟨veqShp h, ?_⟩
  rw [wHValid h m3.wf (by omega) hF3, hv]
  have hc4 : h.cells[4]? = some (.int .i64 h.q) := rfl
  have hvq : veq (.int .i64 h.q) (.int .i64 h.q) = true := by simp [veq]
  simp (maxSteps := 10000000) only [wW, reduceCtorEq, Nat.reduceEqDiff, wop_load, fa_39_4, load1 ap_35, acells_some hE3, Nat.zero_add, hp.c4, veqSl, true_and, wop_len se_35]
  rw [load_all ap_23 hC3 rfl, wopt_some]
  refine ⟨veqShp h, ?_⟩
  rw [wGRounds h hbd.1 m3.wf]
  refine ⟨.refl _, ?_⟩
  simp (maxSteps := 10000000) only [wW, reduceCtorEq, Nat.reduceEqDiff]
  rw [if_neg (by omega)]
  simp (maxSteps := 10000000) only [wW, reduceCtorEq, Nat.reduceEqDiff, wop_load, fa_39_7, load1 ap_37, acells_some hE3, Nat.zero_add, hp.c7, veqSl, true_and, wop_len se_37, fa_23_4, load1 ap_3, acells_some hC3, hc4, hvq]
  rw [if_neg (by omega)]
  rw [wFoldsOk hC3 hp3 (by omega) hbd.1 (by omega) m3.wf (by omega)]
  simp (maxSteps := 10000000) only [wW, reduceCtorEq, Nat.reduceEqDiff]
  rw [load_all ap_23 hC3 rfl, wopt_some]
  refine wAllFn h m3.wf fun B9 s4 g4 hB9 hB9n => ?_
  have n4 := g4.n
  have w4 := m3.wf.grew g4
  have hB9l := St.at_lt hB9
  refine wrange (by omega) fun t ht => ?_
  have g5 : Grew s4 (s4.new (.defd (some []))) := .new _ _
  generalize hr0 : ({ state := .ready, pending := none, t := t, params := #[32].toList, assign := c22_1110100, body := c22_1110101, defers := s4.n } : Lp) = lp
  have g6 : Grew (s4.new (.defd (some []))) ((s4.new (.defd (some []))).new (.loop lp)) := .new _ _
  have hD6 : ((s4.new (.defd (some []))).new (.loop lp)).at s4.n = some (.defd (some [])) := (g6.same s4.n (Nat.lt_succ_self s4.n)).trans (at_newest _ _)
  have hL6 : ((s4.new (.defd (some []))).new (.loop lp)).at (s4.n + 1) = some (.loop lp) := at_newest (s4.new (.defd (some []))) _
  have w6 : Wf ((s4.new (.defd (some []))).new (.loop lp)) := (w4.new _).new _
  have n6 : ((s4.new (.defd (some []))).new (.loop lp)).n = s4.n + 2 := rfl
  have g46 := g5.trans g6
  have hlp : lp.state = .ready ∧ lp.pending = none ∧ lp.t = t ∧ lp.params = [32] ∧ lp.assign = c22_1110100 ∧ lp.body = c22_1110101 := by rw [← hr0]; exact ⟨rfl, rfl, rfl, rfl, rfl, rfl⟩
  clear hr0
  generalize (s4.new (.defd (some []))).new (.loop lp) = s6 at *
  have g06 := g03.trans (g4.trans g46)
  have g36 := g4.trans g46
  have hlo6 : s6.lo = s.n := g06.lo
  have elp : ({ lp with state := .ready, pending := none } : Lp) = lp := by
    obtain ⟨a, b, _⟩ := hlp
    cases lp
    simp only at a b
    subst a b
    rfl
  have hT3 : s3.at T = some (.cells [.bool false] 4 false) := m3.here
  refine wAllJ (h := h) lp (FtJ (ent s) h cs g C E T (s4.n + 1) s4.n lp) (FtS (ent s) h g T (s4.n + 1) s4.n lp) hv ((g46.same B9 hB9l).trans hB9) (by rw [hlp.2.2.2.1]; rfl) FtJ.cli (by omega) (by omega) (fun i M s' hi hJ => ?_) (M0 := [s4.n + 1]) ?_ ?_ (fun M s' hJ => ?_) (fun s' hS => ?_)
  · refine ftRound ht hlp ?_ ?_ ?_ hp0 hv hg hF (by omega) ⟨by omega, by omega, by omega, by omega, by omega, by omega, by omega, by omega, by omega, by omega⟩ hi hJ
    · simp only [U, tset_eq, wW, reduceCtorEq, Nat.reduceEqDiff]
    · simp only [U, tset_eq, wW, reduceCtorEq, Nat.reduceEqDiff]
    · simp only [U, tset_eq, wW, reduceCtorEq, Nat.reduceEqDiff]
  · refine ⟨w6.ent, by show s.n ≤ s6.n; omega, fun A hA => g06.same A hA, by show s.n ≤ s6.n; omega, hL6, hD6, (g36.same C (by omega)).trans hC3, (g36.same E (by omega)).trans hE3, (g36.same T (by omega)).trans hT3, fun x hx => (by simp at hx), rfl⟩
  · simp only [List.mem_cons, List.not_mem_nil, or_false, not_or]
    omega
  · refine ⟨lp, .normal, hJ.loop, .inl hlp.1, by rw [hlp.2.1]; rfl, ?_⟩
    have wf' : Wf ({ s' with lo := min s6.lo s'.lo } : St) := ⟨by show min s6.lo s'.lo ≤ s'.n; have := hJ.wf.lo; omega, hJ.wf.len⟩
    have pe := Put.mk' wf' (St.at_lt (s := ({ s' with lo := min s6.lo s'.lo } : St)) hJ.loop) (.loop { lp with state := .exhausted })
    generalize ({ s' with lo := min s6.lo s'.lo } : St).put (s4.n + 1) (.loop { lp with state := .exhausted }) = se at pe ⊢
    have hne := pe.n
    have hne' : se.n = s'.n := hne
    have hTe : se.at T = some (.cells [.bool false] 4 false) := (pe.rest T (by omega)).trans hJ.t
    have hDe : se.at s4.n = some (.defd (some [])) := (pe.rest _ (by omega)).trans hJ.dfr
    have hTl := St.at_lt hJ.t
    have hJn : s.n ≤ s'.n := hJ.n
    have hJlo : s.n ≤ s'.lo := hJ.lo
    simp (maxSteps := 10000000) only [U, tset_eq, wW, reduceCtorEq, Nat.reduceEqDiff]
    refine store1_rule isz_4 hTe pe.wf (by omega) (by decide) rfl fun s7 p7 => ?_
    have n7 := p7.n
    have hD7 := (p7.rest s4.n (by omega)).trans hDe
    refine ⟨hD7, by omega, ?_⟩
    have pd := Put.mk' p7.wf (St.at_lt hD7) (.defd none)
    generalize s7.put s4.n (.defd none) = sd at pd ⊢
    have nd := pd.n
    have hTd : sd.at T = some (.cells [.bool true] 4 false) := (pd.rest T (by omega)).trans p7.here
    rw [wdefers_nil, load_one ap_4 hTd rfl, wopt_some]
    have hb : fitsB h g = true := by
      unfold fitsB
      exact List.all_eq_true.2 fun x hx => hJ.good x (by rw [List.take_length]; exact hx)
    refine fin_flat rfl ⟨by omega, ?_, fun A hA => ?_, fun _ => pd.wf.len⟩ ⟨by rw [hb], rfl⟩
    · rw [pd.lo, p7.lo, pe.lo]
      show min (min (min (min s6.lo s'.lo) (s4.n + 1)) T) s4.n = s.n
      omega
    · have hA' : A < s.n := hA
      rw [pd.rest A (by omega), p7.rest A (by omega), pe.rest A (by omega)]
      exact hJ.same A hA
  · refine ⟨_, .ret, hS.loop, .inr rfl, rfl, ?_⟩
    have wf' : Wf ({ s' with lo := min s6.lo s'.lo } : St) := ⟨by show min s6.lo s'.lo ≤ s'.n; have := hS.wf.lo; omega, hS.wf.len⟩
    have pe := Put.mk' wf' (St.at_lt (s := ({ s' with lo := min s6.lo s'.lo } : St)) hS.loop) (.loop { lp with state := .exhausted, pending := some .ret })
    generalize ({ s' with lo := min s6.lo s'.lo } : St).put (s4.n + 1) (.loop { lp with state := .exhausted, pending := some .ret }) = se at pe ⊢
    have hne := pe.n
    have hne' : se.n = s'.n := hne
    have hTe : se.at T = some (.cells [.bool false] 4 false) := (pe.rest T (by omega)).trans hS.t
    have hDe : se.at s4.n = some (.defd (some [])) := (pe.rest _ (by omega)).trans hS.dfr
    have hJn : s.n ≤ s'.n := hS.n
    have hJlo : s.n ≤ s'.lo := hS.lo
    simp only [thenW, outs_ret]
    rw [r22]
    simp (maxSteps := 10000000) only [U, tset_eq, wW, reduceCtorEq, Nat.reduceEqDiff]
    refine ⟨hDe, by omega, ?_⟩
    have pd := Put.mk' pe.wf (St.at_lt hDe) (.defd none)
    generalize se.put s4.n (.defd none) = sd at pd ⊢
    have nd := pd.n
    have hTd : sd.at T = some (.cells [.bool false] 4 false) := (pd.rest T (by omega)).trans hTe
    rw [wdefers_nil, wop_load, load_one ap_4 hTd rfl, wopt_some]
    refine fin_flat rfl ⟨by omega, ?_, fun A hA => ?_, fun _ => pd.wf.len⟩ ⟨by rw [hS.bad], rfl⟩
    · rw [pd.lo, pe.lo]
      show min (min (min s6.lo s'.lo) (s4.n + 1)) s4.n = s.n
      omega
    · have hA' : A < s.n := hA
      rw [pd.rest A (by omega), pe.rest A (by omega)]
      exact hS.same A hA
end
end Go.VE
/- Numbers as bytes. -/
namespace Go.VE
open Go Go.Proofs
set_option maxRecDepth 20000
def leB (x : Int) (j : Nat) : Int := IntKind.u8.wrap (x.fdiv (2 ^ min (8 * j) 64))
def leN (x : Int) (r : Nat) : List Int := (List.range r).map (leB x)
theorem leN_succ (x : Int) (r : Nat) : leN x (r + 1) = leN x r ++ [leB x r] := by
  unfold leN
  rw [List.range_succ, List.map_append]; rfl
theorem leN_len (x : Int) (r : Nat) : (leN x r).length = r := by unfold leN; simp
def encL (l : List Int) : List Int := l.flatMap fun x => leN x 4
theorem encL_snoc (l : List Int) (x : Int) : encL (l ++ [x]) = encL l ++ leN x 4 := by unfold encL; rw [List.flatMap_append]; simp
theorem encL_len : ∀ l : List Int, (encL l).length = 4 * l.length
  | [] => rfl
  | x :: l => by
    have ih := encL_len l
    unfold encL at ih ⊢
    rw [List.flatMap_cons, List.length_append, leN_len, ih, List.length_cons]
    omega
def encP (g : Nat → Nat → Nat → List Int) (l : List Prt) : List Int := l.flatMap fun x => encL (gOf g x)
theorem encP_snoc (g : Nat → Nat → Nat → List Int) (l : List Prt) (x : Prt) : encP g (l ++ [x]) = encP g l ++ encL (gOf g x) := by unfold encP; rw [List.flatMap_append]; simp
section
variable {ro : Nat} {s : St} {K : Value → St → Prop}
theorem conv_u64_u8 (x : Int) (ty : TypeId) (s : St) (K : Value → St → Prop) : wop P ro (.convert 34 5 (.const (.int .u64 x))) ty s K = K (.int .u8 (IntKind.u8.wrap x)) s := by kernel_rfl
theorem append_inB {A m c : Nat} {cs : List Value} {x : Value} {y : Int} (hA : s.at A = some (.cells cs 5 false)) (hw : Wf s) (hro : ro ≤ A) (hx : Sl s x 1 1 [.int .u8 y]) (hm : m + 1 ≤ c) (hc : cs.length = c) {ty : TypeId}
    (hk : ∀ s', Put s A (.cells (splice cs m [.int .u8 y]) 5 false) s' → K (.slice (some ⟨A, 0, none⟩) (m + 1) c) s') : wop P ro (.call ⟨.builtin .append, ⟨[.const (.slice (some ⟨A, 0, none⟩) m c), .const x]⟩, #[32, 32]⟩) ty s K := by
  obtain ⟨i, hi, his, hib, hz, hf, hzs⟩ := tyOk_spec ty_5
  obtain ⟨ha, hfst⟩ := hx.first
  rw [wop_append]
  have e1 : aappend P ro s #[32, 32] [.slice (some ⟨A, 0, none⟩) m c, x] = some (.slice (some ⟨A, 0, none⟩) (m + 1) c, s.put A (.cells (splice cs m [.int .u8 y]) 5 false)) := by
    have hni : notInt P 32 = true := by kernel_rfl
    simp only [aappend, se_32, hni, hi, ha, his, hfst, Option.bind_some, aappendTo]
    rw [if_pos hm, Nat.zero_add, Nat.mul_one, awrite_some hA hro (by simp) (by simp; omega) rfl]
    rfl
  rw [e1]
  exact hk _ (.mk' hw (St.at_lt hA) _)
structure EnI (s0 : St) (A X cap : Nat) (acc : List Int) (s : St) : Prop where
  wf : Wf s
  n : s0.n ≤ s.n
  rest : ∀ B, B < s0.n → B ≠ A → B ≠ X → s.at B = s0.at B
  lo : min s0.lo (min A X) ≤ s.lo
  a : ∃ c, s.at A = some (.cells c 5 false) ∧ c.length = cap ∧ c.take acc.length = acc.map (.int .u8) ∧ ∀ y ∈ c, ∃ z, y = .int .u8 z
  x : s.at X = some (.cells [.slice (some ⟨A, 0, none⟩) acc.length cap] 32 false)
  ne : A ≠ X ∧ A < s0.n ∧ X < s0.n
structure KeE (τ τ' : Tau) : Prop where
  a6 : τ' 6 = τ 6
  a28 : τ' 28 = τ 28
  a29 : τ' 29 = τ 29
  a30 : τ' 30 = τ 30
  a9 : τ' 9 = τ 9
theorem KeE.refl (τ : Tau) : KeE τ τ := ⟨rfl, rfl, rfl, rfl, rfl⟩
theorem EnI.byte {s0 : St} {A X cap : Nat} {acc : List Int} {y : Int} (h : EnI s0 A X cap acc s) (hc : acc.length + 1 ≤ cap) (hro : ro ≤ A ∧ ro ≤ X) {K : Value → Value → St → Prop} {ty ty' : TypeId}
    (hk : ∀ v w s', EnI s0 A X cap (acc ++ [y]) s' → K v w s') :
    wop P ro (.buildSlice 32 1 ⟨[(0, .const (.int .u8 y))]⟩) ty s fun v s1 => FreshOk s s1 ∧ wop P ro (.call ⟨.builtin .append, ⟨[.const (.slice (some ⟨A, 0, none⟩) acc.length cap), .const v]⟩, #[32, 32]⟩) ty' s1 fun w s2 => s1.n ≤ s2.n ∧ wop P ro (.store 32 (.const (ptr X)) (.const w)) 0 s2 fun _ s3 => s2.n ≤ s3.n ∧ K v w s3 := by
  obtain ⟨c, hA, hcl, hct, hcu⟩ := h.a
  have hAl := St.at_lt hA
  have hXl := St.at_lt h.x
  obtain ⟨hne, hA0, hX0⟩ := h.ne
  refine buildSlice_rule se_32 ty_5 h.wf [.int .u8 y] rfl rfl (by decide) (fun v hv => by
    simp only [List.mem_cons, List.not_mem_nil, or_false] at hv
    subst hv
    rfl) fun Z s1 m1 => ?_
  have n1 := m1.n
  refine ⟨m1.fresh (by simp [veqL, veq, Value.cells]), ?_⟩
  have x1 : Sl s1 (.slice (some ⟨Z, 0, none⟩) 1 1) 1 1 [.int .u8 y] := m1.sl rfl
  refine append_inB ((m1.grew.same A hAl).trans hA) m1.wf hro.1 x1 hc hcl fun s2 p2 => ?_
  have n2 := p2.n
  refine ⟨by omega, ?_⟩
  have hX2 := (p2.rest X (fun e => hne e.symm)).trans ((m1.grew.same X hXl).trans h.x)
  refine store1_rule isz_32 hX2 p2.wf hro.2 (by simp) rfl fun s3 p3 => ?_
  have n3 := p3.n
  refine ⟨by omega, hk _ _ s3 ⟨p3.wf, by have := h.n; omega, fun B h1 h2 h3 => ?_, ?_, ⟨_, (p3.rest A hne).trans p2.here, ?_, ?_, fun z hz => ?_⟩, ?_, h.ne⟩⟩
  · have hn := h.n
    rw [p3.rest B h3, p2.rest B h2, m1.grew.same B (by omega)]
    exact h.rest B h1 h2 h3
  · rw [p3.lo, p2.lo, m1.grew.lo]
    have := h.lo
    omega
  · rw [splice_length (by simp; omega)]; exact hcl
  · rw [List.length_append, List.length_singleton, List.map_append, ← hct]
    exact splice_front (l := [.int .u8 y]) (by simp; omega)
  · unfold splice at hz
    rcases List.mem_append.1 hz with hz | hz
    · exact hcu z (List.mem_of_mem_take hz)
    · rcases List.mem_append.1 hz with hz | hz
      · simp only [List.mem_cons, List.not_mem_nil, or_false] at hz
        exact ⟨y, hz⟩
      · exact hcu z (List.mem_of_mem_drop hz)
  · rw [p3.here, List.length_append]; rfl
theorem enc4 {s0 : St} {A X cap : Nat} {acc : List Int} {x : Int} (hI : EnI s0 A X cap acc s) (hc : acc.length + 4 ≤ cap) (hro : ro ≤ A ∧ ro ≤ X) {rnd : Option Nat}
    {τ : Tau} {ds : List Deferred} {R k4 : WK} {L : List (Nat × WK)} (t6 : τ 6 = ptr X) (t9 : τ 9 = .int .u64 x) (t34 : τ 34 = .int .i64 0) (hk : ∀ τ' s', KeE τ τ' → EnI s0 A X cap (acc ++ leN x 4) s' → k4 τ' ds s') :
    WLoop P ro 48 rnd c23_1110101010011001100 τ ds s R ((4, k4) :: L) := by
  refine wloop l23_1110101010011001100 m23_1110101010011001100 (fun (r : Nat) τ' ds' s' => r ≤ 4 ∧ KeE τ τ' ∧ τ' 34 = .int .i64 r ∧ ds' = ds ∧ EnI s0 A X cap (acc ++ leN x r) s') (fun r => 4 - r) ?_ 0 ⟨by omega, .refl _, t34, rfl, by unfold leN; simpa using hI⟩
  rintro r τ' ds' s' ⟨hr, ke, a34, rfl, hI'⟩
  rw [n23_1110101010011001100]
  unfold v23_1110101010011001100
  have a6 := ke.a6.trans t6
  have a9 := ke.a9.trans t9
  have hll : (acc ++ leN x r).length = acc.length + r := by rw [List.length_append, leN_len]
  simp (maxSteps := 10000000) only [wW, reduceCtorEq, Nat.reduceEqDiff, a34, a6, a9]
  by_cases hlt : r < 4
  · rw [if_pos (by omega)]
    rw [wop_load, load_one ap_32 hI'.x rfl, wopt_some]
    refine ⟨by simp [veq], ?_⟩
    have hsh : abinInt P .shr .u64 x .i64 (8 * (r : Int)) = some (.int .u64 (x.fdiv (2 ^ min (8 * r) 64))) := by
      rw [int_shr _ _ _ _ (by omega)]
      have : (8 * (r : Int)).toNat = 8 * r := by omega
      rw [this]; rfl
    rw [wrap_i64 (by omega) (by omega), hsh, wopt_some, conv_u64_u8]
    refine ⟨rfl, by simp [veq], ?_⟩
    refine EnI.byte (y := leB x r) hI' (by omega) hro fun v w s3 hI3 => ?_
    rw [wrap_i64 (by omega) (by omega)]
    refine ⟨r + 1, by omega, by omega, ⟨?_, ?_, ?_, ?_, ?_⟩, ?_, by first | trivial | rfl, ?_⟩
    · simp only [U, tset_eq, wW, reduceCtorEq, Nat.reduceEqDiff, a6, t6]
    · simp only [U, tset_eq, wW, reduceCtorEq, Nat.reduceEqDiff, ke.a28]
    · simp only [U, tset_eq, wW, reduceCtorEq, Nat.reduceEqDiff, ke.a29]
    · simp only [U, tset_eq, wW, reduceCtorEq, Nat.reduceEqDiff, ke.a30]
    · simp only [U, tset_eq, wW, reduceCtorEq, Nat.reduceEqDiff, a9, t9]
    · simp only [U, tset_eq, wW, reduceCtorEq, Nat.reduceEqDiff]; rfl
    · rw [leN_succ, ← List.append_assoc]; exact hI3
  · obtain rfl : r = 4 := by omega
    rw [if_neg (by omega)]
    refine hk _ s' ⟨?_, ?_, ?_, ?_, ?_⟩ hI'
    · simp only [U, tset_eq, wW, reduceCtorEq, Nat.reduceEqDiff, ke.a6]
    · simp only [U, tset_eq, wW, reduceCtorEq, Nat.reduceEqDiff, ke.a28]
    · simp only [U, tset_eq, wW, reduceCtorEq, Nat.reduceEqDiff, ke.a29]
    · simp only [U, tset_eq, wW, reduceCtorEq, Nat.reduceEqDiff, ke.a30]
    · simp only [U, tset_eq, wW, reduceCtorEq, Nat.reduceEqDiff, ke.a9]
end
end Go.VE
/- The numbers of a part as bytes; how many bytes there are. -/
namespace Go.VE
open Go Go.Proofs
set_option maxRecDepth 20000
def sumN : List Prt → Nat
  | [] => 0
  | x :: l => x.n.toNat + sumN l
theorem sumN_le {l : List Prt} {m : Nat} (h : ∀ x ∈ l, x.n.toNat ≤ m) : sumN l ≤ l.length * m := by
  induction l with
  | nil => simp [sumN]
  | cons x l ih =>
    have h1 := h x List.mem_cons_self
    have h2 := ih fun y hy => h y (List.mem_cons_of_mem _ hy)
    simp only [sumN, List.length_cons, Nat.add_mul, Nat.one_mul]
    omega
theorem sumN_keep : ∀ l : List Prt, sumN (keepP l) = sumN l
  | [] => rfl
  | x :: l => by
    have ih := sumN_keep l
    unfold keepP at ih ⊢
    rw [List.filter_cons]
    by_cases hx : x.n = 0
    · rw [if_neg (by simpa using hx), ih]
      simp [sumN, hx]
    · rw [if_pos (by simpa using hx)]
      simp only [sumN, ih]
theorem sizeW_sum {l : List Prt} (h : ∀ x ∈ l, 0 ≤ x.n) (hb : 4 * sumN l < 2 ^ 60) : sizeW l = 4 * sumN l := by
  have main : ∀ (l : List Prt) (a : Int), 0 ≤ a → (∀ x ∈ l, 0 ≤ x.n) → a + 4 * sumN l < 2 ^ 61 → l.foldl (fun a p => IntKind.i64.wrap (a + IntKind.i64.wrap (4 * p.n))) a = a + 4 * sumN l := by
    intro l
    induction l with
    | nil => intro a _ _ _; simp [sumN]
    | cons x l ih =>
      intro a ha hx hb
      have hx0 := hx x List.mem_cons_self
      simp only [sumN] at hb
      rw [List.foldl_cons, wrap_i64 (n := 4 * x.n) (by omega) (by omega), wrap_i64 (by omega) (by omega), ih _ (by omega) (fun y hy => hx y (List.mem_cons_of_mem _ hy)) (by omega)]
      simp only [sumN]
      omega
  unfold sizeW
  rw [main l 0 (by omega) h (by omega)]
  omega
theorem encP_len {g : Nat → Nat → Nat → List Int} {f : Int} : ∀ {l : List Prt}, (∀ x ∈ l, fitX f g x = true) → (encP g l).length = 4 * sumN l
  | [], _ => rfl
  | x :: l, h => by
    have ih := encP_len fun y hy => h y (List.mem_cons_of_mem _ hy)
    have hx := h x List.mem_cons_self
    unfold fitX at hx
    simp only [Bool.and_eq_true, decide_eq_true_eq] at hx
    unfold encP at ih ⊢
    rw [List.flatMap_cons, List.length_append, encL_len, ih]
    simp only [sumN]
    omega
theorem encP_take (g : Nat → Nat → Nat → List Int) (l : List Prt) (i : Nat) : (encP g (l.take i)).length ≤ (encP g l).length := by
  conv => rhs; rw [← List.take_append_drop i l]
  unfold encP
  rw [List.flatMap_append, List.length_append]
  omega
theorem PrtZ.n0 {R Q : Nat} {x : Prt} (h : PrtZ R Q x) : 0 ≤ x.n ∧ x.n.toNat ≤ 2 ^ 20 := by
  obtain ⟨k, q, i, n, rfl, _, h, _⟩ := h
  exact ⟨by show (0 : Int) ≤ n; omega, by show (n : Int).toNat ≤ _; omega⟩
theorem size_bound {h : Shp} (hv : shV h = true) : 4 * sumN (partsR h) < 2 ^ 34 := by
  have h1 := partsR_len hv
  have h2 := sumN_le (l := partsR h) (m := 2 ^ 20) fun x hx => (partsR_ok hv x hx).n0.2
  have h3 : (partsR h).length * 2 ^ 20 ≤ 2000 * 2 ^ 20 := Nat.mul_le_mul_right _ h1
  omega
theorem size_sum {h : Shp} (hv : shV h = true) : sizeM h = 4 * sumN (partsR h) := by
  unfold sizeM
  rw [if_pos hv, sizeW_sum (fun x hx => (partsR_ok hv x hx).n0.1) (by have := size_bound hv; omega)]
theorem size_enc {h : Shp} {g : Nat → Nat → Nat → List Int} (hv : shV h = true) (hf : fitsB h g = true) : sizeM h = ((encP g (partsAll h)).length : Int) := by
  rw [size_sum hv, encP_len (List.all_eq_true.1 hf), ← partsAll_keep hv, sumN_keep]
  push_cast; rfl
theorem U64s.keep {s s' : St} {v : Value} {l : List Int} (h : U64s s v l) (hs : ∀ A c T op, s.at A = some (.cells c T op) → (∃ y, Value.int .u64 y ∈ c) → s'.at A = s.at A) : U64s s' v l := by
  obtain ⟨a, c, hv, hl, hx, hb⟩ := h
  refine ⟨a, c, hv, hl, hx, fun hn => ?_⟩
  obtain ⟨A, o, m, cells, t, op, ha, hm, hA, hc⟩ := hb hn
  refine ⟨A, o, m, cells, t, op, ha, hm, (hs A cells t op hA ?_).trans hA, hc⟩
  cases l with
  | nil => simp at hn
  | cons y l =>
    refine ⟨y, ?_⟩
    have : Value.int .u64 y ∈ (cells.drop o).take ((y :: l).length * 1) := by rw [hc]; exact List.mem_cons_self
    exact List.mem_of_mem_drop (List.mem_of_mem_take this)
end Go.VE
/- proof.Encode: a part. -/
namespace Go.VE
open Go Go.Proofs
set_option maxRecDepth 20000
section
variable {ro : Nat} {s : St} {K : Value → St → Prop}
theorem encLs {s0 : St} {A X cap : Nat} {acc l : List Int} {v : Value} (hI : EnI s0 A X cap acc s0) (hU : U64s s0 v l) (hl : l.length < 2 ^ 30) (hc : acc.length + 4 * l.length ≤ cap) (hro : ro ≤ A ∧ ro ≤ X) {rnd : Option Nat}
    {τ : Tau} {ds : List Deferred} {R k2 k4 : WK} (t6 : τ 6 = ptr X) (t28 : τ 28 = v) (t29 : τ 29 = .int .i64 l.length) (t30 : τ 30 = .int .i64 0) (hk : ∀ τ' s', EnI s0 A X cap (acc ++ encL l) s' → k2 τ' ds s') :
    WLoop P ro 48 rnd c23_11101010100 τ ds s0 R [(2, k2), (4, k4)] := by
  obtain ⟨c0, hA0, _, _, hcu0⟩ := hI.a
  have hX0 := hI.x
  refine wloop l23_11101010100 m23_11101010100 (fun (i : Nat) τ' ds' s' => i ≤ l.length ∧ τ' 6 = ptr X ∧ τ' 28 = v ∧ τ' 29 = .int .i64 l.length ∧ τ' 30 = .int .i64 i ∧ ds' = ds ∧ EnI s0 A X cap (acc ++ encL (l.take i)) s') (fun i => l.length - i) ?_ 0 ⟨by omega, t6, t28, t29, t30, rfl, by simpa [encL] using hI⟩
  rintro i τ' ds' s' ⟨hi, a6, a28, a29, a30, rfl, hI'⟩
  rw [n23_11101010100]
  unfold v23_11101010100
  simp (maxSteps := 10000000) only [wW, reduceCtorEq, Nat.reduceEqDiff, a28, a29, a30]
  by_cases hlt : i < l.length
  · rw [if_pos (by omega)]
    have hU' : U64s s' v l := hU.keep fun B c T op hB hm => hI'.rest B (St.at_lt hB) (fun e => by
      subst e
      rw [hA0] at hB
      cases hB
      obtain ⟨y, hy⟩ := hm
      obtain ⟨z, hz⟩ := hcu0 _ hy
      cases hz) (fun e => by
      subst e
      rw [hX0] at hB
      cases hB
      obtain ⟨y, hy⟩ := hm
      simp at hy)
    obtain ⟨A5, o5, q1, q2, _⟩ := Sl.ix hU' (by decide) (show (0 : Int) ≤ i by omega) (show (i : Int) < l.length by omega)
    have q2' := q2 0 (by decide)
    rw [Nat.add_zero, Nat.add_zero, Nat.mul_one, Int.toNat_natCast, List.getElem?_map, List.getElem?_eq_getElem hlt] at q2'
    have hld : aload P s' 34 (.pointer (some ⟨A5, o5, none⟩)) = some (.int .u64 l[i]) := by
      rw [load1 ap_34]
      exact q2'
    rw [wop_indexAddr, q1 se_36 isz_34, wopt_some, wop_load, hld, wopt_some]
    have hll : (acc ++ encL (l.take i)).length = acc.length + 4 * i := by rw [List.length_append, encL_len, List.length_take]; omega
    have hIs : EnI s' A X cap (acc ++ encL (l.take i)) s' := ⟨hI'.wf, Nat.le_refl _, fun _ _ _ _ => rfl, Nat.min_le_left _ _, hI'.a, hI'.x, hI'.ne.1, by have := hI'.ne.2.1; have := hI'.n; omega, by have := hI'.ne.2.2; have := hI'.n; omega⟩
    refine enc4 (x := l[i]) hI' (by omega) hro ?_ ?_ ?_ fun τ2 s2 ke h2 => ?_
    · simp only [U, tset_eq, wW, reduceCtorEq, Nat.reduceEqDiff, a6]
    · simp only [U, tset_eq, wW, reduceCtorEq, Nat.reduceEqDiff]
    · simp only [U, tset_eq, wW, reduceCtorEq, Nat.reduceEqDiff]
    have c6 : τ2 6 = ptr X := by rw [ke.a6]; simp only [U, tset_eq, wW, reduceCtorEq, Nat.reduceEqDiff, a6]
    have c28 : τ2 28 = v := by rw [ke.a28]; simp only [U, tset_eq, wW, reduceCtorEq, Nat.reduceEqDiff, a28]
    have c29 : τ2 29 = .int .i64 l.length := by rw [ke.a29]; simp only [U, tset_eq, wW, reduceCtorEq, Nat.reduceEqDiff, a29]
    have c30 : τ2 30 = .int .i64 i := by rw [ke.a30]; simp only [U, tset_eq, wW, reduceCtorEq, Nat.reduceEqDiff, a30]
    simp (maxSteps := 10000000) only [wW, reduceCtorEq, Nat.reduceEqDiff, c30]
    rw [wrap_i64 (by omega) (by omega)]
    refine ⟨i + 1, by omega, by omega, ?_, ?_, ?_, ?_, by first | trivial | rfl, ?_⟩
    · simp only [U, tset_eq, wW, reduceCtorEq, Nat.reduceEqDiff, c6]
    · simp only [U, tset_eq, wW, reduceCtorEq, Nat.reduceEqDiff, c28]
    · simp only [U, tset_eq, wW, reduceCtorEq, Nat.reduceEqDiff, c29]
    · simp only [U, tset_eq, wW, reduceCtorEq, Nat.reduceEqDiff]; rfl
    · rw [take_succ_eq (List.getElem?_eq_getElem hlt), encL_snoc, ← List.append_assoc]
      exact h2
  · obtain rfl : i = l.length := by omega
    rw [if_neg (by omega)]
    rw [List.take_length] at hI'
    exact hk _ s' hI'
structure EcJ (s0 : St) (h : Shp) (cs : List Value) (g : Nat → Nat → Nat → List Int) (C E A X L D cap : Nat) (r0 : Lp) (i : Nat) (M : List Nat) (s : St) : Prop where
  wf : Wf s
  n : s0.n ≤ s.n
  same : ∀ B, B < s0.n → s.at B = s0.at B
  lo : s0.n ≤ s.lo
  loop : s.at L = some (.loop r0)
  dfr : s.at D = some (.defd (some []))
  c : s.at C = some (.cells h.cells 23 false)
  e : s.at E = some (.cells cs 39 false)
  a : ∃ c, s.at A = some (.cells c 5 false) ∧ c.length = cap ∧ c.take (encP g ((partsAll h).take i)).length = (encP g ((partsAll h).take i)).map (.int .u8) ∧ ∀ y ∈ c, ∃ z, y = .int .u8 z
  x : s.at X = some (.cells [.slice (some ⟨A, 0, none⟩) (encP g ((partsAll h).take i)).length cap] 32 false)
  m : M = [L, A, X]
theorem EcJ.cli {s0 : St} {h : Shp} {cs : List Value} {g : Nat → Nat → Nat → List Int} {C E A X L D cap : Nat} {r0 : Lp} : Cli L r0 (EcJ s0 h cs g C E A X L D cap r0) where
  loop := fun h => h.loop
  wf := fun h => h.wf
  lt := fun h B hB => by
    rw [h.m] at hB
    obtain ⟨c, hc, _⟩ := h.a
    simp only [List.mem_cons, List.not_mem_nil, or_false] at hB
    rcases hB with rfl | rfl | rfl
    · exact St.at_lt h.loop
    · exact St.at_lt hc
    · exact St.at_lt h.x
  grew := fun h g w => by
    have e : ∀ A o, _ = some o → _ = some o := fun A o he => (g.same A (St.at_lt he)).trans he
    have hn := h.n
    obtain ⟨c, hc, hc2⟩ := h.a
    exact ⟨w, Nat.le_trans h.n g.n, fun A hA => (g.same A (by omega)).trans (h.same A hA), by rw [g.lo]; exact h.lo, e _ _ h.loop, e _ _ h.dfr, e _ _ h.c, e _ _ h.e, ⟨c, e _ _ hc, hc2⟩, e _ _ h.x, h.m⟩
variable {W : Nat → Prop} {cs : List Value} {B : PfB} {g : Nat → Nat → Nat → List Int} {h : Shp}
theorem ecRound {s0 s' : St} {C E A X L D : Nat} {lp : Lp} {t : Tr} {τ : Tau} (ht : Agr 48 t τ) (hlp : lp.state = .ready ∧ lp.pending = none ∧ lp.t = t ∧ lp.params = [20] ∧ lp.assign = c23_1110100 ∧ lp.body = c23_1110101)
    (t3 : τ 3 = ptr E) (t6 : τ 6 = ptr X) (hp : PfAt s0 W cs B (shR h).toNat h.q.toNat g) (hv : shV h = true) (hg : ∀ k q i, (g k q i).length < 2 ^ 20) (hro : ro ≤ s0.n)
    (hne : s0.n ≤ C ∧ s0.n ≤ E ∧ s0.n ≤ A ∧ s0.n ≤ X ∧ s0.n ≤ L ∧ s0.n ≤ D) (hd : C ≠ L ∧ E ≠ L ∧ A ≠ L ∧ X ≠ L ∧ D ≠ L ∧ A ≠ X ∧ C ≠ A ∧ C ≠ X ∧ E ≠ A ∧ E ≠ X ∧ D ≠ A ∧ D ≠ X) {i : Nat} {M : List Nat} (hi : i < (partsAll h).length) (hJ : EcJ s0 h cs g C E A X L D (encP g (partsAll h)).length lp i M s') :
    RoundWP P ro L (setAll lp.t lp.params [.agg (.mk ((partsAll h)[i]).cells)]) lp.assign lp.body s' fun v s2 => (v = .bool true ∧ s2.lo ≤ L ∧ ∃ M', EcJ s0 h cs g C E A X L D (encP g (partsAll h)).length lp (i + 1) M' s2 ∧ Step M s' M' s2) ∨ (v = .bool false ∧ s2.lo ≤ L ∧ False) := by
  rw [hlp.2.2.1, hlp.2.2.2.1, hlp.2.2.2.2.1, hlp.2.2.2.2.2]
  have hLl := St.at_lt hJ.loop
  have hCl := St.at_lt hJ.c
  have hEl := St.at_lt hJ.e
  have hXl := St.at_lt hJ.x
  have hDl := St.at_lt hJ.dfr
  have hJn := hJ.n
  obtain ⟨ca, hA, hcl, hct, hcu⟩ := hJ.a
  have hAl := St.at_lt hA
  obtain ⟨d1, d2, d3, d4, d5, d6, d7, d8, d9, d10, d11, d12⟩ := hd
  obtain ⟨k, q, ix, n, hx, ok, hn20, hln⟩ := partsAll_ok hv (partsAll h)[i] (List.getElem_mem hi)
  have hgx : gOf g (partsAll h)[i] = g k q ix := by rw [hx]; rfl
  have hst : encP g ((partsAll h).take (i + 1)) = encP g ((partsAll h).take i) ++ encL (g k q ix) := by rw [take_succ_eq (List.getElem?_eq_getElem hi), encP_snoc, hgx]
  have hcap := encP_take g (partsAll h) (i + 1)
  rw [hst, List.length_append, encL_len] at hcap
  refine round_wp (N := 48) (Agr.set ht 20 _ (by decide)) l23_1110100 l23_1110101 (by omega) ?_
  rw [n23_1110100]
  unfold v23_1110100
  simp (maxSteps := 10000000) only [U, tset_eq, wW, reduceCtorEq, Nat.reduceEqDiff, hx]
  refine alloc_rule ty_30 hJ.wf fun E4 s4 m4 => ?_
  have e4 := m4.eq
  have n4 := m4.n
  refine storeAll_rule isz_30 m4.here (l := Prt.cells ⟨k, q, ix, n⟩) rfl (by decide) m4.wf (by omega) rfl rfl fun s5 p5 => ?_
  have n5 := p5.n
  have g5 : Grew s' s5 := p5.grew _ hJ.wf m4.grew (by omega)
  have hL5 := (g5.same _ hLl).trans hJ.loop
  refine ⟨lp, hL5, hlp.1, ?_⟩
  have pb := Put.mk' p5.wf (St.at_lt hL5) (.loop { lp with state := .busy })
  generalize s5.put L (.loop { lp with state := .busy }) = sb at pb ⊢
  have nb := pb.n
  rw [n23_1110101]
  unfold v23_1110101
  have hE4 : sb.at E4 = some (.cells (Prt.cells ⟨k, q, ix, n⟩) 30 false) := (pb.rest E4 (by omega)).trans p5.here
  have hoth : ∀ A, A < s'.n → A ≠ L → sb.at A = s'.at A := fun A h1 h2 => (pb.rest A h2).trans (g5.same A h1)
  have hEb := (hoth E hEl d2).trans hJ.e
  have hold : ∀ A, A < s0.n → sb.at A = s0.at A := fun A hA => (hoth A (by omega) (by omega)).trans (hJ.same A hA)
  have hpb : PfAt sb W cs B (shR h).toNat h.q.toNat g := hp.keep (by omega) hold
  have hx0 : (Prt.cells ⟨k, q, ix, n⟩)[0]? = some (.int .u8 k) := rfl
  have hki : veq (.int .u8 (k : Int)) (.int .u8 (k : Int)) = true := by simp [veq]
  have hxv : veq (.agg (.mk (Prt.cells ⟨k, q, ix, n⟩))) (.agg (.mk (Prt.cells ⟨k, q, ix, n⟩))) = true := by simp [veq, veqA, veqL, Prt.cells]
  have hvf : ∀ f, veq (fnV f) (fnV f) = true := fun f => by simp [veq, veqA, veqL]
  simp (maxSteps := 10000000) only [U, tset_eq, wW, reduceCtorEq, Nat.reduceEqDiff, t3, fa_30_0, wop_load, load1 ap_28, acells_some hE4, Nat.zero_add, hx0, hki, true_and]
  rw [load_all ap_30 hE4 rfl, wopt_some]
  refine ⟨hxv, ?_⟩
  refine wPlaces pb.wf fun Ap s8 g8 w8 hAp => ?_
  refine ⟨g8.keeps, ?_⟩
  have hn8 := g8.n
  have hk1 := ok.k1
  have hpix : aindexAddr P 84 (.slice (some ⟨Ap, 0, none⟩) 12 12) (.int .u8 (k : Int)) = some (ptrO Ap k) := by
    simp only [aindexAddr, un_84, isz_83, Option.bind_some, aplace]
    rw [if_pos ⟨by omega, by omega⟩, Int.toNat_natCast, Nat.mul_one, Nat.zero_add]
  have hE8 := (g8.same E (by omega)).trans hEb
  have hp8 := hpb.grew g8
  obtain ⟨f, hf, hcall⟩ := wPl (ro := ro) (n := n) hE8 hp8 ok w8 (by omega)
  rw [wop_indexAddr, hpix, wopt_some, load1 ap_83, acells_some hAp, Option.bind_some, hf, wopt_some]
  refine ⟨hvf f, ?_⟩
  show CallWP P ro f [ptr E, .agg (.mk (Prt.cells ⟨k, q, ix, n⟩))] s8 _
  refine hcall _ fun s9 g9 w9 => ?_
  have hn9 := g9.n
  have g89 := g8.trans g9
  have hE9 := (g89.same E (by omega)).trans hEb
  have hp9 := hpb.grew g89
  obtain ⟨c, hc, hfit, hS⟩ := hp9.at hE9 ok
  refine wGet hk1 hc hfit hS (hg k q ix) w9 (by omega) fun v sx gx hU => ?_
  have wx := w9.grew gx
  have nx := gx.n
  have gbx := g89.trans gx
  have hothx : ∀ A, A < s'.n → A ≠ L → sx.at A = s'.at A := fun A h1 h2 => (gbx.same A (by omega)).trans (hoth A h1 h2)
  have hLx := (gbx.same L (by omega)).trans pb.here
  have hlo : sx.lo = min s'.lo L := by rw [gbx.lo, pb.lo, g5.lo]
  have hJlo := hJ.lo
  have hI : EnI sx A X (encP g (partsAll h)).length (encP g ((partsAll h).take i)) sx := ⟨wx, Nat.le_refl _, fun _ _ _ _ => rfl, Nat.min_le_left _ _, ⟨ca, (hothx A hAl d3).trans hA, hcl, hct, hcu⟩, (hothx X hXl d4).trans hJ.x, d6, by omega, by omega⟩
  rw [Sl.wlen hU se_36]
  refine encLs hI hU (by have := hg k q ix; omega) hcap ⟨by omega, by omega⟩ ?_ ?_ ?_ ?_ fun τ7 s7 h7 => ?_
  · simp only [U, tset_eq, wW, reduceCtorEq, Nat.reduceEqDiff, t6]
  · simp only [U, tset_eq, wW, reduceCtorEq, Nat.reduceEqDiff]
  · simp only [U, tset_eq, wW, reduceCtorEq, Nat.reduceEqDiff]
  · simp only [U, tset_eq, wW, reduceCtorEq, Nat.reduceEqDiff]
  rw [← hst] at h7
  have n7 := h7.n
  have hL7 := (h7.rest L (by omega) (fun e => d3 e.symm) (fun e => d4 e.symm)).trans hLx
  obtain ⟨c7, hA7, hcl7, hct7, hcu7⟩ := h7.a
  refine ⟨_, hL7, .inl ⟨rfl, ?_, [L, A, X], ?_, ?_⟩⟩
  · show min s7.lo L ≤ L
    exact Nat.min_le_right _ _
  · have elp : ({ lp with state := .ready, pending := none } : Lp) = lp := by
      obtain ⟨a, b, _⟩ := hlp
      cases lp
      simp only at a b
      subst a b
      rfl
    have pf := Put.mk' h7.wf (St.at_lt hL7) (.loop lp)
    show EcJ s0 h cs g C E A X L D (encP g (partsAll h)).length lp (i + 1) _ (s7.put L (.loop { lp with state := .ready, pending := none }))
    rw [elp]
    generalize s7.put L (.loop lp) = sf at pf ⊢
    have nf := pf.n
    have hfin : ∀ B, B < s'.n → B ≠ L → B ≠ A → B ≠ X → sf.at B = s'.at B := fun B h1 h2 h3 h4 => by
      rw [pf.rest B h2, h7.rest B (by omega) h3 h4]
      exact hothx B h1 h2
    refine ⟨pf.wf, by omega, fun B hB => ?_, ?_, pf.here, ?_, ?_, ?_, ⟨c7, (pf.rest A d3).trans hA7, hcl7, hct7, hcu7⟩, (pf.rest X d4).trans h7.x, rfl⟩
    · rw [hfin B (by omega) (by omega) (by omega) (by omega)]
      exact hJ.same B hB
    · rw [pf.lo]
      have := h7.lo
      omega
    · rw [hfin D hDl d5 d11 d12]; exact hJ.dfr
    · rw [hfin C hCl d1 d7 d8]; exact hJ.c
    · rw [hfin E hEl d2 d9 d10]; exact hJ.e
  · have nf : (s7.put L (.loop { lp with state := if (jumpOf .normal).isNone = true then .ready else .done, pending := jumpOf .normal })).n = s7.n := rfl
    rw [hJ.m]
    refine ⟨by rw [nf]; omega, fun B hA1 hA2 => ?_, fun B hA1 => .inl hA1⟩
    simp only [List.mem_cons, List.not_mem_nil, or_false, not_or] at hA2
    rw [at_put' _ _ _ _ (St.at_lt hL7) h7.wf.len, if_neg hA2.1, h7.rest B (by omega) hA2.2.1 hA2.2.2]
    exact hothx B hA1 hA2.1
end
end Go.VE
