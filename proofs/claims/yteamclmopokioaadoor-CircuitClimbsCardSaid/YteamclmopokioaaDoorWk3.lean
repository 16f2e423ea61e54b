/-
  What the functions compute.
-/
import Derived.Test.YteamclmopokioaaDoorWk2
set_option linter.unusedSimpArgs false
set_option linter.unusedVariables false
/- A builder that lives: Climb, from its loop on. -/
namespace Go.VE
open Go Go.Proofs
set_option maxRecDepth 20000
noncomputable def climbI (bits : List Int) (path : List (Int × Int)) (c0 : Bd × Int × Int) : Nat → Bd × Int × Int
  | 0 => c0
  | i + 1 => climbS (climbI bits path c0 i).1 (at0 bits i) (climbI bits path c0 i).2 (path.getD i (0, 0))

theorem climbI_le (bits : List Int) (path : List (Int × Int)) (c0 : Bd × Int × Int) : ∀ i, c0.1.Le (climbI bits path c0 i).1
  | 0 => .refl _
  | i + 1 => (climbI_le bits path c0 i).trans (climbS_le _ _ _ _)

theorem vqi (x : Int) : veq (.int .i64 x) (.int .i64 x) = true := by simp [veq]

section
variable {ro : Nat} {s : St} {B : Nat} {oA : Option Nat} {d : Bd} {K : Value → St → Prop}
/-- Two selects, and their pair in a new block. -/
theorem selTwo {s0 : St} {oA0 : Option Nat} {u pv : Value} {bits : List Int} {path : List (Int × Int)} {R C A1 A2 A3 n0 : Nat} {r nv : Int} {oR : AO} {c : Int × Int} (hI : ClI ro s0 B oA0 u pv bits path R C A1 A2 A3 n0 r nv oR s oA d c) (x : Int) (p q : Int × Int) {E1 E2 E3 o1 o2 o3 : Nat}
    (h1 : E1 < s.n ∧ E1 ≠ B ∧ oA ≠ some E1) (h2 : E2 < s.n ∧ E2 ≠ B ∧ oA ≠ some E2) (h3 : E3 < s.n ∧ E3 ≠ B ∧ oA ≠ some E3) {Y : Value → Value → Value → Value → St → Prop}
    (hk : ∀ s' oA' v w z, ClI ro s0 B oA0 u pv bits path R C A1 A2 A3 n0 r nv oR s' oA' (sel2 d x p q).1 c → Lc s' B oA' s.n (.cells (p2c (sel2 d x p q).2) 47 false) → (∀ A o, Lc s B oA A o → Lc s' B oA' A o) → s.n < s'.n → Y (ptr s.n) v w z s') :
    wop P ro (.alloc 47) 0 s fun v12 s17 => FreshOk s s17 ∧ CallWP P ro 55 [ptr B, .int .i64 x, .int .i64 p.1, .int .i64 q.1] s17 fun v57 s18 =>
      Keeps [(21, .blk s.n), (18, .ptr (.pointer (some ⟨E1, o1, none⟩))), (16, .ptr (.pointer (some ⟨E2, o2, none⟩))), (14, .ptr (.pointer (some ⟨E3, o3, none⟩)))] s17 s18 ∧ CallWP P ro 55 [ptr B, .int .i64 x, .int .i64 p.2, .int .i64 q.2] s18 fun v67 s19 =>
      Keeps [(21, .blk s.n)] s18 s19 ∧ wopt (abuild P 47 (partVals .e [(0, .const v57), (1, .const v67)])) fun v => wop P ro (.store 47 (.const v12) (.const v)) 0 s19 fun _ s21 => s19.n ≤ s21.n ∧ Y v12 v57 v67 v s21 := by
  refine alloc_rule ty_47 hI.run.liv.wf fun S sa ma => ?_
  obtain ⟨_, ya, eY, na⟩ := hI.run.made ma
  have Ia := hI.grew ma.grew
  have cl := hI.cc.lt
  have rl := hI.rr.lt
  have wl := hI.who.lt
  have hn := hI.run.mt.n
  have hro := hI.run.ro
  refine ⟨ma.fresh (by kernel_rfl), ?_⟩
  refine lSelect Ia.run.liv x p.1 q.1 fun sb oB lb mb => ?_
  have e1 : mSelect d x p.1 q.1 = selA d x p q := rfl
  rw [e1] at lb ⊢
  have Ib := Ia.call lb mb
  have yb := ya.mut mb
  have nb := mb.n
  refine ⟨mb.keepsG fun y hy => ?_, ?_⟩
  · simp only [List.mem_cons, List.not_mem_nil, or_false] at hy
    rcases hy with rfl | rfl | rfl | rfl
    · exact ⟨S, .inl (by rw [eY]), ya.lt, ya.ne, ya.own⟩
    · exact ⟨E1, .inr ⟨o1, rfl⟩, by omega, h1.2⟩
    · exact ⟨E2, .inr ⟨o2, rfl⟩, by omega, h2.2⟩
    · exact ⟨E3, .inr ⟨o3, rfl⟩, by omega, h3.2⟩
  refine lSelect Ib.run.liv x p.2 q.2 fun sc oC lc mc => ?_
  have e2 : mSelect (selA d x p q).1 x p.2 q.2 = selB d x p q := rfl
  rw [e2] at lc ⊢
  have Ic := Ib.call lc mc
  have yc := yb.mut mc
  have nc := mc.n
  refine ⟨mc.keepsG fun y hy => ?_, ?_⟩
  · simp only [List.mem_cons, List.not_mem_nil, or_false] at hy
    subst hy
    exact ⟨S, .inl (by rw [eY]), yb.lt, yb.ne, yb.own⟩
  rw [build2w, wopt_some]
  refine storeAll_rule isz_47 yc.here (l := p2c ((selA d x p q).2, (selB d x p q).2)) rfl (by decide) Ic.run.liv.wf (by omega) rfl rfl fun sd pd => ?_
  have nd := pd.n
  obtain ⟨Id, yd⟩ := Ic.put yc (by omega) (by omega) (by omega) ⟨by omega, by omega, by omega⟩ pd
  refine ⟨by omega, ?_⟩
  subst eY
  exact hk sd oC _ _ _ Id yd (fun A o ha => (((ha.grew ma.grew).mut mb).mut mc).put pd (by have := ha.lt; omega)) (by omega)

theorem climbTail {s0 : St} {oA0 : Option Nat} {u pv : Value} {bits : List Int} {path : List (Int × Int)} {R X : Nat} {oR : List Value} {leaf : Int × Int} (run : Run1 ro s0 B oA0 s oA d) (hx : Lc s B oA X (.cells (p2c leaf) 47 false)) (hr : Lc s B oA R (.cells oR 47 false)) (hoR : oR.length = 2)
    (iu : Ints s u bits) (ip : Prs .i64 s pv path) (ou : OffS B oA s0.n u) (op : OffS B oA s0.n pv) (hR : s0.n ≤ R) (hlen : path.length ≤ bits.length) (hlb : bits.length < 2 ^ 60)
    {τ : Tau} (t0 : τ 0 = ptr B) (t1 : τ 1 = u) (t3 : τ 3 = pv) (t6 : τ 6 = ptr X) (t8 : τ 8 = ptr R) {Q : Ex → XK}
    (hk : ∀ τ' al s' oA' A1 A2 A3 n0, Run1 ro s0 B oA0 s' oA' (climbI bits path (d, leaf) path.length).1 → Lc s' B oA' R (.cells (p2c (mPair (climbI bits path (d, leaf) path.length).1 (climbI bits path (d, leaf) path.length).2.1 (climbI bits path (d, leaf) path.length).2.2)) 47 false) → WholeAt n0 s' B oA' A1 A2 A3 d.rows.length d.nv → R < n0 → U τ' al 8 = ptr R → Q .ret τ' al [⟨.fn (.func 83) (.mk [ptr A1, ptr A2, ptr A3]), (.mk [])⟩] s') :
    xp (prims P ro) none 101 k17 c17_11 [1, 1] τ [] [] s Q := by
  rw [n17_11]
  unfold v17_11
  rw [t0, t3, t6]
  simp (maxSteps := 10000000) only [wW, reduceCtorEq, Nat.reduceEqDiff, Sl.wlen ip se_46]
  have hro := run.ro
  refine lWhole run.liv fun A1 A2 A3 s6 h6 m6 hw6 => ⟨trivial, ?_⟩
  rw [wdefer_fn]
  have r6 := run.call h6 m6
  have x6 := hx.mut m6
  have rr6 := hr.mut m6
  have hn := run.mt.n
  have iu6 := ou.sl hn m6 iu
  have ip6 : Prs .i64 s6 pv path := op.sl hn m6 ip
  have ou6 := ou.mut hn m6
  have op6 := op.mut hn m6
  refine load_rule (load_all ap_47 x6.here rfl) ?_
  refine alloc_rule ty_47 h6.wf fun C s7 m7 => ?_
  obtain ⟨r7, c7, eC, n7⟩ := r6.made m7
  have n6 := r6.mt.n
  have rl := rr6.lt
  have rls := hr.lt
  have wl := hw6.lt
  have hwR : A1 ≠ R ∧ A2 ≠ R ∧ A3 ≠ R := ⟨who_ne hw6 rls, who_ne2 hw6 rls, who_ne3 hw6 rls⟩
  refine storeAll_rule isz_47 c7.here (l := p2c leaf) rfl (by decide) r7.liv.wf (by omega) rfl rfl fun s8 p8 => ?_
  obtain ⟨r8, c8⟩ := r7.putL c7 (by omega) p8
  have n8 := p8.n
  have I8 : ClI ro s0 B oA0 u pv bits path R C A1 A2 A3 s.n d.rows.length d.nv (.cells oR 47 false) s8 oA d leaf :=
    ⟨r8, c8, (rr6.grew m7.grew).put p8 (by omega), (hw6.mut (.ofGrew m7.grew)).putN p8 (by omega) (by omega) (by omega), ou6.slPut (by omega) p8 (Sl.grew iu6 m7.grew.same), op6.slPut (by omega) p8 (Sl.grew ip6 m7.grew.same), ou6, op6⟩
  refine wloop l17_11110100 m17_11110100 (fun (i : Nat) τ ds s' => i ≤ path.length ∧ τ 0 = ptr B ∧ τ 1 = u ∧ τ 8 = ptr R ∧ τ 9 = ptr C ∧ τ 41 = pv ∧ τ 42 = .int .i64 path.length ∧ τ 43 = .int .i64 i ∧ ds = [⟨.fn (.func 83) (.mk [ptr A1, ptr A2, ptr A3]), (.mk [])⟩] ∧ s8.n ≤ s'.n ∧ ∃ oA', ClI ro s0 B oA0 u pv bits path R C A1 A2 A3 s.n d.rows.length d.nv (.cells oR 47 false) s' oA' (climbI bits path (d, leaf) i).1 (climbI bits path (d, leaf) i).2) (fun i => path.length - i) ?_ 0 ⟨by omega, ?_, ?_, ?_, ?_, ?_, ?_, ?_, rfl, Nat.le_refl _, oA, I8⟩
  · clear t0 t1 t3 t6 t8
    rintro i τ ds s' ⟨hi, t0, t1, t8, t9, t41, t42, t43, rfl, hns, oA', hI⟩
    rw [n17_11110100]
    unfold v17_11110100
    simp (maxSteps := 10000000) only [wW, reduceCtorEq, Nat.reduceEqDiff, t42, t43]
    by_cases hlt : i < path.length
    · rw [if_pos (by omega)]
      have hpi : path[i]? = some (path.getD i (0, 0)) := by rw [List.getD_eq_getElem?_getD, List.getElem?_eq_getElem hlt]; rfl
      have hstep : climbI bits path (d, leaf) (i + 1) = climbS (climbI bits path (d, leaf) i).1 (at0 bits i) (climbI bits path (d, leaf) i).2 (path.getD i (0, 0)) := rfl
      generalize climbI bits path (d, leaf) i = c at hI hstep ⊢
      obtain ⟨dc, p⟩ := c
      generalize path.getD i (0, 0) = q at hpi hstep
      simp only at hI hstep
      obtain ⟨A5, o5, c5, z1, z2, z3, _⟩ := hI.ip.at se_46 isz_47 hpi
      simp (maxSteps := 10000000) only [wW, reduceCtorEq, Nat.reduceEqDiff, wL, Nat.reduceAdd, t41, z1, ld2, z2, z3]
      refine alloc_rule ty_47 hI.run.liv.wf fun Y sa ma => ?_
      obtain ⟨_, ya, eY, na⟩ := hI.run.made ma
      have Ia := hI.grew ma.grew
      have cl := hI.cc.lt
      have rrl := hI.rr.lt
      have wwl := hI.who.lt
      have hn1 := hI.run.mt.n
      refine storeAll_rule isz_47 ya.here (l := p2c q) rfl (by decide) Ia.run.liv.wf (by omega) rfl rfl fun sb pb => ?_
      obtain ⟨Ib, yb⟩ := Ia.put ya (by omega) (by omega) (by omega) ⟨by omega, by omega, by omega⟩ pb
      have nb := pb.n
      have hbi : bits[i]? = some (at0 bits i) := by
        have h := at0_get (l := bits) (i := ((i : Nat) : Int)) (by omega) (by omega)
        rwa [Int.toNat_natCast] at h
      obtain ⟨Au, ou', cu, u1, u2, u3⟩ := Ib.iu.at1 (i := ((i : Nat) : Int)) (x := at0 bits i) (by omega) (by rw [Int.toNat_natCast]; exact hbi)
      simp (maxSteps := 10000000) only [wW, reduceCtorEq, Nat.reduceEqDiff, wL, Nat.reduceAdd, t0, t1, t9, ip2_0', ip2_1', acells_some Ib.cc.here, acells_some yb.here, p2c_0, p2c_1, u1, u2, u3, vqi, true_and]
      have kC : C < sb.n ∧ C ≠ B ∧ oA' ≠ some C := ⟨Ib.cc.lt, Ib.cc.ne, Ib.cc.own⟩
      have kY : Y < sb.n ∧ Y ≠ B ∧ oA' ≠ some Y := ⟨yb.lt, yb.ne, yb.own⟩
      have kU := Ib.ou.ix (by obtain ⟨a, c, e, _⟩ := Ib.iu; exact ⟨a, _, c, e⟩) u1
      refine selTwo Ib (at0 bits i) p q kY kC ⟨by omega, kU.2⟩ fun sc oC w1 w2 w3 Ic sl kp nc => ?_
      have yc := kp Y _ yb
      obtain ⟨Au2, ou2, cu2, u4, u5, u6⟩ := Ic.iu.at1 (i := ((i : Nat) : Int)) (x := at0 bits i) (by omega) (by rw [Int.toNat_natCast]; exact hbi)
      rw [u1] at u4
      obtain ⟨rfl, rfl⟩ : Au = Au2 ∧ ou' = ou2 := by
        have := Option.some.inj u4
        simp only [Value.pointer.injEq, Option.some.injEq, Addr.mk.injEq] at this
        exact ⟨this.1, this.2.1⟩
      simp (maxSteps := 10000000) only [wW, reduceCtorEq, Nat.reduceEqDiff, wL, Nat.reduceAdd, acells_some Ic.cc.here, acells_some yc.here, p2c_0, p2c_1, u5, u6, vqi, true_and]
      have eL : sel2 dc (at0 bits i) p q = climbL dc (at0 bits i) p q := rfl
      rw [eL] at Ic sl
      have kC2 : C < sc.n ∧ C ≠ B ∧ oC ≠ some C := ⟨Ic.cc.lt, Ic.cc.ne, Ic.cc.own⟩
      have kY2 : Y < sc.n ∧ Y ≠ B ∧ oC ≠ some Y := ⟨yc.lt, yc.ne, yc.own⟩
      have kU2 := Ic.ou.ix (by obtain ⟨a, c, e, _⟩ := Ic.iu; exact ⟨a, _, c, e⟩) u1
      have hn3 := Ic.run.mt.n
      refine selTwo Ic (at0 bits i) q p kC2 kY2 ⟨by omega, kU2.2⟩ fun sd oD w4 w5 w6 Id rl2 kp2 nd => ?_
      have eR : sel2 (climbL dc (at0 bits i) p q).1 (at0 bits i) q p = climbR dc (at0 bits i) p q := rfl
      rw [eR] at Id rl2
      have sl2 := kp2 _ _ sl
      rw [load_all ap_47 sl2.here rfl, wopt_some, load_all ap_47 rl2.here rfl, wopt_some]
      refine lNode Id.run.liv (climbL dc (at0 bits i) p q).2 (climbR dc (at0 bits i) p q).2 fun se oE le me => ?_
      have eS : mNode (climbR dc (at0 bits i) p q).1 (climbL dc (at0 bits i) p q).2 (climbR dc (at0 bits i) p q).2 = climbS dc (at0 bits i) p q := rfl
      rw [eS] at le ⊢
      have Ie := Id.call le me
      have ne := me.n
      have hCR : C ≠ R := by omega
      refine storeAll_rule isz_47 Ie.cc.here (l := p2c (climbS dc (at0 bits i) p q).2) rfl (by decide) Ie.run.liv.wf (by omega) rfl rfl fun sf pf => ?_
      have nf := pf.n
      have hCs : s0.n ≤ C := by omega
      have If : ClI ro s0 B oA0 u pv bits path R C A1 A2 A3 s.n d.rows.length d.nv (.cells oR 47 false) sf oE (climbS dc (at0 bits i) p q).1 (climbS dc (at0 bits i) p q).2 :=
        ⟨Ie.run.put pf hCs Ie.cc.own, ⟨pf.here, Ie.cc.ne, Ie.cc.own⟩, Ie.rr.put pf (Ne.symm hCR), Ie.who.putN pf (by omega) (by omega) (by omega), Ie.ou.slPut hCs pf Ie.iu, Ie.op.slPut hCs pf Ie.ip, Ie.ou, Ie.op⟩
      rw [← hstep] at If
      rw [wrap_i64 (by omega) (by omega)]
      refine ⟨i + 1, by omega, by omega, ?_, ?_, ?_, ?_, ?_, ?_, ?_, by omega, oE, If⟩
      · simp only [U, tset_eq, wW, reduceCtorEq, Nat.reduceEqDiff, t0]
      · simp only [U, tset_eq, wW, reduceCtorEq, Nat.reduceEqDiff, t1]
      · simp only [U, tset_eq, wW, reduceCtorEq, Nat.reduceEqDiff, t8]
      · simp only [U, tset_eq, wW, reduceCtorEq, Nat.reduceEqDiff, t9]
      · simp only [U, tset_eq, wW, reduceCtorEq, Nat.reduceEqDiff, t41]
      · simp only [U, tset_eq, wW, reduceCtorEq, Nat.reduceEqDiff, t42]
      · simp only [U, tset_eq, wW, reduceCtorEq, Nat.reduceEqDiff]; rfl
    · obtain rfl : i = path.length := by omega
      rw [if_neg (by omega)]
      have cl := hI.cc.lt
      have rrl := hI.rr.lt
      have wwl := hI.who.lt
      have hn1 := hI.run.mt.n
      simp (maxSteps := 10000000) only [U, tset_eq, wW, reduceCtorEq, Nat.reduceEqDiff, wL, Nat.reduceAdd, t0, t8, t9, ip2_0', ip2_1', acells_some hI.cc.here, p2c_0, p2c_1]
      rw [lPair hI.run.liv]
      generalize climbI bits path (d, leaf) path.length = c at hI hk ⊢
      refine storeAll_rule isz_47 hI.rr.here (l := p2c (mPair c.1 c.2.1 c.2.2)) rfl (by decide) hI.run.liv.wf (by omega) hoR rfl fun sf pf => ?_
      refine hk _ _ sf oA' A1 A2 A3 s.n (hI.run.put pf hR hI.rr.own) ⟨pf.here, hI.rr.ne, hI.rr.own⟩ (hI.who.putN pf hwR.1 hwR.2.1 hwR.2.2) rls ?_
      simp only [U, tset_eq, wW, reduceCtorEq, Nat.reduceEqDiff, t8]
  · simp only [U, tset_eq, wW, reduceCtorEq, Nat.reduceEqDiff, t0]
  · simp only [U, tset_eq, wW, reduceCtorEq, Nat.reduceEqDiff, t1]
  · simp only [U, tset_eq, wW, reduceCtorEq, Nat.reduceEqDiff, t8]
  · simp only [U, tset_eq, wW, reduceCtorEq, Nat.reduceEqDiff]
  · simp only [U, tset_eq, wW, reduceCtorEq, Nat.reduceEqDiff]
  · simp only [U, tset_eq, wW, reduceCtorEq, Nat.reduceEqDiff]
  · simp only [U, tset_eq, wW, reduceCtorEq, Nat.reduceEqDiff]; rfl

end
end Go.VE
/- A builder that lives: Climb. -/
namespace Go.VE
open Go Go.Proofs
set_option maxRecDepth 20000
def climbC (d : Bd) (bits : List Int) (leaf : Int × Int) (path : List (Int × Int)) : Bool := kn d bits && (kn d [leaf.1, leaf.2] && (path.all (isPr d) && decide (path.length ≤ bits.length)))
noncomputable def mClimb (d : Bd) (bits : List Int) (leaf : Int × Int) (path : List (Int × Int)) : Bd × Int × Int :=
  if (mready d (climbC d bits leaf path && nums d [])).2 = true then (mUndo (climbI bits path (d, leaf) path.length).1 d.rows.length d.nv, mPair (climbI bits path (d, leaf) path.length).1 (climbI bits path (d, leaf) path.length).2.1 (climbI bits path (d, leaf) path.length).2.2)
  else ((mready d (climbC d bits leaf path && nums d [])).1, (-1, -1))

theorem mready_false (d : Bd) (b : Bool) : (mready d (false && b)).2 = false := by
  unfold mready
  by_cases he : d.e ≠ 0
  · rw [if_pos he]
  · rw [if_neg he]; rfl

section
variable {ro : Nat} {s : St} {B : Nat} {oA : Option Nat} {d : Bd} {K : Value → St → Prop}
theorem lClimb (h : Liv ro s B oA d) {u pv : Value} {bits : List Int} {path : List (Int × Int)} (leaf : Int × Int) (hu : Ints s u bits) (hp : Prs .i64 s pv path) (hlu : bits.length < 2 ^ 60) (hlp : path.length < 2 ^ 60) (ou : OffS B oA s.n u) (op : OffS B oA s.n pv)
    (hk : ∀ s' oA', Liv ro s' B oA' (mClimb d bits leaf path).1 → Mut s B oA s' oA' → K (.agg (.mk (p2c (mClimb d bits leaf path).2))) s') :
    CallWP P ro 17 [ptr B, u, .agg (.mk (p2c leaf)), pv] s K := by
  refine call_wp b17 rfl ?_
  rw [n17]
  unfold v17
  simp (maxSteps := 10000000) only [wW, reduceCtorEq, Nat.reduceEqDiff]
  have r0 := Run1.start h
  have hro := h.ron
  have hn0 : (Go.VE.ent s).n = s.n := rfl
  refine box_rule h.wf.ent fun X s1 m1 => ?_
  obtain ⟨r1, x1, eX, n1⟩ := r0.made m1
  have x1' : Lc s1 B oA X (.cells (p2c leaf) 47 false) := x1
  refine alloc_rule ty_47 m1.wf fun R s2 m2 => ?_
  obtain ⟨r2, rr2, eR, n2⟩ := r1.made m2
  have x2 := x1'.grew m2.grew
  have iu2 : Ints s2 u bits := ((Sl.ent hu).grew m1.grew.same).grew m2.grew.same
  have ip2 : Prs .i64 s2 pv path := ((Sl.ent hp).grew m1.grew.same).grew m2.grew.same
  have rr2' : Lc s2 B oA R (.cells [.int .i64 0, .int .i64 0] 47 false) := rr2
  have hk' := hk
  unfold mClimb at hk'
  have fail : ∀ {s5 : St}, Liv ro s5 B oA (mready d (climbC d bits leaf path && nums d [])).1 → Mut s2 B oA s5 oA → (mready d (climbC d bits leaf path && nums d [])).2 = false →
      wop P ro (.store 47 (.const (ptr R)) (.const (.agg (.mk (p2c (-1, -1)))))) 0 s5 fun _ s9 => wop P ro (.load 47 (.const (ptr R))) 47 s9 fun v _ => wfin s K v s9 := fun {s5} l5 m5 hr => by
    rw [if_neg (by rw [hr]; decide)] at hk'
    have r5 := r2.call l5 m5
    have rr5 := rr2'.mut m5
    refine storeAll_rule isz_47 rr5.here (l := p2c (-1, -1)) rfl (by decide) r5.liv.wf (by omega) rfl rfl fun s6 p6 => ?_
    obtain ⟨r6, rr6⟩ := r5.putL rr5 (by omega) p6
    refine load_rule (load_all ap_47 rr6.here rfl) ?_
    exact fin_mut h r6.liv r6.mt rfl fun s' h' m' => hk' s' oA h' m'
  have hfalse : climbC d bits leaf path = false → (mready d (climbC d bits leaf path && nums d [])).2 = false := fun e => by rw [e]; exact mready_false _ _
  rw [lKnown r2.liv iu2 (by omega)]
  cases h1 : kn d bits with
  | false =>
    have hC : climbC d bits leaf path = false := by unfold climbC; rw [h1]; rfl
    simp (maxSteps := 10000000) only [wW, reduceCtorEq, Nat.reduceEqDiff]
    refine lReady' r2.liv _ (U64s.nil _) (show 0 < 2 ^ 62 by decide) fun s5 h5 m5 => ?_
    have hf := hfalse hC
    have f2 := @fail s5
    rw [hC] at hf f2
    rw [hf, build2w]
    simp (maxSteps := 10000000) only [wW, reduceCtorEq, Nat.reduceEqDiff]
    exact f2 h5 m5 hf
  | true =>
    simp (maxSteps := 10000000) only [wW, reduceCtorEq, Nat.reduceEqDiff]
    refine sliceAll_rule un_47 isz_3 (by decide) ?_
    have hI : Ints s2 (.slice (some ⟨X, 0, none⟩) 2 2) [leaf.1, leaf.2] := ⟨some ⟨X, 0, none⟩, 2, rfl, rfl, ⟨Nat.le_refl _, fun h => (by cases h), fun x hx => by cases hx; exact .inl rfl⟩, fun _ => ⟨X, 0, none, _, _, _, rfl, rfl, x2.here, rfl⟩⟩
    rw [lKnown r2.liv hI (show 2 < 2 ^ 62 by decide)]
    cases h2 : kn d [leaf.1, leaf.2] with
    | false =>
      have hC : climbC d bits leaf path = false := by unfold climbC; rw [h1, h2]; rfl
      simp (maxSteps := 10000000) only [wW, reduceCtorEq, Nat.reduceEqDiff]
      refine lReady' r2.liv _ (U64s.nil _) (show 0 < 2 ^ 62 by decide) fun s5 h5 m5 => ?_
      have hf := hfalse hC
      have f2 := @fail s5
      rw [hC] at hf f2
      rw [hf, build2w]
      simp (maxSteps := 10000000) only [wW, reduceCtorEq, Nat.reduceEqDiff]
      exact f2 h5 m5 hf
    | true =>
      simp (maxSteps := 10000000) only [wW, reduceCtorEq, Nat.reduceEqDiff]
      rw [lPairs r2.liv ip2 hlp]
      cases h3 : path.all (isPr d) with
      | false =>
        have hC : climbC d bits leaf path = false := by unfold climbC; rw [h1, h2, h3]; rfl
        simp (maxSteps := 10000000) only [wW, reduceCtorEq, Nat.reduceEqDiff]
        refine lReady' r2.liv _ (U64s.nil _) (show 0 < 2 ^ 62 by decide) fun s5 h5 m5 => ?_
        have hf := hfalse hC
        have f2 := @fail s5
        rw [hC] at hf f2
        rw [hf, build2w]
        simp (maxSteps := 10000000) only [wW, reduceCtorEq, Nat.reduceEqDiff]
        exact f2 h5 m5 hf
      | true =>
        simp (maxSteps := 10000000) only [wW, reduceCtorEq, Nat.reduceEqDiff, Sl.wlen iu2 se_30, Sl.wlen ip2 se_46]
        have hC : decide ((bits.length : Int) ≥ path.length) = climbC d bits leaf path := by
          unfold climbC
          rw [h1, h2, h3, Bool.true_and, Bool.true_and, Bool.true_and, Bool.eq_iff_iff, decide_eq_true_eq, decide_eq_true_eq]
          omega
        rw [hC]
        refine lReady' r2.liv _ (U64s.nil _) (show 0 < 2 ^ 62 by decide) fun s5 h5 m5 => ?_
        by_cases hr : (mready d (climbC d bits leaf path && nums d [])).2 = true
        · rw [if_pos hr] at hk'
          obtain ⟨q1, he, hcc⟩ := mready_true hr
          have hle : path.length ≤ bits.length := by
            have hb : climbC d bits leaf path = true := by
              simp only [Bool.and_eq_true] at hcc
              exact hcc.1
            rw [← hC, decide_eq_true_eq] at hb
            omega
          rw [hr]
          rw [q1] at h5
          have r5 := r2.call h5 m5
          have x5 := x2.mut m5
          have rr5 := rr2'.mut m5
          simp (maxSteps := 10000000) only [wW, reduceCtorEq, Nat.reduceEqDiff]
          refine climbTail r5 x5 rr5 rfl (ou.sl (by omega) m5 iu2) (op.sl (by omega) m5 ip2) ou op (by omega) hle hlu ?_ ?_ ?_ ?_ ?_ fun τ' al s' oA' A1 A2 A3 n0 r6 rr6 w6 hRn hU => ?_
          · simp only [U, tset_eq, wW, reduceCtorEq, Nat.reduceEqDiff]
          · simp only [U, tset_eq, wW, reduceCtorEq, Nat.reduceEqDiff]
          · simp only [U, tset_eq, wW, reduceCtorEq, Nat.reduceEqDiff]
          · simp only [U, tset_eq, wW, reduceCtorEq, Nat.reduceEqDiff]
          · simp only [U, tset_eq, wW, reduceCtorEq, Nat.reduceEqDiff]
          rw [xleave_U, r17]
          refine lUndo r6.liv w6 (climbI_le bits path (d, leaf) path.length).rows h.ok.nv fun s8 h8 m8 => ?_
          rw [hU]
          refine load_rule (load_all ap_47 (rr6.mut m8).here rfl) ?_
          exact fin_mut h h8 (r6.mt.trans m8) rfl fun s' h' m' => hk' s' _ h' m'
        · have hr' : (mready d (climbC d bits leaf path && nums d [])).2 = false := by simpa using hr
          rw [hr', build2w]
          simp (maxSteps := 10000000) only [wW, reduceCtorEq, Nat.reduceEqDiff]
          exact fail h5 m5 hr'

end
end Go.VE
/- What Select, Node, Climb mean. -/
namespace Go.VE
open Go Go.Proofs
set_option maxRecDepth 20000
/-- Two variables and their values. -/
structure Pv (V : List Int) (p q : Int × Int) : Prop where
  r1 : 0 ≤ p.1 ∧ p.1 < V.length
  r2 : 0 ≤ p.2 ∧ p.2 < V.length
  v1 : at0 V p.1 = q.1
  v2 : at0 V p.2 = q.2

theorem Pv.pre {V W : List Int} {p q : Int × Int} (h : Pv V p q) (hp : V <+: W) : Pv W p q := by
  have hl := hp.length_le
  have h1 := h.r1
  have h2 := h.r2
  exact ⟨by omega, by omega, (at0_pre hp h.r1).trans h.v1, (at0_pre hp h.r2).trans h.v2⟩

/-- The node of two digests. -/
def nodeM (f : Int) (p q : Int × Int) : Int × Int := (fAdd f (at0 (pst f [p.1, p.2, q.1, q.2] 8) 0) p.1, fAdd f (at0 (pst f [p.1, p.2, q.1, q.2] 8) 1) p.2)

theorem sel_one {p u v : Int} (h0 : 0 ≤ v) (h1 : v < p) : (1 * u + 1 * (1 * (((p - 1) * u + 1 * v + 0) % p) % p) + 0) % p = v := by
  rw [Int.one_mul, Int.one_mul, Int.one_mul, Int.one_mul, Int.add_zero, Int.add_zero, Int.emod_emod, Int.add_emod_emod]
  have : u + ((p - 1) * u + v) = v + p * u := by rw [Int.sub_mul, Int.one_mul]; omega
  rw [this, Int.add_mul_emod_self_left, Int.emod_eq_of_lt h0 h1]
theorem sel_zero {p u x : Int} (h0 : 0 ≤ u) (h1 : u < p) : (1 * u + 1 * (0 * x % p) + 0) % p = u := by
  rw [Int.zero_mul, Int.zero_emod, Int.mul_zero, Int.add_zero, Int.add_zero, Int.one_mul, Int.emod_eq_of_lt h0 h1]

section
variable {xs V : List Int} {d : Bd} {c : Prop}
theorem Sm.select (h : Sm xs d V c) {x u v : Int} (hx : 0 ≤ x ∧ x < V.length) (hu : 0 ≤ u ∧ u < V.length) (hv : 0 ≤ v ∧ v < V.length) (hb : at0 V x = 0 ∨ at0 V x = 1) (hr : d.rows.length + 3 ≤ 8000) (hn : d.nv + 3 ≤ 40000) :
    ∃ W, Sm xs (mSelect d x u v).1 W c ∧ V <+: W ∧ W.length = V.length + 3 ∧ (mSelect d x u v).1.f = d.f ∧ (mSelect d x u v).1.rows.length = d.rows.length + 3 ∧ (0 ≤ (mSelect d x u v).2 ∧ (mSelect d x u v).2 < W.length) ∧
      at0 W (mSelect d x u v).2 = if at0 V x = 1 then at0 V v else at0 V u := by
  have hp := fP_one h.f
  have hlen := h.len
  obtain ⟨a1, a2, a3, h1⟩ := h.linear (x := fP d.f - 1) (y := 1) (z := 0) hu hv (by omega) (by omega) (by omega) (by omega) (by omega)
  have l1 := h1.len
  have hV1 : (V ++ [((fP d.f - 1) * at0 V u + 1 * at0 V v + 0) % fP d.f]).length = V.length + 1 := by simp
  have g1 : at0 (V ++ [((fP d.f - 1) * at0 V u + 1 * at0 V v + 0) % fP d.f]) (V.length : Nat) = ((fP d.f - 1) * at0 V u + 1 * at0 V v + 0) % fP d.f := at0_last (W := [])
  have k1 : ∀ i : Int, 0 ≤ i ∧ i < V.length → at0 (V ++ [((fP d.f - 1) * at0 V u + 1 * at0 V v + 0) % fP d.f]) i = at0 V i := fun i hi => at0_app hi.1 hi.2
  have p1 : V <+: V ++ [((fP d.f - 1) * at0 V u + 1 * at0 V v + 0) % fP d.f] := List.prefix_append _ _
  generalize hd1 : mLinear d u v (fP d.f - 1) 1 0 = D1 at a1 a2 a3 h1 l1
  generalize V ++ [((fP d.f - 1) * at0 V u + 1 * at0 V v + 0) % fP d.f] = V1 at *
  obtain ⟨b1, b2, b3, h2⟩ := h1.mul (u := x) (v := D1.2) (by omega) (by omega) (by omega) (by omega)
  have l2 := h2.len
  rw [a1, g1, k1 x hx, a2] at h2
  have hV2 : (V1 ++ [at0 V x * (((fP d.f - 1) * at0 V u + 1 * at0 V v + 0) % fP d.f) % fP d.f]).length = V1.length + 1 := by simp
  have g2 : at0 (V1 ++ [at0 V x * (((fP d.f - 1) * at0 V u + 1 * at0 V v + 0) % fP d.f) % fP d.f]) (V1.length : Nat) = at0 V x * (((fP d.f - 1) * at0 V u + 1 * at0 V v + 0) % fP d.f) % fP d.f := at0_last (W := [])
  have p2 : V1 <+: V1 ++ [at0 V x * (((fP d.f - 1) * at0 V u + 1 * at0 V v + 0) % fP d.f) % fP d.f] := List.prefix_append _ _
  rw [← a1] at h2
  generalize hd2 : mMul D1.1 x D1.2 = D2 at b1 b2 b3 h2 l2
  generalize V1 ++ [at0 V x * (((fP d.f - 1) * at0 V u + 1 * at0 V v + 0) % fP d.f) % fP d.f] = V2 at *
  have l2' := h2.len
  obtain ⟨c1, c2, c3, h3⟩ := h2.linear (u := u) (v := D2.2) (x := 1) (y := 1) (z := 0) (by omega) (by omega) (by rw [b2, a2]; omega) (by rw [b2, a2]; omega) (by rw [b2, a2]; omega) (by omega) (by omega)
  rw [b1, g2, at0_pre (p1.trans p2) hu, b2, a2] at h3
  have em : mSelect d x u v = mLinear D2.1 u D2.2 1 1 0 := by
    unfold mSelect
    rw [h.kn (l := [x, u, v]) (by simp; omega), nums_t (by simp), Bool.and_true, mready_t h.e, if_pos rfl, hd1, hd2, undo_ok]
    rw [← b1] at h3
    exact h3.e
  rw [em]
  refine ⟨_, by rw [← b1] at h3; exact h3, (p1.trans p2).trans (List.prefix_append _ _), by rw [List.length_append, List.length_singleton]; omega, by rw [c2, b2, a2], by rw [c3, b3, a3], ?_, ?_⟩
  · rw [c1, List.length_append]; simp only [List.length_cons, List.length_nil]; omega
  · rw [c1]
    have g3 : ∀ z : Int, at0 (V2 ++ [z]) (V2.length : Nat) = z := fun z => at0_last (W := [])
    rw [g3]
    rcases hb with hb | hb
    · rw [hb, if_neg (by decide)]
      exact sel_zero (h.val hu).1 (h.val hu).2
    · rw [hb, if_pos rfl]
      exact sel_one (h.val hv).1 (h.val hv).2

theorem Sm.selp (h : Sm xs d V c) {x : Int} {p q P Q : Int × Int} (hx : 0 ≤ x ∧ x < V.length) (hp : Pv V p P) (hq : Pv V q Q) (hb : at0 V x = 0 ∨ at0 V x = 1) (hr : d.rows.length + 6 ≤ 8000) (hn : d.nv + 6 ≤ 40000) :
    ∃ W, Sm xs (sel2 d x p q).1 W c ∧ V <+: W ∧ W.length = V.length + 6 ∧ (sel2 d x p q).1.f = d.f ∧ (sel2 d x p q).1.rows.length = d.rows.length + 6 ∧ Pv W (sel2 d x p q).2 (if at0 V x = 1 then Q else P) := by
  have hlen := h.len
  obtain ⟨W1, s1, p1, l1, f1, r1, i1, v1⟩ := h.select hx hp.r1 hq.r1 hb (by omega) (by omega)
  have e1 : mSelect d x p.1 q.1 = selA d x p q := rfl
  rw [e1] at s1 f1 r1 i1 v1
  have hlen1 := s1.len
  have hp1 := hp.pre p1
  have hq1 := hq.pre p1
  have hx1 := at0_pre p1 hx
  obtain ⟨W2, s2, p2, l2, f2, r2, i2, v2⟩ := s1.select (x := x) (u := p.2) (v := q.2) (by omega) hp1.r2 hq1.r2 (by rw [hx1]; exact hb) (by omega) (by omega)
  have e2 : mSelect (selA d x p q).1 x p.2 q.2 = selB d x p q := rfl
  rw [e2] at s2 f2 r2 i2 v2
  have hl2 := p2.length_le
  refine ⟨W2, s2, p1.trans p2, by omega, f2.trans f1, by show (selB d x p q).1.rows.length = _; omega, by show 0 ≤ (selA d x p q).2 ∧ (selA d x p q).2 < (W2.length : Int); omega, i2, ?_, ?_⟩
  · show at0 W2 (selA d x p q).2 = _
    rw [at0_pre p2 i1, v1, hp.v1, hq.v1]
    split <;> rfl
  · show at0 W2 (selB d x p q).2 = _
    rw [v2, hx1, hp1.v2, hq1.v2]
    split <;> rfl

theorem Sm.node (h : Sm xs d V c) {p q P Q : Int × Int} (hp : Pv V p P) (hq : Pv V q Q) (hr : d.rows.length + 11 ≤ 8000) (hn : d.nv + 34 ≤ 40000) :
    ∃ W, Sm xs (mNode d p q).1 W c ∧ V <+: W ∧ W.length = V.length + 34 ∧ (mNode d p q).1.f = d.f ∧ (mNode d p q).1.rows.length = d.rows.length + 11 ∧ Pv W (mNode d p q).2 (nodeM d.f P Q) := by
  have hlen := h.len
  have hp0 := fP_one h.f
  have sw : Sw xs d ⟨p.1, p.2, q.1, q.2⟩ V c [P.1, P.2, Q.1, Q.2] := by
    refine ⟨h, fun v hv => ?_, ?_⟩
    · simp only [W4.list, List.mem_cons, List.not_mem_nil, or_false] at hv
      rcases hv with rfl | rfl | rfl | rfl
      · exact hp.r1
      · exact hp.r2
      · exact hq.r1
      · exact hq.r2
    · show [_, _, _, _] = _
      rw [hp.v1, hp.v2, hq.v1, hq.v2]
  obtain ⟨V1, p1, l1, s1, f1, r1⟩ := sw.perm (by omega) (by omega)
  have e1 : mPerm d ⟨p.1, p.2, q.1, q.2⟩ = nodeP d p q := rfl
  rw [e1] at s1 f1 r1
  have hl1 := s1.sm.len
  have w1 := s1.wi (nodeP d p q).2.a (by simp [W4.list])
  have w2 := s1.wi (nodeP d p q).2.b (by simp [W4.list])
  have q1 := s1.at
  have hpa := hp.pre p1
  obtain ⟨a1, a2, a3, h2⟩ := s1.sm.linear (u := (nodeP d p q).2.a) (v := p.1) (x := 1) (y := 1) (z := 0) w1 hpa.r1 (by rw [f1]; omega) (by rw [f1]; omega) (by rw [f1]; omega) (by omega) (by omega)
  have e2 : mLinear (nodeP d p q).1 (nodeP d p q).2.a p.1 1 1 0 = nodeX d p q := rfl
  rw [e2] at a1 a2 a3 h2
  have ev1 : (1 * at0 V1 (nodeP d p q).2.a + 1 * at0 V1 p.1 + 0) % fP (nodeP d p q).1.f = (nodeM d.f P Q).1 := by
    unfold nodeM
    rw [f1, q1, fAdd_v h.f, hpa.v1, Int.one_mul, Int.one_mul, Int.add_zero]
    rfl
  rw [ev1] at h2
  have pp : V1 <+: V1 ++ [(nodeM d.f P Q).1] := List.prefix_append _ _
  have hl2 := h2.len
  have hVl : (V1 ++ [(nodeM d.f P Q).1]).length = V1.length + 1 := by simp
  have hpb := hpa.pre pp
  obtain ⟨b1, b2, b3, h3⟩ := h2.linear (u := (nodeP d p q).2.b) (v := p.2) (x := 1) (y := 1) (z := 0) (by omega) hpb.r2 (by rw [a2, f1]; omega) (by rw [a2, f1]; omega) (by rw [a2, f1]; omega) (by omega) (by omega)
  have e3 : mLinear (nodeX d p q).1 (nodeP d p q).2.b p.2 1 1 0 = nodeY d p q := rfl
  rw [e3] at b1 b2 b3 h3
  have ev2 : (1 * at0 (V1 ++ [(nodeM d.f P Q).1]) (nodeP d p q).2.b + 1 * at0 (V1 ++ [(nodeM d.f P Q).1]) p.2 + 0) % fP (nodeX d p q).1.f = (nodeM d.f P Q).2 := by
    rw [a2, f1, hpb.v2, at0_pre pp w2, Int.one_mul, Int.one_mul, Int.add_zero]
    show _ = fAdd d.f (at0 (pst d.f [P.1, P.2, Q.1, Q.2] 8) 1) P.2
    rw [fAdd_v h.f, q1]
    rfl
  rw [ev2] at h3
  have em : mNode d p q = ((nodeY d p q).1, ((nodeX d p q).2, (nodeY d p q).2)) := by
    unfold mNode mPair
    rw [h.kn (l := [p.1, p.2, q.1, q.2]) (fun v hv => by
      have := sw.wi v
      exact this hv), nums_t (by simp), Bool.and_true, mready_t h.e, if_pos rfl, undo_ok h3.e, if_neg (by simpa using h3.e)]
  rw [em]
  have hVl2 : (V1 ++ [(nodeM d.f P Q).1] ++ [(nodeM d.f P Q).2]).length = V1.length + 2 := by simp
  refine ⟨_, h3, p1.trans (pp.trans (List.prefix_append _ _)), by rw [hVl2]; omega, b2.trans (a2.trans f1), by show (nodeY d p q).1.rows.length = _; omega, ?_, ?_, ?_, ?_⟩
  · show 0 ≤ (nodeX d p q).2 ∧ (nodeX d p q).2 < _
    rw [a1, hVl2]; omega
  · show 0 ≤ (nodeY d p q).2 ∧ (nodeY d p q).2 < _
    rw [b1, hVl2, hVl]; omega
  · show at0 _ (nodeX d p q).2 = _
    rw [a1, at0_app (by omega) (by rw [hVl]; omega)]
    exact at0_last (W := [])
  · show at0 _ (nodeY d p q).2 = _
    rw [b1]
    exact at0_last (W := [])

/-- The nodes on a path, from a leaf on. -/
def climbN (f : Int) (b : Nat → Int) (x : Int × Int) (path : List (Int × Int)) : Nat → Int × Int
  | 0 => x
  | j + 1 => if b j = 1 then nodeM f (path.getD j (0, 0)) (climbN f b x path j) else nodeM f (climbN f b x path j) (path.getD j (0, 0))

theorem climbN_congr {f : Int} {b b' : Nat → Int} {x : Int × Int} {path : List (Int × Int)} : ∀ {n : Nat}, (∀ j, j < n → b j = b' j) → climbN f b x path n = climbN f b' x path n
  | 0, _ => rfl
  | n + 1, h => by
    rw [climbN, climbN, climbN_congr fun j hj => h j (by omega), h n (by omega)]

theorem Sm.climbs (h : Sm xs d V c) {bits : List Int} {leaf L : Int × Int} {path Q : List (Int × Int)} (hl : Pv V leaf L) (hb : ∀ j : Nat, j < path.length → 0 ≤ at0 bits j ∧ at0 bits j < V.length ∧ (at0 V (at0 bits j) = 0 ∨ at0 V (at0 bits j) = 1)) (hq : ∀ j : Nat, j < path.length → Pv V (path.getD j (0, 0)) (Q.getD j (0, 0))) : ∀ i, i ≤ path.length → d.rows.length + 23 * i ≤ 8000 → d.nv + 46 * i ≤ 40000 →
    ∃ W, Sm xs (climbI bits path (d, leaf) i).1 W c ∧ V <+: W ∧ W.length = V.length + 46 * i ∧ (climbI bits path (d, leaf) i).1.f = d.f ∧ (climbI bits path (d, leaf) i).1.rows.length = d.rows.length + 23 * i ∧ Pv W (climbI bits path (d, leaf) i).2 (climbN d.f (fun j => at0 V (at0 bits j)) L Q i)
  | 0, _, _, _ => ⟨V, h, List.prefix_refl _, rfl, rfl, rfl, hl⟩
  | i + 1, hi, hr, hn => by
    obtain ⟨W, s1, p1, l1, f1, r1, v1⟩ := h.climbs hl hb hq i (by omega) (by omega) (by omega)
    have hlen := h.len
    have hlen1 := s1.len
    obtain ⟨b0, b1, bv⟩ := hb i (by omega)
    have hqi := (hq i (by omega)).pre p1
    have hxi := at0_pre p1 ⟨b0, b1⟩
    have hstep : climbI bits path (d, leaf) (i + 1) = climbS (climbI bits path (d, leaf) i).1 (at0 bits i) (climbI bits path (d, leaf) i).2 (path.getD i (0, 0)) := rfl
    rw [hstep, climbN]
    generalize climbI bits path (d, leaf) i = C at s1 l1 f1 r1 v1 hlen1 ⊢
    obtain ⟨dc, pc⟩ := C
    generalize path.getD i (0, 0) = q at hqi ⊢
    generalize Q.getD i (0, 0) = qv at hqi ⊢
    generalize climbN d.f (fun j => at0 V (at0 bits j)) L Q i = xv at v1 ⊢
    simp only at s1 l1 f1 r1 v1 hlen1 ⊢
    obtain ⟨W2, s2, p2, l2, f2, r2, v2⟩ := s1.selp (x := at0 bits i) (by omega) v1 hqi (by rw [hxi]; exact bv) (by omega) (by omega)
    have e2 : sel2 dc (at0 bits i) pc q = climbL dc (at0 bits i) pc q := rfl
    rw [e2] at s2 f2 r2 v2
    have hlen2 := s2.len
    have hx2 := at0_pre (p1.trans p2) ⟨b0, b1⟩
    obtain ⟨W3, s3, p3, l3, f3, r3, v3⟩ := s2.selp (x := at0 bits i) (by omega) (hqi.pre p2) (v1.pre p2) (by rw [hx2]; exact bv) (by omega) (by omega)
    have e3 : sel2 (climbL dc (at0 bits i) pc q).1 (at0 bits i) q pc = climbR dc (at0 bits i) pc q := rfl
    rw [e3] at s3 f3 r3 v3
    have hlen3 := s3.len
    obtain ⟨W4, s4, p4, l4, f4, r4, v4⟩ := s3.node (v2.pre p3) v3 (by omega) (by omega)
    have e4 : mNode (climbR dc (at0 bits i) pc q).1 (climbL dc (at0 bits i) pc q).2 (climbR dc (at0 bits i) pc q).2 = climbS dc (at0 bits i) pc q := rfl
    rw [e4] at s4 f4 r4 v4
    refine ⟨W4, s4, p1.trans (p2.trans (p3.trans p4)), by omega, f4.trans (f3.trans (f2.trans f1)), by omega, ?_⟩
    rw [f3, f2, f1, hxi, hx2] at v4
    rcases bv with e | e
    · rw [e, if_neg (by decide), if_neg (by decide)] at v4
      rw [e, if_neg (by decide)]
      exact v4
    · rw [e, if_pos rfl, if_pos rfl] at v4
      rw [e, if_pos rfl]
      exact v4

theorem Sm.climb (h : Sm xs d V c) {bits : List Int} {leaf L : Int × Int} {path Q : List (Int × Int)} (hl : Pv V leaf L) (hbl : path.length ≤ bits.length) (hb : ∀ j : Nat, j < bits.length → 0 ≤ at0 bits j ∧ at0 bits j < V.length ∧ (at0 V (at0 bits j) = 0 ∨ at0 V (at0 bits j) = 1)) (hq : ∀ j : Nat, j < path.length → Pv V (path.getD j (0, 0)) (Q.getD j (0, 0))) (hr : d.rows.length + 23 * path.length ≤ 8000) (hn : d.nv + 46 * path.length ≤ 40000) :
    ∃ W, Sm xs (mClimb d bits leaf path).1 W c ∧ V <+: W ∧ Pv W (mClimb d bits leaf path).2 (climbN d.f (fun j => at0 V (at0 bits j)) L Q path.length) := by
  obtain ⟨W, s1, p1, l1, f1, r1, v1⟩ := h.climbs hl (fun j hj => hb j (by omega)) hq path.length (Nat.le_refl _) hr hn
  have hC : climbC d bits leaf path = true := by
    unfold climbC
    rw [h.kn (l := bits) (fun v hv => by
      obtain ⟨j, hj, rfl⟩ := List.getElem_of_mem hv
      have := hb j hj
      unfold at0 at this
      rw [Int.toNat_natCast, List.getElem?_eq_getElem hj] at this
      exact ⟨this.1, this.2.1⟩), h.kn (l := [leaf.1, leaf.2]) (by
      intro v hv
      simp only [List.mem_cons, List.not_mem_nil, or_false] at hv
      rcases hv with rfl | rfl
      · exact hl.r1
      · exact hl.r2), Bool.true_and, Bool.true_and, Bool.and_eq_true, decide_eq_true_eq, List.all_eq_true]
    refine ⟨fun p hp => ?_, hbl⟩
    obtain ⟨j, hj, rfl⟩ := List.getElem_of_mem hp
    have := hq j hj
    rw [List.getD_eq_getElem?_getD, List.getElem?_eq_getElem hj] at this
    exact h.kn (by
      intro v hv
      simp only [List.mem_cons, List.not_mem_nil, or_false] at hv
      rcases hv with rfl | rfl
      · exact this.r1
      · exact this.r2)
  have em : mClimb d bits leaf path = climbI bits path (d, leaf) path.length := by
    unfold mClimb mPair
    rw [hC, nums_t (by simp), Bool.and_true, mready_t h.e, if_pos rfl, undo_ok s1.e, if_neg (by simpa using s1.e)]
  rw [em]
  exact ⟨W, s1, p1, v1⟩

end
end Go.VE
/- CircuitClimbs: the plain law. -/
namespace Go.VE
open Go Go.Proofs
set_option maxRecDepth 20000
def mod2 (f : Int) (q : Int × Int) : Int × Int := (q.1 % fP f, q.2 % fP f)
def flat2 (l : List (Int × Int)) : List Int := l.flatMap fun q => [q.1, q.2]
def clBits (k : Int) : List Int := [bitAt k 0, bitAt k 1, bitAt k 2, bitAt k 3]
def clXs (f k : Int) (leaf : Int × Int) (path : List (Int × Int)) : List Int := clBits k ++ [(mod2 f leaf).1, (mod2 f leaf).2] ++ flat2 (path.map (mod2 f))
def clVars (n : Nat) : List (Int × Int) := (List.range n).map fun (i : Nat) => (6 + 2 * (i : Int), 7 + 2 * (i : Int))
noncomputable def clM (f : Int) (n : Nat) : Bd × Int × Int := mClimb (hsD0 f (6 + 2 * n)) [0, 1, 2, 3] (4, 5) (clVars n)

theorem flat2_len : ∀ l : List (Int × Int), (flat2 l).length = 2 * l.length
  | [] => rfl
  | q :: l => by
    show ([q.1, q.2] ++ flat2 l).length = _
    rw [List.length_append, flat2_len l]
    simp only [List.length_cons, List.length_nil]
    omega
theorem flat2_get : ∀ (l : List (Int × Int)) (j : Nat), j < l.length → (flat2 l)[2 * j]? = some (l.getD j (0, 0)).1 ∧ (flat2 l)[2 * j + 1]? = some (l.getD j (0, 0)).2
  | q :: l, 0, _ => ⟨rfl, rfl⟩
  | q :: l, j + 1, h => by
    have := flat2_get l j (by simpa using h)
    exact this
theorem clXs_len (f k : Int) (leaf : Int × Int) (path : List (Int × Int)) : (clXs f k leaf path).length = 6 + 2 * path.length := by
  unfold clXs
  rw [List.length_append, flat2_len, List.length_map]; rfl
theorem clVars_len (n : Nat) : (clVars n).length = n := by unfold clVars; rw [List.length_map, List.length_range]
theorem clVars_get {n j : Nat} (h : j < n) : (clVars n).getD j (0, 0) = (6 + 2 * (j : Int), 7 + 2 * (j : Int)) := by
  unfold clVars
  rw [List.getD_eq_getElem?_getD, List.getElem?_map, List.getElem?_range h]; rfl
theorem clXs_bit (f k : Int) (leaf : Int × Int) (path : List (Int × Int)) {j : Nat} (h : j < 4) : at0 (clXs f k leaf path) j = bitAt k j := by
  match j, h with
  | 0, _ => rfl
  | 1, _ => rfl
  | 2, _ => rfl
  | 3, _ => rfl
theorem clXs_path (f k : Int) (leaf : Int × Int) (path : List (Int × Int)) {j : Nat} (h : j < path.length) : at0 (clXs f k leaf path) (6 + 2 * (j : Int)) = ((path.map (mod2 f)).getD j (0, 0)).1 ∧ at0 (clXs f k leaf path) (7 + 2 * (j : Int)) = ((path.map (mod2 f)).getD j (0, 0)).2 := by
  obtain ⟨a, b⟩ := flat2_get (path.map (mod2 f)) j (by rw [List.length_map]; exact h)
  have hl : (clBits k ++ [(mod2 f leaf).1, (mod2 f leaf).2]).length = 6 := rfl
  unfold at0 clXs
  constructor
  · rw [List.getElem?_append_right (by omega), hl, show (6 + 2 * (j : Int)).toNat - 6 = 2 * j by omega, a]; rfl
  · rw [List.getElem?_append_right (by omega), hl, show (7 + 2 * (j : Int)).toNat - 6 = 2 * j + 1 by omega, b]; rfl
theorem bitAt_two (k : Int) (j : Nat) : bitAt k j = 0 ∨ bitAt k j = 1 := by
  unfold bitAt
  have h1 := Int.emod_nonneg (k / 2 ^ j) (show (2 : Int) ≠ 0 by decide)
  have h2 := Int.emod_lt_of_pos (k / 2 ^ j) (show (0 : Int) < 2 by decide)
  omega
theorem cl_plain {f k : Int} (hv : fV f = true) {leaf : Int × Int} {path : List (Int × Int)} (hl : path.length ≤ 4) :
    ∃ V, Sm (clXs f k leaf path) (clM f path.length).1 V True ∧ Pv V (clM f path.length).2 (climbN f (bitAt k) (mod2 f leaf) (path.map (mod2 f)) path.length) := by
  have hp := fP_one hv
  have hm : ∀ y : Int, 0 ≤ y % fP f ∧ y % fP f < fP f := fun y => ⟨Int.emod_nonneg _ (by omega), Int.emod_lt_of_pos _ (by omega)⟩
  have hxl := clXs_len f k leaf path
  have hbit : ∀ j, 0 ≤ bitAt k j ∧ bitAt k j < fP f := fun j => by rcases bitAt_two k j with e | e <;> rw [e] <;> omega
  have hst := Sm.start (xs := clXs f k leaf path) (f := f) hv (by omega) (fun y hy => by
    unfold clXs clBits at hy
    simp only [List.mem_append, List.mem_cons, List.not_mem_nil, or_false] at hy
    rcases hy with ((rfl | rfl | rfl | rfl) | (rfl | rfl)) | hy
    · exact hbit 0
    · exact hbit 1
    · exact hbit 2
    · exact hbit 3
    · exact hm _
    · exact hm _
    · unfold flat2 at hy
      simp only [List.mem_flatMap, List.mem_map, List.mem_cons, List.not_mem_nil, or_false] at hy
      obtain ⟨_, ⟨q, _, rfl⟩, rfl | rfl⟩ := hy
      · exact hm _
      · exact hm _)
  rw [hxl] at hst
  have e0 : (⟨f, ((6 + 2 * path.length : Nat) : Int), 0, ((6 + 2 * path.length : Nat) : Int), [], 0⟩ : Bd) = hsD0 f (6 + 2 * path.length) := rfl
  rw [e0] at hst
  have hr0 : (hsD0 f (6 + 2 * path.length)).rows.length = 0 := rfl
  have hn0 : (hsD0 f (6 + 2 * path.length)).nv = ((6 + 2 * path.length : Nat) : Int) := rfl
  have hvl := clVars_len path.length
  have hb4 : ∀ j : Nat, j < 4 → at0 [0, 1, 2, 3] (j : Int) = (j : Int) := fun j hj => by
    match j, hj with
    | 0, _ => rfl
    | 1, _ => rfl
    | 2, _ => rfl
    | 3, _ => rfl
  obtain ⟨V, h1, h2, h3⟩ := hst.climb (bits := [0, 1, 2, 3]) (leaf := (4, 5)) (L := mod2 f leaf) (path := clVars path.length) (Q := path.map (mod2 f)) ⟨by show (0 : Int) ≤ 4 ∧ (4 : Int) < _; omega, by show (0 : Int) ≤ 5 ∧ (5 : Int) < _; omega, rfl, rfl⟩ (by rw [hvl]; exact hl) (fun j hj => by
    rw [hb4 j hj, clXs_bit f k leaf path hj]
    have : j < 4 := hj
    exact ⟨by omega, by omega, bitAt_two k j⟩) (fun j hj => by
    rw [hvl] at hj
    rw [clVars_get hj]
    obtain ⟨a, b⟩ := clXs_path f k leaf path hj
    exact ⟨by show (0 : Int) ≤ 6 + 2 * (j : Int) ∧ 6 + 2 * (j : Int) < _; omega, by show (0 : Int) ≤ 7 + 2 * (j : Int) ∧ 7 + 2 * (j : Int) < _; omega, a, b⟩) (by rw [hvl, hr0]; omega) (by rw [hvl, hn0]; omega)
  refine ⟨V, h1, ?_⟩
  rw [hvl] at h3
  have hc : climbN (hsD0 f (6 + 2 * path.length)).f (fun j => at0 (clXs f k leaf path) (at0 [0, 1, 2, 3] j)) (mod2 f leaf) (path.map (mod2 f)) path.length = climbN f (bitAt k) (mod2 f leaf) (path.map (mod2 f)) path.length := climbN_congr fun j hj => by
    show at0 (clXs f k leaf path) (at0 [0, 1, 2, 3] j) = bitAt k j
    rw [hb4 j (by omega), clXs_bit f k leaf path (by omega)]
  rw [hc] at h3
  exact h3

end Go.VE
/- The references of the trees: Node, Proper, All, Climb. -/
namespace Go.VE
open Go Go.Proofs
set_option maxRecDepth 20000
theorem dgi0 (A o : Nat) : aindexAddr P 43 (.pointer (some ⟨A, o, none⟩)) (.int .i64 0) = some (.pointer (some ⟨A, o, none⟩)) := by kernel_rfl
theorem dgi1 (A o : Nat) : aindexAddr P 43 (.pointer (some ⟨A, o, none⟩)) (.int .i64 1) = some (.pointer (some ⟨A, o + 1, none⟩)) := by kernel_rfl
theorem d2i0 (A : Nat) : aindexAddr P 109 (ptr A) (.int .i64 0) = some (.pointer (some ⟨A, 0, none⟩)) := by kernel_rfl
theorem d2i1 (A : Nat) : aindexAddr P 109 (ptr A) (.int .i64 1) = some (.pointer (some ⟨A, 2, none⟩)) := by kernel_rfl
theorem prc_0 (k : IntKind) (p : Int × Int) : (prc k p)[0]? = some (.int k p.1) := rfl
theorem prc_1 (k : IntKind) (p : Int × Int) : (prc k p)[1]? = some (.int k p.2) := rfl
theorem build22 (p q : Int × Int) : abuild P 109 (partVals .e [(0, .const (.agg (.mk (prc .u64 p)))), (1, .const (.agg (.mk (prc .u64 q))))]) = some (.agg (.mk (prc .u64 p ++ prc .u64 q))) := by kernel_rfl

def Nn2 (p : Int × Int) : Prop := 0 ≤ p.1 ∧ 0 ≤ p.2
def properB (f : Int) (p : Int × Int) : Bool := decide (p.1 < fP f) && decide (p.2 < fP f)

section
variable {ro : Nat} {s : St} {K : Value → St → Prop}
theorem wNode (f : Int) (hv : fV f = true) {p q : Int × Int} (hp : Nn2 p) (hq : Nn2 q) (hw : Wf s) (hro : ro ≤ s.n) :
    CallWP P ro 61 [.int .i64 f, .agg (.mk (prc .u64 p)), .agg (.mk (prc .u64 q))] s K = K (.agg (.mk (prc .u64 (nodeM f p q)))) s := by
  refine callEq (call_wp b61 rfl ?_) K
  rw [n61]
  unfold v61
  simp (maxSteps := 10000000) only [wW, reduceCtorEq, Nat.reduceEqDiff]
  refine box_rule hw.ent fun X s1 m1 => ?_
  refine box_rule m1.wf fun Y s2 m2 => ?_
  refine alloc_rule ty_43 m2.wf fun R s3 m3 => ?_
  have e1 := m1.eq
  have e2 := m2.eq
  have e3 := m3.eq
  have n1 := m1.n
  have n2 := m2.n
  have n3 := m3.n
  have hn0 : (ent s).n = s.n := rfl
  have hX : s3.at X = some (.cells (prc .u64 p) 43 false) := (m3.grew.same X (by omega)).trans ((m2.grew.same X (by omega)).trans m1.here)
  have hY : s3.at Y = some (.cells (prc .u64 q) 43 false) := (m3.grew.same Y (by omega)).trans m2.here
  have g3 := m1.grew.trans (m2.grew.trans m3.grew)
  simp (maxSteps := 10000000) only [wW, reduceCtorEq, Nat.reduceEqDiff, wL, Nat.reduceAdd, wrValid, hv, Bool.true_eq_false, dgi0, dgi1, Nat.zero_add, acells_some hX, acells_some hY, prc_0, prc_1, build4u]
  rw [wPerm f hv (l := [p.1, p.2, q.1, q.2]) rfl (fun x hx => by
    simp only [List.mem_cons, List.not_mem_nil, or_false] at hx
    rcases hx with rfl | rfl | rfl | rfl
    · exact hp.1
    · exact hp.2
    · exact hq.1
    · exact hq.2) m3.wf (by omega)]
  have hl := pst_len f (s := [p.1, p.2, q.1, q.2]) rfl 8
  have hnn := pst_nn (f := f) (s := [p.1, p.2, q.1, q.2]) (fun x hx => by
    simp only [List.mem_cons, List.not_mem_nil, or_false] at hx
    rcases hx with rfl | rfl | rfl | rfl
    · exact hp.1
    · exact hp.2
    · exact hq.1
    · exact hq.2) 8
  have hN : nodeM f p q = (fAdd f (at0 (pst f [p.1, p.2, q.1, q.2] 8) 0) p.1, fAdd f (at0 (pst f [p.1, p.2, q.1, q.2] 8) 1) p.2) := rfl
  rw [hN]
  generalize pst f [p.1, p.2, q.1, q.2] 8 = t at hl hnn ⊢
  have hle : (u4 t).length = 4 := by rw [u4_len]; exact hl
  refine alloc_rule ty_58 m3.wf fun S s4 m4 => ?_
  have e4 := m4.eq
  have n4 := m4.n
  refine storeAll_rule isz_58 m4.here hle (by decide) m4.wf (by omega) rfl (u4_one _) fun s5 p5 => ?_
  have n5 := p5.n
  have keep : ∀ A, A < s3.n → s5.at A = s3.at A := fun A hA => (p5.rest A (by omega)).trans (m4.grew.same A hA)
  have hX5 := (keep X (by omega)).trans hX
  have g0 : (u4 t)[0]? = some (.int .u64 (at0 t 0)) := u4_get (l := t) (i := 0) (by omega)
  have g1 : (u4 t)[1]? = some (.int .u64 (at0 t 1)) := u4_get (l := t) (i := 1) (by omega)
  have hi : ∀ z : Int, veq (.int .u64 z) (.int .u64 z) = true := fun z => by simp [veq]
  simp (maxSteps := 10000000) only [wW, reduceCtorEq, Nat.reduceEqDiff, wL, Nat.reduceAdd, sx0, sx1, dgi0, dgi1, Nat.zero_add, acells_some hX5, acells_some p5.here, g0, g1, prc_0, prc_1, hi, true_and]
  rw [wrAdd f (at0_nn hnn 0) hp.1]
  refine ⟨.refl _, ?_⟩
  rw [wrAdd f (at0_nn hnn 1) hp.2, build2u, wopt_some]
  have hR5 := (keep R (by omega)).trans m3.here
  refine storeAll_rule isz_43 hR5 (l := prc .u64 (fAdd f (at0 t 0) p.1, fAdd f (at0 t 1) p.2)) rfl (by decide) p5.wf (by omega) rfl rfl fun s6 p6 => ?_
  rw [load_all ap_43 p6.here rfl, wopt_some]
  exact fin_flat rfl (p6.grew _ hw.ent (p5.grew _ hw.ent (g3.trans m4.grew) (by omega)) (by omega)) ⟨rfl, rfl⟩

theorem wProper (f : Int) (p : Int × Int) (hw : Wf s) : CallWP P ro 58 [.int .i64 f, .agg (.mk (prc .u64 p))] s K = K (.bool (properB f p)) s := by
  refine callEq (call_wp b58 rfl ?_) K
  rw [n58]
  unfold v58
  simp (maxSteps := 10000000) only [wW, reduceCtorEq, Nat.reduceEqDiff]
  refine box_rule hw.ent fun X s1 m1 => ?_
  have hX : s1.at X = some (.cells (prc .u64 p) 43 false) := m1.here
  have hi : ∀ z : Int, veq (.int .u64 z) (.int .u64 z) = true := fun z => by simp [veq]
  simp (maxSteps := 10000000) only [wW, reduceCtorEq, Nat.reduceEqDiff, wL, Nat.reduceAdd, dgi0, dgi1, Nat.zero_add, acells_some hX, prc_0, prc_1, hi, true_and, wrP]
  refine ⟨.refl _, ?_⟩
  unfold properB
  by_cases h1 : p.1 < fP f
  · rw [if_pos h1]
    refine ⟨.refl _, ?_⟩
    rw [decide_eq_true h1, Bool.true_and]
    exact fin_flat rfl m1.grew ⟨rfl, rfl⟩
  · rw [if_neg h1, decide_eq_false h1, Bool.false_and]
    exact fin_flat rfl m1.grew ⟨rfl, rfl⟩

theorem wAll (f : Int) {u : Value} {l : List (Int × Int)} (hu : Prs .u64 s u l) (hlen : l.length < 2 ^ 60) (hw : Wf s) : CallWP P ro 59 [.int .i64 f, u] s K = K (.bool (l.all (properB f))) s := by
  refine callEq (call_wp b59 rfl ?_) K
  rw [n59]
  unfold v59
  refine wloop l59_10100 m59_10100 (fun (i : Nat) τ ds s' => i ≤ l.length ∧ τ 0 = .int .i64 f ∧ τ 1 = u ∧ τ 5 = .int .i64 i ∧ ds = [] ∧ s' = ent s ∧ (l.take i).all (properB f) = true) (fun i => l.length - i) ?_ 0 ⟨Nat.zero_le _, rfl, rfl, rfl, rfl, rfl, rfl⟩
  rintro i τ ds s' ⟨hi, t0, t1, t5, rfl, rfl, ha⟩
  rw [n59_10100]
  unfold v59_10100
  simp (maxSteps := 10000000) only [wW, reduceCtorEq, Nat.reduceEqDiff, t0, t1, t5, Sl.wlen hu se_44]
  by_cases hlt : i < l.length
  · rw [if_pos (by omega)]
    obtain ⟨A5, o5, c5, z1, z2, z3, z4, z5⟩ := Prs.at (Sl.ent hu) se_44 isz_43 (List.getElem?_eq_getElem hlt)
    rw [wop_indexAddr, z1, wopt_some, wop_load, loadN ap_43, z2, Option.bind_some, z3, Option.map_some, wopt_some]
    show CallWP P ro 58 [.int .i64 f, .agg (.mk (prc .u64 l[i]))] (ent s) _
    rw [wProper f _ hw.ent]
    have hts := take_succ_eq (List.getElem?_eq_getElem hlt)
    cases hp : properB f l[i] with
    | true =>
      simp (maxSteps := 10000000) only [wW, reduceCtorEq, Nat.reduceEqDiff]
      rw [wrap_i64 (by omega) (by omega)]
      refine ⟨i + 1, by omega, by omega, ?_, ?_, ?_, trivial, trivial, ?_⟩
      · simp only [U, tset_eq, wW, reduceCtorEq, Nat.reduceEqDiff, t0]
      · simp only [U, tset_eq, wW, reduceCtorEq, Nat.reduceEqDiff, t1]
      · simp only [U, tset_eq, wW, reduceCtorEq, Nat.reduceEqDiff]; rfl
      · rw [hts, List.all_append, ha]
        simp [hp]
    | false =>
      simp (maxSteps := 10000000) only [wW, reduceCtorEq, Nat.reduceEqDiff]
      rw [xleave_U, r59]
      simp (maxSteps := 10000000) only [U, tset_eq, wW, reduceCtorEq, Nat.reduceEqDiff]
      refine fin_flat rfl (.refl _) ⟨?_, rfl⟩
      rw [Value.bool.injEq]
      exact (List.all_eq_false.2 ⟨l[i], List.getElem_mem _, by simp [hp]⟩).symm
  · obtain rfl : i = l.length := by omega
    rw [if_neg (by omega)]
    rw [List.take_of_length_le (Nat.le_refl _)] at ha
    rw [ha]
    exact fin_flat rfl (.refl _) ⟨rfl, rfl⟩

theorem wPair7 (i : Int) (hi : 0 ≤ i) (x q : Int × Int) (hw : Wf s) (hro : ro ≤ s.n) : CallWP P ro 60 [.int .i64 i, .agg (.mk (prc .u64 x)), .agg (.mk (prc .u64 q))] s K = K (.agg (.mk (if i % 2 = 1 then prc .u64 q ++ prc .u64 x else prc .u64 x ++ prc .u64 q))) s := by
  refine callEq (call_wp b60 rfl ?_) K
  rw [n60]
  unfold v60
  simp (maxSteps := 10000000) only [wW, reduceCtorEq, Nat.reduceEqDiff]
  refine box_rule hw.ent fun X s1 m1 => ?_
  refine box_rule m1.wf fun Y s2 m2 => ?_
  refine alloc_rule ty_109 m2.wf fun R s3 m3 => ?_
  have e1 := m1.eq
  have e2 := m2.eq
  have e3 := m3.eq
  have n1 := m1.n
  have n2 := m2.n
  have hn0 : (ent s).n = s.n := rfl
  have hX : s3.at X = some (.cells (prc .u64 x) 43 false) := (m3.grew.same X (by omega)).trans ((m2.grew.same X (by omega)).trans m1.here)
  have hY : s3.at Y = some (.cells (prc .u64 q) 43 false) := (m3.grew.same Y (by omega)).trans m2.here
  have g3 := m1.grew.trans (m2.grew.trans m3.grew)
  rw [int_rem keq_i64 _ _ (by decide), wopt_some, tmod_nonneg hi]
  simp (maxSteps := 10000000) only [wW, reduceCtorEq, Nat.reduceEqDiff, wop_load, load_all ap_43 hX rfl, load_all ap_43 hY rfl, build22]
  by_cases h1 : i % 2 = 1
  · rw [if_pos h1, if_pos h1]
    refine storeAll_rule isz_109 m3.here (l := prc .u64 q ++ prc .u64 x) rfl (by decide) m3.wf (by omega) rfl rfl fun s6 p6 => ?_
    rw [load_all ap_109 p6.here rfl, wopt_some]
    exact fin_flat rfl (p6.grew _ hw.ent g3 (by omega)) ⟨rfl, rfl⟩
  · rw [if_neg h1, if_neg h1]
    refine storeAll_rule isz_109 m3.here (l := prc .u64 x ++ prc .u64 q) rfl (by decide) m3.wf (by omega) rfl rfl fun s6 p6 => ?_
    rw [load_all ap_109 p6.here rfl, wopt_some]
    exact fin_flat rfl (p6.grew _ hw.ent g3 (by omega)) ⟨rfl, rfl⟩

theorem nodeM_nn (f : Int) (p q : Int × Int) : Nn2 (nodeM f p q) := ⟨(fAdd_bounds f _ _).1, (fAdd_bounds f _ _).1⟩
theorem climbN_nn {f : Int} {b : Nat → Int} {x : Int × Int} (hx : Nn2 x) (path : List (Int × Int)) : ∀ j, Nn2 (climbN f b x path j)
  | 0 => hx
  | j + 1 => by
    rw [climbN]
    split
    · exact nodeM_nn _ _ _
    · exact nodeM_nn _ _ _

/-- Which way the path goes at its j-th node. -/
def pbit (i : Int) (j : Nat) : Int := i / 2 ^ j % 2

theorem wClimb7 (f : Int) (hv : fV f = true) {i : Int} (hi : 0 ≤ i ∧ i < 2 ^ 60) {x : Int × Int} (hx : Nn2 x) (hpx : properB f x = true) {u : Value} {l : List (Int × Int)} (hu : Prs .u64 s u l) (hlen : l.length ≤ 18) (hl0 : ∀ q ∈ l, Nn2 q) (hpl : l.all (properB f) = true) (hw : Wf s) (hro : ro ≤ s.n) :
    CallWP P ro 19 [.int .i64 f, .int .i64 i, .agg (.mk (prc .u64 x)), u] s K = K (.agg (.mk (prc .u64 (climbN f (pbit i) x l l.length)))) s := by
  refine callEq (call_wp b19 rfl ?_) K
  rw [n19]
  unfold v19
  simp (maxSteps := 10000000) only [wW, reduceCtorEq, Nat.reduceEqDiff]
  refine box_rule hw.ent fun X s1 m1 => ?_
  refine alloc_rule ty_43 m1.wf fun R s2 m2 => ?_
  have e1 := m1.eq
  have e2 := m2.eq
  have n1 := m1.n
  have n2 := m2.n
  have hn0 : (ent s).n = s.n := rfl
  have hX : s2.at X = some (.cells (prc .u64 x) 43 false) := (m2.grew.same X (by omega)).trans m1.here
  have g2 := m1.grew.trans m2.grew
  have hu2 : Prs .u64 s2 u l := Sl.grew (Sl.ent hu) g2.same
  simp (maxSteps := 10000000) only [wW, reduceCtorEq, Nat.reduceEqDiff, wrValid, hv, Bool.true_eq_false, Sl.wlen hu se_44]
  rw [if_neg (by omega), if_neg (by omega), wop_load, load_all ap_43 hX rfl, wopt_some, wProper f _ m2.wf, hpx]
  simp (maxSteps := 10000000) only [wW, reduceCtorEq, Nat.reduceEqDiff]
  rw [wAll f hu2 (by omega) m2.wf, hpl]
  simp (maxSteps := 10000000) only [wW, reduceCtorEq, Nat.reduceEqDiff]
  refine load_rule (load_all ap_43 hX rfl) ?_
  refine alloc_rule ty_43 m2.wf fun N s3 m3 => ?_
  have e3 := m3.eq
  have n3 := m3.n
  refine storeAll_rule isz_43 m3.here (l := prc .u64 x) rfl (by decide) m3.wf (by omega) rfl rfl fun s4 p4 => ?_
  have n4 := p4.n
  have g4 := p4.grew _ hw.ent (g2.trans m3.grew) (by omega)
  have hR4 : s4.at R = some (.cells [.int .u64 0, .int .u64 0] 43 false) := (p4.rest R (by omega)).trans ((m3.grew.same R (by omega)).trans m2.here)
  refine wloop l19_1110100 m19_1110100 (fun (j : Nat) τ ds s' => j ≤ l.length ∧ τ 0 = .int .i64 f ∧ τ 1 = .int .i64 (i / 2 ^ j) ∧ τ 3 = u ∧ τ 8 = ptr R ∧ τ 9 = ptr N ∧ τ 10 = .int .i64 j ∧ ds = [] ∧ s4.n ≤ s'.n ∧ Wf s' ∧ Grew (ent s) s' ∧ s'.at R = some (.cells [.int .u64 0, .int .u64 0] 43 false) ∧ s'.at N = some (.cells (prc .u64 (climbN f (pbit i) x l j)) 43 false)) (fun j => l.length - j) ?_ 0 ⟨Nat.zero_le _, ?_, ?_, ?_, ?_, ?_, ?_, rfl, Nat.le_refl _, p4.wf, g4, hR4, p4.here⟩
  · rintro j τ ds s' ⟨hj, t0, t1, t3, t8, t9, t10, rfl, hns, hw', g', hR, hN⟩
    rw [n19_1110100]
    unfold v19_1110100
    simp (maxSteps := 10000000) only [wW, reduceCtorEq, Nat.reduceEqDiff, t3, t10, Sl.wlen hu se_44]
    have hnnj := climbN_nn (f := f) (b := pbit i) hx l j
    by_cases hlt : j < l.length
    · rw [if_pos (by omega)]
      have hstep : climbN f (pbit i) x l (j + 1) = if pbit i j = 1 then nodeM f (l.getD j (0, 0)) (climbN f (pbit i) x l j) else nodeM f (climbN f (pbit i) x l j) (l.getD j (0, 0)) := rfl
      have hq : l[j]? = some (l.getD j (0, 0)) := by rw [List.getD_eq_getElem?_getD, List.getElem?_eq_getElem hlt]; rfl
      have hqn : Nn2 (l.getD j (0, 0)) := hl0 _ (List.mem_of_getElem? hq)
      generalize climbN f (pbit i) x l j = c at hN hnnj hstep
      generalize l.getD j (0, 0) = q at hq hqn hstep
      have hu' : Prs .u64 s' u l := Sl.grew (Sl.ent hu) g'.same
      obtain ⟨A5, o5, c5, z1, z2, z3, z4, z5⟩ := hu'.at se_44 isz_43 hq
      have va : ∀ p : Int × Int, veq (.agg (.mk (prc .u64 p))) (.agg (.mk (prc .u64 p))) = true := fun p => by simp [veq, veqA, veqL, prc]
      have va2 : ∀ p : Int × Int, veq (.agg (prc .u64 p).toArray) (.agg (prc .u64 p).toArray) = true := va
      rw [t9, wop_load, load_all ap_43 hN rfl, wopt_some]
      refine ⟨va _, ?_⟩
      rw [wop_indexAddr, z1, wopt_some, wop_load, loadN ap_43, z2, Option.bind_some, z3, Option.map_some, wopt_some]
      refine ⟨va2 _, ?_⟩
      refine alloc_rule ty_109 hw' fun T s5 m5 => ?_
      have e5 := m5.eq
      have n5 := m5.n
      have h0i : 0 ≤ i / 2 ^ j := Int.ediv_nonneg hi.1 (Int.pow_nonneg (by decide))
      refine ⟨m5.fresh (by kernel_rfl), ?_⟩
      rw [t1]
      show CallWP P ro 60 [.int .i64 (i / 2 ^ j), .agg (.mk (prc .u64 c)), .agg (.mk (prc .u64 q))] s5 _
      rw [wPair7 _ h0i _ _ m5.wf (by omega)]
      refine ⟨.refl _, ?_⟩
      have hpb : i / 2 ^ j % 2 = pbit i j := rfl
      rw [hpb]
      generalize hcell : (if pbit i j = 1 then prc .u64 q ++ prc .u64 c else prc .u64 c ++ prc .u64 q) = cells
      obtain ⟨a, b, hab, ha, hb, hn⟩ : ∃ a b : Int × Int, cells = prc .u64 a ++ prc .u64 b ∧ Nn2 a ∧ Nn2 b ∧ nodeM f a b = climbN f (pbit i) x l (j + 1) := by
        by_cases hb : pbit i j = 1
        · rw [if_pos hb] at hcell hstep
          exact ⟨q, c, hcell.symm, hqn, hnnj, hstep.symm⟩
        · rw [if_neg hb] at hcell hstep
          exact ⟨c, q, hcell.symm, hnnj, hqn, hstep.symm⟩
      subst hab
      refine storeAll_rule isz_109 m5.here (l := prc .u64 a ++ prc .u64 b) rfl (by decide) m5.wf (by omega) rfl rfl fun s6 p6 => ?_
      have n6 := p6.n
      refine ⟨by omega, ?_⟩
      simp (maxSteps := 10000000) only [wW, reduceCtorEq, Nat.reduceEqDiff, wop_indexAddr, wop_load, d2i0, d2i1]
      rw [load_part ap_43 p6.here (o := 0) (l := prc .u64 a) rfl, wopt_some, load_part ap_43 p6.here (o := 2) (l := prc .u64 b) rfl, wopt_some, t0, wNode f hv ha hb p6.wf (by omega), hn]
      have hN6 := (p6.rest N (by omega)).trans ((m5.grew.same N (by omega)).trans hN)
      have hR6 := (p6.rest R (by omega)).trans ((m5.grew.same R (by omega)).trans hR)
      have g6 := p6.grew _ hw.ent (g'.trans m5.grew) (by have := g'.n; omega)
      refine storeAll_rule isz_43 hN6 (l := prc .u64 (climbN f (pbit i) x l (j + 1))) rfl (by decide) p6.wf (by omega) rfl rfl fun s7 p7 => ?_
      have n7 := p7.n
      rw [int_quo keq_i64 _ _ (by decide), wopt_some, wrap_i64 (n := (j : Int) + 1) (by omega) (by omega)]
      have hle2 : i / 2 ^ j ≤ i := Int.ediv_le_self _ hi.1
      have hdiv : IntKind.i64.wrap (Int.tdiv (i / 2 ^ j) 2) = i / 2 ^ (j + 1) := by
        rw [Int.tdiv_eq_ediv_of_nonneg h0i, wrap_i64 (by omega) (by omega), Int.ediv_ediv_of_nonneg (Int.pow_nonneg (by decide)), Int.pow_succ]
      rw [hdiv]
      refine ⟨j + 1, by omega, by omega, ?_, ?_, ?_, ?_, ?_, ?_, trivial, by omega, p7.wf, p7.grew _ hw.ent g6 (by omega), (p7.rest R (by omega)).trans hR6, p7.here⟩
      · simp only [U, tset_eq, wW, reduceCtorEq, Nat.reduceEqDiff, t0]
      · simp only [U, tset_eq, wW, reduceCtorEq, Nat.reduceEqDiff]
      · simp only [U, tset_eq, wW, reduceCtorEq, Nat.reduceEqDiff, t3]
      · simp only [U, tset_eq, wW, reduceCtorEq, Nat.reduceEqDiff, t8]
      · simp only [U, tset_eq, wW, reduceCtorEq, Nat.reduceEqDiff, t9]
      · simp only [U, tset_eq, wW, reduceCtorEq, Nat.reduceEqDiff]; rfl
    · obtain rfl : j = l.length := by omega
      rw [if_neg (by omega)]
      simp (maxSteps := 10000000) only [U, tset_eq, wW, reduceCtorEq, Nat.reduceEqDiff, t8, t9]
      refine load_rule (load_all ap_43 hN rfl) ?_
      refine storeAll_rule isz_43 hR (l := prc .u64 (climbN f (pbit i) x l l.length)) rfl (by decide) hw' (by omega) rfl rfl fun s7 p7 => ?_
      refine load_rule (load_all ap_43 p7.here rfl) ?_
      exact fin_flat rfl (p7.grew _ hw.ent g' (by omega)) ⟨rfl, rfl⟩
  · simp only [U, tset_eq, wW, reduceCtorEq, Nat.reduceEqDiff]
  · simp only [U, tset_eq, wW, reduceCtorEq, Nat.reduceEqDiff, Int.pow_zero, Int.ediv_one]
  · simp only [U, tset_eq, wW, reduceCtorEq, Nat.reduceEqDiff]
  · simp only [U, tset_eq, wW, reduceCtorEq, Nat.reduceEqDiff]
  · simp only [U, tset_eq, wW, reduceCtorEq, Nat.reduceEqDiff]
  · simp only [U, tset_eq, wW, reduceCtorEq, Nat.reduceEqDiff]; rfl

end
end Go.VE
/- CircuitClimbs: what the law's function does, lists that grow. -/
namespace Go.VE
open Go Go.Proofs
set_option maxRecDepth 20000
/-! ### small numbers -/
def okInt (o : Option Value) (z : Int) : Bool := match o with
  | some (.int .i64 y) => y == z
  | _ => false
theorem okInt_spec {o : Option Value} {z : Int} (h : okInt o z = true) : o = some (.int .i64 z) := by
  unfold okInt at h
  split at h
  · rw [eq_of_beq h]
  · cases h
theorem shr16 {k : Int} {i : Nat} (hk : 0 ≤ k ∧ k < 16) (hi : i < 4) : abinInt P .shr .i64 k .i64 i = some (.int .i64 (k / 2 ^ i)) := by
  obtain ⟨m, rfl⟩ := Int.eq_ofNat_of_zero_le hk.1
  have h : ∀ m : Fin 16, ∀ i : Fin 4, okInt (abinInt P .shr .i64 (m.val : Int) .i64 (i.val : Int)) ((m.val : Int) / 2 ^ i.val) = true := by decide +kernel
  exact okInt_spec (h ⟨m, by omega⟩ ⟨i, hi⟩)
theorem and16 {k : Int} (hk : 0 ≤ k ∧ k < 16) : abinInt P .and .i64 k .i64 1 = some (.int .i64 (k % 2)) := by
  obtain ⟨m, rfl⟩ := Int.eq_ofNat_of_zero_le hk.1
  have h : ∀ m : Fin 16, okInt (abinInt P .and .i64 (m.val : Int) .i64 1) ((m.val : Int) % 2) = true := by decide +kernel
  exact okInt_spec (h ⟨m, by omega⟩)
theorem shl16 {n : Nat} (hn : n < 5) : abinInt P .shl .i64 1 .i64 n = some (.int .i64 (2 ^ n)) := by
  have h : ∀ m : Fin 5, okInt (abinInt P .shl .i64 1 .i64 (m.val : Int)) (2 ^ m.val) = true := by decide +kernel
  exact okInt_spec (h ⟨n, hn⟩)
theorem mask16 {k : Int} {n : Nat} (hk : 0 ≤ k ∧ k < 16) (hn : n < 5) : abinInt P .and .i64 k .i64 (2 ^ n - 1) = some (.int .i64 (k % 2 ^ n)) := by
  obtain ⟨m, rfl⟩ := Int.eq_ofNat_of_zero_le hk.1
  have h : ∀ m : Fin 16, ∀ i : Fin 5, okInt (abinInt P .and .i64 (m.val : Int) .i64 (2 ^ i.val - 1)) ((m.val : Int) % 2 ^ i.val) = true := by decide +kernel
  exact okInt_spec (h ⟨m, by omega⟩ ⟨n, hn⟩)
theorem pbit_mask {k : Int} {n j : Nat} (hk : 0 ≤ k ∧ k < 16) (hn : n < 5) (hj : j < n) : pbit (k % 2 ^ n) j = bitAt k j := by
  obtain ⟨m, rfl⟩ := Int.eq_ofNat_of_zero_le hk.1
  have h : ∀ m : Fin 16, ∀ n : Fin 5, ∀ j : Fin 5, j.val < n.val → (m.val : Int) % 2 ^ n.val / 2 ^ j.val % 2 = (m.val : Int) / 2 ^ j.val % 2 := by decide +kernel
  exact h ⟨m, by omega⟩ ⟨n, hn⟩ ⟨j, by omega⟩ hj
theorem pow5 {n : Nat} (hn : n < 5) : (2 : Int) ^ n ≤ 16 ∧ 1 ≤ (2 : Int) ^ n := by
  have h : ∀ m : Fin 5, (2 : Int) ^ m.val ≤ 16 ∧ 1 ≤ (2 : Int) ^ m.val := by decide
  exact h ⟨n, hn⟩

/-! ### lists -/
theorem prs_append (k : IntKind) (l r : List (Int × Int)) : prs k (l ++ r) = prs k l ++ prs k r := List.flatMap_append
theorem flat2_append (l r : List (Int × Int)) : flat2 (l ++ r) = flat2 l ++ flat2 r := List.flatMap_append
theorem clVars_succ (n : Nat) : clVars (n + 1) = clVars n ++ [(6 + 2 * (n : Int), 7 + 2 * (n : Int))] := by
  unfold clVars
  rw [List.range_succ, List.map_append]; rfl

section
variable {ro : Nat} {s : St} {K : Value → St → Prop}
theorem conv_u8_int (a : Int) (ty : TypeId) (s : St) (K : Value → St → Prop) : wop P ro (.convert 5 3 (.const (.int .u8 a))) ty s K = K (.int .i64 (IntKind.i64.wrap a)) s := by kernel_rfl

/-- Three lists that grow, and a block. -/
structure ClA (s0 s : St) (X : Nat) (oX : AO) (v1 v2 v3 : Value) (n1 n2 n3 : Nat) (c1 c2 c3 : List Value) (o1 o2 o3 : Option Nat) : Prop where
  a1 : Ac 24 1 s0 s v1 n1 c1 o1
  a2 : Ac 43 2 s0 s v2 n2 c2 o2
  a3 : Ac 47 2 s0 s v3 n3 c3 o3
  x : s.at X = some oX
  x1 : o1 ≠ some X
  x2 : o2 ≠ some X
  x3 : o3 ≠ some X
  d12 : ∀ A, o1 = some A → o2 ≠ some A
  d13 : ∀ A, o1 = some A → o3 ≠ some A
  d23 : ∀ A, o2 = some A → o3 ≠ some A

theorem Ac.lt {e : TypeId} {sz : Nat} {s0 s : St} {v : Value} {n : Nat} {cs : List Value} {A : Nat} (h : Ac e sz s0 s v n cs (some A)) : A < s.n := h.own.lt

theorem Ac.other {e : TypeId} {sz : Nat} {s0 s s2 : St} {v : Value} {n : Nat} {cs : List Value} {o oB : Option Nat} (h : Ac e sz s0 s v n cs oB) (hw : Wf s2) (hg : Grew s0 s2) (rest : ∀ C, C < s.n → o ≠ some C → s2.at C = s.at C) (hne : ∀ C, oB = some C → o ≠ some C) : Ac e sz s0 s2 v n cs oB :=
  ⟨h.own.same fun A hA => rest A (by subst hA; exact h.lt) (hne A hA), h.fresh, hw, hg⟩

theorem ne_new {s : St} {A : Nat} (hA : s.n ≤ A) {e : TypeId} {sz : Nat} {s0 : St} {v : Value} {n : Nat} {cs : List Value} {o : Option Nat} (h : Ac e sz s0 s v n cs o) : o ≠ some A := fun e => by
  subst e
  have := h.lt
  omega

variable {s0 s2 : St} {X A : Nat} {oX : AO} {v v1 v2 v3 : Value} {n n1 n2 n3 : Nat} {c c1 c2 c3 : List Value} {o1 o2 o3 : Option Nat}
theorem ClA.after1 (h : ClA s0 s X oX v1 v2 v3 n1 n2 n3 c1 c2 c3 o1 o2 o3) (a : Ac 24 1 s0 s2 v n c (some A)) (hA : s.n ≤ A) (rest : ∀ C, C < s.n → o1 ≠ some C → s2.at C = s.at C) : ClA s0 s2 X oX v v2 v3 n n2 n3 c c2 c3 (some A) o2 o3 :=
  ⟨a, h.a2.other a.wf a.grew rest fun C hC e => h.d12 C e hC, h.a3.other a.wf a.grew rest fun C hC e => h.d13 C e hC, (rest X (St.at_lt h.x) h.x1).trans h.x, fun e => by have := St.at_lt h.x; cases e; omega, h.x2, h.x3, fun B e => by cases e; exact ne_new hA h.a2, fun B e => by cases e; exact ne_new hA h.a3, h.d23⟩
theorem ClA.after2 (h : ClA s0 s X oX v1 v2 v3 n1 n2 n3 c1 c2 c3 o1 o2 o3) (a : Ac 43 2 s0 s2 v n c (some A)) (hA : s.n ≤ A) (rest : ∀ C, C < s.n → o2 ≠ some C → s2.at C = s.at C) : ClA s0 s2 X oX v1 v v3 n1 n n3 c1 c c3 o1 (some A) o3 :=
  ⟨h.a1.other a.wf a.grew rest fun C hC e => h.d12 C hC e, a, h.a3.other a.wf a.grew rest fun C hC e => h.d23 C e hC, (rest X (St.at_lt h.x) h.x2).trans h.x, h.x1, fun e => by have := St.at_lt h.x; cases e; omega, h.x3, fun B e e2 => by cases e2; exact ne_new hA h.a1 e, h.d13, fun B e => by cases e; exact ne_new hA h.a3⟩
theorem ClA.after3 (h : ClA s0 s X oX v1 v2 v3 n1 n2 n3 c1 c2 c3 o1 o2 o3) (a : Ac 47 2 s0 s2 v n c (some A)) (hA : s.n ≤ A) (rest : ∀ C, C < s.n → o3 ≠ some C → s2.at C = s.at C) : ClA s0 s2 X oX v1 v2 v n1 n2 n c1 c2 c o1 o2 (some A) :=
  ⟨h.a1.other a.wf a.grew rest fun C hC e => h.d13 C hC e, h.a2.other a.wf a.grew rest fun C hC e => h.d23 C hC e, a, (rest X (St.at_lt h.x) h.x3).trans h.x, h.x1, h.x2, fun e => by have := St.at_lt h.x; cases e; omega, h.d12, fun B e e2 => by cases e2; exact ne_new hA h.a1 e, fun B e e2 => by cases e2; exact ne_new hA h.a2 e⟩
theorem ClA.grew (h : ClA s0 s X oX v1 v2 v3 n1 n2 n3 c1 c2 c3 o1 o2 o3) (g : Grew s s2) : ClA s0 s2 X oX v1 v2 v3 n1 n2 n3 c1 c2 c3 o1 o2 o3 :=
  ⟨h.a1.other (h.a1.wf.grew g) (h.a1.grew.trans g) (o := none) (fun C hC _ => g.same C hC) fun C _ e => (by cases e), h.a2.other (h.a1.wf.grew g) (h.a1.grew.trans g) (o := none) (fun C hC _ => g.same C hC) fun C _ e => (by cases e), h.a3.other (h.a1.wf.grew g) (h.a1.grew.trans g) (o := none) (fun C hC _ => g.same C hC) fun C _ e => (by cases e), (g.same X (St.at_lt h.x)).trans h.x, h.x1, h.x2, h.x3, h.d12, h.d13, h.d23⟩
theorem ClA.putX (h : ClA s0 s X oX v1 v2 v3 n1 n2 n3 c1 c2 c3 o1 o2 o3) (hw0 : Wf s0) (hX : s0.n ≤ X) {o : AO} (p : Put s X o s2) : ClA s0 s2 X o v1 v2 v3 n1 n2 n3 c1 c2 c3 o1 o2 o3 := by
  have g := p.grew s0 hw0 h.a1.grew hX
  have r : ∀ C, C < s.n → (some X) ≠ some C → s2.at C = s.at C := fun C _ hC => p.rest C fun e => hC (by rw [e])
  exact ⟨h.a1.other p.wf g (o := some X) r fun C hC e => (by cases e; exact h.x1 hC), h.a2.other p.wf g (o := some X) r fun C hC e => (by cases e; exact h.x2 hC), h.a3.other p.wf g (o := some X) r fun C hC e => (by cases e; exact h.x3 hC), p.here, h.x1, h.x2, h.x3, h.d12, h.d13, h.d23⟩
/-- A block that is new, and none of those, is written. -/
theorem ClA.putN (h : ClA s0 s X oX v1 v2 v3 n1 n2 n3 c1 c2 c3 o1 o2 o3) (hw0 : Wf s0) {D : Nat} (hD : s0.n ≤ D) (hX : D ≠ X) (h1 : o1 ≠ some D) (h2 : o2 ≠ some D) (h3 : o3 ≠ some D) {o : AO} (p : Put s D o s2) : ClA s0 s2 X oX v1 v2 v3 n1 n2 n3 c1 c2 c3 o1 o2 o3 := by
  have g := p.grew s0 hw0 h.a1.grew hD
  have r : ∀ C, C < s.n → (some D) ≠ some C → s2.at C = s.at C := fun C _ hC => p.rest C fun e => hC (by rw [e])
  exact ⟨h.a1.other p.wf g (o := some D) r fun C hC e => (by cases e; exact h1 hC), h.a2.other p.wf g (o := some D) r fun C hC e => (by cases e; exact h2 hC), h.a3.other p.wf g (o := some D) r fun C hC e => (by cases e; exact h3 hC), (p.rest X (Ne.symm hX)).trans h.x, h.x1, h.x2, h.x3, h.d12, h.d13, h.d23⟩

theorem Liv.made' {B : Nat} {oA : Option Nat} {d : Bd} (h : Liv ro s B oA d) {A : Nat} {o : AO} {s1 : St} (m : Made s A o s1) : Liv ro s1 B oA d ∧ Lc s1 B oA A o ∧ s.n ≤ A ∧ s1.n = s.n + 1 := by
  have e := m.eq
  have hB := h.lt
  exact ⟨h.grew m.grew, ⟨m.here, by omega, fun e2 => by have := (h.hA A e2).2.2; omega⟩, by omega, m.n⟩
theorem Liv.putL' {B : Nat} {oA : Option Nat} {d : Bd} (h : Liv ro s B oA d) {A : Nat} {o o' : AO} {s1 : St} (a : Lc s B oA A o) (hA : ro ≤ A) (p : Put s A o' s1) : Liv ro s1 B oA d ∧ Lc s1 B oA A o' := ⟨h.put p ⟨hA, a.ne, a.own⟩, p.here, a.ne, a.own⟩
theorem Ac.offs {e : TypeId} {sz : Nat} (h : Ac e sz s0 s v n c o1) : OffS s.n none s.n v := fun A o sp k c e' => by
  cases o1 with
  | none => obtain ⟨e2, _⟩ := h.own; rw [e2] at e'; cases e'
  | some A' =>
    have hlt := h.own.lt
    obtain ⟨e2, _⟩ := h.own
    rw [e2] at e'
    cases e'
    exact ⟨hlt, by omega, fun e3 => by cases e3⟩

end
end Go.VE
/- CircuitClimbs: what the law's function does. -/
namespace Go.VE
open Go Go.Proofs
set_option maxRecDepth 20000
def clBase (k : Int) (i : Nat) : List Value := (List.range i).map fun j => .int .u64 (bitAt k j)
def clIn (f k : Int) (leaf : Int × Int) (path : List (Int × Int)) : List Value := (clXs f k leaf path).map (.int .u64)

theorem clBase_succ (k : Int) (i : Nat) : clBase k (i + 1) = clBase k i ++ [.int .u64 (bitAt k i)] := by
  unfold clBase
  rw [List.range_succ, List.map_append]; rfl
theorem clIn_nil (f k : Int) (leaf : Int × Int) : clIn f k leaf [] = clBase k 4 ++ [.int .u64 (mod2 f leaf).1, .int .u64 (mod2 f leaf).2] := rfl
theorem clIn_succ (f k : Int) (leaf : Int × Int) (l : List (Int × Int)) (q : Int × Int) : clIn f k leaf (l ++ [q]) = clIn f k leaf l ++ [.int .u64 (mod2 f q).1, .int .u64 (mod2 f q).2] := by
  unfold clIn clXs
  rw [show (l ++ [q]).map (mod2 f) = l.map (mod2 f) ++ [mod2 f q] from List.map_append, flat2_append, ← List.append_assoc, List.map_append]; rfl

section
variable {ro : Nat} {s : St} {K : Value → St → Prop}
theorem wCl {f x : Int} {leaf : Int × Int} {path : List (Int × Int)} {u : Value} (hu : Prs .u64 s u path) (hp0 : ∀ q ∈ path, Nn2 q) (hl0 : Nn2 leaf) (hx : 0 ≤ x ∧ x < 256)
    (hw : Wf s) (hF : FieldsAt s) (hro : ro ≤ s.n) (hr0 : 0 < ro) : CallWP P ro 4 [.int .i64 f, .int .u8 x, .agg (.mk (prc .u64 leaf)), u] s fun v _ => v = .bool true := by
  refine call_wp b4 rfl ?_
  rw [n4]
  unfold v4
  simp (maxSteps := 10000000) only [wW, reduceCtorEq, Nat.reduceEqDiff]
  refine box_rule hw.ent fun X s1 m1 => ?_
  have e1 := m1.eq
  have n1 := m1.n
  have hn0 : (ent s).n = s.n := rfl
  rw [wrValid]
  cases hv : fV f with
  | false =>
    simp (maxSteps := 10000000) only [wW, reduceCtorEq, Nat.reduceEqDiff, wLiv]
    exact fin_K fun _ => rfl
  | true =>
    simp (maxSteps := 10000000) only [wW, reduceCtorEq, Nat.reduceEqDiff, Sl.wlen hu se_44]
    by_cases h4 : (path.length : Int) > 4
    · rw [if_pos h4, wLiv]
      exact fin_K fun _ => rfl
    · rw [if_neg h4, conv_u8_int, wrap_i64 (by omega) (by omega)]
      simp (maxSteps := 10000000) only [wW, reduceCtorEq, Nat.reduceEqDiff]
      rw [int_rem keq_i64 _ _ (by decide), wopt_some, tmod_nonneg hx.1]
      have hk : 0 ≤ x % 16 ∧ x % 16 < 16 := ⟨Int.emod_nonneg _ (by decide), Int.emod_lt_of_pos _ (by decide)⟩
      generalize x % 16 = k at hk ⊢
      have hpp := fP_pos hv
      have hp30 := fP_lt f
      have hX1 : s1.at X = some (.cells (prc .u64 leaf) 43 false) := m1.here
      have hi : ∀ z : Int, veq (.int .u64 z) (.int .u64 z) = true := fun z => by simp [veq]
      have hlen : path.length < 2 ^ 60 := by omega
      refine wloop l4_111110100 m4_111110100 (fun (i : Nat) τ ds s' => i ≤ 4 ∧ τ 0 = .int .i64 f ∧ τ 3 = u ∧ τ 6 = ptr X ∧ τ 9 = .int .i64 path.length ∧ τ 10 = .int .i64 k ∧ τ 12 = .int .i64 i ∧ ds = [] ∧ ∃ o1, ClA (ent s) s' X (.cells (prc .u64 leaf) 43 false) (τ 11) (.slice none 0 0) (.slice none 0 0) i 0 0 (clBase k i) [] [] o1 none none) (fun i => 4 - i) ?_ 0 ⟨by omega, ?_, ?_, ?_, ?_, ?_, ?_, rfl, none, ?_⟩
      · rintro i τ ds s' ⟨hi4, t0, t3, t6, t9, t10, t12, rfl, o1, hA⟩
        rw [n4_111110100]
        unfold v4_111110100
        simp (maxSteps := 10000000) only [wW, reduceCtorEq, Nat.reduceEqDiff, t12]
        by_cases hlt : i < 4
        · rw [if_pos (by omega), t10]
          simp (maxSteps := 10000000) only [wW, reduceCtorEq, Nat.reduceEqDiff]
          have hki : 0 ≤ k / 2 ^ i ∧ k / 2 ^ i < 16 := ⟨Int.ediv_nonneg hk.1 (Int.pow_nonneg (by decide)), Int.lt_of_le_of_lt (Int.ediv_le_self _ hk.1) hk.2⟩
          rw [shr16 hk hlt, wopt_some]
          simp (maxSteps := 10000000) only [wW, reduceCtorEq, Nat.reduceEqDiff]
          rw [and16 hki, wopt_some, conv_int_u64, wrap_u64 (by omega) (by omega)]
          refine hA.a1.push se_23 (by kernel_rfl) ty_24 (by decide) (by decide) (by decide) hw.ent hro (x := .int .u64 (k / 2 ^ i % 2)) rfl rfl rfl (by omega) fun v1 v2 A s3 a3 hA3 rest => ?_
          rw [wrap_i64 (by omega) (by omega)]
          refine ⟨i + 1, by omega, by omega, ?_, ?_, ?_, ?_, ?_, ?_, trivial, some A, ?_⟩
          · simp only [U, tset_eq, wW, reduceCtorEq, Nat.reduceEqDiff, t0]
          · simp only [U, tset_eq, wW, reduceCtorEq, Nat.reduceEqDiff, t3]
          · simp only [U, tset_eq, wW, reduceCtorEq, Nat.reduceEqDiff, t6]
          · simp only [U, tset_eq, wW, reduceCtorEq, Nat.reduceEqDiff, t9]
          · simp only [U, tset_eq, wW, reduceCtorEq, Nat.reduceEqDiff, t10]
          · simp only [U, tset_eq, wW, reduceCtorEq, Nat.reduceEqDiff]; rfl
          · rw [clBase_succ]
            simp only [U, tset_eq, wW, reduceCtorEq, Nat.reduceEqDiff]
            exact hA.after1 a3 hA3 rest
        · obtain rfl : i = 4 := by omega
          rw [if_neg (by omega)]
          have gC := acells_some hA.x
          simp (maxSteps := 10000000) only [wW, reduceCtorEq, Nat.reduceEqDiff, wL, Nat.reduceAdd, U, tset_eq, t0, t6, wrP, dgi0, dgi1, Nat.zero_add, gC, prc_0, prc_1, hi, true_and]
          rw [int_rem keq_u64 _ _ (by omega), wopt_some, tmod_nonneg hl0.1]
          rw [int_rem keq_u64 _ _ (by omega), wopt_some, tmod_nonneg hl0.2]
          simp (maxSteps := 10000000) only [wW, reduceCtorEq, Nat.reduceEqDiff, build2u]
          have hXn : (ent s).n ≤ X := by omega
          refine storeAll_rule isz_43 hA.x (l := prc .u64 (mod2 f leaf)) rfl (by decide) hA.a1.wf (by omega) rfl rfl fun s2 p2 => ?_
          have hB := hA.putX hw.ent hXn p2
          clear hA gC
          simp (maxSteps := 10000000) only [wW, reduceCtorEq, Nat.reduceEqDiff, wL, Nat.reduceAdd, t6, dgi0, dgi1, Nat.zero_add, acells_some hB.x, prc_0, prc_1]
          refine hB.a1.pushs se_23 (by kernel_rfl) ty_24 (by decide) (by decide) (by decide) hw.ent hro (m := 2) (vs := [.int .u64 (mod2 f leaf).1, .int .u64 (mod2 f leaf).2]) (new := [.int .u64 (mod2 f leaf).1, .int .u64 (mod2 f leaf).2]) rfl rfl (by decide) (by decide) (by simp [Value.cells]) rfl rfl rfl (by omega) fun v1 v2 A s3 a3 hA3 rest => ?_
          have hC := hB.after1 a3 hA3 rest
          rw [← clIn_nil] at hC
          clear hB a3
          refine wloop l4_111111111110100 m4_111111111110100 (fun (j : Nat) τ ds s' => j ≤ path.length ∧ τ 0 = .int .i64 f ∧ τ 3 = u ∧ τ 6 = ptr X ∧ τ 9 = .int .i64 path.length ∧ τ 10 = .int .i64 k ∧ τ 13 = .int .u64 (fP f) ∧ τ 16 = .int .i64 j ∧ ds = [] ∧ ∃ o1 o2 o3, ClA (ent s) s' X (.cells (prc .u64 (mod2 f leaf)) 43 false) (τ 11) (τ 14) (τ 15) (6 + 2 * j) j j (clIn f k leaf (path.take j)) (prs .u64 ((path.take j).map (mod2 f))) (prs .i64 (clVars j)) o1 o2 o3) (fun j => path.length - j) ?_ 0 ⟨by omega, ?_, ?_, ?_, ?_, ?_, ?_, ?_, rfl, some A, none, none, ?_⟩
          · clear t0 t3 t6 t9 t10 t12
            rintro j τ ds s' ⟨hj, t0, t3, t6, t9, t10, t13, t16, rfl, o1, o2, o3, hA⟩
            rw [n4_111111111110100]
            unfold v4_111111111110100
            simp (maxSteps := 10000000) only [wW, reduceCtorEq, Nat.reduceEqDiff, t9, t16]
            by_cases hlt : j < path.length
            · rw [if_pos (by omega)]
              have hq : path[j]? = some (path.getD j (0, 0)) := by rw [List.getD_eq_getElem?_getD, List.getElem?_eq_getElem hlt]; rfl
              have hqn : Nn2 (path.getD j (0, 0)) := hp0 _ (List.mem_of_getElem? hq)
              have hts := take_succ_eq hq
              generalize path.getD j (0, 0) = q at hq hqn hts
              have hus : Prs .u64 s' u path := Sl.grew (Sl.ent hu) hA.a1.grew.same
              obtain ⟨A5, o5, c5, z1, z2, z3, z4, z5⟩ := hus.at se_44 isz_43 hq
              simp (maxSteps := 10000000) only [wW, reduceCtorEq, Nat.reduceEqDiff, wL, Nat.reduceAdd, t3, t13, dgi0, dgi1, z1, z2, z4, z5, hi, true_and]
              rw [int_rem keq_u64 _ _ (by omega), wopt_some, tmod_nonneg hqn.1]
              rw [int_rem keq_u64 _ _ (by omega), wopt_some, tmod_nonneg hqn.2]
              simp (maxSteps := 10000000) only [wW, reduceCtorEq, Nat.reduceEqDiff, build2u]
              refine alloc_rule ty_43 hA.a1.wf fun D s4 m4 => ?_
              have e4 := m4.eq
              have n4 := m4.n
              have hD1 := ne_new (A := D) (by omega) hA.a1
              have hD2 := ne_new (A := D) (by omega) hA.a2
              have hD3 := ne_new (A := D) (by omega) hA.a3
              have hxl := St.at_lt hA.x
              have hgn := hA.a1.grew.n
              refine ⟨m4.fresh (by kernel_rfl), ?_⟩
              refine storeAll_rule isz_43 m4.here (l := prc .u64 (mod2 f q)) rfl (by decide) m4.wf (by omega) rfl rfl fun s5 p5 => ?_
              have n5 := p5.n
              refine ⟨by omega, ?_⟩
              have hB := (hA.grew m4.grew).putN hw.ent (by omega) (by omega) hD1 hD2 hD3 p5
              rw [load_all ap_43 p5.here rfl, wopt_some]
              refine hB.a2.push se_44 (by kernel_rfl) ty_43 (by decide) (by decide) (by decide) hw.ent hro (x := .agg (.mk (prc .u64 (mod2 f q)))) rfl rfl rfl (by omega) fun w1 w2 A2 s6 a6 hA6 rest6 => ?_
              have hC6 := hB.after2 a6 hA6 rest6
              have hD6 := (rest6 D (by omega) hD2).trans p5.here
              rw [hC6.a1.own.sl.wlen se_23, hC6.a1.own.sl.wlen se_23]
              simp (maxSteps := 10000000) only [wW, reduceCtorEq, Nat.reduceEqDiff]
              rw [wrap_i64 (by omega) (by omega), build2w, wopt_some]
              have n6 := a6.lt
              refine hC6.a3.push se_46 (by kernel_rfl) ty_47 (by decide) (by decide) (by decide) hw.ent hro (x := .agg (.mk (p2c (((6 + 2 * j : Nat) : Int), ((6 + 2 * j : Nat) : Int) + 1)))) rfl rfl rfl (by omega) fun y1 y2 A3 s7 a7 hA7 rest7 => ?_
              have hC7 := hC6.after3 a7 hA7 rest7
              have hDlt := St.at_lt hD6
              have hD7 := (rest7 D (by omega) hD3).trans hD6
              simp (maxSteps := 10000000) only [wW, reduceCtorEq, Nat.reduceEqDiff, wL, Nat.reduceAdd, dgi0, dgi1, Nat.zero_add, acells_some hD7, prc_0, prc_1]
              refine hC7.a1.pushs se_23 (by kernel_rfl) ty_24 (by decide) (by decide) (by decide) hw.ent hro (m := 2) (vs := [.int .u64 (mod2 f q).1, .int .u64 (mod2 f q).2]) (new := [.int .u64 (mod2 f q).1, .int .u64 (mod2 f q).2]) rfl rfl (by decide) (by decide) (by simp [Value.cells]) rfl rfl rfl (by omega) fun u1 u2 A1 s8 a8 hA8 rest8 => ?_
              have hC8 := hC7.after1 a8 hA8 rest8
              rw [wrap_i64 (by omega) (by omega)]
              refine ⟨j + 1, by omega, by omega, ?_, ?_, ?_, ?_, ?_, ?_, ?_, some A1, some A2, some A3, ?_⟩
              · simp only [U, tset_eq, wW, reduceCtorEq, Nat.reduceEqDiff, t0]
              · simp only [U, tset_eq, wW, reduceCtorEq, Nat.reduceEqDiff, t3]
              · simp only [U, tset_eq, wW, reduceCtorEq, Nat.reduceEqDiff, t6]
              · simp only [U, tset_eq, wW, reduceCtorEq, Nat.reduceEqDiff, t9]
              · simp only [U, tset_eq, wW, reduceCtorEq, Nat.reduceEqDiff, t10]
              · simp only [U, tset_eq, wW, reduceCtorEq, Nat.reduceEqDiff, t13]
              · simp only [U, tset_eq, wW, reduceCtorEq, Nat.reduceEqDiff]; rfl
              · have ec1 : clIn f k leaf (path.take (j + 1)) = clIn f k leaf (path.take j) ++ [.int .u64 (mod2 f q).1, .int .u64 (mod2 f q).2] := by rw [hts, clIn_succ]
                have ec2 : prs .u64 ((path.take (j + 1)).map (mod2 f)) = prs .u64 ((path.take j).map (mod2 f)) ++ prc .u64 (mod2 f q) := by rw [hts, List.map_append, prs_append]; simp [prs]
                have ec3 : prs .i64 (clVars (j + 1)) = prs .i64 (clVars j) ++ p2c (((6 + 2 * j : Nat) : Int), ((6 + 2 * j : Nat) : Int) + 1) := by
                  rw [clVars_succ, prs_append]
                  congr 1
                  show [Value.int .i64 (6 + 2 * (j : Int)), .int .i64 (7 + 2 * (j : Int))] = [.int .i64 ((6 + 2 * j : Nat) : Int), .int .i64 (((6 + 2 * j : Nat) : Int) + 1)]
                  rw [show ((6 + 2 * j : Nat) : Int) = 6 + 2 * (j : Int) by omega, show (6 + 2 * (j : Int)) + 1 = 7 + 2 * (j : Int) by omega]
                rw [ec1, ec2, ec3, show 6 + 2 * (j + 1) = 6 + 2 * j + 2 by omega]
                simp only [U, tset_eq, wW, reduceCtorEq, Nat.reduceEqDiff]
                exact hC8
            · obtain rfl : j = path.length := by omega
              rw [if_neg (by omega)]
              rw [List.take_length] at hA
              have hxl := St.at_lt hA.x
              have hgn := hA.a1.grew.n
              have hIn : U64s s' (τ 11) (clXs f k leaf path) := by
                have e := hA.a1.own.sl
                unfold U64s
                rw [clXs_len]
                exact e
              have hDg : Prs .u64 s' (τ 14) (path.map (mod2 f)) := by
                have e := hA.a2.own.sl
                unfold Prs
                rw [List.length_map]
                exact e
              have hVr : Prs .i64 s' (τ 15) (clVars path.length) := by
                have e := hA.a3.own.sl
                unfold Prs
                rw [clVars_len]
                exact e
              have off1 := hA.a1.offs
              have off2 := hA.a2.offs
              have off3 := hA.a3.offs
              have hF' : FieldsAt s' := FieldsAt.grew (s := ent s) hF hA.a1.grew
              have hwf := hA.a1.wf
              have hXc := hA.x
              clear hA hC
              generalize h11 : τ 11 = iv at *
              generalize h14 : τ 14 = dv at *
              generalize h15 : τ 15 = vv at *
              simp (maxSteps := 10000000) only [U, tset_eq, wW, reduceCtorEq, Nat.reduceEqDiff, h11, h14, h15, t0, t6, t9, t10, hIn.wlen se_23, clXs_len]
              refine lNew f 0 _ hwf hF' (by omega) hr0 (fun hb => absurd ⟨hv, by decide, by omega, by omega⟩ hb) fun _ _ _ sa ga la => ?_
              rw [Int.zero_add] at la
              have e0 : (⟨f, ((6 + 2 * path.length : Nat) : Int), 0, ((6 + 2 * path.length : Nat) : Int), [], 0⟩ : Bd) = hsD0 f (6 + 2 * path.length) := rfl
              rw [e0] at la
              simp (maxSteps := 10000000) only [wW, reduceCtorEq, Nat.reduceEqDiff, List.getElem?_cons_zero, List.getElem?_cons_succ]
              refine buildSlice_rule se_30 ty_3 la.wf [.int .i64 0, .int .i64 1, .int .i64 2, .int .i64 3] rfl rfl (by decide) (by simp [Value.cells]) fun A1 sb mb => ?_
              have hI : Ints sb (.slice (some ⟨A1, 0, none⟩) 4 4) [0, 1, 2, 3] := mb.sl rfl
              have lb := la.grew mb.grew
              have eb := mb.eq
              have nb := mb.n
              have gan := ga.n
              have hBl := la.lt
              rw [build2w, wopt_some]
              have hVr2 : Prs .i64 sb vv (clVars path.length) := Sl.grew hVr (ga.trans mb.grew).same
              have hIn2 : U64s sb iv (clXs f k leaf path) := Sl.grew hIn (ga.trans mb.grew).same
              have hDg2 : Prs .u64 sb dv (path.map (mod2 f)) := Sl.grew hDg (ga.trans mb.grew).same
              have hvl := clVars_len path.length
              refine lClimb lb (4, 5) hI hVr2 (by show 4 < 2 ^ 60; decide) (by omega) (fun A o sp kk c e => by cases e; exact ⟨by omega, by omega, fun e => by cases e⟩) (fun A o sp kk c e => by
                obtain ⟨a, b, _⟩ := off3 A o sp kk c e
                exact ⟨by omega, b, fun e => by cases e⟩) fun sc oc lc mc => ?_
              have eM : mClimb (hsD0 f (6 + 2 * path.length)) [0, 1, 2, 3] (4, 5) (clVars path.length) = clM f path.length := rfl
              rw [eM] at lc ⊢
              have mcn := mc.n
              have hIn3 := off1.sl (by omega) mc hIn2
              have hDg3 := off2.sl (by omega) mc hDg2
              have hX3 : sc.at X = _ := (mc.same X (by omega) (by omega) (fun e => by cases e)).trans (((ga.trans mb.grew).same X hxl).trans hXc)
              obtain ⟨V, osm, opv⟩ := cl_plain (k := k) (leaf := leaf) (path := path) hv (by omega)
              generalize clM f path.length = M at lc osm opv ⊢
              obtain ⟨dM, pM⟩ := M
              simp only at lc osm opv ⊢
              have hW := opv.r1
              have hW2 := opv.r2
              have hv1 := opv.v1
              have hv2 := opv.v2
              refine alloc_rule ty_47 lc.wf fun C sd md => ?_
              obtain ⟨ld, hC, nC, nd⟩ := lc.made' md
              refine storeAll_rule isz_47 hC.here (l := p2c pM) rfl (by decide) ld.wf (by omega) rfl rfl fun se pe => ?_
              obtain ⟨le, hCe⟩ := ld.putL' hC (by omega) pe
              have pen := pe.n
              have keep : ∀ A, A < sc.n → se.at A = sc.at A := fun A hA => (pe.rest A (by omega)).trans (md.grew.same A hA)
              have hIn4 : U64s se iv (clXs f k leaf path) := Sl.grew hIn3 keep
              have hDg4 : Prs .u64 se dv (path.map (mod2 f)) := Sl.grew hDg3 keep
              have hX4 := (keep X (by omega)).trans hX3
              refine wValues le osm hIn4 fun wv sl b hb gl hvv => ?_
              obtain rfl : b = true := hb.2 trivial
              have hDg5 : Prs .u64 sl dv (path.map (mod2 f)) := Sl.grew hDg4 gl.same
              have hX5 := (gl.same X (St.at_lt hX4)).trans hX4
              have hC5 : sl.at C = some (.cells (p2c pM) 47 false) := (gl.same C (St.at_lt pe.here)).trans pe.here
              have gln := gl.n
              have g0 : (p2c pM)[0]? = some (.int .i64 pM.1) := rfl
              have g1 : (p2c pM)[1]? = some (.int .i64 pM.2) := rfl
              have hi2 : ∀ z : Int, veq (.int .i64 z) (.int .i64 z) = true := fun z => by simp [veq]
              simp (maxSteps := 10000000) only [wW, reduceCtorEq, Nat.reduceEqDiff, wL, Nat.reduceAdd, List.getElem?_cons_zero, List.getElem?_cons_succ, ip2_0', ip2_1', acells_some hC5, g0, g1, min_i64]
              rw [if_neg (show ¬ (if pM.2 < pM.1 then pM.2 else pM.1) < 0 by split <;> omega)]
              simp (maxSteps := 10000000) only [wW, reduceCtorEq, Nat.reduceEqDiff, wL, Nat.reduceAdd, ip2_0', ip2_1', acells_some hC5, g0, g1, max_i64, hvv.wlen se_23]
              rw [if_neg (show ¬ (if pM.1 < pM.2 then pM.2 else pM.1) ≥ (V.length : Int) by split <;> omega)]
              have hn5 : path.length < 5 := by omega
              have hpw := pow5 hn5
              rw [shl16 hn5, wopt_some]
              simp (maxSteps := 10000000) only [wW, reduceCtorEq, Nat.reduceEqDiff]
              rw [wrap_i64 (by omega) (by omega), mask16 hk hn5, wopt_some]
              have hmk : 0 ≤ k % 2 ^ path.length ∧ k % 2 ^ path.length < 2 ^ 60 := ⟨Int.emod_nonneg _ (by omega), Int.lt_of_lt_of_le (Int.emod_lt_of_pos _ (by omega)) (by omega)⟩
              have va : ∀ p : Int × Int, veq (.agg (.mk (prc .u64 p))) (.agg (.mk (prc .u64 p))) = true := fun p => by simp [veq, veqA, veqL, prc]
              rw [load_all ap_43 hX5 rfl, wopt_some]
              refine ⟨va _, ?_⟩
              have lwf := le.wf.grew gl
              have hm : ∀ y : Int, 0 ≤ y % fP f ∧ y % fP f < fP f := fun y => ⟨Int.emod_nonneg _ (by omega), Int.emod_lt_of_pos _ (by omega)⟩
              have hmn : ∀ q : Int × Int, Nn2 (mod2 f q) := fun q => ⟨(hm _).1, (hm _).1⟩
              have hmp : ∀ q : Int × Int, properB f (mod2 f q) = true := fun q => by
                unfold properB mod2
                rw [decide_eq_true (hm _).2, decide_eq_true (hm _).2]; rfl
              refine alloc_rule ty_43 lwf fun T sm mm => ?_
              have eT := mm.eq
              have nT := mm.n
              refine ⟨mm.fresh (by kernel_rfl), ?_⟩
              have hDg6 : Prs .u64 sm dv (path.map (mod2 f)) := Sl.grew hDg5 mm.grew.same
              rw [wClimb7 f hv hmk (hmn leaf) (hmp leaf) hDg6 (by rw [List.length_map]; omega) (fun q hq => by
                obtain ⟨q', _, rfl⟩ := List.mem_map.1 hq
                exact hmn q') (List.all_eq_true.2 fun q hq => by
                obtain ⟨q', _, rfl⟩ := List.mem_map.1 hq
                exact hmp q') mm.wf (by omega)]
              refine ⟨.refl _, ?_⟩
              have hcl : climbN f (pbit (k % 2 ^ path.length)) (mod2 f leaf) (path.map (mod2 f)) (path.map (mod2 f)).length = climbN f (bitAt k) (mod2 f leaf) (path.map (mod2 f)) path.length := by
                rw [List.length_map]
                exact climbN_congr fun j hj => pbit_mask hk hn5 hj
              rw [hcl]
              generalize climbN f (bitAt k) (mod2 f leaf) (path.map (mod2 f)) path.length = R at hv1 hv2 ⊢
              refine storeAll_rule isz_43 mm.here (l := prc .u64 R) rfl (by decide) mm.wf (by omega) rfl rfl fun sn pn => ?_
              have pnn := pn.n
              refine ⟨by omega, ?_⟩
              have keep2 : ∀ A, A < sl.n → sn.at A = sl.at A := fun A hA => (pn.rest A (by omega)).trans (mm.grew.same A hA)
              have hC6 : sn.at C = _ := (keep2 C (St.at_lt hC5)).trans hC5
              have hV6 : U64s sn wv V := Sl.grew hvv keep2
              obtain ⟨A6, o6, c6, x1, x2, x3⟩ := hV6.at1 hW.1 (at0_get hW.1 hW.2)
              obtain ⟨A7, o7, c7, y1, y2, y3⟩ := hV6.at1 hW2.1 (at0_get hW2.1 hW2.2)
              rw [hv1] at x3
              rw [hv2] at y3
              simp (maxSteps := 10000000) only [wW, reduceCtorEq, Nat.reduceEqDiff, wL, Nat.reduceAdd, ip2_0', ip2_1', dgi0, dgi1, Nat.zero_add, acells_some hC6, acells_some pn.here, g0, g1, prc_0, prc_1, x1, x2, x3, y1, y2, y3, hi, hi2, true_and, wLiv]
              exact fin_K fun _ => rfl
          · simp only [U, tset_eq, wW, reduceCtorEq, Nat.reduceEqDiff, t0]
          · simp only [U, tset_eq, wW, reduceCtorEq, Nat.reduceEqDiff, t3]
          · simp only [U, tset_eq, wW, reduceCtorEq, Nat.reduceEqDiff, t6]
          · simp only [U, tset_eq, wW, reduceCtorEq, Nat.reduceEqDiff, t9]
          · simp only [U, tset_eq, wW, reduceCtorEq, Nat.reduceEqDiff, t10]
          · simp only [U, tset_eq, wW, reduceCtorEq, Nat.reduceEqDiff]
          · simp only [U, tset_eq, wW, reduceCtorEq, Nat.reduceEqDiff]; rfl
          · simp only [U, tset_eq, wW, reduceCtorEq, Nat.reduceEqDiff]
            exact hC
      · simp only [U, tset_eq, wW, reduceCtorEq, Nat.reduceEqDiff]
      · simp only [U, tset_eq, wW, reduceCtorEq, Nat.reduceEqDiff]
      · simp only [U, tset_eq, wW, reduceCtorEq, Nat.reduceEqDiff]
      · simp only [U, tset_eq, wW, reduceCtorEq, Nat.reduceEqDiff]
      · simp only [U, tset_eq, wW, reduceCtorEq, Nat.reduceEqDiff]
      · simp only [U, tset_eq, wW, reduceCtorEq, Nat.reduceEqDiff]; rfl
      · simp only [U, tset_eq, wW, reduceCtorEq, Nat.reduceEqDiff]
        exact ⟨.nil m1.wf m1.grew, .nil m1.wf m1.grew, .nil m1.wf m1.grew, hX1, fun e => (by cases e), fun e => (by cases e), fun e => (by cases e), fun _ e => (by cases e), fun _ e => (by cases e), fun _ e => (by cases e)⟩

end
end Go.VE
/- CircuitClimbs at every start. -/
namespace Go.VE
open Go Go.Proofs
set_option maxRecDepth 20000
/-- Two numbers out of an array of two. -/
theorem pair_of {l : List (List Value)} (h : l.length = 2) (hl : ∀ c ∈ l, c.length = 1 ∧ ∃ i, c = [.int .u64 i] ∧ (Lit.int .u64 i).wf = true) : ∃ p : Int × Int, l.flatten = prc .u64 p ∧ Nn2 p := by
  match l, h with
  | [a, b], _ =>
    obtain ⟨_, i, rfl, hi⟩ := hl a (by simp)
    obtain ⟨_, j, rfl, hj⟩ := hl b (by simp)
    exact ⟨(i, j), rfl, (wf_u64 hi).1, (wf_u64 hj).1⟩
theorem pairs_of : ∀ {l : List (List Value)} (_ : ∀ c ∈ l, ∃ p : Int × Int, c = prc .u64 p ∧ Nn2 p), ∃ L : List (Int × Int), l.flatten = prs .u64 L ∧ L.length = l.length ∧ ∀ q ∈ L, Nn2 q
  | [], _ => ⟨[], rfl, rfl, fun q hq => by cases hq⟩
  | c :: l, h => by
    obtain ⟨p, rfl, hp⟩ := h c (by simp)
    obtain ⟨L, h1, h2, h3⟩ := pairs_of (l := l) fun c hc => h c (by simp [hc])
    refine ⟨p :: L, ?_, by simp [h2], fun q hq => ?_⟩
    · rw [List.flatten_cons, h1]; rfl
    · rcases List.mem_cons.1 hq with rfl | hq
      · exact hp
      · exact h3 q hq

theorem cl_args {al : List Value} {s : St} (h : Args P 8 [3, 5, 43, 44] al s) : ∃ f x leaf u path, al = [.int .i64 f, .int .u8 x, .agg (.mk (prc .u64 leaf)), u] ∧ (0 ≤ x ∧ x < 256) ∧ Nn2 leaf ∧ Prs .u64 s u path ∧ ∀ q ∈ path, Nn2 q := by
  obtain ⟨v1, r1, a1, rfl, hv1, hm1, v2, r2, a2, rfl, hv2, hm2, v3, r3, a3, rfl, hv3, hm3, v4, r4, a4, rfl, hv4, hm4, rfl⟩ := h
  rw [av_3] at hv1
  subst hv1
  rw [av_5] at hv2
  subst hv2
  rw [av_43] at hv3
  subst hv3
  rw [av_44] at hv4
  subst hv4
  rw [me_3] at hm1
  obtain ⟨f, e1, _⟩ := hm1
  simp only [List.cons.injEq, and_true] at e1
  subst e1
  rw [me_5] at hm2
  obtain ⟨x, e2, hx⟩ := hm2
  simp only [List.cons.injEq, and_true] at e2
  subst e2
  have hx' : 0 ≤ x ∧ x < 256 := by
    simp only [Lit.wf, Bool.and_eq_true, decide_eq_true_eq] at hx
    have h0 : IntKind.u8.min = 0 := rfl
    have h1 : IntKind.u8.max = 255 := rfl
    omega
  rw [me_43] at hm3
  obtain ⟨m, rfl, hm, hml⟩ := hm3
  simp only [me_24] at hml
  obtain ⟨leaf, hl, hln⟩ := pair_of hm hml
  rw [me_44] at hm4
  obtain ⟨u, l, e4, hlen, hs, hl4⟩ := hm4
  simp only [List.cons.injEq, and_true] at e4
  subst e4
  simp only [me_43, me_24] at hl4
  obtain ⟨path, hp, hpl, hpn⟩ := pairs_of (l := l) fun c hc => by
    obtain ⟨_, m, rfl, hm, hml⟩ := hl4 c hc
    exact pair_of hm hml
  refine ⟨f, x, leaf, v4, path, by rw [hl], hx', hln, ?_, hpn⟩
  unfold Prs
  rw [hpl, ← hp]
  exact hs

theorem cl_runs (laid : List (String × DataW Unit)) (h : startB laid = true) : LawRuns P 30 8 4 [3, 5, 43, 44] laid :=
  law_runs' h fun s al hw hF h0 ha => by
    obtain ⟨f, x, leaf, u, path, rfl, hx, hl, hu, hp⟩ := cl_args ha
    exact wCl hu hp hl hx hw hF (Nat.le_refl _) h0

end Go.VE
