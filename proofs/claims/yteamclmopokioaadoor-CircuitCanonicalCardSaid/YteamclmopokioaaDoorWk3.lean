/-
  What the functions compute.
-/
import Derived.Test.YteamclmopokioaaDoorWk2
set_option linter.unusedSimpArgs false
set_option linter.unusedVariables false
/- A builder that lives: Pack. -/
namespace Go.VE
open Go Go.Proofs
set_option maxRecDepth 20000
section
variable {ro : Nat} {s : St} {B : Nat} {oA : Option Nat} {d : Bd} {K : Value → St → Prop}
/-- What a range over Backward keeps in Pack. -/
structure PackI (ro : Nat) (s0 : St) (B : Nat) (s1 : St) (oA1 : Option Nat) (u : Value) (bits : List Int) (X W C D L A1 A2 A3 n0 : Nat) (r0 : Lp) (r nv : Int) (c0 : Bd × Int) (i : Nat) (s : St) (oA : Option Nat) : Prop where
  run : RunL ro s0 B s1 oA1 s oA (packGo (bits.reverse.take i) c0).1
  x : Lc s B oA X (.cells [ptr B] 25 false)
  w : Lc s B oA W (.cells [.int .i64 (packGo (bits.reverse.take i) c0).2] 3 false)
  c : Lc s B oA C (.cells [u] 30 false)
  dd : Lc s B oA D (.defd (some []))
  l : Lc s B oA L (.loop r0)
  ints : Ints s u bits
  off : OffS B oA s0.n u
  who : WholeAt n0 s B oA A1 A2 A3 r nv

theorem lPack (h : Liv ro s B oA d) {u : Value} {bits : List Int} (hu : Ints s u bits) (hlen : bits.length < 2 ^ 60) (hoff : OffS B oA s.n u) (hk : ∀ s' oA', Liv ro s' B oA' (mPack d bits).1 → Mut s B oA s' oA' → K (.int .i64 (mPack d bits).2) s') :
    CallWP P ro 30 [ptr B, u] s K := by
  refine call_wp b30 rfl ?_
  rw [n30]
  unfold v30
  simp (maxSteps := 10000000) only [wW, Option.bind_some, Option.map_some, decide_eq_true_eq, Bool.not_eq_true', decide_eq_false_iff_not, Bool.not_true, Bool.not_false, ne_eq, if_true, if_false, reduceCtorEq, eq_self, Nat.zero_add, Nat.add_zero, not_false_eq_true, Nat.reduceEqDiff]
  have r0 := Run1.start h
  refine box_rule h.wf.ent fun X s1 m1 => ?_
  have r1 := r0.grew m1.grew
  have e1 := m1.eq
  have n1 := m1.n
  have hn0 : (Go.VE.ent s).n = s.n := rfl
  have x1 : Lc s1 B oA X (.cells [ptr B] 25 false) := ⟨m1.here, (r0.fresh (A := X) (by omega)).1, (r0.fresh (A := X) (by omega)).2⟩
  have hx1 := acells_some x1.here
  have hu1 : Ints s1 u bits := (Sl.ent hu).grew m1.grew.same
  simp (maxSteps := 10000000) only [wW, Option.bind_some, Option.map_some, decide_eq_true_eq, Bool.not_eq_true', decide_eq_false_iff_not, Bool.not_true, Bool.not_false, ne_eq, if_true, if_false, reduceCtorEq, eq_self, Nat.zero_add, Nat.add_zero, not_false_eq_true, Nat.reduceEqDiff, wop_load, wop_indexAddr, wix0, wix1, wix2, rcAll, gcAll, Option.map_some, Nat.reduceAdd, load1 ap_24, load1 ap_3, load1 ap_4, load1 ap_92, load1 ap_32, loadN ap_94, loadN ap_34, loadN ap_58, fa_94_0, fa_94_1, fa_94_2, fa_94_3, fa_94_4, fa_94_5, fa_94_6, fa_94_7, fa_34_0, fa_34_1, fa_34_2, fa_34_3, fa_34_4, rc0, rc1, rc2, rc3, rc4, rc5, rc6, rc7, rc8, rc9, rc10, gc0, gc1, gc2, gc3, gc4, load1 ap_25, hx1, List.getElem?_cons_zero]
  refine ⟨by simp [veq], by simp [veq], ?_⟩
  rw [lKnown r1.liv hu1 (by omega)]
  refine ⟨.refl _, ?_⟩
  refine lReady' r1.liv _ (U64s.nil _) (show 0 < 2 ^ 62 by decide) fun s5 h5 m5 => ?_
  have r5 := r1.call h5 m5
  have x5 := x1.mut m5
  have hx5 := acells_some x5.here
  simp (maxSteps := 10000000) only [wW, Option.bind_some, Option.map_some, decide_eq_true_eq, Bool.not_eq_true', decide_eq_false_iff_not, Bool.not_true, Bool.not_false, ne_eq, if_true, if_false, reduceCtorEq, eq_self, Nat.zero_add, Nat.add_zero, not_false_eq_true, Nat.reduceEqDiff, wop_load, wop_indexAddr, wix0, wix1, wix2, rcAll, gcAll, Option.map_some, Nat.reduceAdd, load1 ap_24, load1 ap_3, load1 ap_4, load1 ap_92, load1 ap_32, loadN ap_94, loadN ap_34, loadN ap_58, fa_94_0, fa_94_1, fa_94_2, fa_94_3, fa_94_4, fa_94_5, fa_94_6, fa_94_7, fa_34_0, fa_34_1, fa_34_2, fa_34_3, fa_34_4, rc0, rc1, rc2, rc3, rc4, rc5, rc6, rc7, rc8, rc9, rc10, gc0, gc1, gc2, gc3, gc4, load1 ap_25, hx5, List.getElem?_cons_zero]
  have hk' := hk
  unfold mPack at hk'
  by_cases hr : (mready d (kn d bits && nums d [])).2 = true
  · rw [if_pos hr] at hk'
    obtain ⟨q1, he, _⟩ := mready_true hr
    rw [hr]
    rw [q1] at h5 r5
    simp (maxSteps := 10000000) only [wW, Option.bind_some, Option.map_some, decide_eq_true_eq, Bool.not_eq_true', decide_eq_false_iff_not, Bool.not_true, Bool.not_false, ne_eq, if_true, if_false, reduceCtorEq, eq_self, Nat.zero_add, Nat.add_zero, not_false_eq_true, Nat.reduceEqDiff]
    refine lWhole h5 fun A1 A2 A3 s6 h6 m6 hw6 => ⟨trivial, ?_⟩
    rw [wdefer_fn]
    have r6 := r5.call h6 m6
    have x6 := x5.mut m6
    simp (maxSteps := 10000000) only [wW, Option.bind_some, Option.map_some, decide_eq_true_eq, Bool.not_eq_true', decide_eq_false_iff_not, Bool.not_true, Bool.not_false, ne_eq, if_true, if_false, reduceCtorEq, eq_self, Nat.zero_add, Nat.add_zero, not_false_eq_true, Nat.reduceEqDiff, wop_load, wop_indexAddr, wix0, wix1, wix2, rcAll, gcAll, Option.map_some, Nat.reduceAdd, load1 ap_24, load1 ap_3, load1 ap_4, load1 ap_92, load1 ap_32, loadN ap_94, loadN ap_34, loadN ap_58, fa_94_0, fa_94_1, fa_94_2, fa_94_3, fa_94_4, fa_94_5, fa_94_6, fa_94_7, fa_34_0, fa_34_1, fa_34_2, fa_34_3, fa_34_4, rc0, rc1, rc2, rc3, rc4, rc5, rc6, rc7, rc8, rc9, rc10, gc0, gc1, gc2, gc3, gc4, load1 ap_25, acells_some x6.here, List.getElem?_cons_zero]
    refine lConst h6 _ fun s7 oA7 h7 m7 => ?_
    have r7 := r6.call h7 m7
    have x7 := x6.mut m7
    have hw7 := hw6.mut m7
    refine alloc_rule ty_3 h7.wf fun W s8 m8 => ?_
    have e8 := m8.eq
    have n8 := m8.n
    have r8 := r7.grew m8.grew
    have hW := r7.fresh (A := W) (by omega)
    have n7 := r7.mt.n
    refine store1_rule isz_3 m8.here r8.liv.wf (by have := r7.ro; omega) (by simp [Value.cells]) rfl fun s9 p9 => ?_
    have x9 := (x7.grew m8.grew).put p9 (by have := x7.lt; omega)
    have hwl := hw7.lt
    have hw9 := (hw7.mut (.ofGrew m8.grew)).putN p9 (by omega) (by omega) (by omega)
    have r9 := r8.put p9 (by omega) hW.2
    have w9 : Lc s9 B oA7 W (.cells [.int .i64 (mConst d 0).2] 3 false) := ⟨p9.here, hW.1, hW.2⟩
    have o7 : OffS B oA7 s.n u := ((hoff.mut (s := s5) (by have := r5.mt.n; omega) m6).mut (by have := r6.mt.n; omega) m7)
    have hu5 : Ints s5 u bits := hoff.sl (by omega) m5 hu1
    have hu6 : Ints s6 u bits := hoff.sl (by have := r5.mt.n; omega) m6 hu5
    have hu7 : Ints s7 u bits := (hoff.mut (s := s5) (by have := r5.mt.n; omega) m6).sl (by have := r6.mt.n; omega) m7 hu6
    have hu9 : Ints s9 u bits := o7.slPut (by omega) p9 (Sl.grew hu7 m8.grew.same)
    have hcells : u.cells.toList = [u] := by
      obtain ⟨a, c, rfl, _⟩ := hu
      rfl
    refine wBack r9.liv.wf (fun C s10 g10 hC10 c10 => ?_) hcells
    have n9 := p9.n
    have r10 := r9.grew g10
    have x10 := x9.grew g10
    have w10 := w9.grew g10
    have hw10 := hw9.mut (.ofGrew g10)
    have hu10 : Ints s10 u bits := Sl.grew hu9 g10.same
    have cC : Lc s10 B oA7 C (.cells [u] 30 false) := ⟨c10, (r9.fresh hC10).1, (r9.fresh hC10).2⟩
    refine wrange (by have := r10.mt.n; have := r10.ro; omega) fun t ht => ?_
    have hD := r10.fresh (A := s10.n) (Nat.le_refl _)
    have g11 : Grew s10 (s10.new (.defd (some []))) := .new _ _
    have r11 := r10.grew g11
    have hL := r11.fresh (A := s10.n + 1) (Nat.le_refl _)
    have g12 : Grew (s10.new (.defd (some []))) ((s10.new (.defd (some []))).new (.loop { state := .ready, pending := none, t := t, params := #[20, 21].toList, assign := c30_11110100, body := c30_11110101, defers := s10.n })) := .new _ _
    generalize hr0 : ({ state := .ready, pending := none, t := t, params := #[20, 21].toList, assign := c30_11110100, body := c30_11110101, defers := s10.n } : Lp) = lp at g12 ⊢
    have hD11 : Lc (s10.new (.defd (some []))) B oA7 s10.n (.defd (some [])) := ⟨at_newest _ _, hD.1, hD.2⟩
    have hL12 : Lc ((s10.new (.defd (some []))).new (.loop lp)) B oA7 (s10.n + 1) (.loop lp) := ⟨at_newest _ _, hL.1, hL.2⟩
    have g1012 := g11.trans g12
    have r12 := r10.grew g1012
    generalize hs12 : (s10.new (.defd (some []))).new (.loop lp) = s12 at *
    have n12 : s12.n = s10.n + 2 := by rw [← hs12]; rfl
    have hlp : lp.state = .ready ∧ lp.pending = none ∧ lp.t = t ∧ lp.params = [20, 21] ∧ lp.assign = c30_11110100 ∧ lp.body = c30_11110101 := by rw [← hr0]; exact ⟨rfl, rfl, rfl, rfl, rfl, rfl⟩
    clear hr0
    have n0s : (Go.VE.ent s).n = s.n := rfl
    have whE : WholeAt s5.n s12 B oA7 A1 A2 A3 d.rows.length d.nv := hw10.mut (.ofGrew g1012)
    have hXW : X ≠ W := by have := x7.lt; omega
    have hCW : C ≠ W := by have := w9.lt; omega
    have nle10 := r10.mt.n
    have xn := x10.lt
    have wn := w10.lt
    have cn := cC.lt
    have aln := hw10.lt
    have hro0 := r10.ro
    have off12 : OffS B oA7 (Go.VE.ent s).n u := o7
    have hu12 : Ints s12 u bits := Sl.grew hu10 g1012.same
    have fin : ∀ sF oF, Run1 ro (Go.VE.ent s) B oA sF oF (packGo bits.reverse (mConst d 0)).1 → Lc sF B oF W (.cells [.int .i64 (packGo bits.reverse (mConst d 0)).2] 3 false) → Lc sF B oF s10.n (.defd (some [])) → Lc sF B oF (s10.n + 1) (.loop lp) → WholeAt s5.n sF B oF A1 A2 A3 d.rows.length d.nv → ∀ {K1 : WK} {Q1 : Ex → WK} {τ ds}, (∀ sG oG, Run1 ro (Go.VE.ent s) B oA sG oG (packGo bits.reverse (mConst d 0)).1 → Lc sG B oG W (.cells [.int .i64 (packGo bits.reverse (mConst d 0)).2] 3 false) → Lc sG B oG s10.n (.defd (some [])) → WholeAt s5.n sG B oG A1 A2 A3 d.rows.length d.nv → K1 τ ds sG) →
        ∃ r ex, sF.at (s10.n + 1) = some (.loop r) ∧ (r.state = .ready ∨ r.state = .done) ∧ pendEx r.pending = some ex ∧ thenW K1 Q1 ex τ ds (sF.put (s10.n + 1) (.loop { r with state := .exhausted })) := fun sF oF rF wF dF lF whF {K1 Q1 τ ds} hK1 => by
      refine ⟨lp, .normal, lF.here, .inl hlp.1, by rw [hlp.2.1]; rfl, ?_⟩
      have p := Put.mk' rF.liv.wf lF.lt (.loop { lp with state := .exhausted })
      exact hK1 _ oF (rF.put p (by omega) lF.own) (wF.put p (by omega)) (dF.put p (by omega)) (whF.putN p (by omega) (by omega) (by omega))
    have fin2 : ∀ sG oG, Run1 ro (Go.VE.ent s) B oA sG oG (packGo bits.reverse (mConst d 0)).1 → Lc sG B oG W (.cells [.int .i64 (packGo bits.reverse (mConst d 0)).2] 3 false) → Lc sG B oG s10.n (.defd (some [])) → WholeAt s5.n sG B oG A1 A2 A3 d.rows.length d.nv →
        wopt (aload P sG 3 (.pointer (some ⟨W, 0, none⟩))) fun v => wdefers P ro [{ target := .collected s10.n, args := #[] }, ⟨.fn (.func 83) (.mk [ptr A1, ptr A2, ptr A3]), (.mk [])⟩] sG fun s16 => wfin s K v s16 := fun sG oG rG wG dG whG => by
      rw [load_one ap_3 wG.here rfl, wopt_some]
      refine ⟨dG.here, by omega, ?_⟩
      have p := Put.mk' rG.liv.wf dG.lt (.defd none)
      have rP := rG.put p (by omega) dG.own
      have wP := whG.putN p (by omega) (by omega) (by omega)
      generalize sG.put s10.n (.defd none) = sP at p rP wP ⊢
      refine lUndo rP.liv wP ((mConst_le d 0).trans (packGo_le bits.reverse (mConst d 0))).rows h.ok.nv fun s8 h8 m8 => ?_
      exact fin_mut h h8 (rP.mt.trans m8) rfl fun s' h' m' => hk' s' _ h' m'
    refine wBackward (u := u) (l := bits) lp (fun i s' => ∃ oA', PackI ro (Go.VE.ent s) B s12 oA7 u bits X W C s10.n (s10.n + 1) A1 A2 A3 s5.n lp d.rows.length d.nv (mConst d 0) i s' oA') (by rw [hlp.2.2.2.1]; rfl) (fun i s' hI => ?_) (fun i s' hI => ?_) (fun i s' hI => ?_) hlen (by omega) (fun i s' hi hI => ?_) ?_ (fun hz => ?_) (fun s' hI => ?_)
    · obtain ⟨o, hI⟩ := hI; exact hI.l.here
    · obtain ⟨o, hI⟩ := hI; exact ⟨_, _, hI.c.here⟩
    · obtain ⟨o, hI⟩ := hI; exact hI.ints
    · obtain ⟨oA1, hI⟩ := hI
      rw [hlp.2.2.1, hlp.2.2.2.1, hlp.2.2.2.2.1, hlp.2.2.2.2.2]
      refine round_wp (N := 27) (Agr.set (Agr.set ht 20 _ (by decide)) 21 _ (by decide)) l30_11110100 l30_11110101 (by omega) ?_
      rw [n30_11110100]
      unfold v30_11110100
      refine ⟨lp, hI.l.here, hlp.1, ?_⟩
      have pb := Put.mk' hI.run.liv.wf hI.l.lt (.loop { lp with state := .busy })
      generalize s'.put (s10.n + 1) (.loop { lp with state := .busy }) = sb at pb ⊢
      have hLs : (Go.VE.ent s).n ≤ s10.n + 1 := by omega
      have rb := hI.run.put pb hLs hI.l.own
      have xb := hI.x.put pb (by omega)
      have wb := hI.w.put pb (by omega)
      have cb := hI.c.put pb (by omega)
      have db := hI.dd.put pb (by omega)
      have ib : Ints sb u bits := hI.off.slPut (by omega) pb hI.ints
      have whb := hI.who.putN pb (by omega) (by omega) (by omega)
      have lb : Lc sb B oA1 (s10.n + 1) (.loop { lp with state := .busy }) := ⟨pb.here, hI.l.ne, hI.l.own⟩
      rw [n30_11110101]
      unfold v30_11110101
      simp (maxSteps := 10000000) only [U, tset_eq, wW, Option.bind_some, Option.map_some, decide_eq_true_eq, Bool.not_eq_true', decide_eq_false_iff_not, Bool.not_true, Bool.not_false, ne_eq, if_true, if_false, reduceCtorEq, eq_self, Nat.zero_add, Nat.add_zero, not_false_eq_true, Nat.reduceEqDiff, wop_load, wop_indexAddr, wix0, wix1, wix2, rcAll, gcAll, Option.map_some, Nat.reduceAdd, load1 ap_24, load1 ap_3, load1 ap_4, load1 ap_92, load1 ap_32, loadN ap_94, loadN ap_34, loadN ap_58, fa_94_0, fa_94_1, fa_94_2, fa_94_3, fa_94_4, fa_94_5, fa_94_6, fa_94_7, fa_34_0, fa_34_1, fa_34_2, fa_34_3, fa_34_4, rc0, rc1, rc2, rc3, rc4, rc5, rc6, rc7, rc8, rc9, rc10, gc0, gc1, gc2, gc3, gc4, load1 ap_25, acells_some xb.here, acells_some wb.here, List.getElem?_cons_zero]
      have hsn := rb.n
      refine lLinear rb.liv _ _ _ _ _ fun s3 oA3 l3 m3 => ?_
      have r3 := rb.call l3 m3
      have w3 := wb.mut m3
      refine store1_rule isz_3 w3.here r3.liv.wf (by omega) (by simp [Value.cells]) rfl fun s4 p4 => ?_
      have r4 := r3.put p4 (by omega) w3.own
      have l4 := (lb.mut m3).put p4 (by omega)
      refine ⟨_, l4.here, rfl, ?_⟩
      have pf := Put.mk' r4.liv.wf l4.lt (.loop { lp with state := if (jumpOf .normal).isNone = true then .ready else .done, pending := jumpOf .normal })
      show (s4.put (s10.n + 1) (.loop { lp with state := if (jumpOf .normal).isNone = true then .ready else .done, pending := jumpOf .normal })).lo ≤ s10.n + 1 ∧ _
      refine ⟨Nat.min_le_right _ _, oA3, ?_⟩
      have elp : ({ lp with state := if (jumpOf .normal).isNone = true then .ready else .done, pending := jumpOf .normal } : Lp) = lp := by
        obtain ⟨a, b, _⟩ := hlp
        cases lp
        simp only at a b
        subst a b
        rfl
      rw [elp] at pf ⊢
      generalize s4.put (s10.n + 1) (.loop lp) = sf at pf ⊢
      have hgo : packGo (bits.reverse.take (i + 1)) (mConst d 0) = mLinear (packGo (bits.reverse.take i) (mConst d 0)).1 (packGo (bits.reverse.take i) (mConst d 0)).2 bits[bits.length - 1 - i] 2 1 0 := by
        rw [rev_take hi, packGo_snoc]
      have o3 : OffS B oA3 (Go.VE.ent s).n u := hI.off.mut (by omega) m3
      refine ⟨?_, ((xb.mut m3).put p4 (by omega)).put pf (by omega), ?_, ((cb.mut m3).put p4 (by omega)).put pf (by omega), ((db.mut m3).put p4 (by omega)).put pf (by omega), ⟨pf.here, l4.ne, l4.own⟩, ?_, o3, ?_⟩
      · rw [hgo]
        exact r4.put pf hLs l4.own
      · rw [hgo]
        exact (⟨p4.here, w3.ne, w3.own⟩ : Lc s4 B oA3 W _).put pf (by omega)
      · exact o3.slPut (by omega) pf (o3.slPut (by omega) p4 (hI.off.sl (by omega) m3 ib))
      · exact ((whb.mut m3).putN p4 (by omega) (by omega) (by omega)).putN pf (by omega) (by omega) (by omega)
    · exact ⟨oA7, .start r12, (x10.grew g1012).ent, (w10.grew g1012).ent, (cC.grew g1012).ent, (hD11.grew g12).ent, hL12.ent, hu12.ent, o7, whE⟩
    · have hb : bits = [] := List.eq_nil_of_length_eq_zero hz
      subst hb
      refine fin s12 oA7 r12 (w10.grew g1012) (hD11.grew g12) hL12 (hw10.mut (.ofGrew g1012)) fun sG oG a b c e => ?_
      exact fin2 sG oG a b c e
    · obtain ⟨oF, hI⟩ := hI
      have ht : bits.reverse.take bits.length = bits.reverse := List.take_of_length_le (by simp)
      have hrun := hI.run
      have hww := hI.w
      rw [ht] at hrun hww
      exact fin _ oF (hrun.finish r12) hww.lo hI.dd.lo hI.l.lo hI.who fun sG oG a b c e => fin2 sG oG a b c e
  · have hr' : (mready d (kn d bits && nums d [])).2 = false := by simpa using hr
    rw [if_neg hr] at hk'
    rw [hr']
    simp (maxSteps := 10000000) only [wW, Option.bind_some, Option.map_some, decide_eq_true_eq, Bool.not_eq_true', decide_eq_false_iff_not, Bool.not_true, Bool.not_false, ne_eq, if_true, if_false, reduceCtorEq, eq_self, Nat.zero_add, Nat.add_zero, not_false_eq_true, Nat.reduceEqDiff]
    exact fin_mut h r5.liv r5.mt rfl fun s' h' m' => hk' s' oA h' m'

end
end Go.VE
/- Parts of slices of ints; Canonical's product. -/
namespace Go.VE
open Go Go.Proofs
set_option maxRecDepth 20000
section
variable {ro : Nat} {s : St} {B : Nat} {oA : Option Nat} {d : Bd} {K : Value → St → Prop}
theorem subLo {v : Value} {l : List Int} (h : Ints s v l) {k : Int} (h0 : 0 ≤ k) (hk : k < l.length) : ∃ w, Ints s w (l.drop k.toNat) ∧ (∀ B oA n, OffS B oA n v → OffS B oA n w) ∧ veq w w = true ∧
    ∀ (ty : TypeId) (s' : St) (K : Value → St → Prop), wop P ro (.slice 30 (.const v) (some (.const (.int .i64 k))) none none) ty s' K = K w s' := by
  have hs : isz P 3 = some 1 := isz_3
  have hund : P.underlying 30 = some (.slice 3) := un_30
  obtain ⟨a, c, rfl, hl, ⟨hc, hnone, hsp⟩, hb⟩ := h
  obtain ⟨A, o, m, cells, t, op, rfl, hm, hA, hcs⟩ := hb (by omega)
  have hm2 := hsp _ rfl
  simp only at hm2
  have hlen : ((l.drop k.toNat).map (Value.int .i64)).length = (l.drop k.toNat).length * 1 := by simp
  have hhi : abound none l.length c = some l.length := rfl
  have hlo : abound (some (.int .i64 k)) 0 l.length = some k.toNat := by
    simp only [abound]
    rw [if_pos ⟨by omega, by omega⟩]
  have hblk : ∀ sp, mkOk sp = true → (l.drop k.toNat).length * 1 ≠ 0 → ∃ A' o' m' cells t op, some (⟨A, o + k.toNat * 1, sp⟩ : Addr) = some ⟨A', o', m'⟩ ∧ mkOk m' = true ∧ s.at A' = some (.cells cells t op) ∧ (cells.drop o').take ((l.drop k.toNat).length * 1) = (l.drop k.toNat).map (.int .i64) := fun sp hsp' _ => by
    refine ⟨A, _, sp, cells, t, op, rfl, hsp', hA, ?_⟩
    rw [List.map_drop, ← hcs, List.drop_take, List.drop_drop]
    congr 1
    · simp
    · rw [Nat.mul_one]
  rcases hm2 with rfl | ⟨rfl, hpos⟩
  · refine ⟨.slice (some ⟨A, o + k.toNat * 1, none⟩) (l.length - k.toNat) (c - k.toNat), ⟨_, _, by rw [List.length_drop], hlen, ⟨by rw [List.length_drop]; omega, fun h => (by cases h), fun x hx => (by cases hx; exact .inl rfl)⟩, hblk none rfl⟩, fun B oA n hf A' o' sp' n' c' e => ?_, by simp [veq], fun ty s' K => ?_⟩
    · cases e; exact hf A o none _ _ rfl
    · rw [wop_slice]
      have hne : ¬ c = k.toNat := by omega
      simp only [asliceOp, hund, hs, sliceTwo, Option.map_some, Option.map_none, aval, hhi, hlo, Option.bind_some, hne, if_false, wopt_some]
  · refine ⟨.slice (some ⟨A, o + k.toNat * 1, some 0⟩) (l.length - k.toNat) (c - k.toNat), ⟨_, _, by rw [List.length_drop], hlen, ⟨by rw [List.length_drop]; omega, fun h => (by cases h), fun x hx => (by cases hx; exact .inr ⟨rfl, by omega⟩)⟩, hblk (some 0) rfl⟩, fun B oA n hf A' o' sp' n' c' e => ?_, by simp [veq], fun ty s' K => ?_⟩
    · cases e; exact hf A o _ _ _ rfl
    · rw [wop_slice]
      have hne : k.toNat < c := by omega
      simp only [asliceOp, hund, hs, sliceTwo, Option.map_some, Option.map_none, aval, hhi, hlo, Option.bind_some, hne, if_true, wopt_some]

theorem subHi {v : Value} {l : List Int} (h : Ints s v l) {k : Int} (h0 : 0 < k) (hk : k ≤ l.length) : ∃ w, Ints s w (l.take k.toNat) ∧ (∀ B oA n, OffS B oA n v → OffS B oA n w) ∧ veq w w = true ∧
    ∀ (ty : TypeId) (s' : St) (K : Value → St → Prop), wop P ro (.slice 30 (.const v) none (some (.const (.int .i64 k))) none) ty s' K = K w s' := by
  have hs : isz P 3 = some 1 := isz_3
  have hund : P.underlying 30 = some (.slice 3) := un_30
  obtain ⟨a, c, rfl, hl, ⟨hc, hnone, hsp⟩, hb⟩ := h
  obtain ⟨A, o, m, cells, t, op, rfl, hm, hA, hcs⟩ := hb (by omega)
  have hm2 := hsp _ rfl
  simp only at hm2
  have htl : (l.take k.toNat).length = k.toNat := by rw [List.length_take]; omega
  have hlen : ((l.take k.toNat).map (Value.int .i64)).length = (l.take k.toNat).length * 1 := by simp
  have hhi : abound (some (.int .i64 k)) l.length c = some k.toNat := by
    simp only [abound]
    rw [if_pos ⟨by omega, by omega⟩]
  have hlo : abound none 0 k.toNat = some 0 := rfl
  have hblk : ∀ sp, mkOk sp = true → (l.take k.toNat).length * 1 ≠ 0 → ∃ A' o' m' cells t op, some (⟨A, o, sp⟩ : Addr) = some ⟨A', o', m'⟩ ∧ mkOk m' = true ∧ s.at A' = some (.cells cells t op) ∧ (cells.drop o').take ((l.take k.toNat).length * 1) = (l.take k.toNat).map (.int .i64) := fun sp hsp' _ => by
    refine ⟨A, _, sp, cells, t, op, rfl, hsp', hA, ?_⟩
    rw [List.map_take, ← hcs, List.take_take]
    congr 1
    rw [htl]
    omega
  rcases hm2 with rfl | ⟨rfl, hpos⟩
  · refine ⟨.slice (some ⟨A, o, none⟩) k.toNat c, ⟨_, _, by rw [htl], hlen, ⟨by rw [htl]; omega, fun h => (by cases h), fun x hx => (by cases hx; exact .inl rfl)⟩, hblk none rfl⟩, fun B oA n hf A' o' sp' n' c' e => ?_, by simp [veq], fun ty s' K => ?_⟩
    · cases e; exact hf A o none _ _ rfl
    · rw [wop_slice]
      have hne : ¬ c = 0 := by omega
      simp only [asliceOp, hund, hs, sliceTwo, Option.map_some, Option.map_none, aval, hhi, hlo, Option.bind_some, hne, if_false, wopt_some, Nat.zero_mul, Nat.add_zero, Nat.sub_zero]
  · refine ⟨.slice (some ⟨A, o, some 0⟩) k.toNat c, ⟨_, _, by rw [htl], hlen, ⟨by rw [htl]; omega, fun h => (by cases h), fun x hx => (by cases hx; exact .inr ⟨rfl, by omega⟩)⟩, hblk (some 0) rfl⟩, fun B oA n hf A' o' sp' n' c' e => ?_, by simp [veq], fun ty s' K => ?_⟩
    · cases e; exact hf A o _ _ _ rfl
    · rw [wop_slice]
      simp only [asliceOp, hund, hs, sliceTwo, Option.map_some, Option.map_none, aval, hhi, hlo, Option.bind_some, hpos, if_true, wopt_some, Nat.zero_mul, Nat.add_zero, Nat.sub_zero]

noncomputable def prodGo : List Int → Bd × Int → Bd × Int
  | [], c => c
  | b :: r, c => prodGo r (mMul c.1 c.2 b)
theorem prodGo_snoc : ∀ (l : List Int) (b : Int) (c : Bd × Int), prodGo (l ++ [b]) c = mMul (prodGo l c).1 (prodGo l c).2 b
  | [], _, _ => rfl
  | x :: l, b, c => prodGo_snoc l b (mMul c.1 c.2 x)
theorem prodGo_le : ∀ (l : List Int) (c : Bd × Int), c.1.Le (prodGo l c).1
  | [], _ => .refl _
  | x :: l, c => (mMul_le c.1 c.2 x).trans (prodGo_le l _)

theorem lProd (h : Liv ro s B oA d) {X : Nat} {T : TypeId} {op : Bool} (hX : Lc s B oA X (.cells [ptr B] T op)) {u : Value} {l : List Int} (hu : Ints s u l) (hlen : l.length < 2 ^ 60) (hoff : OffS B oA s.n u) (first : Int)
    (hk : ∀ s' oA', Liv ro s' B oA' (prodGo l (d, first)).1 → Mut s B oA s' oA' → K (.int .i64 (prodGo l (d, first)).2) s') :
    CallWP P ro 41 [.int .i64 first, u, ptr X] s K := by
  refine call_wp b41 rfl ?_
  rw [n41]
  unfold v41
  simp (maxSteps := 10000000) only [wW, Option.bind_some, Option.map_some, decide_eq_true_eq, Bool.not_eq_true', decide_eq_false_iff_not, Bool.not_true, Bool.not_false, ne_eq, if_true, if_false, reduceCtorEq, eq_self, Nat.zero_add, Nat.add_zero, not_false_eq_true, Nat.reduceEqDiff, hu.wlen se_30]
  refine wloop l41_10100 m41_10100 (fun (i : Nat) τ ds s' => i ≤ l.length ∧ τ 0 = .int .i64 (prodGo (l.take i) (d, first)).2 ∧ τ 2 = ptr X ∧ τ 8 = u ∧ τ 9 = .int .i64 l.length ∧ τ 10 = .int .i64 i ∧ ds = [] ∧ ∃ oA', Liv ro s' B oA' (prodGo (l.take i) (d, first)).1 ∧ Mut (Go.VE.ent s) B oA s' oA' ∧ Lc s' B oA' X (.cells [ptr B] T op) ∧ Ints s' u l ∧ OffS B oA' s.n u) (fun i => l.length - i) ?_ 0 ⟨by omega, ?_, ?_, ?_, ?_, ?_, rfl, oA, h.ent, .refl _ _ _, hX.ent, Sl.ent hu, hoff⟩
  · rintro i τ ds s' ⟨hi, t0, t2, t8, t9, t10, rfl, oA', hl, hm, hx, hI, ho⟩
    rw [n41_10100]
    unfold v41_10100
    simp (maxSteps := 10000000) only [wW, Option.bind_some, Option.map_some, decide_eq_true_eq, Bool.not_eq_true', decide_eq_false_iff_not, Bool.not_true, Bool.not_false, ne_eq, if_true, if_false, reduceCtorEq, eq_self, Nat.zero_add, Nat.add_zero, not_false_eq_true, Nat.reduceEqDiff, t0, t2, t8, t9, t10]
    have hmn := hm.n
    have hn0 : (Go.VE.ent s).n = s.n := rfl
    by_cases hlt : i < l.length
    · rw [if_pos (by omega)]
      obtain ⟨A5, o5, c5, z1, z2, z3⟩ := hI.at1 (i := (i : Int)) (x := l[i]) (by omega) (by rw [Int.toNat_natCast]; exact List.getElem?_eq_getElem hlt)
      simp (maxSteps := 10000000) only [wW, Option.bind_some, Option.map_some, decide_eq_true_eq, Bool.not_eq_true', decide_eq_false_iff_not, Bool.not_true, Bool.not_false, ne_eq, if_true, if_false, reduceCtorEq, eq_self, Nat.zero_add, Nat.add_zero, not_false_eq_true, Nat.reduceEqDiff, wop_load, wop_indexAddr, wix0, wix1, wix2, rcAll, gcAll, Option.map_some, Nat.reduceAdd, load1 ap_24, load1 ap_3, load1 ap_4, load1 ap_92, load1 ap_32, loadN ap_94, loadN ap_34, loadN ap_58, fa_94_0, fa_94_1, fa_94_2, fa_94_3, fa_94_4, fa_94_5, fa_94_6, fa_94_7, fa_34_0, fa_34_1, fa_34_2, fa_34_3, fa_34_4, rc0, rc1, rc2, rc3, rc4, rc5, rc6, rc7, rc8, rc9, rc10, gc0, gc1, gc2, gc3, gc4, load1 ap_25, acells_some hx.here, List.getElem?_cons_zero, z1, z2, z3]
      refine lMul hl _ _ fun s3 oA3 l3 m3 => ?_
      rw [wrap_i64 (by omega) (by omega)]
      have hgo : prodGo (l.take (i + 1)) (d, first) = mMul (prodGo (l.take i) (d, first)).1 (prodGo (l.take i) (d, first)).2 l[i] := by
        rw [take_succ_eq (List.getElem?_eq_getElem hlt), prodGo_snoc]
      refine ⟨i + 1, by omega, by omega, ?_, ?_, ?_, ?_, ?_, trivial, oA3, ?_, hm.trans m3, hx.mut m3, ho.sl (by omega) m3 hI, ho.mut (by omega) m3⟩
      · rw [hgo]
        simp only [U, tset_eq, wW, Option.bind_some, Option.map_some, decide_eq_true_eq, Bool.not_eq_true', decide_eq_false_iff_not, Bool.not_true, Bool.not_false, ne_eq, if_true, if_false, reduceCtorEq, eq_self, Nat.zero_add, Nat.add_zero, not_false_eq_true, Nat.reduceEqDiff]
      · simp only [U, tset_eq, wW, Option.bind_some, Option.map_some, decide_eq_true_eq, Bool.not_eq_true', decide_eq_false_iff_not, Bool.not_true, Bool.not_false, ne_eq, if_true, if_false, reduceCtorEq, eq_self, Nat.zero_add, Nat.add_zero, not_false_eq_true, Nat.reduceEqDiff, t2]
      · simp only [U, tset_eq, wW, Option.bind_some, Option.map_some, decide_eq_true_eq, Bool.not_eq_true', decide_eq_false_iff_not, Bool.not_true, Bool.not_false, ne_eq, if_true, if_false, reduceCtorEq, eq_self, Nat.zero_add, Nat.add_zero, not_false_eq_true, Nat.reduceEqDiff, t8]
      · simp only [U, tset_eq, wW, Option.bind_some, Option.map_some, decide_eq_true_eq, Bool.not_eq_true', decide_eq_false_iff_not, Bool.not_true, Bool.not_false, ne_eq, if_true, if_false, reduceCtorEq, eq_self, Nat.zero_add, Nat.add_zero, not_false_eq_true, Nat.reduceEqDiff, t9]
      · simp only [U, tset_eq, wW, Option.bind_some, Option.map_some, decide_eq_true_eq, Bool.not_eq_true', decide_eq_false_iff_not, Bool.not_true, Bool.not_false, ne_eq, if_true, if_false, reduceCtorEq, eq_self, Nat.zero_add, Nat.add_zero, not_false_eq_true, Nat.reduceEqDiff]; rfl
      · rw [hgo]; exact l3
    · obtain rfl : i = l.length := by omega
      rw [if_neg (by omega)]
      have ht : l.take l.length = l := List.take_of_length_le (Nat.le_refl _)
      rw [ht] at t0 hl
      simp (maxSteps := 10000000) only [U, tset_eq, wW, Option.bind_some, Option.map_some, decide_eq_true_eq, Bool.not_eq_true', decide_eq_false_iff_not, Bool.not_true, Bool.not_false, ne_eq, if_true, if_false, reduceCtorEq, eq_self, Nat.zero_add, Nat.add_zero, not_false_eq_true, Nat.reduceEqDiff, t0]
      exact fin_mut h hl hm rfl fun s' h' m' => hk s' _ h' m'
  · simp only [U, tset_eq, wW, Option.bind_some, Option.map_some, decide_eq_true_eq, Bool.not_eq_true', decide_eq_false_iff_not, Bool.not_true, Bool.not_false, ne_eq, if_true, if_false, reduceCtorEq, eq_self, Nat.zero_add, Nat.add_zero, not_false_eq_true, Nat.reduceEqDiff]; rfl
  · simp only [U, tset_eq, wW, Option.bind_some, Option.map_some, decide_eq_true_eq, Bool.not_eq_true', decide_eq_false_iff_not, Bool.not_true, Bool.not_false, ne_eq, if_true, if_false, reduceCtorEq, eq_self, Nat.zero_add, Nat.add_zero, not_false_eq_true, Nat.reduceEqDiff]
  · simp only [U, tset_eq, wW, Option.bind_some, Option.map_some, decide_eq_true_eq, Bool.not_eq_true', decide_eq_false_iff_not, Bool.not_true, Bool.not_false, ne_eq, if_true, if_false, reduceCtorEq, eq_self, Nat.zero_add, Nat.add_zero, not_false_eq_true, Nat.reduceEqDiff]
  · simp only [U, tset_eq, wW, Option.bind_some, Option.map_some, decide_eq_true_eq, Bool.not_eq_true', decide_eq_false_iff_not, Bool.not_true, Bool.not_false, ne_eq, if_true, if_false, reduceCtorEq, eq_self, Nat.zero_add, Nat.add_zero, not_false_eq_true, Nat.reduceEqDiff]
  · simp only [U, tset_eq, wW, Option.bind_some, Option.map_some, decide_eq_true_eq, Bool.not_eq_true', decide_eq_false_iff_not, Bool.not_true, Bool.not_false, ne_eq, if_true, if_false, reduceCtorEq, eq_self, Nat.zero_add, Nat.add_zero, not_false_eq_true, Nat.reduceEqDiff]; rfl

end
end Go.VE
/- A builder that lives: Canonical. -/
namespace Go.VE
open Go Go.Proofs
set_option maxRecDepth 20000
noncomputable def mCan (d : Bd) (bits : List Int) : Bd :=
  let p1 := prodGo (bits.drop 27) (d, at0 bits 26)
  let d2 := mZero p1.1 p1.2
  let nt := mLinear d2 (at0 bits 26) (at0 bits 26) (fP d2.f - 1) 0 1
  let top := prodGo [at0 bits 24, at0 bits 25, nt.2, at0 bits 27, at0 bits 28, at0 bits 29] (nt.1, at0 bits 23)
  let pk := mPack top.1 (bits.take 23)
  let m := mMul pk.1 top.2 pk.2
  mZero m.1 m.2

def canOk (d : Bd) (bits : List Int) : Bool := decide (d.e = 0) && (decide (d.f = 3) && (decide (bits.length = 30) && kn d bits))

noncomputable def mCanonical (d : Bd) (bits : List Int) : Bd :=
  if (mready d (canOk d bits && nums d [])).2 = true then mUndo (mCan d bits) d.rows.length d.nv else (mready d (canOk d bits && nums d [])).1

theorem mZero_le (d : Bd) (u : Int) : d.Le (mZero d u) := by
  unfold mZero
  split
  · exact mput_le _ _ _
  · exact mready_le _ _
theorem mPack_le (d : Bd) (bits : List Int) : d.Le (mPack d bits).1 := by
  unfold mPack
  split
  · exact mUndo_le ((mConst_le d 0).trans (packGo_le bits.reverse (mConst d 0)))
  · exact mready_le _ _
theorem mCan_le (d : Bd) (bits : List Int) : d.Le (mCan d bits) :=
  (prodGo_le _ (d, at0 bits 26)).trans ((mZero_le _ _).trans ((mLinear_le _ _ _ _ _ _).trans ((prodGo_le _ (_, at0 bits 23)).trans ((mPack_le _ _).trans ((mMul_le _ _ _).trans (mZero_le _ _))))))

section
variable {ro : Nat} {s : St} {B : Nat} {oA : Option Nat} {d : Bd} {K : Value → St → Prop}
theorem Mut.keeps {s' : St} {oA' : Option Nat} (m : Mut s B oA s' oA') {l : List (Nat × Rng)} (h : ∀ x ∈ l, ∃ X o, x.2 = .ptr (.pointer (some ⟨X, o, none⟩)) ∧ X < s.n ∧ X ≠ B ∧ oA ≠ some X) : Keeps l s s' := by
  refine ⟨m.n, fun x hx => ?_⟩
  obtain ⟨X, o, e, h1, h2, h3⟩ := h x hx
  obtain ⟨j, g⟩ := x
  simp only at e
  subst e
  intro y z e hz
  cases e
  rw [m.same X h1 h2 h3]
  exact hz

theorem Lc.keeps1 {s' : St} {oA' : Option Nat} {X : Nat} {o : AO} (h : Lc s B oA X o) (m : Mut s B oA s' oA') (i : Nat) : Keeps [(i, .ptr (ptr X))] s s' := m.keeps fun x hx => by
  simp only [List.mem_cons, List.not_mem_nil, or_false] at hx
  subst hx
  exact ⟨X, 0, rfl, h.lt, h.ne, h.own⟩
theorem Lc.keeps2 {s' : St} {oA' : Option Nat} {X : Nat} {o : AO} (h : Lc s B oA X o) (m : Mut s B oA s' oA') (i j : Nat) : Keeps [(i, .ptr (ptr X)), (j, .ptr (ptr X))] s s' := m.keeps fun x hx => by
  simp only [List.mem_cons, List.not_mem_nil, or_false] at hx
  rcases hx with rfl | rfl <;> exact ⟨X, 0, rfl, h.lt, h.ne, h.own⟩

theorem lCan (h : Liv ro s B oA d) {s0 : St} {oA0 : Option Nat} (r : Run1 ro s0 B oA0 s oA d) {X : Nat} (hX : Lc s B oA X (.cells [ptr B] 25 false)) {u : Value} {bits : List Int} (hu : Ints s u bits) (hlen : bits.length = 30) (hoff : OffS B oA s0.n u) {τ : Tau} (t1 : τ 1 = u) (t2 : τ 2 = ptr X) {Q : Ex → XK}
    (hk : ∀ τ' al s' oA' A1 A2 A3 n0, Run1 ro s0 B oA0 s' oA' (mCan d bits) → WholeAt n0 s' B oA' A1 A2 A3 d.rows.length d.nv → Q .normal τ' al [⟨.fn (.func 83) (.mk [ptr A1, ptr A2, ptr A3]), (.mk [])⟩] s') :
    xp (prims P ro) none 84 k10 c10_11 [1, 1] τ [] [] s Q := by
  rw [n10_11]
  unfold v10_11
  rw [t1, t2]
  have get : ∀ {s' : St}, Ints s' u bits → ∀ (k : Int), 0 ≤ k → k < 30 → ∃ A o c, aindexAddr P 30 u (.int .i64 k) = some (.pointer (some ⟨A, o, none⟩)) ∧ acells (s'.at A) = some c ∧ c[o]? = some (.int .i64 (at0 bits k)) := fun hI k h0 h1 => hI.at1 h0 (at0_get h0 (by omega))
  simp (maxSteps := 10000000) only [wW, Option.bind_some, Option.map_some, decide_eq_true_eq, Bool.not_eq_true', decide_eq_false_iff_not, Bool.not_true, Bool.not_false, ne_eq, if_true, if_false, reduceCtorEq, eq_self, Nat.zero_add, Nat.add_zero, not_false_eq_true, Nat.reduceEqDiff, wop_load, wop_indexAddr, wix0, wix1, wix2, rcAll, gcAll, Option.map_some, Nat.reduceAdd, load1 ap_24, load1 ap_3, load1 ap_4, load1 ap_92, load1 ap_32, loadN ap_94, loadN ap_34, loadN ap_58, fa_94_0, fa_94_1, fa_94_2, fa_94_3, fa_94_4, fa_94_5, fa_94_6, fa_94_7, fa_34_0, fa_34_1, fa_34_2, fa_34_3, fa_34_4, rc0, rc1, rc2, rc3, rc4, rc5, rc6, rc7, rc8, rc9, rc10, gc0, gc1, gc2, gc3, gc4, load1 ap_25, acells_some hX.here, List.getElem?_cons_zero]
  refine lWhole h fun A1 A2 A3 s1 h1 m1 w1 => ⟨trivial, ?_⟩
  rw [wdefer_fn]
  have r1 := r.call h1 m1
  have x1 := hX.mut m1
  have n0 := r.mt.n
  have i1 : Ints s1 u bits := hoff.sl n0 m1 hu
  have o1 := hoff.mut n0 m1
  obtain ⟨Aa, oa, ca, a1, a2, a3⟩ := get i1 26 (by decide) (by decide)
  obtain ⟨w27, i27, f27, v27, e27⟩ := subLo (ro := ro) i1 (k := 27) (by decide) (by omega)
  simp (maxSteps := 10000000) only [wW, Option.bind_some, Option.map_some, decide_eq_true_eq, Bool.not_eq_true', decide_eq_false_iff_not, Bool.not_true, Bool.not_false, ne_eq, if_true, if_false, reduceCtorEq, eq_self, Nat.zero_add, Nat.add_zero, not_false_eq_true, Nat.reduceEqDiff, wop_load, wop_indexAddr, wix0, wix1, wix2, rcAll, gcAll, Option.map_some, Nat.reduceAdd, load1 ap_24, load1 ap_3, load1 ap_4, load1 ap_92, load1 ap_32, loadN ap_94, loadN ap_34, loadN ap_58, fa_94_0, fa_94_1, fa_94_2, fa_94_3, fa_94_4, fa_94_5, fa_94_6, fa_94_7, fa_34_0, fa_34_1, fa_34_2, fa_34_3, fa_34_4, rc0, rc1, rc2, rc3, rc4, rc5, rc6, rc7, rc8, rc9, rc10, gc0, gc1, gc2, gc3, gc4, load1 ap_25, acells_some x1.here, List.getElem?_cons_zero, a1, a2, a3, e27]
  refine ⟨by simp [veq], by simp [veq], ?_⟩
  have n1 := r1.mt.n
  refine lProd h1 x1 i27 (by simp; omega) (fun A o sp k c e => ⟨by have := (f27 _ _ _ o1 A o sp k c e).1; omega, (f27 _ _ _ o1 A o sp k c e).2⟩) _ fun s2 oA2 h2 m2 => ⟨x1.keeps1 m2 0, ?_⟩
  have r2 := r1.call h2 m2
  have x2 := x1.mut m2
  have i2 : Ints s2 u bits := o1.sl n1 m2 i1
  have o2 := o1.mut n1 m2
  have w2 := w1.mut m2
  refine lZero h2 _ fun s3 oA3 h3 m3 => ?_
  have r3 := r2.call h3 m3
  have x3 := x2.mut m3
  have n2 := r2.mt.n
  have i3 : Ints s3 u bits := o2.sl n2 m3 i2
  have o3 := o2.mut n2 m3
  have w3 := w2.mut m3
  have n3 := r3.mt.n
  obtain ⟨Ab, ob, cb, b1, b2, b3⟩ := get i3 26 (by decide) (by decide)
  rw [a1] at b1
  cases b1
  simp (maxSteps := 10000000) only [wW, Option.bind_some, Option.map_some, decide_eq_true_eq, Bool.not_eq_true', decide_eq_false_iff_not, Bool.not_true, Bool.not_false, ne_eq, if_true, if_false, reduceCtorEq, eq_self, Nat.zero_add, Nat.add_zero, not_false_eq_true, Nat.reduceEqDiff, wop_load, wop_indexAddr, wix0, wix1, wix2, rcAll, gcAll, Option.map_some, Nat.reduceAdd, load1 ap_24, load1 ap_3, load1 ap_4, load1 ap_92, load1 ap_32, loadN ap_94, loadN ap_34, loadN ap_58, fa_94_0, fa_94_1, fa_94_2, fa_94_3, fa_94_4, fa_94_5, fa_94_6, fa_94_7, fa_34_0, fa_34_1, fa_34_2, fa_34_3, fa_34_4, rc0, rc1, rc2, rc3, rc4, rc5, rc6, rc7, rc8, rc9, rc10, gc0, gc1, gc2, gc3, gc4, load1 ap_25, acells_some x3.here, List.getElem?_cons_zero, b2, b3]
  refine ⟨by simp [veq], by simp [veq], by simp [veq], by simp [veq], ?_⟩
  rw [lMinus h3]
  refine ⟨.refl _, ?_⟩
  refine lLinear h3 _ _ _ _ _ fun s4 oA4 h4 m4 => ?_
  have r4 := r3.call h4 m4
  have x4 := x3.mut m4
  have i4 : Ints s4 u bits := o3.sl n3 m4 i3
  have o4 := o3.mut n3 m4
  have w4 := w3.mut m4
  have n4 := r4.mt.n
  obtain ⟨C3, c3o, c3c, c31, c32, c33⟩ := get i4 23 (by decide) (by decide)
  obtain ⟨C4, c4o, c4c, c41, c42, c43⟩ := get i4 24 (by decide) (by decide)
  obtain ⟨C5, c5o, c5c, c51, c52, c53⟩ := get i4 25 (by decide) (by decide)
  obtain ⟨C7, c7o, c7c, c71, c72, c73⟩ := get i4 27 (by decide) (by decide)
  obtain ⟨C8, c8o, c8c, c81, c82, c83⟩ := get i4 28 (by decide) (by decide)
  obtain ⟨C9, c9o, c9c, c91, c92, c93⟩ := get i4 29 (by decide) (by decide)
  simp (maxSteps := 10000000) only [wW, Option.bind_some, Option.map_some, decide_eq_true_eq, Bool.not_eq_true', decide_eq_false_iff_not, Bool.not_true, Bool.not_false, ne_eq, if_true, if_false, reduceCtorEq, eq_self, Nat.zero_add, Nat.add_zero, not_false_eq_true, Nat.reduceEqDiff, wop_load, wop_indexAddr, wix0, wix1, wix2, rcAll, gcAll, Option.map_some, Nat.reduceAdd, load1 ap_24, load1 ap_3, load1 ap_4, load1 ap_92, load1 ap_32, loadN ap_94, loadN ap_34, loadN ap_58, fa_94_0, fa_94_1, fa_94_2, fa_94_3, fa_94_4, fa_94_5, fa_94_6, fa_94_7, fa_34_0, fa_34_1, fa_34_2, fa_34_3, fa_34_4, rc0, rc1, rc2, rc3, rc4, rc5, rc6, rc7, rc8, rc9, rc10, gc0, gc1, gc2, gc3, gc4, c31, c32, c33, c41, c42, c43, c51, c52, c53, c71, c72, c73, c81, c82, c83, c91, c92, c93]
  refine ⟨by simp [veq], by simp [veq], by simp [veq], by simp [veq], by simp [veq], by simp [veq], ?_⟩
  refine buildSlice_rule se_30 ty_3 h4.wf [.int .i64 (at0 bits 24), .int .i64 (at0 bits 25), .int .i64 _, .int .i64 (at0 bits 27), .int .i64 (at0 bits 28), .int .i64 (at0 bits 29)] rfl rfl (by decide) (by simp [Value.cells]) fun Y s5 y5 => ⟨y5.fresh (by simp [veqL, veq, Value.cells]), ?_⟩
  have r5 := r4.grew y5.grew
  have x5 := x4.grew y5.grew
  have m5 : Mut s4 B oA4 s5 oA4 := .ofGrew y5.grew
  have i5 : Ints s5 u bits := o4.sl n4 m5 i4
  have w5 := w4.mut m5
  have n5 := r5.mt.n
  have ey := y5.eq
  have nyy := y5.n
  have iY : Ints s5 (.slice (some ⟨Y, 0, none⟩) 6 6) [at0 bits 24, at0 bits 25, _, at0 bits 27, at0 bits 28, at0 bits 29] := y5.sl rfl
  have offY : OffS B oA4 s5.n (.slice (some ⟨Y, 0, none⟩) 6 6) := fun A o sp k c e => by
    cases e
    exact ⟨by omega, r4.fresh (by omega)⟩
  refine lProd r5.liv x5 iY (show 6 < 2 ^ 60 by decide) offY _ fun s6 oA6 h6 m6 => ⟨m6.n, ?_⟩
  have r6 := r5.call h6 m6
  have x6 := x5.mut m6
  have i6 : Ints s6 u bits := o4.sl n5 m6 i5
  have o6 := o4.mut n5 m6
  have w6 := w5.mut m6
  have n6 := r6.mt.n
  obtain ⟨w23, i23, f23, v23, e23⟩ := subHi (ro := ro) i6 (k := 23) (by decide) (by omega)
  simp (maxSteps := 10000000) only [wW, Option.bind_some, Option.map_some, decide_eq_true_eq, Bool.not_eq_true', decide_eq_false_iff_not, Bool.not_true, Bool.not_false, ne_eq, if_true, if_false, reduceCtorEq, eq_self, Nat.zero_add, Nat.add_zero, not_false_eq_true, Nat.reduceEqDiff, wop_load, wop_indexAddr, wix0, wix1, wix2, rcAll, gcAll, Option.map_some, Nat.reduceAdd, load1 ap_24, load1 ap_3, load1 ap_4, load1 ap_92, load1 ap_32, loadN ap_94, loadN ap_34, loadN ap_58, fa_94_0, fa_94_1, fa_94_2, fa_94_3, fa_94_4, fa_94_5, fa_94_6, fa_94_7, fa_34_0, fa_34_1, fa_34_2, fa_34_3, fa_34_4, rc0, rc1, rc2, rc3, rc4, rc5, rc6, rc7, rc8, rc9, rc10, gc0, gc1, gc2, gc3, gc4, load1 ap_25, acells_some x6.here, List.getElem?_cons_zero, e23]
  refine ⟨by simp [veq], by simp [veq], by simp [veq], ?_⟩
  refine lPack h6 i23 (by simp; omega) (fun A o sp k c e => ⟨by have := (f23 _ _ _ o6 A o sp k c e).1; omega, (f23 _ _ _ o6 A o sp k c e).2⟩) fun s7 oA7 h7 m7 => ⟨x6.keeps2 m7 1 0, ?_⟩
  have r7 := r6.call h7 m7
  have x7 := x6.mut m7
  have w7 := w6.mut m7
  refine lMul h7 _ _ fun s8 oA8 h8 m8 => ⟨x7.keeps1 m8 0, ?_⟩
  have r8 := r7.call h8 m8
  have w8 := w7.mut m8
  refine lZero h8 _ fun s9 oA9 h9 m9 => ?_
  have r9 := r8.call h9 m9
  have w9 := w8.mut m9
  exact hk _ _ s9 oA9 A1 A2 A3 _ r9 w9

theorem xleave_n {I : Prims} {s0 : St} {rs : List ResultVar} {K : Value → St → Prop} : xleave I s0 rs K .normal = xleave I s0 rs K .ret := rfl

theorem lCanonical (h : Liv ro s B oA d) {u : Value} {bits : List Int} (hu : Ints s u bits) (hlen : bits.length < 2 ^ 60) (hoff : OffS B oA s.n u) (hk : ∀ s' oA', Liv ro s' B oA' (mCanonical d bits) → Mut s B oA s' oA' → K (.tuple (.mk [])) s') :
    CallWP P ro 10 [ptr B, u] s K := by
  refine call_wp b10 rfl ?_
  rw [n10]
  unfold v10
  simp (maxSteps := 10000000) only [wW, Option.bind_some, Option.map_some, decide_eq_true_eq, Bool.not_eq_true', decide_eq_false_iff_not, Bool.not_true, Bool.not_false, ne_eq, if_true, if_false, reduceCtorEq, eq_self, Nat.zero_add, Nat.add_zero, not_false_eq_true, Nat.reduceEqDiff]
  have r0 := Run1.start h
  refine box_rule h.wf.ent fun X s1 m1 => ?_
  have r1 := r0.grew m1.grew
  have e1 := m1.eq
  have hn0 : (Go.VE.ent s).n = s.n := rfl
  have x1 : Lc s1 B oA X (.cells [ptr B] 25 false) := ⟨m1.here, (r0.fresh (A := X) (by omega)).1, (r0.fresh (A := X) (by omega)).2⟩
  have hx1 := acells_some x1.here
  have hu1 : Ints s1 u bits := (Sl.ent hu).grew m1.grew.same
  have hk' := hk
  unfold mCanonical at hk'
  simp (maxSteps := 10000000) only [wW, Option.bind_some, Option.map_some, decide_eq_true_eq, Bool.not_eq_true', decide_eq_false_iff_not, Bool.not_true, Bool.not_false, ne_eq, if_true, if_false, reduceCtorEq, eq_self, Nat.zero_add, Nat.add_zero, not_false_eq_true, Nat.reduceEqDiff, wop_load, wop_indexAddr, wix0, wix1, wix2, rcAll, gcAll, Option.map_some, Nat.reduceAdd, load1 ap_24, load1 ap_3, load1 ap_4, load1 ap_92, load1 ap_32, loadN ap_94, loadN ap_34, loadN ap_58, fa_94_0, fa_94_1, fa_94_2, fa_94_3, fa_94_4, fa_94_5, fa_94_6, fa_94_7, fa_34_0, fa_34_1, fa_34_2, fa_34_3, fa_34_4, rc0, rc1, rc2, rc3, rc4, rc5, rc6, rc7, rc8, rc9, rc10, gc0, gc1, gc2, gc3, gc4, load1 ap_25, hx1, List.getElem?_cons_zero]
  refine ⟨by simp [veq], by simp [veq], ?_⟩
  rw [lErr r1.liv]
  refine ⟨.refl _, ?_⟩
  have bad : canOk d bits = false → ∀ {Y : Value → St → Prop}, (∀ s5, wfin s K (.tuple (.mk [])) s5 → Y (.bool false) s5) → CallWP P ro 38 [ptr B, .bool false, .slice none 0 0] s1 Y := fun hc {Y} hY => by
    refine lReady' r1.liv false (U64s.nil _) (show 0 < 2 ^ 62 by decide) fun s5 h5 m5 => ?_
    have r5 := r1.call h5 m5
    have hf : (mready d (false && nums d [])).2 = false := by
      unfold mready
      split <;> rfl
    rw [hf]
    refine hY s5 ?_
    rw [hc, if_neg (by rw [hf]; decide)] at hk'
    exact fin_mut h r5.liv r5.mt rfl fun s' h' m' => hk' s' oA h' m'
  simp (maxSteps := 10000000) only [wW, Option.bind_some, Option.map_some, decide_eq_true_eq, Bool.not_eq_true', decide_eq_false_iff_not, Bool.not_true, Bool.not_false, ne_eq, if_true, if_false, reduceCtorEq, eq_self, Nat.zero_add, Nat.add_zero, not_false_eq_true, Nat.reduceEqDiff]
  by_cases he : d.e = 0
  · rw [if_pos he]
    obtain ⟨w, ew1, ew2⟩ := r1.liv.ex
    simp (maxSteps := 10000000) only [wW, Option.bind_some, Option.map_some, decide_eq_true_eq, Bool.not_eq_true', decide_eq_false_iff_not, Bool.not_true, Bool.not_false, ne_eq, if_true, if_false, reduceCtorEq, eq_self, Nat.zero_add, Nat.add_zero, not_false_eq_true, Nat.reduceEqDiff, wop_load, wop_indexAddr, wix0, wix1, wix2, rcAll, gcAll, Option.map_some, Nat.reduceAdd, load1 ap_24, load1 ap_3, load1 ap_4, load1 ap_92, load1 ap_32, loadN ap_94, loadN ap_34, loadN ap_58, fa_94_0, fa_94_1, fa_94_2, fa_94_3, fa_94_4, fa_94_5, fa_94_6, fa_94_7, fa_34_0, fa_34_1, fa_34_2, fa_34_3, fa_34_4, rc0, rc1, rc2, rc3, rc4, rc5, rc6, rc7, rc8, rc9, rc10, gc0, gc1, gc2, gc3, gc4, load1 ap_25, hx1, List.getElem?_cons_zero, fa_81_1, acells_some ew1, show (d.cells w)[1]? = some (.int .i64 d.f) from rfl]
    refine ⟨by simp [veq], by simp [veq], ?_⟩
    by_cases hf : d.f = 3
    · rw [if_pos hf, hu.wlen se_30]
      simp (maxSteps := 10000000) only [wW, Option.bind_some, Option.map_some, decide_eq_true_eq, Bool.not_eq_true', decide_eq_false_iff_not, Bool.not_true, Bool.not_false, ne_eq, if_true, if_false, reduceCtorEq, eq_self, Nat.zero_add, Nat.add_zero, not_false_eq_true, Nat.reduceEqDiff]
      by_cases hl : bits.length = 30
      · rw [if_pos (by omega)]
        simp (maxSteps := 10000000) only [wW, Option.bind_some, Option.map_some, decide_eq_true_eq, Bool.not_eq_true', decide_eq_false_iff_not, Bool.not_true, Bool.not_false, ne_eq, if_true, if_false, reduceCtorEq, eq_self, Nat.zero_add, Nat.add_zero, not_false_eq_true, Nat.reduceEqDiff, wop_load, wop_indexAddr, wix0, wix1, wix2, rcAll, gcAll, Option.map_some, Nat.reduceAdd, load1 ap_24, load1 ap_3, load1 ap_4, load1 ap_92, load1 ap_32, loadN ap_94, loadN ap_34, loadN ap_58, fa_94_0, fa_94_1, fa_94_2, fa_94_3, fa_94_4, fa_94_5, fa_94_6, fa_94_7, fa_34_0, fa_34_1, fa_34_2, fa_34_3, fa_34_4, rc0, rc1, rc2, rc3, rc4, rc5, rc6, rc7, rc8, rc9, rc10, gc0, gc1, gc2, gc3, gc4, load1 ap_25, hx1, List.getElem?_cons_zero]
        refine ⟨by simp [veq], ?_⟩
        rw [lKnown r1.liv hu1 (by omega)]
        refine ⟨.refl _, ?_⟩
        have hc : canOk d bits = kn d bits := by unfold canOk; simp [he, hf, hl]
        rw [hc] at hk'
        refine lReady' r1.liv _ (U64s.nil _) (show 0 < 2 ^ 62 by decide) fun s5 h5 m5 => ?_
        have r5 := r1.call h5 m5
        have x5 := x1.mut m5
        by_cases hr : (mready d (kn d bits && nums d [])).2 = true
        · rw [if_pos hr] at hk'
          obtain ⟨q1, _, _⟩ := mready_true hr
          rw [hr]
          rw [q1] at h5 r5
          simp (maxSteps := 10000000) only [wW, Option.bind_some, Option.map_some, decide_eq_true_eq, Bool.not_eq_true', decide_eq_false_iff_not, Bool.not_true, Bool.not_false, ne_eq, if_true, if_false, reduceCtorEq, eq_self, Nat.zero_add, Nat.add_zero, not_false_eq_true, Nat.reduceEqDiff]
          refine lCan h5 r5 x5 (hoff.sl (by have := r1.mt.n; omega) m5 hu1) hl hoff ?_ ?_ fun τ' al s' oA' A1 A2 A3 n0 rr ww => ?_
          · simp only [U, tset_eq, wW, Option.bind_some, Option.map_some, decide_eq_true_eq, Bool.not_eq_true', decide_eq_false_iff_not, Bool.not_true, Bool.not_false, ne_eq, if_true, if_false, reduceCtorEq, eq_self, Nat.zero_add, Nat.add_zero, not_false_eq_true, Nat.reduceEqDiff]
          · simp only [U, tset_eq, wW, Option.bind_some, Option.map_some, decide_eq_true_eq, Bool.not_eq_true', decide_eq_false_iff_not, Bool.not_true, Bool.not_false, ne_eq, if_true, if_false, reduceCtorEq, eq_self, Nat.zero_add, Nat.add_zero, not_false_eq_true, Nat.reduceEqDiff]
          · rw [xleave_n, xleave_U, r10]
            simp (maxSteps := 10000000) only [wW, Option.bind_some, Option.map_some, decide_eq_true_eq, Bool.not_eq_true', decide_eq_false_iff_not, Bool.not_true, Bool.not_false, ne_eq, if_true, if_false, reduceCtorEq, eq_self, Nat.zero_add, Nat.add_zero, not_false_eq_true, Nat.reduceEqDiff]
            refine lUndo rr.liv ww (mCan_le d bits).rows h.ok.nv fun s8 h8 m8 => ?_
            exact fin_mut h h8 (rr.mt.trans m8) rfl fun s' h' m' => hk' s' _ h' m'
        · have hr' : (mready d (kn d bits && nums d [])).2 = false := by simpa using hr
          rw [if_neg hr] at hk'
          rw [hr']
          simp (maxSteps := 10000000) only [wW, Option.bind_some, Option.map_some, decide_eq_true_eq, Bool.not_eq_true', decide_eq_false_iff_not, Bool.not_true, Bool.not_false, ne_eq, if_true, if_false, reduceCtorEq, eq_self, Nat.zero_add, Nat.add_zero, not_false_eq_true, Nat.reduceEqDiff]
          exact fin_mut h r5.liv r5.mt rfl fun s' h' m' => hk' s' oA h' m'
      · rw [if_neg (by omega)]
        refine bad (by unfold canOk; simp [hl]) fun s5 hfin => ?_
        simp (maxSteps := 10000000) only [wW, Option.bind_some, Option.map_some, decide_eq_true_eq, Bool.not_eq_true', decide_eq_false_iff_not, Bool.not_true, Bool.not_false, ne_eq, if_true, if_false, reduceCtorEq, eq_self, Nat.zero_add, Nat.add_zero, not_false_eq_true, Nat.reduceEqDiff]
        exact hfin
    · rw [if_neg hf]
      refine bad (by unfold canOk; simp [hf]) fun s5 hfin => ?_
      simp (maxSteps := 10000000) only [wW, Option.bind_some, Option.map_some, decide_eq_true_eq, Bool.not_eq_true', decide_eq_false_iff_not, Bool.not_true, Bool.not_false, ne_eq, if_true, if_false, reduceCtorEq, eq_self, Nat.zero_add, Nat.add_zero, not_false_eq_true, Nat.reduceEqDiff]
      exact hfin
  · rw [if_neg he]
    refine bad (by unfold canOk; simp [he]) fun s5 hfin => ?_
    simp (maxSteps := 10000000) only [wW, Option.bind_some, Option.map_some, decide_eq_true_eq, Bool.not_eq_true', decide_eq_false_iff_not, Bool.not_true, Bool.not_false, ne_eq, if_true, if_false, reduceCtorEq, eq_self, Nat.zero_add, Nat.add_zero, not_false_eq_true, Nat.reduceEqDiff]
    exact hfin

end
end Go.VE
/- A builder that lives: Gates; lists of the law. -/
namespace Go.VE
open Go Go.Proofs
set_option maxRecDepth 20000
section
variable {ro : Nat} {s : St} {B : Nat} {oA : Option Nat} {d : Bd} {K : Value → St → Prop}
/-- Something is appended to an empty slice that has a place, but no room. -/
theorem append0_rule {t u e : TypeId} {sz bytes m Z : Nat} {z : Value} {new : List Value} {s : St} {x : Value} (hse : sliceElem P t = some e) (hni : notInt P u = true) (hty : tyOk P e sz bytes z = true) (hsz : 0 < sz) (hby : 0 < bytes) (hx : Sl s x sz m new) (hm : 0 < m) (hw : Wf s) (hlim : (2 * m + 1000) * bytes ≤ 2 ^ 47) {ty : TypeId} {K : Value → St → Prop}
    (hk : ∀ v' s', Own s' v' e sz m new (some s.n) → Made s s.n (.cells new e true) s' → K v' s') : wop P ro (.call ⟨.builtin .append, ⟨[.const (.slice (some ⟨Z, 0, none⟩) 0 0), .const x]⟩, #[t, u]⟩) ty s K := by
  obtain ⟨i, hi, his, hib, hz, hf, hzs⟩ := tyOk_spec hty
  obtain ⟨ha, hfst⟩ := hx.first
  have hnl : new.length = m * sz := hx.len
  rw [wop_append]
  have h0 : afirst s sz 0 (.slice (some ⟨Z, 0, none⟩) 0 0) = some [] := by
    simp only [afirst, Nat.zero_mul]
  have e1 : aappend P ro s #[t, u] [.slice (some ⟨Z, 0, none⟩) 0 0, x] = some (.slice (some ⟨s.n, 0, some 0⟩) (0 + m) (0 + m), s.new (.cells ([] ++ new) e true)) := by
    simp only [aappend, hse, hni, hi, ha, his, hfst, Option.bind_some, aappendTo]
    rw [if_neg (by omega), if_neg (by rw [hib, Nat.zero_add]; omega)]
    simp only [hz, h0, hzs, hf, and_self, if_true, agrow]
  rw [e1]
  simp only [Nat.zero_add, List.nil_append]
  exact hk _ _ ⟨rfl, at_newest _ _, hnl, hm⟩ (.mk' hw _)

theorem slNil (ty : TypeId) (s : St) (K : Value → St → Prop) : wop P ro (.binOp .eql 32 (.const (.slice none 0 0)) (.const (.slice none 0 0)) 32) ty s K = K (.bool true) s := by kernel_rfl
theorem slSome (a : Addr) (n c : Nat) (ty : TypeId) (s : St) (K : Value → St → Prop) : wop P ro (.binOp .eql 32 (.const (.slice (some a) n c)) (.const (.slice none 0 0)) 32) ty s K = K (.bool false) s := by kernel_rfl

theorem wClone {u : Value} {rows : List Row} (hw : Wf s) (ho : Own s u 94 11 rows.length (rowCells rows) oA) (hlen : rows.length ≤ 100000) (hk : ∀ v s', Grew s s' → RowsS s' v rows → (∀ A o sp n c, v = .slice (some ⟨A, o, sp⟩) n c → s.n ≤ A) → K v s') :
    CallWP P ro 45 [u] s K := by
  refine call_wp b45 rfl ?_
  rw [n45]
  unfold v45
  cases oA with
  | none =>
    have hs := ho.sl
    obtain ⟨rfl, hn, hc⟩ := ho
    simp (maxSteps := 10000000) only [wW, Option.bind_some, Option.map_some, decide_eq_true_eq, Bool.not_eq_true', decide_eq_false_iff_not, Bool.not_true, Bool.not_false, ne_eq, if_true, if_false, reduceCtorEq, eq_self, Nat.zero_add, Nat.add_zero, not_false_eq_true, Nat.reduceEqDiff, slNil]
    exact fin_flat rfl (.refl _) (hk _ s (.refl _) hs (fun A o sp n c e => by cases e))
  | some A =>
    have hs := ho.sl
    obtain ⟨rfl, hA, hl, hpos⟩ := ho
    simp (maxSteps := 10000000) only [wW, Option.bind_some, Option.map_some, decide_eq_true_eq, Bool.not_eq_true', decide_eq_false_iff_not, Bool.not_true, Bool.not_false, ne_eq, if_true, if_false, reduceCtorEq, eq_self, Nat.zero_add, Nat.add_zero, not_false_eq_true, Nat.reduceEqDiff, slSome]
    refine buildSlice_rule se_32 ty_94 hw.ent [] rfl rfl (by decide) (by simp) fun Z s1 m1 => ?_
    refine append0_rule se_32 (by kernel_rfl) ty_94 (by decide) (by decide) (hs.ent.grew m1.grew.same) hpos m1.wf (by omega) fun v s2 o2 m2 => ?_
    have e1 := m1.grew.n
    have hn0 : (Go.VE.ent s).n = s.n := rfl
    exact wfin_sl hw (m1.grew.trans m2.grew) o2.sl fun s' hg hS => hk v s' hg hS fun A' o' sp' n' c' e => by
      obtain ⟨ev, _⟩ := o2
      rw [ev] at e
      cases e
      omega

def Bd.gp (d : Bd) : Gp := ⟨d.f, d.nv, d.pub, d.sec, d.rows⟩

theorem lGates (h : Liv ro s B oA d) (he : d.e = 0) (hk : ∀ v s', Grew s s' → RowsS s' v d.rows → K (.tuple (.mk [.agg (.mk (d.gp.cells v)), .int .i64 0])) s') : CallWP P ro 12 [ptr B] s K := by
  refine call_wp b12 rfl ?_
  rw [n12]
  unfold v12
  simp (maxSteps := 10000000) only [wW, Option.bind_some, Option.map_some, decide_eq_true_eq, Bool.not_eq_true', decide_eq_false_iff_not, Bool.not_true, Bool.not_false, ne_eq, if_true, if_false, reduceCtorEq, eq_self, Nat.zero_add, Nat.add_zero, not_false_eq_true, Nat.reduceEqDiff]
  refine alloc_rule ty_34 h.wf.ent fun R s1 m1 => ?_
  have h1 := h.ent.grew m1.grew
  rw [lErr h1]
  simp (maxSteps := 10000000) only [wW, Option.bind_some, Option.map_some, decide_eq_true_eq, Bool.not_eq_true', decide_eq_false_iff_not, Bool.not_true, Bool.not_false, ne_eq, if_true, if_false, reduceCtorEq, eq_self, Nat.zero_add, Nat.add_zero, not_false_eq_true, Nat.reduceEqDiff]
  rw [if_neg (by simpa using he)]
  obtain ⟨w, ew1, ew2⟩ := h1.ex
  have ow := ew2.own he
  have hcut : cut (d.cells w) 1 5 = some (d.gp.cells w) := rfl
  simp (maxSteps := 10000000) only [wW, Option.bind_some, Option.map_some, decide_eq_true_eq, Bool.not_eq_true', decide_eq_false_iff_not, Bool.not_true, Bool.not_false, ne_eq, if_true, if_false, reduceCtorEq, eq_self, Nat.zero_add, Nat.add_zero, not_false_eq_true, Nat.reduceEqDiff, wop_load, wop_indexAddr, wix0, wix1, wix2, rcAll, gcAll, Option.map_some, Nat.reduceAdd, load1 ap_24, load1 ap_3, load1 ap_4, load1 ap_92, load1 ap_32, loadN ap_94, loadN ap_34, loadN ap_58, fa_94_0, fa_94_1, fa_94_2, fa_94_3, fa_94_4, fa_94_5, fa_94_6, fa_94_7, fa_34_0, fa_34_1, fa_34_2, fa_34_3, fa_34_4, rc0, rc1, rc2, rc3, rc4, rc5, rc6, rc7, rc8, rc9, rc10, gc0, gc1, gc2, gc3, gc4, fa_81_1, acells_some ew1, hcut]
  refine alloc_rule ty_34 m1.wf fun G s2 m2 => ?_
  have e1 := m1.eq
  have n1 := m1.n
  have e2 := m2.eq
  have n2 := m2.n
  have hn0 : (Go.VE.ent s).n = s.n := rfl
  have hro := h.ron
  have g2 := m1.grew.trans m2.grew
  have hwone : w.oneCell' = true := by
    obtain ⟨a, c, rfl, _⟩ := ew2.sl
    rfl
  refine storeAll_rule isz_34 m2.here (l := d.gp.cells w) rfl (by decide) m2.wf (by omega) rfl (by simp only [Gp.cells, List.all_cons, hwone]; rfl) fun s3 p3 => ?_
  have g3 := p3.grew _ h.wf.ent g2 (by omega)
  have n3 := p3.n
  have hR3 : s3.at R = _ := (p3.rest R (by omega)).trans ((m2.grew.same R (by omega)).trans m1.here)
  simp (maxSteps := 10000000) only [wW, Option.bind_some, Option.map_some, decide_eq_true_eq, Bool.not_eq_true', decide_eq_false_iff_not, Bool.not_true, Bool.not_false, ne_eq, if_true, if_false, reduceCtorEq, eq_self, Nat.zero_add, Nat.add_zero, not_false_eq_true, Nat.reduceEqDiff, wop_load, wop_indexAddr, wix0, wix1, wix2, rcAll, gcAll, Option.map_some, Nat.reduceAdd, load1 ap_24, load1 ap_3, load1 ap_4, load1 ap_92, load1 ap_32, loadN ap_94, loadN ap_34, loadN ap_58, fa_94_0, fa_94_1, fa_94_2, fa_94_3, fa_94_4, fa_94_5, fa_94_6, fa_94_7, fa_34_0, fa_34_1, fa_34_2, fa_34_3, fa_34_4, rc0, rc1, rc2, rc3, rc4, rc5, rc6, rc7, rc8, rc9, rc10, gc0, gc1, gc2, gc3, gc4, acells_some p3.here]
  have hAB : ∀ A, oA = some A → A < s.n := fun A e => (h.hA A e).2.2
  have ow3 : Own s3 w 94 11 d.rows.length (rowCells d.rows) oA := ow.same fun A e => (p3.rest A (by have := hAB A e; omega)).trans (m2.grew.same A (by have := hAB A e; omega))
  refine wClone p3.wf ow3 (by have := h.ok.rows; omega) fun v s4 g4 hv hfr => ?_
  have hG4 : s4.at G = _ := (g4.same G (by omega)).trans p3.here
  have w4 := p3.wf.grew g4
  have hvone : v.oneCell' = true := by
    obtain ⟨a, c, rfl, _⟩ := hv
    rfl
  refine store1_rule isz_32 hG4 w4 (by omega) (by simp [Gp.cells]) hvone fun s5 p5 => ?_
  have hsp : splice (d.gp.cells w) 4 [v] = d.gp.cells v := rfl
  have hG5 : s5.at G = some (.cells (d.gp.cells v) 34 false) := by rw [p5.here, hsp]
  simp (maxSteps := 10000000) only [wW, Option.bind_some, Option.map_some, decide_eq_true_eq, Bool.not_eq_true', decide_eq_false_iff_not, Bool.not_true, Bool.not_false, ne_eq, if_true, if_false, reduceCtorEq, eq_self, Nat.zero_add, Nat.add_zero, not_false_eq_true, Nat.reduceEqDiff, wop_load, wop_indexAddr, wix0, wix1, wix2, rcAll, gcAll, Option.map_some, Nat.reduceAdd, load1 ap_24, load1 ap_3, load1 ap_4, load1 ap_92, load1 ap_32, loadN ap_94, loadN ap_34, loadN ap_58, fa_94_0, fa_94_1, fa_94_2, fa_94_3, fa_94_4, fa_94_5, fa_94_6, fa_94_7, fa_34_0, fa_34_1, fa_34_2, fa_34_3, fa_34_4, rc0, rc1, rc2, rc3, rc4, rc5, rc6, rc7, rc8, rc9, rc10, gc0, gc1, gc2, gc3, gc4, acells_some hG5]
  have n4 := g4.n
  have n5 := p5.n
  have hR5 : s5.at R = _ := (p5.rest R (by omega)).trans ((g4.same R (by omega)).trans hR3)
  refine storeAll_rule isz_34 hR5 (l := d.gp.cells v) rfl (by decide) p5.wf (by omega) rfl (by simp only [Gp.cells, List.all_cons, hvone]; rfl) fun s6 p6 => ?_
  simp (maxSteps := 10000000) only [wW, Option.bind_some, Option.map_some, decide_eq_true_eq, Bool.not_eq_true', decide_eq_false_iff_not, Bool.not_true, Bool.not_false, ne_eq, if_true, if_false, reduceCtorEq, eq_self, Nat.zero_add, Nat.add_zero, not_false_eq_true, Nat.reduceEqDiff, wop_load, wop_indexAddr, wix0, wix1, wix2, rcAll, gcAll, Option.map_some, Nat.reduceAdd, load1 ap_24, load1 ap_3, load1 ap_4, load1 ap_92, load1 ap_32, loadN ap_94, loadN ap_34, loadN ap_58, fa_94_0, fa_94_1, fa_94_2, fa_94_3, fa_94_4, fa_94_5, fa_94_6, fa_94_7, fa_34_0, fa_34_1, fa_34_2, fa_34_3, fa_34_4, rc0, rc1, rc2, rc3, rc4, rc5, rc6, rc7, rc8, rc9, rc10, gc0, gc1, gc2, gc3, gc4, acells_some p6.here]
  have g4' := g3.trans g4
  have g6 := p6.grew _ h.wf.ent (p5.grew _ h.wf.ent g4' (by omega)) (by omega)
  have hv6 : RowsS s6 v d.rows := hv.sameAt fun A o sp n c e => by
    have := hfr A o sp n c e
    rw [p6.rest A (by omega), p5.rest A (by omega)]
  obtain ⟨a, n, c, rfl⟩ : ∃ a n c, v = .slice a n c := by
    obtain ⟨a, c, e, _⟩ := hv
    exact ⟨a, _, c, e⟩
  cases a with
  | none => exact fin_flat rfl g6 (hk _ s (.refl _) (hv6.flat rfl))
  | some x => exact wfin_new h.wf g6 rfl fun s' hg hn hat => hk _ s' hg (Sl.sameAt hv6 fun A o sp n c e => hat A)

end
end Go.VE
/- CircuitCanonical: what the law's function does. -/
namespace Go.VE
open Go Go.Proofs
set_option maxRecDepth 20000
/-- A bit of a number. -/
def bitAt (n : Int) (i : Nat) : Int := n / 2 ^ i % 2
def inL (n : Int) : List Int := (List.range 30).map (bitAt n)
def upTo (a : Int) (n : Nat) : List Int := (List.range n).map fun (i : Nat) => a + i

theorem fin_K {si s : St} {K : Value → St → Prop} {v : Value} (h : ∀ s', K v s') : wfin si K v s := by
  unfold wfin afinish
  cases (Nat.ble si.n s.lo && flat' v) with
  | true => exact h _
  | false => exact h _

section
variable {ro : Nat} {s : St} {K : Value → St → Prop}
theorem Ac.fin_sl {e : TypeId} {sz : Nat} {s1 : St} {v : Value} {n : Nat} {cs : List Value} {oA : Option Nat} (h : Ac e sz (ent s) s1 v n cs oA) (hw : Wf s) (hk : ∀ s', Grew s s' → Sl s' v sz n cs → (∀ A o sp k c, v = .slice (some ⟨A, o, sp⟩) k c → s.n ≤ A ∧ A < s'.n) → K v s') : wfin s K v s1 := by
  cases oA with
  | none =>
    have hs := h.own.sl
    obtain ⟨rfl, _⟩ := h.own
    refine fin_flat rfl h.grew (hk s (.refl _) (hs.flat rfl) fun A o sp k c e => by cases e)
  | some A =>
    have hs := h.own.sl
    have hA := h.fresh A rfl
    have hlt := h.own.lt
    obtain ⟨rfl, _⟩ := h.own
    refine wfin_new hw h.grew rfl fun s' hg hn hat => hk s' hg (Sl.sameAt hs fun C o sp n c e => hat C) fun A' o' sp' k' c' e => ?_
    cases e
    exact ⟨hA, by omega⟩

theorem wFrom (a : Int) (ha : 0 ≤ a ∧ a ≤ 2 ^ 40) {n : Nat} (hn : n ≤ 100000) (hw : Wf s) (hro : ro ≤ s.n) (hk : ∀ v s', Grew s s' → Ints s' v (upTo a n) → (∀ A o sp k c, v = .slice (some ⟨A, o, sp⟩) k c → s.n ≤ A ∧ A < s'.n) → K v s') :
    CallWP P ro 11 [.int .i64 a, .int .i64 n] s K := by
  refine call_wp b11 rfl ?_
  rw [n11]
  unfold v11
  simp (maxSteps := 10000000) only [wW, Option.bind_some, Option.map_some, decide_eq_true_eq, Bool.not_eq_true', decide_eq_false_iff_not, Bool.not_true, Bool.not_false, ne_eq, if_true, if_false, reduceCtorEq, eq_self, Nat.zero_add, Nat.add_zero, not_false_eq_true, Nat.reduceEqDiff]
  refine wloop l11_110100 m11_110100 (fun (i : Nat) τ ds s' => i ≤ n ∧ τ 0 = .int .i64 a ∧ τ 1 = .int .i64 n ∧ τ 6 = .int .i64 i ∧ ds = [] ∧ ∃ oA, Ac 3 1 (ent s) s' (τ 5) i ((upTo a i).map (.int .i64)) oA) (fun i => n - i) ?_ 0 ⟨by omega, ?_, ?_, ?_, rfl, none, ?_⟩
  · rintro i τ ds s' ⟨hi, t0, t1, t6, rfl, oA, hA⟩
    rw [n11_110100]
    unfold v11_110100
    simp (maxSteps := 10000000) only [wW, Option.bind_some, Option.map_some, decide_eq_true_eq, Bool.not_eq_true', decide_eq_false_iff_not, Bool.not_true, Bool.not_false, ne_eq, if_true, if_false, reduceCtorEq, eq_self, Nat.zero_add, Nat.add_zero, not_false_eq_true, Nat.reduceEqDiff, t0, t1, t6]
    by_cases hlt : i < n
    · rw [if_pos (by omega), wrap_i64 (n := a + i) (by omega) (by omega)]
      refine hA.push se_30 (by kernel_rfl) ty_3 (by decide) (by decide) (by decide) hw.ent hro (x := .int .i64 (a + i)) rfl rfl rfl (by omega) fun v1 v2 A s3 a3 _ _ => ?_
      rw [wrap_i64 (by omega) (by omega)]
      refine ⟨i + 1, by omega, by omega, ?_, ?_, ?_, trivial, some A, ?_⟩
      · simp only [U, tset_eq, wW, Option.bind_some, Option.map_some, decide_eq_true_eq, Bool.not_eq_true', decide_eq_false_iff_not, Bool.not_true, Bool.not_false, ne_eq, if_true, if_false, reduceCtorEq, eq_self, Nat.zero_add, Nat.add_zero, not_false_eq_true, Nat.reduceEqDiff, t0]
      · simp only [U, tset_eq, wW, Option.bind_some, Option.map_some, decide_eq_true_eq, Bool.not_eq_true', decide_eq_false_iff_not, Bool.not_true, Bool.not_false, ne_eq, if_true, if_false, reduceCtorEq, eq_self, Nat.zero_add, Nat.add_zero, not_false_eq_true, Nat.reduceEqDiff, t1]
      · simp only [U, tset_eq, wW, Option.bind_some, Option.map_some, decide_eq_true_eq, Bool.not_eq_true', decide_eq_false_iff_not, Bool.not_true, Bool.not_false, ne_eq, if_true, if_false, reduceCtorEq, eq_self, Nat.zero_add, Nat.add_zero, not_false_eq_true, Nat.reduceEqDiff]; rfl
      · have e : (upTo a (i + 1)).map (Value.int .i64) = (upTo a i).map (.int .i64) ++ [.int .i64 (a + i)] := by
          simp [upTo, List.range_succ]
        rw [e]
        simp only [U, tset_eq, wW, Option.bind_some, Option.map_some, decide_eq_true_eq, Bool.not_eq_true', decide_eq_false_iff_not, Bool.not_true, Bool.not_false, ne_eq, if_true, if_false, reduceCtorEq, eq_self, Nat.zero_add, Nat.add_zero, not_false_eq_true, Nat.reduceEqDiff]
        exact a3
    · obtain rfl : i = n := by omega
      rw [if_neg (by omega)]
      simp (maxSteps := 10000000) only [U, tset_eq, wW, Option.bind_some, Option.map_some, decide_eq_true_eq, Bool.not_eq_true', decide_eq_false_iff_not, Bool.not_true, Bool.not_false, ne_eq, if_true, if_false, reduceCtorEq, eq_self, Nat.zero_add, Nat.add_zero, not_false_eq_true, Nat.reduceEqDiff]
      exact hA.fin_sl hw fun s' hg hs hf => hk _ s' hg (by
        have hl : (upTo a i).length = i := by simp [upTo]
        unfold Ints
        rw [hl]
        exact hs) hf
  · simp only [U, tset_eq, wW, Option.bind_some, Option.map_some, decide_eq_true_eq, Bool.not_eq_true', decide_eq_false_iff_not, Bool.not_true, Bool.not_false, ne_eq, if_true, if_false, reduceCtorEq, eq_self, Nat.zero_add, Nat.add_zero, not_false_eq_true, Nat.reduceEqDiff]
  · simp only [U, tset_eq, wW, Option.bind_some, Option.map_some, decide_eq_true_eq, Bool.not_eq_true', decide_eq_false_iff_not, Bool.not_true, Bool.not_false, ne_eq, if_true, if_false, reduceCtorEq, eq_self, Nat.zero_add, Nat.add_zero, not_false_eq_true, Nat.reduceEqDiff]
  · simp only [U, tset_eq, wW, Option.bind_some, Option.map_some, decide_eq_true_eq, Bool.not_eq_true', decide_eq_false_iff_not, Bool.not_true, Bool.not_false, ne_eq, if_true, if_false, reduceCtorEq, eq_self, Nat.zero_add, Nat.add_zero, not_false_eq_true, Nat.reduceEqDiff]; rfl
  · simp only [U, tset_eq, wW, Option.bind_some, Option.map_some, decide_eq_true_eq, Bool.not_eq_true', decide_eq_false_iff_not, Bool.not_true, Bool.not_false, ne_eq, if_true, if_false, reduceCtorEq, eq_self, Nat.zero_add, Nat.add_zero, not_false_eq_true, Nat.reduceEqDiff]
    exact .nil hw.ent (.refl _)

theorem and1 {x : Int} (h0 : 0 ≤ x) (h1 : x < 2 ^ 32) : ((BitVec.ofInt 32 x &&& BitVec.ofInt 32 1).toNat : Int) = x % 2 := by
  rw [BitVec.toNat_and]
  have e1 : (BitVec.ofInt 32 x).toNat = x.toNat := by
    rw [BitVec.toNat_ofInt]
    congr 1
    exact Int.emod_eq_of_lt h0 h1
  have e2 : (BitVec.ofInt 32 1).toNat = 1 := rfl
  rw [e1, e2, Nat.and_one_is_mod]
  omega

theorem wLiv : CallWP P ro 15 [] s K = K (.bool true) s := callEq (call_known rfl ⟨rfl, rfl⟩) K
theorem bool_eql (a b : Bool) (ty : TypeId) (s : St) (K : Value → St → Prop) : wop P ro (.binOp .eql 4 (.const (.bool a)) (.const (.bool b)) 4) ty s K = K (.bool (a == b)) s := by
  cases a <;> cases b <;> kernel_rfl

theorem conv_u32_u64 (a : Int) (ty : TypeId) (s : St) (K : Value → St → Prop) : wop P ro (.convert 22 24 (.const (.int .u32 a))) ty s K = K (.int .u64 (IntKind.u64.wrap a)) s := by kernel_rfl

end
end Go.VE
/- CircuitCanonical: what the law's function does. -/
namespace Go.VE
open Go Go.Proofs
set_option maxRecDepth 20000
noncomputable def canD : Bd := mCanonical ⟨3, 30, 0, 30, [], 0⟩ (upTo 0 30)

section
variable {ro : Nat} {s : St} {K : Value → St → Prop}
theorem wCan (he : canD.e = 0) (hrows : 0 < canD.rows.length) (hnn : ∀ r ∈ canD.rows, r.Nn)
    {n : Int} (h0 : 0 ≤ n) (h1 : n < 2 ^ 32) (hok : runOk canD.gp [] (inL n) ∧ okM canD.gp (runV canD.gp [] (inL n)).1 canD.rows.length = decide (n % 2 ^ 30 < 998244353))
    (hw : Wf s) (hF : FieldsAt s) (hro : ro ≤ s.n) (hr0 : 0 < ro) : CallWP P ro 3 [.int .u32 n] s fun v _ => v = .bool true := by
  refine call_wp b3 rfl ?_
  rw [n3]
  unfold v3
  simp (maxSteps := 10000000) only [wW, Option.bind_some, Option.map_some, decide_eq_true_eq, Bool.not_eq_true', decide_eq_false_iff_not, Bool.not_true, Bool.not_false, ne_eq, if_true, if_false, reduceCtorEq, eq_self, Nat.zero_add, Nat.add_zero, not_false_eq_true, Nat.reduceEqDiff]
  refine wloop l3_110100 m3_110100 (fun (i : Nat) τ ds s' => i ≤ 30 ∧ τ 0 = .int .u32 n ∧ τ 4 = .int .i64 i ∧ ds = [] ∧ ∃ oA, Ac 24 1 (ent s) s' (τ 3) i (((List.range i).map (bitAt n)).map (.int .u64)) oA) (fun i => 30 - i) ?_ 0 ⟨by omega, ?_, ?_, rfl, none, ?_⟩
  · rintro i τ ds s' ⟨hi, t0, t4, rfl, oA, hA⟩
    rw [n3_110100]
    unfold v3_110100
    simp (maxSteps := 10000000) only [wW, Option.bind_some, Option.map_some, decide_eq_true_eq, Bool.not_eq_true', decide_eq_false_iff_not, Bool.not_true, Bool.not_false, ne_eq, if_true, if_false, reduceCtorEq, eq_self, Nat.zero_add, Nat.add_zero, not_false_eq_true, Nat.reduceEqDiff, t0, t4]
    by_cases hlt : i < 30
    · rw [if_pos (by omega), int_shr _ _ _ _ (by omega), wopt_some]
      have hmin : min ((i : Int)).toNat IntKind.u32.bits = i := by
        rw [Int.toNat_natCast]
        show min i 32 = i
        omega
      rw [hmin]
      have hdiv : n.fdiv (2 ^ i) = n / 2 ^ i := Int.fdiv_eq_ediv_of_nonneg _ (Int.pow_nonneg (by decide))
      have hq0 : 0 ≤ n / 2 ^ i := Int.ediv_nonneg h0 (Int.pow_nonneg (by decide))
      have hq1 : n / 2 ^ i < 2 ^ 32 := Int.lt_of_le_of_lt (Int.ediv_le_self _ h0) h1
      rw [hdiv, wop_int, int_and keq_u32, wopt_some]
      have hw32 : IntKind.u32.wrap ((BitVec.ofInt IntKind.u32.bits (n / 2 ^ i) &&& BitVec.ofInt IntKind.u32.bits 1).toNat : Int) = bitAt n i := by
        show IntKind.u32.wrap ((BitVec.ofInt 32 (n / 2 ^ i) &&& BitVec.ofInt 32 1).toNat : Int) = _
        rw [and1 hq0 hq1]
        show (n / 2 ^ i % 2) % 2 ^ 32 = _
        unfold bitAt
        omega
      rw [hw32, conv_u32_u64]
      have hb : 0 ≤ bitAt n i ∧ bitAt n i < 2 := by unfold bitAt; omega
      rw [wrap_u64 (by omega) (by omega)]
      refine hA.push se_23 (by kernel_rfl) ty_24 (by decide) (by decide) (by decide) hw.ent hro (x := .int .u64 (bitAt n i)) rfl rfl rfl (by omega) fun v1 v2 A s3 a3 _ _ => ?_
      rw [wrap_i64 (by omega) (by omega)]
      refine ⟨i + 1, by omega, by omega, ?_, ?_, trivial, some A, ?_⟩
      · simp only [U, tset_eq, wW, Option.bind_some, Option.map_some, decide_eq_true_eq, Bool.not_eq_true', decide_eq_false_iff_not, Bool.not_true, Bool.not_false, ne_eq, if_true, if_false, reduceCtorEq, eq_self, Nat.zero_add, Nat.add_zero, not_false_eq_true, Nat.reduceEqDiff, t0]
      · simp only [U, tset_eq, wW, Option.bind_some, Option.map_some, decide_eq_true_eq, Bool.not_eq_true', decide_eq_false_iff_not, Bool.not_true, Bool.not_false, ne_eq, if_true, if_false, reduceCtorEq, eq_self, Nat.zero_add, Nat.add_zero, not_false_eq_true, Nat.reduceEqDiff]; rfl
      · have e : ((List.range (i + 1)).map (bitAt n)).map (Value.int .u64) = ((List.range i).map (bitAt n)).map (.int .u64) ++ [.int .u64 (bitAt n i)] := by
          simp [List.range_succ]
        rw [e]
        simp only [U, tset_eq, wW, Option.bind_some, Option.map_some, decide_eq_true_eq, Bool.not_eq_true', decide_eq_false_iff_not, Bool.not_true, Bool.not_false, ne_eq, if_true, if_false, reduceCtorEq, eq_self, Nat.zero_add, Nat.add_zero, not_false_eq_true, Nat.reduceEqDiff]
        exact a3
    · obtain rfl : i = 30 := by omega
      rw [if_neg (by omega)]
      have hIn : U64s s' (τ 3) (inL n) := by
        have := hA.own.sl
        unfold U64s inL
        simpa using this
      have hoffIn : ∀ A o sp k c, τ 3 = .slice (some ⟨A, o, sp⟩) k c → A < s'.n := fun A o sp k c e => by
        cases oA with
        | none => obtain ⟨e', _⟩ := hA.own; rw [e'] at e; cases e
        | some A' =>
          have hlt := hA.own.lt
          obtain ⟨e', _⟩ := hA.own
          rw [e'] at e
          cases e
          exact hlt
      have hgn := hA.grew.n
      have hn0 : (ent s).n = s.n := rfl
      have hF' : FieldsAt s' := FieldsAt.grew (s := ent s) hF hA.grew
      generalize hin : τ 3 = iv at *
      simp (maxSteps := 10000000) only [U, tset_eq, wW, Option.bind_some, Option.map_some, decide_eq_true_eq, Bool.not_eq_true', decide_eq_false_iff_not, Bool.not_true, Bool.not_false, ne_eq, if_true, if_false, reduceCtorEq, eq_self, Nat.zero_add, Nat.add_zero, not_false_eq_true, Nat.reduceEqDiff, hin, t0]
      refine lNew 3 0 30 hA.wf hF' (by omega) hr0 (fun hb => absurd ⟨rfl, by decide, by decide⟩ hb) fun _ _ _ s1 g1 l1 => ?_
      simp (maxSteps := 10000000) only [wW, Option.bind_some, Option.map_some, decide_eq_true_eq, Bool.not_eq_true', decide_eq_false_iff_not, Bool.not_true, Bool.not_false, ne_eq, if_true, if_false, reduceCtorEq, eq_self, Nat.zero_add, Nat.add_zero, not_false_eq_true, Nat.reduceEqDiff, List.getElem?_cons_zero, List.getElem?_cons_succ]
      refine wFrom 0 (by decide) (n := 30) (by decide) l1.wf (by have := g1.n; omega) fun v s2 g2 hv hfv => ?_
      have l2 := l1.grew g2
      have hB := l1.lt
      have g1n := g1.n
      have g2n := g2.n
      refine lCanonical l2 hv (by simp [upTo]) (fun A o sp k c e => ⟨(hfv A o sp k c e).2, by have := (hfv A o sp k c e).1; omega, fun e => by cases e⟩) fun s3 oA3 l3 m3 => ?_
      have hIn3 : U64s s3 iv (inL n) := Sl.sameAt (Sl.grew hIn (g1.trans g2).same) fun A o sp k c e => m3.same A (by have := hoffIn A o sp k c e; omega) (by have := hoffIn A o sp k c e; omega) (fun e => by cases e)
      have hc : mCanonical ⟨3, 0 + 30, 0, 30, [], 0⟩ (upTo 0 30) = canD := rfl
      rw [hc] at l3
      have m3n := m3.n
      refine lGates l3 he fun w s4 g4 hw4 => ?_
      simp (maxSteps := 10000000) only [wW, Option.bind_some, Option.map_some, decide_eq_true_eq, Bool.not_eq_true', decide_eq_false_iff_not, Bool.not_true, Bool.not_false, ne_eq, if_true, if_false, reduceCtorEq, eq_self, Nat.zero_add, Nat.add_zero, not_false_eq_true, Nat.reduceEqDiff, List.getElem?_cons_zero, List.getElem?_cons_succ]
      refine alloc_rule ty_34 (l3.wf.grew g4) fun G s5 m5 => ?_
      have e5 := m5.eq
      have n5 := m5.n
      have g4n := g4.n
      have hwone : w.oneCell' = true := by
        obtain ⟨a, c, rfl, _⟩ := hw4
        rfl
      refine storeAll_rule isz_34 m5.here (l := canD.gp.cells w) rfl (by decide) m5.wf (by omega) rfl (by simp only [Gp.cells, List.all_cons, hwone]; rfl) fun s6 p6 => ?_
      simp (maxSteps := 10000000) only [wW, Option.bind_some, Option.map_some, decide_eq_true_eq, Bool.not_eq_true', decide_eq_false_iff_not, Bool.not_true, Bool.not_false, ne_eq, if_true, if_false, reduceCtorEq, eq_self, Nat.zero_add, Nat.add_zero, not_false_eq_true, Nat.reduceEqDiff, wop_load, wop_indexAddr, wix0, wix1, wix2, rcAll, gcAll, Option.map_some, Nat.reduceAdd, load1 ap_24, load1 ap_3, load1 ap_4, load1 ap_92, load1 ap_32, loadN ap_94, loadN ap_34, loadN ap_58, fa_94_0, fa_94_1, fa_94_2, fa_94_3, fa_94_4, fa_94_5, fa_94_6, fa_94_7, fa_34_0, fa_34_1, fa_34_2, fa_34_3, fa_34_4, rc0, rc1, rc2, rc3, rc4, rc5, rc6, rc7, rc8, rc9, rc10, gc0, gc1, gc2, gc3, gc4, acells_some p6.here]
      have keep : ∀ A, A < s4.n → s6.at A = s4.at A := fun A hA => (p6.rest A (by omega)).trans (m5.grew.same A hA)
      have hw6 : RowsS s6 w canD.gp.rows := Sl.grew hw4 keep
      have hIn6 : U64s s6 iv (inL n) := Sl.grew (Sl.grew hIn3 g4.same) keep
      have n6 := p6.n
      have hinn : ∀ x ∈ inL n, (0 : Int) ≤ x := fun x hx => by
        obtain ⟨i, _, rfl⟩ := List.mem_map.1 hx
        unfold bitAt
        omega
      have hrl := l3.ok.rows
      refine wRun canD.gp hnn p6.wf (by omega) hw6 (by show canD.rows.length < 2 ^ 60; omega) (U64s.nil s6) hIn6 (fun x hx => by cases hx) hinn (by decide) (by simp [inL]) (fun hb => absurd hok.1 hb) fun _ v7 s7 g7 hv7 => ?_
      have hG7 : s7.at G = some (.cells (canD.gp.cells w) 34 false) := (g7.same G (by omega)).trans p6.here
      simp (maxSteps := 10000000) only [wW, Option.bind_some, Option.map_some, decide_eq_true_eq, Bool.not_eq_true', decide_eq_false_iff_not, Bool.not_true, Bool.not_false, ne_eq, if_true, if_false, reduceCtorEq, eq_self, Nat.zero_add, Nat.add_zero, not_false_eq_true, Nat.reduceEqDiff, wop_load, wop_indexAddr, wix0, wix1, wix2, rcAll, gcAll, Option.map_some, Nat.reduceAdd, load1 ap_24, load1 ap_3, load1 ap_4, load1 ap_92, load1 ap_32, loadN ap_94, loadN ap_34, loadN ap_58, fa_94_0, fa_94_1, fa_94_2, fa_94_3, fa_94_4, fa_94_5, fa_94_6, fa_94_7, fa_34_0, fa_34_1, fa_34_2, fa_34_3, fa_34_4, rc0, rc1, rc2, rc3, rc4, rc5, rc6, rc7, rc8, rc9, rc10, gc0, gc1, gc2, gc3, gc4, List.getElem?_cons_zero, List.getElem?_cons_succ, acells_some hG7, Sl.wlen hw6 se_32]
      rw [if_pos (by show ((canD.rows.length : Nat) : Int) > 0; omega), conv_u32_u64, wrap_u64 (by omega) (by omega)]
      rw [wop_int, int_rem keq_u64 _ _ (by decide), wopt_some, tmod_nonneg h0, wrP]
      have hok2 : okM canD.gp (runV canD.gp [] (inL n)).1 canD.gp.rows.length = decide (n % 1073741824 < fP 3) := hok.2
      rw [hok2]
      simp (maxSteps := 10000000) only [wW, Option.bind_some, Option.map_some, decide_eq_true_eq, Bool.not_eq_true', decide_eq_false_iff_not, Bool.not_true, Bool.not_false, ne_eq, if_true, if_false, reduceCtorEq, eq_self, Nat.zero_add, Nat.add_zero, not_false_eq_true, Nat.reduceEqDiff, bool_eql, beq_self_eq_true, wLiv]
      exact fin_K fun _ => rfl
  · simp only [U, tset_eq, wW, Option.bind_some, Option.map_some, decide_eq_true_eq, Bool.not_eq_true', decide_eq_false_iff_not, Bool.not_true, Bool.not_false, ne_eq, if_true, if_false, reduceCtorEq, eq_self, Nat.zero_add, Nat.add_zero, not_false_eq_true, Nat.reduceEqDiff]
  · simp only [U, tset_eq, wW, Option.bind_some, Option.map_some, decide_eq_true_eq, Bool.not_eq_true', decide_eq_false_iff_not, Bool.not_true, Bool.not_false, ne_eq, if_true, if_false, reduceCtorEq, eq_self, Nat.zero_add, Nat.add_zero, not_false_eq_true, Nat.reduceEqDiff]; rfl
  · simp only [U, tset_eq, wW, Option.bind_some, Option.map_some, decide_eq_true_eq, Bool.not_eq_true', decide_eq_false_iff_not, Bool.not_true, Bool.not_false, ne_eq, if_true, if_false, reduceCtorEq, eq_self, Nat.zero_add, Nat.add_zero, not_false_eq_true, Nat.reduceEqDiff]
    exact .nil hw.ent (.refl _)

end
end Go.VE
/- What a program with arithmetic rows computes. -/
namespace Go.VE
open Go Go.Proofs
set_option maxRecDepth 20000
/-! ### numbers -/
theorem sq_one {p : Int} : ((p - 1) * (p - 1)) % p = 1 % p := by
  have : (p - 1) * (p - 1) = 1 + p * (p - 2) := by
    have h : p * (p - 2) = p * p - p * 2 := Int.mul_sub ..
    rw [h, Int.sub_mul, Int.mul_sub, Int.one_mul]; omega
  rw [this, Int.add_mul_emod_self_left]

theorem pow_even {p : Int} : ∀ k : Nat, (p - 1) ^ (2 * k) % p = 1 % p
  | 0 => by simp
  | k + 1 => by
    rw [show 2 * (k + 1) = 2 * k + 1 + 1 by omega, Int.pow_succ, Int.pow_succ, Int.mul_assoc, Int.mul_emod, pow_even k, sq_one, ← Int.mul_emod, Int.one_mul]

theorem pow_odd {p : Int} (hp : 1 < p) (k : Nat) : (p - 1) ^ (2 * k + 1) % p = p - 1 := by
  rw [Int.pow_succ, Int.mul_emod, pow_even, ← Int.mul_emod, Int.one_mul, Int.emod_eq_of_lt (by omega) (by omega)]

theorem fP_one {f : Int} (h : fV f = true) : 1 < fP f := by rcases fV_cases h with rfl | rfl | rfl | rfl <;> decide

theorem fInv_minus {f : Int} (h : fV f = true) : fInv f (fP f - 1) = fP f - 1 := by
  unfold fInv fPow
  rw [if_pos h]
  rcases fV_cases h with rfl | rfl | rfl | rfl
  · exact pow_odd (p := 97) (by decide) 47
  · exact pow_odd (p := 257) (by decide) 127
  · exact pow_odd (p := 12289) (by decide) 6143
  · exact pow_odd (p := 998244353) (by decide) 499122175

theorem neg_div {f : Int} (h : fV f = true) {s : Int} (h0 : 0 ≤ s) (h1 : s < fP f) : fNeg f (fDiv f s (fP f - 1)) = s := by
  unfold fNeg fDiv fSub fMul
  rw [fInv_minus h]
  simp only [h, if_true]
  rw [Int.sub_emod_emod]
  have : 0 - s * (fP f - 1) = s + fP f * (-s) := by
    rw [Int.mul_sub, Int.mul_one, Int.mul_neg, Int.mul_comm (fP f) s]; omega
  rw [this, Int.add_mul_emod_self_left, Int.emod_eq_of_lt h0 h1]

theorem def_holds {f : Int} (h : fV f = true) {s : Int} : fAdd f s (fMul f (fP f - 1) s) = 0 := by
  unfold fAdd fMul
  simp only [h, if_true]
  rw [Int.add_emod_emod]
  have : s + (fP f - 1) * s = fP f * s := by rw [Int.sub_mul, Int.one_mul]; omega
  rw [this, Int.mul_emod_right]

theorem fAdd_lt {f : Int} (h : fV f = true) (a b : Int) : 0 ≤ fAdd f a b ∧ fAdd f a b < fP f := by
  unfold fAdd
  rw [if_pos h]
  exact mod_bounds (fP_pos h)

/-! ### lists -/
theorem at0_app {V W : List Int} {i : Int} (h0 : 0 ≤ i) (h : i < V.length) : at0 (V ++ W) i = at0 V i := by
  unfold at0
  rw [List.getElem?_append_left (by omega)]
theorem at0_last {V W : List Int} {x : Int} : at0 (V ++ x :: W) V.length = x := by
  unfold at0
  rw [Int.toNat_natCast, List.getElem?_append_right (Nat.le_refl _), Nat.sub_self]; rfl

theorem sum_app (f : Int) {r : Row} {V W : List Int} (h0 : r.ql ≠ 0 ∨ r.qm ≠ 0 → 0 ≤ r.w0 ∧ r.w0 < V.length) (h1 : r.qr ≠ 0 ∨ r.qm ≠ 0 → 0 ≤ r.w1 ∧ r.w1 < V.length) : sumM f r (V ++ W) = sumM f r V := by
  have a : sumA r (V ++ W) = sumA r V := by
    unfold sumA
    split
    · rename_i h; exact at0_app (h0 h).1 (h0 h).2
    · rfl
  have b : sumB r (V ++ W) = sumB r V := by
    unfold sumB
    split
    · rename_i h; exact at0_app (h1 h).1 (h1 h).2
    · rfl
  unfold sumM
  rw [a, b]

theorem rowAt_pre {a b : List Row} (h : a <+: b) {i : Nat} (hi : i < a.length) : rowAt b i = rowAt a i := by
  obtain ⟨t, rfl⟩ := h
  unfold rowAt
  rw [List.getElem?_append_left hi]
theorem rowAt_last (a t : List Row) (r : Row) : rowAt (a ++ r :: t) a.length = r := by
  unfold rowAt
  rw [List.getElem?_append_right (Nat.le_refl _), Nat.sub_self]; rfl
theorem set_next {α : Type} (V : List α) (z x : α) {m : Nat} (hm : 0 < m) : (V ++ List.replicate m z).set V.length x = (V ++ [x]) ++ List.replicate (m - 1) z := by
  obtain ⟨k, rfl⟩ : ∃ k, m = k + 1 := ⟨m - 1, by omega⟩
  rw [List.set_append_right _ _ (Nat.le_refl _), Nat.sub_self, List.replicate_succ, List.set_cons_zero]
  simp

/-! ### rows of arithmetic -/
/-- A row that defines the next variable, or asserts something. -/
structure ArOk (f : Int) (n : Nat) (r : Row) : Prop where
  k : r.k = 1
  rd : r.rd = 0
  q : ∀ q ∈ r.qs, 0 ≤ q ∧ q < fP f
  w : ∀ k : Nat, k < 2 → -1 ≤ r.w k ∧ r.w k < n
  a : r.ql ≠ 0 ∨ r.qm ≠ 0 → 0 ≤ r.w0 ∧ r.w0 < n
  b : r.qr ≠ 0 ∨ r.qm ≠ 0 → 0 ≤ r.w1 ∧ r.w1 < n
  w3 : r.w3 = -1

theorem ArOk.nn {f : Int} {n : Nat} {r : Row} (h : ArOk f n r) : r.Nn := by
  refine ⟨(h.q r.ql ?_).1, (h.q r.qr ?_).1, (h.q r.qm ?_).1, (h.q r.qo ?_).1, (h.q r.qc ?_).1⟩ <;> simp [Row.qs]

theorem ArOk.formed {f : Int} {n : Nat} {r : Row} (h : ArOk f n r) {nv : Int} (hn : (n : Int) ≤ nv) (h2 : -1 ≤ r.w2 ∧ r.w2 < nv) (hq : r.qo ≠ 0 → 0 ≤ r.w2) : Formed f nv r := by
  refine ⟨by rw [h.k]; decide, by rw [h.rd]; decide, by rw [h.rd]; decide, fun _ => h.rd, fun q hq => ⟨(h.q q hq).2, fun hk => absurd h.k hk⟩, fun k hk => ?_, fun j hj => ?_⟩
  · match k, hk with
    | 0, _ => have := h.w 0 (by decide); exact ⟨this.1, by have := this.2; show r.w 0 < nv; omega⟩
    | 1, _ => have := h.w 1 (by decide); exact ⟨this.1, by have := this.2; show r.w 1 < nv; omega⟩
    | 2, _ => exact h2
    | 3, _ =>
      show -1 ≤ r.w3 ∧ r.w3 < nv
      rw [h.w3]
      omega
  · unfold rds at hj
    rw [if_pos h.k] at hj
    simp only [List.mem_append] at hj
    rcases hj with (hj | hj) | hj
    · split at hj
      · rename_i hc
        simp only [List.mem_cons, List.not_mem_nil, or_false] at hj
        subst hj
        exact (h.a hc).1
      · cases hj
    · split at hj
      · rename_i hc
        simp only [List.mem_cons, List.not_mem_nil, or_false] at hj
        subst hj
        exact (h.b hc).1
      · cases hj
    · split at hj
      · rename_i hc
        simp only [List.mem_cons, List.not_mem_nil, or_false] at hj
        subst hj
        exact hq hc
      · cases hj

end Go.VE
/- What a program with arithmetic rows computes: a builder's program. -/
namespace Go.VE
open Go Go.Proofs
set_option maxRecDepth 20000
/-- A program into which a builder's rows go. -/
structure In (xs : List Int) (d : Bd) (g : Gp) : Prop where
  f : g.f = d.f
  pub : g.pub = 0
  sec : g.sec = xs.length
  rows : d.rows <+: g.rows
  nv : d.nv ≤ g.nv

/-- What a builder's program computes of inputs: the values of its variables, and what it asks. -/
structure Sm (xs : List Int) (d : Bd) (V : List Int) (c : Prop) : Prop where
  e : d.e = 0
  f : fV d.f = true
  pub : d.pub = 0
  sec : d.sec = xs.length
  sl : xs.length ≤ 20000
  len : (V.length : Int) = d.nv
  nv : d.nv ≤ 40000
  inl : xs.length ≤ V.length
  rows : d.rows.length ≤ 8000
  rng : ∀ x ∈ V, 0 ≤ x ∧ x < fP d.f
  inb : ∀ x ∈ xs, 0 ≤ x ∧ x < fP d.f
  lim : ∀ i : Nat, i < d.rows.length → Formed d.f d.nv (rowAt d.rows i) ∧ ((rowAt d.rows i).k = 3 → i + 1 < d.rows.length ∧ ∀ k : Nat, k < 4 → 0 ≤ (rowAt d.rows (i + 1)).w k)
  nn : ∀ r ∈ d.rows, r.Nn
  ord : ∀ g, In xs d g → ∃ D, orderD g d.rows.length = some D ∧ D.length = g.nv.toNat ∧ ∀ i : Nat, i < g.nv.toNat → (0 ≤ at0 D i ↔ i < V.length)
  run : ∀ g, In xs d g → it (runR g) d.rows.length (it (runI [] xs) (g.pub + g.sec).toNat (run0 g)) = (V ++ List.replicate (g.nv.toNat - V.length) 0, List.replicate V.length true ++ List.replicate (g.nv.toNat - V.length) false)
  ok : ∀ g V', In xs d g → V <+: V' → (okM g V' d.rows.length = true ↔ c)

theorem In.mono {xs : List Int} {d d' : Bd} {g : Gp} (h : In xs d' g) (hf : d'.f = d.f) (hr : d.rows <+: d'.rows) (hn : d.nv ≤ d'.nv) : In xs d g := ⟨h.f.trans hf, h.pub, h.sec, hr.trans h.rows, Int.le_trans hn h.nv⟩

theorem Formed.mono {f nv nv' : Int} {r : Row} (h : Formed f nv r) (hn : nv ≤ nv') : Formed f nv' r :=
  ⟨h.1, h.2.1, h.2.2.1, h.2.2.2.1, h.2.2.2.2.1, fun k hk => ⟨(h.2.2.2.2.2.1 k hk).1, Int.lt_of_lt_of_le (h.2.2.2.2.2.1 k hk).2 hn⟩, h.2.2.2.2.2.2⟩

/-- At the end: the program is valid, and a run computes the values. -/
theorem Sm.done {xs V : List Int} {d : Bd} {c : Prop} (h : Sm xs d V c) : runOk d.gp [] xs ∧ (runV d.gp [] xs).1 = V ∧ (okM d.gp (runV d.gp [] xs).1 d.rows.length = true ↔ c) := by
  have hin : In xs d d.gp := ⟨rfl, h.pub, h.sec, List.prefix_refl _, Int.le_refl _⟩
  have hlen := h.len
  have hnv0 : d.gp.nv.toNat = V.length := by show d.nv.toNat = V.length; omega
  have hrun : (runV d.gp [] xs).1 = V := by
    unfold runV
    have := h.run d.gp hin
    rw [hnv0, Nat.sub_self] at this
    have e : it (runR d.gp) d.gp.rows.length (it (runI [] xs) (d.gp.pub + d.gp.sec).toNat (run0 d.gp)) = _ := this
    rw [e]
    simp
  refine ⟨⟨?_, ?_, ?_, rfl, ?_⟩, hrun, ?_⟩
  · unfold validM
    have hL : Limits d.gp := by
      refine ⟨h.f, ?_, ?_, ?_, ?_, ?_, h.nv, h.rows, fun i hi => h.lim i hi⟩
      · show 0 ≤ d.pub; rw [h.pub]; decide
      · show d.pub ≤ 16; rw [h.pub]; decide
      · show 0 ≤ d.sec; rw [h.sec]; omega
      · show d.sec ≤ 20000; rw [h.sec]; have := h.sl; omega
      · show d.pub + d.sec ≤ d.nv; rw [h.pub, h.sec]; have := h.inl; omega
    rw [decide_eq_true hL, Bool.true_and]
    obtain ⟨D, e, hDl, hD⟩ := h.ord d.gp hin
    unfold orderM
    have e' : orderD d.gp d.gp.rows.length = some D := e
    rw [e', Option.bind_some, if_pos]
    · rfl
    · rw [List.all_eq_true]
      intro x hx
      obtain ⟨i, hi, rfl⟩ := List.getElem_of_mem hx
      have := (hD i (by omega)).2 (by omega)
      unfold at0 at this
      rw [Int.toNat_natCast, List.getElem?_eq_getElem hi] at this
      simpa using this
  · show ((0 : Nat) : Int) = d.pub
    rw [h.pub]; rfl
  · exact h.sec.symm
  · unfold below
    rw [List.all_eq_true]
    intro x hx
    have := (h.inb x hx).2
    exact decide_eq_true this
  · rw [hrun]
    exact h.ok d.gp V hin (List.prefix_refl _)

theorem it_runI {xs : List Int} (N : Nat) : ∀ n, n ≤ xs.length → n ≤ N → it (runI [] xs) n (List.replicate N 0, List.replicate N false) = (xs.take n ++ List.replicate (N - n) 0, List.replicate n true ++ List.replicate (N - n) false)
  | 0, _, _ => by simp [it]
  | n + 1, h1, h2 => by
    rw [it, it_runI N n (by omega) (by omega)]
    have hl : (xs.take n).length = n := by rw [List.length_take]; omega
    have hi : xs[n]? = some xs[n] := List.getElem?_eq_getElem (by omega)
    have hinp : inp [] xs n = xs[n] := by
      unfold inp
      rw [if_neg (by simp)]
      unfold at0
      rw [show ((n : Int) - (([] : List Int).length : Nat)).toNat = n by simp, hi]; rfl
    unfold runI setV
    rw [hinp, Int.toNat_natCast]
    have e1 := set_next (xs.take n) 0 xs[n] (m := N - n) (by omega)
    rw [hl] at e1
    have e2 := set_next (List.replicate n true) false true (m := N - n) (by omega)
    rw [List.length_replicate] at e2
    rw [e1, e2, show N - n - 1 = N - (n + 1) by omega, take_succ_eq hi]
    congr 2
    simp [List.replicate_succ']

theorem dInit_it (n0 N : Nat) : ∀ n, n ≤ N → (it (dInit n0) n (List.replicate N 0)).length = N ∧ ∀ i : Nat, i < n → (0 ≤ at0 (it (dInit n0) n (List.replicate N 0)) i ↔ i < n0)
  | 0, _ => ⟨by simp [it], fun i hi => by omega⟩
  | n + 1, h => by
    obtain ⟨ih1, ih2⟩ := dInit_it n0 N n (by omega)
    rw [it]
    have get : ∀ (D : List Int) (x : Int) (i : Nat), D.length = N → at0 (D.set n x) i = if i = n then x else at0 D i := fun D x i hD => by
      unfold at0
      rw [Int.toNat_natCast, List.getElem?_set]
      by_cases hi : i = n
      · subst hi
        rw [if_pos rfl, if_pos (by omega), if_pos rfl]; rfl
      · rw [if_neg (by omega), if_neg hi]
    generalize it (dInit n0) n (List.replicate N 0) = D0 at ih1 ih2 ⊢
    unfold dInit
    by_cases hc : (n : Int) < n0
    · rw [if_pos hc]
      refine ⟨by simp [ih1], fun i hi => ?_⟩
      rw [get _ _ _ (by simp [ih1]), get _ _ _ ih1]
      by_cases hin : i = n
      · subst hin
        rw [if_pos rfl]
        constructor
        · intro; omega
        · intro; omega
      · rw [if_neg hin, if_neg hin]
        exact ih2 i (by omega)
    · rw [if_neg hc]
      refine ⟨by simp [ih1], fun i hi => ?_⟩
      rw [get _ _ _ ih1]
      by_cases hin : i = n
      · subst hin
        rw [if_pos rfl]
        constructor
        · intro; omega
        · intro; omega
      · rw [if_neg hin]
        exact ih2 i (by omega)

/-- A new builder. -/
theorem Sm.start {xs : List Int} {f : Int} (hf : fV f = true) (hn : xs.length ≤ 20000) (hx : ∀ x ∈ xs, 0 ≤ x ∧ x < fP f) : Sm xs ⟨f, xs.length, 0, xs.length, [], 0⟩ xs True := by
  refine ⟨rfl, hf, rfl, rfl, hn, rfl, by show (xs.length : Int) ≤ 40000; omega, Nat.le_refl _, by show 0 ≤ 8000; omega, hx, hx, fun i hi => absurd hi (by show ¬ i < 0; omega), fun r hr => (by cases hr), fun g hg => ?_, fun g hg => ?_, fun g V' _ _ => ⟨fun _ => trivial, fun _ => rfl⟩⟩
  · have hnv : (xs.length : Int) ≤ g.nv := hg.nv
    have h := dInit_it xs.length g.nv.toNat g.nv.toNat (Nat.le_refl _)
    have e : g.pub + g.sec = (xs.length : Int) := by rw [hg.pub, hg.sec]; omega
    refine ⟨_, by show some _ = some _; rw [e], h.1, h.2⟩
  · have hnv : (xs.length : Int) ≤ g.nv := hg.nv
    have e : (g.pub + g.sec).toNat = xs.length := by rw [hg.pub, hg.sec]; omega
    show it (runI [] xs) (g.pub + g.sec).toNat (run0 g) = _
    rw [e]
    unfold run0
    rw [it_runI g.nv.toNat xs.length (Nat.le_refl _) (by omega), List.take_of_length_le (Nat.le_refl _)]

end Go.VE
/- What a program with arithmetic rows computes: one row more. -/
namespace Go.VE
open Go Go.Proofs
set_option maxRecDepth 20000
theorem mostM_some {r : Row} {D : List Int} : ∀ (l : List Int) {m : Int}, 0 ≤ m → (∀ j ∈ l, 0 ≤ at0 D (r.w j.toNat) ∨ (r.k = 1 ∧ j = 2)) → ∃ m', 0 ≤ m' ∧ mostM r D l m = some m'
  | [], m, hm, _ => ⟨m, hm, rfl⟩
  | j :: l, m, hm, h => by
    rw [mostM]
    have hj := h j (by simp)
    rw [if_neg (by
      rintro ⟨h1, h2⟩
      rcases hj with hj | hj
      · omega
      · exact h2 hj)]
    refine mostM_some l ?_ fun i hi => h i (by simp [hi])
    split <;> omega

theorem at0_set {D : List Int} {n : Nat} {x : Int} (hn : n < D.length) (i : Nat) : at0 (D.set n x) i = if i = n then x else at0 D i := by
  unfold at0
  rw [Int.toNat_natCast, List.getElem?_set]
  by_cases hi : i = n
  · subst hi
    rw [if_pos rfl, if_pos hn, if_pos rfl]; rfl
  · rw [if_neg (by omega), if_neg hi]

theorem ArOk.reads {f : Int} {n : Nat} {r : Row} (h : ArOk f n r) {j : Int} (hj : j ∈ rds r) : (0 ≤ r.w j.toNat ∧ r.w j.toNat < n) ∨ (r.k = 1 ∧ j = 2) := by
  unfold rds at hj
  rw [if_pos h.k] at hj
  simp only [List.mem_append] at hj
  rcases hj with (hj | hj) | hj
  · split at hj
    · rename_i hc
      simp only [List.mem_cons, List.not_mem_nil, or_false] at hj
      subst hj
      exact .inl (h.a hc)
    · cases hj
  · split at hj
    · rename_i hc
      simp only [List.mem_cons, List.not_mem_nil, or_false] at hj
      subst hj
      exact .inl (h.b hc)
    · cases hj
  · split at hj
    · simp only [List.mem_cons, List.not_mem_nil, or_false] at hj
      exact .inr ⟨h.k, hj⟩
    · cases hj

section
variable {xs V : List Int} {d : Bd} {c : Prop}
theorem sumM_bounds {f : Int} (h : fV f = true) (r : Row) (V : List Int) : 0 ≤ sumM f r V ∧ sumM f r V < fP f := fAdd_lt h _ _

theorem pre_last {a b : List Row} {r : Row} (h : a ++ [r] <+: b) : rowAt b a.length = r := by
  obtain ⟨t, rfl⟩ := h
  rw [List.append_assoc]
  exact rowAt_last a t r

theorem Sm.lim1 (h : Sm xs d V c) {r : Row} {nv : Int} (hn : d.nv ≤ nv) (hf : Formed d.f nv r) (hk : r.k ≠ 3) (i : Nat) (hi : i < (d.rows ++ [r]).length) :
    Formed d.f nv (rowAt (d.rows ++ [r]) i) ∧ ((rowAt (d.rows ++ [r]) i).k = 3 → i + 1 < (d.rows ++ [r]).length ∧ ∀ k : Nat, k < 4 → 0 ≤ (rowAt (d.rows ++ [r]) (i + 1)).w k) := by
  rw [List.length_append] at hi ⊢
  simp only [List.length_cons, List.length_nil] at hi ⊢
  rcases Nat.lt_or_ge i d.rows.length with hlt | hge
  · rw [rowAt_pre (List.prefix_append _ _) hlt]
    have hl := h.lim i hlt
    refine ⟨hl.1.mono hn, fun h3 => ?_⟩
    have := hl.2 h3
    rw [rowAt_pre (List.prefix_append _ _) this.1]
    exact ⟨by omega, this.2⟩
  · obtain rfl : i = d.rows.length := by omega
    rw [pre_last (List.prefix_refl _)]
    exact ⟨hf, fun h3 => absurd h3 hk⟩

theorem Sm.row (h : Sm xs d V c) {r : Row} (ha : ArOk d.f V.length r) {g : Gp} (hin : In xs d g) (hr : rowAt g.rows d.rows.length = r) :
    ∃ D m, orderD g d.rows.length = some D ∧ D.length = g.nv.toNat ∧ (∀ i : Nat, i < g.nv.toNat → (0 ≤ at0 D i ↔ i < V.length)) ∧ 0 ≤ m ∧ orderD g (d.rows.length + 1) = some (dArith r m D) := by
  obtain ⟨D, e, hl, hD⟩ := h.ord g hin
  have hnv := hin.nv
  have hlen := h.len
  obtain ⟨m, hm, em⟩ := mostM_some (r := r) (D := D) (rds r) (Int.le_refl 0) fun j hj => by
    rcases ha.reads hj with hw | hw
    · refine .inl ?_
      have := (hD (r.w j.toNat).toNat (by omega)).2 (by omega)
      rwa [Int.toNat_of_nonneg hw.1] at this
    · exact .inr hw
  refine ⟨D, m, e, hl, hD, hm, ?_⟩
  rw [orderD, e, Option.bind_some]
  unfold stepD
  rw [hr, em]
  show some (dRow r _ m D) = _
  unfold dRow
  rw [if_neg (by rw [ha.k]; decide)]

theorem Sm.define (h : Sm xs d V c) {r : Row} (ha : ArOk d.f V.length r) (hq : r.qo = fP d.f - 1) (h2 : r.w2 = d.nv) (hr : d.rows.length < 8000) (hn : d.nv < 40000) : Sm xs (d.add 1 [r]) (V ++ [sumM d.f r V]) c := by
  have hlen := h.len
  have hp := fP_one h.f
  have hq0 : r.qo ≠ 0 := by omega
  have hnn : 0 ≤ d.nv := by omega
  have mono : ∀ {g}, In xs (d.add 1 [r]) g → In xs d g := fun hg => hg.mono rfl (List.prefix_append _ _) (by show d.nv ≤ d.nv + 1; omega)
  have hk3 : r.k ≠ 3 := by rw [ha.k]; decide
  refine ⟨h.e, h.f, h.pub, h.sec, h.sl, ?_, ?_, ?_, ?_, ?_, h.inb, ?_, ?_, fun g hg => ?_, fun g hg => ?_, fun g V' hg hV => ?_⟩
  · show ((V ++ [sumM d.f r V]).length : Int) = d.nv + 1
    rw [List.length_append]; simp only [List.length_cons, List.length_nil]; omega
  · show d.nv + 1 ≤ 40000; omega
  · rw [List.length_append]; have := h.inl; omega
  · show (d.rows ++ [r]).length ≤ 8000
    rw [List.length_append]; simp only [List.length_cons, List.length_nil]; omega
  · intro x hx
    rcases List.mem_append.1 hx with hx | hx
    · exact h.rng x hx
    · simp only [List.mem_cons, List.not_mem_nil, or_false] at hx
      rw [hx]
      exact sumM_bounds h.f r V
  · intro i hi
    refine h.lim1 (r := r) (nv := d.nv + 1) (by omega) (ha.formed (by omega) ⟨by omega, by omega⟩ (fun _ => by omega)) hk3 i hi
  · intro x hx
    rcases List.mem_append.1 hx with hx | hx
    · exact h.nn x hx
    · simp only [List.mem_cons, List.not_mem_nil, or_false] at hx
      rw [hx]
      exact ha.nn
  · have hgn : d.nv + 1 ≤ g.nv := hg.nv
    obtain ⟨D, m, e, hl, hD, hm, e1⟩ := h.row ha (mono hg) (pre_last hg.rows)
    have hw : at0 D r.w2 < 0 := by
      have hq : ¬ 0 ≤ at0 D (V.length : Nat) := fun hh => absurd ((hD V.length (by omega)).1 hh) (Nat.lt_irrefl _)
      rw [h2, ← hlen]
      omega
    have hset : dArith r m D = D.set V.length (m + 1) := by
      unfold dArith
      rw [if_pos ⟨ha.k, hq0, hw⟩, h2, ← hlen, Int.toNat_natCast]
    have hlr : (d.add 1 [r]).rows.length = d.rows.length + 1 := by show (d.rows ++ [r]).length = _; simp
    refine ⟨D.set V.length (m + 1), by rw [hlr, e1, hset], by rw [List.length_set]; exact hl, fun i hi => ?_⟩
    rw [at0_set (by omega), List.length_append]
    simp only [List.length_cons, List.length_nil]
    by_cases hiv : i = V.length
    · rw [if_pos hiv]
      constructor <;> intro <;> omega
    · rw [if_neg hiv, hD i hi]
      omega
  · have hgn : d.nv + 1 ≤ g.nv := hg.nv
    have hlr : (d.add 1 [r]).rows.length = d.rows.length + 1 := by show (d.rows ++ [r]).length = _; simp
    rw [hlr, it, h.run g (mono hg)]
    unfold runR
    rw [pre_last hg.rows]
    have hgf : g.f = d.f := hg.f
    have hB : atB (List.replicate V.length true ++ List.replicate (g.nv.toNat - V.length) false) r.w2 = false := by
      unfold atB
      rw [h2, ← hlen, Int.toNat_natCast, List.getElem?_append_right (by simp)]
      simp only [List.length_replicate, Nat.sub_self]
      rw [List.getElem?_replicate]
      rw [if_pos (by omega)]; rfl
    have hA : runA g.f r (V ++ List.replicate (g.nv.toNat - V.length) 0, List.replicate V.length true ++ List.replicate (g.nv.toNat - V.length) false) = (V ++ [sumM d.f r V] ++ List.replicate (g.nv.toNat - (V ++ [sumM d.f r V]).length) 0, List.replicate (V ++ [sumM d.f r V]).length true ++ List.replicate (g.nv.toNat - (V ++ [sumM d.f r V]).length) false) := by
      unfold runA
      rw [if_pos ⟨ha.k, hq0, hB⟩]
      unfold setV
      simp only
      rw [hgf, sum_app d.f (fun hc => ha.a hc) (fun hc => ha.b hc), hq, neg_div h.f (sumM_bounds h.f r V).1 (sumM_bounds h.f r V).2, h2, ← hlen, Int.toNat_natCast, set_next V 0 _ (by omega)]
      have e2 := set_next (List.replicate V.length true) false true (m := g.nv.toNat - V.length) (by omega)
      rw [List.length_replicate] at e2
      rw [e2, List.length_append]
      simp only [List.length_cons, List.length_nil]
      rw [show g.nv.toNat - V.length - 1 = g.nv.toNat - (V.length + (0 + 1)) by omega]
      congr 2
      simp [List.replicate_succ']
    rw [hA]
    unfold runB
    rw [if_neg hk3]
  · have hlr : (d.add 1 [r]).rows.length = d.rows.length + 1 := by show (d.rows ++ [r]).length = _; simp
    have hgf : g.f = d.f := hg.f
    rw [hlr, okM, pre_last hg.rows, Bool.and_eq_true, h.ok g V' (mono hg) ((List.prefix_append _ _).trans hV)]
    obtain ⟨W, rfl⟩ := hV
    have hh : holdsR g.f r (rowAt g.rows (d.rows.length + 1)) (V ++ [sumM d.f r V] ++ W) = true := by
      unfold holdsR
      rw [if_pos ha.k, if_pos hq0, hgf, hq, List.append_assoc, sum_app d.f (fun hc => ha.a hc) (fun hc => ha.b hc), h2, ← hlen]
      rw [show V ++ ([sumM d.f r V] ++ W) = V ++ sumM d.f r V :: W from rfl, at0_last, def_holds h.f]
      rfl
    rw [hh]
    simp

theorem Sm.ask (h : Sm xs d V c) {r : Row} (ha : ArOk d.f V.length r) (hq : r.qo = 0) (h2 : r.w2 = -1) (hr : d.rows.length < 8000) : Sm xs (d.add 0 [r]) V (c ∧ sumM d.f r V = 0) := by
  have hlen := h.len
  have mono : ∀ {g}, In xs (d.add 0 [r]) g → In xs d g := fun hg => hg.mono rfl (List.prefix_append _ _) (by show d.nv ≤ d.nv + 0; omega)
  have hk3 : r.k ≠ 3 := by rw [ha.k]; decide
  refine ⟨h.e, h.f, h.pub, h.sec, h.sl, ?_, ?_, h.inl, ?_, h.rng, h.inb, ?_, ?_, fun g hg => ?_, fun g hg => ?_, fun g V' hg hV => ?_⟩
  · show (V.length : Int) = d.nv + 0; omega
  · show d.nv + 0 ≤ 40000; have := h.nv; omega
  · show (d.rows ++ [r]).length ≤ 8000
    rw [List.length_append]; simp only [List.length_cons, List.length_nil]; omega
  · intro i hi
    refine h.lim1 (r := r) (nv := d.nv + 0) (by omega) (ha.formed (by omega) ⟨by omega, by omega⟩ (fun hc => absurd hq hc)) hk3 i hi
  · intro x hx
    rcases List.mem_append.1 hx with hx | hx
    · exact h.nn x hx
    · simp only [List.mem_cons, List.not_mem_nil, or_false] at hx
      rw [hx]
      exact ha.nn
  · obtain ⟨D, m, e, hl, hD, hm, e1⟩ := h.row ha (mono hg) (pre_last hg.rows)
    have hset : dArith r m D = D := by
      unfold dArith
      rw [if_neg (fun hc => hc.2.1 hq)]
    have hlr : (d.add 0 [r]).rows.length = d.rows.length + 1 := by show (d.rows ++ [r]).length = _; simp
    exact ⟨D, by rw [hlr, e1, hset], hl, hD⟩
  · have hlr : (d.add 0 [r]).rows.length = d.rows.length + 1 := by show (d.rows ++ [r]).length = _; simp
    rw [hlr, it, h.run g (mono hg)]
    unfold runR
    rw [pre_last hg.rows]
    unfold runA
    rw [if_neg (fun hc => hc.2.1 hq)]
    unfold runB
    rw [if_neg hk3]
  · have hlr : (d.add 0 [r]).rows.length = d.rows.length + 1 := by show (d.rows ++ [r]).length = _; simp
    have hgf : g.f = d.f := hg.f
    rw [hlr, okM, pre_last hg.rows, Bool.and_eq_true, h.ok g V' (mono hg) hV]
    obtain ⟨W, rfl⟩ := hV
    have hh : holdsR g.f r (rowAt g.rows (d.rows.length + 1)) (V ++ W) = decide (sumM d.f r V = 0) := by
      unfold holdsR
      rw [if_pos ha.k, hgf, sum_app d.f (fun hc => ha.a hc) (fun hc => ha.b hc)]
      have hm : (if r.qo ≠ 0 then fAdd d.f (sumM d.f r V) (fMul d.f r.qo (at0 (V ++ W) r.w2)) else sumM d.f r V) = sumM d.f r V := if_neg (fun hc => hc hq)
      simp only [hm]
    rw [hh, decide_eq_true_eq]

end
end Go.VE
/- What a builder's methods mean. -/
namespace Go.VE
open Go Go.Proofs
set_option maxRecDepth 20000
theorem mul_mod2 (a b p : Int) : a * (b % p) % p = a * b % p := by rw [Int.mul_emod, Int.emod_emod, ← Int.mul_emod]
theorem sumM_eq {f : Int} (h : fV f = true) (r : Row) (V : List Int) : sumM f r V = (r.ql * at0 V r.w0 + r.qr * at0 V r.w1 + r.qm * (at0 V r.w0 * at0 V r.w1) + r.qc) % fP f := by
  have a1 : r.ql * sumA r V = r.ql * at0 V r.w0 := by
    unfold sumA
    split
    · rfl
    · rename_i hc
      have : r.ql = 0 := by
        rcases Int.lt_trichotomy r.ql 0 with h | h | h
        · exact absurd (.inl (by omega)) hc
        · exact h
        · exact absurd (.inl (by omega)) hc
      rw [this, Int.zero_mul, Int.zero_mul]
  have b1 : r.qr * sumB r V = r.qr * at0 V r.w1 := by
    unfold sumB
    split
    · rfl
    · rename_i hc
      have : r.qr = 0 := by
        rcases Int.lt_trichotomy r.qr 0 with h | h | h
        · exact absurd (.inl (by omega)) hc
        · exact h
        · exact absurd (.inl (by omega)) hc
      rw [this, Int.zero_mul, Int.zero_mul]
  have c1 : r.qm * (sumA r V * sumB r V) = r.qm * (at0 V r.w0 * at0 V r.w1) := by
    by_cases hq : r.qm = 0
    · rw [hq, Int.zero_mul, Int.zero_mul]
    · unfold sumA sumB
      rw [if_pos (.inr hq), if_pos (.inr hq)]
  unfold sumM fAdd fMul
  simp only [h, if_true]
  rw [a1, b1, mul_mod2, c1]
  simp only [Int.emod_add_emod, Int.add_emod_emod]

section
variable {xs V : List Int} {d : Bd} {c : Prop}
theorem Sm.kn (h : Sm xs d V c) {l : List Int} (hl : ∀ v ∈ l, 0 ≤ v ∧ v < V.length) : kn d l = true := by
  have hlen := h.len
  unfold Go.VE.kn
  rw [Bool.and_eq_true, decide_eq_true_eq, List.all_eq_true]
  refine ⟨h.e, fun v hv => ?_⟩
  have := hl v hv
  unfold isVar
  rw [Bool.and_eq_true, decide_eq_true_eq, decide_eq_true_eq]
  omega

theorem mready_t {d : Bd} (he : d.e = 0) : mready d true = (d, true) := by
  unfold mready
  rw [if_neg (by simpa using he)]
  rfl
theorem mput_ok {d : Bd} (he : d.e = 0) {n : Int} {rows : List Row} (hf : ¬ d.full n rows) : mput d n rows = (d.add n rows, d.nv) := by
  unfold mput
  rw [if_neg (by simpa using he), if_neg hf]

theorem nums_t {d : Bd} {l : List Int} (h : ∀ v ∈ l, v < fP d.f) : nums d l = true := by
  unfold nums
  rw [List.all_eq_true]
  exact fun v hv => decide_eq_true (h v hv)

/-- A row's value, or what it asks. -/
def rowV (f : Int) (V : List Int) (u v ql qr qm qc : Int) : Int := (ql * at0 V u + qr * at0 V v + qm * (at0 V u * at0 V v) + qc) % fP f

theorem arOk {f : Int} {n : Nat} {u v w ql qr qm qo qc : Int} (hu : -1 ≤ u ∧ u < n) (hv : -1 ≤ v ∧ v < n) (hq : ∀ q ∈ [ql, qr, qm, qo, qc], 0 ≤ q ∧ q < fP f) (ha : ql ≠ 0 ∨ qm ≠ 0 → 0 ≤ u) (hb : qr ≠ 0 ∨ qm ≠ 0 → 0 ≤ v) : ArOk f n (arithRow u v w ql qr qm qo qc) :=
  ⟨rfl, rfl, hq, fun k hk => by
    match k, hk with
    | 0, _ => exact hu
    | 1, _ => exact hv, fun h => ⟨ha h, hu.2⟩, fun h => ⟨hb h, hv.2⟩, rfl⟩

theorem Sm.defRow (h : Sm xs d V c) {u v ql qr qm qc : Int} (hu : -1 ≤ u ∧ u < V.length) (hv : -1 ≤ v ∧ v < V.length) (hq : ∀ q ∈ [ql, qr, qm, qc], 0 ≤ q ∧ q < fP d.f) (ha : ql ≠ 0 ∨ qm ≠ 0 → 0 ≤ u) (hb : qr ≠ 0 ∨ qm ≠ 0 → 0 ≤ v) (hr : d.rows.length < 8000) (hn : d.nv < 40000) :
    mput d 1 [arithRow u v d.nv ql qr qm (fP d.f - 1) qc] = (d.add 1 [arithRow u v d.nv ql qr qm (fP d.f - 1) qc], d.nv) ∧ Sm xs (d.add 1 [arithRow u v d.nv ql qr qm (fP d.f - 1) qc]) (V ++ [rowV d.f V u v ql qr qm qc]) c := by
  have hp := fP_one h.f
  refine ⟨mput_ok h.e (fun hf => ?_), ?_⟩
  · rcases hf with hf | hf
    · simp only [List.length_cons, List.length_nil] at hf; omega
    · omega
  · have hok : ArOk d.f V.length (arithRow u v d.nv ql qr qm (fP d.f - 1) qc) := arOk hu hv (fun q hq' => by
      simp only [List.mem_cons, List.not_mem_nil, or_false] at hq'
      rcases hq' with rfl | rfl | rfl | rfl | rfl
      · exact hq _ (by simp)
      · exact hq _ (by simp)
      · exact hq _ (by simp)
      · omega
      · exact hq _ (by simp)) ha hb
    have := h.define hok rfl rfl hr hn
    rw [sumM_eq h.f] at this
    exact this

theorem Sm.linear (h : Sm xs d V c) {u v x y z : Int} (hu : 0 ≤ u ∧ u < V.length) (hv : 0 ≤ v ∧ v < V.length) (hx : 0 ≤ x ∧ x < fP d.f) (hy : 0 ≤ y ∧ y < fP d.f) (hz : 0 ≤ z ∧ z < fP d.f) (hr : d.rows.length < 8000) (hn : d.nv < 40000) :
    (mLinear d u v x y z).2 = V.length ∧ (mLinear d u v x y z).1.f = d.f ∧ (mLinear d u v x y z).1.rows.length = d.rows.length + 1 ∧ Sm xs (mLinear d u v x y z).1 (V ++ [(x * at0 V u + y * at0 V v + z) % fP d.f]) c := by
  have hp := fP_one h.f
  obtain ⟨e1, e2⟩ := h.defRow (u := u) (v := v) (ql := x) (qr := y) (qm := 0) (qc := z) (by omega) (by omega) (fun q hq => by
    simp only [List.mem_cons, List.not_mem_nil, or_false] at hq
    rcases hq with rfl | rfl | rfl | rfl <;> omega) (fun _ => hu.1) (fun _ => hv.1) hr hn
  have em : mLinear d u v x y z = (d.add 1 [arithRow u v d.nv x y 0 (fP d.f - 1) z], d.nv) := by
    unfold mLinear
    rw [h.kn (l := [u, v]) (by simp; omega), nums_t (by simp; omega), Bool.and_true, mready_t h.e, if_pos rfl, e1]
  rw [em]
  refine ⟨h.len.symm, rfl, by show (d.rows ++ [_]).length = _; simp, ?_⟩
  have : rowV d.f V u v x y 0 z = (x * at0 V u + y * at0 V v + z) % fP d.f := by unfold rowV; rw [Int.zero_mul, Int.add_zero]
  rw [← this]
  exact e2

theorem Sm.mul (h : Sm xs d V c) {u v : Int} (hu : 0 ≤ u ∧ u < V.length) (hv : 0 ≤ v ∧ v < V.length) (hr : d.rows.length < 8000) (hn : d.nv < 40000) :
    (mMul d u v).2 = V.length ∧ (mMul d u v).1.f = d.f ∧ (mMul d u v).1.rows.length = d.rows.length + 1 ∧ Sm xs (mMul d u v).1 (V ++ [at0 V u * at0 V v % fP d.f]) c := by
  have hp := fP_one h.f
  obtain ⟨e1, e2⟩ := h.defRow (u := u) (v := v) (ql := 0) (qr := 0) (qm := 1) (qc := 0) (by omega) (by omega) (fun q hq => by
    simp only [List.mem_cons, List.not_mem_nil, or_false] at hq
    rcases hq with rfl | rfl | rfl | rfl <;> omega) (fun _ => hu.1) (fun _ => hv.1) hr hn
  have em : mMul d u v = (d.add 1 [arithRow u v d.nv 0 0 1 (fP d.f - 1) 0], d.nv) := by
    unfold mMul
    rw [h.kn (l := [u, v]) (by simp; omega), nums_t (by simp), Bool.and_true, mready_t h.e, if_pos rfl, e1]
  rw [em]
  refine ⟨h.len.symm, rfl, by show (d.rows ++ [_]).length = _; simp, ?_⟩
  have : rowV d.f V u v 0 0 1 0 = at0 V u * at0 V v % fP d.f := by unfold rowV; simp
  rw [← this]
  exact e2

theorem Sm.const (h : Sm xs d V c) {x : Int} (hx : 0 ≤ x ∧ x < fP d.f) (hr : d.rows.length < 8000) (hn : d.nv < 40000) :
    (mConst d x).2 = V.length ∧ (mConst d x).1.f = d.f ∧ (mConst d x).1.rows.length = d.rows.length + 1 ∧ Sm xs (mConst d x).1 (V ++ [x]) c := by
  have hp := fP_one h.f
  obtain ⟨e1, e2⟩ := h.defRow (u := -1) (v := -1) (ql := 0) (qr := 0) (qm := 0) (qc := x) (by omega) (by omega) (fun q hq => by
    simp only [List.mem_cons, List.not_mem_nil, or_false] at hq
    rcases hq with rfl | rfl | rfl | rfl <;> omega) (fun hh => by simp at hh) (fun hh => by simp at hh) hr hn
  have em : mConst d x = (d.add 1 [arithRow (-1) (-1) d.nv 0 0 0 (fP d.f - 1) x], d.nv) := by
    unfold mConst
    rw [nums_t (by simp; omega), Bool.and_true, mready_t h.e, if_pos rfl, e1]
  rw [em]
  refine ⟨h.len.symm, rfl, by show (d.rows ++ [_]).length = _; simp, ?_⟩
  have : rowV d.f V (-1) (-1) 0 0 0 x = x := by
    unfold rowV
    simp only [Int.zero_mul, Int.zero_add, Int.add_zero]
    exact Int.emod_eq_of_lt hx.1 hx.2
  have e3 := e2
  rw [this] at e3
  exact e3

theorem Sm.val (h : Sm xs d V c) {u : Int} (hu : 0 ≤ u ∧ u < V.length) : 0 ≤ at0 V u ∧ at0 V u < fP d.f := h.rng _ (List.mem_of_getElem? (at0_get hu.1 hu.2))

theorem Sm.zero (h : Sm xs d V c) {u : Int} (hu : 0 ≤ u ∧ u < V.length) (hr : d.rows.length < 8000) :
    (mZero d u).f = d.f ∧ (mZero d u).rows.length = d.rows.length + 1 ∧ Sm xs (mZero d u) V (c ∧ at0 V u = 0) := by
  have hp := fP_one h.f
  have hnv := h.nv
  have em : mZero d u = d.add 0 [arithRow u (-1) (-1) 1 0 0 0 0] := by
    unfold mZero
    rw [h.kn (l := [u]) (by simp; omega), nums_t (by simp), Bool.and_true, mready_t h.e, if_pos rfl, mput_ok h.e]
    rintro (hf | hf)
    · simp only [List.length_cons, List.length_nil] at hf; omega
    · omega
  have hok : ArOk d.f V.length (arithRow u (-1) (-1) 1 0 0 0 0) := arOk (by omega) (by omega) (fun q hq => by
    simp only [List.mem_cons, List.not_mem_nil, or_false] at hq
    rcases hq with rfl | rfl | rfl | rfl | rfl <;> omega) (fun _ => hu.1) (fun hh => by simp at hh)
  have := h.ask hok rfl rfl hr
  rw [sumM_eq h.f] at this
  rw [em]
  refine ⟨rfl, by show (d.rows ++ [_]).length = _; simp, ?_⟩
  have e : ((arithRow u (-1) (-1) 1 0 0 0 0).ql * at0 V (arithRow u (-1) (-1) 1 0 0 0 0).w0 + (arithRow u (-1) (-1) 1 0 0 0 0).qr * at0 V (arithRow u (-1) (-1) 1 0 0 0 0).w1 + (arithRow u (-1) (-1) 1 0 0 0 0).qm * (at0 V (arithRow u (-1) (-1) 1 0 0 0 0).w0 * at0 V (arithRow u (-1) (-1) 1 0 0 0 0).w1) + (arithRow u (-1) (-1) 1 0 0 0 0).qc) % fP d.f = at0 V u := by
    show (1 * at0 V u + 0 * at0 V (-1) + 0 * (at0 V u * at0 V (-1)) + 0) % fP d.f = at0 V u
    simp only [Int.zero_mul, Int.one_mul, Int.add_zero]
    exact Int.emod_eq_of_lt (h.val hu).1 (h.val hu).2
  rw [e] at this
  exact this

end
end Go.VE
/- What Pack, Canonical mean. -/
namespace Go.VE
open Go Go.Proofs
set_option maxRecDepth 20000
section
variable {xs V : List Int} {d : Bd} {c : Prop}
/-- A variable of an earlier program keeps its value. -/
theorem at0_pre {V W : List Int} (h : V <+: W) {u : Int} (hu : 0 ≤ u ∧ u < V.length) : at0 W u = at0 V u := by
  obtain ⟨t, rfl⟩ := h
  exact at0_app hu.1 hu.2

theorem Sm.prod : ∀ (l : List Int) {d : Bd} {V : List Int} {first : Int} (_ : Sm xs d V c) (_ : ∀ b ∈ l, 0 ≤ b ∧ b < V.length) (_ : 0 ≤ first ∧ first < V.length) (_ : d.rows.length + l.length ≤ 8000) (_ : d.nv + l.length ≤ 40000),
    ∃ W, Sm xs (prodGo l (d, first)).1 W c ∧ V <+: W ∧ W.length = V.length + l.length ∧ (prodGo l (d, first)).1.f = d.f ∧ (prodGo l (d, first)).1.rows.length = d.rows.length + l.length ∧ (0 ≤ (prodGo l (d, first)).2 ∧ (prodGo l (d, first)).2 < W.length) ∧
      at0 W (prodGo l (d, first)).2 = l.foldl (fun a b => a * at0 V b % fP d.f) (at0 V first)
  | [], d, V, first, h, _, hf, _, _ => ⟨V, h, List.prefix_refl _, rfl, rfl, rfl, hf, rfl⟩
  | b :: l, d, V, first, h, hl, hf, hr, hn => by
    simp only [List.length_cons] at hr hn
    have hb := hl b (by simp)
    obtain ⟨e1, e2, e3, h1⟩ := h.mul hf hb (by omega) (by omega)
    have hlen := h.len
    have hlen1 := h1.len
    have hVl : (V ++ [at0 V first * at0 V b % fP d.f]).length = V.length + 1 := by simp
    obtain ⟨W, g1, g2, g3, g4, g5, g6, g7⟩ := Sm.prod l h1 (first := (mMul d first b).2) (fun x hx => by have := hl x (by simp [hx]); rw [hVl]; omega) (by rw [e1, hVl]; omega) (by omega) (by omega)
    rw [prodGo]
    have ep : ((mMul d first b).1, (mMul d first b).2) = mMul d first b := rfl
    rw [ep] at g1 g4 g5 g6 g7
    refine ⟨W, g1, (List.prefix_append _ _).trans g2, by rw [g3, hVl, List.length_cons]; omega, g4.trans e2, by rw [g5, e3, List.length_cons]; omega, g6, ?_⟩
    rw [g7, e1, e2, List.foldl_cons]
    have el : at0 (V ++ [at0 V first * at0 V b % fP d.f]) (V.length : Nat) = at0 V first * at0 V b % fP d.f := at0_last (W := [])
    rw [el]
    have hfun : ∀ (l' : List Int) (a : Int), (∀ x ∈ l', 0 ≤ x ∧ x < V.length) → l'.foldl (fun a b' => a * at0 (V ++ [at0 V first * at0 V b % fP d.f]) b' % fP d.f) a = l'.foldl (fun a b => a * at0 V b % fP d.f) a := by
      intro l'
      induction l' with
      | nil => intro a _; rfl
      | cons x l' ih =>
        intro a hx
        rw [List.foldl_cons, List.foldl_cons, at0_app (hx x (by simp)).1 (hx x (by simp)).2]
        exact ih _ fun y hy => hx y (by simp [hy])
    exact hfun l _ fun x hx => hl x (by simp [hx])

theorem Sm.packs : ∀ (l : List Int) {d : Bd} {V : List Int} {w : Int} (_ : Sm xs d V c) (_ : 2 < fP d.f) (_ : ∀ b ∈ l, 0 ≤ b ∧ b < V.length) (_ : 0 ≤ w ∧ w < V.length) (_ : d.rows.length + l.length ≤ 8000) (_ : d.nv + l.length ≤ 40000),
    ∃ W, Sm xs (packGo l (d, w)).1 W c ∧ V <+: W ∧ W.length = V.length + l.length ∧ (packGo l (d, w)).1.f = d.f ∧ (packGo l (d, w)).1.rows.length = d.rows.length + l.length ∧ (0 ≤ (packGo l (d, w)).2 ∧ (packGo l (d, w)).2 < W.length) ∧
      at0 W (packGo l (d, w)).2 = l.foldl (fun a b => (2 * a + at0 V b) % fP d.f) (at0 V w)
  | [], d, V, w, h, _, _, hf, _, _ => ⟨V, h, List.prefix_refl _, rfl, rfl, rfl, hf, rfl⟩
  | b :: l, d, V, w, h, h2, hl, hf, hr, hn => by
    simp only [List.length_cons] at hr hn
    have hb := hl b (by simp)
    obtain ⟨e1, e2, e3, h1⟩ := h.linear (x := 2) (y := 1) (z := 0) hf hb (by omega) (by omega) (by omega) (by omega) (by omega)
    have hlen := h.len
    have hlen1 := h1.len
    generalize hval : (2 * at0 V w + 1 * at0 V b + 0) % fP d.f = val at h1 hlen1
    have hval' : (2 * at0 V w + at0 V b) % fP d.f = val := by rw [← hval, Int.one_mul, Int.add_zero]
    have hVl : (V ++ [val]).length = V.length + 1 := by simp
    obtain ⟨W, g1, g2, g3, g4, g5, g6, g7⟩ := Sm.packs l h1 (w := (mLinear d w b 2 1 0).2) (by rw [e2]; exact h2) (fun x hx => by have := hl x (by simp [hx]); rw [hVl]; omega) (by rw [e1, hVl]; omega) (by omega) (by omega)
    rw [packGo]
    have ep : ((mLinear d w b 2 1 0).1, (mLinear d w b 2 1 0).2) = mLinear d w b 2 1 0 := rfl
    rw [ep] at g1 g4 g5 g6 g7
    refine ⟨W, g1, (List.prefix_append _ _).trans g2, by rw [g3, hVl, List.length_cons]; omega, g4.trans e2, by rw [g5, e3, List.length_cons]; omega, g6, ?_⟩
    rw [g7, e1, e2, List.foldl_cons, hval']
    have el : at0 (V ++ [val]) (V.length : Nat) = val := at0_last (W := [])
    rw [el]
    have hfun : ∀ (l' : List Int) (a : Int), (∀ x ∈ l', 0 ≤ x ∧ x < V.length) → l'.foldl (fun a b' => (2 * a + at0 (V ++ [val]) b') % fP d.f) a = l'.foldl (fun a b => (2 * a + at0 V b) % fP d.f) a := by
      intro l'
      induction l' with
      | nil => intro a _; rfl
      | cons x l' ih =>
        intro a hx
        rw [List.foldl_cons, List.foldl_cons, at0_app (hx x (by simp)).1 (hx x (by simp)).2]
        exact ih _ fun y hy => hx y (by simp [hy])
    exact hfun l _ fun x hx => hl x (by simp [hx])

theorem undo_ok {d : Bd} (he : d.e = 0) (r : Nat) (nv : Int) : mUndo d r nv = d := by
  unfold mUndo
  rw [if_neg (by simpa using he)]

theorem Sm.pack (h : Sm xs d V c) (h2 : 2 < fP d.f) {bits : List Int} (hl : ∀ b ∈ bits, 0 ≤ b ∧ b < V.length) (hr : d.rows.length + bits.length < 8000) (hn : d.nv + bits.length < 40000) :
    ∃ W, Sm xs (mPack d bits).1 W c ∧ V <+: W ∧ W.length = V.length + bits.length + 1 ∧ (mPack d bits).1.f = d.f ∧ (mPack d bits).1.rows.length = d.rows.length + bits.length + 1 ∧ (0 ≤ (mPack d bits).2 ∧ (mPack d bits).2 < W.length) ∧
      at0 W (mPack d bits).2 = bits.reverse.foldl (fun a b => (2 * a + at0 V b) % fP d.f) 0 := by
  have hlen := h.len
  obtain ⟨e1, e2, e3, h1⟩ := h.const (x := 0) (by omega) (by omega) (by omega)
  have hlen1 := h1.len
  have hVl : (V ++ [(0 : Int)]).length = V.length + 1 := by simp
  obtain ⟨W, g1, g2, g3, g4, g5, g6, g7⟩ := Sm.packs bits.reverse h1 (w := (mConst d 0).2) (by rw [e2]; exact h2) (fun x hx => by have := hl x (List.mem_reverse.1 hx); rw [hVl]; omega) (by rw [e1, hVl]; omega) (by rw [List.length_reverse]; omega) (by rw [List.length_reverse]; omega)
  have ep : ((mConst d 0).1, (mConst d 0).2) = mConst d 0 := rfl
  rw [ep] at g1 g4 g5 g6 g7
  rw [List.length_reverse] at g3 g5
  have em : mPack d bits = ((packGo bits.reverse (mConst d 0)).1, (packGo bits.reverse (mConst d 0)).2) := by
    unfold mPack
    rw [h.kn hl, nums_t (by simp), Bool.and_true, mready_t h.e, if_pos rfl, undo_ok g1.e]
  rw [em]
  refine ⟨W, g1, (List.prefix_append _ _).trans g2, by rw [g3, hVl]; omega, g4.trans e2, by show (packGo bits.reverse (mConst d 0)).1.rows.length = _; rw [g5, e3]; omega, g6, ?_⟩
  show at0 W (packGo bits.reverse (mConst d 0)).2 = _
  rw [g7, e1, e2]
  have el : at0 (V ++ [(0 : Int)]) (V.length : Nat) = 0 := at0_last (W := [])
  rw [el]
  have hfun : ∀ (l' : List Int) (a : Int), (∀ x ∈ l', 0 ≤ x ∧ x < V.length) → l'.foldl (fun a b' => (2 * a + at0 (V ++ [(0 : Int)]) b') % fP d.f) a = l'.foldl (fun a b => (2 * a + at0 V b) % fP d.f) a := by
    intro l'
    induction l' with
    | nil => intro a _; rfl
    | cons x l' ih =>
      intro a hx
      rw [List.foldl_cons, List.foldl_cons, at0_app (hx x (by simp)).1 (hx x (by simp)).2]
      exact ih _ fun y hy => hx y (by simp [hy])
  exact hfun _ _ fun x hx => hl x (List.mem_reverse.1 hx)

/-- Canonical asks that not all of the bits from 26 on are 1, nor all but bit 26 and any of the lower ones. -/
theorem Sm.canonical (h : Sm xs d V c) (h3 : d.f = 3) {bits : List Int} (hb : bits.length = 30) (hl : ∀ b ∈ bits, 0 ≤ b ∧ b < V.length) (hr : d.rows.length < 7000) (hn : d.nv < 30000) :
    ∃ W p m, Sm xs (mCanonical d bits) W ((c ∧ p = 0) ∧ m = 0) ∧ (mCanonical d bits).rows.length = d.rows.length + 37 ∧
      p = (bits.drop 27).foldl (fun a b => a * at0 V b % fP 3) (at0 V (at0 bits 26)) ∧
      m = ([at0 V (at0 bits 24), at0 V (at0 bits 25), ((fP 3 - 1) * at0 V (at0 bits 26) + 1) % fP 3, at0 V (at0 bits 27), at0 V (at0 bits 28), at0 V (at0 bits 29)].foldl (fun a b => a * b % fP 3) (at0 V (at0 bits 23))) * ((bits.take 23).reverse.foldl (fun a b => (2 * a + at0 V b) % fP 3) 0) % fP 3 := by
  have hlen := h.len
  have hbit : ∀ k : Int, 0 ≤ k → k < 30 → 0 ≤ at0 bits k ∧ at0 bits k < V.length := fun k h0 hk => hl _ (List.mem_of_getElem? (at0_get h0 (by omega)))
  have b23 := hbit 23 (by decide) (by decide)
  have b24 := hbit 24 (by decide) (by decide)
  have b25 := hbit 25 (by decide) (by decide)
  have b26 := hbit 26 (by decide) (by decide)
  have b27 := hbit 27 (by decide) (by decide)
  have b28 := hbit 28 (by decide) (by decide)
  have b29 := hbit 29 (by decide) (by decide)
  have hdl : (bits.drop 27).length = 3 := by rw [List.length_drop, hb]
  have htl : (bits.take 23).length = 23 := by rw [List.length_take, hb]; rfl
  obtain ⟨W1, s1, p1, l1, f1, r1, v1, e1⟩ := h.prod (bits.drop 27) (first := at0 bits 26) (fun b hb' => hl b (List.mem_of_mem_drop hb')) b26 (by omega) (by omega)
  have s1l := s1.len
  obtain ⟨f2, r2, s2⟩ := s1.zero v1 (by omega)
  have s2l := s2.len
  have up1 : ∀ {u : Int}, 0 ≤ u ∧ u < V.length → 0 ≤ u ∧ u < W1.length := fun hu => by omega
  have hf2 : (mZero (prodGo (bits.drop 27) (d, at0 bits 26)).1 (prodGo (bits.drop 27) (d, at0 bits 26)).2).f = 3 := by rw [f2, f1, h3]
  have hfp : fP (3 : Int) = 998244353 := rfl
  obtain ⟨e4, f4, r4, s4⟩ := s2.linear (u := at0 bits 26) (v := at0 bits 26) (x := fP (mZero (prodGo (bits.drop 27) (d, at0 bits 26)).1 (prodGo (bits.drop 27) (d, at0 bits 26)).2).f - 1) (y := 0) (z := 1) (up1 b26) (up1 b26) (by rw [hf2, hfp]; decide) (by rw [hf2, hfp]; decide) (by rw [hf2, hfp]; decide) (by omega) (by omega)
  generalize hd2 : mZero (prodGo (bits.drop 27) (d, at0 bits 26)).1 (prodGo (bits.drop 27) (d, at0 bits 26)).2 = d2 at *
  generalize hnt : mLinear d2 (at0 bits 26) (at0 bits 26) (fP d2.f - 1) 0 1 = nt at *
  rw [hf2] at s4
  have hW2l : (W1 ++ [((fP 3 - 1) * at0 W1 (at0 bits 26) + 0 * at0 W1 (at0 bits 26) + 1) % fP 3]).length = W1.length + 1 := by simp
  generalize hW2 : W1 ++ [((fP 3 - 1) * at0 W1 (at0 bits 26) + 0 * at0 W1 (at0 bits 26) + 1) % fP 3] = W2 at s4 hW2l
  have s4l := s4.len
  have p2 : V <+: W2 := by rw [← hW2]; exact p1.trans (List.prefix_append _ _)
  have up2 : ∀ {u : Int}, 0 ≤ u ∧ u < V.length → 0 ≤ u ∧ u < W2.length := fun hu => by omega
  have hnt0 : 0 ≤ nt.2 ∧ nt.2 < W2.length := by rw [e4]; omega
  obtain ⟨W3, s5, p3, l3, f5, r5, v5, e5⟩ := s4.prod [at0 bits 24, at0 bits 25, nt.2, at0 bits 27, at0 bits 28, at0 bits 29] (first := at0 bits 23) (fun b hb' => by
    simp only [List.mem_cons, List.not_mem_nil, or_false] at hb'
    rcases hb' with rfl | rfl | rfl | rfl | rfl | rfl
    · exact up2 b24
    · exact up2 b25
    · exact hnt0
    · exact up2 b27
    · exact up2 b28
    · exact up2 b29) (up2 b23) (by simp only [List.length_cons, List.length_nil]; omega) (by simp only [List.length_cons, List.length_nil]; omega)
  simp only [List.length_cons, List.length_nil] at l3 r5
  have s5l := s5.len
  generalize htop : prodGo [at0 bits 24, at0 bits 25, nt.2, at0 bits 27, at0 bits 28, at0 bits 29] (nt.1, at0 bits 23) = top at *
  have hf5 : top.1.f = 3 := by rw [f5, f4, hf2]
  have p3' : V <+: W3 := p2.trans p3
  have up3 : ∀ {u : Int}, 0 ≤ u ∧ u < V.length → 0 ≤ u ∧ u < W3.length := fun hu => by omega
  obtain ⟨W4, s6, p4, l4, f6, r6, v6, e6⟩ := s5.pack (by rw [hf5, hfp]; decide) (bits := bits.take 23) (fun b hb' => up3 (hl b (List.mem_of_mem_take hb'))) (by omega) (by omega)
  have s6l := s6.len
  generalize hpk : mPack top.1 (bits.take 23) = pk at *
  have hf6 : pk.1.f = 3 := f6.trans hf5
  have v5' : 0 ≤ top.2 ∧ top.2 < W4.length := by omega
  obtain ⟨e7, f7, r7, s7⟩ := s6.mul v5' v6 (by omega) (by omega)
  have s7l := s7.len
  generalize hm : mMul pk.1 top.2 pk.2 = m at *
  rw [hf6] at s7
  have hW5l : (W4 ++ [at0 W4 top.2 * at0 W4 pk.2 % fP 3]).length = W4.length + 1 := by simp
  obtain ⟨f8, r8, s8⟩ := s7.zero (u := m.2) (by rw [e7, hW5l]; omega) (by omega)
  have hcan : mCan d bits = mZero m.1 m.2 := by
    unfold mCan
    have hx : bits.drop 27 = bits.drop 27 := rfl
    simp only [hd2, hnt, htop, hpk, hm]
  have hcok : canOk d bits = true := by
    unfold canOk
    rw [h.kn hl]
    simp [h.e, h3, hb]
  have hC : mCanonical d bits = mZero m.1 m.2 := by
    unfold mCanonical
    rw [hcok, nums_t (by simp), Bool.and_true, mready_t h.e, if_pos rfl, undo_ok (by rw [hcan]; exact s8.e), hcan]
  rw [hC]
  refine ⟨_, _, _, s8, by omega, ?_, ?_⟩
  · rw [e1, h3]
  · rw [e7]
    have el : at0 (W4 ++ [at0 W4 top.2 * at0 W4 pk.2 % fP 3]) (W4.length : Nat) = at0 W4 top.2 * at0 W4 pk.2 % fP 3 := at0_last (W := [])
    rw [el, at0_pre p4 v5, e5, e6, hf5, f4, hf2]
    have hn2 : at0 W2 nt.2 = ((fP 3 - 1) * at0 V (at0 bits 26) + 1) % fP 3 := by
      rw [e4, ← hW2]
      have : at0 (W1 ++ [((fP 3 - 1) * at0 W1 (at0 bits 26) + 0 * at0 W1 (at0 bits 26) + 1) % fP 3]) (W1.length : Nat) = _ := at0_last (W := [])
      rw [this, at0_pre p1 b26, Int.zero_mul, Int.add_zero]
    have hfold : (bits.take 23).reverse.foldl (fun a b => (2 * a + at0 W3 b) % fP 3) 0 = (bits.take 23).reverse.foldl (fun a b => (2 * a + at0 V b) % fP 3) 0 := by
      have hfun : ∀ (l' : List Int) (a : Int), (∀ x ∈ l', 0 ≤ x ∧ x < V.length) → l'.foldl (fun a b' => (2 * a + at0 W3 b') % fP 3) a = l'.foldl (fun a b => (2 * a + at0 V b) % fP 3) a := by
        intro l'
        induction l' with
        | nil => intro a _; rfl
        | cons x l' ih =>
          intro a hx
          rw [List.foldl_cons, List.foldl_cons, at0_pre p3' (hx x (by simp))]
          exact ih _ fun y hy => hx y (by simp [hy])
      exact hfun _ _ fun x hx => hl x (List.mem_of_mem_take (List.mem_reverse.1 hx))
    rw [hfold]
    simp only [List.foldl_cons, List.foldl_nil]
    rw [at0_pre p2 b23, at0_pre p2 b24, at0_pre p2 b25, at0_pre p2 b27, at0_pre p2 b28, at0_pre p2 b29, hn2]

end
end Go.VE
/- CircuitCanonical: the plain law. -/
namespace Go.VE
open Go Go.Proofs
set_option maxRecDepth 20000
def pF (b26 b27 b28 b29 : Int) : Int := b26 * b27 % 998244353 * b28 % 998244353 * b29 % 998244353
def tF (b23 b24 b25 b26 b27 b28 b29 : Int) : Int := b23 * b24 % 998244353 * b25 % 998244353 * ((998244352 * b26 + 1) % 998244353) % 998244353 * b27 % 998244353 * b28 % 998244353 * b29 % 998244353

theorem pF_eq : ∀ b26 ∈ [(0 : Int), 1], ∀ b27 ∈ [(0 : Int), 1], ∀ b28 ∈ [(0 : Int), 1], ∀ b29 ∈ [(0 : Int), 1], pF b26 b27 b28 b29 = if b26 = 1 ∧ b27 = 1 ∧ b28 = 1 ∧ b29 = 1 then 1 else 0 := by decide +kernel
theorem tF_eq : ∀ b23 ∈ [(0 : Int), 1], ∀ b24 ∈ [(0 : Int), 1], ∀ b25 ∈ [(0 : Int), 1], ∀ b26 ∈ [(0 : Int), 1], ∀ b27 ∈ [(0 : Int), 1], ∀ b28 ∈ [(0 : Int), 1], ∀ b29 ∈ [(0 : Int), 1],
    tF b23 b24 b25 b26 b27 b28 b29 = if b23 = 1 ∧ b24 = 1 ∧ b25 = 1 ∧ b26 = 0 ∧ b27 = 1 ∧ b28 = 1 ∧ b29 = 1 then 1 else 0 := by decide +kernel

theorem bit_step {n : Int} {k : Nat} (hk : k < 23) : (2 * (n % 8388608 / 2 ^ (k + 1)) + bitAt n k) % 998244353 = n % 8388608 / 2 ^ k := by
  unfold bitAt
  have h : k = 0 ∨ k = 1 ∨ k = 2 ∨ k = 3 ∨ k = 4 ∨ k = 5 ∨ k = 6 ∨ k = 7 ∨ k = 8 ∨ k = 9 ∨ k = 10 ∨ k = 11 ∨ k = 12 ∨ k = 13 ∨ k = 14 ∨ k = 15 ∨ k = 16 ∨ k = 17 ∨ k = 18 ∨ k = 19 ∨ k = 20 ∨ k = 21 ∨ k = 22 := by omega
  rcases h with rfl | rfl | rfl | rfl | rfl | rfl | rfl | rfl | rfl | rfl | rfl | rfl | rfl | rfl | rfl | rfl | rfl | rfl | rfl | rfl | rfl | rfl | rfl <;> simp only [Nat.reduceAdd, Int.reducePow] <;> omega

theorem fold_bits {n : Int} (V : List Int) (hV : ∀ k : Nat, k < 30 → at0 V k = bitAt n k) : ∀ k : Nat, k ≤ 23 → (upTo 0 k).reverse.foldl (fun a b => (2 * a + at0 V b) % 998244353) (n % 8388608 / 2 ^ k) = n % 8388608
  | 0, _ => by simp [upTo]
  | k + 1, h => by
    have e : (upTo 0 (k + 1)).reverse = (0 + (k : Int)) :: (upTo 0 k).reverse := by simp [upTo, List.range_succ]
    rw [e, List.foldl_cons, Int.zero_add, hV k (by omega), bit_step (by omega)]
    exact fold_bits V hV k (by omega)

theorem inL_len (n : Int) : (inL n).length = 30 := by simp [inL]
theorem inL_at (n : Int) {k : Nat} (hk : k < 30) : at0 (inL n) k = bitAt n k := by
  unfold at0 inL
  rw [Int.toNat_natCast, List.getElem?_map, List.getElem?_range hk]; rfl

theorem can_plain {n : Int} (h0 : 0 ≤ n) : canD.e = 0 ∧ 0 < canD.rows.length ∧ (∀ r ∈ canD.rows, r.Nn) ∧ runOk canD.gp [] (inL n) ∧ okM canD.gp (runV canD.gp [] (inL n)).1 canD.rows.length = decide (n % 2 ^ 30 < 998244353) := by
  have hfp : fP (3 : Int) = 998244353 := rfl
  have hb : ∀ k : Nat, bitAt n k ∈ [(0 : Int), 1] := fun k => by
    unfold bitAt
    simp only [List.mem_cons, List.not_mem_nil, or_false]
    omega
  have hstart := Sm.start (xs := inL n) (f := 3) rfl (by rw [inL_len]; decide) (fun x hx => by
    obtain ⟨i, _, rfl⟩ := List.mem_map.1 hx
    have := hb i
    simp only [List.mem_cons, List.not_mem_nil, or_false] at this
    rw [hfp]
    omega)
  rw [inL_len] at hstart
  obtain ⟨W, p, m, hs, hr, hp, hm⟩ := hstart.canonical rfl (bits := upTo 0 30) (by simp [upTo]) (fun b hb' => by
    obtain ⟨i, hi, rfl⟩ := List.mem_map.1 hb'
    have := List.mem_range.1 hi
    rw [inL_len]
    omega) (by decide) (by decide)
  have hc : mCanonical ⟨3, ((30 : Nat) : Int), 0, ((30 : Nat) : Int), [], 0⟩ (upTo 0 30) = canD := rfl
  rw [hc] at hs hr
  obtain ⟨k1, k2, k3⟩ := hs.done
  refine ⟨hs.e, by rw [hr]; exact Nat.succ_pos _, hs.nn, k1, ?_⟩
  have hat : ∀ k : Nat, k < 30 → at0 (inL n) k = bitAt n k := fun k hk => inL_at n hk
  have e26 : at0 (inL n) 26 = bitAt n 26 := hat 26 (by decide)
  have e23 : at0 (inL n) 23 = bitAt n 23 := hat 23 (by decide)
  have e24 : at0 (inL n) 24 = bitAt n 24 := hat 24 (by decide)
  have e25 : at0 (inL n) 25 = bitAt n 25 := hat 25 (by decide)
  have e27 : at0 (inL n) 27 = bitAt n 27 := hat 27 (by decide)
  have e28 : at0 (inL n) 28 = bitAt n 28 := hat 28 (by decide)
  have e29 : at0 (inL n) 29 = bitAt n 29 := hat 29 (by decide)
  have hpe : p = pF (bitAt n 26) (bitAt n 27) (bitAt n 28) (bitAt n 29) := by
    rw [hp]
    have : (upTo 0 30).drop 27 = [27, 28, 29] := by decide
    rw [this, show at0 (upTo 0 30) 26 = 26 by decide, hfp]
    simp only [List.foldl_cons, List.foldl_nil]
    rw [e26, e27, e28, e29]
    rfl
  have hl : ((upTo 0 30).take 23).reverse.foldl (fun a b => (2 * a + at0 (inL n) b) % 998244353) 0 = n % 8388608 := by
    have : (upTo 0 30).take 23 = upTo 0 23 := by decide
    rw [this]
    have hz : (0 : Int) = n % 8388608 / 2 ^ 23 := by
      rw [show ((2 : Int) ^ 23) = 8388608 by decide]; omega
    have h1 := fold_bits (inL n) hat 23 (Nat.le_refl _)
    rw [← hz] at h1
    exact h1
  have hme : m = tF (bitAt n 23) (bitAt n 24) (bitAt n 25) (bitAt n 26) (bitAt n 27) (bitAt n 28) (bitAt n 29) * (n % 8388608) % 998244353 := by
    rw [hm, hfp, hl, show at0 (upTo 0 30) 26 = 26 by decide, show at0 (upTo 0 30) 23 = 23 by decide, show at0 (upTo 0 30) 24 = 24 by decide, show at0 (upTo 0 30) 25 = 25 by decide, show at0 (upTo 0 30) 27 = 27 by decide, show at0 (upTo 0 30) 28 = 28 by decide, show at0 (upTo 0 30) 29 = 29 by decide]
    simp only [List.foldl_cons, List.foldl_nil]
    rw [e23, e24, e25, e26, e27, e28, e29]
    rfl
  rw [Bool.eq_iff_iff, k3, decide_eq_true_eq, hpe, hme, pF_eq _ (hb 26) _ (hb 27) _ (hb 28) _ (hb 29), tF_eq _ (hb 23) _ (hb 24) _ (hb 25) _ (hb 26) _ (hb 27) _ (hb 28) _ (hb 29)]
  have d23 : bitAt n 23 = n / 8388608 % 2 := rfl
  have d24 : bitAt n 24 = n / 16777216 % 2 := rfl
  have d25 : bitAt n 25 = n / 33554432 % 2 := rfl
  have d26 : bitAt n 26 = n / 67108864 % 2 := rfl
  have d27 : bitAt n 27 = n / 134217728 % 2 := rfl
  have d28 : bitAt n 28 = n / 268435456 % 2 := rfl
  have d29 : bitAt n 29 = n / 536870912 % 2 := rfl
  rw [show ((2 : Int) ^ 30) = 1073741824 by decide]
  generalize bitAt n 23 = b23 at *
  generalize bitAt n 24 = b24 at *
  generalize bitAt n 25 = b25 at *
  generalize bitAt n 26 = b26 at *
  generalize bitAt n 27 = b27 at *
  generalize bitAt n 28 = b28 at *
  generalize bitAt n 29 = b29 at *
  have hL : 0 ≤ n % 8388608 ∧ n % 8388608 < 8388608 := by omega
  have hn : n % 1073741824 = b29 * 536870912 + b28 * 268435456 + b27 * 134217728 + b26 * 67108864 + b25 * 33554432 + b24 * 16777216 + b23 * 8388608 + n % 8388608 := by omega
  have q23 : b23 = 0 ∨ b23 = 1 := by omega
  have q24 : b24 = 0 ∨ b24 = 1 := by omega
  have q25 : b25 = 0 ∨ b25 = 1 := by omega
  have q26 : b26 = 0 ∨ b26 = 1 := by omega
  have q27 : b27 = 0 ∨ b27 = 1 := by omega
  have q28 : b28 = 0 ∨ b28 = 1 := by omega
  have q29 : b29 = 0 ∨ b29 = 1 := by omega
  rw [hn]
  generalize n % 8388608 = L at *
  clear d23 d24 d25 d26 d27 d28 d29 hn hl hme hpe hm hp k1 k2 k3 hs hstart hat e23 e24 e25 e26 e27 e28 e29 hb
  constructor
  · rintro ⟨⟨_, h1⟩, h2⟩
    split at h1
    · cases h1
    · rename_i hx
      split at h2
      · rw [Int.one_mul, Int.emod_eq_of_lt hL.1 (by omega)] at h2
        omega
      · omega
  · intro h
    refine ⟨⟨trivial, ?_⟩, ?_⟩
    · split
      · omega
      · rfl
    · split
      · rw [Int.one_mul, Int.emod_eq_of_lt hL.1 (by omega)]
        omega
      · simp

end Go.VE
/- CircuitCanonical at every start. -/
namespace Go.VE
open Go Go.Proofs
set_option maxRecDepth 20000
/-- The first block is the table of the fields. -/
def fieldsB (l : List AO) : Bool :=
  match (l[0]? : Option AO) with
  | some (AO.cells c _ _) => (match c with
    | [a0, a1, a2, a3, .slice x0 n0 c0, a5, a6, a7, a8, .slice x1 n1 c1, a10, a11, a12, a13, .slice x2 n2 c2, a15, a16, a17, a18, .slice x3 n3 c3] =>
      veqL [a0, a1, a2, a3, a5, a6, a7, a8, a10, a11, a12, a13, a15, a16, a17, a18] [.int .u64 97, .int .u64 5, .int .i64 5, .int .i64 5, .int .u64 257, .int .u64 3, .int .i64 8, .int .i64 3, .int .u64 12289, .int .u64 11, .int .i64 12, .int .i64 5, .int .u64 998244353, .int .u64 3, .int .i64 23, .int .i64 3]
    | _ => false)
  | _ => false

theorem fieldsB_spec {l : List AO} (h : fieldsB l = true) {s : St} (hs : ∀ i, i < l.length → s.at i = l[i]?) : FieldsAt s := by
  unfold fieldsB at h
  split at h
  · rename_i c t o h0
    split at h
    · rename_i a0 a1 a2 a3 x0 n0 c0 a5 a6 a7 a8 x1 n1 c1 a10 a11 a12 a13 x2 n2 c2 a15 a16 a17 a18 x3 n3 c3
      have e := veqL_eq _ _ h
      simp only [List.cons.injEq, and_true] at e
      obtain ⟨rfl, rfl, rfl, rfl, rfl, rfl, rfl, rfl, rfl, rfl, rfl, rfl, rfl, rfl, rfl, rfl⟩ := e
      have hl : 0 < l.length := (List.getElem?_eq_some_iff.1 h0).1
      exact ⟨x0, x1, x2, x3, n0, n1, n2, n3, c0, c1, c2, c3, t, o, (hs 0 hl).trans h0⟩
    · cases h
  · cases h

/-- What is asked of the start. -/
noncomputable def startB (laid : List (String × DataW Unit)) : Bool :=
  match absLaid P 30 laid P.globals.size with
  | some x => lastIn P.globals.size x.1 && fieldsB (absHeap P.globals.size x)
  | none => false

theorem law_runs' {f : Nat} {fid : FuncId} {ts : List TypeId} {laid : List (String × DataW Unit)} (h : startB laid = true)
    (run : ∀ (s : St) (al : List Value), Wf s → FieldsAt s → 0 < s.n → Args P f ts al s → CallWP P s.n fid al s fun v _ => v = .bool true) : LawRuns P 30 f fid ts laid := by
  unfold startB at h
  refine law_runs ?_ fun gs bl hx s al hw _ hs hl ha => ?_
  · split at h
    · rename_i x hx
      rw [hx]
      simp only [Bool.and_eq_true] at h
      exact h.1
    · cases h
  · rw [hx] at h
    simp only [Bool.and_eq_true] at h
    have hF := fieldsB_spec h.2 hs
    exact run s al hw hF hF.lt ha

theorem can_args {al : List Value} {s : St} (h : Args P 8 [22] al s) : ∃ n, al = [.int .u32 n] ∧ (0 ≤ n ∧ n < 2 ^ 32) := by
  obtain ⟨v, r, a, rfl, hv, hm, rfl⟩ := h
  rw [av_22] at hv
  subst hv
  rw [me_22] at hm
  obtain ⟨n, e, hn⟩ := hm
  simp only [List.cons.injEq, and_true] at e
  subst e
  exact ⟨n, rfl, wf_u32 hn⟩

theorem can_runs (laid : List (String × DataW Unit)) (h : startB laid = true) : LawRuns P 30 8 3 [22] laid :=
  law_runs' h fun s al hw hF h0 ha => by
    obtain ⟨n, rfl, hn⟩ := can_args ha
    obtain ⟨k1, k2, k3, k4, k5⟩ := can_plain hn.1
    exact wCan k1 k2 k3 hn.1 hn.2 ⟨k4, k5⟩ hw hF (Nat.le_refl _) h0

end Go.VE
