/-
  What the functions compute.
-/
import Derived.Test.YtkadjemloffhnaaDoorWk2
set_option linter.unusedSimpArgs false
set_option linter.unusedVariables false
/- GatesFunction at every start. -/
namespace Go.VE
open Go Go.Proofs
set_option maxRecDepth 20000
section
variable {ro : Nat} {s : St} {K : Value → St → Prop}
theorem okM_step (g : Gp) (V : List Int) (i : Nat) : okM g V (i + 1) = (okM g V i && holdsR g.f (rowAt g.rows i) (nxt g.rows i) V) := rfl
theorem gfTail {g : Gp} (hnn : ∀ r ∈ g.rows, r.Nn) {s s2 : St} {ur v2 : Value} {out : List Int} {G : Nat} (hG2 : s2.at G = some (.cells (g.cells ur) 24 false)) (hr2 : RowsS s2 ur g.rows) (wf2 : Wf s2) (hro2 : ro ≤ s2.n) (hF2 : FieldsAt s2) (hr0 : 0 < ro) (hv2 : U64s s2 v2 out) (hlo : (out.length : Int) = g.nv) (hbo : below g.f out = true) (ho0 : ∀ x ∈ out, 0 ≤ x) (c2 : validM g = true) (hol : out.length < 2 ^ 60) (hlen : g.rows.length < 2 ^ 60)
    {τ : Tau} (t2 : τ 2 = ptr G) (t9 : τ 9 = v2) (t10 : τ 10 = .bool (okM g out g.rows.length)) :
    xp (prims P ro) none 126 k4 c4_1111111 [1, 1, 1, 1, 1, 1, 1] τ [] [] s2 (xleave (prims P ro) s Tryd.f4.results.toList fun v x => v = Value.bool true) := by
  rw [n4_1111111]
  unfold v4_1111111
  have hG := acells_some hG2
  have live : ∀ {s : St} {K : Value → St → Prop}, CallWP P ro 9 [] s K = K (.bool true) s := fun {s K} => wLiv
  have hgl : ∀ s' K, wop P ro (.call ⟨.builtin .len, ⟨[.const ur]⟩, #[22]⟩) 3 s' K = K (.int .i64 (g.rows.length : Nat)) s' := fun s' K => Sl.wlen hr2 se_22 _ K
  simp (maxSteps := 10000000) only [wW, reduceCtorEq, Nat.reduceEqDiff]
  refine wloop l4_111111110100 m4_111111110100 (fun (i : Nat) τ' ds s' => i ≤ g.rows.length ∧ τ' 2 = ptr G ∧ τ' 9 = v2 ∧ τ' 10 = .bool (okM g out g.rows.length) ∧ τ' 12 = .bool (okM g out i) ∧ τ' 13 = .int .i64 i ∧ ds = [] ∧ s' = s2) (fun i => g.rows.length - i) ?_ 0 ⟨by omega, ?_, ?_, ?_, rfl, rfl, rfl, rfl⟩
  · rintro i τ' ds s' ⟨hi, a2, a9, a10, a12, a13, rfl, rfl⟩
    rw [n4_111111110100]
    unfold v4_111111110100
    by_cases hlt : i < g.rows.length
    · simp (maxSteps := 10000000) only [wW, reduceCtorEq, Nat.reduceEqDiff, wL, Nat.reduceAdd, a2, a9, a12, a13, hG, hgl]
      rw [if_pos (by omega)]
      show CallWP P ro 10 [.agg (.mk (g.cells ur)), v2, .int .i64 (i : Int)] s' _
      rw [wGHolds g hnn (i : Int) wf2 hro2 hF2 hr0 hr2 hv2 ho0 hol hlen]
      unfold holdsM
      rw [if_pos ⟨c2, hlo, hbo, by omega, by omega⟩]
      simp (maxSteps := 10000000) only [wW, reduceCtorEq, Nat.reduceEqDiff, wop_extract, List.getElem?_cons_zero, List.getElem?_cons_succ, wopt_some, Int.toNat_natCast]
      rw [if_neg (by decide), wrap_i64 (by omega) (by omega)]
      have hst := okM_step g out i
      cases hok : okM g out i with
      | true =>
        rw [hok, Bool.true_and] at hst
        rw [if_pos rfl]
        refine ⟨i + 1, by omega, by omega, ?_, ?_, ?_, ?_, ?_, trivial, by first | trivial | rfl⟩
        · simp only [U, tset_eq, wW, reduceCtorEq, Nat.reduceEqDiff, a2]
        · simp only [U, tset_eq, wW, reduceCtorEq, Nat.reduceEqDiff, a9]
        · simp only [U, tset_eq, wW, reduceCtorEq, Nat.reduceEqDiff, a10]
        · simp only [U, tset_eq, wW, reduceCtorEq, Nat.reduceEqDiff, hst]
        · simp only [U, tset_eq, wW, reduceCtorEq, Nat.reduceEqDiff]; rfl
      | false =>
        rw [hok, Bool.false_and] at hst
        rw [if_neg (by decide)]
        refine ⟨i + 1, by omega, by omega, ?_, ?_, ?_, ?_, ?_, trivial, by first | trivial | rfl⟩
        · simp only [U, tset_eq, wW, reduceCtorEq, Nat.reduceEqDiff, a2]
        · simp only [U, tset_eq, wW, reduceCtorEq, Nat.reduceEqDiff, a9]
        · simp only [U, tset_eq, wW, reduceCtorEq, Nat.reduceEqDiff, a10]
        · simp only [U, tset_eq, wW, reduceCtorEq, Nat.reduceEqDiff, hst]
        · simp only [U, tset_eq, wW, reduceCtorEq, Nat.reduceEqDiff]; rfl
    · obtain rfl : i = g.rows.length := by omega
      simp (maxSteps := 10000000) only [wW, reduceCtorEq, Nat.reduceEqDiff, wL, Nat.reduceAdd, a2, a13, hG, hgl]
      rw [if_neg (by omega)]
      have hb : ∀ b : Bool, (b == b) = true := fun b => by cases b <;> rfl
      simp (maxSteps := 10000000) only [U, tset_eq, wW, reduceCtorEq, Nat.reduceEqDiff, a10, a12, bool_eql, hb, live]
      rw [xleave_U, r4]
      simp (maxSteps := 10000000) only [U, tset_eq, wW, reduceCtorEq, Nat.reduceEqDiff]
      exact fin_K fun _ => rfl
  · simp only [U, tset_eq, wW, reduceCtorEq, Nat.reduceEqDiff, t2]
  · simp only [U, tset_eq, wW, reduceCtorEq, Nat.reduceEqDiff, t9]
  · simp only [U, tset_eq, wW, reduceCtorEq, Nat.reduceEqDiff, t10]
theorem wGatesFunction (g : Gp) (hnn : ∀ r ∈ g.rows, r.Nn) {ur u : Value} {V : List Int} (hw : Wf s) (hro : ro ≤ s.n) (hF : FieldsAt s) (hr0 : 0 < ro) (hr : RowsS s ur g.rows) (hu : U64s s u V) (hV0 : ∀ x ∈ V, 0 ≤ x) :
    CallWP P ro 4 [.agg (.mk (g.cells ur)), u] s fun v _ => v = .bool true := by
  refine call_wp b4 rfl ?_
  rw [n4]
  unfold v4
  simp (maxSteps := 10000000) only [wW, reduceCtorEq, Nat.reduceEqDiff]
  refine box_rule hw.ent fun G s1 m1 => ?_
  have e1 := m1.eq
  have n1 := m1.n
  have hn0 : (ent s).n = s.n := rfl
  have hG1 : s1.at G = some (.cells (g.cells ur) 24 false) := m1.here
  have hG := acells_some hG1
  have hF1 : FieldsAt s1 := FieldsAt.grew (s := ent s) hF m1.grew
  have hr1 : RowsS s1 ur g.rows := (Sl.ent hr).grew m1.grew.same
  have hu1 : U64s s1 u V := (Sl.ent hu).grew m1.grew.same
  have live : ∀ {s : St} {K : Value → St → Prop}, CallWP P ro 9 [] s K = K (.bool true) s := fun {s K} => wLiv
  rw [wop_load, load_all ap_24 hG1 rfl, wopt_some, wSmall g m1.wf hr1]
  simp (maxSteps := 10000000) only [wW, reduceCtorEq, Nat.reduceEqDiff, wL, Nat.reduceAdd, hG, live]
  by_cases c1 : g.nv ≤ 300 ∧ g.rows.length ≤ 300
  · rw [if_neg (fun h => h c1)]
    have hlen : g.rows.length < 2 ^ 60 := by omega
    show CallWP P ro 12 [.agg (.mk (g.cells ur))] s1 _
    rw [wValid g m1.wf (by omega) hr1 hlen]
    simp (maxSteps := 10000000) only [wW, reduceCtorEq, Nat.reduceEqDiff, wL, Nat.reduceAdd, hG, live, hu1.wlen se_25]
    by_cases c2 : validM g = true
    · rw [if_neg (by simp [c2])]
      by_cases c3 : (V.length : Int) = g.nv
      · rw [if_neg (by simpa using c3)]
        have hVl : V.length < 2 ^ 60 := by omega
        have hgl : ∀ s' K, wop P ro (.call ⟨.builtin .len, ⟨[.const ur]⟩, #[22]⟩) 3 s' K = K (.int .i64 (g.rows.length : Nat)) s' := fun s' K => Sl.wlen hr1 se_22 _ K
        refine wloop l4_1110100 m4_1110100 (fun (i : Nat) τ ds s' => i ≤ g.rows.length ∧ τ 1 = u ∧ τ 2 = ptr G ∧ τ 5 = .bool (okM g V i) ∧ τ 6 = .int .i64 i ∧ ds = [] ∧ s' = s1 ∧ (i = 0 ∨ below g.f V = true)) (fun i => g.rows.length - i) ?_ 0 ⟨by omega, rfl, rfl, rfl, rfl, rfl, rfl, .inl rfl⟩
        rintro i τ ds s' ⟨hi, t1, t2, t5, t6, rfl, rfl, hbel⟩
        rw [n4_1110100]
        unfold v4_1110100
        by_cases hlt : i < g.rows.length
        · simp (maxSteps := 10000000) only [wW, reduceCtorEq, Nat.reduceEqDiff, wL, Nat.reduceAdd, t1, t2, t5, t6, hG, hgl]
          rw [if_pos (by omega)]
          show CallWP P ro 10 [.agg (.mk (g.cells ur)), u, .int .i64 (i : Int)] s' _
          rw [wGHolds g hnn (i : Int) m1.wf (by omega) hF1 hr0 hr1 hu1 hV0 hVl hlen]
          unfold holdsM
          by_cases hb : below g.f V = true
          · rw [if_pos ⟨c2, c3, hb, by omega, by omega⟩]
            simp (maxSteps := 10000000) only [wW, reduceCtorEq, Nat.reduceEqDiff, wop_extract, List.getElem?_cons_zero, List.getElem?_cons_succ, wopt_some, Int.toNat_natCast]
            rw [if_neg (by decide), wrap_i64 (by omega) (by omega)]
            have hst := okM_step g V i
            cases hok : okM g V i with
            | true =>
              rw [hok, Bool.true_and] at hst
              rw [if_pos rfl]
              refine ⟨i + 1, by omega, by omega, ?_, ?_, ?_, ?_, trivial, by first | trivial | rfl, .inr hb⟩
              · simp only [U, tset_eq, wW, reduceCtorEq, Nat.reduceEqDiff, t1]
              · simp only [U, tset_eq, wW, reduceCtorEq, Nat.reduceEqDiff, t2]
              · simp only [U, tset_eq, wW, reduceCtorEq, Nat.reduceEqDiff, hst]
              · simp only [U, tset_eq, wW, reduceCtorEq, Nat.reduceEqDiff]; rfl
            | false =>
              rw [hok, Bool.false_and] at hst
              rw [if_neg (by decide)]
              refine ⟨i + 1, by omega, by omega, ?_, ?_, ?_, ?_, trivial, by first | trivial | rfl, .inr hb⟩
              · simp only [U, tset_eq, wW, reduceCtorEq, Nat.reduceEqDiff, t1]
              · simp only [U, tset_eq, wW, reduceCtorEq, Nat.reduceEqDiff, t2]
              · simp only [U, tset_eq, wW, reduceCtorEq, Nat.reduceEqDiff, hst]
              · simp only [U, tset_eq, wW, reduceCtorEq, Nat.reduceEqDiff]; rfl
          · rw [if_neg (fun h => hb h.2.2.1)]
            simp (maxSteps := 10000000) only [wW, reduceCtorEq, Nat.reduceEqDiff, wop_extract, List.getElem?_cons_zero, List.getElem?_cons_succ, wopt_some, live]
            rw [if_pos (by decide), r4]
            simp (maxSteps := 10000000) only [U, tset_eq, wW, reduceCtorEq, Nat.reduceEqDiff]
            exact fin_K fun _ => rfl
        · obtain rfl : i = g.rows.length := by omega
          simp (maxSteps := 10000000) only [wW, reduceCtorEq, Nat.reduceEqDiff, wL, Nat.reduceAdd, t2, t6, hG, hgl]
          rw [if_neg (by omega)]
          simp (maxSteps := 10000000) only [U, tset_eq, wW, reduceCtorEq, Nat.reduceEqDiff, wL, Nat.reduceAdd, t1, t2, t5, hG, hgl]
          have hL : Limits g := by
            unfold validM at c2
            rw [Bool.and_eq_true, decide_eq_true_eq] at c2
            exact c2.1
          have p1 := hL.2.1
          have p2 := hL.2.2.2.1
          have p3 := hL.2.2.2.2.2.1
          have hgv := gcVeq g (slVeq hr)
          have hi2 : ∀ z : Int, veq (.int .i64 z) (.int .i64 z) = true := fun z => by simp [veq]
          obtain ⟨w1, hw1, hop1⟩ := slu_front (ro := ro) hu1 (k := g.pub) p1 (by omega)
          obtain ⟨w2, hw2, hop2⟩ := slu_mid (ro := ro) hu1 (a := g.pub) (b := g.pub + g.sec) p1 (by omega) (by omega)
          rw [show (g.pub + g.sec).toNat - g.pub.toNat = g.sec.toNat by omega] at hw2
          refine ⟨hgv, hi2 _, ?_⟩
          rw [hop1]
          simp (maxSteps := 10000000) only [wW, reduceCtorEq, Nat.reduceEqDiff, wL, Nat.reduceAdd, hG, hi2, true_and]
          rw [wrap_i64 (n := g.pub + g.sec) (by omega) (by omega), hop2]
          show CallWP P ro 13 [.agg (.mk (g.cells ur)), w1, w2] s' _
          have hpn : ∀ x ∈ V.take g.pub.toNat, 0 ≤ x := fun x hx => hV0 x (List.mem_of_mem_take hx)
          have hsn : ∀ x ∈ (V.drop g.pub.toNat).take g.sec.toNat, 0 ≤ x := fun x hx => hV0 x (List.mem_of_mem_drop (List.mem_of_mem_take hx))
          refine wGRunW g hnn m1.wf (by omega) hF1 hr0 hr1 hlen hw1 hw2 hpn hsn (fun hbad => ?_) (fun hok v2 s2 g2 hv2 => ?_)
          · simp (maxSteps := 10000000) only [wW, reduceCtorEq, Nat.reduceEqDiff, wL, Nat.reduceAdd, wop_extract, List.getElem?_cons_zero, List.getElem?_cons_succ, wopt_some, hG, hgl, live]
            have hz : g.rows.length = 0 := by
              rcases hbel with h | h
              · exact h
              · refine absurd ⟨c2, ?_, ?_, ?_, ?_⟩ hbad
                · rw [List.length_take]; omega
                · rw [List.length_take, List.length_drop]; omega
                · exact List.all_eq_true.2 fun x hx => List.all_eq_true.1 h x (List.mem_of_mem_take hx)
                · exact List.all_eq_true.2 fun x hx => List.all_eq_true.1 h x (List.mem_of_mem_drop (List.mem_of_mem_take hx))
            rw [if_pos (by decide)]
            rw [if_pos (by omega)]
            exact fin_K fun _ => rfl
          · have hbo := run_below hok hpn hsn
            have hlo : ((runV g (V.take g.pub.toNat) ((V.drop g.pub.toNat).take g.sec.toNat)).1.length : Int) = g.nv := by rw [runV_len]; omega
            have hdet := fun h => run_det hnn c2 hV0 c3 hbel h
            generalize (runV g (V.take g.pub.toNat) ((V.drop g.pub.toNat).take g.sec.toNat)).1 = out at hbo hlo hdet hv2 ⊢
            have n2 := g2.n
            have hG2 : s2.at G = some (.cells (g.cells ur) 24 false) := (g2.same G (by omega)).trans hG1
            have wf2 := m1.wf.grew g2
            have hF2 : FieldsAt s2 := FieldsAt.grew (s := s') hF1 g2
            have tail : ∀ {τ2 : Tau}, τ2 2 = ptr G → τ2 9 = v2 → τ2 10 = .bool (okM g out g.rows.length) → xp (prims P ro) none 126 k4 c4_1111111 [1, 1, 1, 1, 1, 1, 1] τ2 [] [] s2 (xleave (prims P ro) s Tryd.f4.results.toList fun v x => v = Value.bool true) := fun {τ2} b2 b9 b10 => gfTail hnn hG2 (Sl.grew hr1 g2.same) wf2 (by omega) hF2 hr0 hv2 hlo hbo.1 hbo.2 c2 (by omega) hlen b2 b9 b10
            simp (maxSteps := 10000000) only [wW, reduceCtorEq, Nat.reduceEqDiff, wL, Nat.reduceAdd, wop_extract, List.getElem?_cons_zero, List.getElem?_cons_succ, wopt_some]
            rw [if_neg (by decide)]
            by_cases hall : okM g V g.rows.length = true
            · have hout := hdet hall
              subst hout
              rw [if_pos hall, hall]
              simp (maxSteps := 10000000) only [wW, reduceCtorEq, Nat.reduceEqDiff, wEqual hv2 (Sl.grew hu1 g2.same) hVl, decide_true]
              refine tail ?_ ?_ ?_
              · simp only [tset_eq, wW, reduceCtorEq, Nat.reduceEqDiff, t2]
              · simp only [tset_eq, wW, reduceCtorEq, Nat.reduceEqDiff]
              · simp only [tset_eq, wW, reduceCtorEq, Nat.reduceEqDiff, hall]
            · rw [if_neg hall]
              refine tail ?_ ?_ ?_
              · simp only [tset_eq, wW, reduceCtorEq, Nat.reduceEqDiff, t2]
              · simp only [tset_eq, wW, reduceCtorEq, Nat.reduceEqDiff]
              · simp only [tset_eq, wW, reduceCtorEq, Nat.reduceEqDiff]
      · rw [if_pos (by simpa using c3)]
        exact fin_K fun _ => rfl
    · rw [if_pos (by simpa using c2)]
      exact fin_K fun _ => rfl
  · rw [if_pos c1]
    exact fin_K fun _ => rfl
end
theorem gf_args {al : List Value} {s : St} (h : Args P 8 [24, 25] al s) : ∃ (g : Gp) (ur u : Value) (vals : List Int), al = [.agg (.mk (g.cells ur)), u] ∧ RowsS s ur g.rows ∧ (∀ r ∈ g.rows, r.Nn) ∧ U64s s u vals ∧ ∀ x ∈ vals, 0 ≤ x := by
  obtain ⟨v1, r1, a1, rfl, hv1, hm1, v2, r2, a2, rfl, hv2, hm2, rfl⟩ := h
  rw [av_24] at hv1
  subst hv1
  rw [av_25] at hv2
  subst hv2
  obtain ⟨g, ur, rfl, hr, hnn, _⟩ := gates_of hm1
  obtain ⟨u, vals, e2, hu, hpos, _⟩ := u64s_of hm2
  simp only [List.cons.injEq, and_true] at e2
  subst e2
  exact ⟨g, ur, _, vals, rfl, hr, hnn, hu, hpos⟩
theorem gf_runs (laid : List (String × DataW Unit)) (h : startB laid = true) : LawRuns P 30 8 4 [24, 25] laid :=
  law_runs' h fun s al hw hF h0 ha => by
    obtain ⟨g, ur, u, vals, rfl, hr, hnn, hu, hpos⟩ := gf_args ha
    exact wGatesFunction g hnn hw (Nat.le_refl _) hF h0 hr hu hpos
end Go.VE
