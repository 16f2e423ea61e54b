/-
  What the functions compute.
-/
import Derived.Test.YtkadjemloffhnaaDoorWk2
set_option linter.unusedSimpArgs false
set_option linter.unusedVariables false
/- The program's gates: Run's loops. -/
namespace Go.VE
open Go Go.Proofs
set_option maxRecDepth 20000
section
variable {ro : Nat} {K : Value → St → Prop} {g : Gp} {ur : Value} {G A B X Y : Nat}
theorem rgOk {s s2 : St} (hL : Limits g) (hnn : ∀ r ∈ g.rows, r.Nn) (hw : Wf s) (hF : FieldsAt s) (hr0 : 0 < ro) (hlen : g.rows.length < 2 ^ 60) {c : List Int × List Bool} (hI : RgI ro g ur (ent s) G A B X Y s2 c)
    (h1 : ∀ v s', Grew s s' → U64s s' v c.1 → K (.tuple (.mk [v, .bool (okM g c.1 g.rows.length), .int .i64 0])) s')
    {τ : Tau} {Kr : WK} (t3 : τ 3 = ptr G) (t9 : τ 9 = ptr X) (t17 : τ 17 = .bool true) (t146 : τ 146 = .int .i64 g.rows.length) (t147 : τ 147 = .int .i64 0) :
    WLoop P ro 160 none c13_11111111110100 τ [] s2 Kr
      [(7, fun τ50 ds50 s50 => wopt (aload P s50 25 (τ50 9)) fun v => wdefers P ro ds50 s50 fun s52 => wfin s K (Value.tuple { toList := [v, τ50 17, Value.int IntKind.i64 0] }) s52)] := by
  have hrl := hL.2.2.2.2.2.2.2.1
  refine wloop l13_11111111110100 m13_11111111110100 (fun (i : Nat) τ ds s' => i ≤ g.rows.length ∧ τ 3 = ptr G ∧ τ 9 = ptr X ∧ τ 17 = .bool (okM g c.1 i) ∧ τ 146 = .int .i64 g.rows.length ∧ τ 147 = .int .i64 i ∧ ds = [] ∧ s2 = s') (fun i => g.rows.length - i) ?_ 0 ⟨by omega, t3, t9, t17, t146, t147, rfl, rfl⟩
  clear t3 t9 t17 t146 t147
  rintro i τ ds s' ⟨hi, t3, t9, t17, t146, t147, rfl, rfl⟩
  rw [n13_11111111110100]
  unfold v13_11111111110100
  have hXc := acells_some hI.x
  have hRun := hI.run
  by_cases hlt : i < g.rows.length
  · have hl1 := hRun.l1
    have hfit := hL.fit hlt (hnn _ (List.mem_of_getElem? (rowAt_get hlt)))
    have hF2 : FieldsAt s2 := FieldsAt.grew (s := ent s) hF hRun.vv.grew
    have hgn := hRun.vv.grew.n
    have hro := hRun.ro
    simp (maxSteps := 10000000) only [wW, reduceCtorEq, Nat.reduceEqDiff, wL, Nat.reduceAdd, t3, t9, t17, t146, t147, hRun.gc, load1 ap_25, hXc, List.getElem?_cons_zero]
    rw [if_pos (by omega)]
    have hkw : IntKind.i64.wrap ((i : Int) + 1) = ((i + 1 : Nat) : Int) := by rw [wrap_i64 (by omega) (by omega)]; rfl
    cases hok : okM g c.1 i with
    | true =>
      rw [if_pos rfl]
      show CallWP P ro 23 [.agg (.mk (g.cells ur)), slc A g.nv.toNat, .int .i64 i] s2 _
      rw [wGholds g hL.1 hRun.vv.wf (by omega) hF2 hr0 hRun.rs hRun.sl hRun.nn (rowAt_get hlt) hlen (by rw [hl1]; exact hfit) (fun h3 => ⟨(hL.next hlt h3).1, fun k hk4 => by have := (hL.next hlt h3).2 k hk4; rw [nxt_eq]; omega⟩), hkw]
      refine ⟨i + 1, by omega, by omega, ?_, ?_, ?_, ?_, ?_, by first | trivial | rfl, by first | trivial | rfl⟩
      · simp only [U, tset_eq, wW, reduceCtorEq, Nat.reduceEqDiff, t3]
      · simp only [U, tset_eq, wW, reduceCtorEq, Nat.reduceEqDiff, t9]
      · simp only [U, tset_eq, wW, reduceCtorEq, Nat.reduceEqDiff]
        rw [okM, hok, Bool.true_and, nxt_eq]
      · simp only [U, tset_eq, wW, reduceCtorEq, Nat.reduceEqDiff, t146]
      · simp only [U, tset_eq, wW, reduceCtorEq, Nat.reduceEqDiff]
    | false =>
      rw [if_neg (by decide), hkw]
      refine ⟨i + 1, by omega, by omega, ?_, ?_, ?_, ?_, ?_, by first | trivial | rfl, by first | trivial | rfl⟩
      · simp only [U, tset_eq, wW, reduceCtorEq, Nat.reduceEqDiff, t3]
      · simp only [U, tset_eq, wW, reduceCtorEq, Nat.reduceEqDiff, t9]
      · simp only [U, tset_eq, wW, reduceCtorEq, Nat.reduceEqDiff]
        rw [okM, hok, Bool.false_and]
      · simp only [U, tset_eq, wW, reduceCtorEq, Nat.reduceEqDiff, t146]
      · simp only [U, tset_eq, wW, reduceCtorEq, Nat.reduceEqDiff]
  · obtain rfl : i = g.rows.length := by omega
    simp (maxSteps := 10000000) only [wW, reduceCtorEq, Nat.reduceEqDiff, t146, t147]
    rw [if_neg (by omega)]
    simp (maxSteps := 10000000) only [U, tset_eq, wW, reduceCtorEq, Nat.reduceEqDiff, t9, t17, load1 ap_25, hXc, List.getElem?_cons_zero]
    exact wfin_new hw hRun.vv.grew rfl fun s9 hg9 _ hat => h1 _ s9 hg9 (Sl.sameAt hRun.sl fun C o sp n cc e => hat C)
theorem rgRows {s s2 : St} (hL : Limits g) (hnn : ∀ r ∈ g.rows, r.Nn) (hw : Wf s) (hF : FieldsAt s) (hr0 : 0 < ro) (hlen : g.rows.length < 2 ^ 60) (hr : RowsS s ur g.rows) {c0 : List Int × List Bool} (hI : RgI ro g ur (ent s) G A B X Y s2 c0)
    (h1 : ∀ v s', Grew s s' → U64s s' v (it (runR g) g.rows.length c0).1 → K (.tuple (.mk [v, .bool (okM g (it (runR g) g.rows.length c0).1 g.rows.length), .int .i64 0])) s')
    {τ : Tau} {Kr Kr2 : WK} (t3 : τ 3 = ptr G) (t9 : τ 9 = ptr X) (t10 : τ 10 = ptr Y) (t12 : τ 12 = clo X Y) (t79 : τ 79 = ur) (t80 : τ 80 = .int .i64 g.rows.length) (t81 : τ 81 = .int .i64 0) :
    WLoop P ro 160 none c13_111111110100 τ [] s2 Kr
      [(2, fun τ46 ds46 s46 =>
          wopt (afieldAddr P 24 (τ46 3) 4) fun v =>
            wopt (aload P s46 22 v) fun v_2 =>
              wop P ro (Op.call { callee := Callee.builtin Builtin.len, args := { toList := [Operand.const v_2] }, argTypes := #[22] }) 3 s46 fun v146_49 s49 =>
                WLoop P ro 160 none c13_11111111110100 (U τ46 [(147, Value.int IntKind.i64 0), (146, v146_49), (145, v_2), (144, v), (17, Value.bool true)]) ds46 s49 Kr2
                  [(7, fun τ50 ds50 s50 => wopt (aload P s50 25 (τ50 9)) fun v => wdefers P ro ds50 s50 fun s52 => wfin s K (Value.tuple { toList := [v, τ50 17, Value.int IntKind.i64 0] }) s52)]),
        (5, fun _ _ _ => False)] := by
  have hrl := hL.2.2.2.2.2.2.2.1
  have hgl : ∀ s' K, wop P ro (.call ⟨.builtin .len, ⟨[.const ur]⟩, #[22]⟩) 3 s' K = K (.int .i64 (g.rows.length : Nat)) s' := fun s' K => Sl.wlen hr se_22 _ K
  refine wloop l13_111111110100 m13_111111110100 (fun (i : Nat) τ ds s' => i ≤ g.rows.length ∧ τ 3 = ptr G ∧ τ 9 = ptr X ∧ τ 10 = ptr Y ∧ τ 12 = clo X Y ∧ τ 79 = ur ∧ τ 80 = .int .i64 g.rows.length ∧ τ 81 = .int .i64 i ∧ ds = [] ∧ RgI ro g ur (ent s) G A B X Y s' (it (runR g) i c0)) (fun i => g.rows.length - i) ?_ 0 ⟨by omega, t3, t9, t10, t12, t79, t80, t81, rfl, hI⟩
  clear t3 t9 t10 t12 t79 t80 t81 hI
  rintro i τ ds s' ⟨hi, t3, t9, t10, t12, t79, t80, t81, rfl, hI⟩
  rw [n13_111111110100]
  unfold v13_111111110100
  by_cases hlt : i < g.rows.length
  · obtain ⟨A5, o5, c5, q1, q2⟩ := hI.run.rs.ix (rowAt_get hlt)
    simp (maxSteps := 10000000) only [wW, reduceCtorEq, Nat.reduceEqDiff, wL, Nat.reduceAdd, t3, t79, t80, t81, q1, q2.blk, q2.all]
    rw [if_pos (by omega)]
    refine alloc_rule ty_43 hI.run.vv.wf fun R s4 m4 => ?_
    have e4 := m4.eq
    have n4 := m4.n
    have gn := hI.run.vv.grew.n
    have hA4 := St.at_lt hI.run.vv.here
    have hB4 := St.at_lt hI.run.vb.here
    have hG4 := St.at_lt hI.run.gat
    have hX4 := St.at_lt hI.x
    have hY4 := St.at_lt hI.y
    have hI4 := hI.grew m4.grew
    refine storeAll_rule isz_43 m4.here (l := (rowAt g.rows i).cells) rfl (by decide) m4.wf (by have := hI.run.ro; omega) rfl rfl fun s5 p5 => ?_
    have g5 := p5.grew _ hI.run.w0 hI4.run.vv.grew (by omega)
    have hI5 : RgI ro g ur (ent s) G A B X Y s5 (it (runR g) i c0) := ⟨⟨⟨(p5.rest A (by omega)).trans hI4.run.vv.here, hI.run.vv.new, p5.wf, g5⟩, ⟨(p5.rest B (by omega)).trans hI4.run.vb.here, hI.run.vb.new, p5.wf, g5⟩, (p5.rest G (by omega)).trans hI4.run.gat, hI.run.l1, hI.run.l2, hI.run.w0, hI.run.ro, hI.run.rows, hI.run.ga, hI.run.gb, hI.run.ab, hI.run.nn⟩, (p5.rest X (by omega)).trans hI4.x, (p5.rest Y (by omega)).trans hI4.y, hI.xa, hI.xb, hI.ya, hI.yb⟩
    have hR5 : s5.at R = some (.cells (rowAt g.rows i).cells 43 false) := p5.here
    have hRc := acells_some hR5
    have hfit := hL.fit hlt (hnn _ (List.mem_of_getElem? (rowAt_get hlt)))
    have hqo : (rowAt g.rows i).qo ≠ 0 → (rowAt g.rows i).k = 1 := fun h => Decidable.byContradiction fun h1 => h (((hL.row hlt).1.2.2.2.2.1 _ (by simp [Row.qs])).2 h1)
    have hF5 : FieldsAt s5 := FieldsAt.grew (s := ent s) hF hI5.run.vv.grew
    have n5 := p5.n
    have hro := hI.run.ro
    have hkw : IntKind.i64.wrap ((i : Int) + 1) = ((i + 1 : Nat) : Int) := by rw [wrap_i64 (by omega) (by omega)]; rfl
    have hXc := acells_some hI5.x
    have hYc := acells_some hI5.y
    have hnext : ∀ {τ2 : Tau} {s6 : St}, Kp τ τ2 → RgI ro g ur (ent s) G A B X Y s6 (runB g.f (rowAt g.rows i) (rowAt g.rows (i + 1)) (runA g.f (rowAt g.rows i) (it (runR g) i c0))) → ∀ al : AL, U τ2 al 3 = τ2 3 → U τ2 al 9 = τ2 9 → U τ2 al 10 = τ2 10 → U τ2 al 12 = τ2 12 → U τ2 al 79 = τ2 79 → U τ2 al 80 = τ2 80 → U τ2 al 81 = .int .i64 ((i + 1 : Nat) : Int) →
        ∃ y, g.rows.length - y < g.rows.length - i ∧ y ≤ g.rows.length ∧ U τ2 al 3 = ptr G ∧ U τ2 al 9 = ptr X ∧ U τ2 al 10 = ptr Y ∧ U τ2 al 12 = clo X Y ∧ U τ2 al 79 = ur ∧ U τ2 al 80 = .int .i64 g.rows.length ∧ U τ2 al 81 = .int .i64 (y : Nat) ∧ RgI ro g ur (ent s) G A B X Y s6 (it (runR g) y c0) := fun {τ2 s6} kp h al b3 b9 b10 b12 b79 b80 b81 =>
      ⟨i + 1, by omega, by omega, b3.trans (kp.a3.trans t3), b9.trans (kp.a9.trans t9), b10.trans (kp.a10.trans t10), b12.trans (kp.a12.trans t12), b79.trans (kp.a79.trans t79), b80.trans (kp.a80.trans t80), b81, h⟩
    simp (maxSteps := 10000000) only [wW, reduceCtorEq, Nat.reduceEqDiff, wL, Nat.reduceAdd, t3, t9, t10, hRc, hI5.run.gc, hXc, hYc, load1 ap_25, load1 ap_52, load1 ap_4, List.getElem?_cons_zero]
    generalize hc : it (runR g) i c0 = c at hI5 hnext
    by_cases k3 : (rowAt g.rows i).k = 3
    · rw [if_pos k3]
      have hx := hfit.round k3
      show CallWP P ro 29 [.int .i64 g.f, .agg (.mk (rowAt g.rows i).cells), slc A g.nv.toNat] s5 _
      rw [wTurned g.f hL.1 hx.1 p5.wf (by omega) hF5 hr0 hI5.run.sl hI5.run.nn (fun k hk4 => by have := hx.2 k hk4; have := hI5.run.l1; omega)]
      have hA : runA g.f (rowAt g.rows i) c = c := by unfold runA; rw [if_neg (fun h => by have := h.1; omega)]
      rw [hA] at hnext
      unfold runB at hnext
      rw [if_pos k3] at hnext
      have hl2 := roundM_len g.f (rowAt g.rows i).rd (wv c.1 (rowAt g.rows i))
      have hn2 := roundM_nn g.f (rowAt g.rows i).rd (wv c.1 (rowAt g.rows i))
      generalize roundM g.f (rowAt g.rows i).rd (wv c.1 (rowAt g.rows i)) = q at hl2 hn2 hnext ⊢
      refine rgNext hL hI5 hlt k3 hl2 hn2 ?_ ?_ ?_ ?_ ?_ fun τ3 s6 kp hI6 => ?_
      · simp only [U, tset_eq, wW, reduceCtorEq, Nat.reduceEqDiff, t3]
      · simp only [U, tset_eq, wW, reduceCtorEq, Nat.reduceEqDiff, t12]
      · simp only [U, tset_eq, wW, reduceCtorEq, Nat.reduceEqDiff]
      · simp only [U, tset_eq, wW, reduceCtorEq, Nat.reduceEqDiff]
      · simp only [U, tset_eq, wW, reduceCtorEq, Nat.reduceEqDiff]
      · have kp' : Kp τ τ3 := by
          refine Kp.trans ?_ kp
          constructor <;> simp only [U, tset_eq, wW, reduceCtorEq, Nat.reduceEqDiff]
        have a81 := kp'.a81.trans t81
        simp (maxSteps := 10000000) only [wW, reduceCtorEq, Nat.reduceEqDiff, a81, hkw]
        obtain ⟨y, b1, b2, b3, b9, b10, b12, b79, b80, b81, bI⟩ := hnext kp' hI6 [(81, Value.int IntKind.i64 ((i + 1 : Nat) : Int)), (143, Value.int IntKind.i64 ((i + 1 : Nat) : Int))] rfl rfl rfl rfl rfl rfl rfl
        exact ⟨y, b1, b2, b3, b9, b10, b12, b79, b80, b81, by first | trivial | rfl, bI⟩
    · rw [if_neg k3]
      unfold runB at hnext
      rw [if_neg k3] at hnext
      have row : ∀ {b : Bool} {τ2 : Tau} {Q : Ex → WK}, τ2 112 = .bool b → (b = true ↔ (rowAt g.rows i).qo ≠ 0 ∧ atB c.2 (rowAt g.rows i).w2 = false) → Kp τ τ2 → τ2 14 = ptr R →
          (∀ τ' s', (∃ y, g.rows.length - y < g.rows.length - i ∧ y ≤ g.rows.length ∧ τ' 3 = ptr G ∧ τ' 9 = ptr X ∧ τ' 10 = ptr Y ∧ τ' 12 = clo X Y ∧ τ' 79 = ur ∧ τ' 80 = .int .i64 g.rows.length ∧ τ' 81 = .int .i64 (y : Nat) ∧ ([] : List Deferred) = [] ∧ RgI ro g ur (ent s) G A B X Y s' (it (runR g) y c0)) → Q .normal τ' [] s') →
          xp (prims P ro) none 160 k13_111111110100 c13_111111110100110010111 [1, 1, 1, 0, 1, 0, 0, 1, 1] τ2 [] [] s5 (blkX 4 (blkX 3 (sX (prims P ro) none 160 k13_111111110100 c13_111111110100111 [1, 1, 1] (lift Q)))) := fun {b τ2 Q} h112 hb kp h14 hQ => by
        refine rgArith hL (s0 := ent s) hF hI5 hlt hfit hqo hR5 (kp.a3.trans t3) (kp.a9.trans t9) (kp.a12.trans t12) h14 h112 hb fun al s6 kp2 hI6 => ?_
        have kp3 := kp.trans kp2
        have a81 := kp3.a81.trans t81
        rw [blkX_n, blkX_n, sX_n (.lift _), n13_111111110100111]
        unfold v13_111111110100111
        rw [a81]
        simp (maxSteps := 10000000) only [wW, reduceCtorEq, Nat.reduceEqDiff, hkw]
        unfold lift
        obtain ⟨y, b1, b2, b3, b9, b10, b12, b79, b80, b81, bI⟩ := hnext kp3 hI6 [(81, Value.int IntKind.i64 ((i + 1 : Nat) : Int)), (143, Value.int IntKind.i64 ((i + 1 : Nat) : Int))] rfl rfl rfl rfl rfl rfl rfl
        exact hQ _ _ ⟨y, b1, b2, b3, b9, b10, b12, b79, b80, b81, rfl, bI⟩
      by_cases kq : (rowAt g.rows i).qo = 0
      · rw [if_neg (by simpa using kq)]
        refine row (b := false) ?_ ⟨fun h => (by cases h), fun h => absurd kq h.1⟩ ?_ ?_ (fun _ _ h => h)
        · simp only [U, tset_eq, wW, reduceCtorEq, Nat.reduceEqDiff]
        · constructor <;> simp only [U, tset_eq, wW, reduceCtorEq, Nat.reduceEqDiff]
        · simp only [U, tset_eq, wW, reduceCtorEq, Nat.reduceEqDiff]
      · rw [if_pos kq]
        have hw2 : 0 ≤ (rowAt g.rows i).w2 ∧ (rowAt g.rows i).w2 < g.nv := hL.reads hlt (rds_2 (hqo kq) kq)
        have hixB := ixc se_52 isz_4 (A := B) (n := g.nv.toNat) (c := g.nv.toNat) (i := (rowAt g.rows i).w2) hw2.1 (by omega)
        have hgt := hI5.run.getB hw2.1 hw2.2
        rw [hixB, wopt_some, load1 ap_4, hI5.run.bc, Option.bind_some, hgt, wopt_some, wop_not]
        refine row (b := !(atB c.2 (rowAt g.rows i).w2)) ?_ ⟨fun h => ⟨kq, by simpa using h⟩, fun h => by simpa using h.2⟩ ?_ ?_ (fun _ _ h => h)
        · simp only [U, tset_eq, wW, reduceCtorEq, Nat.reduceEqDiff]
        · constructor <;> simp only [U, tset_eq, wW, reduceCtorEq, Nat.reduceEqDiff]
        · simp only [U, tset_eq, wW, reduceCtorEq, Nat.reduceEqDiff]
  · obtain rfl : i = g.rows.length := by omega
    simp (maxSteps := 10000000) only [wW, reduceCtorEq, Nat.reduceEqDiff, t80, t81]
    rw [if_neg (by omega)]
    simp (maxSteps := 10000000) only [U, tset_eq, wW, reduceCtorEq, Nat.reduceEqDiff, wL, Nat.reduceAdd, t3, hI.run.gc, hgl]
    refine rgOk hL hnn hw hF hr0 hlen hI h1 ?_ ?_ ?_ ?_ ?_
    · simp only [tset_eq, wW, reduceCtorEq, Nat.reduceEqDiff, t3]
    · simp only [tset_eq, wW, reduceCtorEq, Nat.reduceEqDiff, t9]
    · simp only [tset_eq, wW, reduceCtorEq, Nat.reduceEqDiff]
    · simp only [tset_eq, wW, reduceCtorEq, Nat.reduceEqDiff]
    · simp only [tset_eq, wW, reduceCtorEq, Nat.reduceEqDiff]
end
end Go.VE
/- The program's gates: Run. -/
namespace Go.VE
open Go Go.Proofs
set_option maxRecDepth 20000
theorem rep_set {α : Type} {x z : α} {N i : Nat} (hi : i < N) : (List.replicate i x ++ List.replicate (N - i) z).set i x = List.replicate (i + 1) x ++ List.replicate (N - (i + 1)) z := by
  rw [List.set_append_right _ _ (by simp), List.length_replicate, Nat.sub_self, show N - i = (N - (i + 1)) + 1 by omega, List.replicate_succ, List.set_cons_zero, List.replicate_succ', List.append_assoc]
  rfl
theorem cp_first {p : List Int} {N : Nat} (h : p.length ≤ N) : (List.replicate N (0 : Int)).take 0 ++ p.take (min p.length N) ++ (List.replicate N (0 : Int)).drop (0 + min p.length N) = p ++ List.replicate (N - p.length) 0 := by
  rw [List.take_zero, List.nil_append, Nat.min_eq_left h, List.take_length, Nat.zero_add, List.drop_replicate]
theorem cp_second {p q : List Int} {N : Nat} (h : p.length + q.length ≤ N) : (p ++ List.replicate (N - p.length) (0 : Int)).take p.length ++ q.take (min q.length (N - p.length)) ++ (p ++ List.replicate (N - p.length) (0 : Int)).drop (p.length + min q.length (N - p.length)) = p ++ q ++ List.replicate (N - (p.length + q.length)) 0 := by
  rw [List.take_left' rfl, Nat.min_eq_left (by omega), List.take_length, List.drop_append, List.drop_of_length_le (by omega), List.nil_append, List.drop_replicate]
  congr 2
  omega
def c0 (g : Gp) (pub sec : List Int) : List Int × List Bool := (pub ++ sec ++ List.replicate (g.nv.toNat - (pub.length + sec.length)) 0, List.replicate (pub.length + sec.length) true ++ List.replicate (g.nv.toNat - (pub.length + sec.length)) false)
theorem runI_get {pub sec : List Int} {N : Nat} (hN : pub.length + sec.length ≤ N) : ∀ {k : Nat}, k ≤ pub.length + sec.length →
    it (runI pub sec) k (List.replicate N 0, List.replicate N false) = ((pub ++ sec).take k ++ List.replicate (N - k) 0, List.replicate k true ++ List.replicate (N - k) false)
  | 0, _ => by rw [it, List.take_zero, List.nil_append]; rfl
  | k + 1, hk => by
    rw [it, runI_get hN (by omega), runI, setV, Int.toNat_natCast, rep_set (by omega)]
    have hl : k < (pub ++ sec).length := by rw [List.length_append]; omega
    have e : inp pub sec k = (pub ++ sec)[k] := by
      unfold inp
      by_cases h : k < pub.length
      · rw [if_pos h, List.getElem_append_left h]
        have := at0_get (l := pub) (i := (k : Int)) (by omega) (by omega)
        rw [Int.toNat_natCast, List.getElem?_eq_getElem h] at this
        exact (Option.some.inj this).symm
      · rw [if_neg h, List.getElem_append_right (by omega)]
        have := at0_get (l := sec) (i := (k : Int) - pub.length) (by omega) (by omega)
        rw [show ((k : Int) - pub.length).toNat = k - pub.length by omega, List.getElem?_eq_getElem (by omega)] at this
        exact (Option.some.inj this).symm
    have e2 : ((pub ++ sec).take k ++ List.replicate (N - k) 0).set k (inp pub sec k) = (pub ++ sec).take (k + 1) ++ List.replicate (N - (k + 1)) 0 := by
      have ht : ((pub ++ sec).take k).length = k := by rw [List.length_take]; omega
      rw [List.set_append_right _ _ (by omega), ht, Nat.sub_self, show N - k = (N - (k + 1)) + 1 by omega, List.replicate_succ, List.set_cons_zero, take_succ_eq (List.getElem?_eq_getElem hl), e, List.append_assoc]
      rfl
    rw [e2]
theorem runI_eq {g : Gp} {pub sec : List Int} (hp : (pub.length : Int) = g.pub) (hs : (sec.length : Int) = g.sec) (hN : g.pub + g.sec ≤ g.nv) : it (runI pub sec) (g.pub + g.sec).toNat (run0 g) = c0 g pub sec := by
  have e : (g.pub + g.sec).toNat = pub.length + sec.length := by omega
  rw [e]
  unfold run0
  rw [runI_get (by omega) (Nat.le_refl _), List.take_of_length_le (by rw [List.length_append]; exact Nat.le_refl _)]
  rfl
theorem Vc.lift {α : Type} {e : TypeId} {mk : α → Value} {s0 s1 s : St} {A : Nat} {l : List α} (h : Vc e mk s1 s A l) (hg : Grew s0 s1) : Vc e mk s0 s A l := ⟨h.here, Nat.le_trans hg.n h.new, h.wf, hg.trans h.grew⟩
section
variable {ro : Nat} {K : Value → St → Prop}
theorem slu_from (A n c : Nat) (hc : c ≤ n) : asliceOp P 25 (slc A n) (some (.int .i64 (c : Int))) none none = some (.slice (some ⟨A, if n = c then 0 else c, none⟩) (n - c) (n - c)) := by
  have hlo : abound (some (.int .i64 (c : Int))) 0 n = some c := by
    simp only [abound]
    rw [if_pos (by omega)]; rfl
  have hhi : abound none n n = some n := rfl
  simp only [asliceOp, sliceElem_un se_25, isz_38, sliceTwo, hhi, hlo, Option.bind_some, Nat.mul_one, Nat.zero_add]
  by_cases h : n = c
  · rw [if_pos h, if_pos h]
  · rw [if_neg h, if_neg h]
theorem wGRun (g : Gp) (hnn : ∀ r ∈ g.rows, r.Nn) {s : St} {ur pv sv : Value} {pub sec : List Int} (hw : Wf s) (hro : ro ≤ s.n) (hF : FieldsAt s) (hr0 : 0 < ro) (hr : RowsS s ur g.rows) (hlen : g.rows.length < 2 ^ 60) (hp : U64s s pv pub) (hs : U64s s sv sec) (hpn : ∀ x ∈ pub, 0 ≤ x) (hsn : ∀ x ∈ sec, 0 ≤ x)
    (h0 : ¬ runOk g pub sec → K (.tuple (.mk [.slice none 0 0, .bool false, .int .i64 1])) s)
    (h1 : runOk g pub sec → ∀ v s', Grew s s' → U64s s' v (runV g pub sec).1 → K (.tuple (.mk [v, .bool (okM g (runV g pub sec).1 g.rows.length), .int .i64 0])) s') :
    CallWP P ro 13 [.agg (.mk (g.cells ur)), pv, sv] s K := by
  refine call_wp b13 rfl ?_
  rw [n13]
  unfold v13
  simp (maxSteps := 10000000) only [wW, reduceCtorEq, Nat.reduceEqDiff]
  refine box_rule hw.ent fun G s1 m1 => ?_
  have e1 := m1.eq
  have n1 := m1.n
  have hn0 : (ent s).n = s.n := rfl
  have hG1 : s1.at G = some (.cells (g.cells ur) 24 false) := m1.here
  have hG := acells_some hG1
  have hF1 : FieldsAt s1 := FieldsAt.grew (s := ent s) hF m1.grew
  have hr1 : RowsS s1 ur g.rows := (Sl.ent hr).grew m1.grew.same
  have hp1 : U64s s1 pv pub := (Sl.ent hp).grew m1.grew.same
  have hs1 : U64s s1 sv sec := (Sl.ent hs).grew m1.grew.same
  have no : ¬ runOk g pub sec → wfin s K (.tuple (.mk [.slice none 0 0, .bool false, .int .i64 1])) s1 := fun hf => fin_flat rfl m1.grew (h0 hf)
  simp (maxSteps := 10000000) only [wW, reduceCtorEq, Nat.reduceEqDiff, wL, Nat.reduceAdd, hG]
  show CallWP P ro 16 [.agg (.mk (g.cells ur))] s1 _
  rw [wGvalid g hnn m1.wf (by omega) hF1 hr1]
  simp (maxSteps := 10000000) only [wW, reduceCtorEq, Nat.reduceEqDiff, wL, Nat.reduceAdd, hG, hp1.wlen se_25, hs1.wlen se_25]
  by_cases c1 : validM g = true
  · have hL0 : Limits g := by
      unfold validM at c1
      simp only [Bool.and_eq_true, decide_eq_true_eq] at c1
      exact c1.1
    have hpl := hL0.2.2.1
    have hsl := hL0.2.2.2.2.1
    rw [if_neg (by simp [c1])]
    by_cases c2 : (pub.length : Int) = g.pub
    · rw [if_neg (by simpa using c2)]
      by_cases c3 : (sec.length : Int) = g.sec
      · rw [if_neg (by simpa using c3), wElements g.f hp1 (by omega) m1.wf (show ro ≤ s1.n by omega) hF1]
        simp (maxSteps := 10000000) only [wW, reduceCtorEq, Nat.reduceEqDiff, wL, Nat.reduceAdd, hG]
        by_cases c4 : below g.f pub = true
        · rw [if_neg (by simp [c4]), wElements g.f hs1 (by omega) m1.wf (show ro ≤ s1.n by omega) hF1]
          simp (maxSteps := 10000000) only [wW, reduceCtorEq, Nat.reduceEqDiff, wL, Nat.reduceAdd, hG]
          by_cases c5 : below g.f sec = true
          · rw [if_neg (by simp [c5])]
            have hOk : runOk g pub sec := ⟨c1, c2, c3, c4, c5⟩
            have hL : Limits g := by
              unfold validM at c1
              simp only [Bool.and_eq_true, decide_eq_true_eq] at c1
              exact c1.1
            clear no c1 c4 c5
            have hnv := hL.nv
            have hrl := hL.2.2.2.2.2.2.2.1
            have hps5 := hL.2.2.2.2.2.1
            refine make_rule (mk := Value.int .u64) (x := 0) se_25 ty_38 rfl m1.wf hnv.1 (by omega) (by decide) fun A s2 m2 => ?_
            have e2 := m2.eq
            have n2 := m2.n
            refine alloc_rule ty_25 m2.wf fun X s3 m3 => ?_
            have e3 := m3.eq
            have n3 := m3.n
            refine store1_rule isz_25 m3.here m3.wf (by omega) (by decide) rfl fun s4 p4 => ?_
            have n4 := p4.n
            have g3 := (m1.grew.trans m2.grew).trans m3.grew
            have g4 := p4.grew _ hw.ent g3 (by omega)
            have hG4 : s4.at G = some (.cells (g.cells ur) 24 false) := (p4.rest G (by omega)).trans ((m3.grew.same G (by omega)).trans ((m2.grew.same G (by omega)).trans hG1))
            rw [acells_some hG4, wopt_some, gc1, wopt_some]
            refine make_rule (mk := Value.bool) (x := false) se_52 ty_4 rfl p4.wf hnv.1 (by omega) (by decide) fun B s5 m5 => ?_
            have e5 := m5.eq
            have n5 := m5.n
            refine alloc_rule ty_52 m5.wf fun Y s6 m6 => ?_
            have e6 := m6.eq
            have n6 := m6.n
            refine store1_rule isz_52 m6.here m6.wf (by omega) (by decide) rfl fun s7 p7 => ?_
            have n7 := p7.n
            have g7 := p7.grew _ hw.ent ((g4.trans m5.grew).trans m6.grew) (by omega)
            have to7 : ∀ C, C < s5.n → s7.at C = s5.at C := fun C hC => (p7.rest C (by omega)).trans (m6.grew.same C hC)
            have to7' : ∀ C, C < s4.n → s7.at C = s4.at C := fun C hC => (to7 C (by omega)).trans (m5.grew.same C hC)
            have hG7 := (to7' G (by omega)).trans hG4
            have hX7 : s7.at X = some (.cells [slc A g.nv.toNat] 25 false) := (to7' X (by omega)).trans p4.here
            have hY7 : s7.at Y = some (.cells [slc B g.nv.toNat] 52 false) := p7.here
            have V7 : Vc 38 (.int .u64) (ent s) s7 A (List.replicate g.nv.toNat 0) := ⟨(to7' A (by omega)).trans ((p4.rest A (by omega)).trans ((m3.grew.same A (by omega)).trans m2.here)), by omega, p7.wf, g7⟩
            have B7 : s7.at B = some (.cells ((List.replicate g.nv.toNat false).map .bool) 4 false) := (to7 B (by omega)).trans m5.here
            simp (maxSteps := 10000000) only [load1 ap_25, acells_some hX7, Option.bind_some, List.getElem?_cons_zero, wopt_some]
            refine V7.copy se_25 isz_38 hw.ent hro (by simp) ((Sl.ent hp).grew g7.same) (fun _ => rfl) fun s8 V8 r8 n8 => ?_
            rw [cp_first (by omega)] at V8
            have hX8 := (r8 X (by omega)).trans hX7
            have hG8 := (r8 G (by omega)).trans hG7
            have hsl8 : asliceOp P 25 (slc A g.nv.toNat) (some (.int .i64 g.pub)) none none = some (.slice (some ⟨A, if g.nv.toNat = pub.length then 0 else pub.length, none⟩) (g.nv.toNat - pub.length) (g.nv.toNat - pub.length)) := by
              rw [← c2]
              exact slu_from _ _ _ (by omega)
            simp (maxSteps := 10000000) only [wW, reduceCtorEq, Nat.reduceEqDiff, wL, Nat.reduceAdd, load1 ap_25, acells_some hX8, acells_some hG8, Option.bind_some, List.getElem?_cons_zero, wopt_some, wop_slice, aval, Option.map_some, Option.map_none, hsl8]
            have hl8 : (pub ++ List.replicate (g.nv.toNat - pub.length) (0 : Int)).length = g.nv.toNat := by rw [List.length_append, List.length_replicate]; omega
            refine V8.copy se_25 isz_38 hw.ent hro (by rw [hl8]; split <;> omega) ((Sl.ent hs).grew V8.grew.same) (fun _ => rfl) fun s9 V9 r9 n9 => ?_
            have e9 : (pub ++ List.replicate (g.nv.toNat - pub.length) (0 : Int)).take (if g.nv.toNat = pub.length then 0 else pub.length) ++ sec.take (min sec.length (g.nv.toNat - pub.length)) ++ (pub ++ List.replicate (g.nv.toNat - pub.length) (0 : Int)).drop ((if g.nv.toNat = pub.length then 0 else pub.length) + min sec.length (g.nv.toNat - pub.length)) = (c0 g pub sec).1 := by
              by_cases hq : g.nv.toNat = pub.length
              · have hsec : sec = [] := List.length_eq_zero_iff.1 (by omega)
                subst hsec
                rw [if_pos hq]
                unfold c0
                simp
              · rw [if_neg hq]
                exact cp_second (by omega)
            rw [e9] at V9
            have hG9 := (r9 G (by omega)).trans hG8
            have hI0 : RgI ro g ur (ent s) G A B X Y s9 ((c0 g pub sec).1, List.replicate 0 true ++ List.replicate (g.nv.toNat - 0) false) :=
              ⟨⟨V9, ⟨(r9 B (by omega)).trans ((r8 B (by omega)).trans B7), by omega, V9.wf, V9.grew⟩, hG9, by unfold c0; simp; omega, by simp, hw.ent, hro, Sl.ent hr, by omega, by omega, by omega, fun x hx => ?_⟩, (r9 X (by omega)).trans hX8, (r9 Y (by omega)).trans ((r8 Y (by omega)).trans hY7), by omega, by omega, by omega, by omega⟩
            · simp (maxSteps := 10000000) only [wW, reduceCtorEq, Nat.reduceEqDiff, wL, Nat.reduceAdd, acells_some hG9]
              rw [wrap_i64 (n := g.pub + g.sec) (by omega) (by omega)]
              have hpsn : ((g.pub + g.sec).toNat : Int) = g.pub + g.sec := by omega
              have hpsl : (g.pub + g.sec).toNat = pub.length + sec.length := by omega
              have h1' := h1 hOk
              have hV : runV g pub sec = it (runR g) g.rows.length (c0 g pub sec) := by unfold runV; rw [runI_eq c2 c3 hps5]
              rw [hV] at h1'
              have hgl : ∀ s' K, wop P ro (.call ⟨.builtin .len, ⟨[.const ur]⟩, #[22]⟩) 3 s' K = K (.int .i64 (g.rows.length : Nat)) s' := fun s' K => Sl.wlen hr se_22 _ K
              refine wloop l13_1111110100 m13_1111110100 (fun (i : Nat) τ ds s' => i ≤ (g.pub + g.sec).toNat ∧ τ 3 = ptr G ∧ τ 9 = ptr X ∧ τ 10 = ptr Y ∧ τ 69 = .int .i64 (g.pub + g.sec) ∧ τ 70 = .int .i64 i ∧ ds = [] ∧ RgI ro g ur (ent s) G A B X Y s' ((c0 g pub sec).1, List.replicate i true ++ List.replicate (g.nv.toNat - i) false)) (fun i => (g.pub + g.sec).toNat - i) ?_ 0 ⟨by omega, rfl, rfl, rfl, rfl, rfl, rfl, hI0⟩
              clear hI0 V9 V8 V7 r9 r8 hX8 hX7 hY7 hG9 hG8 hG7 hG4 to7 to7' B7 p7 m6 m5 p4 m3 m2
              rintro i τ ds s' ⟨hi, t3, t9, t10, t69, t70, rfl, hI⟩
              rw [n13_1111110100]
              unfold v13_1111110100
              have hYc := acells_some hI.y
              by_cases hlt : i < (g.pub + g.sec).toNat
              · have hix := ixc se_52 isz_4 (A := B) (n := g.nv.toNat) (c := g.nv.toNat) (i := (i : Int)) (by omega) (by omega)
                simp (maxSteps := 10000000) only [wW, reduceCtorEq, Nat.reduceEqDiff, wL, Nat.reduceAdd, t10, t69, t70, load1 ap_52, hYc, List.getElem?_cons_zero, hix]
                rw [if_pos (by omega)]
                refine hI.run.storeB (i := (i : Int)) (by omega) (by omega) fun s2 hI2 r2 => ?_
                rw [wrap_i64 (by omega) (by omega)]
                refine ⟨i + 1, by omega, by omega, ?_, ?_, ?_, ?_, ?_, trivial, ?_, (r2 X hI.xb).trans hI.x, (r2 Y hI.yb).trans hI.y, hI.xa, hI.xb, hI.ya, hI.yb⟩
                · simp only [U, tset_eq, wW, reduceCtorEq, Nat.reduceEqDiff, t3]
                · simp only [U, tset_eq, wW, reduceCtorEq, Nat.reduceEqDiff, t9]
                · simp only [U, tset_eq, wW, reduceCtorEq, Nat.reduceEqDiff, t10]
                · simp only [U, tset_eq, wW, reduceCtorEq, Nat.reduceEqDiff, t69]
                · simp only [U, tset_eq, wW, reduceCtorEq, Nat.reduceEqDiff]; rfl
                · rw [Int.toNat_natCast, rep_set (by omega)] at hI2
                  exact hI2
              · obtain rfl : i = (g.pub + g.sec).toNat := by omega
                simp (maxSteps := 10000000) only [wW, reduceCtorEq, Nat.reduceEqDiff, t69, t70]
                rw [if_neg (by omega)]
                simp (maxSteps := 10000000) only [U, tset_eq, wW, reduceCtorEq, Nat.reduceEqDiff, wL, Nat.reduceAdd, t3, t9, t10, hI.run.gc, hgl]
                rw [hpsl] at hI
                refine rgRows hL hnn hw hF hr0 hlen hr hI h1' ?_ ?_ ?_ ?_ ?_ ?_ ?_
                · simp only [tset_eq, wW, reduceCtorEq, Nat.reduceEqDiff, t3]
                · simp only [tset_eq, wW, reduceCtorEq, Nat.reduceEqDiff, t9]
                · simp only [tset_eq, wW, reduceCtorEq, Nat.reduceEqDiff, t10]
                · simp only [tset_eq, wW, reduceCtorEq, Nat.reduceEqDiff]; rfl
                · simp only [tset_eq, wW, reduceCtorEq, Nat.reduceEqDiff]
                · simp only [tset_eq, wW, reduceCtorEq, Nat.reduceEqDiff]
                · simp only [tset_eq, wW, reduceCtorEq, Nat.reduceEqDiff]
            · unfold c0 at hx
              rw [List.mem_append, List.mem_append] at hx
              rcases hx with (hx | hx) | hx
              · exact hpn x hx
              · exact hsn x hx
              · rw [List.eq_of_mem_replicate hx]; exact Int.le_refl 0
          · rw [if_pos (by simpa using c5)]
            exact no fun h => c5 h.2.2.2.2
        · rw [if_pos (by simpa using c4)]
          exact no fun h => c4 h.2.2.2.1
      · rw [if_pos (by simpa using c3)]
        exact no fun h => c3 h.2.2.1
    · rw [if_pos (by simpa using c2)]
      exact no fun h => c2 h.2.1
  · rw [if_pos (by simpa using c1)]
    exact no fun h => c1 h.1
end
end Go.VE
/- The gates of the permutation: what their run gives. -/
namespace Go.VE
open Go Go.Proofs
set_option maxRecDepth 20000
noncomputable def pst (f : Int) (s : List Int) : Nat → List Int
  | 0 => s
  | i + 1 => roundM f i (pst f s i)
theorem pst_len (f : Int) {s : List Int} (h : s.length = 4) : ∀ i, (pst f s i).length = 4
  | 0 => h
  | i + 1 => roundM_len _ _ _
theorem pst_nn {f : Int} {s : List Int} (h : ∀ x ∈ s, 0 ≤ x) : ∀ i, ∀ x ∈ pst f s i, (0 : Int) ≤ x
  | 0 => h
  | i + 1 => roundM_nn f i _
def rowP (i : Nat) : Row := if i < 8 then ⟨3, 4 * i, 4 * i + 1, 4 * i + 2, 4 * i + 3, 0, 0, 0, 0, 0, i⟩ else ⟨0, 4 * i, 4 * i + 1, 4 * i + 2, 4 * i + 3, 0, 0, 0, 0, 0, 0⟩
def permG (f : Int) : Gp := ⟨f, 36, 4, 0, (List.range 9).map rowP⟩
theorem rowP_w (i : Nat) {k : Nat} (hk : k < 4) : (rowP i).w k = ((4 * i + k : Nat) : Int) := by
  unfold rowP
  split <;> match k, hk with
  | 0, _ => simp [Row.w] <;> omega
  | 1, _ => simp [Row.w] <;> omega
  | 2, _ => simp [Row.w] <;> omega
  | 3, _ => simp [Row.w] <;> omega
theorem permG_row (f : Int) {i : Nat} (hi : i < 9) : rowAt (permG f).rows i = rowP i := by
  have h := rowAt_get (l := (permG f).rows) (i := i) (by show i < ((List.range 9).map rowP).length; simp; exact hi)
  have h2 : (permG f).rows[i]? = some (rowP i) := by
    show ((List.range 9).map rowP)[i]? = _
    rw [List.getElem?_map, List.getElem?_range hi]; rfl
  rw [h2] at h
  exact (Option.some.inj h).symm
set_option maxRecDepth 100000 in
theorem permG_valid {f : Int} : validM (permG f) = fV f := by
  by_cases hv : fV f = true
  · rw [hv]
    rcases fV_cases hv with rfl | rfl | rfl | rfl
    · decide +kernel
    · decide +kernel
    · decide +kernel
    · decide +kernel
  · unfold validM
    rw [decide_eq_false (fun hL => hv hL.1), Bool.false_and]
    cases h : fV f with
    | false => rfl
    | true => exact absurd h hv
theorem permG_ord {f : Int} (hv : fV f = true) : mxF ((orderM (permG f)).getD []) = 8 := by
  rcases fV_cases hv with rfl | rfl | rfl | rfl
  · decide +kernel
  · decide +kernel
  · decide +kernel
  · decide +kernel
theorem permG_depth {f : Int} (hv : fV f = true) : depthM (permG f) = 8 := by
  unfold depthM
  rw [permG_valid, if_pos hv, permG_ord hv]
noncomputable def vS (f : Int) (S : List Int) : Nat → List Int
  | 0 => S
  | i + 1 => vS f S i ++ pst f S (i + 1)
theorem vS_len (f : Int) {S : List Int} (h : S.length = 4) : ∀ i, (vS f S i).length = 4 * (i + 1)
  | 0 => h
  | i + 1 => by rw [vS, List.length_append, vS_len f h i, pst_len f h]; omega
theorem vS_at (f : Int) {S : List Int} (h : S.length = 4) {i j : Nat} (hj : j < 4) : ∀ {m : Nat}, i ≤ m → (vS f S m)[4 * i + j]? = (pst f S i)[j]?
  | 0, hm => by
    obtain rfl : i = 0 := by omega
    rw [Nat.mul_zero, Nat.zero_add]; rfl
  | m + 1, hm => by
    have hl := vS_len f h m
    rcases Nat.lt_or_ge m i with hlt | hge
    · obtain rfl : i = m + 1 := by omega
      rw [vS, List.getElem?_append_right (by omega), hl]
      congr 1
      omega
    · rw [vS, List.getElem?_append_left (by omega)]
      exact vS_at f h hj hge
theorem runN_get {q : List Int} {nx : Row} {n m : Nat} {L : List Int} (hL : L.length = n) (hq : q.length = 4) (hm : 4 ≤ m) (hw : ∀ k : Nat, k < 4 → nx.w k = ((n + k : Nat) : Int)) : ∀ {k : Nat}, k ≤ 4 →
    it (runN q nx) k (L ++ List.replicate m 0, List.replicate n true ++ List.replicate m false) = (L ++ q.take k ++ List.replicate (m - k) 0, List.replicate (n + k) true ++ List.replicate (m - k) false)
  | 0, _ => by rw [it, List.take_zero, List.append_nil]; rfl
  | k + 1, hk => by
    rw [it, runN_get hL hq hm hw (by omega), runN]
    have hx := hw k (by omega)
    have hb : atB (List.replicate (n + k) true ++ List.replicate (m - k) false) (nx.w k) = false := by
      unfold atB
      rw [hx, Int.toNat_natCast, List.getElem?_append_right (by simp), List.length_replicate, Nat.sub_self, List.getElem?_replicate, if_pos (by omega)]
      rfl
    rw [if_pos hb]
    unfold setV
    rw [hx, Int.toNat_natCast]
    have hk4 : k < q.length := by omega
    have e1 : (L ++ q.take k ++ List.replicate (m - k) 0).set (n + k) (at0 q k) = L ++ q.take (k + 1) ++ List.replicate (m - (k + 1)) 0 := by
      have ht : (L ++ q.take k).length = n + k := by rw [List.length_append, List.length_take]; omega
      have hat : at0 q k = q[k] := by
        unfold at0
        rw [Int.toNat_natCast, List.getElem?_eq_getElem hk4]; rfl
      rw [List.set_append_right _ _ (by omega), ht, Nat.sub_self, show m - k = (m - (k + 1)) + 1 by omega, List.replicate_succ, List.set_cons_zero, take_succ_eq (List.getElem?_eq_getElem hk4), hat, List.append_assoc, List.append_assoc, List.append_assoc]
      rfl
    have e2 : (List.replicate (n + k) true ++ List.replicate (m - k) false).set (n + k) true = List.replicate (n + (k + 1)) true ++ List.replicate (m - (k + 1)) false := by
      rw [List.set_append_right _ _ (by simp), List.length_replicate, Nat.sub_self, show m - k = (m - (k + 1)) + 1 by omega, List.replicate_succ, List.set_cons_zero, show n + (k + 1) = (n + k) + 1 by omega, List.replicate_succ', List.append_assoc]
      rfl
    rw [e1, e2]
theorem wv_perm (f : Int) {S V : List Int} (h : S.length = 4) {i : Nat} (hV : ∀ j : Nat, j < 4 → V[4 * i + j]? = (pst f S i)[j]?) : wv V (rowP i) = pst f S i := by
  rw [eq4 rfl (pst_len f h i)]
  intro j hj
  rw [wv_get _ _ hj, rowP_w i hj]
  unfold at0
  rw [Int.toNat_natCast, Int.toNat_natCast, hV j hj]
theorem perm_run (f : Int) {S : List Int} (h : S.length = 4) : ∀ {i : Nat}, i ≤ 8 → it (runR (permG f)) i (c0 (permG f) S []) = (vS f S i ++ List.replicate (36 - 4 * (i + 1)) 0, List.replicate (4 * (i + 1)) true ++ List.replicate (36 - 4 * (i + 1)) false)
  | 0, _ => by
    rw [it]
    unfold c0
    simp [h, permG, vS]
  | i + 1, hi => by
    rw [it, perm_run f h (by omega), runR, permG_row f (by omega), permG_row f (by omega)]
    have hk : (rowP i).k = 3 := by unfold rowP; rw [if_pos (by omega)]
    have hrd : (rowP i).rd = (i : Int) := by unfold rowP; rw [if_pos (by omega)]
    have hA : ∀ c, runA (permG f).f (rowP i) c = c := fun c => by unfold runA; rw [if_neg (fun hh => by have := hh.1; omega)]
    rw [hA, runB, if_pos hk, hrd]
    have hl := vS_len f h i
    rw [wv_perm f h (i := i) (fun j hj => by rw [List.getElem?_append_left (by omega)]; exact vS_at f h hj (Nat.le_refl _))]
    have := runN_get (q := roundM f i (pst f S i)) (nx := rowP (i + 1)) hl (roundM_len _ _ _) (m := 36 - 4 * (i + 1)) (by omega) (fun k hk => by rw [rowP_w _ hk]) (Nat.le_refl 4)
    show it (runN (roundM f i (pst f S i)) (rowP (i + 1))) 4 _ = _
    rw [this, List.take_of_length_le (by rw [roundM_len]; exact Nat.le_refl _)]
    have e1 : 36 - 4 * (i + 1) - 4 = 36 - 4 * (i + 1 + 1) := by omega
    have e2 : 4 * (i + 1) + 4 = 4 * (i + 1 + 1) := by omega
    rw [e1, e2]
    rfl
theorem perm_vals (f : Int) {S : List Int} (h : S.length = 4) (hS : True) : (runV (permG f) S []).1 = vS f S 8 := by
  have hr : it (runI S []) ((permG f).pub + (permG f).sec).toNat (run0 (permG f)) = c0 (permG f) S [] := runI_eq (by rw [h]; rfl) rfl (show (4 : Int) + 0 ≤ 36 by decide)
  unfold runV
  rw [hr]
  have hlen : (permG f).rows.length = 8 + 1 := by simp [permG]
  rw [hlen, it, perm_run f h (Nat.le_refl 8), runR, permG_row f (by decide)]
  have hk : (rowP 8).k = 0 := rfl
  have hA : ∀ c, runA (permG f).f (rowP 8) c = c := fun c => by unfold runA; rw [if_neg (fun hh => by have := hh.1; omega)]
  rw [hA, runB, if_neg (by omega)]
  simp
theorem okM_all {g : Gp} {V : List Int} : ∀ {n : Nat}, (∀ i, i < n → holdsR g.f (rowAt g.rows i) (rowAt g.rows (i + 1)) V = true) → okM g V n = true
  | 0, _ => rfl
  | n + 1, h => by rw [okM, okM_all (fun i hi => h i (by omega)), h n (by omega)]; rfl
theorem perm_ok (f : Int) {S : List Int} (h : S.length = 4) : okM (permG f) (vS f S 8) (permG f).rows.length = true := by
  have hlen : (permG f).rows.length = 9 := by simp [permG]
  rw [hlen]
  refine okM_all fun i hi => ?_
  rw [permG_row f hi]
  by_cases h8 : i < 8
  · rw [permG_row f (by omega)]
    have hk : (rowP i).k = 3 := by unfold rowP; rw [if_pos h8]
    have hrd : (rowP i).rd = (i : Int) := by unfold rowP; rw [if_pos h8]
    unfold holdsR
    rw [if_neg (by omega), if_neg (by omega), if_pos hk, hrd, wv_perm f h (i := i) (fun j hj => vS_at f h hj (by omega)), wv_perm f h (i := i + 1) (fun j hj => vS_at f h hj (by omega))]
    exact decide_eq_true rfl
  · obtain rfl : i = 8 := by omega
    have hk : (rowP 8).k = 0 := rfl
    unfold holdsR
    rw [if_neg (by omega), if_neg (by omega), if_neg (by omega)]
theorem perm_last (f : Int) {S : List Int} (h : S.length = 4) : (vS f S 8).drop 32 = pst f S 8 := by
  have hl := vS_len f h 7
  show (vS f S 7 ++ pst f S 8).drop 32 = _
  rw [List.drop_append, List.drop_of_length_le (by omega), hl]
  rfl
end Go.VE
/- GatesPerm: the program of the permutation. -/
namespace Go.VE
open Go Go.Proofs
set_option maxRecDepth 20000
section
variable {ro : Nat} {s : St} {K : Value → St → Prop}
def rj (k rd : Int) (i j : Nat) : Row := ⟨k, if 0 < j then 4 * i + 0 else 0, if 1 < j then 4 * i + 1 else 0, if 2 < j then 4 * i + 2 else 0, if 3 < j then 4 * i + 3 else 0, 0, 0, 0, 0, 0, rd⟩
theorem rj_step (k rd : Int) (i : Nat) {j : Nat} (hj : j < 4) : splice (rj k rd i j).cells (1 + j) [.int .i64 (4 * (i : Int) + j)] = (rj k rd i (j + 1)).cells := by
  match j, hj with
  | 0, _ => rfl
  | 1, _ => rfl
  | 2, _ => rfl
  | 3, _ => rfl
theorem rj_row {i : Nat} (hi : i < 8) : rj 3 i i 4 = rowP i := by
  unfold rj rowP
  simp [hi]
theorem rj_last : rj 0 0 8 4 = rowP 8 := rfl
theorem bld3 (i : Int) : abuild P 43 (partVals .e [(0, .const (.int .u8 3)), (7, .const (.int .i64 i))]) = some (.agg (.mk [.int .u8 3, .int .i64 0, .int .i64 0, .int .i64 0, .int .i64 0, .int .u64 0, .int .u64 0, .int .u64 0, .int .u64 0, .int .u64 0, .int .i64 i])) := by kernel_rfl
theorem bld0 : abuild P 43 (partVals .e []) = some (.agg (.mk [.int .u8 0, .int .i64 0, .int .i64 0, .int .i64 0, .int .i64 0, .int .u64 0, .int .u64 0, .int .u64 0, .int .u64 0, .int .u64 0, .int .i64 0])) := by kernel_rfl
theorem bldG (f : Int) : abuild P 24 (partVals .e [(0, .const (.int .i64 f)), (1, .const (.int .i64 36)), (2, .const (.int .i64 4))]) = some (.agg (.mk [.int .i64 f, .int .i64 36, .int .i64 4, .int .i64 0, .slice none 0 0])) := by kernel_rfl
theorem rj0 (k rd : Int) (i : Nat) : (rj k rd i 0).cells = [.int .u8 k, .int .i64 0, .int .i64 0, .int .i64 0, .int .i64 0, .int .u64 0, .int .u64 0, .int .u64 0, .int .u64 0, .int .u64 0, .int .i64 rd] := rfl
structure PgI (ro : Nat) (s0 : St) (Sb Gb : Nat) (f : Int) (S : List Int) (i : Nat) (s : St) : Prop where
  wf : Wf s
  grew : Grew s0 s
  sb : s.at Sb = some (.cells (u4 S) 39 false)
  ne : Sb ≠ Gb
  gn : s0.n ≤ Gb
  ex : ∃ v oA, s.at Gb = some (.cells ((permG f).cells v) 24 false) ∧ Own s v 43 11 i (rowCells ((List.range i).map rowP)) oA ∧ (∀ A, oA = some A → s0.n ≤ A ∧ A ≠ Sb ∧ A ≠ Gb)
theorem pgWires {s0 : St} {Sb Gb : Nat} {f : Int} {S : List Int} (hw0 : Wf s0) (hro : ro ≤ s0.n) {i : Nat} (hi : i ≤ 8) {k rd : Int} (hrow : rj k rd i 4 = rowP i) {R : Nat} (hI : PgI ro s0 Sb Gb f S i s) (hR : s.at R = some (.cells (rj k rd i 0).cells 43 false)) (hRn : s0.n ≤ R) (hRS : R ≠ Sb) (hRG : R ≠ Gb) (hRo : ∀ v oA, s.at Gb = some (.cells ((permG f).cells v) 24 false) → Own s v 43 11 i (rowCells ((List.range i).map rowP)) oA → oA ≠ some R)
    {τ : Tau} {ds : List Deferred} {Qe : Ex → XK} (t5 : τ 5 = ptr Gb) (t6 : τ 6 = .int .i64 i) (t7 : τ 7 = ptr R)
    (hk : ∀ τ' al s', U τ' al 0 = τ 0 → U τ' al 3 = τ 3 → U τ' al 5 = τ 5 → U τ' al 6 = τ 6 → PgI ro s0 Sb Gb f S (i + 1) s' → Qe .normal τ' al ds s') :
    xp (prims P ro) none 88 k6_110100 c6_11010010011 [1, 1, 0, 0, 1] τ [] ds s Qe := by
  rw [n6_11010010011]
  unfold v6_11010010011
  simp (maxSteps := 10000000) only [wW, reduceCtorEq, Nat.reduceEqDiff]
  refine wloop l6_110100100110100 m6_110100100110100 (fun (j : Nat) τ' ds' s' => j ≤ 4 ∧ τ' 0 = τ 0 ∧ τ' 3 = τ 3 ∧ τ' 5 = ptr Gb ∧ τ' 6 = .int .i64 i ∧ τ' 7 = ptr R ∧ τ' 8 = .int .i64 j ∧ ds' = ds ∧ (∀ C, C ≠ R → s'.at C = s.at C) ∧ s'.n = s.n ∧ Wf s' ∧ Grew s0 s' ∧ s'.at R = some (.cells (rj k rd i j).cells 43 false)) (fun j => 4 - j) ?_ 0 ⟨by omega, ?_, ?_, ?_, ?_, ?_, ?_, rfl, fun _ _ => rfl, rfl, hI.wf, hI.grew, hR⟩
  · rintro j τ' ds' s' ⟨hj, a0, a3, a5, a6, a7, a8, rfl, rest, hn, wf, gr, hR'⟩
    rw [n6_110100100110100]
    unfold v6_110100100110100
    have hRc := acells_some hR'
    by_cases hlt : j < 4
    · simp (maxSteps := 10000000) only [wW, reduceCtorEq, Nat.reduceEqDiff, wL, Nat.reduceAdd, a6, a7, a8, hRc, wix _ _ hlt]
      rw [if_pos (by omega), wrap_i64 (n := 4 * (i : Int)) (by omega) (by omega), wrap_i64 (n := 4 * (i : Int) + j) (by omega) (by omega), wrap_i64 (n := (j : Int) + 1) (by omega) (by omega)]
      refine store1_rule isz_3 hR' wf (by omega) (by show 1 + j < 11; omega) rfl fun s2 p2 => ?_
      refine ⟨j + 1, by omega, by omega, ?_, ?_, ?_, ?_, ?_, ?_, trivial, fun C hC => (p2.rest C hC).trans (rest C hC), p2.n.trans hn, p2.wf, p2.grew _ hw0 gr hRn, ?_⟩
      · simp only [U, tset_eq, wW, reduceCtorEq, Nat.reduceEqDiff, a0]
      · simp only [U, tset_eq, wW, reduceCtorEq, Nat.reduceEqDiff, a3]
      · simp only [U, tset_eq, wW, reduceCtorEq, Nat.reduceEqDiff, a5]
      · simp only [U, tset_eq, wW, reduceCtorEq, Nat.reduceEqDiff, a6]
      · simp only [U, tset_eq, wW, reduceCtorEq, Nat.reduceEqDiff, a7]
      · simp only [U, tset_eq, wW, reduceCtorEq, Nat.reduceEqDiff]; rfl
      · rw [p2.here, rj_step k rd i hlt]
    · obtain rfl : j = 4 := by omega
      simp (maxSteps := 10000000) only [wW, reduceCtorEq, Nat.reduceEqDiff, a8]
      rw [if_neg (by omega)]
      obtain ⟨v, oA, hG, hO, hA⟩ := hI.ex
      have hG' : s'.at Gb = some (.cells ((permG f).cells v) 24 false) := (rest Gb (Ne.symm hRG)).trans hG
      have hoR := hRo v oA hG hO
      have hO' : Own s' v 43 11 i (rowCells ((List.range i).map rowP)) oA := hO.same fun A e => rest A (fun h => hoR (by rw [e, h]))
      simp (maxSteps := 10000000) only [U, tset_eq, wW, reduceCtorEq, Nat.reduceEqDiff, wL, Nat.reduceAdd, a5, a7, acells_some hG', hRc]
      have hGlt := St.at_lt hG
      have hSlt := St.at_lt hI.sb
      refine buildSlice_rule se_22 ty_43 wf [.agg (.mk (rj k rd i 4).cells)] rfl rfl (by decide) (fun v hv => by
        simp only [List.mem_cons, List.not_mem_nil, or_false] at hv
        subst hv
        rfl) fun A2 s4 m4 => ?_
      have e4 := m4.eq
      have n4 := m4.n
      have hx : Sl s4 (.slice (some ⟨A2, 0, none⟩) 1 1) 11 1 (rj k rd i 4).cells := m4.sl rfl
      have hO4 := hO'.grew m4.grew
      have hlim : (2 * (i + 1) + 1000) * 88 ≤ 2 ^ 47 := by omega
      refine append_rule se_22 (by kernel_rfl) ty_43 (by decide) (by decide) hO4 hx (by decide) m4.wf (fun A e => Nat.le_trans hro (hA A e).1) hlim rfl fun v' s5 hO5 ap => ?_
      have n5 := ap.n
      have hG5 : s5.at Gb = some (.cells ((permG f).cells v) 24 false) := (ap.rest Gb (by omega) (fun h => (hA Gb h).2.2 rfl)).trans ((m4.grew.same Gb (by omega)).trans hG')
      have hS5 : s5.at Sb = some (.cells (u4 S) 39 false) := (ap.rest Sb (by omega) (fun h => (hA Sb h).2.1 rfl)).trans ((m4.grew.same Sb (by omega)).trans ((rest Sb (Ne.symm hRS)).trans hI.sb))
      have g5 := ap.grew s0 hw0 (gr.trans m4.grew) (fun A e => (hA A e).1)
      have hgn := hI.gn
      have hgrn := gr.n
      refine store1_rule isz_22 hG5 ap.wf (by omega) (by show 4 < 5; decide) (by
        obtain ⟨e, _⟩ := hO5
        rw [e]; rfl) fun s6 p6 => ?_
      refine hk _ _ s6 ?_ ?_ ?_ ?_ ⟨p6.wf, p6.grew _ hw0 g5 hgn, (p6.rest Sb hI.ne).trans hS5, hI.ne, hgn, v', some s4.n, p6.here, ?_, fun A e => ?_⟩
      · simp only [U, tset_eq, wW, reduceCtorEq, Nat.reduceEqDiff, a0]
      · simp only [U, tset_eq, wW, reduceCtorEq, Nat.reduceEqDiff, a3]
      · simp only [U, tset_eq, wW, reduceCtorEq, Nat.reduceEqDiff, a5, t5]
      · simp only [U, tset_eq, wW, reduceCtorEq, Nat.reduceEqDiff, a6, t6]
      · have e : rowCells ((List.range (i + 1)).map rowP) = rowCells ((List.range i).map rowP) ++ (rj k rd i 4).cells := by
          rw [List.range_succ, List.map_append, hrow]
          unfold rowCells
          rw [List.flatMap_append]
          simp
        rw [e]
        exact hO5.same fun A e => p6.rest A (fun h => by cases e; omega)
      · cases e
        omega
  · simp only [U, tset_eq, wW, reduceCtorEq, Nat.reduceEqDiff]
  · simp only [U, tset_eq, wW, reduceCtorEq, Nat.reduceEqDiff]
  · simp only [U, tset_eq, wW, reduceCtorEq, Nat.reduceEqDiff, t5]
  · simp only [U, tset_eq, wW, reduceCtorEq, Nat.reduceEqDiff, t6]
  · simp only [U, tset_eq, wW, reduceCtorEq, Nat.reduceEqDiff, t7]
  · simp only [U, tset_eq, wW, reduceCtorEq, Nat.reduceEqDiff]; rfl
end
end Go.VE
/- The arguments of the laws of the gates; small. -/
namespace Go.VE
open Go Go.Proofs
set_option maxRecDepth 20000
theorem mn_int {n : Nat} {a : List Value} {s : St} (h : Mean P (n + 1) 3 a s) : ∃ i, a = [.int .i64 i] ∧ -(2 ^ 63) ≤ i ∧ i < 2 ^ 63 := by
  rw [me_3] at h
  obtain ⟨i, rfl, hi⟩ := h
  exact ⟨i, rfl, wf_i64 hi⟩
section
variable {ro : Nat} {s : St} {K : Value → St → Prop}
end
end Go.VE
/- GatesPerm. -/
namespace Go.VE
open Go Go.Proofs
set_option maxRecDepth 20000
section
variable {ro : Nat} {s : St} {K : Value → St → Prop}
theorem slFrom {t e : TypeId} {sz n : Nat} {cs : List Value} {v : Value} (hund : P.underlying t = some (.slice e)) (hs : isz P e = some sz) (hsz : 0 < sz) (h : Sl s v sz n cs) {k : Int} (h0 : 0 ≤ k) (hk : k < n) : ∃ w, Sl s w sz (n - k.toNat) (cs.drop (k.toNat * sz)) ∧
    ∀ (ty : TypeId) (s' : St) (K : Value → St → Prop), wop P ro (.slice t (.const v) (some (.const (.int .i64 k))) none none) ty s' K = K w s' := by
  obtain ⟨a, c, rfl, hl, ⟨hc, hnone, hsp⟩, hb⟩ := h
  have hkn : k.toNat < n := by omega
  have hmul : k.toNat * sz ≤ n * sz := Nat.mul_le_mul_right sz (by omega)
  obtain ⟨A, o, m, cells, tt, op, rfl, hm, hA, hcs⟩ := hb (by
    have : 0 < n * sz := Nat.mul_pos (by omega) hsz
    omega)
  have hm2 := hsp _ rfl
  simp only at hm2
  have hlen : (cs.drop (k.toNat * sz)).length = (n - k.toNat) * sz := by rw [List.length_drop, hl, Nat.sub_mul]
  have hhi : abound none n c = some n := rfl
  have hlo : abound (some (.int .i64 k)) 0 n = some k.toNat := by
    simp only [abound]
    rw [if_pos ⟨by omega, by omega⟩]
  have hblk : ∀ sp, mkOk sp = true → (n - k.toNat) * sz ≠ 0 → ∃ A' o' m' cells t op, some (⟨A, o + k.toNat * sz, sp⟩ : Addr) = some ⟨A', o', m'⟩ ∧ mkOk m' = true ∧ s.at A' = some (.cells cells t op) ∧ (cells.drop o').take ((n - k.toNat) * sz) = cs.drop (k.toNat * sz) := fun sp hsp' _ => by
    refine ⟨A, _, sp, cells, tt, op, rfl, hsp', hA, ?_⟩
    rw [← hcs, List.drop_take, List.drop_drop, Nat.sub_mul]
  rcases hm2 with rfl | ⟨rfl, hpos⟩
  · refine ⟨.slice (some ⟨A, o + k.toNat * sz, none⟩) (n - k.toNat) (c - k.toNat), ⟨_, _, rfl, hlen, ⟨by omega, fun h => (by cases h), fun x hx => (by cases hx; exact .inl rfl)⟩, hblk none rfl⟩, fun ty s' K => ?_⟩
    rw [wop_slice]
    have hne : ¬ c = k.toNat := by omega
    simp only [asliceOp, hund, hs, sliceTwo, Option.map_some, Option.map_none, aval, hhi, hlo, Option.bind_some, hne, if_false, wopt_some]
  · refine ⟨.slice (some ⟨A, o + k.toNat * sz, some 0⟩) (n - k.toNat) (c - k.toNat), ⟨_, _, rfl, hlen, ⟨by omega, fun h => (by cases h), fun x hx => (by cases hx; exact .inr ⟨rfl, by omega⟩)⟩, hblk (some 0) rfl⟩, fun ty s' K => ?_⟩
    rw [wop_slice]
    have hne : k.toNat < c := by omega
    simp only [asliceOp, hund, hs, sliceTwo, Option.map_some, Option.map_none, aval, hhi, hlo, Option.bind_some, hne, if_true, wopt_some]
theorem wPerm (f : Int) (hv : fV f = true) {l : List Int} (hl : l.length = 4) (hnn : ∀ x ∈ l, 0 ≤ x) (hw : Wf s) (hro : ro ≤ s.n) : CallWP P ro 19 [.int .i64 f, .agg (.mk (u4 l))] s K = K (.agg (.mk (u4 (pst f l 8)))) s := by
  refine callEq (call_wp b19 rfl ?_) K
  rw [n19]
  unfold v19
  simp (maxSteps := 10000000) only [wW, reduceCtorEq, Nat.reduceEqDiff]
  refine box_rule hw.ent fun S s1 m1 => ?_
  refine alloc_rule ty_39 m1.wf fun R s2 m2 => ?_
  simp (maxSteps := 10000000) only [wW, reduceCtorEq, Nat.reduceEqDiff, wrValid, hv, Bool.true_eq_false]
  have e1 := m1.eq
  have e2 := m2.eq
  have n1 := m1.n
  have n2 := m2.n
  have hn0 : (ent s).n = s.n := rfl
  have g2 := m1.grew.trans m2.grew
  have hS2 : s2.at S = some (.cells (u4 l) 39 false) := (m2.grew.same S (by omega)).trans m1.here
  have hR2 : ∃ c, s2.at R = some (.cells c 39 false) ∧ c.length = 4 := ⟨_, m2.here, rfl⟩
  refine wloop l19_110100 m19_110100 (fun (j : Nat) τ ds s' => j ≤ 8 ∧ τ 0 = .int .i64 f ∧ τ 3 = ptr S ∧ τ 4 = ptr R ∧ τ 5 = .int .i64 j ∧ ds = [] ∧ Vec (ent s) s' S (pst f l j) ∧ ∃ c, s'.at R = some (.cells c 39 false) ∧ c.length = 4) (fun j => 8 - j) ?_ 0 ⟨by omega, ?_, ?_, ?_, ?_, rfl, ⟨hS2, by omega, m2.wf, g2⟩, hR2⟩
  · rintro j τ ds s' ⟨hj, h0, h3, h4, h5, rfl, v3, hR3⟩
    rw [n19_110100]
    unfold v19_110100
    have hlj := pst_len f hl j
    have hnj := pst_nn hnn (f := f) j
    have hSh := v3.here
    have hgn := v3.grew.n
    by_cases hj8 : j < 8
    · have hnext : pst f l (j + 1) = roundM f j (pst f l j) := rfl
      generalize pst f l j = q at hlj hnj hSh hnext v3
      have hle : (u4 q).length = 4 := by rw [u4_len]; exact hlj
      simp (maxSteps := 10000000) only [wW, reduceCtorEq, Nat.reduceEqDiff, h0, h3, h5]
      rw [if_pos (by omega)]
      refine load_rule (load_all ap_39 hSh hle) ?_
      rw [wRound f (by omega) hv hlj hnj v3.wf (by omega), ← hnext]
      have hl2 := pst_len f hl (j + 1)
      generalize hq2 : pst f l (j + 1) = q2 at hl2 ⊢
      have hle2 : (u4 q2).length = 4 := by rw [u4_len]; exact hl2
      have hnew := v3.new
      obtain ⟨c, hc, hcl⟩ := hR3
      refine storeAll_rule isz_39 hSh hle2 (by decide) v3.wf (by omega) hle (u4_one _) fun s4 p4 => ?_
      rw [wrap_i64 (by omega) (by omega)]
      refine ⟨j + 1, by omega, by omega, ?_, ?_, ?_, ?_, trivial, ?_, c, (p4.rest R (by omega)).trans hc, hcl⟩
      · simp only [U, tset_eq, wW, reduceCtorEq, Nat.reduceEqDiff, h0]
      · simp only [U, tset_eq, wW, reduceCtorEq, Nat.reduceEqDiff, h3]
      · simp only [U, tset_eq, wW, reduceCtorEq, Nat.reduceEqDiff, h4]
      · simp only [U, tset_eq, wW, reduceCtorEq, Nat.reduceEqDiff]; rfl
      · rw [hq2]
        exact ⟨p4.here, hnew, p4.wf, p4.grew _ hw.ent v3.grew hnew⟩
    · obtain rfl : j = 8 := by omega
      simp (maxSteps := 10000000) only [wW, reduceCtorEq, Nat.reduceEqDiff, h5]
      rw [if_neg (by omega)]
      simp (maxSteps := 10000000) only [U, tset_eq, wW, reduceCtorEq, Nat.reduceEqDiff, h3, h4]
      obtain ⟨c, hc, hcl⟩ := hR3
      generalize pst f l 8 = q at hlj hnj hSh v3 ⊢
      have hle : (u4 q).length = 4 := by rw [u4_len]; exact hlj
      refine load_rule (load_all ap_39 hSh hle) ?_
      refine storeAll_rule isz_39 hc hle (by decide) v3.wf (by omega) hcl (u4_one _) fun s7 p7 => ?_
      refine load_rule (load_all ap_39 p7.here hle) ?_
      exact fin_flat (u4_flat hlj) (p7.grew _ hw.ent v3.grew (by omega)) ⟨rfl, rfl⟩
  · simp only [U, tset_eq, wW, reduceCtorEq, Nat.reduceEqDiff]
  · simp only [U, tset_eq, wW, reduceCtorEq, Nat.reduceEqDiff]
  · simp only [U, tset_eq, wW, reduceCtorEq, Nat.reduceEqDiff]
  · simp only [U, tset_eq, wW, reduceCtorEq, Nat.reduceEqDiff]; rfl
theorem u4_sl {A : Nat} {S : List Int} {t : TypeId} {op : Bool} (h : s.at A = some (.cells (u4 S) t op)) (hS : S.length = 4) : U64s s (.slice (some ⟨A, 0, none⟩) 4 4) S := by
  refine ⟨_, _, by rw [hS], by simp, ⟨by omega, fun h => (by cases h), fun x hx => by cases hx; exact .inl rfl⟩, fun _ => ⟨A, 0, none, _, _, _, rfl, rfl, h, ?_⟩⟩
  rw [List.drop_zero, Nat.mul_one, hS]
  unfold u4
  rw [List.take_of_length_le (by simp [hS])]
theorem sl39 (A o : Nat) (ty : TypeId) (s : St) (K : Value → St → Prop) : wop P ro (.slice 39 (.const (.pointer (some ⟨A, o, none⟩))) none none none) ty s K = K (.slice (some ⟨A, o, none⟩) 4 4) s := by
  have e : asliceOp P 39 (.pointer (some ⟨A, o, none⟩)) none none none = some (.slice (some ⟨A, o, none⟩) 4 4) := by kernel_rfl
  rw [wop_sliceArr]
  simp only [Option.map_none, e, wopt_some]
theorem PgI.mv {s0 s' : St} {Sb Gb : Nat} {f : Int} {S : List Int} {i : Nat} (h : PgI ro s0 Sb Gb f S i s) (wf : Wf s') (gr : Grew s0 s') (same : ∀ C, C < s.n → s'.at C = s.at C) : PgI ro s0 Sb Gb f S i s' := by
  obtain ⟨v, oA, hG, hO, hA⟩ := h.ex
  exact ⟨wf, gr, (same Sb (St.at_lt h.sb)).trans h.sb, h.ne, h.gn, v, oA, (same Gb (St.at_lt hG)).trans hG, hO.same fun A e => same A (by subst e; exact hO.lt), hA⟩
theorem pgLoop {s0 : St} {Sb Gb : Nat} {f : Int} {S : List Int} (hw0 : Wf s0) (hro : ro ≤ s0.n) (hI : PgI ro s0 Sb Gb f S 0 s)
    {τ : Tau} {Kr X : WK} {kx : WK} (t5 : τ 5 = ptr Gb) (t6 : τ 6 = .int .i64 0)
    (hk : ∀ τ' s', τ' 0 = τ 0 → τ' 3 = τ 3 → τ' 5 = τ 5 → PgI ro s0 Sb Gb f S 9 s' → kx τ' [] s') :
    WLoop P ro 88 none c6_110100 τ [] s Kr [(0, kx), (2, X)] := by
  refine wloop l6_110100 m6_110100 (fun (i : Nat) τ' ds s' => i ≤ 9 ∧ τ' 0 = τ 0 ∧ τ' 3 = τ 3 ∧ τ' 5 = ptr Gb ∧ τ' 6 = .int .i64 i ∧ ds = [] ∧ PgI ro s0 Sb Gb f S i s') (fun i => 9 - i) ?_ 0 ⟨by omega, rfl, rfl, t5, t6, rfl, hI⟩
  clear hI t6
  rintro i τ' ds s' ⟨hi, a0, a3, a5, a6, rfl, hI⟩
  rw [n6_110100]
  unfold v6_110100
  by_cases hlt : i < 9
  · simp (maxSteps := 10000000) only [wW, reduceCtorEq, Nat.reduceEqDiff, a6, bld3, bld0]
    rw [if_pos (by omega)]
    refine alloc_rule ty_43 hI.wf fun R s2 m2 => ?_
    have e2 := m2.eq
    have n2 := m2.n
    have gn := hI.grew.n
    have hgn := hI.gn
    have hSb := St.at_lt hI.sb
    have hGb : Gb < s'.n := by
      obtain ⟨v, oA, hG, _⟩ := hI.ex
      exact St.at_lt hG
    rw [← rj0 3 i i]
    refine storeAll_rule isz_43 m2.here (l := (rj 3 i i 0).cells) rfl (by decide) m2.wf (by omega) rfl rfl fun s3 p3 => ?_
    have g3 := p3.grew _ hw0 (hI.grew.trans m2.grew) (by omega)
    have hI3 := hI.mv p3.wf g3 fun C hC => (p3.rest C (by omega)).trans (m2.grew.same C hC)
    have n3 := p3.n
    have row : ∀ {k rd : Int} {s4 : St} {τ2 : Tau} {Q : Ex → WK}, rj k rd i 4 = rowP i → PgI ro s0 Sb Gb f S i s4 → s4.at R = some (.cells (rj k rd i 0).cells 43 false) → τ2 0 = τ 0 → τ2 3 = τ 3 → τ2 5 = ptr Gb → τ2 6 = .int .i64 i → τ2 7 = ptr R →
        (∀ τ'' s'', (∃ y, 9 - y < 9 - i ∧ y ≤ 9 ∧ τ'' 0 = τ 0 ∧ τ'' 3 = τ 3 ∧ τ'' 5 = ptr Gb ∧ τ'' 6 = .int .i64 (y : Nat) ∧ ([] : List Deferred) = [] ∧ PgI ro s0 Sb Gb f S y s'') → Q .normal τ'' [] s'') →
        xp (prims P ro) none 88 k6_110100 c6_11010010011 [1, 1, 0, 0, 1] τ2 [] [] s4 (blkX 1 (sX (prims P ro) none 88 k6_110100 c6_11010011 [1, 1] (lift Q))) := fun {k rd s4 τ2 Q} hrow hI4 hR4 b0 b3 b5 b6 b7 hQ => by
      refine pgWires hw0 hro (by omega) hrow hI4 hR4 (by omega) (by omega) (by omega) (fun v oA _ hO e => by subst e; obtain ⟨_, h, _⟩ := hO; have e := Option.some.inj (hR4.symm.trans h); injection e with _ _ e3; cases e3) b5 b6 b7 fun τ3 al s5 d0 d3 d5 d6 hI5 => ?_
      rw [blkX_n, sX_n (.lift _), n6_11010011]
      unfold v6_11010011
      rw [d6, b6]
      simp (maxSteps := 10000000) only [wW, reduceCtorEq, Nat.reduceEqDiff]
      rw [wrap_i64 (by omega) (by omega)]
      unfold lift
      refine hQ _ _ ⟨i + 1, by omega, by omega, ?_, ?_, ?_, ?_, rfl, hI5⟩
      · rw [← b0, ← d0]; simp only [U, tset_eq, wW, reduceCtorEq, Nat.reduceEqDiff]
      · rw [← b3, ← d3]; simp only [U, tset_eq, wW, reduceCtorEq, Nat.reduceEqDiff]
      · rw [← b5, ← d5]; simp only [U, tset_eq, wW, reduceCtorEq, Nat.reduceEqDiff]
      · simp only [U, tset_eq, wW, reduceCtorEq, Nat.reduceEqDiff]; rfl
    by_cases h8 : (i : Int) = 8
    · rw [if_pos h8]
      have hi8 : i = 8 := by omega
      rw [← rj0 0 0 i]
      refine storeAll_rule isz_43 p3.here (l := (rj 0 0 i 0).cells) rfl (by decide) p3.wf (by omega) rfl rfl fun s4 p4 => ?_
      have hI4 := hI.mv p4.wf (p4.grew _ hw0 g3 (by omega)) fun C hC => (p4.rest C (by omega)).trans ((p3.rest C (by omega)).trans (m2.grew.same C hC))
      refine row (k := 0) (rd := 0) (by rw [hi8]; exact rj_last) hI4 p4.here ?_ ?_ ?_ ?_ ?_ (fun _ _ h => h) <;> simp only [U, tset_eq, wW, reduceCtorEq, Nat.reduceEqDiff, a0, a3, a5, a6]
    · rw [if_neg h8]
      refine row (k := 3) (rd := i) (rj_row (by omega)) hI3 p3.here ?_ ?_ ?_ ?_ ?_ (fun _ _ h => h) <;> simp only [U, tset_eq, wW, reduceCtorEq, Nat.reduceEqDiff, a0, a3, a5, a6]
  · obtain rfl : i = 9 := by omega
    simp (maxSteps := 10000000) only [wW, reduceCtorEq, Nat.reduceEqDiff, a6]
    rw [if_neg (by omega)]
    refine hk _ _ ?_ ?_ ?_ hI
    · simp only [U, tset_eq, wW, reduceCtorEq, Nat.reduceEqDiff, a0]
    · simp only [U, tset_eq, wW, reduceCtorEq, Nat.reduceEqDiff, a3]
    · simp only [U, tset_eq, wW, reduceCtorEq, Nat.reduceEqDiff, a5, t5]
end
end Go.VE
/- GatesPerm at every start. -/
namespace Go.VE
open Go Go.Proofs
set_option maxRecDepth 20000
section
variable {ro : Nat} {s : St} {K : Value → St → Prop}
theorem permG_nn (f : Int) : ∀ r ∈ (permG f).rows, r.Nn := by
  intro r hr
  obtain ⟨i, _, rfl⟩ := List.mem_map.1 hr
  unfold rowP
  split <;> exact ⟨Int.le_refl 0, Int.le_refl 0, Int.le_refl 0, Int.le_refl 0, Int.le_refl 0⟩
theorem wGatesPerm (f : Int) {S : List Int} (hS : S.length = 4) (hSn : ∀ x ∈ S, 0 ≤ x) (hw : Wf s) (hro : ro ≤ s.n) (hF : FieldsAt s) (hr0 : 0 < ro) :
    CallWP P ro 6 [.int .i64 f, .agg (.mk (u4 S))] s fun v _ => v = .bool true := by
  refine call_wp b6 rfl ?_
  rw [n6]
  unfold v6
  simp (maxSteps := 10000000) only [wW, reduceCtorEq, Nat.reduceEqDiff, bldG]
  refine box_rule hw.ent fun Sb s1 m1 => ?_
  have e1 := m1.eq
  have n1 := m1.n
  have hn0 : (ent s).n = s.n := rfl
  refine alloc_rule ty_24 m1.wf fun Gb s2 m2 => ?_
  have e2 := m2.eq
  have n2 := m2.n
  refine storeAll_rule isz_24 m2.here (l := (permG f).cells (.slice none 0 0)) rfl (by decide) m2.wf (by omega) rfl rfl fun s3 p3 => ?_
  have g3 := p3.grew _ hw.ent (m1.grew.trans m2.grew) (by omega)
  have hI0 : PgI ro (ent s) Sb Gb f S 0 s3 := ⟨p3.wf, g3, (p3.rest Sb (by omega)).trans ((m2.grew.same Sb (by omega)).trans m1.here), by omega, by omega, _, none, p3.here, ⟨rfl, rfl, rfl⟩, fun A e => by cases e⟩
  refine pgLoop hw.ent hro hI0 ?_ ?_ fun τ s4 a0 a3 a5 hI => ?_
  · simp only [U, tset_eq, wW, reduceCtorEq, Nat.reduceEqDiff]
  · simp only [U, tset_eq, wW, reduceCtorEq, Nat.reduceEqDiff]
  have b0 : τ 0 = .int .i64 f := by rw [a0]; simp only [U, tset_eq, wW, reduceCtorEq, Nat.reduceEqDiff]
  have b3 : τ 3 = ptr Sb := by rw [a3]; simp only [U, tset_eq, wW, reduceCtorEq, Nat.reduceEqDiff]
  have b5 : τ 5 = ptr Gb := by rw [a5]; simp only [U, tset_eq, wW, reduceCtorEq, Nat.reduceEqDiff]
  clear hI0 p3 m2 m1
  obtain ⟨v, oA, hG, hO, hA⟩ := hI.ex
  have hr : RowsS s4 v (permG f).rows := by
    have h := hO.sl
    have e : (permG f).rows.length = 9 := by simp [permG]
    unfold RowsS
    rw [e]
    exact h
  have hnn := permG_nn f
  have wf4 := hI.wf
  have gn := hI.grew.n
  have hF4 : FieldsAt s4 := FieldsAt.grew (s := ent s) hF hI.grew
  have hU := u4_sl hI.sb hS
  have hgv := gcVeq (permG f) (slVeq hr)
  have hlen : (permG f).rows.length < 2 ^ 60 := by simp [permG]
  have nil : ∀ s : St, U64s s (.slice none 0 0) [] := fun s => Sl.nil _ _
  have live : ∀ {s : St} {K : Value → St → Prop}, CallWP P ro 9 [] s K = K (.bool true) s := fun {s K} => wLiv
  simp (maxSteps := 10000000) only [wW, reduceCtorEq, Nat.reduceEqDiff, wL, Nat.reduceAdd, b5, b3, acells_some hG, hgv, true_and, sl39]
  show CallWP P ro 13 [.agg (.mk ((permG f).cells v)), .slice (some ⟨Sb, 0, none⟩) 4 4, .slice none 0 0] s4 _
  refine wGRun (permG f) hnn wf4 (by omega) hF4 hr0 hr hlen hU (nil s4) hSn (fun x hx => by cases hx) (fun hbad => ?_) (fun hok v2 s5 g5 hv2 => ?_)
  · simp (maxSteps := 10000000) only [wW, reduceCtorEq, Nat.reduceEqDiff, wL, Nat.reduceAdd, wop_extract, List.getElem?_cons_zero, List.getElem?_cons_succ, wopt_some, acells_some hG, hgv, true_and, sl39, b5, b3]
    rw [if_pos (by decide)]
    show CallWP P ro 15 [.agg (.mk ((permG f).cells v)), .slice (some ⟨Sb, 0, none⟩) 4 4, .slice none 0 0] s4 _
    refine wRun (permG f) hnn wf4 (by omega) hr hlen hU (nil s4) hSn (fun x hx => by cases hx) (fun _ => ?_) (fun hok => absurd hok hbad)
    simp (maxSteps := 10000000) only [wW, reduceCtorEq, Nat.reduceEqDiff, wL, Nat.reduceAdd, wop_extract, List.getElem?_cons_zero, List.getElem?_cons_succ, wopt_some, live]
    rw [if_pos (by decide)]
    exact fin_K fun _ => rfl
  · have hv : fV f = true := by rw [← permG_valid]; exact hok.1
    have hv2' : U64s s5 v2 (vS f S 8) := by rw [← perm_vals f hS trivial]; exact hv2
    have hb : okM (permG f) (runV (permG f) S []).1 (permG f).rows.length = true := by rw [perm_vals f hS trivial]; exact perm_ok f hS
    rw [hb]
    have n5 := g5.n
    have hSb5 : s5.at Sb = some (.cells (u4 S) 39 false) := (g5.same Sb (St.at_lt hI.sb)).trans hI.sb
    simp (maxSteps := 10000000) only [wW, reduceCtorEq, Nat.reduceEqDiff, wL, Nat.reduceAdd, wop_extract, List.getElem?_cons_zero, List.getElem?_cons_succ, wopt_some, b0, b3]
    rw [if_neg (by decide)]
    have hle : (u4 S).length = 4 := by rw [u4_len]; exact hS
    have wf5 := wf4.grew g5
    rw [acells_some hSb5, wopt_some, u4_cut hS, wopt_some]
    show CallWP P ro 19 [.int .i64 f, .agg (.mk (u4 S))] s5 _
    rw [wPerm f hv hS hSn wf5 (by omega)]
    have hpl := pst_len f hS 8
    have hvl := vS_len f hS 8
    have hlast := perm_last f hS
    generalize pst f S 8 = q at hpl hlast ⊢
    generalize vS f S 8 = V at hv2' hvl hlast
    have hqe : (u4 q).length = 4 := by rw [u4_len]; exact hpl
    refine alloc_rule ty_39 wf5 fun Q s6 m6 => ?_
    have e6 := m6.eq
    have n6 := m6.n
    refine storeAll_rule isz_39 m6.here hqe (by decide) m6.wf (by omega) rfl (u4_one _) fun s7 p7 => ?_
    have n7 := p7.n
    have to7 : ∀ C, C < s5.n → s7.at C = s5.at C := fun C hC => (p7.rest C (by omega)).trans (m6.grew.same C hC)
    have hv7 : U64s s7 v2 V := Sl.grew hv2' to7
    have hQ7 := u4_sl p7.here hpl
    have hGlt := St.at_lt hG
    have to74 : ∀ C, C < s4.n → s7.at C = s4.at C := fun C hC => (to7 C (by omega)).trans (g5.same C hC)
    have hG7 : s7.at Gb = some (.cells ((permG f).cells v) 24 false) := (to74 Gb hGlt).trans hG
    have hr7 : RowsS s7 v (permG f).rows := Sl.grew hr to74
    obtain ⟨w, hws, hwop⟩ := slFrom (ro := ro) (t := 25) (sliceElem_un se_25) isz_38 (by decide) hv7 (k := 32) (by decide) (by rw [hvl]; decide)
    have hw7 : U64s s7 w q := by
      unfold U64s
      rw [hpl, ← hlast, List.map_drop]
      have e : V.length - (32 : Int).toNat = 4 := by rw [hvl]; rfl
      rw [e] at hws
      exact hws
    simp (maxSteps := 10000000) only [wW, reduceCtorEq, Nat.reduceEqDiff, hv7.wlen se_25, hvl]
    rw [if_pos (by decide)]
    rw [hwop]
    simp (maxSteps := 10000000) only [wW, reduceCtorEq, Nat.reduceEqDiff, sl39]
    rw [wEqual hw7 hQ7 (by rw [hpl]; decide), decide_eq_true rfl]
    have hF7 : FieldsAt s7 := FieldsAt.grew (s := s4) hF4 (p7.grew _ wf4 (g5.trans m6.grew) (by omega))
    simp (maxSteps := 10000000) only [wW, reduceCtorEq, Nat.reduceEqDiff, wL, Nat.reduceAdd, b5, acells_some hG7, hgv, true_and]
    show CallWP P ro 17 [.agg (.mk ((permG f).cells v))] s7 _
    rw [wGdepth (permG f) hnn p7.wf (by omega) hF7 hr7, permG_depth hv]
    simp (maxSteps := 10000000) only [wW, reduceCtorEq, Nat.reduceEqDiff, live]
    exact fin_K fun _ => rfl
end
theorem gp_args {al : List Value} {s : St} (h : Args P 8 [3, 39] al s) : ∃ f S, al = [.int .i64 f, .agg (.mk (u4 S))] ∧ S.length = 4 ∧ ∀ y ∈ S, 0 ≤ y := by
  obtain ⟨v1, r1, a1, rfl, hv1, hm1, v3, r3, a3, rfl, hv3, hm3, rfl⟩ := h
  rw [av_3] at hv1
  subst hv1
  rw [av_39] at hv3
  subst hv3
  obtain ⟨f, e1, _⟩ := mn_int hm1
  simp only [List.cons.injEq, and_true] at e1
  subst e1
  rw [me_39] at hm3
  obtain ⟨m, rfl, hm, hml⟩ := hm3
  simp only [me_38] at hml
  obtain ⟨S, hS, hSn, hSw⟩ := ints_flat hml
  exact ⟨f, S, by rw [hS]; rfl, by omega, fun i hi => (wf_u64 (hSw i hi)).1⟩
theorem gp_runs (laid : List (String × DataW Unit)) (h : startB laid = true) : LawRuns P 30 8 6 [3, 39] laid :=
  law_runs' h fun s al hw hF h0 ha => by
    obtain ⟨f, S, rfl, hS, hSn⟩ := gp_args ha
    exact wGatesPerm f hS hSn hw (Nat.le_refl _) hF h0
end Go.VE
