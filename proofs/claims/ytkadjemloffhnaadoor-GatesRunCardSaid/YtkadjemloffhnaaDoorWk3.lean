/-
  What the functions compute.
-/
import Derived.Test.YtkadjemloffhnaaDoorWk2
set_option linter.unusedSimpArgs false
set_option linter.unusedVariables false
/- The program's gates: Run's loops. -/
namespace Go.VE
open Go Go.Proofs
set_option maxRecDepth 20000
section
variable {ro : Nat} {K : Value → St → Prop} {g : Gp} {ur : Value} {G A B X Y : Nat}
theorem rgOk {s s2 : St} (hL : Limits g) (hnn : ∀ r ∈ g.rows, r.Nn) (hw : Wf s) (hF : FieldsAt s) (hr0 : 0 < ro) (hlen : g.rows.length < 2 ^ 60) {c : List Int × List Bool} (hI : RgI ro g ur (ent s) G A B X Y s2 c)
    (h1 : ∀ v s', Grew s s' → U64s s' v c.1 → K (.tuple (.mk [v, .bool (okM g c.1 g.rows.length), .int .i64 0])) s')
    {τ : Tau} {Kr : WK} (t3 : τ 3 = ptr G) (t9 : τ 9 = ptr X) (t17 : τ 17 = .bool true) (t146 : τ 146 = .int .i64 g.rows.length) (t147 : τ 147 = .int .i64 0) :
    WLoop P ro 160 none c13_11111111110100 τ [] s2 Kr
      [(7, fun τ50 ds50 s50 => wopt (aload P s50 25 (τ50 9)) fun v => wdefers P ro ds50 s50 fun s52 => wfin s K (Value.tuple { toList := [v, τ50 17, Value.int IntKind.i64 0] }) s52)] := by
  have hrl := hL.2.2.2.2.2.2.2.1
  refine wloop l13_11111111110100 m13_11111111110100 (fun (i : Nat) τ ds s' => i ≤ g.rows.length ∧ τ 3 = ptr G ∧ τ 9 = ptr X ∧ τ 17 = .bool (okM g c.1 i) ∧ τ 146 = .int .i64 g.rows.length ∧ τ 147 = .int .i64 i ∧ ds = [] ∧ s2 = s') (fun i => g.rows.length - i) ?_ 0 ⟨by omega, t3, t9, t17, t146, t147, rfl, rfl⟩
  clear t3 t9 t17 t146 t147
  rintro i τ ds s' ⟨hi, t3, t9, t17, t146, t147, rfl, rfl⟩
  rw [n13_11111111110100]
  unfold v13_11111111110100
  have hXc := acells_some hI.x
  have hRun := hI.run
  by_cases hlt : i < g.rows.length
  · have hl1 := hRun.l1
    have hfit := hL.fit hlt (hnn _ (List.mem_of_getElem? (rowAt_get hlt)))
    have hF2 : FieldsAt s2 := FieldsAt.grew (s := ent s) hF hRun.vv.grew
    have hgn := hRun.vv.grew.n
    have hro := hRun.ro
    simp (maxSteps := 10000000) only [wW, reduceCtorEq, Nat.reduceEqDiff, wL, Nat.reduceAdd, t3, t9, t17, t146, t147, hRun.gc, load1 ap_25, hXc, List.getElem?_cons_zero]
    rw [if_pos (by omega)]
    have hkw : IntKind.i64.wrap ((i : Int) + 1) = ((i + 1 : Nat) : Int) := by rw [wrap_i64 (by omega) (by omega)]; rfl
    cases hok : okM g c.1 i with
    | true =>
      rw [if_pos rfl]
      show CallWP P ro 23 [.agg (.mk (g.cells ur)), slc A g.nv.toNat, .int .i64 i] s2 _
      rw [wGholds g hL.1 hRun.vv.wf (by omega) hF2 hr0 hRun.rs hRun.sl hRun.nn (rowAt_get hlt) hlen (by rw [hl1]; exact hfit) (fun h3 => ⟨(hL.next hlt h3).1, fun k hk4 => by have := (hL.next hlt h3).2 k hk4; rw [nxt_eq]; omega⟩), hkw]
      refine ⟨i + 1, by omega, by omega, ?_, ?_, ?_, ?_, ?_, by first | trivial | rfl, by first | trivial | rfl⟩
      · simp only [U, tset_eq, wW, reduceCtorEq, Nat.reduceEqDiff, t3]
      · simp only [U, tset_eq, wW, reduceCtorEq, Nat.reduceEqDiff, t9]
      · simp only [U, tset_eq, wW, reduceCtorEq, Nat.reduceEqDiff]
        rw [okM, hok, Bool.true_and, nxt_eq]
      · simp only [U, tset_eq, wW, reduceCtorEq, Nat.reduceEqDiff, t146]
      · simp only [U, tset_eq, wW, reduceCtorEq, Nat.reduceEqDiff]
    | false =>
      rw [if_neg (by decide), hkw]
      refine ⟨i + 1, by omega, by omega, ?_, ?_, ?_, ?_, ?_, by first | trivial | rfl, by first | trivial | rfl⟩
      · simp only [U, tset_eq, wW, reduceCtorEq, Nat.reduceEqDiff, t3]
      · simp only [U, tset_eq, wW, reduceCtorEq, Nat.reduceEqDiff, t9]
      · simp only [U, tset_eq, wW, reduceCtorEq, Nat.reduceEqDiff]
        rw [okM, hok, Bool.false_and]
      · simp only [U, tset_eq, wW, reduceCtorEq, Nat.reduceEqDiff, t146]
      · simp only [U, tset_eq, wW, reduceCtorEq, Nat.reduceEqDiff]
  · obtain rfl : i = g.rows.length := by omega
    simp (maxSteps := 10000000) only [wW, reduceCtorEq, Nat.reduceEqDiff, t146, t147]
    rw [if_neg (by omega)]
    simp (maxSteps := 10000000) only [U, tset_eq, wW, reduceCtorEq, Nat.reduceEqDiff, t9, t17, load1 ap_25, hXc, List.getElem?_cons_zero]
    exact wfin_new hw hRun.vv.grew rfl fun s9 hg9 _ hat => h1 _ s9 hg9 (Sl.sameAt hRun.sl fun C o sp n cc e => hat C)
theorem rgRows {s s2 : St} (hL : Limits g) (hnn : ∀ r ∈ g.rows, r.Nn) (hw : Wf s) (hF : FieldsAt s) (hr0 : 0 < ro) (hlen : g.rows.length < 2 ^ 60) (hr : RowsS s ur g.rows) {c0 : List Int × List Bool} (hI : RgI ro g ur (ent s) G A B X Y s2 c0)
    (h1 : ∀ v s', Grew s s' → U64s s' v (it (runR g) g.rows.length c0).1 → K (.tuple (.mk [v, .bool (okM g (it (runR g) g.rows.length c0).1 g.rows.length), .int .i64 0])) s')
    {τ : Tau} {Kr Kr2 : WK} (t3 : τ 3 = ptr G) (t9 : τ 9 = ptr X) (t10 : τ 10 = ptr Y) (t12 : τ 12 = clo X Y) (t79 : τ 79 = ur) (t80 : τ 80 = .int .i64 g.rows.length) (t81 : τ 81 = .int .i64 0) :
    WLoop P ro 160 none c13_111111110100 τ [] s2 Kr
      [(2, fun τ46 ds46 s46 =>
          wopt (afieldAddr P 24 (τ46 3) 4) fun v =>
            wopt (aload P s46 22 v) fun v_2 =>
              wop P ro (Op.call { callee := Callee.builtin Builtin.len, args := { toList := [Operand.const v_2] }, argTypes := #[22] }) 3 s46 fun v146_49 s49 =>
                WLoop P ro 160 none c13_11111111110100 (U τ46 [(147, Value.int IntKind.i64 0), (146, v146_49), (145, v_2), (144, v), (17, Value.bool true)]) ds46 s49 Kr2
                  [(7, fun τ50 ds50 s50 => wopt (aload P s50 25 (τ50 9)) fun v => wdefers P ro ds50 s50 fun s52 => wfin s K (Value.tuple { toList := [v, τ50 17, Value.int IntKind.i64 0] }) s52)]),
        (5, fun _ _ _ => False)] := by
  have hrl := hL.2.2.2.2.2.2.2.1
  have hgl : ∀ s' K, wop P ro (.call ⟨.builtin .len, ⟨[.const ur]⟩, #[22]⟩) 3 s' K = K (.int .i64 (g.rows.length : Nat)) s' := fun s' K => Sl.wlen hr se_22 _ K
  refine wloop l13_111111110100 m13_111111110100 (fun (i : Nat) τ ds s' => i ≤ g.rows.length ∧ τ 3 = ptr G ∧ τ 9 = ptr X ∧ τ 10 = ptr Y ∧ τ 12 = clo X Y ∧ τ 79 = ur ∧ τ 80 = .int .i64 g.rows.length ∧ τ 81 = .int .i64 i ∧ ds = [] ∧ RgI ro g ur (ent s) G A B X Y s' (it (runR g) i c0)) (fun i => g.rows.length - i) ?_ 0 ⟨by omega, t3, t9, t10, t12, t79, t80, t81, rfl, hI⟩
  clear t3 t9 t10 t12 t79 t80 t81 hI
  rintro i τ ds s' ⟨hi, t3, t9, t10, t12, t79, t80, t81, rfl, hI⟩
  rw [n13_111111110100]
  unfold v13_111111110100
  by_cases hlt : i < g.rows.length
  · obtain ⟨A5, o5, c5, q1, q2⟩ := hI.run.rs.ix (rowAt_get hlt)
    simp (maxSteps := 10000000) only [wW, reduceCtorEq, Nat.reduceEqDiff, wL, Nat.reduceAdd, t3, t79, t80, t81, q1, q2.blk, q2.all]
    rw [if_pos (by omega)]
    refine alloc_rule ty_43 hI.run.vv.wf fun R s4 m4 => ?_
    have e4 := m4.eq
    have n4 := m4.n
    have gn := hI.run.vv.grew.n
    have hA4 := St.at_lt hI.run.vv.here
    have hB4 := St.at_lt hI.run.vb.here
    have hG4 := St.at_lt hI.run.gat
    have hX4 := St.at_lt hI.x
    have hY4 := St.at_lt hI.y
    have hI4 := hI.grew m4.grew
    refine storeAll_rule isz_43 m4.here (l := (rowAt g.rows i).cells) rfl (by decide) m4.wf (by have := hI.run.ro; omega) rfl rfl fun s5 p5 => ?_
    have g5 := p5.grew _ hI.run.w0 hI4.run.vv.grew (by omega)
    have hI5 : RgI ro g ur (ent s) G A B X Y s5 (it (runR g) i c0) := ⟨⟨⟨(p5.rest A (by omega)).trans hI4.run.vv.here, hI.run.vv.new, p5.wf, g5⟩, ⟨(p5.rest B (by omega)).trans hI4.run.vb.here, hI.run.vb.new, p5.wf, g5⟩, (p5.rest G (by omega)).trans hI4.run.gat, hI.run.l1, hI.run.l2, hI.run.w0, hI.run.ro, hI.run.rows, hI.run.ga, hI.run.gb, hI.run.ab, hI.run.nn⟩, (p5.rest X (by omega)).trans hI4.x, (p5.rest Y (by omega)).trans hI4.y, hI.xa, hI.xb, hI.ya, hI.yb⟩
    have hR5 : s5.at R = some (.cells (rowAt g.rows i).cells 43 false) := p5.here
    have hRc := acells_some hR5
    have hfit := hL.fit hlt (hnn _ (List.mem_of_getElem? (rowAt_get hlt)))
    have hqo : (rowAt g.rows i).qo ≠ 0 → (rowAt g.rows i).k = 1 := fun h => Decidable.byContradiction fun h1 => h (((hL.row hlt).1.2.2.2.2.1 _ (by simp [Row.qs])).2 h1)
    have hF5 : FieldsAt s5 := FieldsAt.grew (s := ent s) hF hI5.run.vv.grew
    have n5 := p5.n
    have hro := hI.run.ro
    have hkw : IntKind.i64.wrap ((i : Int) + 1) = ((i + 1 : Nat) : Int) := by rw [wrap_i64 (by omega) (by omega)]; rfl
    have hXc := acells_some hI5.x
    have hYc := acells_some hI5.y
    have hnext : ∀ {τ2 : Tau} {s6 : St}, Kp τ τ2 → RgI ro g ur (ent s) G A B X Y s6 (runB g.f (rowAt g.rows i) (rowAt g.rows (i + 1)) (runA g.f (rowAt g.rows i) (it (runR g) i c0))) → ∀ al : AL, U τ2 al 3 = τ2 3 → U τ2 al 9 = τ2 9 → U τ2 al 10 = τ2 10 → U τ2 al 12 = τ2 12 → U τ2 al 79 = τ2 79 → U τ2 al 80 = τ2 80 → U τ2 al 81 = .int .i64 ((i + 1 : Nat) : Int) →
        ∃ y, g.rows.length - y < g.rows.length - i ∧ y ≤ g.rows.length ∧ U τ2 al 3 = ptr G ∧ U τ2 al 9 = ptr X ∧ U τ2 al 10 = ptr Y ∧ U τ2 al 12 = clo X Y ∧ U τ2 al 79 = ur ∧ U τ2 al 80 = .int .i64 g.rows.length ∧ U τ2 al 81 = .int .i64 (y : Nat) ∧ RgI ro g ur (ent s) G A B X Y s6 (it (runR g) y c0) := fun {τ2 s6} kp h al b3 b9 b10 b12 b79 b80 b81 =>
      ⟨i + 1, by omega, by omega, b3.trans (kp.a3.trans t3), b9.trans (kp.a9.trans t9), b10.trans (kp.a10.trans t10), b12.trans (kp.a12.trans t12), b79.trans (kp.a79.trans t79), b80.trans (kp.a80.trans t80), b81, h⟩
    simp (maxSteps := 10000000) only [wW, reduceCtorEq, Nat.reduceEqDiff, wL, Nat.reduceAdd, t3, t9, t10, hRc, hI5.run.gc, hXc, hYc, load1 ap_25, load1 ap_52, load1 ap_4, List.getElem?_cons_zero]
    generalize hc : it (runR g) i c0 = c at hI5 hnext
    by_cases k3 : (rowAt g.rows i).k = 3
    · rw [if_pos k3]
      have hx := hfit.round k3
      show CallWP P ro 29 [.int .i64 g.f, .agg (.mk (rowAt g.rows i).cells), slc A g.nv.toNat] s5 _
      rw [wTurned g.f hL.1 hx.1 p5.wf (by omega) hF5 hr0 hI5.run.sl hI5.run.nn (fun k hk4 => by have := hx.2 k hk4; have := hI5.run.l1; omega)]
      have hA : runA g.f (rowAt g.rows i) c = c := by unfold runA; rw [if_neg (fun h => by have := h.1; omega)]
      rw [hA] at hnext
      unfold runB at hnext
      rw [if_pos k3] at hnext
      have hl2 := roundM_len g.f (rowAt g.rows i).rd (wv c.1 (rowAt g.rows i))
      have hn2 := roundM_nn g.f (rowAt g.rows i).rd (wv c.1 (rowAt g.rows i))
      generalize roundM g.f (rowAt g.rows i).rd (wv c.1 (rowAt g.rows i)) = q at hl2 hn2 hnext ⊢
      refine rgNext hL hI5 hlt k3 hl2 hn2 ?_ ?_ ?_ ?_ ?_ fun τ3 s6 kp hI6 => ?_
      · simp only [U, tset_eq, wW, reduceCtorEq, Nat.reduceEqDiff, t3]
      · simp only [U, tset_eq, wW, reduceCtorEq, Nat.reduceEqDiff, t12]
      · simp only [U, tset_eq, wW, reduceCtorEq, Nat.reduceEqDiff]
      · simp only [U, tset_eq, wW, reduceCtorEq, Nat.reduceEqDiff]
      · simp only [U, tset_eq, wW, reduceCtorEq, Nat.reduceEqDiff]
      · have kp' : Kp τ τ3 := by
          refine Kp.trans ?_ kp
          constructor <;> simp only [U, tset_eq, wW, reduceCtorEq, Nat.reduceEqDiff]
        have a81 := kp'.a81.trans t81
        simp (maxSteps := 10000000) only [wW, reduceCtorEq, Nat.reduceEqDiff, a81, hkw]
        obtain ⟨y, b1, b2, b3, b9, b10, b12, b79, b80, b81, bI⟩ := hnext kp' hI6 [(81, Value.int IntKind.i64 ((i + 1 : Nat) : Int)), (143, Value.int IntKind.i64 ((i + 1 : Nat) : Int))] rfl rfl rfl rfl rfl rfl rfl
        exact ⟨y, b1, b2, b3, b9, b10, b12, b79, b80, b81, by first | trivial | rfl, bI⟩
    · rw [if_neg k3]
      unfold runB at hnext
      rw [if_neg k3] at hnext
      have row : ∀ {b : Bool} {τ2 : Tau} {Q : Ex → WK}, τ2 112 = .bool b → (b = true ↔ (rowAt g.rows i).qo ≠ 0 ∧ atB c.2 (rowAt g.rows i).w2 = false) → Kp τ τ2 → τ2 14 = ptr R →
          (∀ τ' s', (∃ y, g.rows.length - y < g.rows.length - i ∧ y ≤ g.rows.length ∧ τ' 3 = ptr G ∧ τ' 9 = ptr X ∧ τ' 10 = ptr Y ∧ τ' 12 = clo X Y ∧ τ' 79 = ur ∧ τ' 80 = .int .i64 g.rows.length ∧ τ' 81 = .int .i64 (y : Nat) ∧ ([] : List Deferred) = [] ∧ RgI ro g ur (ent s) G A B X Y s' (it (runR g) y c0)) → Q .normal τ' [] s') →
          xp (prims P ro) none 160 k13_111111110100 c13_111111110100110010111 [1, 1, 1, 0, 1, 0, 0, 1, 1] τ2 [] [] s5 (blkX 4 (blkX 3 (sX (prims P ro) none 160 k13_111111110100 c13_111111110100111 [1, 1, 1] (lift Q)))) := fun {b τ2 Q} h112 hb kp h14 hQ => by
        refine rgArith hL (s0 := ent s) hF hI5 hlt hfit hqo hR5 (kp.a3.trans t3) (kp.a9.trans t9) (kp.a12.trans t12) h14 h112 hb fun al s6 kp2 hI6 => ?_
        have kp3 := kp.trans kp2
        have a81 := kp3.a81.trans t81
        rw [blkX_n, blkX_n, sX_n (.lift _), n13_111111110100111]
        unfold v13_111111110100111
        rw [a81]
        simp (maxSteps := 10000000) only [wW, reduceCtorEq, Nat.reduceEqDiff, hkw]
        unfold lift
        obtain ⟨y, b1, b2, b3, b9, b10, b12, b79, b80, b81, bI⟩ := hnext kp3 hI6 [(81, Value.int IntKind.i64 ((i + 1 : Nat) : Int)), (143, Value.int IntKind.i64 ((i + 1 : Nat) : Int))] rfl rfl rfl rfl rfl rfl rfl
        exact hQ _ _ ⟨y, b1, b2, b3, b9, b10, b12, b79, b80, b81, rfl, bI⟩
      by_cases kq : (rowAt g.rows i).qo = 0
      · rw [if_neg (by simpa using kq)]
        refine row (b := false) ?_ ⟨fun h => (by cases h), fun h => absurd kq h.1⟩ ?_ ?_ (fun _ _ h => h)
        · simp only [U, tset_eq, wW, reduceCtorEq, Nat.reduceEqDiff]
        · constructor <;> simp only [U, tset_eq, wW, reduceCtorEq, Nat.reduceEqDiff]
        · simp only [U, tset_eq, wW, reduceCtorEq, Nat.reduceEqDiff]
      · rw [if_pos kq]
        have hw2 : 0 ≤ (rowAt g.rows i).w2 ∧ (rowAt g.rows i).w2 < g.nv := hL.reads hlt (rds_2 (hqo kq) kq)
        have hixB := ixc se_52 isz_4 (A := B) (n := g.nv.toNat) (c := g.nv.toNat) (i := (rowAt g.rows i).w2) hw2.1 (by omega)
        have hgt := hI5.run.getB hw2.1 hw2.2
        rw [hixB, wopt_some, load1 ap_4, hI5.run.bc, Option.bind_some, hgt, wopt_some, wop_not]
        refine row (b := !(atB c.2 (rowAt g.rows i).w2)) ?_ ⟨fun h => ⟨kq, by simpa using h⟩, fun h => by simpa using h.2⟩ ?_ ?_ (fun _ _ h => h)
        · simp only [U, tset_eq, wW, reduceCtorEq, Nat.reduceEqDiff]
        · constructor <;> simp only [U, tset_eq, wW, reduceCtorEq, Nat.reduceEqDiff]
        · simp only [U, tset_eq, wW, reduceCtorEq, Nat.reduceEqDiff]
  · obtain rfl : i = g.rows.length := by omega
    simp (maxSteps := 10000000) only [wW, reduceCtorEq, Nat.reduceEqDiff, t80, t81]
    rw [if_neg (by omega)]
    simp (maxSteps := 10000000) only [U, tset_eq, wW, reduceCtorEq, Nat.reduceEqDiff, wL, Nat.reduceAdd, t3, hI.run.gc, hgl]
    refine rgOk hL hnn hw hF hr0 hlen hI h1 ?_ ?_ ?_ ?_ ?_
    · simp only [tset_eq, wW, reduceCtorEq, Nat.reduceEqDiff, t3]
    · simp only [tset_eq, wW, reduceCtorEq, Nat.reduceEqDiff, t9]
    · simp only [tset_eq, wW, reduceCtorEq, Nat.reduceEqDiff]
    · simp only [tset_eq, wW, reduceCtorEq, Nat.reduceEqDiff]
    · simp only [tset_eq, wW, reduceCtorEq, Nat.reduceEqDiff]
end
end Go.VE
/- The program's gates: Run. -/
namespace Go.VE
open Go Go.Proofs
set_option maxRecDepth 20000
theorem rep_set {α : Type} {x z : α} {N i : Nat} (hi : i < N) : (List.replicate i x ++ List.replicate (N - i) z).set i x = List.replicate (i + 1) x ++ List.replicate (N - (i + 1)) z := by
  rw [List.set_append_right _ _ (by simp), List.length_replicate, Nat.sub_self, show N - i = (N - (i + 1)) + 1 by omega, List.replicate_succ, List.set_cons_zero, List.replicate_succ', List.append_assoc]
  rfl
theorem cp_first {p : List Int} {N : Nat} (h : p.length ≤ N) : (List.replicate N (0 : Int)).take 0 ++ p.take (min p.length N) ++ (List.replicate N (0 : Int)).drop (0 + min p.length N) = p ++ List.replicate (N - p.length) 0 := by
  rw [List.take_zero, List.nil_append, Nat.min_eq_left h, List.take_length, Nat.zero_add, List.drop_replicate]
theorem cp_second {p q : List Int} {N : Nat} (h : p.length + q.length ≤ N) : (p ++ List.replicate (N - p.length) (0 : Int)).take p.length ++ q.take (min q.length (N - p.length)) ++ (p ++ List.replicate (N - p.length) (0 : Int)).drop (p.length + min q.length (N - p.length)) = p ++ q ++ List.replicate (N - (p.length + q.length)) 0 := by
  rw [List.take_left' rfl, Nat.min_eq_left (by omega), List.take_length, List.drop_append, List.drop_of_length_le (by omega), List.nil_append, List.drop_replicate]
  congr 2
  omega
def c0 (g : Gp) (pub sec : List Int) : List Int × List Bool := (pub ++ sec ++ List.replicate (g.nv.toNat - (pub.length + sec.length)) 0, List.replicate (pub.length + sec.length) true ++ List.replicate (g.nv.toNat - (pub.length + sec.length)) false)
theorem runI_get {pub sec : List Int} {N : Nat} (hN : pub.length + sec.length ≤ N) : ∀ {k : Nat}, k ≤ pub.length + sec.length →
    it (runI pub sec) k (List.replicate N 0, List.replicate N false) = ((pub ++ sec).take k ++ List.replicate (N - k) 0, List.replicate k true ++ List.replicate (N - k) false)
  | 0, _ => by rw [it, List.take_zero, List.nil_append]; rfl
  | k + 1, hk => by
    rw [it, runI_get hN (by omega), runI, setV, Int.toNat_natCast, rep_set (by omega)]
    have hl : k < (pub ++ sec).length := by rw [List.length_append]; omega
    have e : inp pub sec k = (pub ++ sec)[k] := by
      unfold inp
      by_cases h : k < pub.length
      · rw [if_pos h, List.getElem_append_left h]
        have := at0_get (l := pub) (i := (k : Int)) (by omega) (by omega)
        rw [Int.toNat_natCast, List.getElem?_eq_getElem h] at this
        exact (Option.some.inj this).symm
      · rw [if_neg h, List.getElem_append_right (by omega)]
        have := at0_get (l := sec) (i := (k : Int) - pub.length) (by omega) (by omega)
        rw [show ((k : Int) - pub.length).toNat = k - pub.length by omega, List.getElem?_eq_getElem (by omega)] at this
        exact (Option.some.inj this).symm
    have e2 : ((pub ++ sec).take k ++ List.replicate (N - k) 0).set k (inp pub sec k) = (pub ++ sec).take (k + 1) ++ List.replicate (N - (k + 1)) 0 := by
      have ht : ((pub ++ sec).take k).length = k := by rw [List.length_take]; omega
      rw [List.set_append_right _ _ (by omega), ht, Nat.sub_self, show N - k = (N - (k + 1)) + 1 by omega, List.replicate_succ, List.set_cons_zero, take_succ_eq (List.getElem?_eq_getElem hl), e, List.append_assoc]
      rfl
    rw [e2]
theorem runI_eq {g : Gp} {pub sec : List Int} (hp : (pub.length : Int) = g.pub) (hs : (sec.length : Int) = g.sec) (hN : g.pub + g.sec ≤ g.nv) : it (runI pub sec) (g.pub + g.sec).toNat (run0 g) = c0 g pub sec := by
  have e : (g.pub + g.sec).toNat = pub.length + sec.length := by omega
  rw [e]
  unfold run0
  rw [runI_get (by omega) (Nat.le_refl _), List.take_of_length_le (by rw [List.length_append]; exact Nat.le_refl _)]
  rfl
theorem Vc.lift {α : Type} {e : TypeId} {mk : α → Value} {s0 s1 s : St} {A : Nat} {l : List α} (h : Vc e mk s1 s A l) (hg : Grew s0 s1) : Vc e mk s0 s A l := ⟨h.here, Nat.le_trans hg.n h.new, h.wf, hg.trans h.grew⟩
section
variable {ro : Nat} {K : Value → St → Prop}
theorem slu_from (A n c : Nat) (hc : c ≤ n) : asliceOp P 25 (slc A n) (some (.int .i64 (c : Int))) none none = some (.slice (some ⟨A, if n = c then 0 else c, none⟩) (n - c) (n - c)) := by
  have hlo : abound (some (.int .i64 (c : Int))) 0 n = some c := by
    simp only [abound]
    rw [if_pos (by omega)]; rfl
  have hhi : abound none n n = some n := rfl
  simp only [asliceOp, sliceElem_un se_25, isz_38, sliceTwo, hhi, hlo, Option.bind_some, Nat.mul_one, Nat.zero_add]
  by_cases h : n = c
  · rw [if_pos h, if_pos h]
  · rw [if_neg h, if_neg h]
theorem wGRun (g : Gp) (hnn : ∀ r ∈ g.rows, r.Nn) {s : St} {ur pv sv : Value} {pub sec : List Int} (hw : Wf s) (hro : ro ≤ s.n) (hF : FieldsAt s) (hr0 : 0 < ro) (hr : RowsS s ur g.rows) (hlen : g.rows.length < 2 ^ 60) (hp : U64s s pv pub) (hs : U64s s sv sec) (hpn : ∀ x ∈ pub, 0 ≤ x) (hsn : ∀ x ∈ sec, 0 ≤ x)
    (h0 : ¬ runOk g pub sec → K (.tuple (.mk [.slice none 0 0, .bool false, .int .i64 1])) s)
    (h1 : runOk g pub sec → ∀ v s', Grew s s' → U64s s' v (runV g pub sec).1 → K (.tuple (.mk [v, .bool (okM g (runV g pub sec).1 g.rows.length), .int .i64 0])) s') :
    CallWP P ro 13 [.agg (.mk (g.cells ur)), pv, sv] s K := by
  refine call_wp b13 rfl ?_
  rw [n13]
  unfold v13
  simp (maxSteps := 10000000) only [wW, reduceCtorEq, Nat.reduceEqDiff]
  refine box_rule hw.ent fun G s1 m1 => ?_
  have e1 := m1.eq
  have n1 := m1.n
  have hn0 : (ent s).n = s.n := rfl
  have hG1 : s1.at G = some (.cells (g.cells ur) 24 false) := m1.here
  have hG := acells_some hG1
  have hF1 : FieldsAt s1 := FieldsAt.grew (s := ent s) hF m1.grew
  have hr1 : RowsS s1 ur g.rows := (Sl.ent hr).grew m1.grew.same
  have hp1 : U64s s1 pv pub := (Sl.ent hp).grew m1.grew.same
  have hs1 : U64s s1 sv sec := (Sl.ent hs).grew m1.grew.same
  have no : ¬ runOk g pub sec → wfin s K (.tuple (.mk [.slice none 0 0, .bool false, .int .i64 1])) s1 := fun hf => fin_flat rfl m1.grew (h0 hf)
  simp (maxSteps := 10000000) only [wW, reduceCtorEq, Nat.reduceEqDiff, wL, Nat.reduceAdd, hG]
  show CallWP P ro 16 [.agg (.mk (g.cells ur))] s1 _
  rw [wGvalid g hnn m1.wf (by omega) hF1 hr1]
  simp (maxSteps := 10000000) only [wW, reduceCtorEq, Nat.reduceEqDiff, wL, Nat.reduceAdd, hG, hp1.wlen se_25, hs1.wlen se_25]
  by_cases c1 : validM g = true
  · have hL0 : Limits g := by
      unfold validM at c1
      simp only [Bool.and_eq_true, decide_eq_true_eq] at c1
      exact c1.1
    have hpl := hL0.2.2.1
    have hsl := hL0.2.2.2.2.1
    rw [if_neg (by simp [c1])]
    by_cases c2 : (pub.length : Int) = g.pub
    · rw [if_neg (by simpa using c2)]
      by_cases c3 : (sec.length : Int) = g.sec
      · rw [if_neg (by simpa using c3), wElements g.f hp1 (by omega) m1.wf (show ro ≤ s1.n by omega) hF1]
        simp (maxSteps := 10000000) only [wW, reduceCtorEq, Nat.reduceEqDiff, wL, Nat.reduceAdd, hG]
        by_cases c4 : below g.f pub = true
        · rw [if_neg (by simp [c4]), wElements g.f hs1 (by omega) m1.wf (show ro ≤ s1.n by omega) hF1]
          simp (maxSteps := 10000000) only [wW, reduceCtorEq, Nat.reduceEqDiff, wL, Nat.reduceAdd, hG]
          by_cases c5 : below g.f sec = true
          · rw [if_neg (by simp [c5])]
            have hOk : runOk g pub sec := ⟨c1, c2, c3, c4, c5⟩
            have hL : Limits g := by
              unfold validM at c1
              simp only [Bool.and_eq_true, decide_eq_true_eq] at c1
              exact c1.1
            clear no c1 c4 c5
            have hnv := hL.nv
            have hrl := hL.2.2.2.2.2.2.2.1
            have hps5 := hL.2.2.2.2.2.1
            refine make_rule (mk := Value.int .u64) (x := 0) se_25 ty_38 rfl m1.wf hnv.1 (by omega) (by decide) fun A s2 m2 => ?_
            have e2 := m2.eq
            have n2 := m2.n
            refine alloc_rule ty_25 m2.wf fun X s3 m3 => ?_
            have e3 := m3.eq
            have n3 := m3.n
            refine store1_rule isz_25 m3.here m3.wf (by omega) (by decide) rfl fun s4 p4 => ?_
            have n4 := p4.n
            have g3 := (m1.grew.trans m2.grew).trans m3.grew
            have g4 := p4.grew _ hw.ent g3 (by omega)
            have hG4 : s4.at G = some (.cells (g.cells ur) 24 false) := (p4.rest G (by omega)).trans ((m3.grew.same G (by omega)).trans ((m2.grew.same G (by omega)).trans hG1))
            rw [acells_some hG4, wopt_some, gc1, wopt_some]
            refine make_rule (mk := Value.bool) (x := false) se_52 ty_4 rfl p4.wf hnv.1 (by omega) (by decide) fun B s5 m5 => ?_
            have e5 := m5.eq
            have n5 := m5.n
            refine alloc_rule ty_52 m5.wf fun Y s6 m6 => ?_
            have e6 := m6.eq
            have n6 := m6.n
            refine store1_rule isz_52 m6.here m6.wf (by omega) (by decide) rfl fun s7 p7 => ?_
            have n7 := p7.n
            have g7 := p7.grew _ hw.ent ((g4.trans m5.grew).trans m6.grew) (by omega)
            have to7 : ∀ C, C < s5.n → s7.at C = s5.at C := fun C hC => (p7.rest C (by omega)).trans (m6.grew.same C hC)
            have to7' : ∀ C, C < s4.n → s7.at C = s4.at C := fun C hC => (to7 C (by omega)).trans (m5.grew.same C hC)
            have hG7 := (to7' G (by omega)).trans hG4
            have hX7 : s7.at X = some (.cells [slc A g.nv.toNat] 25 false) := (to7' X (by omega)).trans p4.here
            have hY7 : s7.at Y = some (.cells [slc B g.nv.toNat] 52 false) := p7.here
            have V7 : Vc 38 (.int .u64) (ent s) s7 A (List.replicate g.nv.toNat 0) := ⟨(to7' A (by omega)).trans ((p4.rest A (by omega)).trans ((m3.grew.same A (by omega)).trans m2.here)), by omega, p7.wf, g7⟩
            have B7 : s7.at B = some (.cells ((List.replicate g.nv.toNat false).map .bool) 4 false) := (to7 B (by omega)).trans m5.here
            simp (maxSteps := 10000000) only [load1 ap_25, acells_some hX7, Option.bind_some, List.getElem?_cons_zero, wopt_some]
            refine V7.copy se_25 isz_38 hw.ent hro (by simp) ((Sl.ent hp).grew g7.same) (fun _ => rfl) fun s8 V8 r8 n8 => ?_
            rw [cp_first (by omega)] at V8
            have hX8 := (r8 X (by omega)).trans hX7
            have hG8 := (r8 G (by omega)).trans hG7
            have hsl8 : asliceOp P 25 (slc A g.nv.toNat) (some (.int .i64 g.pub)) none none = some (.slice (some ⟨A, if g.nv.toNat = pub.length then 0 else pub.length, none⟩) (g.nv.toNat - pub.length) (g.nv.toNat - pub.length)) := by
              rw [← c2]
              exact slu_from _ _ _ (by omega)
            simp (maxSteps := 10000000) only [wW, reduceCtorEq, Nat.reduceEqDiff, wL, Nat.reduceAdd, load1 ap_25, acells_some hX8, acells_some hG8, Option.bind_some, List.getElem?_cons_zero, wopt_some, wop_slice, aval, Option.map_some, Option.map_none, hsl8]
            have hl8 : (pub ++ List.replicate (g.nv.toNat - pub.length) (0 : Int)).length = g.nv.toNat := by rw [List.length_append, List.length_replicate]; omega
            refine V8.copy se_25 isz_38 hw.ent hro (by rw [hl8]; split <;> omega) ((Sl.ent hs).grew V8.grew.same) (fun _ => rfl) fun s9 V9 r9 n9 => ?_
            have e9 : (pub ++ List.replicate (g.nv.toNat - pub.length) (0 : Int)).take (if g.nv.toNat = pub.length then 0 else pub.length) ++ sec.take (min sec.length (g.nv.toNat - pub.length)) ++ (pub ++ List.replicate (g.nv.toNat - pub.length) (0 : Int)).drop ((if g.nv.toNat = pub.length then 0 else pub.length) + min sec.length (g.nv.toNat - pub.length)) = (c0 g pub sec).1 := by
              by_cases hq : g.nv.toNat = pub.length
              · have hsec : sec = [] := List.length_eq_zero_iff.1 (by omega)
                subst hsec
                rw [if_pos hq]
                unfold c0
                simp
              · rw [if_neg hq]
                exact cp_second (by omega)
            rw [e9] at V9
            have hG9 := (r9 G (by omega)).trans hG8
            have hI0 : RgI ro g ur (ent s) G A B X Y s9 ((c0 g pub sec).1, List.replicate 0 true ++ List.replicate (g.nv.toNat - 0) false) :=
              ⟨⟨V9, ⟨(r9 B (by omega)).trans ((r8 B (by omega)).trans B7), by omega, V9.wf, V9.grew⟩, hG9, by unfold c0; simp; omega, by simp, hw.ent, hro, Sl.ent hr, by omega, by omega, by omega, fun x hx => ?_⟩, (r9 X (by omega)).trans hX8, (r9 Y (by omega)).trans ((r8 Y (by omega)).trans hY7), by omega, by omega, by omega, by omega⟩
            · simp (maxSteps := 10000000) only [wW, reduceCtorEq, Nat.reduceEqDiff, wL, Nat.reduceAdd, acells_some hG9]
              rw [wrap_i64 (n := g.pub + g.sec) (by omega) (by omega)]
              have hpsn : ((g.pub + g.sec).toNat : Int) = g.pub + g.sec := by omega
              have hpsl : (g.pub + g.sec).toNat = pub.length + sec.length := by omega
              have h1' := h1 hOk
              have hV : runV g pub sec = it (runR g) g.rows.length (c0 g pub sec) := by unfold runV; rw [runI_eq c2 c3 hps5]
              rw [hV] at h1'
              have hgl : ∀ s' K, wop P ro (.call ⟨.builtin .len, ⟨[.const ur]⟩, #[22]⟩) 3 s' K = K (.int .i64 (g.rows.length : Nat)) s' := fun s' K => Sl.wlen hr se_22 _ K
              refine wloop l13_1111110100 m13_1111110100 (fun (i : Nat) τ ds s' => i ≤ (g.pub + g.sec).toNat ∧ τ 3 = ptr G ∧ τ 9 = ptr X ∧ τ 10 = ptr Y ∧ τ 69 = .int .i64 (g.pub + g.sec) ∧ τ 70 = .int .i64 i ∧ ds = [] ∧ RgI ro g ur (ent s) G A B X Y s' ((c0 g pub sec).1, List.replicate i true ++ List.replicate (g.nv.toNat - i) false)) (fun i => (g.pub + g.sec).toNat - i) ?_ 0 ⟨by omega, rfl, rfl, rfl, rfl, rfl, rfl, hI0⟩
              clear hI0 V9 V8 V7 r9 r8 hX8 hX7 hY7 hG9 hG8 hG7 hG4 to7 to7' B7 p7 m6 m5 p4 m3 m2
              rintro i τ ds s' ⟨hi, t3, t9, t10, t69, t70, rfl, hI⟩
              rw [n13_1111110100]
              unfold v13_1111110100
              have hYc := acells_some hI.y
              by_cases hlt : i < (g.pub + g.sec).toNat
              · have hix := ixc se_52 isz_4 (A := B) (n := g.nv.toNat) (c := g.nv.toNat) (i := (i : Int)) (by omega) (by omega)
                simp (maxSteps := 10000000) only [wW, reduceCtorEq, Nat.reduceEqDiff, wL, Nat.reduceAdd, t10, t69, t70, load1 ap_52, hYc, List.getElem?_cons_zero, hix]
                rw [if_pos (by omega)]
                refine hI.run.storeB (i := (i : Int)) (by omega) (by omega) fun s2 hI2 r2 => ?_
                rw [wrap_i64 (by omega) (by omega)]
                refine ⟨i + 1, by omega, by omega, ?_, ?_, ?_, ?_, ?_, trivial, ?_, (r2 X hI.xb).trans hI.x, (r2 Y hI.yb).trans hI.y, hI.xa, hI.xb, hI.ya, hI.yb⟩
                · simp only [U, tset_eq, wW, reduceCtorEq, Nat.reduceEqDiff, t3]
                · simp only [U, tset_eq, wW, reduceCtorEq, Nat.reduceEqDiff, t9]
                · simp only [U, tset_eq, wW, reduceCtorEq, Nat.reduceEqDiff, t10]
                · simp only [U, tset_eq, wW, reduceCtorEq, Nat.reduceEqDiff, t69]
                · simp only [U, tset_eq, wW, reduceCtorEq, Nat.reduceEqDiff]; rfl
                · rw [Int.toNat_natCast, rep_set (by omega)] at hI2
                  exact hI2
              · obtain rfl : i = (g.pub + g.sec).toNat := by omega
                simp (maxSteps := 10000000) only [wW, reduceCtorEq, Nat.reduceEqDiff, t69, t70]
                rw [if_neg (by omega)]
                simp (maxSteps := 10000000) only [U, tset_eq, wW, reduceCtorEq, Nat.reduceEqDiff, wL, Nat.reduceAdd, t3, t9, t10, hI.run.gc, hgl]
                rw [hpsl] at hI
                refine rgRows hL hnn hw hF hr0 hlen hr hI h1' ?_ ?_ ?_ ?_ ?_ ?_ ?_
                · simp only [tset_eq, wW, reduceCtorEq, Nat.reduceEqDiff, t3]
                · simp only [tset_eq, wW, reduceCtorEq, Nat.reduceEqDiff, t9]
                · simp only [tset_eq, wW, reduceCtorEq, Nat.reduceEqDiff, t10]
                · simp only [tset_eq, wW, reduceCtorEq, Nat.reduceEqDiff]; rfl
                · simp only [tset_eq, wW, reduceCtorEq, Nat.reduceEqDiff]
                · simp only [tset_eq, wW, reduceCtorEq, Nat.reduceEqDiff]
                · simp only [tset_eq, wW, reduceCtorEq, Nat.reduceEqDiff]
            · unfold c0 at hx
              rw [List.mem_append, List.mem_append] at hx
              rcases hx with (hx | hx) | hx
              · exact hpn x hx
              · exact hsn x hx
              · rw [List.eq_of_mem_replicate hx]; exact Int.le_refl 0
          · rw [if_pos (by simpa using c5)]
            exact no fun h => c5 h.2.2.2.2
        · rw [if_pos (by simpa using c4)]
          exact no fun h => c4 h.2.2.2.1
      · rw [if_pos (by simpa using c3)]
        exact no fun h => c3 h.2.2.1
    · rw [if_pos (by simpa using c2)]
      exact no fun h => c2 h.2.1
  · rw [if_pos (by simpa using c1)]
    exact no fun h => c1 h.1
end
end Go.VE
/- The arguments of the laws of the gates; small. -/
namespace Go.VE
open Go Go.Proofs
set_option maxRecDepth 20000
theorem mn_int {n : Nat} {a : List Value} {s : St} (h : Mean P (n + 1) 3 a s) : ∃ i, a = [.int .i64 i] ∧ -(2 ^ 63) ≤ i ∧ i < 2 ^ 63 := by
  rw [me_3] at h
  obtain ⟨i, rfl, hi⟩ := h
  exact ⟨i, rfl, wf_i64 hi⟩
theorem mn_u64 {n : Nat} {a : List Value} {s : St} (h : Mean P (n + 1) 38 a s) : ∃ i, a = [.int .u64 i] ∧ 0 ≤ i ∧ i < 2 ^ 64 := by
  rw [me_38] at h
  obtain ⟨i, rfl, hi⟩ := h
  exact ⟨i, rfl, wf_u64 hi⟩
theorem row_of {n : Nat} {a : List Value} {s : St} (h : Mean P (n + 3) 43 a s) : ∃ r : Row, a = r.cells ∧ r.Nn := by
  rw [me_43] at h
  simp only [Parts] at h
  obtain ⟨x0, y0, rfl, h0, x1, y1, rfl, h1, x2, y2, rfl, h2, x3, y3, rfl, h3, x4, y4, rfl, h4, x5, y5, rfl, h5, x6, y6, rfl, h6, x7, y7, rfl, h7, rfl⟩ := h
  rw [me_40] at h0
  obtain ⟨k, rfl, hk⟩ := h0
  rw [me_41] at h1
  obtain ⟨l, rfl, hl, hm⟩ := h1
  obtain ⟨q1, rfl, z1, _⟩ := mn_u64 h2
  obtain ⟨q2, rfl, z2, _⟩ := mn_u64 h3
  obtain ⟨q3, rfl, z3, _⟩ := mn_u64 h4
  obtain ⟨q4, rfl, z4, _⟩ := mn_u64 h5
  obtain ⟨q5, rfl, z5, _⟩ := mn_u64 h6
  obtain ⟨rd, rfl, _⟩ := mn_int h7
  match l, hl, hm with
  | [a0, a1, a2, a3], _, hm =>
    obtain ⟨w0, rfl, _⟩ := mn_int (hm a0 (by simp)).2
    obtain ⟨w1, rfl, _⟩ := mn_int (hm a1 (by simp)).2
    obtain ⟨w2, rfl, _⟩ := mn_int (hm a2 (by simp)).2
    obtain ⟨w3, rfl, _⟩ := mn_int (hm a3 (by simp)).2
    exact ⟨⟨k, w0, w1, w2, w3, q1, q2, q3, q4, q5, rd⟩, rfl, ⟨z1, z2, z3, z4, z5⟩⟩
theorem rows_of : ∀ {l : List (List Value)} (_ : ∀ c ∈ l, ∃ r : Row, c = r.cells ∧ r.Nn), ∃ L : List Row, l.flatten = rowCells L ∧ L.length = l.length ∧ ∀ r ∈ L, r.Nn
  | [], _ => ⟨[], rfl, rfl, fun q hq => by cases hq⟩
  | c :: l, h => by
    obtain ⟨p, rfl, hp⟩ := h c (by simp)
    obtain ⟨L, h1, h2, h3⟩ := rows_of (l := l) fun c hc => h c (by simp [hc])
    refine ⟨p :: L, ?_, by simp [h2], fun q hq => ?_⟩
    · rw [List.flatten_cons, h1]; rfl
    · rcases List.mem_cons.1 hq with rfl | hq
      · exact hp
      · exact h3 q hq
theorem gates_of {n : Nat} {a : List Value} {s : St} (h : Mean P (n + 5) 24 a s) : ∃ (g : Gp) (ur : Value), a = g.cells ur ∧ RowsS s ur g.rows ∧ (∀ r ∈ g.rows, r.Nn) ∧ g.rows.length ≤ maxLen := by
  rw [me_24] at h
  simp only [Parts] at h
  obtain ⟨x0, y0, rfl, h0, x1, y1, rfl, h1, x2, y2, rfl, h2, x3, y3, rfl, h3, x4, y4, rfl, h4, rfl⟩ := h
  obtain ⟨f, rfl, _⟩ := mn_int h0
  obtain ⟨nv, rfl, _⟩ := mn_int h1
  obtain ⟨pub, rfl, _⟩ := mn_int h2
  obtain ⟨sec, rfl, _⟩ := mn_int h3
  rw [me_22] at h4
  obtain ⟨u, l, rfl, hlen, hs, hl⟩ := h4
  obtain ⟨L, hL, hn, hnn⟩ := rows_of (l := l) fun c hc => row_of (hl c hc).2
  refine ⟨⟨f, nv, pub, sec, L⟩, u, rfl, ?_, hnn, by rw [hn]; exact hlen⟩
  unfold RowsS
  rw [hn, ← hL]
  exact hs
theorem u64s_of {n : Nat} {a : List Value} {s : St} (h : Mean P (n + 2) 25 a s) : ∃ (u : Value) (l : List Int), a = [u] ∧ U64s s u l ∧ (∀ x ∈ l, 0 ≤ x) ∧ l.length ≤ maxLen := by
  rw [me_25] at h
  obtain ⟨u, l, rfl, hlen, hs, hl⟩ := h
  simp only [me_38] at hl
  obtain ⟨V, hV, hn, hVw⟩ := ints_flat hl
  refine ⟨u, V, rfl, ?_, fun i hi => (wf_u64 (hVw i hi)).1, by rw [hn]; exact hlen⟩
  unfold U64s
  rw [hn, ← hV]
  exact hs
section
variable {ro : Nat} {s : St} {K : Value → St → Prop}
theorem errEql (a : Int) (ty : TypeId) (s : St) (K : Value → St → Prop) : wop P ro (.binOp .eql 28 (.const (.int .i64 a)) (.const (.int .i64 a)) 4) ty s K = K (.bool true) s := by
  rw [wop_int, int_eql keq_i64, wopt_some, decide_eq_true rfl]
theorem wSmall (g : Gp) {ur : Value} (hw : Wf s) (hr : RowsS s ur g.rows) : CallWP P ro 8 [.agg (.mk (g.cells ur))] s K = K (.bool (decide (g.nv ≤ 300 ∧ g.rows.length ≤ 300))) s := by
  refine callEq (call_wp b8 rfl ?_) K
  rw [n8]
  unfold v8
  simp (maxSteps := 10000000) only [wW, reduceCtorEq, Nat.reduceEqDiff]
  refine box_rule hw.ent fun G s1 m1 => ?_
  have hG := acells_some (show s1.at G = some (.cells (g.cells ur) 24 false) from m1.here)
  have hr1 : RowsS s1 ur g.rows := (Sl.ent hr).grew m1.grew.same
  have hgl : ∀ s' K, wop P ro (.call ⟨.builtin .len, ⟨[.const ur]⟩, #[22]⟩) 3 s' K = K (.int .i64 (g.rows.length : Nat)) s' := fun s' K => Sl.wlen hr1 se_22 _ K
  simp (maxSteps := 10000000) only [wW, reduceCtorEq, Nat.reduceEqDiff, wL, Nat.reduceAdd, hG, hgl]
  by_cases c : g.nv ≤ 300
  · rw [if_pos c]
    refine fin_flat rfl m1.grew ⟨?_, rfl⟩
    congr 1
    exact decide_eq_decide.2 ⟨fun h => ⟨c, by omega⟩, fun h => by have := h.2; omega⟩
  · rw [if_neg c]
    refine fin_flat rfl m1.grew ⟨?_, rfl⟩
    rw [decide_eq_false (fun h => c h.1)]
end
end Go.VE
/- GatesRun at every start. -/
namespace Go.VE
open Go Go.Proofs
set_option maxRecDepth 20000
theorem it_inv {α : Type} {p : α → Nat} {f : Nat → α → α} (h : ∀ n x, p (f n x) = p x) : ∀ (n : Nat) (x : α), p (it f n x) = p x
  | 0, _ => rfl
  | n + 1, x => by rw [it, h, it_inv h n]
theorem setV_len (w x : Int) (c : List Int × List Bool) : (setV w x c).1.length = c.1.length := by unfold setV; simp
theorem runA_len (f : Int) (r : Row) (c : List Int × List Bool) : (runA f r c).1.length = c.1.length := by
  unfold runA
  split
  · exact setV_len _ _ _
  · rfl
theorem runN_len (l : List Int) (nx : Row) (k : Nat) (c : List Int × List Bool) : (runN l nx k c).1.length = c.1.length := by
  unfold runN
  split
  · exact setV_len _ _ _
  · rfl
theorem runR_len (g : Gp) (i : Nat) (c : List Int × List Bool) : (runR g i c).1.length = c.1.length := by
  unfold runR runB
  split
  · rw [it_inv (p := fun c : List Int × List Bool => c.1.length) (fun n x => runN_len _ _ n x), runA_len]
  · exact runA_len _ _ _
theorem runI_len (pub sec : List Int) (i : Nat) (c : List Int × List Bool) : (runI pub sec i c).1.length = c.1.length := setV_len _ _ _
theorem runV_len (g : Gp) (pub sec : List Int) : (runV g pub sec).1.length = g.nv.toNat := by
  unfold runV
  rw [it_inv (p := fun c : List Int × List Bool => c.1.length) (runR_len g), it_inv (p := fun c : List Int × List Bool => c.1.length) (runI_len pub sec)]
  simp [run0]
section
variable {ro : Nat} {s : St} {K : Value → St → Prop}
theorem wGatesRun (g : Gp) (hnn : ∀ r ∈ g.rows, r.Nn) {ur pv sv : Value} {pub sec : List Int} (hw : Wf s) (hro : ro ≤ s.n) (hF : FieldsAt s) (hr0 : 0 < ro) (hr : RowsS s ur g.rows) (hp : U64s s pv pub) (hs : U64s s sv sec) (hpn : ∀ x ∈ pub, 0 ≤ x) (hsn : ∀ x ∈ sec, 0 ≤ x) :
    CallWP P ro 5 [.agg (.mk (g.cells ur)), pv, sv] s fun v _ => v = .bool true := by
  refine call_wp b5 rfl ?_
  rw [n5]
  unfold v5
  simp (maxSteps := 10000000) only [wW, reduceCtorEq, Nat.reduceEqDiff]
  refine box_rule hw.ent fun G s1 m1 => ?_
  have e1 := m1.eq
  have n1 := m1.n
  have hn0 : (ent s).n = s.n := rfl
  have hG1 : s1.at G = some (.cells (g.cells ur) 24 false) := m1.here
  have hF1 : FieldsAt s1 := FieldsAt.grew (s := ent s) hF m1.grew
  have hr1 : RowsS s1 ur g.rows := (Sl.ent hr).grew m1.grew.same
  have hp1 : U64s s1 pv pub := (Sl.ent hp).grew m1.grew.same
  have hs1 : U64s s1 sv sec := (Sl.ent hs).grew m1.grew.same
  have live : ∀ {s : St} {K : Value → St → Prop}, CallWP P ro 9 [] s K = K (.bool true) s := fun {s K} => wLiv
  rw [wop_load, load_all ap_24 hG1 rfl, wopt_some, wSmall g m1.wf hr1]
  simp (maxSteps := 10000000) only [wW, reduceCtorEq, Nat.reduceEqDiff, wL, Nat.reduceAdd, acells_some hG1, live]
  by_cases c1 : g.nv ≤ 300 ∧ g.rows.length ≤ 300
  · rw [if_neg (fun h => h c1)]
    have hlen : g.rows.length < 2 ^ 60 := by omega
    have hgv := gcVeq g (slVeq hr)
    have hb : ∀ b : Bool, (b == b) = true := fun b => by cases b <;> rfl
    show CallWP P ro 13 [.agg (.mk (g.cells ur)), pv, sv] s1 _
    refine wGRun g hnn m1.wf (by omega) hF1 hr0 hr1 hlen hp1 hs1 hpn hsn (fun hbad => ?_) (fun hok v2 s2 g2 hv2 => ?_)
    · simp (maxSteps := 10000000) only [wW, reduceCtorEq, Nat.reduceEqDiff, wL, Nat.reduceAdd, wop_extract, List.getElem?_cons_zero, List.getElem?_cons_succ, wopt_some, acells_some hG1]
      show CallWP P ro 15 [.agg (.mk (g.cells ur)), pv, sv] s1 _
      refine wRun g hnn m1.wf (by omega) hr1 hlen hp1 hs1 hpn hsn (fun _ => ?_) (fun hok => absurd hok hbad)
      simp (maxSteps := 10000000) only [wW, reduceCtorEq, Nat.reduceEqDiff, wL, Nat.reduceAdd, wop_extract, List.getElem?_cons_zero, List.getElem?_cons_succ, wopt_some, acells_some hG1, hgv, true_and]
      show CallWP P ro 16 [.agg (.mk (g.cells ur))] s1 _
      rw [wGvalid g hnn m1.wf (by omega) hF1 hr1]
      refine ⟨.refl _, ?_⟩
      show CallWP P ro 12 [.agg (.mk (g.cells ur))] s1 _
      rw [wValid g m1.wf (by omega) hr1 hlen]
      simp (maxSteps := 10000000) only [wW, reduceCtorEq, Nat.reduceEqDiff, wL, Nat.reduceAdd, bool_eql, hb, acells_some hG1, hgv, true_and]
      show CallWP P ro 17 [.agg (.mk (g.cells ur))] s1 _
      rw [wGdepth g hnn m1.wf (by omega) hF1 hr1]
      refine ⟨.refl _, ?_⟩
      show CallWP P ro 18 [.agg (.mk (g.cells ur))] s1 _
      rw [wRdepth g m1.wf (by omega) hr1 hlen]
      simp (maxSteps := 10000000) only [wW, reduceCtorEq, Nat.reduceEqDiff, decide_true, wEqual (show U64s s1 (.slice none 0 0) [] from Sl.nil _ _) (show U64s s1 (.slice none 0 0) [] from Sl.nil _ _) (show ([] : List Int).length < 2 ^ 60 by decide), bool_eql, hb, errEql, live]
      exact fin_K fun _ => rfl
    · simp (maxSteps := 10000000) only [wW, reduceCtorEq, Nat.reduceEqDiff, wL, Nat.reduceAdd, wop_extract, List.getElem?_cons_zero, List.getElem?_cons_succ, wopt_some]
      have n2 := g2.n
      have hG2 : s2.at G = some (.cells (g.cells ur) 24 false) := (g2.same G (by omega)).trans hG1
      have wf2 := m1.wf.grew g2
      have hr2 : RowsS s2 ur g.rows := Sl.grew hr1 g2.same
      simp (maxSteps := 10000000) only [wW, reduceCtorEq, Nat.reduceEqDiff, wL, Nat.reduceAdd, wop_extract, List.getElem?_cons_zero, List.getElem?_cons_succ, wopt_some, acells_some hG2]
      show CallWP P ro 15 [.agg (.mk (g.cells ur)), pv, sv] s2 _
      refine wRun g hnn wf2 (by omega) hr2 hlen (Sl.grew hp1 g2.same) (Sl.grew hs1 g2.same) hpn hsn (fun hbad => absurd hok hbad) (fun _ v3 s3 g3 hv3 => ?_)
      have n3 := g3.n
      have hG3 : s3.at G = some (.cells (g.cells ur) 24 false) := (g3.same G (by omega)).trans hG2
      have wf3 := wf2.grew g3
      have hr3 : RowsS s3 ur g.rows := Sl.grew hr2 g3.same
      have hF3 : FieldsAt s3 := FieldsAt.grew (FieldsAt.grew hF1 g2) g3
      have hv2' : U64s s3 v2 (runV g pub sec).1 := Sl.grew hv2 g3.same
      have hvl : (runV g pub sec).1.length < 2 ^ 60 := by
        rw [runV_len]
        omega
      generalize okM g (runV g pub sec).1 g.rows.length = b
      simp (maxSteps := 10000000) only [wW, reduceCtorEq, Nat.reduceEqDiff, wL, Nat.reduceAdd, wop_extract, List.getElem?_cons_zero, List.getElem?_cons_succ, wopt_some, acells_some hG3, hgv, true_and]
      show CallWP P ro 16 [.agg (.mk (g.cells ur))] s3 _
      rw [wGvalid g hnn wf3 (by omega) hF3 hr3]
      refine ⟨.refl _, ?_⟩
      show CallWP P ro 12 [.agg (.mk (g.cells ur))] s3 _
      rw [wValid g wf3 (by omega) hr3 hlen]
      simp (maxSteps := 10000000) only [wW, reduceCtorEq, Nat.reduceEqDiff, wL, Nat.reduceAdd, bool_eql, hb, acells_some hG3, hgv, true_and]
      show CallWP P ro 17 [.agg (.mk (g.cells ur))] s3 _
      rw [wGdepth g hnn wf3 (by omega) hF3 hr3]
      refine ⟨.refl _, ?_⟩
      show CallWP P ro 18 [.agg (.mk (g.cells ur))] s3 _
      rw [wRdepth g wf3 (by omega) hr3 hlen]
      simp (maxSteps := 10000000) only [wW, reduceCtorEq, Nat.reduceEqDiff, decide_true, wEqual hv2' hv3 hvl, bool_eql, hb, errEql, live]
      exact fin_K fun _ => rfl
  · rw [if_pos c1]
    exact fin_K fun _ => rfl
end
theorem gr_args {al : List Value} {s : St} (h : Args P 8 [24, 25, 25] al s) : ∃ (g : Gp) (ur pv sv : Value) (pub sec : List Int), al = [.agg (.mk (g.cells ur)), pv, sv] ∧ RowsS s ur g.rows ∧ (∀ r ∈ g.rows, r.Nn) ∧ (U64s s pv pub ∧ ∀ x ∈ pub, 0 ≤ x) ∧ (U64s s sv sec ∧ ∀ x ∈ sec, 0 ≤ x) := by
  obtain ⟨v1, r1, a1, rfl, hv1, hm1, v2, r2, a2, rfl, hv2, hm2, v3, r3, a3, rfl, hv3, hm3, rfl⟩ := h
  rw [av_24] at hv1
  subst hv1
  rw [av_25] at hv2 hv3
  subst hv2 hv3
  obtain ⟨g, ur, rfl, hr, hnn, _⟩ := gates_of hm1
  obtain ⟨u, pub, e2, hu, hpos, _⟩ := u64s_of hm2
  obtain ⟨u', sec, e3, hu', hpos', _⟩ := u64s_of hm3
  simp only [List.cons.injEq, and_true] at e2 e3
  subst e2 e3
  exact ⟨g, ur, _, _, pub, sec, rfl, hr, hnn, ⟨hu, hpos⟩, ⟨hu', hpos'⟩⟩
theorem gr_runs (laid : List (String × DataW Unit)) (h : startB laid = true) : LawRuns P 30 8 5 [24, 25, 25] laid :=
  law_runs' h fun s al hw hF h0 ha => by
    obtain ⟨g, ur, pv, sv, pub, sec, rfl, hr, hnn, hp, hs⟩ := gr_args ha
    exact wGatesRun g hnn hw (Nat.le_refl _) hF h0 hr hp.1 hs.1 hp.2 hs.2
end Go.VE
