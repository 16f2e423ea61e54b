/-
  What the functions compute.
-/
import Derived.Test.YteamclmopokioaaDoorWk1
set_option linter.unusedSimpArgs false
set_option linter.unusedVariables false
/- What a step returns on a nil or zero builder: minus ones. -/
namespace Go.VE
open Go Go.Proofs
set_option maxRecDepth 20000

/-- How many variables a step returns. -/
def cnt (m : Int) : Nat := if m = 3 ∨ m = 4 ∨ m = 5 ∨ m = 15 then 0 else if m = 7 ∨ m = 12 then 4 else if m = 13 then 5 else if m = 8 ∨ m = 9 ∨ m = 10 ∨ m = 11 then 2 else 1

section
variable {ro : Nat} {s : St} {b : Value} {K : Value → St → Prop}

theorem ret_slice {s1 s2 : St} {A n : Nat} {l : List Int} {e : TypeId} {op : Bool} (hw : Wf s) (hg : Grew (Go.VE.ent s) s2) (hA : s2.at A = some (.cells (l.map (.int .i64)) e op)) (hl : l.length = n) (hK : ∀ w s', Grew s s' → Ints s' w l → K w s') : wfin s K (.slice (some ⟨A, 0, none⟩) n n) s2 := by
  subst hl
  refine wfin_sl (sz := 1) (n := l.length) (cs := l.map (.int .i64)) hw hg ⟨_, _, rfl, by simp, ⟨Nat.le_refl _, fun h => (by cases h), fun x hx => by cases hx; exact .inl rfl⟩, fun _ => ⟨A, 0, none, _, e, op, rfl, rfl, hA, by rw [List.drop_zero, List.take_of_length_le (by simp)]⟩⟩ fun s' hg' hs => hK _ s' hg' hs

/-- An array in a cell, as a slice. -/
theorem ret4 {s1 : St} {A : Nat} {c : List Value} {T : TypeId} {op : Bool} (hw : Wf s) (hw1 : Wf s1) (hro : ro ≤ s.n) (hA0 : s.n ≤ A) (hg : Grew (Go.VE.ent s) s1) (hA : s1.at A = some (.cells c T op)) (hc : c.length = 4) (x0 x1 x2 x3 : Int) (hK : ∀ w s', Grew s s' → Ints s' w [x0, x1, x2, x3] → K w s') :
    wop P ro (.store 53 (.const (.pointer (some ⟨A, 0, none⟩))) (.const (.agg (.mk [.int .i64 x0, .int .i64 x1, .int .i64 x2, .int .i64 x3])))) 0 s1 fun _ s2 =>
      wop P ro (.slice 53 (.const (.pointer (some ⟨A, 0, none⟩))) none none none) 30 s2 fun v s3 => wfin s K v s3 := by
  refine storeAll_rule isz_53 hA rfl (by decide) hw1 (by omega) hc rfl fun s2 p2 => ?_
  refine sliceAll_rule un_53 isz_3 (by decide) ?_
  exact ret_slice (s1 := s1) (l := [x0, x1, x2, x3]) hw (p2.grew _ hw.ent hg hA0) p2.here rfl hK

theorem ret4' {s1 : St} {A : Nat} {c : List Value} {T : TypeId} {op : Bool} (hw : Wf s) (hw1 : Wf s1) (hro : ro ≤ s.n) (hA0 : s.n ≤ A) (hg : Grew (Go.VE.ent s) s1) (hA : s1.at A = some (.cells c T op)) (hc : c.length = 4) (x0 x1 x2 x3 : Int) (hK : ∀ w s', Grew s s' → Ints s' w [x0, x1, x2, x3] → K w s') :
    wop P ro (.store 53 (.const (.pointer (some ⟨A, 0, none⟩))) (.const (.agg (.mk [.int .i64 x0, .int .i64 x1, .int .i64 x2, .int .i64 x3])))) 0 s1 fun _ s2 =>
      (s1.n ≤ s2.n ∧ wop P ro (.slice 53 (.const (.pointer (some ⟨A, 0, none⟩))) none none none) 30 s2 fun v s3 => wfin s K v s3) := by
  refine storeAll_rule isz_53 hA rfl (by decide) hw1 (by omega) hc rfl fun s2 p2 => ⟨by rw [p2.n]; exact Nat.le_refl _, ?_⟩
  refine sliceAll_rule un_53 isz_3 (by decide) ?_
  exact ret_slice (s1 := s1) (l := [x0, x1, x2, x3]) hw (p2.grew _ hw.ent hg hA0) p2.here rfl hK

theorem ret2 {s1 : St} {A : Nat} {c : List Value} {T : TypeId} {op : Bool} (hw : Wf s) (hw1 : Wf s1) (hro : ro ≤ s.n) (hA0 : s.n ≤ A) (hg : Grew (Go.VE.ent s) s1) (hA : s1.at A = some (.cells c T op)) (hc : c.length = 2) (x0 x1 : Int) (hK : ∀ w s', Grew s s' → Ints s' w [x0, x1] → K w s') :
    wop P ro (.store 47 (.const (.pointer (some ⟨A, 0, none⟩))) (.const (.agg (.mk [.int .i64 x0, .int .i64 x1])))) 0 s1 fun _ s2 =>
      (s1.n ≤ s2.n ∧ wop P ro (.slice 47 (.const (.pointer (some ⟨A, 0, none⟩))) none none none) 30 s2 fun v s3 => wfin s K v s3) := by
  refine storeAll_rule isz_47 hA rfl (by decide) hw1 (by omega) hc rfl fun s2 p2 => ⟨by rw [p2.n]; exact Nat.le_refl _, ?_⟩
  refine sliceAll_rule un_47 isz_3 (by decide) ?_
  exact ret_slice (s1 := s1) (l := [x0, x1]) hw (p2.grew _ hw.ent hg hA0) p2.here rfl hK

theorem ret2' {s1 : St} {A : Nat} {c : List Value} {T : TypeId} {op : Bool} (hw : Wf s) (hw1 : Wf s1) (hro : ro ≤ s.n) (hA0 : s.n ≤ A) (hg : Grew (Go.VE.ent s) s1) (hA : s1.at A = some (.cells c T op)) (hc : c.length = 2) (x0 x1 : Int) (hK : ∀ w s', Grew s s' → Ints s' w [x0, x1] → K w s') :
    wop P ro (.store 47 (.const (.pointer (some ⟨A, 0, none⟩))) (.const (.agg (.mk [.int .i64 x0, .int .i64 x1])))) 0 s1 fun _ s2 =>
      wop P ro (.slice 47 (.const (.pointer (some ⟨A, 0, none⟩))) none none none) 30 s2 fun v s3 => wfin s K v s3 := by
  refine storeAll_rule isz_47 hA rfl (by decide) hw1 (by omega) hc rfl fun s2 p2 => ?_
  refine sliceAll_rule un_47 isz_3 (by decide) ?_
  exact ret_slice (s1 := s1) (l := [x0, x1]) hw (p2.grew _ hw.ent hg hA0) p2.here rfl hK

/-- One number as a slice. -/
theorem ret1 {s1 : St} (hw : Wf s) (hw1 : Wf s1) (hg : Grew (Go.VE.ent s) s1) (x : Int) (hK : ∀ w s', Grew s s' → Ints s' w [x] → K w s') :
    wop P ro (.buildSlice 30 1 ⟨[(0, .const (.int .i64 x))]⟩) 30 s1 fun v s2 => wfin s K v s2 := by
  refine buildSlice_rule se_30 ty_3 hw1 [.int .i64 x] rfl rfl (by decide) (by simp [Value.cells]) fun A s2 m2 => ?_
  exact ret_slice (s1 := s1) (l := [x]) hw (hg.trans m2.grew) m2.here rfl hK

theorem ret1' {s1 : St} (hw : Wf s) (hw1 : Wf s1) (hg : Grew (Go.VE.ent s) s1) (x : Int) (hK : ∀ w s', Grew s s' → Ints s' w [x] → K w s') :
    wop P ro (.buildSlice 30 1 ⟨[(0, .const (.int .i64 x))]⟩) 30 s1 fun v s2 => (FreshOk s1 s2 ∧ wfin s K v s2) := by
  refine buildSlice_rule se_30 ty_3 hw1 [.int .i64 x] rfl rfl (by decide) (by simp [Value.cells]) fun A s2 m2 => ⟨m2.fresh (by simp [veqL, veq, Value.cells]), ?_⟩
  exact ret_slice (s1 := s1) (l := [x]) hw (hg.trans m2.grew) m2.here rfl hK

theorem ret0 {s1 : St} (hw : Wf s) (hg : Grew (Go.VE.ent s) s1) (hK : ∀ w s', Grew s s' → Ints s' w [] → K w s') : wfin s K (.slice none 0 0) s1 :=
  wfin_sl hw hg (.nil s1 1) fun s' hg' hs => hK _ s' hg' hs

theorem dProgram (hd : Dead s b) (hw : Wf s) (hro : ro ≤ s.n) {v : Value} {d X Y Z : Int} {V : List Int} (hv : StepV s v d V X Y Z) (hK : ∀ w s', Grew s s' → Ints s' w (List.replicate (cnt (d % 17)) (-1)) → K w s') : CallWP P ro 35 [b, v] s K := by
  refine call_wp b35 rfl ?_
  rw [n35]
  unfold v35
  simp (maxSteps := 10000000) only [pr_wop, pr_call, pr_wcall, pr_wdefer, pr_defers, pr_loop, pr_range, pr_fin, pr_hold, xdefers_eq, xcallv_fn, wopt_some, wopt_none, wopt_map, wopt_bind, wopt_ite, wdec_true, wdec_false, wdec_bool, wop_fieldAddr, wop_field, wop_index_agg, wop_build, wop_nilCheck, wop_int, wop_not, wop_extract, int_add keq_i64, int_sub keq_i64, int_mul keq_i64, int_add keq_u64, int_sub keq_u64, int_mul keq_u64, int_eql keq_i64, int_eql keq_u64, int_eql keq_u8, int_eql keq_u32, int_neq keq_i64, int_neq keq_u64, int_neq keq_u8, int_neq keq_u32, int_lss keq_i64, int_lss keq_u64, int_lss keq_u8, int_lss keq_u32, int_leq keq_i64, int_leq keq_u64, int_leq keq_u8, int_leq keq_u32, int_gtr keq_i64, int_gtr keq_u64, int_gtr keq_u8, int_gtr keq_u32, int_geq keq_i64, int_geq keq_u64, int_geq keq_u8, int_geq keq_u32, int_rem keq_i64, int_rem keq_u64, int_rem keq_u8, int_quo keq_u64, int_quo keq_i64, n_new, lo_new, n_ent, lo_ent, at_ent, Option.bind_some, Option.map_some, decide_eq_true_eq, Bool.not_eq_true', decide_eq_false_iff_not, Bool.not_true, Bool.not_false, ne_eq, if_true, if_false, reduceCtorEq, eq_self, Nat.zero_add, Nat.add_zero, not_false_eq_true, thenW_normal, thenW_ret, thenW_exit, outs_ret, outs_exit, kOf_cons, wdefers_nil, Nat.reduceEqDiff]
  refine box_rule hw.ent fun A s1 m1 => ?_
  obtain ⟨⟨u, rfl, hV⟩, hd0, hz0, hl0⟩ := id hv
  have hv1 := hv.ent.grew m1.grew
  have hd1 := hd.ent.grew m1.grew
  have hro1 : ro ≤ s1.n := Nat.le_trans hro m1.grew.n
  have hl : aload P s1 79 (.pointer (some ⟨A, 0, none⟩)) = some (.agg (.mk [.int .u8 d, u, .int .u64 X, .int .u64 Y, .int .u64 Z])) := load_all ap_79 m1.here rfl
  have hX : aload P s1 24 (.pointer (some ⟨A, 2, none⟩)) = some (.int .u64 X) := load_one ap_24 m1.here rfl
  have hY : aload P s1 24 (.pointer (some ⟨A, 3, none⟩)) = some (.int .u64 Y) := load_one ap_24 m1.here rfl
  have hZ : aload P s1 24 (.pointer (some ⟨A, 4, none⟩)) = some (.int .u64 Z) := load_one ap_24 m1.here rfl
  have hu : aload P s1 30 (.pointer (some ⟨A, 1, none⟩)) = some u := load_one ap_30 m1.here rfl
  have hvq := hv.veq
  have hi : ∀ x : Int, veq (.int .u64 x) (.int .u64 x) = true := fun x => by simp [veq]
  simp (maxSteps := 10000000) only [fa_79_0, fa_79_1, fa_79_2, fa_79_3, fa_79_4, pr_wop, pr_call, pr_wcall, pr_wdefer, pr_defers, pr_loop, pr_range, pr_fin, pr_hold, xdefers_eq, xcallv_fn, wopt_some, wopt_none, wopt_map, wopt_bind, wopt_ite, wdec_true, wdec_false, wdec_bool, wop_fieldAddr, wop_field, wop_index_agg, wop_build, wop_nilCheck, wop_int, wop_not, wop_extract, int_add keq_i64, int_sub keq_i64, int_mul keq_i64, int_add keq_u64, int_sub keq_u64, int_mul keq_u64, int_eql keq_i64, int_eql keq_u64, int_eql keq_u8, int_eql keq_u32, int_neq keq_i64, int_neq keq_u64, int_neq keq_u8, int_neq keq_u32, int_lss keq_i64, int_lss keq_u64, int_lss keq_u8, int_lss keq_u32, int_leq keq_i64, int_leq keq_u64, int_leq keq_u8, int_leq keq_u32, int_gtr keq_i64, int_gtr keq_u64, int_gtr keq_u8, int_gtr keq_u32, int_geq keq_i64, int_geq keq_u64, int_geq keq_u8, int_geq keq_u32, int_rem keq_i64, int_rem keq_u64, int_rem keq_u8, int_quo keq_u64, int_quo keq_i64, n_new, lo_new, n_ent, lo_ent, at_ent, Option.bind_some, Option.map_some, decide_eq_true_eq, Bool.not_eq_true', decide_eq_false_iff_not, Bool.not_true, Bool.not_false, ne_eq, if_true, if_false, reduceCtorEq, eq_self, Nat.zero_add, Nat.add_zero, not_false_eq_true, thenW_normal, thenW_ret, thenW_exit, outs_ret, outs_exit, kOf_cons, wdefers_nil, Nat.reduceEqDiff]
  refine load_rule (load_one (v := .int .u8 d) ap_5 m1.here rfl) ?_
  simp (maxSteps := 10000000) only [pr_wop, pr_call, pr_wcall, pr_wdefer, pr_defers, pr_loop, pr_range, pr_fin, pr_hold, xdefers_eq, xcallv_fn, wopt_some, wopt_none, wopt_map, wopt_bind, wopt_ite, wdec_true, wdec_false, wdec_bool, wop_fieldAddr, wop_field, wop_index_agg, wop_build, wop_nilCheck, wop_int, wop_not, wop_extract, int_add keq_i64, int_sub keq_i64, int_mul keq_i64, int_add keq_u64, int_sub keq_u64, int_mul keq_u64, int_eql keq_i64, int_eql keq_u64, int_eql keq_u8, int_eql keq_u32, int_neq keq_i64, int_neq keq_u64, int_neq keq_u8, int_neq keq_u32, int_lss keq_i64, int_lss keq_u64, int_lss keq_u8, int_lss keq_u32, int_leq keq_i64, int_leq keq_u64, int_leq keq_u8, int_leq keq_u32, int_gtr keq_i64, int_gtr keq_u64, int_gtr keq_u8, int_gtr keq_u32, int_geq keq_i64, int_geq keq_u64, int_geq keq_u8, int_geq keq_u32, int_rem keq_i64, int_rem keq_u64, int_rem keq_u8, int_quo keq_u64, int_quo keq_i64, n_new, lo_new, n_ent, lo_ent, at_ent, Option.bind_some, Option.map_some, decide_eq_true_eq, Bool.not_eq_true', decide_eq_false_iff_not, Bool.not_true, Bool.not_false, ne_eq, if_true, if_false, reduceCtorEq, eq_self, Nat.zero_add, Nat.add_zero, not_false_eq_true, thenW_normal, thenW_ret, thenW_exit, outs_ret, outs_exit, kOf_cons, wdefers_nil, Nat.reduceEqDiff, int_rem keq_u8 _ _ (show (17 : Int) ≠ 0 by decide), tmod_nonneg hd0.1]
  generalize hm : d % 17 = m at hK ⊢
  have hmb : 0 ≤ m ∧ m < 17 := by omega
  have hc : m = 0 ∨ m = 1 ∨ m = 2 ∨ m = 3 ∨ m = 4 ∨ m = 5 ∨ m = 6 ∨ m = 7 ∨ m = 8 ∨ m = 9 ∨ m = 10 ∨ m = 11 ∨ m = 12 ∨ m = 13 ∨ m = 14 ∨ m = 15 ∨ m = 16 := by omega
  rcases hc with rfl | rfl | rfl | rfl | rfl | rfl | rfl | rfl | rfl | rfl | rfl | rfl | rfl | rfl | rfl | rfl | rfl
  · rw [if_pos rfl]
    refine load_rule hX ?_
    rw [dConst hd1 m1.wf]
    exact ret1 hw m1.wf m1.grew _ hK
  · rw [if_neg (show ¬ (1 : Int) = 0 by decide)]; rw [if_pos rfl]
    refine load_rule hl ⟨hvq, load_rule hl ⟨hvq, load_rule hX ⟨hi _, load_rule hY ⟨hi _, load_rule hZ ⟨hi _, ?_⟩⟩⟩⟩⟩
    rw [wAt hv1 m1.wf (by decide)]
    refine ⟨.refl _, ?_⟩
    rw [wAt hv1 m1.wf (by decide)]
    refine ⟨.refl _, ?_⟩
    rw [dLinear hd1 m1.wf]
    refine ⟨Nat.le_refl _, ?_⟩
    exact ret1' hw m1.wf m1.grew _ hK
  · rw [if_neg (show ¬ (2 : Int) = 0 by decide)]; rw [if_neg (show ¬ (2 : Int) = 1 by decide)]; rw [if_pos rfl]
    refine load_rule hl ⟨hvq, load_rule hl ⟨hvq, ?_⟩⟩
    rw [wAt hv1 m1.wf (by decide)]
    refine ⟨.refl _, ?_⟩
    rw [wAt hv1 m1.wf (by decide)]
    refine ⟨Nat.le_refl _, ?_⟩
    rw [dMul hd1 m1.wf]
    refine ⟨Nat.le_refl _, ?_⟩
    exact ret1' hw m1.wf m1.grew _ hK
  · rw [if_neg (show ¬ (3 : Int) = 0 by decide)]; rw [if_neg (show ¬ (3 : Int) = 1 by decide)]; rw [if_neg (show ¬ (3 : Int) = 2 by decide)]; rw [if_pos rfl]
    refine load_rule hl ?_
    rw [wAt hv1 m1.wf (by decide), dZero hd1 m1.wf]
    exact ret0 hw m1.grew hK
  · rw [if_neg (show ¬ (4 : Int) = 0 by decide)]; rw [if_neg (show ¬ (4 : Int) = 1 by decide)]; rw [if_neg (show ¬ (4 : Int) = 2 by decide)]; rw [if_neg (show ¬ (4 : Int) = 3 by decide)]; rw [if_pos rfl]
    refine load_rule hl ⟨hvq, load_rule hl ⟨hvq, ?_⟩⟩
    rw [wAt hv1 m1.wf (by decide)]
    refine ⟨.refl _, ?_⟩
    rw [wAt hv1 m1.wf (by decide), dEqual hd1 m1.wf]
    exact ret0 hw m1.grew hK
  · rw [if_neg (show ¬ (5 : Int) = 0 by decide)]; rw [if_neg (show ¬ (5 : Int) = 1 by decide)]; rw [if_neg (show ¬ (5 : Int) = 2 by decide)]; rw [if_neg (show ¬ (5 : Int) = 3 by decide)]; rw [if_neg (show ¬ (5 : Int) = 4 by decide)]; rw [if_pos rfl]
    refine load_rule hl ?_
    rw [wAt hv1 m1.wf (by decide), dBit hd1 m1.wf]
    exact ret0 hw m1.grew hK
  · rw [if_neg (show ¬ (6 : Int) = 0 by decide)]; rw [if_neg (show ¬ (6 : Int) = 1 by decide)]; rw [if_neg (show ¬ (6 : Int) = 2 by decide)]; rw [if_neg (show ¬ (6 : Int) = 3 by decide)]; rw [if_neg (show ¬ (6 : Int) = 4 by decide)]; rw [if_neg (show ¬ (6 : Int) = 5 by decide)]; rw [if_pos rfl]
    refine load_rule hl ⟨hvq, load_rule hl ⟨hvq, load_rule hl ⟨hvq, ?_⟩⟩⟩
    rw [wAt hv1 m1.wf (by decide)]
    refine ⟨.refl _, ?_⟩
    rw [wAt hv1 m1.wf (by decide)]
    refine ⟨.refl _, ?_⟩
    rw [wAt hv1 m1.wf (by decide)]
    refine ⟨Nat.le_refl _, ?_⟩
    rw [dSelect hd1 m1.wf]
    refine ⟨Nat.le_refl _, ?_⟩
    exact ret1' hw m1.wf m1.grew _ hK
  · rw [if_neg (show ¬ (7 : Int) = 0 by decide)]; rw [if_neg (show ¬ (7 : Int) = 1 by decide)]; rw [if_neg (show ¬ (7 : Int) = 2 by decide)]; rw [if_neg (show ¬ (7 : Int) = 3 by decide)]; rw [if_neg (show ¬ (7 : Int) = 4 by decide)]; rw [if_neg (show ¬ (7 : Int) = 5 by decide)]; rw [if_neg (show ¬ (7 : Int) = 6 by decide)]; rw [if_pos rfl]
    refine load_rule hl ?_
    rw [wFour hv1 m1.wf hro1 (by decide) (by decide), dPerm hd1 m1.wf hro1]
    refine alloc_rule ty_53 m1.wf fun A2 s2 m2 => ?_
    exact ret4 hw m2.wf hro (by rw [m2.eq]; exact m1.grew.n) (m1.grew.trans m2.grew) m2.here rfl _ _ _ _ hK
  · rw [if_neg (show ¬ (8 : Int) = 0 by decide)]; rw [if_neg (show ¬ (8 : Int) = 1 by decide)]; rw [if_neg (show ¬ (8 : Int) = 2 by decide)]; rw [if_neg (show ¬ (8 : Int) = 3 by decide)]; rw [if_neg (show ¬ (8 : Int) = 4 by decide)]; rw [if_neg (show ¬ (8 : Int) = 5 by decide)]; rw [if_neg (show ¬ (8 : Int) = 6 by decide)]; rw [if_neg (show ¬ (8 : Int) = 7 by decide)]; rw [if_pos rfl]
    refine load_rule hu ?_
    rw [dHash hd1 m1.wf hro1]
    refine alloc_rule ty_47 m1.wf fun A2 s2 m2 => ?_
    exact ret2' hw m2.wf hro (by rw [m2.eq]; exact m1.grew.n) (m1.grew.trans m2.grew) m2.here rfl _ _ hK
  · rw [if_neg (show ¬ (9 : Int) = 0 by decide)]; rw [if_neg (show ¬ (9 : Int) = 1 by decide)]; rw [if_neg (show ¬ (9 : Int) = 2 by decide)]; rw [if_neg (show ¬ (9 : Int) = 3 by decide)]; rw [if_neg (show ¬ (9 : Int) = 4 by decide)]; rw [if_neg (show ¬ (9 : Int) = 5 by decide)]; rw [if_neg (show ¬ (9 : Int) = 6 by decide)]; rw [if_neg (show ¬ (9 : Int) = 7 by decide)]; rw [if_neg (show ¬ (9 : Int) = 8 by decide)]; rw [if_pos rfl]
    refine load_rule hl ⟨hvq, load_rule hl ⟨hvq, ?_⟩⟩
    refine alloc_rule ty_47 m1.wf fun A2 s2 m2 => ⟨m2.fresh (by simp [veqL, veq, Value.cells]), ?_⟩
    have g2 := m1.grew.trans m2.grew
    have hro2 : ro ≤ s2.n := Nat.le_trans hro g2.n
    rw [wPair (hv.ent.grew g2) m2.wf hro2 (by decide) (by decide)]
    refine ⟨.refl _, ?_⟩
    rw [wPair (hv.ent.grew g2) m2.wf hro2 (by decide) (by decide)]
    refine ⟨.refl _, ?_⟩
    rw [dNode (hd.ent.grew g2) m2.wf hro2]
    refine ⟨.refl _, ?_⟩
    exact ret2 hw m2.wf hro (by rw [m2.eq]; exact m1.grew.n) g2 m2.here rfl _ _ hK
  · rw [if_neg (show ¬ (10 : Int) = 0 by decide)]; rw [if_neg (show ¬ (10 : Int) = 1 by decide)]; rw [if_neg (show ¬ (10 : Int) = 2 by decide)]; rw [if_neg (show ¬ (10 : Int) = 3 by decide)]; rw [if_neg (show ¬ (10 : Int) = 4 by decide)]; rw [if_neg (show ¬ (10 : Int) = 5 by decide)]; rw [if_neg (show ¬ (10 : Int) = 6 by decide)]; rw [if_neg (show ¬ (10 : Int) = 7 by decide)]; rw [if_neg (show ¬ (10 : Int) = 8 by decide)]; rw [if_neg (show ¬ (10 : Int) = 9 by decide)]; rw [if_pos rfl]
    refine load_rule hl ⟨hvq, load_rule hl ⟨hvq, load_rule hl ⟨hvq, ?_⟩⟩⟩
    refine alloc_rule ty_47 m1.wf fun A2 s2 m2 => ⟨m2.fresh (by simp [veqL, veq, Value.cells]), ?_⟩
    have g2 := m1.grew.trans m2.grew
    refine wBits (hv.ent.grew g2) m2.wf fun w3 s3 g3 hw3 => ⟨g3, ?_⟩
    have g3' := g2.trans g3
    have hro3 : ro ≤ s3.n := Nat.le_trans hro g3'.n
    rw [wPair (hv.ent.grew g3') (m2.wf.grew g3) hro3 (by decide) (by decide)]
    refine ⟨.refl _, ?_⟩
    refine wPairs (i := 7) (hv.ent.grew g3') (m2.wf.grew g3) hro3 (by decide) fun w4 s4 g4 hw4 => ⟨g4, ?_⟩
    have g4' := g3'.trans g4
    have hro4 : ro ≤ s4.n := Nat.le_trans hro g4'.n
    rw [dClimb (hd.ent.grew g4') ((m2.wf.grew g3).grew g4) hro4]
    refine ⟨.refl _, ?_⟩
    have hA2 : s4.at A2 = _ := (g4.same A2 (Nat.lt_of_lt_of_le (St.at_lt m2.here) g3.n)).trans ((g3.same A2 (St.at_lt m2.here)).trans m2.here)
    exact ret2 hw ((m2.wf.grew g3).grew g4) hro (by rw [m2.eq]; exact m1.grew.n) g4' hA2 rfl _ _ hK
  · rw [if_neg (show ¬ (11 : Int) = 0 by decide)]; rw [if_neg (show ¬ (11 : Int) = 1 by decide)]; rw [if_neg (show ¬ (11 : Int) = 2 by decide)]; rw [if_neg (show ¬ (11 : Int) = 3 by decide)]; rw [if_neg (show ¬ (11 : Int) = 4 by decide)]; rw [if_neg (show ¬ (11 : Int) = 5 by decide)]; rw [if_neg (show ¬ (11 : Int) = 6 by decide)]; rw [if_neg (show ¬ (11 : Int) = 7 by decide)]; rw [if_neg (show ¬ (11 : Int) = 8 by decide)]; rw [if_neg (show ¬ (11 : Int) = 9 by decide)]; rw [if_neg (show ¬ (11 : Int) = 10 by decide)]; rw [if_pos rfl]
    refine load_rule hl ⟨hvq, load_rule hl ⟨hvq, ?_⟩⟩
    refine alloc_rule ty_47 m1.wf fun A2 s2 m2 => ⟨m2.fresh (by simp [veqL, veq, Value.cells]), ?_⟩
    have g2 := m1.grew.trans m2.grew
    refine wBits (hv.ent.grew g2) m2.wf fun w3 s3 g3 hw3 => ⟨g3, ?_⟩
    have g3' := g2.trans g3
    have hro3 : ro ≤ s3.n := Nat.le_trans hro g3'.n
    refine wPairs (i := 4) (hv.ent.grew g3') (m2.wf.grew g3) hro3 (by decide) fun w4 s4 g4 hw4 => ⟨g4, ?_⟩
    have g4' := g3'.trans g4
    have hro4 : ro ≤ s4.n := Nat.le_trans hro g4'.n
    rw [dPick (hd.ent.grew g4') ((m2.wf.grew g3).grew g4) hro4 (Sl.grew hw3 g4.same) hw4]
    refine ⟨.refl _, ?_⟩
    have hA2 : s4.at A2 = _ := (g4.same A2 (Nat.lt_of_lt_of_le (St.at_lt m2.here) g3.n)).trans ((g3.same A2 (St.at_lt m2.here)).trans m2.here)
    exact ret2 hw ((m2.wf.grew g3).grew g4) hro (by rw [m2.eq]; exact m1.grew.n) g4' hA2 rfl _ _ hK
  · rw [if_neg (show ¬ (12 : Int) = 0 by decide)]; rw [if_neg (show ¬ (12 : Int) = 1 by decide)]; rw [if_neg (show ¬ (12 : Int) = 2 by decide)]; rw [if_neg (show ¬ (12 : Int) = 3 by decide)]; rw [if_neg (show ¬ (12 : Int) = 4 by decide)]; rw [if_neg (show ¬ (12 : Int) = 5 by decide)]; rw [if_neg (show ¬ (12 : Int) = 6 by decide)]; rw [if_neg (show ¬ (12 : Int) = 7 by decide)]; rw [if_neg (show ¬ (12 : Int) = 8 by decide)]; rw [if_neg (show ¬ (12 : Int) = 9 by decide)]; rw [if_neg (show ¬ (12 : Int) = 10 by decide)]; rw [if_neg (show ¬ (12 : Int) = 11 by decide)]; rw [if_pos rfl]
    refine load_rule hl ⟨hvq, load_rule hl ⟨hvq, ?_⟩⟩
    refine alloc_rule ty_53 m1.wf fun A2 s2 m2 => ⟨m2.fresh (by simp [veqL, veq, Value.cells]), ?_⟩
    have g2 := m1.grew.trans m2.grew
    have hro2 : ro ≤ s2.n := Nat.le_trans hro g2.n
    rw [wFour (hv.ent.grew g2) m2.wf hro2 (by decide) (by decide)]
    refine ⟨.refl _, ?_⟩
    rw [wAt (hv.ent.grew g2) m2.wf (by decide)]
    refine ⟨.refl _, ?_⟩
    rw [dAbsorb (hd.ent.grew g2) m2.wf hro2]
    refine ⟨.refl _, ?_⟩
    exact ret4' hw m2.wf hro (by rw [m2.eq]; exact m1.grew.n) g2 m2.here rfl _ _ _ _ hK
  · rw [if_neg (show ¬ (13 : Int) = 0 by decide)]; rw [if_neg (show ¬ (13 : Int) = 1 by decide)]; rw [if_neg (show ¬ (13 : Int) = 2 by decide)]; rw [if_neg (show ¬ (13 : Int) = 3 by decide)]; rw [if_neg (show ¬ (13 : Int) = 4 by decide)]; rw [if_neg (show ¬ (13 : Int) = 5 by decide)]; rw [if_neg (show ¬ (13 : Int) = 6 by decide)]; rw [if_neg (show ¬ (13 : Int) = 7 by decide)]; rw [if_neg (show ¬ (13 : Int) = 8 by decide)]; rw [if_neg (show ¬ (13 : Int) = 9 by decide)]; rw [if_neg (show ¬ (13 : Int) = 10 by decide)]; rw [if_neg (show ¬ (13 : Int) = 11 by decide)]; rw [if_neg (show ¬ (13 : Int) = 12 by decide)]; rw [if_pos rfl]
    refine load_rule hl ?_
    rw [wFour hv1 m1.wf hro1 (by decide) (by decide), dDraw hd1 m1.wf hro1]
    simp only [wop_extract, List.getElem?_cons_zero, List.getElem?_cons_succ, wopt_some]
    refine alloc_rule ty_53 m1.wf fun A2 s2 m2 => ?_
    have g2 := m1.grew.trans m2.grew
    have h2 : s.n ≤ A2 := by rw [m2.eq]; exact m1.grew.n
    refine storeAll_rule isz_53 m2.here rfl (by decide) m2.wf (by omega) rfl rfl fun s3 p3 => ?_
    have g3 := p3.grew _ hw.ent g2 h2
    simp only [wop_indexAddr, ixArr un_53 isz_3, aplace, wopt_some, show (0 : Int) ≤ 0 ∧ (0 : Int) < ((4 : Nat) : Int) by decide, show (0 : Int) ≤ 1 ∧ (1 : Int) < ((4 : Nat) : Int) by decide, show (0 : Int) ≤ 2 ∧ (2 : Int) < ((4 : Nat) : Int) by decide, show (0 : Int) ≤ 3 ∧ (3 : Int) < ((4 : Nat) : Int) by decide, and_self, if_true]
    refine load_rule (load_one (v := .int .i64 (-1)) ap_3 p3.here rfl) ?_
    refine load_rule (load_one (v := .int .i64 (-1)) ap_3 p3.here rfl) ?_
    refine load_rule (load_one (v := .int .i64 (-1)) ap_3 p3.here rfl) ?_
    refine load_rule (load_one (v := .int .i64 (-1)) ap_3 p3.here rfl) ?_
    refine buildSlice_rule se_30 ty_3 p3.wf [.int .i64 (-1), .int .i64 (-1), .int .i64 (-1), .int .i64 (-1), .int .i64 (-1)] rfl rfl (by decide) (by simp [Value.cells]) fun A4 s4 m4 => ?_
    exact ret_slice (s1 := s1) (l := [-1, -1, -1, -1, -1]) hw (g3.trans m4.grew) m4.here rfl hK
  · rw [if_neg (show ¬ (14 : Int) = 0 by decide)]; rw [if_neg (show ¬ (14 : Int) = 1 by decide)]; rw [if_neg (show ¬ (14 : Int) = 2 by decide)]; rw [if_neg (show ¬ (14 : Int) = 3 by decide)]; rw [if_neg (show ¬ (14 : Int) = 4 by decide)]; rw [if_neg (show ¬ (14 : Int) = 5 by decide)]; rw [if_neg (show ¬ (14 : Int) = 6 by decide)]; rw [if_neg (show ¬ (14 : Int) = 7 by decide)]; rw [if_neg (show ¬ (14 : Int) = 8 by decide)]; rw [if_neg (show ¬ (14 : Int) = 9 by decide)]; rw [if_neg (show ¬ (14 : Int) = 10 by decide)]; rw [if_neg (show ¬ (14 : Int) = 11 by decide)]; rw [if_neg (show ¬ (14 : Int) = 12 by decide)]; rw [if_neg (show ¬ (14 : Int) = 13 by decide)]; rw [if_pos rfl]
    refine load_rule hu ?_
    rw [dPack hd1 m1.wf]
    exact ret1 hw m1.wf m1.grew _ hK
  · rw [if_neg (show ¬ (15 : Int) = 0 by decide)]; rw [if_neg (show ¬ (15 : Int) = 1 by decide)]; rw [if_neg (show ¬ (15 : Int) = 2 by decide)]; rw [if_neg (show ¬ (15 : Int) = 3 by decide)]; rw [if_neg (show ¬ (15 : Int) = 4 by decide)]; rw [if_neg (show ¬ (15 : Int) = 5 by decide)]; rw [if_neg (show ¬ (15 : Int) = 6 by decide)]; rw [if_neg (show ¬ (15 : Int) = 7 by decide)]; rw [if_neg (show ¬ (15 : Int) = 8 by decide)]; rw [if_neg (show ¬ (15 : Int) = 9 by decide)]; rw [if_neg (show ¬ (15 : Int) = 10 by decide)]; rw [if_neg (show ¬ (15 : Int) = 11 by decide)]; rw [if_neg (show ¬ (15 : Int) = 12 by decide)]; rw [if_neg (show ¬ (15 : Int) = 13 by decide)]; rw [if_neg (show ¬ (15 : Int) = 14 by decide)]; rw [if_pos rfl]
    refine load_rule hu ?_
    rw [dCanonical hd1 m1.wf]
    exact ret0 hw m1.grew hK
  · rw [if_neg (show ¬ (16 : Int) = 0 by decide)]; rw [if_neg (show ¬ (16 : Int) = 1 by decide)]; rw [if_neg (show ¬ (16 : Int) = 2 by decide)]; rw [if_neg (show ¬ (16 : Int) = 3 by decide)]; rw [if_neg (show ¬ (16 : Int) = 4 by decide)]; rw [if_neg (show ¬ (16 : Int) = 5 by decide)]; rw [if_neg (show ¬ (16 : Int) = 6 by decide)]; rw [if_neg (show ¬ (16 : Int) = 7 by decide)]; rw [if_neg (show ¬ (16 : Int) = 8 by decide)]; rw [if_neg (show ¬ (16 : Int) = 9 by decide)]; rw [if_neg (show ¬ (16 : Int) = 10 by decide)]; rw [if_neg (show ¬ (16 : Int) = 11 by decide)]; rw [if_neg (show ¬ (16 : Int) = 12 by decide)]; rw [if_neg (show ¬ (16 : Int) = 13 by decide)]; rw [if_neg (show ¬ (16 : Int) = 14 by decide)]; rw [if_neg (show ¬ (16 : Int) = 15 by decide)]; rw [if_pos rfl]
    refine load_rule hu (load_rule hX ?_)
    rw [dPower hd1 m1.wf]
    exact ret1 hw m1.wf m1.grew _ hK

end
end Go.VE

/- CircuitNil: every call returns true. -/
namespace Go.VE
open Go Go.Proofs
set_option maxRecDepth 20000

section
variable {ro : Nat} {s : St} {K : Value → St → Prop}

theorem wLive : CallWP P ro 15 [] s K = K (.bool true) s := callEq (call_known rfl ⟨rfl, rfl⟩) K

theorem wNil (hw : Wf s) (hro : ro ≤ s.n) {u : Value} {d X Y Z : Int} {V : List Int} (hV : Ints s u V) (hd : 0 ≤ d ∧ d < 256) (hZ : 0 ≤ Z ∧ Z < 2 ^ 64) :
    CallWP P ro 8 [.agg (.mk [.int .u8 d, u, .int .u64 X, .int .u64 Y, .int .u64 Z])] s K = K (.bool true) s := by
  refine callEq (call_wp b8 rfl ?_) K
  rw [n8]
  unfold v8
  simp (maxSteps := 10000000) only [pr_wop, pr_call, pr_wcall, pr_wdefer, pr_defers, pr_loop, pr_range, pr_fin, pr_hold, xdefers_eq, xcallv_fn, wopt_some, wopt_none, wopt_map, wopt_bind, wopt_ite, wdec_true, wdec_false, wdec_bool, wop_fieldAddr, wop_field, wop_index_agg, wop_build, wop_nilCheck, wop_int, wop_not, wop_extract, int_add keq_i64, int_sub keq_i64, int_mul keq_i64, int_add keq_u64, int_sub keq_u64, int_mul keq_u64, int_eql keq_i64, int_eql keq_u64, int_eql keq_u8, int_eql keq_u32, int_neq keq_i64, int_neq keq_u64, int_neq keq_u8, int_neq keq_u32, int_lss keq_i64, int_lss keq_u64, int_lss keq_u8, int_lss keq_u32, int_leq keq_i64, int_leq keq_u64, int_leq keq_u8, int_leq keq_u32, int_gtr keq_i64, int_gtr keq_u64, int_gtr keq_u8, int_gtr keq_u32, int_geq keq_i64, int_geq keq_u64, int_geq keq_u8, int_geq keq_u32, int_rem keq_i64, int_rem keq_u64, int_rem keq_u8, int_quo keq_u64, int_quo keq_i64, n_new, lo_new, n_ent, lo_ent, at_ent, Option.bind_some, Option.map_some, decide_eq_true_eq, Bool.not_eq_true', decide_eq_false_iff_not, Bool.not_true, Bool.not_false, ne_eq, if_true, if_false, reduceCtorEq, eq_self, Nat.zero_add, Nat.add_zero, not_false_eq_true, thenW_normal, thenW_ret, thenW_exit, outs_ret, outs_exit, kOf_cons, wdefers_nil, Nat.reduceEqDiff]
  refine box_rule hw.ent fun A s1 m1 => ?_
  have hV1 : Sl s1 u 1 V.length (V.map (.int .i64)) := hV.ent.grew m1.grew.same
  simp (maxSteps := 10000000) only [fa_79_1, pr_wop, pr_call, pr_wcall, pr_wdefer, pr_defers, pr_loop, pr_range, pr_fin, pr_hold, xdefers_eq, xcallv_fn, wopt_some, wopt_none, wopt_map, wopt_bind, wopt_ite, wdec_true, wdec_false, wdec_bool, wop_fieldAddr, wop_field, wop_index_agg, wop_build, wop_nilCheck, wop_int, wop_not, wop_extract, int_add keq_i64, int_sub keq_i64, int_mul keq_i64, int_add keq_u64, int_sub keq_u64, int_mul keq_u64, int_eql keq_i64, int_eql keq_u64, int_eql keq_u8, int_eql keq_u32, int_neq keq_i64, int_neq keq_u64, int_neq keq_u8, int_neq keq_u32, int_lss keq_i64, int_lss keq_u64, int_lss keq_u8, int_lss keq_u32, int_leq keq_i64, int_leq keq_u64, int_leq keq_u8, int_leq keq_u32, int_gtr keq_i64, int_gtr keq_u64, int_gtr keq_u8, int_gtr keq_u32, int_geq keq_i64, int_geq keq_u64, int_geq keq_u8, int_geq keq_u32, int_rem keq_i64, int_rem keq_u64, int_rem keq_u8, int_quo keq_u64, int_quo keq_i64, n_new, lo_new, n_ent, lo_ent, at_ent, Option.bind_some, Option.map_some, decide_eq_true_eq, Bool.not_eq_true', decide_eq_false_iff_not, Bool.not_true, Bool.not_false, ne_eq, if_true, if_false, reduceCtorEq, eq_self, Nat.zero_add, Nat.add_zero, not_false_eq_true, thenW_normal, thenW_ret, thenW_exit, outs_ret, outs_exit, kOf_cons, wdefers_nil, Nat.reduceEqDiff]
  refine load_rule (load_one (v := u) ap_30 m1.here rfl) ?_
  rw [hV1.wlen se_30]
  simp (maxSteps := 10000000) only [pr_wop, pr_call, pr_wcall, pr_wdefer, pr_defers, pr_loop, pr_range, pr_fin, pr_hold, xdefers_eq, xcallv_fn, wopt_some, wopt_none, wopt_map, wopt_bind, wopt_ite, wdec_true, wdec_false, wdec_bool, wop_fieldAddr, wop_field, wop_index_agg, wop_build, wop_nilCheck, wop_int, wop_not, wop_extract, int_add keq_i64, int_sub keq_i64, int_mul keq_i64, int_add keq_u64, int_sub keq_u64, int_mul keq_u64, int_eql keq_i64, int_eql keq_u64, int_eql keq_u8, int_eql keq_u32, int_neq keq_i64, int_neq keq_u64, int_neq keq_u8, int_neq keq_u32, int_lss keq_i64, int_lss keq_u64, int_lss keq_u8, int_lss keq_u32, int_leq keq_i64, int_leq keq_u64, int_leq keq_u8, int_leq keq_u32, int_gtr keq_i64, int_gtr keq_u64, int_gtr keq_u8, int_gtr keq_u32, int_geq keq_i64, int_geq keq_u64, int_geq keq_u8, int_geq keq_u32, int_rem keq_i64, int_rem keq_u64, int_rem keq_u8, int_quo keq_u64, int_quo keq_i64, n_new, lo_new, n_ent, lo_ent, at_ent, Option.bind_some, Option.map_some, decide_eq_true_eq, Bool.not_eq_true', decide_eq_false_iff_not, Bool.not_true, Bool.not_false, ne_eq, if_true, if_false, reduceCtorEq, eq_self, Nat.zero_add, Nat.add_zero, not_false_eq_true, thenW_normal, thenW_ret, thenW_exit, outs_ret, outs_exit, kOf_cons, wdefers_nil, Nat.reduceEqDiff]
  by_cases hlen : (V.length : Int) > 60
  · rw [if_pos hlen, wLive]
    exact fin_flat rfl m1.grew ⟨rfl, rfl⟩
  rw [if_neg hlen]
  have hv : StepV s (.agg (.mk [.int .u8 d, u, .int .u64 X, .int .u64 Y, .int .u64 Z])) d V X Y Z := ⟨⟨u, rfl, hV⟩, hd, hZ, by omega⟩
  rw [show abuild P 81 (partVals .e []) = some (.agg (.mk [.bool false, .int .i64 0, .int .i64 0, .int .i64 0, .int .i64 0, .slice none 0 0, .int .i64 0])) by kernel_rfl]
  simp (maxSteps := 10000000) only [pr_wop, pr_call, pr_wcall, pr_wdefer, pr_defers, pr_loop, pr_range, pr_fin, pr_hold, xdefers_eq, xcallv_fn, wopt_some, wopt_none, wopt_map, wopt_bind, wopt_ite, wdec_true, wdec_false, wdec_bool, wop_fieldAddr, wop_field, wop_index_agg, wop_build, wop_nilCheck, wop_int, wop_not, wop_extract, int_add keq_i64, int_sub keq_i64, int_mul keq_i64, int_add keq_u64, int_sub keq_u64, int_mul keq_u64, int_eql keq_i64, int_eql keq_u64, int_eql keq_u8, int_eql keq_u32, int_neq keq_i64, int_neq keq_u64, int_neq keq_u8, int_neq keq_u32, int_lss keq_i64, int_lss keq_u64, int_lss keq_u8, int_lss keq_u32, int_leq keq_i64, int_leq keq_u64, int_leq keq_u8, int_leq keq_u32, int_gtr keq_i64, int_gtr keq_u64, int_gtr keq_u8, int_gtr keq_u32, int_geq keq_i64, int_geq keq_u64, int_geq keq_u8, int_geq keq_u32, int_rem keq_i64, int_rem keq_u64, int_rem keq_u8, int_quo keq_u64, int_quo keq_i64, n_new, lo_new, n_ent, lo_ent, at_ent, Option.bind_some, Option.map_some, decide_eq_true_eq, Bool.not_eq_true', decide_eq_false_iff_not, Bool.not_true, Bool.not_false, ne_eq, if_true, if_false, reduceCtorEq, eq_self, Nat.zero_add, Nat.add_zero, not_false_eq_true, thenW_normal, thenW_ret, thenW_exit, outs_ret, outs_exit, kOf_cons, wdefers_nil, Nat.reduceEqDiff]
  refine box_rule m1.wf fun B s2 m2 => ?_
  have g2 := m1.grew.trans m2.grew
  have hro2 : ro ≤ s2.n := Nat.le_trans hro g2.n
  have hA2 : s2.at A = _ := (m2.grew.same A (St.at_lt m1.here)).trans m1.here
  have hl : aload P s2 79 (.pointer (some ⟨A, 0, none⟩)) = some (.agg (.mk [.int .u8 d, u, .int .u64 X, .int .u64 Y, .int .u64 Z])) := load_all ap_79 hA2 rfl
  refine load_rule hl ⟨hv.veq, load_rule hl ⟨hv.veq, ?_⟩⟩
  refine dProgram (b := .pointer none) (.inl rfl) m2.wf hro2 (hv.ent.grew g2) fun w3 s3 g3 hw3 => ⟨g3, ?_⟩
  have hz3 : Dead s3 (.pointer (some ⟨B, 0, none⟩)) := .inr ⟨B, _, _, _, rfl, (g3.same B (St.at_lt m2.here)).trans m2.here, rfl⟩
  have g3' := g2.trans g3
  have w3' := m2.wf.grew g3
  refine dProgram hz3 w3' (Nat.le_trans hro g3'.n) (hv.ent.grew g3') fun w4 s4 g4 hw4 => ?_
  have g4' := g3'.trans g4
  have w4' := w3'.grew g4
  have hz4 := hz3.grew g4
  have hro4 : ro ≤ s4.n := Nat.le_trans hro g4'.n
  have hw34 : Ints s4 w3 (List.replicate (cnt (d % 17)) (-1)) := Sl.grew hw3 g4.same
  have hc : cnt (d % 17) ≤ 5 := by
    unfold cnt
    repeat' split
    all_goals omega
  refine wloop l8_111110100 m8_111110100 (fun (i : Nat) τ ds s' => τ 3 = .pointer none ∧ τ 4 = .pointer (some ⟨B, 0, none⟩) ∧ τ 5 = w3 ∧ τ 6 = w4 ∧ τ 7 = .int .i64 i ∧ ds = [] ∧ s' = s4 ∧ i ≤ cnt (d % 17)) (fun i => cnt (d % 17) - i) ?_ 0 ⟨rfl, rfl, rfl, rfl, rfl, rfl, rfl, Nat.zero_le _⟩
  rintro i τ ds s' ⟨h3, h4, h5, h6, h7, rfl, rfl, hi⟩
  rw [n8_111110100]
  unfold v8_111110100
  simp (maxSteps := 10000000) only [pr_wop, pr_call, pr_wcall, pr_wdefer, pr_defers, pr_loop, pr_range, pr_fin, pr_hold, xdefers_eq, xcallv_fn, wopt_some, wopt_none, wopt_map, wopt_bind, wopt_ite, wdec_true, wdec_false, wdec_bool, wop_fieldAddr, wop_field, wop_index_agg, wop_build, wop_nilCheck, wop_int, wop_not, wop_extract, int_add keq_i64, int_sub keq_i64, int_mul keq_i64, int_add keq_u64, int_sub keq_u64, int_mul keq_u64, int_eql keq_i64, int_eql keq_u64, int_eql keq_u8, int_eql keq_u32, int_neq keq_i64, int_neq keq_u64, int_neq keq_u8, int_neq keq_u32, int_lss keq_i64, int_lss keq_u64, int_lss keq_u8, int_lss keq_u32, int_leq keq_i64, int_leq keq_u64, int_leq keq_u8, int_leq keq_u32, int_gtr keq_i64, int_gtr keq_u64, int_gtr keq_u8, int_gtr keq_u32, int_geq keq_i64, int_geq keq_u64, int_geq keq_u8, int_geq keq_u32, int_rem keq_i64, int_rem keq_u64, int_rem keq_u8, int_quo keq_u64, int_quo keq_i64, n_new, lo_new, n_ent, lo_ent, at_ent, Option.bind_some, Option.map_some, decide_eq_true_eq, Bool.not_eq_true', decide_eq_false_iff_not, Bool.not_true, Bool.not_false, ne_eq, if_true, if_false, reduceCtorEq, eq_self, Nat.zero_add, Nat.add_zero, not_false_eq_true, thenW_normal, thenW_ret, thenW_exit, outs_ret, outs_exit, kOf_cons, wdefers_nil, Nat.reduceEqDiff, h5, h7, hw34.wlen se_30, List.length_replicate]
  by_cases hlt : (i : Int) < ((cnt (d % 17) : Nat) : Int)
  · rw [if_pos hlt]
    refine ix_rule (i := (i : Int)) (u := .int .i64 (-1)) hw34 se_30 isz_3 ap_3 (by omega) (by rw [List.length_replicate]; exact hlt) (by
      rw [List.getElem?_map, List.getElem?_eq_getElem (by simp; omega)]
      simp) fun p hp => load_rule hp ?_
    simp only [pr_wop, pr_call, pr_wcall, pr_wdefer, pr_defers, pr_loop, pr_range, pr_fin, pr_hold, xdefers_eq, xcallv_fn, wopt_some, wopt_none, wopt_map, wopt_bind, wopt_ite, wdec_true, wdec_false, wdec_bool, wop_fieldAddr, wop_field, wop_index_agg, wop_build, wop_nilCheck, wop_int, wop_not, wop_extract, int_add keq_i64, int_sub keq_i64, int_mul keq_i64, int_add keq_u64, int_sub keq_u64, int_mul keq_u64, int_eql keq_i64, int_eql keq_u64, int_eql keq_u8, int_eql keq_u32, int_neq keq_i64, int_neq keq_u64, int_neq keq_u8, int_neq keq_u32, int_lss keq_i64, int_lss keq_u64, int_lss keq_u8, int_lss keq_u32, int_leq keq_i64, int_leq keq_u64, int_leq keq_u8, int_leq keq_u32, int_gtr keq_i64, int_gtr keq_u64, int_gtr keq_u8, int_gtr keq_u32, int_geq keq_i64, int_geq keq_u64, int_geq keq_u8, int_geq keq_u32, int_rem keq_i64, int_rem keq_u64, int_rem keq_u8, int_quo keq_u64, int_quo keq_i64, n_new, lo_new, n_ent, lo_ent, at_ent, Option.bind_some, Option.map_some, decide_eq_true_eq, Bool.not_eq_true', decide_eq_false_iff_not, Bool.not_true, Bool.not_false, ne_eq, if_true, if_false, reduceCtorEq, eq_self, Nat.zero_add, Nat.add_zero, not_false_eq_true, thenW_normal, thenW_ret, thenW_exit, outs_ret, outs_exit, kOf_cons, wdefers_nil, Nat.reduceEqDiff]
    refine ⟨i + 1, by omega, h3, h4, h5, h6, ?_, trivial, trivial, by omega⟩
    show Value.int .i64 (IntKind.i64.wrap ((i : Int) + 1)) = _
    rw [wrap_i64 (by omega) (by omega)]
    rfl
  · rw [if_neg hlt]
    have hn : Dead s' (.pointer none) := .inl rfl
    show CallWP P ro 12 [τ 3] s' _
    rw [h3]
    refine dGates hn w4' hro4 fun v5 hv5 => ?_
    obtain ⟨l5, rfl, hl5, ho5⟩ := hv5
    simp (maxSteps := 10000000) only [pr_wop, pr_call, pr_wcall, pr_wdefer, pr_defers, pr_loop, pr_range, pr_fin, pr_hold, xdefers_eq, xcallv_fn, wopt_some, wopt_none, wopt_map, wopt_bind, wopt_ite, wdec_true, wdec_false, wdec_bool, wop_fieldAddr, wop_field, wop_index_agg, wop_build, wop_nilCheck, wop_int, wop_not, wop_extract, int_add keq_i64, int_sub keq_i64, int_mul keq_i64, int_add keq_u64, int_sub keq_u64, int_mul keq_u64, int_eql keq_i64, int_eql keq_u64, int_eql keq_u8, int_eql keq_u32, int_neq keq_i64, int_neq keq_u64, int_neq keq_u8, int_neq keq_u32, int_lss keq_i64, int_lss keq_u64, int_lss keq_u8, int_lss keq_u32, int_leq keq_i64, int_leq keq_u64, int_leq keq_u8, int_leq keq_u32, int_gtr keq_i64, int_gtr keq_u64, int_gtr keq_u8, int_gtr keq_u32, int_geq keq_i64, int_geq keq_u64, int_geq keq_u8, int_geq keq_u32, int_rem keq_i64, int_rem keq_u64, int_rem keq_u8, int_quo keq_u64, int_quo keq_i64, n_new, lo_new, n_ent, lo_ent, at_ent, Option.bind_some, Option.map_some, decide_eq_true_eq, Bool.not_eq_true', decide_eq_false_iff_not, Bool.not_true, Bool.not_false, ne_eq, if_true, if_false, reduceCtorEq, eq_self, Nat.zero_add, Nat.add_zero, not_false_eq_true, thenW_normal, thenW_ret, thenW_exit, outs_ret, outs_exit, kOf_cons, wdefers_nil, Nat.reduceEqDiff, List.getElem?_cons_zero, List.getElem?_cons_succ, show ([Value.agg { toList := l5 }, Value.int IntKind.i64 10][1]? : Option Value) = some (.int .i64 10) from rfl]
    refine alloc_rule ty_34 w4' fun C5 s5 m5 => ?_
    have hC5 : s'.n ≤ C5 := by rw [m5.eq]; exact Nat.le_refl _
    refine storeAll_rule isz_34 m5.here hl5 (by decide) m5.wf (by omega) rfl ho5 fun s6 p6 => ?_
    have g6 : Grew s' s6 := p6.grew _ w4' m5.grew hC5
    show CallWP P ro 12 [τ 4] s6 _
    rw [h4]
    have hz6 := hz4.grew g6
    refine dGates hz6 p6.wf (Nat.le_trans hro4 g6.n) fun v7 hv7 => ?_
    obtain ⟨l7, rfl, hl7, ho7⟩ := hv7
    simp (maxSteps := 10000000) only [pr_wop, pr_call, pr_wcall, pr_wdefer, pr_defers, pr_loop, pr_range, pr_fin, pr_hold, xdefers_eq, xcallv_fn, wopt_some, wopt_none, wopt_map, wopt_bind, wopt_ite, wdec_true, wdec_false, wdec_bool, wop_fieldAddr, wop_field, wop_index_agg, wop_build, wop_nilCheck, wop_int, wop_not, wop_extract, int_add keq_i64, int_sub keq_i64, int_mul keq_i64, int_add keq_u64, int_sub keq_u64, int_mul keq_u64, int_eql keq_i64, int_eql keq_u64, int_eql keq_u8, int_eql keq_u32, int_neq keq_i64, int_neq keq_u64, int_neq keq_u8, int_neq keq_u32, int_lss keq_i64, int_lss keq_u64, int_lss keq_u8, int_lss keq_u32, int_leq keq_i64, int_leq keq_u64, int_leq keq_u8, int_leq keq_u32, int_gtr keq_i64, int_gtr keq_u64, int_gtr keq_u8, int_gtr keq_u32, int_geq keq_i64, int_geq keq_u64, int_geq keq_u8, int_geq keq_u32, int_rem keq_i64, int_rem keq_u64, int_rem keq_u8, int_quo keq_u64, int_quo keq_i64, n_new, lo_new, n_ent, lo_ent, at_ent, Option.bind_some, Option.map_some, decide_eq_true_eq, Bool.not_eq_true', decide_eq_false_iff_not, Bool.not_true, Bool.not_false, ne_eq, if_true, if_false, reduceCtorEq, eq_self, Nat.zero_add, Nat.add_zero, not_false_eq_true, thenW_normal, thenW_ret, thenW_exit, outs_ret, outs_exit, kOf_cons, wdefers_nil, Nat.reduceEqDiff, List.getElem?_cons_zero, List.getElem?_cons_succ, show ([Value.agg { toList := l7 }, Value.int IntKind.i64 10][1]? : Option Value) = some (.int .i64 10) from rfl]
    refine alloc_rule ty_34 p6.wf fun C7 s7 m7 => ?_
    have hC7 : s6.n ≤ C7 := by rw [m7.eq]; exact Nat.le_refl _
    refine storeAll_rule isz_34 m7.here hl7 (by decide) m7.wf (by have := g6.n; omega) rfl ho7 fun s8 p8 => ?_
    have g8 : Grew s' s8 := g6.trans (p8.grew _ p6.wf m7.grew hC7)
    show CallWP P ro 36 [τ 5, τ 6] s8 _
    rw [h5, h6, wSame (Sl.grew hw34 g8.same) (Sl.grew hw4 g8.same) (by rw [List.length_replicate]; omega)]
    simp (maxSteps := 10000000) only [pr_wop, pr_call, pr_wcall, pr_wdefer, pr_defers, pr_loop, pr_range, pr_fin, pr_hold, xdefers_eq, xcallv_fn, wopt_some, wopt_none, wopt_map, wopt_bind, wopt_ite, wdec_true, wdec_false, wdec_bool, wop_fieldAddr, wop_field, wop_index_agg, wop_build, wop_nilCheck, wop_int, wop_not, wop_extract, int_add keq_i64, int_sub keq_i64, int_mul keq_i64, int_add keq_u64, int_sub keq_u64, int_mul keq_u64, int_eql keq_i64, int_eql keq_u64, int_eql keq_u8, int_eql keq_u32, int_neq keq_i64, int_neq keq_u64, int_neq keq_u8, int_neq keq_u32, int_lss keq_i64, int_lss keq_u64, int_lss keq_u8, int_lss keq_u32, int_leq keq_i64, int_leq keq_u64, int_leq keq_u8, int_leq keq_u32, int_gtr keq_i64, int_gtr keq_u64, int_gtr keq_u8, int_gtr keq_u32, int_geq keq_i64, int_geq keq_u64, int_geq keq_u8, int_geq keq_u32, int_rem keq_i64, int_rem keq_u64, int_rem keq_u8, int_quo keq_u64, int_quo keq_i64, n_new, lo_new, n_ent, lo_ent, at_ent, Option.bind_some, Option.map_some, decide_eq_true_eq, Bool.not_eq_true', decide_eq_false_iff_not, Bool.not_true, Bool.not_false, ne_eq, if_true, if_false, reduceCtorEq, eq_self, Nat.zero_add, Nat.add_zero, not_false_eq_true, thenW_normal, thenW_ret, thenW_exit, outs_ret, outs_exit, kOf_cons, wdefers_nil, Nat.reduceEqDiff, decide_true]
    show CallWP P ro 23 [τ 3] s8 _
    rw [h3, dErr (.inl rfl)]
    simp (maxSteps := 10000000) only [pr_wop, pr_call, pr_wcall, pr_wdefer, pr_defers, pr_loop, pr_range, pr_fin, pr_hold, xdefers_eq, xcallv_fn, wopt_some, wopt_none, wopt_map, wopt_bind, wopt_ite, wdec_true, wdec_false, wdec_bool, wop_fieldAddr, wop_field, wop_index_agg, wop_build, wop_nilCheck, wop_int, wop_not, wop_extract, int_add keq_i64, int_sub keq_i64, int_mul keq_i64, int_add keq_u64, int_sub keq_u64, int_mul keq_u64, int_eql keq_i64, int_eql keq_u64, int_eql keq_u8, int_eql keq_u32, int_neq keq_i64, int_neq keq_u64, int_neq keq_u8, int_neq keq_u32, int_lss keq_i64, int_lss keq_u64, int_lss keq_u8, int_lss keq_u32, int_leq keq_i64, int_leq keq_u64, int_leq keq_u8, int_leq keq_u32, int_gtr keq_i64, int_gtr keq_u64, int_gtr keq_u8, int_gtr keq_u32, int_geq keq_i64, int_geq keq_u64, int_geq keq_u8, int_geq keq_u32, int_rem keq_i64, int_rem keq_u64, int_rem keq_u8, int_quo keq_u64, int_quo keq_i64, n_new, lo_new, n_ent, lo_ent, at_ent, Option.bind_some, Option.map_some, decide_eq_true_eq, Bool.not_eq_true', decide_eq_false_iff_not, Bool.not_true, Bool.not_false, ne_eq, if_true, if_false, reduceCtorEq, eq_self, Nat.zero_add, Nat.add_zero, not_false_eq_true, thenW_normal, thenW_ret, thenW_exit, outs_ret, outs_exit, kOf_cons, wdefers_nil, Nat.reduceEqDiff, decide_true]
    show CallWP P ro 23 [τ 4] s8 _
    rw [h4, dErr (hz4.grew g8)]
    simp (maxSteps := 10000000) only [pr_wop, pr_call, pr_wcall, pr_wdefer, pr_defers, pr_loop, pr_range, pr_fin, pr_hold, xdefers_eq, xcallv_fn, wopt_some, wopt_none, wopt_map, wopt_bind, wopt_ite, wdec_true, wdec_false, wdec_bool, wop_fieldAddr, wop_field, wop_index_agg, wop_build, wop_nilCheck, wop_int, wop_not, wop_extract, int_add keq_i64, int_sub keq_i64, int_mul keq_i64, int_add keq_u64, int_sub keq_u64, int_mul keq_u64, int_eql keq_i64, int_eql keq_u64, int_eql keq_u8, int_eql keq_u32, int_neq keq_i64, int_neq keq_u64, int_neq keq_u8, int_neq keq_u32, int_lss keq_i64, int_lss keq_u64, int_lss keq_u8, int_lss keq_u32, int_leq keq_i64, int_leq keq_u64, int_leq keq_u8, int_leq keq_u32, int_gtr keq_i64, int_gtr keq_u64, int_gtr keq_u8, int_gtr keq_u32, int_geq keq_i64, int_geq keq_u64, int_geq keq_u8, int_geq keq_u32, int_rem keq_i64, int_rem keq_u64, int_rem keq_u8, int_quo keq_u64, int_quo keq_i64, n_new, lo_new, n_ent, lo_ent, at_ent, Option.bind_some, Option.map_some, decide_eq_true_eq, Bool.not_eq_true', decide_eq_false_iff_not, Bool.not_true, Bool.not_false, ne_eq, if_true, if_false, reduceCtorEq, eq_self, Nat.zero_add, Nat.add_zero, not_false_eq_true, thenW_normal, thenW_ret, thenW_exit, outs_ret, outs_exit, kOf_cons, wdefers_nil, Nat.reduceEqDiff, decide_true]
    rw [wLive]
    exact fin_flat rfl (g4'.trans g8) ⟨rfl, rfl⟩

end
end Go.VE

/- CircuitNil at every start. -/
namespace Go.VE
open Go Go.Proofs
set_option maxRecDepth 20000

theorem nil_args {al : List Value} {s : St} (h : Args P 8 [79] al s) : ∃ d u V X Y Z, al = [.agg (.mk [.int .u8 d, u, .int .u64 X, .int .u64 Y, .int .u64 Z])] ∧ Ints s u V ∧ (0 ≤ d ∧ d < 256) ∧ (0 ≤ Z ∧ Z < 2 ^ 64) := by
  obtain ⟨v, r, a, rfl, hv, hm, rfl⟩ := h
  rw [av_79] at hv
  subst hv
  rw [me_79] at hm
  simp only [Parts, me_5, me_30, me_24, me_3] at hm
  obtain ⟨_, _, rfl, ⟨d, rfl, hd⟩, _, _, rfl, ⟨u, l, rfl, hlen, hs, hl⟩, _, _, rfl, ⟨X, rfl, hX⟩, _, _, rfl, ⟨Y, rfl, hY⟩, _, _, rfl, ⟨Z, rfl, hZ⟩, rfl⟩ := hm
  obtain ⟨V, hV, hn, _⟩ := ints_flat hl
  refine ⟨d, u, V, X, Y, Z, rfl, ?_, wf_u8 hd, wf_u64 hZ⟩
  unfold Ints
  rw [hn, ← hV]
  exact hs

theorem nil_runs (laid : List (String × DataW Unit)) (h : (match absLaid P 30 laid P.globals.size with | some x => lastIn P.globals.size x.1 | none => false) = true) : LawRuns P 30 8 8 [79] laid :=
  law_runs h fun gs bl _ s al hw _ _ _ ha => by
    obtain ⟨d, u, V, X, Y, Z, rfl, hV, hd, hZ⟩ := nil_args ha
    rw [wNil hw (Nat.le_refl _) hV hd hZ]

end Go.VE
