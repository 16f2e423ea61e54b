/-
  What the functions compute.
-/
import Derived.Test.YteamclmopokioaaDoorFn1
set_option linter.unusedSimpArgs false
set_option linter.unusedVariables false
/- The calls that are known: the examples of the chapter. -/
namespace Go.VE
open Go Go.Proofs

noncomputable instance known : Memo := memoOf [(15, [], .bool true)]

end Go.VE

/- The field's reference and the field: what their functions do. -/
namespace Go.VE
open Go Go.Proofs
set_option maxRecDepth 20000

/-- The number of elements of a field, 0 if there is none. -/
def fP (f : Int) : Int := if f = 0 then 97 else if f = 1 then 257 else if f = 2 then 12289 else if f = 3 then 998244353 else 0
def fV (f : Int) : Bool := decide (0 ≤ f) && decide (f ≤ 3)
def fExp (f : Int) : Int := if f = 0 ∨ f = 2 then 5 else if f = 1 ∨ f = 3 then 3 else 0
def fGen (f : Int) : Int := if f = 0 then 5 else if f = 1 ∨ f = 3 then 3 else if f = 2 then 11 else 0
def fAdd (f a b : Int) : Int := if fV f then (a + b) % fP f else 0
def fSub (f a b : Int) : Int := if fV f then (a - b) % fP f else 0
def fMul (f a b : Int) : Int := if fV f then a * b % fP f else 0

theorem fV_cases {f : Int} (h : fV f = true) : f = 0 ∨ f = 1 ∨ f = 2 ∨ f = 3 := by
  simp only [fV, Bool.and_eq_true, decide_eq_true_eq] at h
  omega

theorem fP_pos {f : Int} (h : fV f = true) : 0 < fP f := by
  rcases fV_cases h with rfl | rfl | rfl | rfl <;> decide

theorem fP_nonneg (f : Int) : 0 ≤ fP f := by
  unfold fP
  repeat' split
  all_goals omega

theorem fP_lt (f : Int) : fP f < 2 ^ 30 := by
  unfold fP
  repeat' split
  all_goals omega

theorem fP_zero {f : Int} (h : fV f = false) : fP f = 0 := by
  unfold fP
  have : f ≠ 0 ∧ f ≠ 1 ∧ f ≠ 2 ∧ f ≠ 3 := by
    refine ⟨?_, ?_, ?_, ?_⟩ <;> (rintro rfl; revert h; decide)
  simp [this.1, this.2.1, this.2.2.1, this.2.2.2]

theorem tmod_nonneg {a b : Int} (h : 0 ≤ a) : a.tmod b = a % b := Int.tmod_eq_emod_of_nonneg h

theorem mod_bounds {a p : Int} (hp : 0 < p) : 0 ≤ a % p ∧ a % p < p := ⟨Int.emod_nonneg _ (by omega), Int.emod_lt_of_pos _ hp⟩

section
variable {ro : Nat} {s : St} {K : Value → St → Prop}

theorem wrP (f : Int) : CallWP P ro 14 [.int .i64 f] s K = K (.int .u64 (fP f)) s := by
  refine callEq (call_wp b14 rfl ?_) K
  rw [n14]
  unfold v14
  unfold fP
  simp only [pr_wop, pr_call, pr_wcall, pr_wdefer, pr_defers, pr_loop, pr_range, pr_fin, pr_hold, xdefers_eq, xcallv_fn, wopt_some, wopt_none, wopt_map, wopt_bind, wopt_ite, wdec_true, wdec_false, wdec_bool, wop_fieldAddr, wop_field, wop_index_agg, wop_build, wop_nilCheck, wop_int, wop_not, wop_extract, int_add keq_i64, int_sub keq_i64, int_mul keq_i64, int_add keq_u64, int_sub keq_u64, int_mul keq_u64, int_eql keq_i64, int_eql keq_u64, int_eql keq_u8, int_eql keq_u32, int_neq keq_i64, int_neq keq_u64, int_neq keq_u8, int_neq keq_u32, int_lss keq_i64, int_lss keq_u64, int_lss keq_u8, int_lss keq_u32, int_leq keq_i64, int_leq keq_u64, int_leq keq_u8, int_leq keq_u32, int_gtr keq_i64, int_gtr keq_u64, int_gtr keq_u8, int_gtr keq_u32, int_geq keq_i64, int_geq keq_u64, int_geq keq_u8, int_geq keq_u32, int_rem keq_i64, int_rem keq_u64, int_rem keq_u8, int_quo keq_u64, int_quo keq_i64, n_new, lo_new, n_ent, lo_ent, at_ent, Option.bind_some, Option.map_some, decide_eq_true_eq, Bool.not_eq_true', decide_eq_false_iff_not, Bool.not_true, Bool.not_false, ne_eq, if_true, if_false, reduceCtorEq, eq_self, Nat.zero_add, Nat.add_zero, not_false_eq_true, thenW_normal, thenW_ret, thenW_exit, outs_ret, outs_exit, kOf_cons, wdefers_nil, Nat.reduceEqDiff]
  repeat' split
  all_goals (rw [wfin_flat (by simp only [lo_ent, Nat.le_refl]) rfl]; simp_all)

theorem wrValid (f : Int) : CallWP P ro 16 [.int .i64 f] s K = K (.bool (fV f)) s := by
  refine callEq (call_wp b16 rfl ?_) K
  rw [n16]
  unfold v16
  unfold fV
  simp only [pr_wop, pr_call, pr_wcall, pr_wdefer, pr_defers, pr_loop, pr_range, pr_fin, pr_hold, xdefers_eq, xcallv_fn, wopt_some, wopt_none, wopt_map, wopt_bind, wopt_ite, wdec_true, wdec_false, wdec_bool, wop_fieldAddr, wop_field, wop_index_agg, wop_build, wop_nilCheck, wop_int, wop_not, wop_extract, int_add keq_i64, int_sub keq_i64, int_mul keq_i64, int_add keq_u64, int_sub keq_u64, int_mul keq_u64, int_eql keq_i64, int_eql keq_u64, int_eql keq_u8, int_eql keq_u32, int_neq keq_i64, int_neq keq_u64, int_neq keq_u8, int_neq keq_u32, int_lss keq_i64, int_lss keq_u64, int_lss keq_u8, int_lss keq_u32, int_leq keq_i64, int_leq keq_u64, int_leq keq_u8, int_leq keq_u32, int_gtr keq_i64, int_gtr keq_u64, int_gtr keq_u8, int_gtr keq_u32, int_geq keq_i64, int_geq keq_u64, int_geq keq_u8, int_geq keq_u32, int_rem keq_i64, int_rem keq_u64, int_rem keq_u8, int_quo keq_u64, int_quo keq_i64, n_new, lo_new, n_ent, lo_ent, at_ent, Option.bind_some, Option.map_some, decide_eq_true_eq, Bool.not_eq_true', decide_eq_false_iff_not, Bool.not_true, Bool.not_false, ne_eq, if_true, if_false, reduceCtorEq, eq_self, Nat.zero_add, Nat.add_zero, not_false_eq_true, thenW_normal, thenW_ret, thenW_exit, outs_ret, outs_exit, kOf_cons, wdefers_nil, Nat.reduceEqDiff]
  repeat' split
  all_goals (rw [wfin_flat (by simp only [lo_ent, Nat.le_refl]) rfl]; simp_all; try omega)

theorem wrExp (f : Int) : CallWP P ro 100 [.int .i64 f] s K = K (.int .i64 (fExp f)) s := by
  refine callEq (call_wp b100 rfl ?_) K
  rw [n100]
  unfold v100
  unfold fExp
  simp only [pr_wop, pr_call, pr_wcall, pr_wdefer, pr_defers, pr_loop, pr_range, pr_fin, pr_hold, xdefers_eq, xcallv_fn, wopt_some, wopt_none, wopt_map, wopt_bind, wopt_ite, wdec_true, wdec_false, wdec_bool, wop_fieldAddr, wop_field, wop_index_agg, wop_build, wop_nilCheck, wop_int, wop_not, wop_extract, int_add keq_i64, int_sub keq_i64, int_mul keq_i64, int_add keq_u64, int_sub keq_u64, int_mul keq_u64, int_eql keq_i64, int_eql keq_u64, int_eql keq_u8, int_eql keq_u32, int_neq keq_i64, int_neq keq_u64, int_neq keq_u8, int_neq keq_u32, int_lss keq_i64, int_lss keq_u64, int_lss keq_u8, int_lss keq_u32, int_leq keq_i64, int_leq keq_u64, int_leq keq_u8, int_leq keq_u32, int_gtr keq_i64, int_gtr keq_u64, int_gtr keq_u8, int_gtr keq_u32, int_geq keq_i64, int_geq keq_u64, int_geq keq_u8, int_geq keq_u32, int_rem keq_i64, int_rem keq_u64, int_rem keq_u8, int_quo keq_u64, int_quo keq_i64, n_new, lo_new, n_ent, lo_ent, at_ent, Option.bind_some, Option.map_some, decide_eq_true_eq, Bool.not_eq_true', decide_eq_false_iff_not, Bool.not_true, Bool.not_false, ne_eq, if_true, if_false, reduceCtorEq, eq_self, Nat.zero_add, Nat.add_zero, not_false_eq_true, thenW_normal, thenW_ret, thenW_exit, outs_ret, outs_exit, kOf_cons, wdefers_nil, Nat.reduceEqDiff]
  repeat' split
  all_goals (rw [wfin_flat (by simp only [lo_ent, Nat.le_refl]) rfl]; simp_all)

theorem wrGen (f : Int) : CallWP P ro 103 [.int .i64 f] s K = K (.int .u64 (fGen f)) s := by
  refine callEq (call_wp b103 rfl ?_) K
  rw [n103]
  unfold v103
  unfold fGen
  simp only [pr_wop, pr_call, pr_wcall, pr_wdefer, pr_defers, pr_loop, pr_range, pr_fin, pr_hold, xdefers_eq, xcallv_fn, wopt_some, wopt_none, wopt_map, wopt_bind, wopt_ite, wdec_true, wdec_false, wdec_bool, wop_fieldAddr, wop_field, wop_index_agg, wop_build, wop_nilCheck, wop_int, wop_not, wop_extract, int_add keq_i64, int_sub keq_i64, int_mul keq_i64, int_add keq_u64, int_sub keq_u64, int_mul keq_u64, int_eql keq_i64, int_eql keq_u64, int_eql keq_u8, int_eql keq_u32, int_neq keq_i64, int_neq keq_u64, int_neq keq_u8, int_neq keq_u32, int_lss keq_i64, int_lss keq_u64, int_lss keq_u8, int_lss keq_u32, int_leq keq_i64, int_leq keq_u64, int_leq keq_u8, int_leq keq_u32, int_gtr keq_i64, int_gtr keq_u64, int_gtr keq_u8, int_gtr keq_u32, int_geq keq_i64, int_geq keq_u64, int_geq keq_u8, int_geq keq_u32, int_rem keq_i64, int_rem keq_u64, int_rem keq_u8, int_quo keq_u64, int_quo keq_i64, n_new, lo_new, n_ent, lo_ent, at_ent, Option.bind_some, Option.map_some, decide_eq_true_eq, Bool.not_eq_true', decide_eq_false_iff_not, Bool.not_true, Bool.not_false, ne_eq, if_true, if_false, reduceCtorEq, eq_self, Nat.zero_add, Nat.add_zero, not_false_eq_true, thenW_normal, thenW_ret, thenW_exit, outs_ret, outs_exit, kOf_cons, wdefers_nil, Nat.reduceEqDiff]
  repeat' split
  all_goals (rw [wfin_flat (by simp only [lo_ent, Nat.le_refl]) rfl]; simp_all)

theorem wrAdd (f : Int) {a b : Int} (ha : 0 ≤ a) (hb : 0 ≤ b) : CallWP P ro 66 [.int .i64 f, .int .u64 a, .int .u64 b] s K = K (.int .u64 (fAdd f a b)) s := by
  refine callEq (call_wp b66 rfl ?_) K
  rw [n66]
  unfold v66
  simp only [pr_wop, pr_call, pr_wcall, pr_wdefer, pr_defers, pr_loop, pr_range, pr_fin, pr_hold, xdefers_eq, xcallv_fn, wopt_some, wopt_none, wopt_map, wopt_bind, wopt_ite, wdec_true, wdec_false, wdec_bool, wop_fieldAddr, wop_field, wop_index_agg, wop_build, wop_nilCheck, wop_int, wop_not, wop_extract, int_add keq_i64, int_sub keq_i64, int_mul keq_i64, int_add keq_u64, int_sub keq_u64, int_mul keq_u64, int_eql keq_i64, int_eql keq_u64, int_eql keq_u8, int_eql keq_u32, int_neq keq_i64, int_neq keq_u64, int_neq keq_u8, int_neq keq_u32, int_lss keq_i64, int_lss keq_u64, int_lss keq_u8, int_lss keq_u32, int_leq keq_i64, int_leq keq_u64, int_leq keq_u8, int_leq keq_u32, int_gtr keq_i64, int_gtr keq_u64, int_gtr keq_u8, int_gtr keq_u32, int_geq keq_i64, int_geq keq_u64, int_geq keq_u8, int_geq keq_u32, int_rem keq_i64, int_rem keq_u64, int_rem keq_u8, int_quo keq_u64, int_quo keq_i64, n_new, lo_new, n_ent, lo_ent, at_ent, Option.bind_some, Option.map_some, decide_eq_true_eq, Bool.not_eq_true', decide_eq_false_iff_not, Bool.not_true, Bool.not_false, ne_eq, if_true, if_false, reduceCtorEq, eq_self, Nat.zero_add, Nat.add_zero, not_false_eq_true, thenW_normal, thenW_ret, thenW_exit, outs_ret, outs_exit, kOf_cons, wdefers_nil, Nat.reduceEqDiff, wrP, wrValid]
  by_cases hv : fV f = true
  · have hp := fP_pos hv
    have hl := fP_lt f
    have hne : fP f ≠ 0 := by omega
    have h1 := mod_bounds (a := a) hp
    have h2 := mod_bounds (a := b) hp
    simp only [hv, pr_wop, pr_call, pr_wcall, pr_wdefer, pr_defers, pr_loop, pr_range, pr_fin, pr_hold, xdefers_eq, xcallv_fn, wopt_some, wopt_none, wopt_map, wopt_bind, wopt_ite, wdec_true, wdec_false, wdec_bool, wop_fieldAddr, wop_field, wop_index_agg, wop_build, wop_nilCheck, wop_int, wop_not, wop_extract, int_add keq_i64, int_sub keq_i64, int_mul keq_i64, int_add keq_u64, int_sub keq_u64, int_mul keq_u64, int_eql keq_i64, int_eql keq_u64, int_eql keq_u8, int_eql keq_u32, int_neq keq_i64, int_neq keq_u64, int_neq keq_u8, int_neq keq_u32, int_lss keq_i64, int_lss keq_u64, int_lss keq_u8, int_lss keq_u32, int_leq keq_i64, int_leq keq_u64, int_leq keq_u8, int_leq keq_u32, int_gtr keq_i64, int_gtr keq_u64, int_gtr keq_u8, int_gtr keq_u32, int_geq keq_i64, int_geq keq_u64, int_geq keq_u8, int_geq keq_u32, int_rem keq_i64, int_rem keq_u64, int_rem keq_u8, int_quo keq_u64, int_quo keq_i64, n_new, lo_new, n_ent, lo_ent, at_ent, Option.bind_some, Option.map_some, decide_eq_true_eq, Bool.not_eq_true', decide_eq_false_iff_not, Bool.not_true, Bool.not_false, ne_eq, if_true, if_false, reduceCtorEq, eq_self, Nat.zero_add, Nat.add_zero, not_false_eq_true, thenW_normal, thenW_ret, thenW_exit, outs_ret, outs_exit, kOf_cons, wdefers_nil, Nat.reduceEqDiff, hne, not_false_eq_true, tmod_nonneg ha, tmod_nonneg hb, Bool.false_eq_true]
    rw [wrap_u64 (by omega) (by omega), tmod_nonneg (by omega), wfin_flat (by simp only [lo_ent, Nat.le_refl]) rfl]
    simp only [fAdd, hv, if_true, and_true, Int.emod_add_emod, Int.add_emod_emod]
  · have hv : fV f = false := by simpa using hv
    simp only [hv, pr_wop, pr_call, pr_wcall, pr_wdefer, pr_defers, pr_loop, pr_range, pr_fin, pr_hold, xdefers_eq, xcallv_fn, wopt_some, wopt_none, wopt_map, wopt_bind, wopt_ite, wdec_true, wdec_false, wdec_bool, wop_fieldAddr, wop_field, wop_index_agg, wop_build, wop_nilCheck, wop_int, wop_not, wop_extract, int_add keq_i64, int_sub keq_i64, int_mul keq_i64, int_add keq_u64, int_sub keq_u64, int_mul keq_u64, int_eql keq_i64, int_eql keq_u64, int_eql keq_u8, int_eql keq_u32, int_neq keq_i64, int_neq keq_u64, int_neq keq_u8, int_neq keq_u32, int_lss keq_i64, int_lss keq_u64, int_lss keq_u8, int_lss keq_u32, int_leq keq_i64, int_leq keq_u64, int_leq keq_u8, int_leq keq_u32, int_gtr keq_i64, int_gtr keq_u64, int_gtr keq_u8, int_gtr keq_u32, int_geq keq_i64, int_geq keq_u64, int_geq keq_u8, int_geq keq_u32, int_rem keq_i64, int_rem keq_u64, int_rem keq_u8, int_quo keq_u64, int_quo keq_i64, n_new, lo_new, n_ent, lo_ent, at_ent, Option.bind_some, Option.map_some, decide_eq_true_eq, Bool.not_eq_true', decide_eq_false_iff_not, Bool.not_true, Bool.not_false, ne_eq, if_true, if_false, reduceCtorEq, eq_self, Nat.zero_add, Nat.add_zero, not_false_eq_true, thenW_normal, thenW_ret, thenW_exit, outs_ret, outs_exit, kOf_cons, wdefers_nil, Nat.reduceEqDiff, wfin_flat (show s.n ≤ (ent s).lo from Nat.le_refl _) (flat_int _ _), fAdd, Bool.false_eq_true, and_self]

theorem wrSub (f : Int) {a b : Int} (ha : 0 ≤ a) (hb : 0 ≤ b) : CallWP P ro 86 [.int .i64 f, .int .u64 a, .int .u64 b] s K = K (.int .u64 (fSub f a b)) s := by
  refine callEq (call_wp b86 rfl ?_) K
  rw [n86]
  unfold v86
  simp only [pr_wop, pr_call, pr_wcall, pr_wdefer, pr_defers, pr_loop, pr_range, pr_fin, pr_hold, xdefers_eq, xcallv_fn, wopt_some, wopt_none, wopt_map, wopt_bind, wopt_ite, wdec_true, wdec_false, wdec_bool, wop_fieldAddr, wop_field, wop_index_agg, wop_build, wop_nilCheck, wop_int, wop_not, wop_extract, int_add keq_i64, int_sub keq_i64, int_mul keq_i64, int_add keq_u64, int_sub keq_u64, int_mul keq_u64, int_eql keq_i64, int_eql keq_u64, int_eql keq_u8, int_eql keq_u32, int_neq keq_i64, int_neq keq_u64, int_neq keq_u8, int_neq keq_u32, int_lss keq_i64, int_lss keq_u64, int_lss keq_u8, int_lss keq_u32, int_leq keq_i64, int_leq keq_u64, int_leq keq_u8, int_leq keq_u32, int_gtr keq_i64, int_gtr keq_u64, int_gtr keq_u8, int_gtr keq_u32, int_geq keq_i64, int_geq keq_u64, int_geq keq_u8, int_geq keq_u32, int_rem keq_i64, int_rem keq_u64, int_rem keq_u8, int_quo keq_u64, int_quo keq_i64, n_new, lo_new, n_ent, lo_ent, at_ent, Option.bind_some, Option.map_some, decide_eq_true_eq, Bool.not_eq_true', decide_eq_false_iff_not, Bool.not_true, Bool.not_false, ne_eq, if_true, if_false, reduceCtorEq, eq_self, Nat.zero_add, Nat.add_zero, not_false_eq_true, thenW_normal, thenW_ret, thenW_exit, outs_ret, outs_exit, kOf_cons, wdefers_nil, Nat.reduceEqDiff, wrP, wrValid]
  by_cases hv : fV f = true
  · have hp := fP_pos hv
    have hl := fP_lt f
    have hne : fP f ≠ 0 := by omega
    have h1 := mod_bounds (a := a) hp
    have h2 := mod_bounds (a := b) hp
    simp only [hv, pr_wop, pr_call, pr_wcall, pr_wdefer, pr_defers, pr_loop, pr_range, pr_fin, pr_hold, xdefers_eq, xcallv_fn, wopt_some, wopt_none, wopt_map, wopt_bind, wopt_ite, wdec_true, wdec_false, wdec_bool, wop_fieldAddr, wop_field, wop_index_agg, wop_build, wop_nilCheck, wop_int, wop_not, wop_extract, int_add keq_i64, int_sub keq_i64, int_mul keq_i64, int_add keq_u64, int_sub keq_u64, int_mul keq_u64, int_eql keq_i64, int_eql keq_u64, int_eql keq_u8, int_eql keq_u32, int_neq keq_i64, int_neq keq_u64, int_neq keq_u8, int_neq keq_u32, int_lss keq_i64, int_lss keq_u64, int_lss keq_u8, int_lss keq_u32, int_leq keq_i64, int_leq keq_u64, int_leq keq_u8, int_leq keq_u32, int_gtr keq_i64, int_gtr keq_u64, int_gtr keq_u8, int_gtr keq_u32, int_geq keq_i64, int_geq keq_u64, int_geq keq_u8, int_geq keq_u32, int_rem keq_i64, int_rem keq_u64, int_rem keq_u8, int_quo keq_u64, int_quo keq_i64, n_new, lo_new, n_ent, lo_ent, at_ent, Option.bind_some, Option.map_some, decide_eq_true_eq, Bool.not_eq_true', decide_eq_false_iff_not, Bool.not_true, Bool.not_false, ne_eq, if_true, if_false, reduceCtorEq, eq_self, Nat.zero_add, Nat.add_zero, not_false_eq_true, thenW_normal, thenW_ret, thenW_exit, outs_ret, outs_exit, kOf_cons, wdefers_nil, Nat.reduceEqDiff, hne, not_false_eq_true, tmod_nonneg ha, tmod_nonneg hb, Bool.false_eq_true]
    rw [wrap_u64 (n := a % fP f + fP f) (by omega) (by omega), wrap_u64 (by omega) (by omega), tmod_nonneg (by omega), wfin_flat (by simp only [lo_ent, Nat.le_refl]) rfl]
    simp only [fSub, hv, if_true, and_true, Value.int.injEq, true_and]
    rw [show a % fP f + fP f - b % fP f = a % fP f - b % fP f + fP f by omega, Int.add_emod_right, Int.emod_sub_emod, Int.sub_emod_emod]
  · have hv : fV f = false := by simpa using hv
    simp only [hv, pr_wop, pr_call, pr_wcall, pr_wdefer, pr_defers, pr_loop, pr_range, pr_fin, pr_hold, xdefers_eq, xcallv_fn, wopt_some, wopt_none, wopt_map, wopt_bind, wopt_ite, wdec_true, wdec_false, wdec_bool, wop_fieldAddr, wop_field, wop_index_agg, wop_build, wop_nilCheck, wop_int, wop_not, wop_extract, int_add keq_i64, int_sub keq_i64, int_mul keq_i64, int_add keq_u64, int_sub keq_u64, int_mul keq_u64, int_eql keq_i64, int_eql keq_u64, int_eql keq_u8, int_eql keq_u32, int_neq keq_i64, int_neq keq_u64, int_neq keq_u8, int_neq keq_u32, int_lss keq_i64, int_lss keq_u64, int_lss keq_u8, int_lss keq_u32, int_leq keq_i64, int_leq keq_u64, int_leq keq_u8, int_leq keq_u32, int_gtr keq_i64, int_gtr keq_u64, int_gtr keq_u8, int_gtr keq_u32, int_geq keq_i64, int_geq keq_u64, int_geq keq_u8, int_geq keq_u32, int_rem keq_i64, int_rem keq_u64, int_rem keq_u8, int_quo keq_u64, int_quo keq_i64, n_new, lo_new, n_ent, lo_ent, at_ent, Option.bind_some, Option.map_some, decide_eq_true_eq, Bool.not_eq_true', decide_eq_false_iff_not, Bool.not_true, Bool.not_false, ne_eq, if_true, if_false, reduceCtorEq, eq_self, Nat.zero_add, Nat.add_zero, not_false_eq_true, thenW_normal, thenW_ret, thenW_exit, outs_ret, outs_exit, kOf_cons, wdefers_nil, Nat.reduceEqDiff, wfin_flat (show s.n ≤ (ent s).lo from Nat.le_refl _) (flat_int _ _), fSub, Bool.false_eq_true, and_self]

theorem wrMul (f : Int) {a b : Int} (ha : 0 ≤ a) (hb : 0 ≤ b) : CallWP P ro 72 [.int .i64 f, .int .u64 a, .int .u64 b] s K = K (.int .u64 (fMul f a b)) s := by
  refine callEq (call_wp b72 rfl ?_) K
  rw [n72]
  unfold v72
  simp only [pr_wop, pr_call, pr_wcall, pr_wdefer, pr_defers, pr_loop, pr_range, pr_fin, pr_hold, xdefers_eq, xcallv_fn, wopt_some, wopt_none, wopt_map, wopt_bind, wopt_ite, wdec_true, wdec_false, wdec_bool, wop_fieldAddr, wop_field, wop_index_agg, wop_build, wop_nilCheck, wop_int, wop_not, wop_extract, int_add keq_i64, int_sub keq_i64, int_mul keq_i64, int_add keq_u64, int_sub keq_u64, int_mul keq_u64, int_eql keq_i64, int_eql keq_u64, int_eql keq_u8, int_eql keq_u32, int_neq keq_i64, int_neq keq_u64, int_neq keq_u8, int_neq keq_u32, int_lss keq_i64, int_lss keq_u64, int_lss keq_u8, int_lss keq_u32, int_leq keq_i64, int_leq keq_u64, int_leq keq_u8, int_leq keq_u32, int_gtr keq_i64, int_gtr keq_u64, int_gtr keq_u8, int_gtr keq_u32, int_geq keq_i64, int_geq keq_u64, int_geq keq_u8, int_geq keq_u32, int_rem keq_i64, int_rem keq_u64, int_rem keq_u8, int_quo keq_u64, int_quo keq_i64, n_new, lo_new, n_ent, lo_ent, at_ent, Option.bind_some, Option.map_some, decide_eq_true_eq, Bool.not_eq_true', decide_eq_false_iff_not, Bool.not_true, Bool.not_false, ne_eq, if_true, if_false, reduceCtorEq, eq_self, Nat.zero_add, Nat.add_zero, not_false_eq_true, thenW_normal, thenW_ret, thenW_exit, outs_ret, outs_exit, kOf_cons, wdefers_nil, Nat.reduceEqDiff, wrP, wrValid]
  by_cases hv : fV f = true
  · have hp := fP_pos hv
    have hl := fP_lt f
    have hne : fP f ≠ 0 := by omega
    have h1 := mod_bounds (a := a) hp
    have h2 := mod_bounds (a := b) hp
    have h3 : 0 ≤ a % fP f * (b % fP f) := Int.mul_nonneg h1.1 h2.1
    have h4 : a % fP f * (b % fP f) ≤ 2 ^ 30 * 2 ^ 30 := Int.mul_le_mul (by omega) (by omega) h2.1 (by omega)
    simp only [hv, pr_wop, pr_call, pr_wcall, pr_wdefer, pr_defers, pr_loop, pr_range, pr_fin, pr_hold, xdefers_eq, xcallv_fn, wopt_some, wopt_none, wopt_map, wopt_bind, wopt_ite, wdec_true, wdec_false, wdec_bool, wop_fieldAddr, wop_field, wop_index_agg, wop_build, wop_nilCheck, wop_int, wop_not, wop_extract, int_add keq_i64, int_sub keq_i64, int_mul keq_i64, int_add keq_u64, int_sub keq_u64, int_mul keq_u64, int_eql keq_i64, int_eql keq_u64, int_eql keq_u8, int_eql keq_u32, int_neq keq_i64, int_neq keq_u64, int_neq keq_u8, int_neq keq_u32, int_lss keq_i64, int_lss keq_u64, int_lss keq_u8, int_lss keq_u32, int_leq keq_i64, int_leq keq_u64, int_leq keq_u8, int_leq keq_u32, int_gtr keq_i64, int_gtr keq_u64, int_gtr keq_u8, int_gtr keq_u32, int_geq keq_i64, int_geq keq_u64, int_geq keq_u8, int_geq keq_u32, int_rem keq_i64, int_rem keq_u64, int_rem keq_u8, int_quo keq_u64, int_quo keq_i64, n_new, lo_new, n_ent, lo_ent, at_ent, Option.bind_some, Option.map_some, decide_eq_true_eq, Bool.not_eq_true', decide_eq_false_iff_not, Bool.not_true, Bool.not_false, ne_eq, if_true, if_false, reduceCtorEq, eq_self, Nat.zero_add, Nat.add_zero, not_false_eq_true, thenW_normal, thenW_ret, thenW_exit, outs_ret, outs_exit, kOf_cons, wdefers_nil, Nat.reduceEqDiff, hne, not_false_eq_true, tmod_nonneg ha, tmod_nonneg hb, Bool.false_eq_true]
    rw [wrap_u64 (by omega) (by omega), tmod_nonneg (by omega), wfin_flat (by simp only [lo_ent, Nat.le_refl]) rfl]
    simp only [fMul, hv, if_true, and_true, ← Int.mul_emod]
  · have hv : fV f = false := by simpa using hv
    simp only [hv, pr_wop, pr_call, pr_wcall, pr_wdefer, pr_defers, pr_loop, pr_range, pr_fin, pr_hold, xdefers_eq, xcallv_fn, wopt_some, wopt_none, wopt_map, wopt_bind, wopt_ite, wdec_true, wdec_false, wdec_bool, wop_fieldAddr, wop_field, wop_index_agg, wop_build, wop_nilCheck, wop_int, wop_not, wop_extract, int_add keq_i64, int_sub keq_i64, int_mul keq_i64, int_add keq_u64, int_sub keq_u64, int_mul keq_u64, int_eql keq_i64, int_eql keq_u64, int_eql keq_u8, int_eql keq_u32, int_neq keq_i64, int_neq keq_u64, int_neq keq_u8, int_neq keq_u32, int_lss keq_i64, int_lss keq_u64, int_lss keq_u8, int_lss keq_u32, int_leq keq_i64, int_leq keq_u64, int_leq keq_u8, int_leq keq_u32, int_gtr keq_i64, int_gtr keq_u64, int_gtr keq_u8, int_gtr keq_u32, int_geq keq_i64, int_geq keq_u64, int_geq keq_u8, int_geq keq_u32, int_rem keq_i64, int_rem keq_u64, int_rem keq_u8, int_quo keq_u64, int_quo keq_i64, n_new, lo_new, n_ent, lo_ent, at_ent, Option.bind_some, Option.map_some, decide_eq_true_eq, Bool.not_eq_true', decide_eq_false_iff_not, Bool.not_true, Bool.not_false, ne_eq, if_true, if_false, reduceCtorEq, eq_self, Nat.zero_add, Nat.add_zero, not_false_eq_true, thenW_normal, thenW_ret, thenW_exit, outs_ret, outs_exit, kOf_cons, wdefers_nil, Nat.reduceEqDiff, wfin_flat (show s.n ≤ (ent s).lo from Nat.le_refl _) (flat_int _ _), fMul, Bool.false_eq_true, and_self]

end
end Go.VE

/- Powers, inverses; the field's package. -/
namespace Go.VE
open Go Go.Proofs
set_option maxRecDepth 20000

def fPow (f a n : Int) : Int := if fV f then a ^ n.toNat % fP f else 0
def fInv (f a : Int) : Int := fPow f a (fP f - 2)
def fDiv (f a b : Int) : Int := fMul f a (fInv f b)
def fNeg (f a : Int) : Int := fSub f 0 a

theorem fMul_bounds (f a b : Int) : 0 ≤ fMul f a b ∧ fMul f a b < 2 ^ 30 := by
  unfold fMul
  split
  · rename_i h
    have := mod_bounds (a := a * b) (fP_pos h)
    have := fP_lt f
    omega
  · omega
theorem fAdd_bounds (f a b : Int) : 0 ≤ fAdd f a b ∧ fAdd f a b < 2 ^ 30 := by
  unfold fAdd
  split
  · rename_i h
    have := mod_bounds (a := a + b) (fP_pos h)
    have := fP_lt f
    omega
  · omega
theorem fSub_bounds (f a b : Int) : 0 ≤ fSub f a b ∧ fSub f a b < 2 ^ 30 := by
  unfold fSub
  split
  · rename_i h
    have := mod_bounds (a := a - b) (fP_pos h)
    have := fP_lt f
    omega
  · omega
theorem fPow_bounds (f a n : Int) : 0 ≤ fPow f a n ∧ fPow f a n < 2 ^ 30 := by
  unfold fPow
  split
  · rename_i h
    have := mod_bounds (a := a ^ n.toNat) (fP_pos h)
    have := fP_lt f
    omega
  · omega

section
variable {ro : Nat}

theorem wrNeg (f : Int) {a : Int} (ha : 0 ≤ a) {s : St} {K : Value → St → Prop} : CallWP P ro 48 [.int .i64 f, .int .u64 a] s K = K (.int .u64 (fNeg f a)) s := by
  refine callEq (call_wp b48 rfl ?_) K
  rw [n48]
  unfold v48
  simp only [pr_wop, pr_call, pr_wcall, pr_wdefer, pr_defers, pr_loop, pr_range, pr_fin, pr_hold, xdefers_eq, xcallv_fn, wopt_some, wopt_none, wopt_map, wopt_bind, wopt_ite, wdec_true, wdec_false, wdec_bool, wop_fieldAddr, wop_field, wop_index_agg, wop_build, wop_nilCheck, wop_int, wop_not, wop_extract, int_add keq_i64, int_sub keq_i64, int_mul keq_i64, int_add keq_u64, int_sub keq_u64, int_mul keq_u64, int_eql keq_i64, int_eql keq_u64, int_eql keq_u8, int_eql keq_u32, int_neq keq_i64, int_neq keq_u64, int_neq keq_u8, int_neq keq_u32, int_lss keq_i64, int_lss keq_u64, int_lss keq_u8, int_lss keq_u32, int_leq keq_i64, int_leq keq_u64, int_leq keq_u8, int_leq keq_u32, int_gtr keq_i64, int_gtr keq_u64, int_gtr keq_u8, int_gtr keq_u32, int_geq keq_i64, int_geq keq_u64, int_geq keq_u8, int_geq keq_u32, int_rem keq_i64, int_rem keq_u64, int_rem keq_u8, int_quo keq_u64, int_quo keq_i64, n_new, lo_new, n_ent, lo_ent, at_ent, Option.bind_some, Option.map_some, decide_eq_true_eq, Bool.not_eq_true', decide_eq_false_iff_not, Bool.not_true, Bool.not_false, ne_eq, if_true, if_false, reduceCtorEq, eq_self, Nat.zero_add, Nat.add_zero, not_false_eq_true, thenW_normal, thenW_ret, thenW_exit, outs_ret, outs_exit, kOf_cons, wdefers_nil, Nat.reduceEqDiff, wrSub f (Int.le_refl 0) ha, wfin_flat (show s.n ≤ (ent s).lo from Nat.le_refl _) (flat_int _ _), fNeg, and_self]

theorem pow_half {a p : Int} (n : Nat) : (a ^ n % p) * (a ^ n % p) % p = a ^ (2 * n) % p := by
  rw [← Int.mul_emod, show 2 * n = n + n by omega, Int.pow_add]

theorem pow_half1 {a p : Int} (n : Nat) : (a ^ (2 * n) % p) * a % p = a ^ (2 * n + 1) % p := by
  rw [Int.pow_succ, Int.mul_emod (a ^ (2 * n) % p), Int.emod_emod, ← Int.mul_emod]

theorem wrPow (f : Int) {a : Int} (ha : 0 ≤ a) : ∀ (k : Nat) {n : Int} (_ : 0 ≤ n) (_ : n < 2 ^ 64) (_ : n.toNat = k) {s : St} {K : Value → St → Prop}, CallWP P ro 33 [.int .i64 f, .int .u64 a, .int .u64 n] s K = K (.int .u64 (fPow f a n)) s := by
  intro k
  induction k using Nat.strongRecOn with
  | ind k ih =>
    intro n hn hlt hk s K
    refine callEq (call_wp b33 rfl ?_) K
    rw [n33]
    unfold v33
    simp only [pr_wop, pr_call, pr_wcall, pr_wdefer, pr_defers, pr_loop, pr_range, pr_fin, pr_hold, xdefers_eq, xcallv_fn, wopt_some, wopt_none, wopt_map, wopt_bind, wopt_ite, wdec_true, wdec_false, wdec_bool, wop_fieldAddr, wop_field, wop_index_agg, wop_build, wop_nilCheck, wop_int, wop_not, wop_extract, int_add keq_i64, int_sub keq_i64, int_mul keq_i64, int_add keq_u64, int_sub keq_u64, int_mul keq_u64, int_eql keq_i64, int_eql keq_u64, int_eql keq_u8, int_eql keq_u32, int_neq keq_i64, int_neq keq_u64, int_neq keq_u8, int_neq keq_u32, int_lss keq_i64, int_lss keq_u64, int_lss keq_u8, int_lss keq_u32, int_leq keq_i64, int_leq keq_u64, int_leq keq_u8, int_leq keq_u32, int_gtr keq_i64, int_gtr keq_u64, int_gtr keq_u8, int_gtr keq_u32, int_geq keq_i64, int_geq keq_u64, int_geq keq_u8, int_geq keq_u32, int_rem keq_i64, int_rem keq_u64, int_rem keq_u8, int_quo keq_u64, int_quo keq_i64, n_new, lo_new, n_ent, lo_ent, at_ent, Option.bind_some, Option.map_some, decide_eq_true_eq, Bool.not_eq_true', decide_eq_false_iff_not, Bool.not_true, Bool.not_false, ne_eq, if_true, if_false, reduceCtorEq, eq_self, Nat.zero_add, Nat.add_zero, not_false_eq_true, thenW_normal, thenW_ret, thenW_exit, outs_ret, outs_exit, kOf_cons, wdefers_nil, Nat.reduceEqDiff, wrValid]
    by_cases hv : fV f = true
    · simp only [hv, pr_wop, pr_call, pr_wcall, pr_wdefer, pr_defers, pr_loop, pr_range, pr_fin, pr_hold, xdefers_eq, xcallv_fn, wopt_some, wopt_none, wopt_map, wopt_bind, wopt_ite, wdec_true, wdec_false, wdec_bool, wop_fieldAddr, wop_field, wop_index_agg, wop_build, wop_nilCheck, wop_int, wop_not, wop_extract, int_add keq_i64, int_sub keq_i64, int_mul keq_i64, int_add keq_u64, int_sub keq_u64, int_mul keq_u64, int_eql keq_i64, int_eql keq_u64, int_eql keq_u8, int_eql keq_u32, int_neq keq_i64, int_neq keq_u64, int_neq keq_u8, int_neq keq_u32, int_lss keq_i64, int_lss keq_u64, int_lss keq_u8, int_lss keq_u32, int_leq keq_i64, int_leq keq_u64, int_leq keq_u8, int_leq keq_u32, int_gtr keq_i64, int_gtr keq_u64, int_gtr keq_u8, int_gtr keq_u32, int_geq keq_i64, int_geq keq_u64, int_geq keq_u8, int_geq keq_u32, int_rem keq_i64, int_rem keq_u64, int_rem keq_u8, int_quo keq_u64, int_quo keq_i64, n_new, lo_new, n_ent, lo_ent, at_ent, Option.bind_some, Option.map_some, decide_eq_true_eq, Bool.not_eq_true', decide_eq_false_iff_not, Bool.not_true, Bool.not_false, ne_eq, if_true, if_false, reduceCtorEq, eq_self, Nat.zero_add, Nat.add_zero, not_false_eq_true, thenW_normal, thenW_ret, thenW_exit, outs_ret, outs_exit, kOf_cons, wdefers_nil, Nat.reduceEqDiff]
      have hp := fP_pos hv
      have h1p : 1 < fP f := by rcases fV_cases hv with rfl | rfl | rfl | rfl <;> decide
      by_cases h0 : n = 0
      · subst h0
        simp only [pr_wop, pr_call, pr_wcall, pr_wdefer, pr_defers, pr_loop, pr_range, pr_fin, pr_hold, xdefers_eq, xcallv_fn, wopt_some, wopt_none, wopt_map, wopt_bind, wopt_ite, wdec_true, wdec_false, wdec_bool, wop_fieldAddr, wop_field, wop_index_agg, wop_build, wop_nilCheck, wop_int, wop_not, wop_extract, int_add keq_i64, int_sub keq_i64, int_mul keq_i64, int_add keq_u64, int_sub keq_u64, int_mul keq_u64, int_eql keq_i64, int_eql keq_u64, int_eql keq_u8, int_eql keq_u32, int_neq keq_i64, int_neq keq_u64, int_neq keq_u8, int_neq keq_u32, int_lss keq_i64, int_lss keq_u64, int_lss keq_u8, int_lss keq_u32, int_leq keq_i64, int_leq keq_u64, int_leq keq_u8, int_leq keq_u32, int_gtr keq_i64, int_gtr keq_u64, int_gtr keq_u8, int_gtr keq_u32, int_geq keq_i64, int_geq keq_u64, int_geq keq_u8, int_geq keq_u32, int_rem keq_i64, int_rem keq_u64, int_rem keq_u8, int_quo keq_u64, int_quo keq_i64, n_new, lo_new, n_ent, lo_ent, at_ent, Option.bind_some, Option.map_some, decide_eq_true_eq, Bool.not_eq_true', decide_eq_false_iff_not, Bool.not_true, Bool.not_false, ne_eq, if_true, if_false, reduceCtorEq, eq_self, Nat.zero_add, Nat.add_zero, not_false_eq_true, thenW_normal, thenW_ret, thenW_exit, outs_ret, outs_exit, kOf_cons, wdefers_nil, Nat.reduceEqDiff, wfin_flat (show s.n ≤ (ent s).lo from Nat.le_refl _) (flat_int _ _), and_true, fPow, hv]
        simp only [Int.toNat_zero, Int.pow_zero, Value.int.injEq, true_and]
        exact (Int.emod_eq_of_lt (by omega) h1p).symm
      · have hq : n.tdiv 2 = n / 2 := Int.tdiv_eq_ediv_of_nonneg hn
        have hb := fPow_bounds f a (n / 2)
        simp only [h0, if_false, pr_wop, pr_call, pr_wcall, pr_wdefer, pr_defers, pr_loop, pr_range, pr_fin, pr_hold, xdefers_eq, xcallv_fn, wopt_some, wopt_none, wopt_map, wopt_bind, wopt_ite, wdec_true, wdec_false, wdec_bool, wop_fieldAddr, wop_field, wop_index_agg, wop_build, wop_nilCheck, wop_int, wop_not, wop_extract, int_add keq_i64, int_sub keq_i64, int_mul keq_i64, int_add keq_u64, int_sub keq_u64, int_mul keq_u64, int_eql keq_i64, int_eql keq_u64, int_eql keq_u8, int_eql keq_u32, int_neq keq_i64, int_neq keq_u64, int_neq keq_u8, int_neq keq_u32, int_lss keq_i64, int_lss keq_u64, int_lss keq_u8, int_lss keq_u32, int_leq keq_i64, int_leq keq_u64, int_leq keq_u8, int_leq keq_u32, int_gtr keq_i64, int_gtr keq_u64, int_gtr keq_u8, int_gtr keq_u32, int_geq keq_i64, int_geq keq_u64, int_geq keq_u8, int_geq keq_u32, int_rem keq_i64, int_rem keq_u64, int_rem keq_u8, int_quo keq_u64, int_quo keq_i64, n_new, lo_new, n_ent, lo_ent, at_ent, Option.bind_some, Option.map_some, decide_eq_true_eq, Bool.not_eq_true', decide_eq_false_iff_not, Bool.not_true, Bool.not_false, ne_eq, if_true, if_false, reduceCtorEq, eq_self, Nat.zero_add, Nat.add_zero, not_false_eq_true, thenW_normal, thenW_ret, thenW_exit, outs_ret, outs_exit, kOf_cons, wdefers_nil, Nat.reduceEqDiff, int_quo keq_u64 _ _ (show (2 : Int) ≠ 0 by decide), int_rem keq_u64 _ _ (show (2 : Int) ≠ 0 by decide), hq, tmod_nonneg hn]
        rw [wrap_u64 (by omega) (by omega), ih (n / 2).toNat (by omega) (by omega) (by omega) rfl]
        simp only [wrMul f hb.1 hb.1, wrMul f (fMul_bounds f _ _).1 ha, wfin_flat (show s.n ≤ (ent s).lo from Nat.le_refl _) (flat_int _ _), and_true, Value.int.injEq, true_and]
        split
        · rename_i h1
          simp only [fMul, fPow, hv, if_true]
          rw [pow_half, pow_half1]
          congr 2
          omega
        · rename_i h1
          simp only [fMul, fPow, hv, if_true]
          rw [pow_half]
          congr 2
          omega
    · have hv : fV f = false := by simpa using hv
      simp only [hv, pr_wop, pr_call, pr_wcall, pr_wdefer, pr_defers, pr_loop, pr_range, pr_fin, pr_hold, xdefers_eq, xcallv_fn, wopt_some, wopt_none, wopt_map, wopt_bind, wopt_ite, wdec_true, wdec_false, wdec_bool, wop_fieldAddr, wop_field, wop_index_agg, wop_build, wop_nilCheck, wop_int, wop_not, wop_extract, int_add keq_i64, int_sub keq_i64, int_mul keq_i64, int_add keq_u64, int_sub keq_u64, int_mul keq_u64, int_eql keq_i64, int_eql keq_u64, int_eql keq_u8, int_eql keq_u32, int_neq keq_i64, int_neq keq_u64, int_neq keq_u8, int_neq keq_u32, int_lss keq_i64, int_lss keq_u64, int_lss keq_u8, int_lss keq_u32, int_leq keq_i64, int_leq keq_u64, int_leq keq_u8, int_leq keq_u32, int_gtr keq_i64, int_gtr keq_u64, int_gtr keq_u8, int_gtr keq_u32, int_geq keq_i64, int_geq keq_u64, int_geq keq_u8, int_geq keq_u32, int_rem keq_i64, int_rem keq_u64, int_rem keq_u8, int_quo keq_u64, int_quo keq_i64, n_new, lo_new, n_ent, lo_ent, at_ent, Option.bind_some, Option.map_some, decide_eq_true_eq, Bool.not_eq_true', decide_eq_false_iff_not, Bool.not_true, Bool.not_false, ne_eq, if_true, if_false, reduceCtorEq, eq_self, Nat.zero_add, Nat.add_zero, not_false_eq_true, thenW_normal, thenW_ret, thenW_exit, outs_ret, outs_exit, kOf_cons, wdefers_nil, Nat.reduceEqDiff, wfin_flat (show s.n ≤ (ent s).lo from Nat.le_refl _) (flat_int _ _), fPow, Bool.false_eq_true, and_self]

theorem wrInv (f : Int) {a : Int} (ha : 0 ≤ a) {s : St} {K : Value → St → Prop} : CallWP P ro 87 [.int .i64 f, .int .u64 a] s K = K (.int .u64 (fInv f a)) s := by
  refine callEq (call_wp b87 rfl ?_) K
  rw [n87]
  unfold v87
  simp only [pr_wop, pr_call, pr_wcall, pr_wdefer, pr_defers, pr_loop, pr_range, pr_fin, pr_hold, xdefers_eq, xcallv_fn, wopt_some, wopt_none, wopt_map, wopt_bind, wopt_ite, wdec_true, wdec_false, wdec_bool, wop_fieldAddr, wop_field, wop_index_agg, wop_build, wop_nilCheck, wop_int, wop_not, wop_extract, int_add keq_i64, int_sub keq_i64, int_mul keq_i64, int_add keq_u64, int_sub keq_u64, int_mul keq_u64, int_eql keq_i64, int_eql keq_u64, int_eql keq_u8, int_eql keq_u32, int_neq keq_i64, int_neq keq_u64, int_neq keq_u8, int_neq keq_u32, int_lss keq_i64, int_lss keq_u64, int_lss keq_u8, int_lss keq_u32, int_leq keq_i64, int_leq keq_u64, int_leq keq_u8, int_leq keq_u32, int_gtr keq_i64, int_gtr keq_u64, int_gtr keq_u8, int_gtr keq_u32, int_geq keq_i64, int_geq keq_u64, int_geq keq_u8, int_geq keq_u32, int_rem keq_i64, int_rem keq_u64, int_rem keq_u8, int_quo keq_u64, int_quo keq_i64, n_new, lo_new, n_ent, lo_ent, at_ent, Option.bind_some, Option.map_some, decide_eq_true_eq, Bool.not_eq_true', decide_eq_false_iff_not, Bool.not_true, Bool.not_false, ne_eq, if_true, if_false, reduceCtorEq, eq_self, Nat.zero_add, Nat.add_zero, not_false_eq_true, thenW_normal, thenW_ret, thenW_exit, outs_ret, outs_exit, kOf_cons, wdefers_nil, Nat.reduceEqDiff, wrValid]
  by_cases hv : fV f = true
  · have h1p : 2 < fP f := by rcases fV_cases hv with rfl | rfl | rfl | rfl <;> decide
    have hl := fP_lt f
    simp only [hv, pr_wop, pr_call, pr_wcall, pr_wdefer, pr_defers, pr_loop, pr_range, pr_fin, pr_hold, xdefers_eq, xcallv_fn, wopt_some, wopt_none, wopt_map, wopt_bind, wopt_ite, wdec_true, wdec_false, wdec_bool, wop_fieldAddr, wop_field, wop_index_agg, wop_build, wop_nilCheck, wop_int, wop_not, wop_extract, int_add keq_i64, int_sub keq_i64, int_mul keq_i64, int_add keq_u64, int_sub keq_u64, int_mul keq_u64, int_eql keq_i64, int_eql keq_u64, int_eql keq_u8, int_eql keq_u32, int_neq keq_i64, int_neq keq_u64, int_neq keq_u8, int_neq keq_u32, int_lss keq_i64, int_lss keq_u64, int_lss keq_u8, int_lss keq_u32, int_leq keq_i64, int_leq keq_u64, int_leq keq_u8, int_leq keq_u32, int_gtr keq_i64, int_gtr keq_u64, int_gtr keq_u8, int_gtr keq_u32, int_geq keq_i64, int_geq keq_u64, int_geq keq_u8, int_geq keq_u32, int_rem keq_i64, int_rem keq_u64, int_rem keq_u8, int_quo keq_u64, int_quo keq_i64, n_new, lo_new, n_ent, lo_ent, at_ent, Option.bind_some, Option.map_some, decide_eq_true_eq, Bool.not_eq_true', decide_eq_false_iff_not, Bool.not_true, Bool.not_false, ne_eq, if_true, if_false, reduceCtorEq, eq_self, Nat.zero_add, Nat.add_zero, not_false_eq_true, thenW_normal, thenW_ret, thenW_exit, outs_ret, outs_exit, kOf_cons, wdefers_nil, Nat.reduceEqDiff, wrP]
    rw [wrap_u64 (by omega) (by omega), wrPow f ha _ (by omega) (by omega) rfl]
    simp only [wfin_flat (show s.n ≤ (ent s).lo from Nat.le_refl _) (flat_int _ _), and_true, fInv]
  · have hv : fV f = false := by simpa using hv
    simp only [hv, pr_wop, pr_call, pr_wcall, pr_wdefer, pr_defers, pr_loop, pr_range, pr_fin, pr_hold, xdefers_eq, xcallv_fn, wopt_some, wopt_none, wopt_map, wopt_bind, wopt_ite, wdec_true, wdec_false, wdec_bool, wop_fieldAddr, wop_field, wop_index_agg, wop_build, wop_nilCheck, wop_int, wop_not, wop_extract, int_add keq_i64, int_sub keq_i64, int_mul keq_i64, int_add keq_u64, int_sub keq_u64, int_mul keq_u64, int_eql keq_i64, int_eql keq_u64, int_eql keq_u8, int_eql keq_u32, int_neq keq_i64, int_neq keq_u64, int_neq keq_u8, int_neq keq_u32, int_lss keq_i64, int_lss keq_u64, int_lss keq_u8, int_lss keq_u32, int_leq keq_i64, int_leq keq_u64, int_leq keq_u8, int_leq keq_u32, int_gtr keq_i64, int_gtr keq_u64, int_gtr keq_u8, int_gtr keq_u32, int_geq keq_i64, int_geq keq_u64, int_geq keq_u8, int_geq keq_u32, int_rem keq_i64, int_rem keq_u64, int_rem keq_u8, int_quo keq_u64, int_quo keq_i64, n_new, lo_new, n_ent, lo_ent, at_ent, Option.bind_some, Option.map_some, decide_eq_true_eq, Bool.not_eq_true', decide_eq_false_iff_not, Bool.not_true, Bool.not_false, ne_eq, if_true, if_false, reduceCtorEq, eq_self, Nat.zero_add, Nat.add_zero, not_false_eq_true, thenW_normal, thenW_ret, thenW_exit, outs_ret, outs_exit, kOf_cons, wdefers_nil, Nat.reduceEqDiff, wfin_flat (show s.n ≤ (ent s).lo from Nat.le_refl _) (flat_int _ _), fInv, fPow, Bool.false_eq_true, and_self]

theorem wrDiv (f : Int) {a b : Int} (ha : 0 ≤ a) (hb : 0 ≤ b) {s : St} {K : Value → St → Prop} : CallWP P ro 49 [.int .i64 f, .int .u64 a, .int .u64 b] s K = K (.int .u64 (fDiv f a b)) s := by
  refine callEq (call_wp b49 rfl ?_) K
  rw [n49]
  unfold v49
  simp only [pr_wop, pr_call, pr_wcall, pr_wdefer, pr_defers, pr_loop, pr_range, pr_fin, pr_hold, xdefers_eq, xcallv_fn, wopt_some, wopt_none, wopt_map, wopt_bind, wopt_ite, wdec_true, wdec_false, wdec_bool, wop_fieldAddr, wop_field, wop_index_agg, wop_build, wop_nilCheck, wop_int, wop_not, wop_extract, int_add keq_i64, int_sub keq_i64, int_mul keq_i64, int_add keq_u64, int_sub keq_u64, int_mul keq_u64, int_eql keq_i64, int_eql keq_u64, int_eql keq_u8, int_eql keq_u32, int_neq keq_i64, int_neq keq_u64, int_neq keq_u8, int_neq keq_u32, int_lss keq_i64, int_lss keq_u64, int_lss keq_u8, int_lss keq_u32, int_leq keq_i64, int_leq keq_u64, int_leq keq_u8, int_leq keq_u32, int_gtr keq_i64, int_gtr keq_u64, int_gtr keq_u8, int_gtr keq_u32, int_geq keq_i64, int_geq keq_u64, int_geq keq_u8, int_geq keq_u32, int_rem keq_i64, int_rem keq_u64, int_rem keq_u8, int_quo keq_u64, int_quo keq_i64, n_new, lo_new, n_ent, lo_ent, at_ent, Option.bind_some, Option.map_some, decide_eq_true_eq, Bool.not_eq_true', decide_eq_false_iff_not, Bool.not_true, Bool.not_false, ne_eq, if_true, if_false, reduceCtorEq, eq_self, Nat.zero_add, Nat.add_zero, not_false_eq_true, thenW_normal, thenW_ret, thenW_exit, outs_ret, outs_exit, kOf_cons, wdefers_nil, Nat.reduceEqDiff, wrInv f hb, wrMul f ha (show 0 ≤ fInv f b from (fPow_bounds f b _).1), wfin_flat (show s.n ≤ (ent s).lo from Nat.le_refl _) (flat_int _ _), fDiv, and_self]

/-! ### the field's package -/

def fieldCells (x0 x1 x2 x3 : Option Addr) (n0 n1 n2 n3 c0 c1 c2 c3 : Nat) : List Value :=
  [.int .u64 97, .int .u64 5, .int .i64 5, .int .i64 5, .slice x0 n0 c0, .int .u64 257, .int .u64 3, .int .i64 8, .int .i64 3, .slice x1 n1 c1,
   .int .u64 12289, .int .u64 11, .int .i64 12, .int .i64 5, .slice x2 n2 c2, .int .u64 998244353, .int .u64 3, .int .i64 23, .int .i64 3, .slice x3 n3 c3]

/-- The package's table of the fields. -/
def FieldsAt (s : St) : Prop := ∃ x0 x1 x2 x3 n0 n1 n2 n3 c0 c1 c2 c3 t op, s.at 0 = some (.cells (fieldCells x0 x1 x2 x3 n0 n1 n2 n3 c0 c1 c2 c3) t op)

theorem FieldsAt.lt {s : St} (h : FieldsAt s) : 0 < s.n := by
  obtain ⟨_, _, _, _, _, _, _, _, _, _, _, _, _, _, h⟩ := h
  exact St.at_lt h

theorem FieldsAt.grew {s s' : St} (h : FieldsAt s) (hg : Grew s s') : FieldsAt s' := by
  obtain ⟨x0, x1, x2, x3, n0, n1, n2, n3, c0, c1, c2, c3, t, op, h1⟩ := h
  exact ⟨x0, x1, x2, x3, n0, n1, n2, n3, c0, c1, c2, c3, t, op, by rw [hg.same 0 (St.at_lt h1)]; exact h1⟩

def fTwo (f : Int) : Int := if f = 0 then 5 else if f = 1 then 8 else if f = 2 then 12 else if f = 3 then 23 else 0

theorem wfValid (f : Int) {s : St} {K : Value → St → Prop} : CallWP P ro 37 [.int .i64 f] s K = K (.bool (fV f)) s := by
  refine callEq (call_wp b37 rfl ?_) K
  rw [n37]
  unfold v37
  unfold fV
  simp only [pr_wop, pr_call, pr_wcall, pr_wdefer, pr_defers, pr_loop, pr_range, pr_fin, pr_hold, xdefers_eq, xcallv_fn, wopt_some, wopt_none, wopt_map, wopt_bind, wopt_ite, wdec_true, wdec_false, wdec_bool, wop_fieldAddr, wop_field, wop_index_agg, wop_build, wop_nilCheck, wop_int, wop_not, wop_extract, int_add keq_i64, int_sub keq_i64, int_mul keq_i64, int_add keq_u64, int_sub keq_u64, int_mul keq_u64, int_eql keq_i64, int_eql keq_u64, int_eql keq_u8, int_eql keq_u32, int_neq keq_i64, int_neq keq_u64, int_neq keq_u8, int_neq keq_u32, int_lss keq_i64, int_lss keq_u64, int_lss keq_u8, int_lss keq_u32, int_leq keq_i64, int_leq keq_u64, int_leq keq_u8, int_leq keq_u32, int_gtr keq_i64, int_gtr keq_u64, int_gtr keq_u8, int_gtr keq_u32, int_geq keq_i64, int_geq keq_u64, int_geq keq_u8, int_geq keq_u32, int_rem keq_i64, int_rem keq_u64, int_rem keq_u8, int_quo keq_u64, int_quo keq_i64, n_new, lo_new, n_ent, lo_ent, at_ent, Option.bind_some, Option.map_some, decide_eq_true_eq, Bool.not_eq_true', decide_eq_false_iff_not, Bool.not_true, Bool.not_false, ne_eq, if_true, if_false, reduceCtorEq, eq_self, Nat.zero_add, Nat.add_zero, not_false_eq_true, thenW_normal, thenW_ret, thenW_exit, outs_ret, outs_exit, kOf_cons, wdefers_nil, Nat.reduceEqDiff]
  repeat' split
  all_goals (rw [wfin_flat (by simp only [lo_ent, Nat.le_refl]) rfl]; simp_all; try omega)

theorem wfOf (f : Int) {s : St} {K : Value → St → Prop} (hw : Wf s) (hro : ro ≤ s.n) (hG : FieldsAt s) (h : ∀ x n c s', Grew s s' → K (.agg (.mk [.int .u64 (fP f), .int .u64 (fGen f), .int .i64 (fTwo f), .int .i64 (fExp f), .slice x n c])) s') : CallWP P ro 95 [.int .i64 f] s K := by
  refine call_wp b95 rfl ?_
  rw [n95]
  unfold v95
  simp only [pr_wop, pr_call, pr_fin]
  refine alloc_rule ty_140 hw.ent fun A s1 m1 => ?_
  have hA : s.n ≤ A := by rw [m1.eq]; exact Nat.le_refl _
  have key : ∀ (l : List Value), l.length = 5 → l.all (·.oneCell') = true → (∀ s', Grew s s' → K (.agg (.mk l)) s') →
      wop P ro (.store 140 (.const (.pointer (some ⟨A, 0, none⟩))) (.const (.agg (.mk l)))) 0 s1 fun _ s2 =>
        wop P ro (.load 140 (.const (.pointer (some ⟨A, 0, none⟩)))) 140 s2 fun v _ => wfin s K v s2 := fun l hl h1 hK => by
    refine storeAll_rule isz_140 m1.here hl (by decide) m1.wf (by omega) rfl h1 fun s2 p2 => ?_
    refine load_rule (load_all ap_140 p2.here hl) ?_
    exact wfin_any hw (p2.grew _ hw.ent m1.grew hA) hK
  rw [wfValid]
  simp only [wop_not, wdec_bool]
  by_cases hv : fV f = true
  · rw [hv, if_neg (by decide)]
    obtain ⟨x0, x1, x2, x3, n0, n1, n2, n3, c0, c1, c2, c3, t, op, h0⟩ := hG
    have h0' : s1.at 0 = _ := (m1.grew.same 0 (St.at_lt h0)).trans h0
    rw [wop_indexAddr, ixArr un_149 isz_140]
    rcases fV_cases hv with rfl | rfl | rfl | rfl
    · refine load_rule (load_part (l := [.int .u64 97, .int .u64 5, .int .i64 5, .int .i64 5, .slice x0 n0 c0]) ap_140 h0' rfl) ?_
      exact key _ rfl rfl fun s' hg => h x0 n0 c0 s' hg
    · refine load_rule (load_part (l := [.int .u64 257, .int .u64 3, .int .i64 8, .int .i64 3, .slice x1 n1 c1]) ap_140 h0' rfl) ?_
      exact key _ rfl rfl fun s' hg => h x1 n1 c1 s' hg
    · refine load_rule (load_part (l := [.int .u64 12289, .int .u64 11, .int .i64 12, .int .i64 5, .slice x2 n2 c2]) ap_140 h0' rfl) ?_
      exact key _ rfl rfl fun s' hg => h x2 n2 c2 s' hg
    · refine load_rule (load_part (l := [.int .u64 998244353, .int .u64 3, .int .i64 23, .int .i64 3, .slice x3 n3 c3]) ap_140 h0' rfl) ?_
      exact key _ rfl rfl fun s' hg => h x3 n3 c3 s' hg
  · have hv : fV f = false := by simpa using hv
    have hf : fP f = 0 ∧ fGen f = 0 ∧ fTwo f = 0 ∧ fExp f = 0 := by
      have : f ≠ 0 ∧ f ≠ 1 ∧ f ≠ 2 ∧ f ≠ 3 := by
        refine ⟨?_, ?_, ?_, ?_⟩ <;> (rintro rfl; revert hv; decide)
      simp [fP, fGen, fTwo, fExp, this.1, this.2.1, this.2.2.1, this.2.2.2]
    rw [hv, if_pos (by decide), wop_build, show abuild P 140 (partVals .e []) = some (.agg (.mk [.int .u64 0, .int .u64 0, .int .i64 0, .int .i64 0, .slice none 0 0])) by kernel_rfl]
    refine key _ rfl rfl fun s' hg => ?_
    have := h none 0 0 s' hg
    rw [hf.1, hf.2.1, hf.2.2.1, hf.2.2.2] at this
    exact this

/-- The call changes nothing. -/
theorem wfP (f : Int) {s : St} {K : Value → St → Prop} (hw : Wf s) (hro : ro ≤ s.n) (hG : FieldsAt s) : CallWP P ro 80 [.int .i64 f] s K = K (.int .u64 (fP f)) s := by
  refine callEq (call_wp b80 rfl ?_) K
  rw [n80]
  unfold v80
  simp only [pr_wop, pr_call, pr_wcall, pr_wdefer, pr_defers, pr_loop, pr_range, pr_fin, pr_hold, xdefers_eq, xcallv_fn, wopt_some, wopt_none, wopt_map, wopt_bind, wopt_ite, wdec_true, wdec_false, wdec_bool, wop_fieldAddr, wop_field, wop_index_agg, wop_build, wop_nilCheck, wop_int, wop_not, wop_extract, int_add keq_i64, int_sub keq_i64, int_mul keq_i64, int_add keq_u64, int_sub keq_u64, int_mul keq_u64, int_eql keq_i64, int_eql keq_u64, int_eql keq_u8, int_eql keq_u32, int_neq keq_i64, int_neq keq_u64, int_neq keq_u8, int_neq keq_u32, int_lss keq_i64, int_lss keq_u64, int_lss keq_u8, int_lss keq_u32, int_leq keq_i64, int_leq keq_u64, int_leq keq_u8, int_leq keq_u32, int_gtr keq_i64, int_gtr keq_u64, int_gtr keq_u8, int_gtr keq_u32, int_geq keq_i64, int_geq keq_u64, int_geq keq_u8, int_geq keq_u32, int_rem keq_i64, int_rem keq_u64, int_rem keq_u8, int_quo keq_u64, int_quo keq_i64, n_new, lo_new, n_ent, lo_ent, at_ent, Option.bind_some, Option.map_some, decide_eq_true_eq, Bool.not_eq_true', decide_eq_false_iff_not, Bool.not_true, Bool.not_false, ne_eq, if_true, if_false, reduceCtorEq, eq_self, Nat.zero_add, Nat.add_zero, not_false_eq_true, thenW_normal, thenW_ret, thenW_exit, outs_ret, outs_exit, kOf_cons, wdefers_nil, Nat.reduceEqDiff]
  refine wfOf f hw.ent hro hG fun x n c s' hg => ?_
  rw [fd_140_0, ap_24]
  simp only [wopt_some, List.getElem?_cons_zero]
  rw [wfin_flat (by rw [hg.lo]; exact Nat.le_refl _) rfl]
  exact ⟨rfl, rfl⟩

theorem wfAdd (f : Int) {a b : Int} (ha : 0 ≤ a) (hb : 0 ≤ b) {s : St} {K : Value → St → Prop} (hw : Wf s) (hro : ro ≤ s.n) (hG : FieldsAt s) : CallWP P ro 64 [.int .i64 f, .int .u64 a, .int .u64 b] s K = K (.int .u64 (fAdd f a b)) s := by
  refine callEq (call_wp b64 rfl ?_) K
  rw [n64]
  unfold v64
  simp only [pr_wop, pr_call, pr_wcall, pr_wdefer, pr_defers, pr_loop, pr_range, pr_fin, pr_hold, xdefers_eq, xcallv_fn, wopt_some, wopt_none, wopt_map, wopt_bind, wopt_ite, wdec_true, wdec_false, wdec_bool, wop_fieldAddr, wop_field, wop_index_agg, wop_build, wop_nilCheck, wop_int, wop_not, wop_extract, int_add keq_i64, int_sub keq_i64, int_mul keq_i64, int_add keq_u64, int_sub keq_u64, int_mul keq_u64, int_eql keq_i64, int_eql keq_u64, int_eql keq_u8, int_eql keq_u32, int_neq keq_i64, int_neq keq_u64, int_neq keq_u8, int_neq keq_u32, int_lss keq_i64, int_lss keq_u64, int_lss keq_u8, int_lss keq_u32, int_leq keq_i64, int_leq keq_u64, int_leq keq_u8, int_leq keq_u32, int_gtr keq_i64, int_gtr keq_u64, int_gtr keq_u8, int_gtr keq_u32, int_geq keq_i64, int_geq keq_u64, int_geq keq_u8, int_geq keq_u32, int_rem keq_i64, int_rem keq_u64, int_rem keq_u8, int_quo keq_u64, int_quo keq_i64, n_new, lo_new, n_ent, lo_ent, at_ent, Option.bind_some, Option.map_some, decide_eq_true_eq, Bool.not_eq_true', decide_eq_false_iff_not, Bool.not_true, Bool.not_false, ne_eq, if_true, if_false, reduceCtorEq, eq_self, Nat.zero_add, Nat.add_zero, not_false_eq_true, thenW_normal, thenW_ret, thenW_exit, outs_ret, outs_exit, kOf_cons, wdefers_nil, Nat.reduceEqDiff]
  rw [wfP f hw.ent hro hG]
  simp only [pr_wop, pr_call, pr_wcall, pr_wdefer, pr_defers, pr_loop, pr_range, pr_fin, pr_hold, xdefers_eq, xcallv_fn, wopt_some, wopt_none, wopt_map, wopt_bind, wopt_ite, wdec_true, wdec_false, wdec_bool, wop_fieldAddr, wop_field, wop_index_agg, wop_build, wop_nilCheck, wop_int, wop_not, wop_extract, int_add keq_i64, int_sub keq_i64, int_mul keq_i64, int_add keq_u64, int_sub keq_u64, int_mul keq_u64, int_eql keq_i64, int_eql keq_u64, int_eql keq_u8, int_eql keq_u32, int_neq keq_i64, int_neq keq_u64, int_neq keq_u8, int_neq keq_u32, int_lss keq_i64, int_lss keq_u64, int_lss keq_u8, int_lss keq_u32, int_leq keq_i64, int_leq keq_u64, int_leq keq_u8, int_leq keq_u32, int_gtr keq_i64, int_gtr keq_u64, int_gtr keq_u8, int_gtr keq_u32, int_geq keq_i64, int_geq keq_u64, int_geq keq_u8, int_geq keq_u32, int_rem keq_i64, int_rem keq_u64, int_rem keq_u8, int_quo keq_u64, int_quo keq_i64, n_new, lo_new, n_ent, lo_ent, at_ent, Option.bind_some, Option.map_some, decide_eq_true_eq, Bool.not_eq_true', decide_eq_false_iff_not, Bool.not_true, Bool.not_false, ne_eq, if_true, if_false, reduceCtorEq, eq_self, Nat.zero_add, Nat.add_zero, not_false_eq_true, thenW_normal, thenW_ret, thenW_exit, outs_ret, outs_exit, kOf_cons, wdefers_nil, Nat.reduceEqDiff]
  by_cases hv : fV f = true
  · have hp := fP_pos hv
    have hl := fP_lt f
    have hne : fP f ≠ 0 := by omega
    have h1 := mod_bounds (a := a) hp
    have h2 := mod_bounds (a := b) hp
    simp only [hne, pr_wop, pr_call, pr_wcall, pr_wdefer, pr_defers, pr_loop, pr_range, pr_fin, pr_hold, xdefers_eq, xcallv_fn, wopt_some, wopt_none, wopt_map, wopt_bind, wopt_ite, wdec_true, wdec_false, wdec_bool, wop_fieldAddr, wop_field, wop_index_agg, wop_build, wop_nilCheck, wop_int, wop_not, wop_extract, int_add keq_i64, int_sub keq_i64, int_mul keq_i64, int_add keq_u64, int_sub keq_u64, int_mul keq_u64, int_eql keq_i64, int_eql keq_u64, int_eql keq_u8, int_eql keq_u32, int_neq keq_i64, int_neq keq_u64, int_neq keq_u8, int_neq keq_u32, int_lss keq_i64, int_lss keq_u64, int_lss keq_u8, int_lss keq_u32, int_leq keq_i64, int_leq keq_u64, int_leq keq_u8, int_leq keq_u32, int_gtr keq_i64, int_gtr keq_u64, int_gtr keq_u8, int_gtr keq_u32, int_geq keq_i64, int_geq keq_u64, int_geq keq_u8, int_geq keq_u32, int_rem keq_i64, int_rem keq_u64, int_rem keq_u8, int_quo keq_u64, int_quo keq_i64, n_new, lo_new, n_ent, lo_ent, at_ent, Option.bind_some, Option.map_some, decide_eq_true_eq, Bool.not_eq_true', decide_eq_false_iff_not, Bool.not_true, Bool.not_false, ne_eq, if_true, if_false, reduceCtorEq, eq_self, Nat.zero_add, Nat.add_zero, not_false_eq_true, thenW_normal, thenW_ret, thenW_exit, outs_ret, outs_exit, kOf_cons, wdefers_nil, Nat.reduceEqDiff, tmod_nonneg ha, tmod_nonneg hb, fAdd, hv]
    rw [wrap_u64 (n := a % fP f + b % fP f) (by omega) (by omega)]
    have e : (a + b) % fP f = (a % fP f + b % fP f) % fP f := by rw [Int.emod_add_emod, Int.add_emod_emod]
    split
    · rename_i h3
      rw [wrap_u64 (n := a % fP f + b % fP f - fP f) (by omega) (by omega), wfin_flat (Nat.le_refl _) rfl, e]
      refine ⟨?_, rfl⟩
      congr 1
      have e2 := Int.sub_emod_right (a % fP f + b % fP f) (fP f)
      rw [← e2]
      exact (Int.emod_eq_of_lt (by omega) (by omega)).symm
    · rename_i h3
      rw [wfin_flat (Nat.le_refl _) rfl, e]
      refine ⟨?_, rfl⟩
      congr 1
      exact (Int.emod_eq_of_lt (by omega) (by omega)).symm
  · have hv : fV f = false := by simpa using hv
    simp only [fP_zero hv, pr_wop, pr_call, pr_wcall, pr_wdefer, pr_defers, pr_loop, pr_range, pr_fin, pr_hold, xdefers_eq, xcallv_fn, wopt_some, wopt_none, wopt_map, wopt_bind, wopt_ite, wdec_true, wdec_false, wdec_bool, wop_fieldAddr, wop_field, wop_index_agg, wop_build, wop_nilCheck, wop_int, wop_not, wop_extract, int_add keq_i64, int_sub keq_i64, int_mul keq_i64, int_add keq_u64, int_sub keq_u64, int_mul keq_u64, int_eql keq_i64, int_eql keq_u64, int_eql keq_u8, int_eql keq_u32, int_neq keq_i64, int_neq keq_u64, int_neq keq_u8, int_neq keq_u32, int_lss keq_i64, int_lss keq_u64, int_lss keq_u8, int_lss keq_u32, int_leq keq_i64, int_leq keq_u64, int_leq keq_u8, int_leq keq_u32, int_gtr keq_i64, int_gtr keq_u64, int_gtr keq_u8, int_gtr keq_u32, int_geq keq_i64, int_geq keq_u64, int_geq keq_u8, int_geq keq_u32, int_rem keq_i64, int_rem keq_u64, int_rem keq_u8, int_quo keq_u64, int_quo keq_i64, n_new, lo_new, n_ent, lo_ent, at_ent, Option.bind_some, Option.map_some, decide_eq_true_eq, Bool.not_eq_true', decide_eq_false_iff_not, Bool.not_true, Bool.not_false, ne_eq, if_true, if_false, reduceCtorEq, eq_self, Nat.zero_add, Nat.add_zero, not_false_eq_true, thenW_normal, thenW_ret, thenW_exit, outs_ret, outs_exit, kOf_cons, wdefers_nil, Nat.reduceEqDiff, fAdd, hv, Bool.false_eq_true]
    rw [wfin_flat (Nat.le_refl _) rfl]
    exact ⟨rfl, rfl⟩

theorem wfNeg (f : Int) {a : Int} (ha : 0 ≤ a) {s : St} {K : Value → St → Prop} (hw : Wf s) (hro : ro ≤ s.n) (hG : FieldsAt s) : CallWP P ro 93 [.int .i64 f, .int .u64 a] s K = K (.int .u64 (fNeg f a)) s := by
  refine callEq (call_wp b93 rfl ?_) K
  rw [n93]
  unfold v93
  simp only [pr_wop, pr_call, pr_wcall, pr_wdefer, pr_defers, pr_loop, pr_range, pr_fin, pr_hold, xdefers_eq, xcallv_fn, wopt_some, wopt_none, wopt_map, wopt_bind, wopt_ite, wdec_true, wdec_false, wdec_bool, wop_fieldAddr, wop_field, wop_index_agg, wop_build, wop_nilCheck, wop_int, wop_not, wop_extract, int_add keq_i64, int_sub keq_i64, int_mul keq_i64, int_add keq_u64, int_sub keq_u64, int_mul keq_u64, int_eql keq_i64, int_eql keq_u64, int_eql keq_u8, int_eql keq_u32, int_neq keq_i64, int_neq keq_u64, int_neq keq_u8, int_neq keq_u32, int_lss keq_i64, int_lss keq_u64, int_lss keq_u8, int_lss keq_u32, int_leq keq_i64, int_leq keq_u64, int_leq keq_u8, int_leq keq_u32, int_gtr keq_i64, int_gtr keq_u64, int_gtr keq_u8, int_gtr keq_u32, int_geq keq_i64, int_geq keq_u64, int_geq keq_u8, int_geq keq_u32, int_rem keq_i64, int_rem keq_u64, int_rem keq_u8, int_quo keq_u64, int_quo keq_i64, n_new, lo_new, n_ent, lo_ent, at_ent, Option.bind_some, Option.map_some, decide_eq_true_eq, Bool.not_eq_true', decide_eq_false_iff_not, Bool.not_true, Bool.not_false, ne_eq, if_true, if_false, reduceCtorEq, eq_self, Nat.zero_add, Nat.add_zero, not_false_eq_true, thenW_normal, thenW_ret, thenW_exit, outs_ret, outs_exit, kOf_cons, wdefers_nil, Nat.reduceEqDiff]
  rw [wfP f hw.ent hro hG]
  simp only [pr_wop, pr_call, pr_wcall, pr_wdefer, pr_defers, pr_loop, pr_range, pr_fin, pr_hold, xdefers_eq, xcallv_fn, wopt_some, wopt_none, wopt_map, wopt_bind, wopt_ite, wdec_true, wdec_false, wdec_bool, wop_fieldAddr, wop_field, wop_index_agg, wop_build, wop_nilCheck, wop_int, wop_not, wop_extract, int_add keq_i64, int_sub keq_i64, int_mul keq_i64, int_add keq_u64, int_sub keq_u64, int_mul keq_u64, int_eql keq_i64, int_eql keq_u64, int_eql keq_u8, int_eql keq_u32, int_neq keq_i64, int_neq keq_u64, int_neq keq_u8, int_neq keq_u32, int_lss keq_i64, int_lss keq_u64, int_lss keq_u8, int_lss keq_u32, int_leq keq_i64, int_leq keq_u64, int_leq keq_u8, int_leq keq_u32, int_gtr keq_i64, int_gtr keq_u64, int_gtr keq_u8, int_gtr keq_u32, int_geq keq_i64, int_geq keq_u64, int_geq keq_u8, int_geq keq_u32, int_rem keq_i64, int_rem keq_u64, int_rem keq_u8, int_quo keq_u64, int_quo keq_i64, n_new, lo_new, n_ent, lo_ent, at_ent, Option.bind_some, Option.map_some, decide_eq_true_eq, Bool.not_eq_true', decide_eq_false_iff_not, Bool.not_true, Bool.not_false, ne_eq, if_true, if_false, reduceCtorEq, eq_self, Nat.zero_add, Nat.add_zero, not_false_eq_true, thenW_normal, thenW_ret, thenW_exit, outs_ret, outs_exit, kOf_cons, wdefers_nil, Nat.reduceEqDiff]
  by_cases hv : fV f = true
  · have hp := fP_pos hv
    have hl := fP_lt f
    have hne : fP f ≠ 0 := by omega
    have h1 := mod_bounds (a := a) hp
    simp only [hne, pr_wop, pr_call, pr_wcall, pr_wdefer, pr_defers, pr_loop, pr_range, pr_fin, pr_hold, xdefers_eq, xcallv_fn, wopt_some, wopt_none, wopt_map, wopt_bind, wopt_ite, wdec_true, wdec_false, wdec_bool, wop_fieldAddr, wop_field, wop_index_agg, wop_build, wop_nilCheck, wop_int, wop_not, wop_extract, int_add keq_i64, int_sub keq_i64, int_mul keq_i64, int_add keq_u64, int_sub keq_u64, int_mul keq_u64, int_eql keq_i64, int_eql keq_u64, int_eql keq_u8, int_eql keq_u32, int_neq keq_i64, int_neq keq_u64, int_neq keq_u8, int_neq keq_u32, int_lss keq_i64, int_lss keq_u64, int_lss keq_u8, int_lss keq_u32, int_leq keq_i64, int_leq keq_u64, int_leq keq_u8, int_leq keq_u32, int_gtr keq_i64, int_gtr keq_u64, int_gtr keq_u8, int_gtr keq_u32, int_geq keq_i64, int_geq keq_u64, int_geq keq_u8, int_geq keq_u32, int_rem keq_i64, int_rem keq_u64, int_rem keq_u8, int_quo keq_u64, int_quo keq_i64, n_new, lo_new, n_ent, lo_ent, at_ent, Option.bind_some, Option.map_some, decide_eq_true_eq, Bool.not_eq_true', decide_eq_false_iff_not, Bool.not_true, Bool.not_false, ne_eq, if_true, if_false, reduceCtorEq, eq_self, Nat.zero_add, Nat.add_zero, not_false_eq_true, thenW_normal, thenW_ret, thenW_exit, outs_ret, outs_exit, kOf_cons, wdefers_nil, Nat.reduceEqDiff, tmod_nonneg ha, fNeg, fSub, hv]
    split
    · rename_i h3
      rw [wfin_flat (Nat.le_refl _) rfl]
      refine ⟨?_, rfl⟩
      congr 1
      rw [Int.zero_sub]
      exact (Int.emod_eq_zero_of_dvd (Int.dvd_neg.2 (Int.dvd_of_emod_eq_zero h3))).symm
    · rename_i h3
      rw [wrap_u64 (by omega) (by omega), wfin_flat (Nat.le_refl _) rfl]
      refine ⟨?_, rfl⟩
      congr 1
      have h4 : a % fP f ≠ 0 := by simpa using h3
      have e2 : (0 - a) % fP f = (fP f - a % fP f) % fP f := by
        rw [← Int.sub_emod_emod 0 a, ← Int.add_emod_right (0 - a % fP f), show 0 - a % fP f + fP f = fP f - a % fP f by omega]
      rw [e2]
      exact (Int.emod_eq_of_lt (by omega) (by omega)).symm
  · have hv : fV f = false := by simpa using hv
    simp only [fP_zero hv, pr_wop, pr_call, pr_wcall, pr_wdefer, pr_defers, pr_loop, pr_range, pr_fin, pr_hold, xdefers_eq, xcallv_fn, wopt_some, wopt_none, wopt_map, wopt_bind, wopt_ite, wdec_true, wdec_false, wdec_bool, wop_fieldAddr, wop_field, wop_index_agg, wop_build, wop_nilCheck, wop_int, wop_not, wop_extract, int_add keq_i64, int_sub keq_i64, int_mul keq_i64, int_add keq_u64, int_sub keq_u64, int_mul keq_u64, int_eql keq_i64, int_eql keq_u64, int_eql keq_u8, int_eql keq_u32, int_neq keq_i64, int_neq keq_u64, int_neq keq_u8, int_neq keq_u32, int_lss keq_i64, int_lss keq_u64, int_lss keq_u8, int_lss keq_u32, int_leq keq_i64, int_leq keq_u64, int_leq keq_u8, int_leq keq_u32, int_gtr keq_i64, int_gtr keq_u64, int_gtr keq_u8, int_gtr keq_u32, int_geq keq_i64, int_geq keq_u64, int_geq keq_u8, int_geq keq_u32, int_rem keq_i64, int_rem keq_u64, int_rem keq_u8, int_quo keq_u64, int_quo keq_i64, n_new, lo_new, n_ent, lo_ent, at_ent, Option.bind_some, Option.map_some, decide_eq_true_eq, Bool.not_eq_true', decide_eq_false_iff_not, Bool.not_true, Bool.not_false, ne_eq, if_true, if_false, reduceCtorEq, eq_self, Nat.zero_add, Nat.add_zero, not_false_eq_true, thenW_normal, thenW_ret, thenW_exit, outs_ret, outs_exit, kOf_cons, wdefers_nil, Nat.reduceEqDiff, fNeg, fSub, hv, Bool.false_eq_true]
    rw [wfin_flat (Nat.le_refl _) rfl]
    exact ⟨rfl, rfl⟩

theorem wfSub (f : Int) {a b : Int} (ha : 0 ≤ a) (hb : 0 ≤ b) {s : St} {K : Value → St → Prop} (hw : Wf s) (hro : ro ≤ s.n) (hG : FieldsAt s) : CallWP P ro 69 [.int .i64 f, .int .u64 a, .int .u64 b] s K = K (.int .u64 (fSub f a b)) s := by
  refine callEq (call_wp b69 rfl ?_) K
  rw [n69]
  unfold v69
  simp only [pr_wop, pr_call, pr_wcall, pr_wdefer, pr_defers, pr_loop, pr_range, pr_fin, pr_hold, xdefers_eq, xcallv_fn, wopt_some, wopt_none, wopt_map, wopt_bind, wopt_ite, wdec_true, wdec_false, wdec_bool, wop_fieldAddr, wop_field, wop_index_agg, wop_build, wop_nilCheck, wop_int, wop_not, wop_extract, int_add keq_i64, int_sub keq_i64, int_mul keq_i64, int_add keq_u64, int_sub keq_u64, int_mul keq_u64, int_eql keq_i64, int_eql keq_u64, int_eql keq_u8, int_eql keq_u32, int_neq keq_i64, int_neq keq_u64, int_neq keq_u8, int_neq keq_u32, int_lss keq_i64, int_lss keq_u64, int_lss keq_u8, int_lss keq_u32, int_leq keq_i64, int_leq keq_u64, int_leq keq_u8, int_leq keq_u32, int_gtr keq_i64, int_gtr keq_u64, int_gtr keq_u8, int_gtr keq_u32, int_geq keq_i64, int_geq keq_u64, int_geq keq_u8, int_geq keq_u32, int_rem keq_i64, int_rem keq_u64, int_rem keq_u8, int_quo keq_u64, int_quo keq_i64, n_new, lo_new, n_ent, lo_ent, at_ent, Option.bind_some, Option.map_some, decide_eq_true_eq, Bool.not_eq_true', decide_eq_false_iff_not, Bool.not_true, Bool.not_false, ne_eq, if_true, if_false, reduceCtorEq, eq_self, Nat.zero_add, Nat.add_zero, not_false_eq_true, thenW_normal, thenW_ret, thenW_exit, outs_ret, outs_exit, kOf_cons, wdefers_nil, Nat.reduceEqDiff]
  rw [wfNeg f hb hw.ent hro hG, wfAdd f ha (show 0 ≤ fNeg f b from (fSub_bounds f 0 b).1) hw.ent hro hG, wfin_flat (Nat.le_refl _) rfl]
  refine ⟨?_, rfl⟩
  congr 1
  unfold fAdd fNeg fSub
  cases hv : fV f with
  | false => rfl
  | true =>
    simp only [if_true, Int.add_emod_emod]
    congr 1
    omega

theorem wfMul (f : Int) {a b : Int} (ha : 0 ≤ a) (hb : 0 ≤ b) {s : St} {K : Value → St → Prop} (hw : Wf s) (hro : ro ≤ s.n) (hG : FieldsAt s) : CallWP P ro 70 [.int .i64 f, .int .u64 a, .int .u64 b] s K = K (.int .u64 (fMul f a b)) s := by
  refine callEq (call_wp b70 rfl ?_) K
  rw [n70]
  unfold v70
  simp only [pr_wop, pr_call, pr_wcall, pr_wdefer, pr_defers, pr_loop, pr_range, pr_fin, pr_hold, xdefers_eq, xcallv_fn, wopt_some, wopt_none, wopt_map, wopt_bind, wopt_ite, wdec_true, wdec_false, wdec_bool, wop_fieldAddr, wop_field, wop_index_agg, wop_build, wop_nilCheck, wop_int, wop_not, wop_extract, int_add keq_i64, int_sub keq_i64, int_mul keq_i64, int_add keq_u64, int_sub keq_u64, int_mul keq_u64, int_eql keq_i64, int_eql keq_u64, int_eql keq_u8, int_eql keq_u32, int_neq keq_i64, int_neq keq_u64, int_neq keq_u8, int_neq keq_u32, int_lss keq_i64, int_lss keq_u64, int_lss keq_u8, int_lss keq_u32, int_leq keq_i64, int_leq keq_u64, int_leq keq_u8, int_leq keq_u32, int_gtr keq_i64, int_gtr keq_u64, int_gtr keq_u8, int_gtr keq_u32, int_geq keq_i64, int_geq keq_u64, int_geq keq_u8, int_geq keq_u32, int_rem keq_i64, int_rem keq_u64, int_rem keq_u8, int_quo keq_u64, int_quo keq_i64, n_new, lo_new, n_ent, lo_ent, at_ent, Option.bind_some, Option.map_some, decide_eq_true_eq, Bool.not_eq_true', decide_eq_false_iff_not, Bool.not_true, Bool.not_false, ne_eq, if_true, if_false, reduceCtorEq, eq_self, Nat.zero_add, Nat.add_zero, not_false_eq_true, thenW_normal, thenW_ret, thenW_exit, outs_ret, outs_exit, kOf_cons, wdefers_nil, Nat.reduceEqDiff]
  rw [wfP f hw.ent hro hG]
  simp only [pr_wop, pr_call, pr_wcall, pr_wdefer, pr_defers, pr_loop, pr_range, pr_fin, pr_hold, xdefers_eq, xcallv_fn, wopt_some, wopt_none, wopt_map, wopt_bind, wopt_ite, wdec_true, wdec_false, wdec_bool, wop_fieldAddr, wop_field, wop_index_agg, wop_build, wop_nilCheck, wop_int, wop_not, wop_extract, int_add keq_i64, int_sub keq_i64, int_mul keq_i64, int_add keq_u64, int_sub keq_u64, int_mul keq_u64, int_eql keq_i64, int_eql keq_u64, int_eql keq_u8, int_eql keq_u32, int_neq keq_i64, int_neq keq_u64, int_neq keq_u8, int_neq keq_u32, int_lss keq_i64, int_lss keq_u64, int_lss keq_u8, int_lss keq_u32, int_leq keq_i64, int_leq keq_u64, int_leq keq_u8, int_leq keq_u32, int_gtr keq_i64, int_gtr keq_u64, int_gtr keq_u8, int_gtr keq_u32, int_geq keq_i64, int_geq keq_u64, int_geq keq_u8, int_geq keq_u32, int_rem keq_i64, int_rem keq_u64, int_rem keq_u8, int_quo keq_u64, int_quo keq_i64, n_new, lo_new, n_ent, lo_ent, at_ent, Option.bind_some, Option.map_some, decide_eq_true_eq, Bool.not_eq_true', decide_eq_false_iff_not, Bool.not_true, Bool.not_false, ne_eq, if_true, if_false, reduceCtorEq, eq_self, Nat.zero_add, Nat.add_zero, not_false_eq_true, thenW_normal, thenW_ret, thenW_exit, outs_ret, outs_exit, kOf_cons, wdefers_nil, Nat.reduceEqDiff]
  by_cases hv : fV f = true
  · have hp := fP_pos hv
    have hl := fP_lt f
    have hne : fP f ≠ 0 := by omega
    have h1 := mod_bounds (a := a) hp
    have h2 := mod_bounds (a := b) hp
    have h3 : 0 ≤ a % fP f * (b % fP f) := Int.mul_nonneg h1.1 h2.1
    have h4 : a % fP f * (b % fP f) ≤ 2 ^ 30 * 2 ^ 30 := Int.mul_le_mul (by omega) (by omega) h2.1 (by omega)
    simp only [hne, pr_wop, pr_call, pr_wcall, pr_wdefer, pr_defers, pr_loop, pr_range, pr_fin, pr_hold, xdefers_eq, xcallv_fn, wopt_some, wopt_none, wopt_map, wopt_bind, wopt_ite, wdec_true, wdec_false, wdec_bool, wop_fieldAddr, wop_field, wop_index_agg, wop_build, wop_nilCheck, wop_int, wop_not, wop_extract, int_add keq_i64, int_sub keq_i64, int_mul keq_i64, int_add keq_u64, int_sub keq_u64, int_mul keq_u64, int_eql keq_i64, int_eql keq_u64, int_eql keq_u8, int_eql keq_u32, int_neq keq_i64, int_neq keq_u64, int_neq keq_u8, int_neq keq_u32, int_lss keq_i64, int_lss keq_u64, int_lss keq_u8, int_lss keq_u32, int_leq keq_i64, int_leq keq_u64, int_leq keq_u8, int_leq keq_u32, int_gtr keq_i64, int_gtr keq_u64, int_gtr keq_u8, int_gtr keq_u32, int_geq keq_i64, int_geq keq_u64, int_geq keq_u8, int_geq keq_u32, int_rem keq_i64, int_rem keq_u64, int_rem keq_u8, int_quo keq_u64, int_quo keq_i64, n_new, lo_new, n_ent, lo_ent, at_ent, Option.bind_some, Option.map_some, decide_eq_true_eq, Bool.not_eq_true', decide_eq_false_iff_not, Bool.not_true, Bool.not_false, ne_eq, if_true, if_false, reduceCtorEq, eq_self, Nat.zero_add, Nat.add_zero, not_false_eq_true, thenW_normal, thenW_ret, thenW_exit, outs_ret, outs_exit, kOf_cons, wdefers_nil, Nat.reduceEqDiff, tmod_nonneg ha, tmod_nonneg hb, fMul, hv]
    rw [wrap_u64 (by omega) (by omega), tmod_nonneg (by omega), wfin_flat (Nat.le_refl _) rfl, ← Int.mul_emod]
    exact ⟨rfl, rfl⟩
  · have hv : fV f = false := by simpa using hv
    simp only [fP_zero hv, pr_wop, pr_call, pr_wcall, pr_wdefer, pr_defers, pr_loop, pr_range, pr_fin, pr_hold, xdefers_eq, xcallv_fn, wopt_some, wopt_none, wopt_map, wopt_bind, wopt_ite, wdec_true, wdec_false, wdec_bool, wop_fieldAddr, wop_field, wop_index_agg, wop_build, wop_nilCheck, wop_int, wop_not, wop_extract, int_add keq_i64, int_sub keq_i64, int_mul keq_i64, int_add keq_u64, int_sub keq_u64, int_mul keq_u64, int_eql keq_i64, int_eql keq_u64, int_eql keq_u8, int_eql keq_u32, int_neq keq_i64, int_neq keq_u64, int_neq keq_u8, int_neq keq_u32, int_lss keq_i64, int_lss keq_u64, int_lss keq_u8, int_lss keq_u32, int_leq keq_i64, int_leq keq_u64, int_leq keq_u8, int_leq keq_u32, int_gtr keq_i64, int_gtr keq_u64, int_gtr keq_u8, int_gtr keq_u32, int_geq keq_i64, int_geq keq_u64, int_geq keq_u8, int_geq keq_u32, int_rem keq_i64, int_rem keq_u64, int_rem keq_u8, int_quo keq_u64, int_quo keq_i64, n_new, lo_new, n_ent, lo_ent, at_ent, Option.bind_some, Option.map_some, decide_eq_true_eq, Bool.not_eq_true', decide_eq_false_iff_not, Bool.not_true, Bool.not_false, ne_eq, if_true, if_false, reduceCtorEq, eq_self, Nat.zero_add, Nat.add_zero, not_false_eq_true, thenW_normal, thenW_ret, thenW_exit, outs_ret, outs_exit, kOf_cons, wdefers_nil, Nat.reduceEqDiff, fMul, hv, Bool.false_eq_true]
    rw [wfin_flat (Nat.le_refl _) rfl]
    exact ⟨rfl, rfl⟩

end
end Go.VE

/- Small functions of the law's package: lists. -/
namespace Go.VE
open Go Go.Proofs
set_option maxRecDepth 20000

/-- A slice of ints. -/
def Ints (s : St) (v : Value) (l : List Int) : Prop := Sl s v 1 l.length (l.map (.int .i64))

section
variable {ro : Nat}

theorem take_succ_eq {α : Type} {l : List α} {i : Nat} {a : α} (h : l[i]? = some a) : l.take (i + 1) = l.take i ++ [a] := by
  rw [List.take_add_one, h]; rfl

theorem wSame {la lb : List Int} {a b : Value} {s : St} {K : Value → St → Prop} (ha : Ints s a la) (hb : Ints s b lb) (hlen : la.length < 2 ^ 62) : CallWP P ro 36 [a, b] s K = K (.bool (decide (la = lb))) s := by
  refine callEq (call_wp b36 rfl ?_) K
  rw [n36]
  unfold v36
  simp only [pr_wop, pr_call, pr_wcall, pr_wdefer, pr_defers, pr_loop, pr_range, pr_fin, pr_hold, xdefers_eq, xcallv_fn, wopt_some, wopt_none, wopt_map, wopt_bind, wopt_ite, wdec_true, wdec_false, wdec_bool, wop_fieldAddr, wop_field, wop_index_agg, wop_build, wop_nilCheck, wop_int, wop_not, wop_extract, int_add keq_i64, int_sub keq_i64, int_mul keq_i64, int_add keq_u64, int_sub keq_u64, int_mul keq_u64, int_eql keq_i64, int_eql keq_u64, int_eql keq_u8, int_eql keq_u32, int_neq keq_i64, int_neq keq_u64, int_neq keq_u8, int_neq keq_u32, int_lss keq_i64, int_lss keq_u64, int_lss keq_u8, int_lss keq_u32, int_leq keq_i64, int_leq keq_u64, int_leq keq_u8, int_leq keq_u32, int_gtr keq_i64, int_gtr keq_u64, int_gtr keq_u8, int_gtr keq_u32, int_geq keq_i64, int_geq keq_u64, int_geq keq_u8, int_geq keq_u32, int_rem keq_i64, int_rem keq_u64, int_rem keq_u8, int_quo keq_u64, int_quo keq_i64, n_new, lo_new, n_ent, lo_ent, at_ent, Option.bind_some, Option.map_some, decide_eq_true_eq, Bool.not_eq_true', decide_eq_false_iff_not, Bool.not_true, Bool.not_false, ne_eq, if_true, if_false, reduceCtorEq, eq_self, Nat.zero_add, Nat.add_zero, not_false_eq_true, thenW_normal, thenW_ret, thenW_exit, outs_ret, outs_exit, kOf_cons, wdefers_nil, Nat.reduceEqDiff, ha.wlen se_30, hb.wlen se_30]
  split
  · rename_i h1
    have hne : la ≠ lb := by
      rintro rfl
      exact h1 rfl
    rw [wfin_flat (Nat.le_refl _) rfl, decide_eq_false hne]
    exact ⟨rfl, rfl⟩
  · rename_i h1
    have hl : la.length = lb.length := by omega
    refine wloop l36_110100 m36_110100 (fun (i : Nat) τ ds s' => τ 0 = a ∧ τ 1 = b ∧ τ 5 = .int .i64 i ∧ ds = [] ∧ s' = ent s ∧ i ≤ la.length ∧ la.take i = lb.take i) (fun i => la.length - i) ?_ 0 ⟨rfl, rfl, rfl, rfl, rfl, Nat.zero_le _, rfl⟩
    rintro i τ ds s' ⟨h0, h1, h5, rfl, rfl, hi, heq⟩
    rw [n36_110100]
    unfold v36_110100
    simp only [pr_wop, pr_call, pr_wcall, pr_wdefer, pr_defers, pr_loop, pr_range, pr_fin, pr_hold, xdefers_eq, xcallv_fn, wopt_some, wopt_none, wopt_map, wopt_bind, wopt_ite, wdec_true, wdec_false, wdec_bool, wop_fieldAddr, wop_field, wop_index_agg, wop_build, wop_nilCheck, wop_int, wop_not, wop_extract, int_add keq_i64, int_sub keq_i64, int_mul keq_i64, int_add keq_u64, int_sub keq_u64, int_mul keq_u64, int_eql keq_i64, int_eql keq_u64, int_eql keq_u8, int_eql keq_u32, int_neq keq_i64, int_neq keq_u64, int_neq keq_u8, int_neq keq_u32, int_lss keq_i64, int_lss keq_u64, int_lss keq_u8, int_lss keq_u32, int_leq keq_i64, int_leq keq_u64, int_leq keq_u8, int_leq keq_u32, int_gtr keq_i64, int_gtr keq_u64, int_gtr keq_u8, int_gtr keq_u32, int_geq keq_i64, int_geq keq_u64, int_geq keq_u8, int_geq keq_u32, int_rem keq_i64, int_rem keq_u64, int_rem keq_u8, int_quo keq_u64, int_quo keq_i64, n_new, lo_new, n_ent, lo_ent, at_ent, Option.bind_some, Option.map_some, decide_eq_true_eq, Bool.not_eq_true', decide_eq_false_iff_not, Bool.not_true, Bool.not_false, ne_eq, if_true, if_false, reduceCtorEq, eq_self, Nat.zero_add, Nat.add_zero, not_false_eq_true, thenW_normal, thenW_ret, thenW_exit, outs_ret, outs_exit, kOf_cons, wdefers_nil, Nat.reduceEqDiff, h0, h1, h5, ha.wlen se_30]
    split
    · rename_i hlt
      have hlt : i < la.length := by omega
      have hlt' : i < lb.length := by omega
      refine ix_rule (i := (i : Int)) (u := .int .i64 la[i]) ha.ent se_30 isz_3 ap_3 (by omega) (by omega) (by simp [hlt]) fun p hp => load_rule hp ?_
      refine ix_rule (i := (i : Int)) (u := .int .i64 lb[i]) hb.ent se_30 isz_3 ap_3 (by omega) (by omega) (by simp [hlt']) fun p hp => load_rule hp ?_
      simp only [pr_wop, pr_call, pr_wcall, pr_wdefer, pr_defers, pr_loop, pr_range, pr_fin, pr_hold, xdefers_eq, xcallv_fn, wopt_some, wopt_none, wopt_map, wopt_bind, wopt_ite, wdec_true, wdec_false, wdec_bool, wop_fieldAddr, wop_field, wop_index_agg, wop_build, wop_nilCheck, wop_int, wop_not, wop_extract, int_add keq_i64, int_sub keq_i64, int_mul keq_i64, int_add keq_u64, int_sub keq_u64, int_mul keq_u64, int_eql keq_i64, int_eql keq_u64, int_eql keq_u8, int_eql keq_u32, int_neq keq_i64, int_neq keq_u64, int_neq keq_u8, int_neq keq_u32, int_lss keq_i64, int_lss keq_u64, int_lss keq_u8, int_lss keq_u32, int_leq keq_i64, int_leq keq_u64, int_leq keq_u8, int_leq keq_u32, int_gtr keq_i64, int_gtr keq_u64, int_gtr keq_u8, int_gtr keq_u32, int_geq keq_i64, int_geq keq_u64, int_geq keq_u8, int_geq keq_u32, int_rem keq_i64, int_rem keq_u64, int_rem keq_u8, int_quo keq_u64, int_quo keq_i64, n_new, lo_new, n_ent, lo_ent, at_ent, Option.bind_some, Option.map_some, decide_eq_true_eq, Bool.not_eq_true', decide_eq_false_iff_not, Bool.not_true, Bool.not_false, ne_eq, if_true, if_false, reduceCtorEq, eq_self, Nat.zero_add, Nat.add_zero, not_false_eq_true, thenW_normal, thenW_ret, thenW_exit, outs_ret, outs_exit, kOf_cons, wdefers_nil, Nat.reduceEqDiff]
      split
      · rename_i hne
        have hne' : la ≠ lb := by
          rintro rfl
          exact hne rfl
        simp only [r36, pr_wop, pr_call, pr_wcall, pr_wdefer, pr_defers, pr_loop, pr_range, pr_fin, pr_hold, xdefers_eq, xcallv_fn, wopt_some, wopt_none, wopt_map, wopt_bind, wopt_ite, wdec_true, wdec_false, wdec_bool, wop_fieldAddr, wop_field, wop_index_agg, wop_build, wop_nilCheck, wop_int, wop_not, wop_extract, int_add keq_i64, int_sub keq_i64, int_mul keq_i64, int_add keq_u64, int_sub keq_u64, int_mul keq_u64, int_eql keq_i64, int_eql keq_u64, int_eql keq_u8, int_eql keq_u32, int_neq keq_i64, int_neq keq_u64, int_neq keq_u8, int_neq keq_u32, int_lss keq_i64, int_lss keq_u64, int_lss keq_u8, int_lss keq_u32, int_leq keq_i64, int_leq keq_u64, int_leq keq_u8, int_leq keq_u32, int_gtr keq_i64, int_gtr keq_u64, int_gtr keq_u8, int_gtr keq_u32, int_geq keq_i64, int_geq keq_u64, int_geq keq_u8, int_geq keq_u32, int_rem keq_i64, int_rem keq_u64, int_rem keq_u8, int_quo keq_u64, int_quo keq_i64, n_new, lo_new, n_ent, lo_ent, at_ent, Option.bind_some, Option.map_some, decide_eq_true_eq, Bool.not_eq_true', decide_eq_false_iff_not, Bool.not_true, Bool.not_false, ne_eq, if_true, if_false, reduceCtorEq, eq_self, Nat.zero_add, Nat.add_zero, not_false_eq_true, thenW_normal, thenW_ret, thenW_exit, outs_ret, outs_exit, kOf_cons, wdefers_nil, Nat.reduceEqDiff]
        show wfin s _ (.bool false) (ent s)
        rw [wfin_flat (Nat.le_refl _) rfl, decide_eq_false hne']
        exact ⟨rfl, rfl⟩
      · rename_i he
        have he : la[i] = lb[i] := by simpa using he
        refine ⟨i + 1, by omega, h0, h1, ?_, trivial, trivial, hlt, ?_⟩
        · show Value.int .i64 (IntKind.i64.wrap ((i : Int) + 1)) = _
          rw [wrap_i64 (by omega) (by omega)]
          rfl
        · rw [take_succ_eq (List.getElem?_eq_getElem hlt), take_succ_eq (List.getElem?_eq_getElem hlt'), heq, he]
    · rename_i hge
      have : la = lb := by
        have h1 : la.take i = la := List.take_of_length_le (by omega)
        have h2 : lb.take i = lb := List.take_of_length_le (by omega)
        rw [← h1, heq, h2]
      rw [wfin_flat (Nat.le_refl _) rfl, decide_eq_true this]
      exact ⟨rfl, rfl⟩

end
end Go.VE

/- What the methods of a nil or zero builder do. -/
namespace Go.VE
open Go Go.Proofs
set_option maxRecDepth 20000

/-- A nil builder, or one that no call created. -/
def Dead (s : St) (b : Value) : Prop := b = .pointer none ∨ ∃ A c t op, b = .pointer (some ⟨A, 0, none⟩) ∧ s.at A = some (.cells c t op) ∧ c[0]? = some (.bool false)

theorem Dead.grew {s s' : St} {b : Value} (h : Dead s b) (hg : Grew s s') : Dead s' b := by
  rcases h with h | ⟨A, c, t, op, h1, h2, h3⟩
  · exact .inl h
  · exact .inr ⟨A, c, t, op, h1, by rw [hg.same A (St.at_lt h2)]; exact h2, h3⟩
theorem Dead.ent {s : St} {b : Value} (h : Dead s b) : Dead (ent s) b := h

theorem Dead.one {s : St} {b : Value} (h : Dead s b) : b.oneCell' = true ∧ veq b b = true ∧ b.cells.toList = [b] := by
  rcases h with rfl | ⟨A, c, t, op, rfl, _⟩
  · exact ⟨rfl, by simp [veq], rfl⟩
  · exact ⟨rfl, by simp [veq], rfl⟩

theorem fin_flat {si s : St} {K : Value → St → Prop} {v : Value} (hf : flat' v = true) (hg : Grew (ent si) s) (h : K v si) : wfin si K v s := by
  rw [wfin_flat (by rw [hg.lo]; exact Nat.le_refl _) hf]; exact h

theorem ptr_nil_nil [Memo] (ro : Nat) (ty : TypeId) (s : St) (K : Value → St → Prop) : wop P ro (.binOp .eql 25 (.const (.pointer none)) (.const (.pointer none)) 25) ty s K = K (.bool true) s := by kernel_rfl
theorem ptr_some_nil [Memo] (ro : Nat) (a : Addr) (ty : TypeId) (s : St) (K : Value → St → Prop) : wop P ro (.binOp .eql 25 (.const (.pointer (some a))) (.const (.pointer none)) 25) ty s K = K (.bool false) s := by kernel_rfl

section
variable {ro : Nat} {s : St} {b : Value} {K : Value → St → Prop}

theorem dErr (hd : Dead s b) : CallWP P ro 23 [b] s K = K (.int .i64 10) s := by
  refine callEq (call_wp b23 rfl ?_) K
  rw [n23]
  unfold v23
  rcases hd with rfl | ⟨A, c, t, op, rfl, h2, h3⟩
  · simp only [pr_wop, pr_call, pr_wcall, pr_wdefer, pr_defers, pr_loop, pr_range, pr_fin, pr_hold, xdefers_eq, xcallv_fn, wopt_some, wopt_none, wopt_map, wopt_bind, wopt_ite, wdec_true, wdec_false, wdec_bool, wop_fieldAddr, wop_field, wop_index_agg, wop_build, wop_nilCheck, wop_int, wop_not, wop_extract, int_add keq_i64, int_sub keq_i64, int_mul keq_i64, int_add keq_u64, int_sub keq_u64, int_mul keq_u64, int_eql keq_i64, int_eql keq_u64, int_eql keq_u8, int_eql keq_u32, int_neq keq_i64, int_neq keq_u64, int_neq keq_u8, int_neq keq_u32, int_lss keq_i64, int_lss keq_u64, int_lss keq_u8, int_lss keq_u32, int_leq keq_i64, int_leq keq_u64, int_leq keq_u8, int_leq keq_u32, int_gtr keq_i64, int_gtr keq_u64, int_gtr keq_u8, int_gtr keq_u32, int_geq keq_i64, int_geq keq_u64, int_geq keq_u8, int_geq keq_u32, int_rem keq_i64, int_rem keq_u64, int_rem keq_u8, int_quo keq_u64, int_quo keq_i64, n_new, lo_new, n_ent, lo_ent, at_ent, Option.bind_some, Option.map_some, decide_eq_true_eq, Bool.not_eq_true', decide_eq_false_iff_not, Bool.not_true, Bool.not_false, ne_eq, if_true, if_false, reduceCtorEq, eq_self, Nat.zero_add, Nat.add_zero, not_false_eq_true, thenW_normal, thenW_ret, thenW_exit, outs_ret, outs_exit, kOf_cons, wdefers_nil, Nat.reduceEqDiff, ptr_nil_nil]
    exact fin_flat rfl (.refl _) ⟨rfl, rfl⟩
  · simp only [pr_wop, pr_call, pr_wcall, pr_wdefer, pr_defers, pr_loop, pr_range, pr_fin, pr_hold, xdefers_eq, xcallv_fn, wopt_some, wopt_none, wopt_map, wopt_bind, wopt_ite, wdec_true, wdec_false, wdec_bool, wop_fieldAddr, wop_field, wop_index_agg, wop_build, wop_nilCheck, wop_int, wop_not, wop_extract, int_add keq_i64, int_sub keq_i64, int_mul keq_i64, int_add keq_u64, int_sub keq_u64, int_mul keq_u64, int_eql keq_i64, int_eql keq_u64, int_eql keq_u8, int_eql keq_u32, int_neq keq_i64, int_neq keq_u64, int_neq keq_u8, int_neq keq_u32, int_lss keq_i64, int_lss keq_u64, int_lss keq_u8, int_lss keq_u32, int_leq keq_i64, int_leq keq_u64, int_leq keq_u8, int_leq keq_u32, int_gtr keq_i64, int_gtr keq_u64, int_gtr keq_u8, int_gtr keq_u32, int_geq keq_i64, int_geq keq_u64, int_geq keq_u8, int_geq keq_u32, int_rem keq_i64, int_rem keq_u64, int_rem keq_u8, int_quo keq_u64, int_quo keq_i64, n_new, lo_new, n_ent, lo_ent, at_ent, Option.bind_some, Option.map_some, decide_eq_true_eq, Bool.not_eq_true', decide_eq_false_iff_not, Bool.not_true, Bool.not_false, ne_eq, if_true, if_false, reduceCtorEq, eq_self, Nat.zero_add, Nat.add_zero, not_false_eq_true, thenW_normal, thenW_ret, thenW_exit, outs_ret, outs_exit, kOf_cons, wdefers_nil, Nat.reduceEqDiff, ptr_some_nil, fa_81_0]
    refine load_rule (load_one (s := Go.VE.ent s) ap_4 h2 h3) ?_
    simp only [pr_wop, pr_call, pr_wcall, pr_wdefer, pr_defers, pr_loop, pr_range, pr_fin, pr_hold, xdefers_eq, xcallv_fn, wopt_some, wopt_none, wopt_map, wopt_bind, wopt_ite, wdec_true, wdec_false, wdec_bool, wop_fieldAddr, wop_field, wop_index_agg, wop_build, wop_nilCheck, wop_int, wop_not, wop_extract, int_add keq_i64, int_sub keq_i64, int_mul keq_i64, int_add keq_u64, int_sub keq_u64, int_mul keq_u64, int_eql keq_i64, int_eql keq_u64, int_eql keq_u8, int_eql keq_u32, int_neq keq_i64, int_neq keq_u64, int_neq keq_u8, int_neq keq_u32, int_lss keq_i64, int_lss keq_u64, int_lss keq_u8, int_lss keq_u32, int_leq keq_i64, int_leq keq_u64, int_leq keq_u8, int_leq keq_u32, int_gtr keq_i64, int_gtr keq_u64, int_gtr keq_u8, int_gtr keq_u32, int_geq keq_i64, int_geq keq_u64, int_geq keq_u8, int_geq keq_u32, int_rem keq_i64, int_rem keq_u64, int_rem keq_u8, int_quo keq_u64, int_quo keq_i64, n_new, lo_new, n_ent, lo_ent, at_ent, Option.bind_some, Option.map_some, decide_eq_true_eq, Bool.not_eq_true', decide_eq_false_iff_not, Bool.not_true, Bool.not_false, ne_eq, if_true, if_false, reduceCtorEq, eq_self, Nat.zero_add, Nat.add_zero, not_false_eq_true, thenW_normal, thenW_ret, thenW_exit, outs_ret, outs_exit, kOf_cons, wdefers_nil, Nat.reduceEqDiff]
    exact fin_flat rfl (.refl _) ⟨rfl, rfl⟩

theorem dReady (hd : Dead s b) (x y : Value) : CallWP P ro 38 [b, x, y] s K = K (.bool false) s := by
  refine callEq (call_wp b38 rfl ?_) K
  rw [n38]
  unfold v38
  simp only [pr_wop, pr_call, pr_wcall, pr_wdefer, pr_defers, pr_loop, pr_range, pr_fin, pr_hold, xdefers_eq, xcallv_fn, wopt_some, wopt_none, wopt_map, wopt_bind, wopt_ite, wdec_true, wdec_false, wdec_bool, wop_fieldAddr, wop_field, wop_index_agg, wop_build, wop_nilCheck, wop_int, wop_not, wop_extract, int_add keq_i64, int_sub keq_i64, int_mul keq_i64, int_add keq_u64, int_sub keq_u64, int_mul keq_u64, int_eql keq_i64, int_eql keq_u64, int_eql keq_u8, int_eql keq_u32, int_neq keq_i64, int_neq keq_u64, int_neq keq_u8, int_neq keq_u32, int_lss keq_i64, int_lss keq_u64, int_lss keq_u8, int_lss keq_u32, int_leq keq_i64, int_leq keq_u64, int_leq keq_u8, int_leq keq_u32, int_gtr keq_i64, int_gtr keq_u64, int_gtr keq_u8, int_gtr keq_u32, int_geq keq_i64, int_geq keq_u64, int_geq keq_u8, int_geq keq_u32, int_rem keq_i64, int_rem keq_u64, int_rem keq_u8, int_quo keq_u64, int_quo keq_i64, n_new, lo_new, n_ent, lo_ent, at_ent, Option.bind_some, Option.map_some, decide_eq_true_eq, Bool.not_eq_true', decide_eq_false_iff_not, Bool.not_true, Bool.not_false, ne_eq, if_true, if_false, reduceCtorEq, eq_self, Nat.zero_add, Nat.add_zero, not_false_eq_true, thenW_normal, thenW_ret, thenW_exit, outs_ret, outs_exit, kOf_cons, wdefers_nil, Nat.reduceEqDiff]
  rw [dErr hd.ent]
  simp only [pr_wop, pr_call, pr_wcall, pr_wdefer, pr_defers, pr_loop, pr_range, pr_fin, pr_hold, xdefers_eq, xcallv_fn, wopt_some, wopt_none, wopt_map, wopt_bind, wopt_ite, wdec_true, wdec_false, wdec_bool, wop_fieldAddr, wop_field, wop_index_agg, wop_build, wop_nilCheck, wop_int, wop_not, wop_extract, int_add keq_i64, int_sub keq_i64, int_mul keq_i64, int_add keq_u64, int_sub keq_u64, int_mul keq_u64, int_eql keq_i64, int_eql keq_u64, int_eql keq_u8, int_eql keq_u32, int_neq keq_i64, int_neq keq_u64, int_neq keq_u8, int_neq keq_u32, int_lss keq_i64, int_lss keq_u64, int_lss keq_u8, int_lss keq_u32, int_leq keq_i64, int_leq keq_u64, int_leq keq_u8, int_leq keq_u32, int_gtr keq_i64, int_gtr keq_u64, int_gtr keq_u8, int_gtr keq_u32, int_geq keq_i64, int_geq keq_u64, int_geq keq_u8, int_geq keq_u32, int_rem keq_i64, int_rem keq_u64, int_rem keq_u8, int_quo keq_u64, int_quo keq_i64, n_new, lo_new, n_ent, lo_ent, at_ent, Option.bind_some, Option.map_some, decide_eq_true_eq, Bool.not_eq_true', decide_eq_false_iff_not, Bool.not_true, Bool.not_false, ne_eq, if_true, if_false, reduceCtorEq, eq_self, Nat.zero_add, Nat.add_zero, not_false_eq_true, thenW_normal, thenW_ret, thenW_exit, outs_ret, outs_exit, kOf_cons, wdefers_nil, Nat.reduceEqDiff, show ¬ (10 : Int) = 0 by decide]
  exact fin_flat rfl (.refl _) ⟨rfl, rfl⟩

theorem dKnown (hd : Dead s b) (hw : Wf s) (x : Value) : CallWP P ro 39 [b, x] s K = K (.bool false) s := by
  refine callEq (call_wp b39 rfl ?_) K
  rw [n39]
  unfold v39
  simp only [pr_wop, pr_call, pr_wcall, pr_wdefer, pr_defers, pr_loop, pr_range, pr_fin, pr_hold, xdefers_eq, xcallv_fn, wopt_some, wopt_none, wopt_map, wopt_bind, wopt_ite, wdec_true, wdec_false, wdec_bool, wop_fieldAddr, wop_field, wop_index_agg, wop_build, wop_nilCheck, wop_int, wop_not, wop_extract, int_add keq_i64, int_sub keq_i64, int_mul keq_i64, int_add keq_u64, int_sub keq_u64, int_mul keq_u64, int_eql keq_i64, int_eql keq_u64, int_eql keq_u8, int_eql keq_u32, int_neq keq_i64, int_neq keq_u64, int_neq keq_u8, int_neq keq_u32, int_lss keq_i64, int_lss keq_u64, int_lss keq_u8, int_lss keq_u32, int_leq keq_i64, int_leq keq_u64, int_leq keq_u8, int_leq keq_u32, int_gtr keq_i64, int_gtr keq_u64, int_gtr keq_u8, int_gtr keq_u32, int_geq keq_i64, int_geq keq_u64, int_geq keq_u8, int_geq keq_u32, int_rem keq_i64, int_rem keq_u64, int_rem keq_u8, int_quo keq_u64, int_quo keq_i64, n_new, lo_new, n_ent, lo_ent, at_ent, Option.bind_some, Option.map_some, decide_eq_true_eq, Bool.not_eq_true', decide_eq_false_iff_not, Bool.not_true, Bool.not_false, ne_eq, if_true, if_false, reduceCtorEq, eq_self, Nat.zero_add, Nat.add_zero, not_false_eq_true, thenW_normal, thenW_ret, thenW_exit, outs_ret, outs_exit, kOf_cons, wdefers_nil, Nat.reduceEqDiff]
  refine box_rule hw.ent fun A s1 m1 => ?_
  rw [hd.one.2.2] at m1
  refine load_rule (load_one ap_25 m1.here rfl) ?_
  rw [dErr (hd.ent.grew m1.grew)]
  simp only [pr_wop, pr_call, pr_wcall, pr_wdefer, pr_defers, pr_loop, pr_range, pr_fin, pr_hold, xdefers_eq, xcallv_fn, wopt_some, wopt_none, wopt_map, wopt_bind, wopt_ite, wdec_true, wdec_false, wdec_bool, wop_fieldAddr, wop_field, wop_index_agg, wop_build, wop_nilCheck, wop_int, wop_not, wop_extract, int_add keq_i64, int_sub keq_i64, int_mul keq_i64, int_add keq_u64, int_sub keq_u64, int_mul keq_u64, int_eql keq_i64, int_eql keq_u64, int_eql keq_u8, int_eql keq_u32, int_neq keq_i64, int_neq keq_u64, int_neq keq_u8, int_neq keq_u32, int_lss keq_i64, int_lss keq_u64, int_lss keq_u8, int_lss keq_u32, int_leq keq_i64, int_leq keq_u64, int_leq keq_u8, int_leq keq_u32, int_gtr keq_i64, int_gtr keq_u64, int_gtr keq_u8, int_gtr keq_u32, int_geq keq_i64, int_geq keq_u64, int_geq keq_u8, int_geq keq_u32, int_rem keq_i64, int_rem keq_u64, int_rem keq_u8, int_quo keq_u64, int_quo keq_i64, n_new, lo_new, n_ent, lo_ent, at_ent, Option.bind_some, Option.map_some, decide_eq_true_eq, Bool.not_eq_true', decide_eq_false_iff_not, Bool.not_true, Bool.not_false, ne_eq, if_true, if_false, reduceCtorEq, eq_self, Nat.zero_add, Nat.add_zero, not_false_eq_true, thenW_normal, thenW_ret, thenW_exit, outs_ret, outs_exit, kOf_cons, wdefers_nil, Nat.reduceEqDiff, show ¬ (10 : Int) = 0 by decide]
  exact fin_flat rfl m1.grew ⟨rfl, rfl⟩

theorem dConst (hd : Dead s b) (hw : Wf s) (x : Int) : CallWP P ro 22 [b, .int .u64 x] s K = K (.int .i64 (-1)) s := by
  refine callEq (call_wp b22 rfl ?_) K
  rw [n22]
  unfold v22
  simp only [pr_wop, pr_call, pr_wcall, pr_wdefer, pr_defers, pr_loop, pr_range, pr_fin, pr_hold, xdefers_eq, xcallv_fn, wopt_some, wopt_none, wopt_map, wopt_bind, wopt_ite, wdec_true, wdec_false, wdec_bool, wop_fieldAddr, wop_field, wop_index_agg, wop_build, wop_nilCheck, wop_int, wop_not, wop_extract, int_add keq_i64, int_sub keq_i64, int_mul keq_i64, int_add keq_u64, int_sub keq_u64, int_mul keq_u64, int_eql keq_i64, int_eql keq_u64, int_eql keq_u8, int_eql keq_u32, int_neq keq_i64, int_neq keq_u64, int_neq keq_u8, int_neq keq_u32, int_lss keq_i64, int_lss keq_u64, int_lss keq_u8, int_lss keq_u32, int_leq keq_i64, int_leq keq_u64, int_leq keq_u8, int_leq keq_u32, int_gtr keq_i64, int_gtr keq_u64, int_gtr keq_u8, int_gtr keq_u32, int_geq keq_i64, int_geq keq_u64, int_geq keq_u8, int_geq keq_u32, int_rem keq_i64, int_rem keq_u64, int_rem keq_u8, int_quo keq_u64, int_quo keq_i64, n_new, lo_new, n_ent, lo_ent, at_ent, Option.bind_some, Option.map_some, decide_eq_true_eq, Bool.not_eq_true', decide_eq_false_iff_not, Bool.not_true, Bool.not_false, ne_eq, if_true, if_false, reduceCtorEq, eq_self, Nat.zero_add, Nat.add_zero, not_false_eq_true, thenW_normal, thenW_ret, thenW_exit, outs_ret, outs_exit, kOf_cons, wdefers_nil, Nat.reduceEqDiff]
  refine buildSlice_rule se_23 ty_24 hw.ent [.int .u64 x] rfl rfl (by decide) (by simp [Value.cells]) fun A s1 m1 => ?_
  rw [dReady (hd.ent.grew m1.grew)]
  simp only [pr_wop, pr_call, pr_wcall, pr_wdefer, pr_defers, pr_loop, pr_range, pr_fin, pr_hold, xdefers_eq, xcallv_fn, wopt_some, wopt_none, wopt_map, wopt_bind, wopt_ite, wdec_true, wdec_false, wdec_bool, wop_fieldAddr, wop_field, wop_index_agg, wop_build, wop_nilCheck, wop_int, wop_not, wop_extract, int_add keq_i64, int_sub keq_i64, int_mul keq_i64, int_add keq_u64, int_sub keq_u64, int_mul keq_u64, int_eql keq_i64, int_eql keq_u64, int_eql keq_u8, int_eql keq_u32, int_neq keq_i64, int_neq keq_u64, int_neq keq_u8, int_neq keq_u32, int_lss keq_i64, int_lss keq_u64, int_lss keq_u8, int_lss keq_u32, int_leq keq_i64, int_leq keq_u64, int_leq keq_u8, int_leq keq_u32, int_gtr keq_i64, int_gtr keq_u64, int_gtr keq_u8, int_gtr keq_u32, int_geq keq_i64, int_geq keq_u64, int_geq keq_u8, int_geq keq_u32, int_rem keq_i64, int_rem keq_u64, int_rem keq_u8, int_quo keq_u64, int_quo keq_i64, n_new, lo_new, n_ent, lo_ent, at_ent, Option.bind_some, Option.map_some, decide_eq_true_eq, Bool.not_eq_true', decide_eq_false_iff_not, Bool.not_true, Bool.not_false, ne_eq, if_true, if_false, reduceCtorEq, eq_self, Nat.zero_add, Nat.add_zero, not_false_eq_true, thenW_normal, thenW_ret, thenW_exit, outs_ret, outs_exit, kOf_cons, wdefers_nil, Nat.reduceEqDiff]
  exact fin_flat rfl m1.grew ⟨rfl, rfl⟩

theorem dLinear (hd : Dead s b) (hw : Wf s) (u v x y z : Int) : CallWP P ro 43 [b, .int .i64 u, .int .i64 v, .int .u64 x, .int .u64 y, .int .u64 z] s K = K (.int .i64 (-1)) s := by
  refine callEq (call_wp b43 rfl ?_) K
  rw [n43]
  unfold v43
  simp only [pr_wop, pr_call, pr_wcall, pr_wdefer, pr_defers, pr_loop, pr_range, pr_fin, pr_hold, xdefers_eq, xcallv_fn, wopt_some, wopt_none, wopt_map, wopt_bind, wopt_ite, wdec_true, wdec_false, wdec_bool, wop_fieldAddr, wop_field, wop_index_agg, wop_build, wop_nilCheck, wop_int, wop_not, wop_extract, int_add keq_i64, int_sub keq_i64, int_mul keq_i64, int_add keq_u64, int_sub keq_u64, int_mul keq_u64, int_eql keq_i64, int_eql keq_u64, int_eql keq_u8, int_eql keq_u32, int_neq keq_i64, int_neq keq_u64, int_neq keq_u8, int_neq keq_u32, int_lss keq_i64, int_lss keq_u64, int_lss keq_u8, int_lss keq_u32, int_leq keq_i64, int_leq keq_u64, int_leq keq_u8, int_leq keq_u32, int_gtr keq_i64, int_gtr keq_u64, int_gtr keq_u8, int_gtr keq_u32, int_geq keq_i64, int_geq keq_u64, int_geq keq_u8, int_geq keq_u32, int_rem keq_i64, int_rem keq_u64, int_rem keq_u8, int_quo keq_u64, int_quo keq_i64, n_new, lo_new, n_ent, lo_ent, at_ent, Option.bind_some, Option.map_some, decide_eq_true_eq, Bool.not_eq_true', decide_eq_false_iff_not, Bool.not_true, Bool.not_false, ne_eq, if_true, if_false, reduceCtorEq, eq_self, Nat.zero_add, Nat.add_zero, not_false_eq_true, thenW_normal, thenW_ret, thenW_exit, outs_ret, outs_exit, kOf_cons, wdefers_nil, Nat.reduceEqDiff]
  refine buildSlice_rule se_30 ty_3 hw.ent [.int .i64 u, .int .i64 v] rfl rfl (by decide) (by simp [Value.cells]) fun A s1 m1 => ?_
  rw [dKnown (hd.ent.grew m1.grew) m1.wf]
  refine buildSlice_rule se_23 ty_24 m1.wf [.int .u64 x, .int .u64 y, .int .u64 z] rfl rfl (by decide) (by simp [Value.cells]) fun A2 s2 m2 => ?_
  rw [dReady (hd.ent.grew (m1.grew.trans m2.grew))]
  simp only [pr_wop, pr_call, pr_wcall, pr_wdefer, pr_defers, pr_loop, pr_range, pr_fin, pr_hold, xdefers_eq, xcallv_fn, wopt_some, wopt_none, wopt_map, wopt_bind, wopt_ite, wdec_true, wdec_false, wdec_bool, wop_fieldAddr, wop_field, wop_index_agg, wop_build, wop_nilCheck, wop_int, wop_not, wop_extract, int_add keq_i64, int_sub keq_i64, int_mul keq_i64, int_add keq_u64, int_sub keq_u64, int_mul keq_u64, int_eql keq_i64, int_eql keq_u64, int_eql keq_u8, int_eql keq_u32, int_neq keq_i64, int_neq keq_u64, int_neq keq_u8, int_neq keq_u32, int_lss keq_i64, int_lss keq_u64, int_lss keq_u8, int_lss keq_u32, int_leq keq_i64, int_leq keq_u64, int_leq keq_u8, int_leq keq_u32, int_gtr keq_i64, int_gtr keq_u64, int_gtr keq_u8, int_gtr keq_u32, int_geq keq_i64, int_geq keq_u64, int_geq keq_u8, int_geq keq_u32, int_rem keq_i64, int_rem keq_u64, int_rem keq_u8, int_quo keq_u64, int_quo keq_i64, n_new, lo_new, n_ent, lo_ent, at_ent, Option.bind_some, Option.map_some, decide_eq_true_eq, Bool.not_eq_true', decide_eq_false_iff_not, Bool.not_true, Bool.not_false, ne_eq, if_true, if_false, reduceCtorEq, eq_self, Nat.zero_add, Nat.add_zero, not_false_eq_true, thenW_normal, thenW_ret, thenW_exit, outs_ret, outs_exit, kOf_cons, wdefers_nil, Nat.reduceEqDiff]
  exact fin_flat rfl (m1.grew.trans m2.grew) ⟨rfl, rfl⟩

theorem dMul (hd : Dead s b) (hw : Wf s) (u v : Int) : CallWP P ro 21 [b, .int .i64 u, .int .i64 v] s K = K (.int .i64 (-1)) s := by
  refine callEq (call_wp b21 rfl ?_) K
  rw [n21]
  unfold v21
  simp only [pr_wop, pr_call, pr_wcall, pr_wdefer, pr_defers, pr_loop, pr_range, pr_fin, pr_hold, xdefers_eq, xcallv_fn, wopt_some, wopt_none, wopt_map, wopt_bind, wopt_ite, wdec_true, wdec_false, wdec_bool, wop_fieldAddr, wop_field, wop_index_agg, wop_build, wop_nilCheck, wop_int, wop_not, wop_extract, int_add keq_i64, int_sub keq_i64, int_mul keq_i64, int_add keq_u64, int_sub keq_u64, int_mul keq_u64, int_eql keq_i64, int_eql keq_u64, int_eql keq_u8, int_eql keq_u32, int_neq keq_i64, int_neq keq_u64, int_neq keq_u8, int_neq keq_u32, int_lss keq_i64, int_lss keq_u64, int_lss keq_u8, int_lss keq_u32, int_leq keq_i64, int_leq keq_u64, int_leq keq_u8, int_leq keq_u32, int_gtr keq_i64, int_gtr keq_u64, int_gtr keq_u8, int_gtr keq_u32, int_geq keq_i64, int_geq keq_u64, int_geq keq_u8, int_geq keq_u32, int_rem keq_i64, int_rem keq_u64, int_rem keq_u8, int_quo keq_u64, int_quo keq_i64, n_new, lo_new, n_ent, lo_ent, at_ent, Option.bind_some, Option.map_some, decide_eq_true_eq, Bool.not_eq_true', decide_eq_false_iff_not, Bool.not_true, Bool.not_false, ne_eq, if_true, if_false, reduceCtorEq, eq_self, Nat.zero_add, Nat.add_zero, not_false_eq_true, thenW_normal, thenW_ret, thenW_exit, outs_ret, outs_exit, kOf_cons, wdefers_nil, Nat.reduceEqDiff]
  refine buildSlice_rule se_30 ty_3 hw.ent [.int .i64 u, .int .i64 v] rfl rfl (by decide) (by simp [Value.cells]) fun A s1 m1 => ?_
  rw [dKnown (hd.ent.grew m1.grew) m1.wf, dReady (hd.ent.grew m1.grew)]
  simp only [pr_wop, pr_call, pr_wcall, pr_wdefer, pr_defers, pr_loop, pr_range, pr_fin, pr_hold, xdefers_eq, xcallv_fn, wopt_some, wopt_none, wopt_map, wopt_bind, wopt_ite, wdec_true, wdec_false, wdec_bool, wop_fieldAddr, wop_field, wop_index_agg, wop_build, wop_nilCheck, wop_int, wop_not, wop_extract, int_add keq_i64, int_sub keq_i64, int_mul keq_i64, int_add keq_u64, int_sub keq_u64, int_mul keq_u64, int_eql keq_i64, int_eql keq_u64, int_eql keq_u8, int_eql keq_u32, int_neq keq_i64, int_neq keq_u64, int_neq keq_u8, int_neq keq_u32, int_lss keq_i64, int_lss keq_u64, int_lss keq_u8, int_lss keq_u32, int_leq keq_i64, int_leq keq_u64, int_leq keq_u8, int_leq keq_u32, int_gtr keq_i64, int_gtr keq_u64, int_gtr keq_u8, int_gtr keq_u32, int_geq keq_i64, int_geq keq_u64, int_geq keq_u8, int_geq keq_u32, int_rem keq_i64, int_rem keq_u64, int_rem keq_u8, int_quo keq_u64, int_quo keq_i64, n_new, lo_new, n_ent, lo_ent, at_ent, Option.bind_some, Option.map_some, decide_eq_true_eq, Bool.not_eq_true', decide_eq_false_iff_not, Bool.not_true, Bool.not_false, ne_eq, if_true, if_false, reduceCtorEq, eq_self, Nat.zero_add, Nat.add_zero, not_false_eq_true, thenW_normal, thenW_ret, thenW_exit, outs_ret, outs_exit, kOf_cons, wdefers_nil, Nat.reduceEqDiff]
  exact fin_flat rfl m1.grew ⟨rfl, rfl⟩

theorem dZero (hd : Dead s b) (hw : Wf s) (u : Int) : CallWP P ro 42 [b, .int .i64 u] s K = K (.tuple (.mk [])) s := by
  refine callEq (call_wp b42 rfl ?_) K
  rw [n42]
  unfold v42
  simp only [pr_wop, pr_call, pr_wcall, pr_wdefer, pr_defers, pr_loop, pr_range, pr_fin, pr_hold, xdefers_eq, xcallv_fn, wopt_some, wopt_none, wopt_map, wopt_bind, wopt_ite, wdec_true, wdec_false, wdec_bool, wop_fieldAddr, wop_field, wop_index_agg, wop_build, wop_nilCheck, wop_int, wop_not, wop_extract, int_add keq_i64, int_sub keq_i64, int_mul keq_i64, int_add keq_u64, int_sub keq_u64, int_mul keq_u64, int_eql keq_i64, int_eql keq_u64, int_eql keq_u8, int_eql keq_u32, int_neq keq_i64, int_neq keq_u64, int_neq keq_u8, int_neq keq_u32, int_lss keq_i64, int_lss keq_u64, int_lss keq_u8, int_lss keq_u32, int_leq keq_i64, int_leq keq_u64, int_leq keq_u8, int_leq keq_u32, int_gtr keq_i64, int_gtr keq_u64, int_gtr keq_u8, int_gtr keq_u32, int_geq keq_i64, int_geq keq_u64, int_geq keq_u8, int_geq keq_u32, int_rem keq_i64, int_rem keq_u64, int_rem keq_u8, int_quo keq_u64, int_quo keq_i64, n_new, lo_new, n_ent, lo_ent, at_ent, Option.bind_some, Option.map_some, decide_eq_true_eq, Bool.not_eq_true', decide_eq_false_iff_not, Bool.not_true, Bool.not_false, ne_eq, if_true, if_false, reduceCtorEq, eq_self, Nat.zero_add, Nat.add_zero, not_false_eq_true, thenW_normal, thenW_ret, thenW_exit, outs_ret, outs_exit, kOf_cons, wdefers_nil, Nat.reduceEqDiff]
  refine buildSlice_rule se_30 ty_3 hw.ent [.int .i64 u] rfl rfl (by decide) (by simp [Value.cells]) fun A s1 m1 => ?_
  rw [dKnown (hd.ent.grew m1.grew) m1.wf, dReady (hd.ent.grew m1.grew)]
  simp only [pr_wop, pr_call, pr_wcall, pr_wdefer, pr_defers, pr_loop, pr_range, pr_fin, pr_hold, xdefers_eq, xcallv_fn, wopt_some, wopt_none, wopt_map, wopt_bind, wopt_ite, wdec_true, wdec_false, wdec_bool, wop_fieldAddr, wop_field, wop_index_agg, wop_build, wop_nilCheck, wop_int, wop_not, wop_extract, int_add keq_i64, int_sub keq_i64, int_mul keq_i64, int_add keq_u64, int_sub keq_u64, int_mul keq_u64, int_eql keq_i64, int_eql keq_u64, int_eql keq_u8, int_eql keq_u32, int_neq keq_i64, int_neq keq_u64, int_neq keq_u8, int_neq keq_u32, int_lss keq_i64, int_lss keq_u64, int_lss keq_u8, int_lss keq_u32, int_leq keq_i64, int_leq keq_u64, int_leq keq_u8, int_leq keq_u32, int_gtr keq_i64, int_gtr keq_u64, int_gtr keq_u8, int_gtr keq_u32, int_geq keq_i64, int_geq keq_u64, int_geq keq_u8, int_geq keq_u32, int_rem keq_i64, int_rem keq_u64, int_rem keq_u8, int_quo keq_u64, int_quo keq_i64, n_new, lo_new, n_ent, lo_ent, at_ent, Option.bind_some, Option.map_some, decide_eq_true_eq, Bool.not_eq_true', decide_eq_false_iff_not, Bool.not_true, Bool.not_false, ne_eq, if_true, if_false, reduceCtorEq, eq_self, Nat.zero_add, Nat.add_zero, not_false_eq_true, thenW_normal, thenW_ret, thenW_exit, outs_ret, outs_exit, kOf_cons, wdefers_nil, Nat.reduceEqDiff]
  exact fin_flat rfl m1.grew ⟨rfl, rfl⟩

theorem dEqual (hd : Dead s b) (hw : Wf s) (u v : Int) : CallWP P ro 74 [b, .int .i64 u, .int .i64 v] s K = K (.tuple (.mk [])) s := by
  refine callEq (call_wp b74 rfl ?_) K
  rw [n74]
  unfold v74
  simp only [pr_wop, pr_call, pr_wcall, pr_wdefer, pr_defers, pr_loop, pr_range, pr_fin, pr_hold, xdefers_eq, xcallv_fn, wopt_some, wopt_none, wopt_map, wopt_bind, wopt_ite, wdec_true, wdec_false, wdec_bool, wop_fieldAddr, wop_field, wop_index_agg, wop_build, wop_nilCheck, wop_int, wop_not, wop_extract, int_add keq_i64, int_sub keq_i64, int_mul keq_i64, int_add keq_u64, int_sub keq_u64, int_mul keq_u64, int_eql keq_i64, int_eql keq_u64, int_eql keq_u8, int_eql keq_u32, int_neq keq_i64, int_neq keq_u64, int_neq keq_u8, int_neq keq_u32, int_lss keq_i64, int_lss keq_u64, int_lss keq_u8, int_lss keq_u32, int_leq keq_i64, int_leq keq_u64, int_leq keq_u8, int_leq keq_u32, int_gtr keq_i64, int_gtr keq_u64, int_gtr keq_u8, int_gtr keq_u32, int_geq keq_i64, int_geq keq_u64, int_geq keq_u8, int_geq keq_u32, int_rem keq_i64, int_rem keq_u64, int_rem keq_u8, int_quo keq_u64, int_quo keq_i64, n_new, lo_new, n_ent, lo_ent, at_ent, Option.bind_some, Option.map_some, decide_eq_true_eq, Bool.not_eq_true', decide_eq_false_iff_not, Bool.not_true, Bool.not_false, ne_eq, if_true, if_false, reduceCtorEq, eq_self, Nat.zero_add, Nat.add_zero, not_false_eq_true, thenW_normal, thenW_ret, thenW_exit, outs_ret, outs_exit, kOf_cons, wdefers_nil, Nat.reduceEqDiff]
  refine buildSlice_rule se_30 ty_3 hw.ent [.int .i64 u, .int .i64 v] rfl rfl (by decide) (by simp [Value.cells]) fun A s1 m1 => ?_
  rw [dKnown (hd.ent.grew m1.grew) m1.wf, dReady (hd.ent.grew m1.grew)]
  simp only [pr_wop, pr_call, pr_wcall, pr_wdefer, pr_defers, pr_loop, pr_range, pr_fin, pr_hold, xdefers_eq, xcallv_fn, wopt_some, wopt_none, wopt_map, wopt_bind, wopt_ite, wdec_true, wdec_false, wdec_bool, wop_fieldAddr, wop_field, wop_index_agg, wop_build, wop_nilCheck, wop_int, wop_not, wop_extract, int_add keq_i64, int_sub keq_i64, int_mul keq_i64, int_add keq_u64, int_sub keq_u64, int_mul keq_u64, int_eql keq_i64, int_eql keq_u64, int_eql keq_u8, int_eql keq_u32, int_neq keq_i64, int_neq keq_u64, int_neq keq_u8, int_neq keq_u32, int_lss keq_i64, int_lss keq_u64, int_lss keq_u8, int_lss keq_u32, int_leq keq_i64, int_leq keq_u64, int_leq keq_u8, int_leq keq_u32, int_gtr keq_i64, int_gtr keq_u64, int_gtr keq_u8, int_gtr keq_u32, int_geq keq_i64, int_geq keq_u64, int_geq keq_u8, int_geq keq_u32, int_rem keq_i64, int_rem keq_u64, int_rem keq_u8, int_quo keq_u64, int_quo keq_i64, n_new, lo_new, n_ent, lo_ent, at_ent, Option.bind_some, Option.map_some, decide_eq_true_eq, Bool.not_eq_true', decide_eq_false_iff_not, Bool.not_true, Bool.not_false, ne_eq, if_true, if_false, reduceCtorEq, eq_self, Nat.zero_add, Nat.add_zero, not_false_eq_true, thenW_normal, thenW_ret, thenW_exit, outs_ret, outs_exit, kOf_cons, wdefers_nil, Nat.reduceEqDiff]
  exact fin_flat rfl m1.grew ⟨rfl, rfl⟩

theorem dBit (hd : Dead s b) (hw : Wf s) (u : Int) : CallWP P ro 34 [b, .int .i64 u] s K = K (.tuple (.mk [])) s := by
  refine callEq (call_wp b34 rfl ?_) K
  rw [n34]
  unfold v34
  simp only [pr_wop, pr_call, pr_wcall, pr_wdefer, pr_defers, pr_loop, pr_range, pr_fin, pr_hold, xdefers_eq, xcallv_fn, wopt_some, wopt_none, wopt_map, wopt_bind, wopt_ite, wdec_true, wdec_false, wdec_bool, wop_fieldAddr, wop_field, wop_index_agg, wop_build, wop_nilCheck, wop_int, wop_not, wop_extract, int_add keq_i64, int_sub keq_i64, int_mul keq_i64, int_add keq_u64, int_sub keq_u64, int_mul keq_u64, int_eql keq_i64, int_eql keq_u64, int_eql keq_u8, int_eql keq_u32, int_neq keq_i64, int_neq keq_u64, int_neq keq_u8, int_neq keq_u32, int_lss keq_i64, int_lss keq_u64, int_lss keq_u8, int_lss keq_u32, int_leq keq_i64, int_leq keq_u64, int_leq keq_u8, int_leq keq_u32, int_gtr keq_i64, int_gtr keq_u64, int_gtr keq_u8, int_gtr keq_u32, int_geq keq_i64, int_geq keq_u64, int_geq keq_u8, int_geq keq_u32, int_rem keq_i64, int_rem keq_u64, int_rem keq_u8, int_quo keq_u64, int_quo keq_i64, n_new, lo_new, n_ent, lo_ent, at_ent, Option.bind_some, Option.map_some, decide_eq_true_eq, Bool.not_eq_true', decide_eq_false_iff_not, Bool.not_true, Bool.not_false, ne_eq, if_true, if_false, reduceCtorEq, eq_self, Nat.zero_add, Nat.add_zero, not_false_eq_true, thenW_normal, thenW_ret, thenW_exit, outs_ret, outs_exit, kOf_cons, wdefers_nil, Nat.reduceEqDiff]
  refine buildSlice_rule se_30 ty_3 hw.ent [.int .i64 u] rfl rfl (by decide) (by simp [Value.cells]) fun A s1 m1 => ?_
  rw [dKnown (hd.ent.grew m1.grew) m1.wf, dReady (hd.ent.grew m1.grew)]
  simp only [pr_wop, pr_call, pr_wcall, pr_wdefer, pr_defers, pr_loop, pr_range, pr_fin, pr_hold, xdefers_eq, xcallv_fn, wopt_some, wopt_none, wopt_map, wopt_bind, wopt_ite, wdec_true, wdec_false, wdec_bool, wop_fieldAddr, wop_field, wop_index_agg, wop_build, wop_nilCheck, wop_int, wop_not, wop_extract, int_add keq_i64, int_sub keq_i64, int_mul keq_i64, int_add keq_u64, int_sub keq_u64, int_mul keq_u64, int_eql keq_i64, int_eql keq_u64, int_eql keq_u8, int_eql keq_u32, int_neq keq_i64, int_neq keq_u64, int_neq keq_u8, int_neq keq_u32, int_lss keq_i64, int_lss keq_u64, int_lss keq_u8, int_lss keq_u32, int_leq keq_i64, int_leq keq_u64, int_leq keq_u8, int_leq keq_u32, int_gtr keq_i64, int_gtr keq_u64, int_gtr keq_u8, int_gtr keq_u32, int_geq keq_i64, int_geq keq_u64, int_geq keq_u8, int_geq keq_u32, int_rem keq_i64, int_rem keq_u64, int_rem keq_u8, int_quo keq_u64, int_quo keq_i64, n_new, lo_new, n_ent, lo_ent, at_ent, Option.bind_some, Option.map_some, decide_eq_true_eq, Bool.not_eq_true', decide_eq_false_iff_not, Bool.not_true, Bool.not_false, ne_eq, if_true, if_false, reduceCtorEq, eq_self, Nat.zero_add, Nat.add_zero, not_false_eq_true, thenW_normal, thenW_ret, thenW_exit, outs_ret, outs_exit, kOf_cons, wdefers_nil, Nat.reduceEqDiff]
  exact fin_flat rfl m1.grew ⟨rfl, rfl⟩

theorem dSelect (hd : Dead s b) (hw : Wf s) (x u v : Int) : CallWP P ro 55 [b, .int .i64 x, .int .i64 u, .int .i64 v] s K = K (.int .i64 (-1)) s := by
  refine callEq (call_wp b55 rfl ?_) K
  rw [n55]
  unfold v55
  simp only [pr_wop, pr_call, pr_wcall, pr_wdefer, pr_defers, pr_loop, pr_range, pr_fin, pr_hold, xdefers_eq, xcallv_fn, wopt_some, wopt_none, wopt_map, wopt_bind, wopt_ite, wdec_true, wdec_false, wdec_bool, wop_fieldAddr, wop_field, wop_index_agg, wop_build, wop_nilCheck, wop_int, wop_not, wop_extract, int_add keq_i64, int_sub keq_i64, int_mul keq_i64, int_add keq_u64, int_sub keq_u64, int_mul keq_u64, int_eql keq_i64, int_eql keq_u64, int_eql keq_u8, int_eql keq_u32, int_neq keq_i64, int_neq keq_u64, int_neq keq_u8, int_neq keq_u32, int_lss keq_i64, int_lss keq_u64, int_lss keq_u8, int_lss keq_u32, int_leq keq_i64, int_leq keq_u64, int_leq keq_u8, int_leq keq_u32, int_gtr keq_i64, int_gtr keq_u64, int_gtr keq_u8, int_gtr keq_u32, int_geq keq_i64, int_geq keq_u64, int_geq keq_u8, int_geq keq_u32, int_rem keq_i64, int_rem keq_u64, int_rem keq_u8, int_quo keq_u64, int_quo keq_i64, n_new, lo_new, n_ent, lo_ent, at_ent, Option.bind_some, Option.map_some, decide_eq_true_eq, Bool.not_eq_true', decide_eq_false_iff_not, Bool.not_true, Bool.not_false, ne_eq, if_true, if_false, reduceCtorEq, eq_self, Nat.zero_add, Nat.add_zero, not_false_eq_true, thenW_normal, thenW_ret, thenW_exit, outs_ret, outs_exit, kOf_cons, wdefers_nil, Nat.reduceEqDiff]
  refine buildSlice_rule se_30 ty_3 hw.ent [.int .i64 x, .int .i64 u, .int .i64 v] rfl rfl (by decide) (by simp [Value.cells]) fun A s1 m1 => ?_
  rw [dKnown (hd.ent.grew m1.grew) m1.wf, dReady (hd.ent.grew m1.grew)]
  simp only [pr_wop, pr_call, pr_wcall, pr_wdefer, pr_defers, pr_loop, pr_range, pr_fin, pr_hold, xdefers_eq, xcallv_fn, wopt_some, wopt_none, wopt_map, wopt_bind, wopt_ite, wdec_true, wdec_false, wdec_bool, wop_fieldAddr, wop_field, wop_index_agg, wop_build, wop_nilCheck, wop_int, wop_not, wop_extract, int_add keq_i64, int_sub keq_i64, int_mul keq_i64, int_add keq_u64, int_sub keq_u64, int_mul keq_u64, int_eql keq_i64, int_eql keq_u64, int_eql keq_u8, int_eql keq_u32, int_neq keq_i64, int_neq keq_u64, int_neq keq_u8, int_neq keq_u32, int_lss keq_i64, int_lss keq_u64, int_lss keq_u8, int_lss keq_u32, int_leq keq_i64, int_leq keq_u64, int_leq keq_u8, int_leq keq_u32, int_gtr keq_i64, int_gtr keq_u64, int_gtr keq_u8, int_gtr keq_u32, int_geq keq_i64, int_geq keq_u64, int_geq keq_u8, int_geq keq_u32, int_rem keq_i64, int_rem keq_u64, int_rem keq_u8, int_quo keq_u64, int_quo keq_i64, n_new, lo_new, n_ent, lo_ent, at_ent, Option.bind_some, Option.map_some, decide_eq_true_eq, Bool.not_eq_true', decide_eq_false_iff_not, Bool.not_true, Bool.not_false, ne_eq, if_true, if_false, reduceCtorEq, eq_self, Nat.zero_add, Nat.add_zero, not_false_eq_true, thenW_normal, thenW_ret, thenW_exit, outs_ret, outs_exit, kOf_cons, wdefers_nil, Nat.reduceEqDiff]
  exact fin_flat rfl m1.grew ⟨rfl, rfl⟩

/-- A pair of minus ones, put into a cell and read again. -/
theorem minus2 {s0 s1 : St} {A : Nat} {c : List Value} {op : Bool} {T : TypeId} (h0 : Wf s0) (hA0 : s0.n ≤ A) (hro : ro ≤ s0.n) (hg : Grew (Go.VE.ent s0) s1) (hA : s1.at A = some (.cells c T op)) (hc : c.length = 2) (hw : Wf s1) {Kw : Value → St → Prop} (hk : Kw (.agg (.mk [.int .i64 (-1), .int .i64 (-1)])) s0) :
    wopt (abuild P 47 (partVals .e [(0, .const (.int .i64 (-1))), (1, .const (.int .i64 (-1)))])) fun v => wop P ro (.store 47 (.const (.pointer (some ⟨A, 0, none⟩))) (.const v)) 0 s1 fun _ s2 =>
      wop P ro (.load 47 (.const (.pointer (some ⟨A, 0, none⟩)))) 47 s2 fun v _ => wfin s0 Kw v s2 := by
  rw [show abuild P 47 (partVals .e [(0, .const (.int .i64 (-1))), (1, .const (.int .i64 (-1)))]) = some (.agg (.mk [.int .i64 (-1), .int .i64 (-1)])) by kernel_rfl]
  refine storeAll_rule isz_47 hA rfl (by decide) hw (by omega) hc rfl fun s2 p2 => ?_
  refine load_rule (load_all ap_47 p2.here rfl) ?_
  exact fin_flat rfl (p2.grew _ h0.ent hg hA0) hk

theorem minus4 {s0 s1 : St} {A : Nat} {c : List Value} {op : Bool} {T : TypeId} (h0 : Wf s0) (hA0 : s0.n ≤ A) (hro : ro ≤ s0.n) (hg : Grew (Go.VE.ent s0) s1) (hA : s1.at A = some (.cells c T op)) (hc : c.length = 4) (hw : Wf s1) {Kw : Value → St → Prop} (hk : Kw (.agg (.mk [.int .i64 (-1), .int .i64 (-1), .int .i64 (-1), .int .i64 (-1)])) s0) :
    wop P ro (.store 53 (.const (.pointer (some ⟨A, 0, none⟩))) (.const (.agg (.mk [.int .i64 (-1), .int .i64 (-1), .int .i64 (-1), .int .i64 (-1)])))) 0 s1 fun _ s2 =>
      wop P ro (.load 53 (.const (.pointer (some ⟨A, 0, none⟩)))) 53 s2 fun v _ => wfin s0 Kw v s2 := by
  refine storeAll_rule isz_53 hA rfl (by decide) hw (by omega) hc rfl fun s2 p2 => ?_
  refine load_rule (load_all ap_53 p2.here rfl) ?_
  exact fin_flat rfl (p2.grew _ h0.ent hg hA0) hk

theorem dHash (hd : Dead s b) (hw : Wf s) (hro : ro ≤ s.n) (l : Value) : CallWP P ro 24 [b, l] s K = K (.agg (.mk [.int .i64 (-1), .int .i64 (-1)])) s := by
  refine callEq (call_wp b24 rfl ?_) K
  rw [n24]
  unfold v24
  simp only [pr_wop, pr_call, pr_wcall, pr_wdefer, pr_defers, pr_loop, pr_range, pr_fin, pr_hold, xdefers_eq, xcallv_fn, wopt_some, wopt_none, wopt_map, wopt_bind, wopt_ite, wdec_true, wdec_false, wdec_bool, wop_fieldAddr, wop_field, wop_index_agg, wop_build, wop_nilCheck, wop_int, wop_not, wop_extract, int_add keq_i64, int_sub keq_i64, int_mul keq_i64, int_add keq_u64, int_sub keq_u64, int_mul keq_u64, int_eql keq_i64, int_eql keq_u64, int_eql keq_u8, int_eql keq_u32, int_neq keq_i64, int_neq keq_u64, int_neq keq_u8, int_neq keq_u32, int_lss keq_i64, int_lss keq_u64, int_lss keq_u8, int_lss keq_u32, int_leq keq_i64, int_leq keq_u64, int_leq keq_u8, int_leq keq_u32, int_gtr keq_i64, int_gtr keq_u64, int_gtr keq_u8, int_gtr keq_u32, int_geq keq_i64, int_geq keq_u64, int_geq keq_u8, int_geq keq_u32, int_rem keq_i64, int_rem keq_u64, int_rem keq_u8, int_quo keq_u64, int_quo keq_i64, n_new, lo_new, n_ent, lo_ent, at_ent, Option.bind_some, Option.map_some, decide_eq_true_eq, Bool.not_eq_true', decide_eq_false_iff_not, Bool.not_true, Bool.not_false, ne_eq, if_true, if_false, reduceCtorEq, eq_self, Nat.zero_add, Nat.add_zero, not_false_eq_true, thenW_normal, thenW_ret, thenW_exit, outs_ret, outs_exit, kOf_cons, wdefers_nil, Nat.reduceEqDiff]
  refine box_rule hw.ent fun A s1 m1 => ?_
  rw [hd.one.2.2] at m1
  refine alloc_rule ty_47 m1.wf fun A2 s2 m2 => ?_
  have g2 := m1.grew.trans m2.grew
  have hA : s2.at A = _ := (m2.grew.same A (St.at_lt m1.here)).trans m1.here
  refine load_rule (load_one ap_25 hA rfl) ⟨hd.one.2.1, ?_⟩
  refine load_rule (load_one ap_25 hA rfl) ⟨hd.one.2.1, ?_⟩
  rw [dKnown (hd.ent.grew g2) m2.wf]
  refine ⟨.refl _, ?_⟩
  rw [dReady (hd.ent.grew g2)]
  simp only [pr_wop, pr_call, pr_wcall, pr_wdefer, pr_defers, pr_loop, pr_range, pr_fin, pr_hold, xdefers_eq, xcallv_fn, wopt_some, wopt_none, wopt_map, wopt_bind, wopt_ite, wdec_true, wdec_false, wdec_bool, wop_fieldAddr, wop_field, wop_index_agg, wop_build, wop_nilCheck, wop_int, wop_not, wop_extract, int_add keq_i64, int_sub keq_i64, int_mul keq_i64, int_add keq_u64, int_sub keq_u64, int_mul keq_u64, int_eql keq_i64, int_eql keq_u64, int_eql keq_u8, int_eql keq_u32, int_neq keq_i64, int_neq keq_u64, int_neq keq_u8, int_neq keq_u32, int_lss keq_i64, int_lss keq_u64, int_lss keq_u8, int_lss keq_u32, int_leq keq_i64, int_leq keq_u64, int_leq keq_u8, int_leq keq_u32, int_gtr keq_i64, int_gtr keq_u64, int_gtr keq_u8, int_gtr keq_u32, int_geq keq_i64, int_geq keq_u64, int_geq keq_u8, int_geq keq_u32, int_rem keq_i64, int_rem keq_u64, int_rem keq_u8, int_quo keq_u64, int_quo keq_i64, n_new, lo_new, n_ent, lo_ent, at_ent, Option.bind_some, Option.map_some, decide_eq_true_eq, Bool.not_eq_true', decide_eq_false_iff_not, Bool.not_true, Bool.not_false, ne_eq, if_true, if_false, reduceCtorEq, eq_self, Nat.zero_add, Nat.add_zero, not_false_eq_true, thenW_normal, thenW_ret, thenW_exit, outs_ret, outs_exit, kOf_cons, wdefers_nil, Nat.reduceEqDiff]
  exact minus2 hw (by rw [m2.eq]; exact m1.grew.n) hro g2 m2.here rfl m2.wf ⟨rfl, rfl⟩

end
end Go.VE

/- What the other methods of a nil or zero builder do. -/
namespace Go.VE
open Go Go.Proofs
set_option maxRecDepth 20000

section
variable {ro : Nat} {s : St} {b : Value} {K : Value → St → Prop}

theorem dPack (hd : Dead s b) (hw : Wf s) (l : Value) : CallWP P ro 30 [b, l] s K = K (.int .i64 (-1)) s := by
  refine callEq (call_wp b30 rfl ?_) K
  rw [n30]
  unfold v30
  simp only [pr_wop, pr_call, pr_wcall, pr_wdefer, pr_defers, pr_loop, pr_range, pr_fin, pr_hold, xdefers_eq, xcallv_fn, wopt_some, wopt_none, wopt_map, wopt_bind, wopt_ite, wdec_true, wdec_false, wdec_bool, wop_fieldAddr, wop_field, wop_index_agg, wop_build, wop_nilCheck, wop_int, wop_not, wop_extract, int_add keq_i64, int_sub keq_i64, int_mul keq_i64, int_add keq_u64, int_sub keq_u64, int_mul keq_u64, int_eql keq_i64, int_eql keq_u64, int_eql keq_u8, int_eql keq_u32, int_neq keq_i64, int_neq keq_u64, int_neq keq_u8, int_neq keq_u32, int_lss keq_i64, int_lss keq_u64, int_lss keq_u8, int_lss keq_u32, int_leq keq_i64, int_leq keq_u64, int_leq keq_u8, int_leq keq_u32, int_gtr keq_i64, int_gtr keq_u64, int_gtr keq_u8, int_gtr keq_u32, int_geq keq_i64, int_geq keq_u64, int_geq keq_u8, int_geq keq_u32, int_rem keq_i64, int_rem keq_u64, int_rem keq_u8, int_quo keq_u64, int_quo keq_i64, n_new, lo_new, n_ent, lo_ent, at_ent, Option.bind_some, Option.map_some, decide_eq_true_eq, Bool.not_eq_true', decide_eq_false_iff_not, Bool.not_true, Bool.not_false, ne_eq, if_true, if_false, reduceCtorEq, eq_self, Nat.zero_add, Nat.add_zero, not_false_eq_true, thenW_normal, thenW_ret, thenW_exit, outs_ret, outs_exit, kOf_cons, wdefers_nil, Nat.reduceEqDiff]
  refine box_rule hw.ent fun A s1 m1 => ?_
  rw [hd.one.2.2] at m1
  refine load_rule (load_one ap_25 m1.here rfl) ⟨hd.one.2.1, ?_⟩
  refine load_rule (load_one ap_25 m1.here rfl) ⟨hd.one.2.1, ?_⟩
  rw [dKnown (hd.ent.grew m1.grew) m1.wf]
  refine ⟨.refl _, ?_⟩
  rw [dReady (hd.ent.grew m1.grew)]
  simp only [pr_wop, pr_call, pr_wcall, pr_wdefer, pr_defers, pr_loop, pr_range, pr_fin, pr_hold, xdefers_eq, xcallv_fn, wopt_some, wopt_none, wopt_map, wopt_bind, wopt_ite, wdec_true, wdec_false, wdec_bool, wop_fieldAddr, wop_field, wop_index_agg, wop_build, wop_nilCheck, wop_int, wop_not, wop_extract, int_add keq_i64, int_sub keq_i64, int_mul keq_i64, int_add keq_u64, int_sub keq_u64, int_mul keq_u64, int_eql keq_i64, int_eql keq_u64, int_eql keq_u8, int_eql keq_u32, int_neq keq_i64, int_neq keq_u64, int_neq keq_u8, int_neq keq_u32, int_lss keq_i64, int_lss keq_u64, int_lss keq_u8, int_lss keq_u32, int_leq keq_i64, int_leq keq_u64, int_leq keq_u8, int_leq keq_u32, int_gtr keq_i64, int_gtr keq_u64, int_gtr keq_u8, int_gtr keq_u32, int_geq keq_i64, int_geq keq_u64, int_geq keq_u8, int_geq keq_u32, int_rem keq_i64, int_rem keq_u64, int_rem keq_u8, int_quo keq_u64, int_quo keq_i64, n_new, lo_new, n_ent, lo_ent, at_ent, Option.bind_some, Option.map_some, decide_eq_true_eq, Bool.not_eq_true', decide_eq_false_iff_not, Bool.not_true, Bool.not_false, ne_eq, if_true, if_false, reduceCtorEq, eq_self, Nat.zero_add, Nat.add_zero, not_false_eq_true, thenW_normal, thenW_ret, thenW_exit, outs_ret, outs_exit, kOf_cons, wdefers_nil, Nat.reduceEqDiff]
  exact fin_flat rfl m1.grew ⟨rfl, rfl⟩

theorem dCanonical (hd : Dead s b) (hw : Wf s) (l : Value) : CallWP P ro 10 [b, l] s K = K (.tuple (.mk [])) s := by
  refine callEq (call_wp b10 rfl ?_) K
  rw [n10]
  unfold v10
  simp only [pr_wop, pr_call, pr_wcall, pr_wdefer, pr_defers, pr_loop, pr_range, pr_fin, pr_hold, xdefers_eq, xcallv_fn, wopt_some, wopt_none, wopt_map, wopt_bind, wopt_ite, wdec_true, wdec_false, wdec_bool, wop_fieldAddr, wop_field, wop_index_agg, wop_build, wop_nilCheck, wop_int, wop_not, wop_extract, int_add keq_i64, int_sub keq_i64, int_mul keq_i64, int_add keq_u64, int_sub keq_u64, int_mul keq_u64, int_eql keq_i64, int_eql keq_u64, int_eql keq_u8, int_eql keq_u32, int_neq keq_i64, int_neq keq_u64, int_neq keq_u8, int_neq keq_u32, int_lss keq_i64, int_lss keq_u64, int_lss keq_u8, int_lss keq_u32, int_leq keq_i64, int_leq keq_u64, int_leq keq_u8, int_leq keq_u32, int_gtr keq_i64, int_gtr keq_u64, int_gtr keq_u8, int_gtr keq_u32, int_geq keq_i64, int_geq keq_u64, int_geq keq_u8, int_geq keq_u32, int_rem keq_i64, int_rem keq_u64, int_rem keq_u8, int_quo keq_u64, int_quo keq_i64, n_new, lo_new, n_ent, lo_ent, at_ent, Option.bind_some, Option.map_some, decide_eq_true_eq, Bool.not_eq_true', decide_eq_false_iff_not, Bool.not_true, Bool.not_false, ne_eq, if_true, if_false, reduceCtorEq, eq_self, Nat.zero_add, Nat.add_zero, not_false_eq_true, thenW_normal, thenW_ret, thenW_exit, outs_ret, outs_exit, kOf_cons, wdefers_nil, Nat.reduceEqDiff]
  refine box_rule hw.ent fun A s1 m1 => ?_
  rw [hd.one.2.2] at m1
  refine load_rule (load_one ap_25 m1.here rfl) ⟨hd.one.2.1, ?_⟩
  refine load_rule (load_one ap_25 m1.here rfl) ⟨hd.one.2.1, ?_⟩
  rw [dErr (hd.ent.grew m1.grew)]
  refine ⟨.refl _, ?_⟩
  simp only [pr_wop, pr_call, pr_wcall, pr_wdefer, pr_defers, pr_loop, pr_range, pr_fin, pr_hold, xdefers_eq, xcallv_fn, wopt_some, wopt_none, wopt_map, wopt_bind, wopt_ite, wdec_true, wdec_false, wdec_bool, wop_fieldAddr, wop_field, wop_index_agg, wop_build, wop_nilCheck, wop_int, wop_not, wop_extract, int_add keq_i64, int_sub keq_i64, int_mul keq_i64, int_add keq_u64, int_sub keq_u64, int_mul keq_u64, int_eql keq_i64, int_eql keq_u64, int_eql keq_u8, int_eql keq_u32, int_neq keq_i64, int_neq keq_u64, int_neq keq_u8, int_neq keq_u32, int_lss keq_i64, int_lss keq_u64, int_lss keq_u8, int_lss keq_u32, int_leq keq_i64, int_leq keq_u64, int_leq keq_u8, int_leq keq_u32, int_gtr keq_i64, int_gtr keq_u64, int_gtr keq_u8, int_gtr keq_u32, int_geq keq_i64, int_geq keq_u64, int_geq keq_u8, int_geq keq_u32, int_rem keq_i64, int_rem keq_u64, int_rem keq_u8, int_quo keq_u64, int_quo keq_i64, n_new, lo_new, n_ent, lo_ent, at_ent, Option.bind_some, Option.map_some, decide_eq_true_eq, Bool.not_eq_true', decide_eq_false_iff_not, Bool.not_true, Bool.not_false, ne_eq, if_true, if_false, reduceCtorEq, eq_self, Nat.zero_add, Nat.add_zero, not_false_eq_true, thenW_normal, thenW_ret, thenW_exit, outs_ret, outs_exit, kOf_cons, wdefers_nil, Nat.reduceEqDiff, show ¬ (10 : Int) = 0 by decide]
  rw [dReady (hd.ent.grew m1.grew)]
  simp only [pr_wop, pr_call, pr_wcall, pr_wdefer, pr_defers, pr_loop, pr_range, pr_fin, pr_hold, xdefers_eq, xcallv_fn, wopt_some, wopt_none, wopt_map, wopt_bind, wopt_ite, wdec_true, wdec_false, wdec_bool, wop_fieldAddr, wop_field, wop_index_agg, wop_build, wop_nilCheck, wop_int, wop_not, wop_extract, int_add keq_i64, int_sub keq_i64, int_mul keq_i64, int_add keq_u64, int_sub keq_u64, int_mul keq_u64, int_eql keq_i64, int_eql keq_u64, int_eql keq_u8, int_eql keq_u32, int_neq keq_i64, int_neq keq_u64, int_neq keq_u8, int_neq keq_u32, int_lss keq_i64, int_lss keq_u64, int_lss keq_u8, int_lss keq_u32, int_leq keq_i64, int_leq keq_u64, int_leq keq_u8, int_leq keq_u32, int_gtr keq_i64, int_gtr keq_u64, int_gtr keq_u8, int_gtr keq_u32, int_geq keq_i64, int_geq keq_u64, int_geq keq_u8, int_geq keq_u32, int_rem keq_i64, int_rem keq_u64, int_rem keq_u8, int_quo keq_u64, int_quo keq_i64, n_new, lo_new, n_ent, lo_ent, at_ent, Option.bind_some, Option.map_some, decide_eq_true_eq, Bool.not_eq_true', decide_eq_false_iff_not, Bool.not_true, Bool.not_false, ne_eq, if_true, if_false, reduceCtorEq, eq_self, Nat.zero_add, Nat.add_zero, not_false_eq_true, thenW_normal, thenW_ret, thenW_exit, outs_ret, outs_exit, kOf_cons, wdefers_nil, Nat.reduceEqDiff]
  exact fin_flat rfl m1.grew ⟨rfl, rfl⟩

theorem dPower (hd : Dead s b) (hw : Wf s) (l : Value) (x : Int) : CallWP P ro 31 [b, l, .int .u64 x] s K = K (.int .i64 (-1)) s := by
  refine callEq (call_wp b31 rfl ?_) K
  rw [n31]
  unfold v31
  simp only [pr_wop, pr_call, pr_wcall, pr_wdefer, pr_defers, pr_loop, pr_range, pr_fin, pr_hold, xdefers_eq, xcallv_fn, wopt_some, wopt_none, wopt_map, wopt_bind, wopt_ite, wdec_true, wdec_false, wdec_bool, wop_fieldAddr, wop_field, wop_index_agg, wop_build, wop_nilCheck, wop_int, wop_not, wop_extract, int_add keq_i64, int_sub keq_i64, int_mul keq_i64, int_add keq_u64, int_sub keq_u64, int_mul keq_u64, int_eql keq_i64, int_eql keq_u64, int_eql keq_u8, int_eql keq_u32, int_neq keq_i64, int_neq keq_u64, int_neq keq_u8, int_neq keq_u32, int_lss keq_i64, int_lss keq_u64, int_lss keq_u8, int_lss keq_u32, int_leq keq_i64, int_leq keq_u64, int_leq keq_u8, int_leq keq_u32, int_gtr keq_i64, int_gtr keq_u64, int_gtr keq_u8, int_gtr keq_u32, int_geq keq_i64, int_geq keq_u64, int_geq keq_u8, int_geq keq_u32, int_rem keq_i64, int_rem keq_u64, int_rem keq_u8, int_quo keq_u64, int_quo keq_i64, n_new, lo_new, n_ent, lo_ent, at_ent, Option.bind_some, Option.map_some, decide_eq_true_eq, Bool.not_eq_true', decide_eq_false_iff_not, Bool.not_true, Bool.not_false, ne_eq, if_true, if_false, reduceCtorEq, eq_self, Nat.zero_add, Nat.add_zero, not_false_eq_true, thenW_normal, thenW_ret, thenW_exit, outs_ret, outs_exit, kOf_cons, wdefers_nil, Nat.reduceEqDiff]
  rw [dKnown hd.ent hw.ent]
  refine buildSlice_rule se_23 ty_24 hw.ent [.int .u64 x] rfl rfl (by decide) (by simp [Value.cells]) fun A s1 m1 => ?_
  rw [dReady (hd.ent.grew m1.grew)]
  simp only [pr_wop, pr_call, pr_wcall, pr_wdefer, pr_defers, pr_loop, pr_range, pr_fin, pr_hold, xdefers_eq, xcallv_fn, wopt_some, wopt_none, wopt_map, wopt_bind, wopt_ite, wdec_true, wdec_false, wdec_bool, wop_fieldAddr, wop_field, wop_index_agg, wop_build, wop_nilCheck, wop_int, wop_not, wop_extract, int_add keq_i64, int_sub keq_i64, int_mul keq_i64, int_add keq_u64, int_sub keq_u64, int_mul keq_u64, int_eql keq_i64, int_eql keq_u64, int_eql keq_u8, int_eql keq_u32, int_neq keq_i64, int_neq keq_u64, int_neq keq_u8, int_neq keq_u32, int_lss keq_i64, int_lss keq_u64, int_lss keq_u8, int_lss keq_u32, int_leq keq_i64, int_leq keq_u64, int_leq keq_u8, int_leq keq_u32, int_gtr keq_i64, int_gtr keq_u64, int_gtr keq_u8, int_gtr keq_u32, int_geq keq_i64, int_geq keq_u64, int_geq keq_u8, int_geq keq_u32, int_rem keq_i64, int_rem keq_u64, int_rem keq_u8, int_quo keq_u64, int_quo keq_i64, n_new, lo_new, n_ent, lo_ent, at_ent, Option.bind_some, Option.map_some, decide_eq_true_eq, Bool.not_eq_true', decide_eq_false_iff_not, Bool.not_true, Bool.not_false, ne_eq, if_true, if_false, reduceCtorEq, eq_self, Nat.zero_add, Nat.add_zero, not_false_eq_true, thenW_normal, thenW_ret, thenW_exit, outs_ret, outs_exit, kOf_cons, wdefers_nil, Nat.reduceEqDiff]
  exact fin_flat rfl m1.grew ⟨rfl, rfl⟩

theorem build4 : abuild P 53 (partVals .e [(0, .const (.int .i64 (-1))), (1, .const (.int .i64 (-1))), (2, .const (.int .i64 (-1))), (3, .const (.int .i64 (-1)))]) = some (.agg (.mk [.int .i64 (-1), .int .i64 (-1), .int .i64 (-1), .int .i64 (-1)])) := by kernel_rfl

theorem dPerm (hd : Dead s b) (hw : Wf s) (hro : ro ≤ s.n) (x0 x1 x2 x3 : Int) : CallWP P ro 20 [b, .agg (.mk [.int .i64 x0, .int .i64 x1, .int .i64 x2, .int .i64 x3])] s K = K (.agg (.mk [.int .i64 (-1), .int .i64 (-1), .int .i64 (-1), .int .i64 (-1)])) s := by
  refine callEq (call_wp b20 rfl ?_) K
  rw [n20]
  unfold v20
  simp only [pr_wop, pr_call, pr_wcall, pr_wdefer, pr_defers, pr_loop, pr_range, pr_fin, pr_hold, xdefers_eq, xcallv_fn, wopt_some, wopt_none, wopt_map, wopt_bind, wopt_ite, wdec_true, wdec_false, wdec_bool, wop_fieldAddr, wop_field, wop_index_agg, wop_build, wop_nilCheck, wop_int, wop_not, wop_extract, int_add keq_i64, int_sub keq_i64, int_mul keq_i64, int_add keq_u64, int_sub keq_u64, int_mul keq_u64, int_eql keq_i64, int_eql keq_u64, int_eql keq_u8, int_eql keq_u32, int_neq keq_i64, int_neq keq_u64, int_neq keq_u8, int_neq keq_u32, int_lss keq_i64, int_lss keq_u64, int_lss keq_u8, int_lss keq_u32, int_leq keq_i64, int_leq keq_u64, int_leq keq_u8, int_leq keq_u32, int_gtr keq_i64, int_gtr keq_u64, int_gtr keq_u8, int_gtr keq_u32, int_geq keq_i64, int_geq keq_u64, int_geq keq_u8, int_geq keq_u32, int_rem keq_i64, int_rem keq_u64, int_rem keq_u8, int_quo keq_u64, int_quo keq_i64, n_new, lo_new, n_ent, lo_ent, at_ent, Option.bind_some, Option.map_some, decide_eq_true_eq, Bool.not_eq_true', decide_eq_false_iff_not, Bool.not_true, Bool.not_false, ne_eq, if_true, if_false, reduceCtorEq, eq_self, Nat.zero_add, Nat.add_zero, not_false_eq_true, thenW_normal, thenW_ret, thenW_exit, outs_ret, outs_exit, kOf_cons, wdefers_nil, Nat.reduceEqDiff]
  refine box_rule hw.ent fun A s1 m1 => ?_
  refine alloc_rule ty_53 m1.wf fun A2 s2 m2 => ?_
  rw [build4]
  simp only [pr_wop, pr_call, pr_wcall, pr_wdefer, pr_defers, pr_loop, pr_range, pr_fin, pr_hold, xdefers_eq, xcallv_fn, wopt_some, wopt_none, wopt_map, wopt_bind, wopt_ite, wdec_true, wdec_false, wdec_bool, wop_fieldAddr, wop_field, wop_index_agg, wop_build, wop_nilCheck, wop_int, wop_not, wop_extract, int_add keq_i64, int_sub keq_i64, int_mul keq_i64, int_add keq_u64, int_sub keq_u64, int_mul keq_u64, int_eql keq_i64, int_eql keq_u64, int_eql keq_u8, int_eql keq_u32, int_neq keq_i64, int_neq keq_u64, int_neq keq_u8, int_neq keq_u32, int_lss keq_i64, int_lss keq_u64, int_lss keq_u8, int_lss keq_u32, int_leq keq_i64, int_leq keq_u64, int_leq keq_u8, int_leq keq_u32, int_gtr keq_i64, int_gtr keq_u64, int_gtr keq_u8, int_gtr keq_u32, int_geq keq_i64, int_geq keq_u64, int_geq keq_u8, int_geq keq_u32, int_rem keq_i64, int_rem keq_u64, int_rem keq_u8, int_quo keq_u64, int_quo keq_i64, n_new, lo_new, n_ent, lo_ent, at_ent, Option.bind_some, Option.map_some, decide_eq_true_eq, Bool.not_eq_true', decide_eq_false_iff_not, Bool.not_true, Bool.not_false, ne_eq, if_true, if_false, reduceCtorEq, eq_self, Nat.zero_add, Nat.add_zero, not_false_eq_true, thenW_normal, thenW_ret, thenW_exit, outs_ret, outs_exit, kOf_cons, wdefers_nil, Nat.reduceEqDiff]
  refine alloc_rule ty_53 m2.wf fun A3 s3 m3 => ?_
  have g2 := m1.grew.trans m2.grew
  have g3 := g2.trans m3.grew
  have h2 : s.n ≤ A2 := by rw [m2.eq]; exact m1.grew.n
  have h3 : s.n ≤ A3 := by rw [m3.eq]; exact g2.n
  have hne : A2 ≠ A3 := by have := m2.n; rw [m2.eq, m3.eq]; omega
  refine storeAll_rule isz_53 m3.here rfl (by decide) m3.wf (by omega) rfl rfl fun s4 p4 => ?_
  have g4 := p4.grew _ hw.ent g3 h3
  refine sliceAll_rule un_53 isz_3 (by decide) ?_
  rw [dKnown (hd.ent.grew g4) p4.wf, dReady (hd.ent.grew g4)]
  simp only [pr_wop, pr_call, pr_wcall, pr_wdefer, pr_defers, pr_loop, pr_range, pr_fin, pr_hold, xdefers_eq, xcallv_fn, wopt_some, wopt_none, wopt_map, wopt_bind, wopt_ite, wdec_true, wdec_false, wdec_bool, wop_fieldAddr, wop_field, wop_index_agg, wop_build, wop_nilCheck, wop_int, wop_not, wop_extract, int_add keq_i64, int_sub keq_i64, int_mul keq_i64, int_add keq_u64, int_sub keq_u64, int_mul keq_u64, int_eql keq_i64, int_eql keq_u64, int_eql keq_u8, int_eql keq_u32, int_neq keq_i64, int_neq keq_u64, int_neq keq_u8, int_neq keq_u32, int_lss keq_i64, int_lss keq_u64, int_lss keq_u8, int_lss keq_u32, int_leq keq_i64, int_leq keq_u64, int_leq keq_u8, int_leq keq_u32, int_gtr keq_i64, int_gtr keq_u64, int_gtr keq_u8, int_gtr keq_u32, int_geq keq_i64, int_geq keq_u64, int_geq keq_u8, int_geq keq_u32, int_rem keq_i64, int_rem keq_u64, int_rem keq_u8, int_quo keq_u64, int_quo keq_i64, n_new, lo_new, n_ent, lo_ent, at_ent, Option.bind_some, Option.map_some, decide_eq_true_eq, Bool.not_eq_true', decide_eq_false_iff_not, Bool.not_true, Bool.not_false, ne_eq, if_true, if_false, reduceCtorEq, eq_self, Nat.zero_add, Nat.add_zero, not_false_eq_true, thenW_normal, thenW_ret, thenW_exit, outs_ret, outs_exit, kOf_cons, wdefers_nil, Nat.reduceEqDiff]
  refine load_rule (load_all ap_53 p4.here rfl) ?_
  have hA2 : s4.at A2 = _ := (p4.rest A2 hne).trans ((m3.grew.same A2 (St.at_lt m2.here)).trans m2.here)
  exact minus4 hw h2 hro g4 hA2 rfl p4.wf ⟨rfl, rfl⟩

theorem dAbsorb (hd : Dead s b) (hw : Wf s) (hro : ro ≤ s.n) (x0 x1 x2 x3 y : Int) : CallWP P ro 25 [b, .agg (.mk [.int .i64 x0, .int .i64 x1, .int .i64 x2, .int .i64 x3]), .int .i64 y] s K = K (.agg (.mk [.int .i64 (-1), .int .i64 (-1), .int .i64 (-1), .int .i64 (-1)])) s := by
  refine callEq (call_wp b25 rfl ?_) K
  rw [n25]
  unfold v25
  simp only [pr_wop, pr_call, pr_wcall, pr_wdefer, pr_defers, pr_loop, pr_range, pr_fin, pr_hold, xdefers_eq, xcallv_fn, wopt_some, wopt_none, wopt_map, wopt_bind, wopt_ite, wdec_true, wdec_false, wdec_bool, wop_fieldAddr, wop_field, wop_index_agg, wop_build, wop_nilCheck, wop_int, wop_not, wop_extract, int_add keq_i64, int_sub keq_i64, int_mul keq_i64, int_add keq_u64, int_sub keq_u64, int_mul keq_u64, int_eql keq_i64, int_eql keq_u64, int_eql keq_u8, int_eql keq_u32, int_neq keq_i64, int_neq keq_u64, int_neq keq_u8, int_neq keq_u32, int_lss keq_i64, int_lss keq_u64, int_lss keq_u8, int_lss keq_u32, int_leq keq_i64, int_leq keq_u64, int_leq keq_u8, int_leq keq_u32, int_gtr keq_i64, int_gtr keq_u64, int_gtr keq_u8, int_gtr keq_u32, int_geq keq_i64, int_geq keq_u64, int_geq keq_u8, int_geq keq_u32, int_rem keq_i64, int_rem keq_u64, int_rem keq_u8, int_quo keq_u64, int_quo keq_i64, n_new, lo_new, n_ent, lo_ent, at_ent, Option.bind_some, Option.map_some, decide_eq_true_eq, Bool.not_eq_true', decide_eq_false_iff_not, Bool.not_true, Bool.not_false, ne_eq, if_true, if_false, reduceCtorEq, eq_self, Nat.zero_add, Nat.add_zero, not_false_eq_true, thenW_normal, thenW_ret, thenW_exit, outs_ret, outs_exit, kOf_cons, wdefers_nil, Nat.reduceEqDiff]
  refine box_rule hw.ent fun A s1 m1 => ?_
  refine alloc_rule ty_53 m1.wf fun A2 s2 m2 => ?_
  have g2 := m1.grew.trans m2.grew
  have h2 : s.n ≤ A2 := by rw [m2.eq]; exact m1.grew.n
  refine sliceAll_rule un_53 isz_3 (by decide) ?_
  rw [dKnown (hd.ent.grew g2) m2.wf]
  simp only [pr_wop, pr_call, pr_wcall, pr_wdefer, pr_defers, pr_loop, pr_range, pr_fin, pr_hold, xdefers_eq, xcallv_fn, wopt_some, wopt_none, wopt_map, wopt_bind, wopt_ite, wdec_true, wdec_false, wdec_bool, wop_fieldAddr, wop_field, wop_index_agg, wop_build, wop_nilCheck, wop_int, wop_not, wop_extract, int_add keq_i64, int_sub keq_i64, int_mul keq_i64, int_add keq_u64, int_sub keq_u64, int_mul keq_u64, int_eql keq_i64, int_eql keq_u64, int_eql keq_u8, int_eql keq_u32, int_neq keq_i64, int_neq keq_u64, int_neq keq_u8, int_neq keq_u32, int_lss keq_i64, int_lss keq_u64, int_lss keq_u8, int_lss keq_u32, int_leq keq_i64, int_leq keq_u64, int_leq keq_u8, int_leq keq_u32, int_gtr keq_i64, int_gtr keq_u64, int_gtr keq_u8, int_gtr keq_u32, int_geq keq_i64, int_geq keq_u64, int_geq keq_u8, int_geq keq_u32, int_rem keq_i64, int_rem keq_u64, int_rem keq_u8, int_quo keq_u64, int_quo keq_i64, n_new, lo_new, n_ent, lo_ent, at_ent, Option.bind_some, Option.map_some, decide_eq_true_eq, Bool.not_eq_true', decide_eq_false_iff_not, Bool.not_true, Bool.not_false, ne_eq, if_true, if_false, reduceCtorEq, eq_self, Nat.zero_add, Nat.add_zero, not_false_eq_true, thenW_normal, thenW_ret, thenW_exit, outs_ret, outs_exit, kOf_cons, wdefers_nil, Nat.reduceEqDiff]
  rw [dReady (hd.ent.grew g2)]
  simp only [pr_wop, pr_call, pr_wcall, pr_wdefer, pr_defers, pr_loop, pr_range, pr_fin, pr_hold, xdefers_eq, xcallv_fn, wopt_some, wopt_none, wopt_map, wopt_bind, wopt_ite, wdec_true, wdec_false, wdec_bool, wop_fieldAddr, wop_field, wop_index_agg, wop_build, wop_nilCheck, wop_int, wop_not, wop_extract, int_add keq_i64, int_sub keq_i64, int_mul keq_i64, int_add keq_u64, int_sub keq_u64, int_mul keq_u64, int_eql keq_i64, int_eql keq_u64, int_eql keq_u8, int_eql keq_u32, int_neq keq_i64, int_neq keq_u64, int_neq keq_u8, int_neq keq_u32, int_lss keq_i64, int_lss keq_u64, int_lss keq_u8, int_lss keq_u32, int_leq keq_i64, int_leq keq_u64, int_leq keq_u8, int_leq keq_u32, int_gtr keq_i64, int_gtr keq_u64, int_gtr keq_u8, int_gtr keq_u32, int_geq keq_i64, int_geq keq_u64, int_geq keq_u8, int_geq keq_u32, int_rem keq_i64, int_rem keq_u64, int_rem keq_u8, int_quo keq_u64, int_quo keq_i64, n_new, lo_new, n_ent, lo_ent, at_ent, Option.bind_some, Option.map_some, decide_eq_true_eq, Bool.not_eq_true', decide_eq_false_iff_not, Bool.not_true, Bool.not_false, ne_eq, if_true, if_false, reduceCtorEq, eq_self, Nat.zero_add, Nat.add_zero, not_false_eq_true, thenW_normal, thenW_ret, thenW_exit, outs_ret, outs_exit, kOf_cons, wdefers_nil, Nat.reduceEqDiff, build4]
  exact minus4 hw h2 hro g2 m2.here rfl m2.wf ⟨rfl, rfl⟩

theorem dDraw (hd : Dead s b) (hw : Wf s) (hro : ro ≤ s.n) (x0 x1 x2 x3 : Int) : CallWP P ro 26 [b, .agg (.mk [.int .i64 x0, .int .i64 x1, .int .i64 x2, .int .i64 x3])] s K = K (.tuple (.mk [.agg (.mk [.int .i64 (-1), .int .i64 (-1), .int .i64 (-1), .int .i64 (-1)]), .int .i64 (-1)])) s := by
  refine callEq (call_wp b26 rfl ?_) K
  rw [n26]
  unfold v26
  simp only [pr_wop, pr_call, pr_wcall, pr_wdefer, pr_defers, pr_loop, pr_range, pr_fin, pr_hold, xdefers_eq, xcallv_fn, wopt_some, wopt_none, wopt_map, wopt_bind, wopt_ite, wdec_true, wdec_false, wdec_bool, wop_fieldAddr, wop_field, wop_index_agg, wop_build, wop_nilCheck, wop_int, wop_not, wop_extract, int_add keq_i64, int_sub keq_i64, int_mul keq_i64, int_add keq_u64, int_sub keq_u64, int_mul keq_u64, int_eql keq_i64, int_eql keq_u64, int_eql keq_u8, int_eql keq_u32, int_neq keq_i64, int_neq keq_u64, int_neq keq_u8, int_neq keq_u32, int_lss keq_i64, int_lss keq_u64, int_lss keq_u8, int_lss keq_u32, int_leq keq_i64, int_leq keq_u64, int_leq keq_u8, int_leq keq_u32, int_gtr keq_i64, int_gtr keq_u64, int_gtr keq_u8, int_gtr keq_u32, int_geq keq_i64, int_geq keq_u64, int_geq keq_u8, int_geq keq_u32, int_rem keq_i64, int_rem keq_u64, int_rem keq_u8, int_quo keq_u64, int_quo keq_i64, n_new, lo_new, n_ent, lo_ent, at_ent, Option.bind_some, Option.map_some, decide_eq_true_eq, Bool.not_eq_true', decide_eq_false_iff_not, Bool.not_true, Bool.not_false, ne_eq, if_true, if_false, reduceCtorEq, eq_self, Nat.zero_add, Nat.add_zero, not_false_eq_true, thenW_normal, thenW_ret, thenW_exit, outs_ret, outs_exit, kOf_cons, wdefers_nil, Nat.reduceEqDiff]
  refine box_rule hw.ent fun A s1 m1 => ?_
  refine alloc_rule ty_53 m1.wf fun A2 s2 m2 => ?_
  have g2 := m1.grew.trans m2.grew
  have h2 : s.n ≤ A2 := by rw [m2.eq]; exact m1.grew.n
  refine sliceAll_rule un_53 isz_3 (by decide) ?_
  rw [dKnown (hd.ent.grew g2) m2.wf, dReady (hd.ent.grew g2)]
  simp only [pr_wop, pr_call, pr_wcall, pr_wdefer, pr_defers, pr_loop, pr_range, pr_fin, pr_hold, xdefers_eq, xcallv_fn, wopt_some, wopt_none, wopt_map, wopt_bind, wopt_ite, wdec_true, wdec_false, wdec_bool, wop_fieldAddr, wop_field, wop_index_agg, wop_build, wop_nilCheck, wop_int, wop_not, wop_extract, int_add keq_i64, int_sub keq_i64, int_mul keq_i64, int_add keq_u64, int_sub keq_u64, int_mul keq_u64, int_eql keq_i64, int_eql keq_u64, int_eql keq_u8, int_eql keq_u32, int_neq keq_i64, int_neq keq_u64, int_neq keq_u8, int_neq keq_u32, int_lss keq_i64, int_lss keq_u64, int_lss keq_u8, int_lss keq_u32, int_leq keq_i64, int_leq keq_u64, int_leq keq_u8, int_leq keq_u32, int_gtr keq_i64, int_gtr keq_u64, int_gtr keq_u8, int_gtr keq_u32, int_geq keq_i64, int_geq keq_u64, int_geq keq_u8, int_geq keq_u32, int_rem keq_i64, int_rem keq_u64, int_rem keq_u8, int_quo keq_u64, int_quo keq_i64, n_new, lo_new, n_ent, lo_ent, at_ent, Option.bind_some, Option.map_some, decide_eq_true_eq, Bool.not_eq_true', decide_eq_false_iff_not, Bool.not_true, Bool.not_false, ne_eq, if_true, if_false, reduceCtorEq, eq_self, Nat.zero_add, Nat.add_zero, not_false_eq_true, thenW_normal, thenW_ret, thenW_exit, outs_ret, outs_exit, kOf_cons, wdefers_nil, Nat.reduceEqDiff, build4]
  refine storeAll_rule isz_53 m2.here rfl (by decide) m2.wf (by omega) rfl rfl fun s3 p3 => ?_
  refine load_rule (load_all ap_53 p3.here rfl) ?_
  exact fin_flat rfl (p3.grew _ hw.ent g2 h2) ⟨rfl, rfl⟩

theorem dNode (hd : Dead s b) (hw : Wf s) (hro : ro ≤ s.n) (x0 x1 y0 y1 : Int) : CallWP P ro 56 [b, .agg (.mk [.int .i64 x0, .int .i64 x1]), .agg (.mk [.int .i64 y0, .int .i64 y1])] s K = K (.agg (.mk [.int .i64 (-1), .int .i64 (-1)])) s := by
  refine callEq (call_wp b56 rfl ?_) K
  rw [n56]
  unfold v56
  simp only [pr_wop, pr_call, pr_wcall, pr_wdefer, pr_defers, pr_loop, pr_range, pr_fin, pr_hold, xdefers_eq, xcallv_fn, wopt_some, wopt_none, wopt_map, wopt_bind, wopt_ite, wdec_true, wdec_false, wdec_bool, wop_fieldAddr, wop_field, wop_index_agg, wop_build, wop_nilCheck, wop_int, wop_not, wop_extract, int_add keq_i64, int_sub keq_i64, int_mul keq_i64, int_add keq_u64, int_sub keq_u64, int_mul keq_u64, int_eql keq_i64, int_eql keq_u64, int_eql keq_u8, int_eql keq_u32, int_neq keq_i64, int_neq keq_u64, int_neq keq_u8, int_neq keq_u32, int_lss keq_i64, int_lss keq_u64, int_lss keq_u8, int_lss keq_u32, int_leq keq_i64, int_leq keq_u64, int_leq keq_u8, int_leq keq_u32, int_gtr keq_i64, int_gtr keq_u64, int_gtr keq_u8, int_gtr keq_u32, int_geq keq_i64, int_geq keq_u64, int_geq keq_u8, int_geq keq_u32, int_rem keq_i64, int_rem keq_u64, int_rem keq_u8, int_quo keq_u64, int_quo keq_i64, n_new, lo_new, n_ent, lo_ent, at_ent, Option.bind_some, Option.map_some, decide_eq_true_eq, Bool.not_eq_true', decide_eq_false_iff_not, Bool.not_true, Bool.not_false, ne_eq, if_true, if_false, reduceCtorEq, eq_self, Nat.zero_add, Nat.add_zero, not_false_eq_true, thenW_normal, thenW_ret, thenW_exit, outs_ret, outs_exit, kOf_cons, wdefers_nil, Nat.reduceEqDiff]
  refine box_rule hw.ent fun A s1 m1 => ?_
  refine box_rule m1.wf fun A2 s2 m2 => ?_
  refine alloc_rule ty_47 m2.wf fun A3 s3 m3 => ?_
  have g2 := m1.grew.trans m2.grew
  have g3 := g2.trans m3.grew
  have h3 : s.n ≤ A3 := by rw [m3.eq]; exact g2.n
  have e1 : s3.at A = _ := (m3.grew.same A (St.at_lt ((m2.grew.same A (St.at_lt m1.here)).trans m1.here))).trans ((m2.grew.same A (St.at_lt m1.here)).trans m1.here)
  have e2 : s3.at A2 = _ := (m3.grew.same A2 (St.at_lt m2.here)).trans m2.here
  simp only [wop_indexAddr, ixArr un_47 isz_3, aplace, wopt_some, show (0 : Int) ≤ 0 ∧ (0 : Int) < ((2 : Nat) : Int) by decide, show (0 : Int) ≤ 1 ∧ (1 : Int) < ((2 : Nat) : Int) by decide, and_self, if_true]
  refine load_rule (load_one (v := .int .i64 x0) ap_3 e1 rfl) ?_
  refine load_rule (load_one (v := .int .i64 x1) ap_3 e1 rfl) ?_
  refine load_rule (load_one (v := .int .i64 y0) ap_3 e2 rfl) ?_
  refine load_rule (load_one (v := .int .i64 y1) ap_3 e2 rfl) ?_
  refine buildSlice_rule se_30 ty_3 m3.wf [.int .i64 x0, .int .i64 x1, .int .i64 y0, .int .i64 y1] rfl rfl (by decide) (by simp [Value.cells]) fun A4 s4 m4 => ?_
  have g4 := g3.trans m4.grew
  rw [dKnown (hd.ent.grew g4) m4.wf, dReady (hd.ent.grew g4)]
  simp only [pr_wop, pr_call, pr_wcall, pr_wdefer, pr_defers, pr_loop, pr_range, pr_fin, pr_hold, xdefers_eq, xcallv_fn, wopt_some, wopt_none, wopt_map, wopt_bind, wopt_ite, wdec_true, wdec_false, wdec_bool, wop_fieldAddr, wop_field, wop_index_agg, wop_build, wop_nilCheck, wop_int, wop_not, wop_extract, int_add keq_i64, int_sub keq_i64, int_mul keq_i64, int_add keq_u64, int_sub keq_u64, int_mul keq_u64, int_eql keq_i64, int_eql keq_u64, int_eql keq_u8, int_eql keq_u32, int_neq keq_i64, int_neq keq_u64, int_neq keq_u8, int_neq keq_u32, int_lss keq_i64, int_lss keq_u64, int_lss keq_u8, int_lss keq_u32, int_leq keq_i64, int_leq keq_u64, int_leq keq_u8, int_leq keq_u32, int_gtr keq_i64, int_gtr keq_u64, int_gtr keq_u8, int_gtr keq_u32, int_geq keq_i64, int_geq keq_u64, int_geq keq_u8, int_geq keq_u32, int_rem keq_i64, int_rem keq_u64, int_rem keq_u8, int_quo keq_u64, int_quo keq_i64, n_new, lo_new, n_ent, lo_ent, at_ent, Option.bind_some, Option.map_some, decide_eq_true_eq, Bool.not_eq_true', decide_eq_false_iff_not, Bool.not_true, Bool.not_false, ne_eq, if_true, if_false, reduceCtorEq, eq_self, Nat.zero_add, Nat.add_zero, not_false_eq_true, thenW_normal, thenW_ret, thenW_exit, outs_ret, outs_exit, kOf_cons, wdefers_nil, Nat.reduceEqDiff]
  exact minus2 hw h3 hro g4 ((m4.grew.same A3 (St.at_lt m3.here)).trans m3.here) rfl m4.wf ⟨rfl, rfl⟩

theorem dClimb (hd : Dead s b) (hw : Wf s) (hro : ro ≤ s.n) (l p : Value) (x0 x1 : Int) : CallWP P ro 17 [b, l, .agg (.mk [.int .i64 x0, .int .i64 x1]), p] s K = K (.agg (.mk [.int .i64 (-1), .int .i64 (-1)])) s := by
  refine callEq (call_wp b17 rfl ?_) K
  rw [n17]
  unfold v17
  simp only [pr_wop, pr_call, pr_wcall, pr_wdefer, pr_defers, pr_loop, pr_range, pr_fin, pr_hold, xdefers_eq, xcallv_fn, wopt_some, wopt_none, wopt_map, wopt_bind, wopt_ite, wdec_true, wdec_false, wdec_bool, wop_fieldAddr, wop_field, wop_index_agg, wop_build, wop_nilCheck, wop_int, wop_not, wop_extract, int_add keq_i64, int_sub keq_i64, int_mul keq_i64, int_add keq_u64, int_sub keq_u64, int_mul keq_u64, int_eql keq_i64, int_eql keq_u64, int_eql keq_u8, int_eql keq_u32, int_neq keq_i64, int_neq keq_u64, int_neq keq_u8, int_neq keq_u32, int_lss keq_i64, int_lss keq_u64, int_lss keq_u8, int_lss keq_u32, int_leq keq_i64, int_leq keq_u64, int_leq keq_u8, int_leq keq_u32, int_gtr keq_i64, int_gtr keq_u64, int_gtr keq_u8, int_gtr keq_u32, int_geq keq_i64, int_geq keq_u64, int_geq keq_u8, int_geq keq_u32, int_rem keq_i64, int_rem keq_u64, int_rem keq_u8, int_quo keq_u64, int_quo keq_i64, n_new, lo_new, n_ent, lo_ent, at_ent, Option.bind_some, Option.map_some, decide_eq_true_eq, Bool.not_eq_true', decide_eq_false_iff_not, Bool.not_true, Bool.not_false, ne_eq, if_true, if_false, reduceCtorEq, eq_self, Nat.zero_add, Nat.add_zero, not_false_eq_true, thenW_normal, thenW_ret, thenW_exit, outs_ret, outs_exit, kOf_cons, wdefers_nil, Nat.reduceEqDiff]
  refine box_rule hw.ent fun A s1 m1 => ?_
  refine alloc_rule ty_47 m1.wf fun A2 s2 m2 => ?_
  have g2 := m1.grew.trans m2.grew
  have h2 : s.n ≤ A2 := by rw [m2.eq]; exact m1.grew.n
  rw [dKnown (hd.ent.grew g2) m2.wf]
  simp only [pr_wop, pr_call, pr_wcall, pr_wdefer, pr_defers, pr_loop, pr_range, pr_fin, pr_hold, xdefers_eq, xcallv_fn, wopt_some, wopt_none, wopt_map, wopt_bind, wopt_ite, wdec_true, wdec_false, wdec_bool, wop_fieldAddr, wop_field, wop_index_agg, wop_build, wop_nilCheck, wop_int, wop_not, wop_extract, int_add keq_i64, int_sub keq_i64, int_mul keq_i64, int_add keq_u64, int_sub keq_u64, int_mul keq_u64, int_eql keq_i64, int_eql keq_u64, int_eql keq_u8, int_eql keq_u32, int_neq keq_i64, int_neq keq_u64, int_neq keq_u8, int_neq keq_u32, int_lss keq_i64, int_lss keq_u64, int_lss keq_u8, int_lss keq_u32, int_leq keq_i64, int_leq keq_u64, int_leq keq_u8, int_leq keq_u32, int_gtr keq_i64, int_gtr keq_u64, int_gtr keq_u8, int_gtr keq_u32, int_geq keq_i64, int_geq keq_u64, int_geq keq_u8, int_geq keq_u32, int_rem keq_i64, int_rem keq_u64, int_rem keq_u8, int_quo keq_u64, int_quo keq_i64, n_new, lo_new, n_ent, lo_ent, at_ent, Option.bind_some, Option.map_some, decide_eq_true_eq, Bool.not_eq_true', decide_eq_false_iff_not, Bool.not_true, Bool.not_false, ne_eq, if_true, if_false, reduceCtorEq, eq_self, Nat.zero_add, Nat.add_zero, not_false_eq_true, thenW_normal, thenW_ret, thenW_exit, outs_ret, outs_exit, kOf_cons, wdefers_nil, Nat.reduceEqDiff]
  rw [dReady (hd.ent.grew g2)]
  simp only [pr_wop, pr_call, pr_wcall, pr_wdefer, pr_defers, pr_loop, pr_range, pr_fin, pr_hold, xdefers_eq, xcallv_fn, wopt_some, wopt_none, wopt_map, wopt_bind, wopt_ite, wdec_true, wdec_false, wdec_bool, wop_fieldAddr, wop_field, wop_index_agg, wop_build, wop_nilCheck, wop_int, wop_not, wop_extract, int_add keq_i64, int_sub keq_i64, int_mul keq_i64, int_add keq_u64, int_sub keq_u64, int_mul keq_u64, int_eql keq_i64, int_eql keq_u64, int_eql keq_u8, int_eql keq_u32, int_neq keq_i64, int_neq keq_u64, int_neq keq_u8, int_neq keq_u32, int_lss keq_i64, int_lss keq_u64, int_lss keq_u8, int_lss keq_u32, int_leq keq_i64, int_leq keq_u64, int_leq keq_u8, int_leq keq_u32, int_gtr keq_i64, int_gtr keq_u64, int_gtr keq_u8, int_gtr keq_u32, int_geq keq_i64, int_geq keq_u64, int_geq keq_u8, int_geq keq_u32, int_rem keq_i64, int_rem keq_u64, int_rem keq_u8, int_quo keq_u64, int_quo keq_i64, n_new, lo_new, n_ent, lo_ent, at_ent, Option.bind_some, Option.map_some, decide_eq_true_eq, Bool.not_eq_true', decide_eq_false_iff_not, Bool.not_true, Bool.not_false, ne_eq, if_true, if_false, reduceCtorEq, eq_self, Nat.zero_add, Nat.add_zero, not_false_eq_true, thenW_normal, thenW_ret, thenW_exit, outs_ret, outs_exit, kOf_cons, wdefers_nil, Nat.reduceEqDiff]
  exact minus2 hw h2 hro g2 m2.here rfl m2.wf ⟨rfl, rfl⟩

end
end Go.VE

/- The law's package: a step's variables. -/
namespace Go.VE
open Go Go.Proofs
set_option maxRecDepth 20000

/-- A step: its number, its variables, its numbers. -/
structure StepV (s : St) (v : Value) (d : Int) (V : List Int) (X Y Z : Int) : Prop where
  ex : ∃ w, v = .agg (.mk [.int .u8 d, w, .int .u64 X, .int .u64 Y, .int .u64 Z]) ∧ Ints s w V
  hd : 0 ≤ d ∧ d < 256
  hz : 0 ≤ Z ∧ Z < 2 ^ 64
  len : V.length ≤ 60

theorem StepV.same {s s' : St} {v : Value} {d : Int} {V : List Int} {X Y Z : Int} (h : StepV s v d V X Y Z) (hg : ∀ A, A < s.n → s'.at A = s.at A) : StepV s' v d V X Y Z := by
  obtain ⟨⟨w, h1, h2⟩, h3, h4, h5⟩ := h
  exact ⟨⟨w, h1, h2.grew hg⟩, h3, h4, h5⟩
theorem StepV.grew {s s' : St} {v : Value} {d : Int} {V : List Int} {X Y Z : Int} (h : StepV s v d V X Y Z) (hg : Grew s s') : StepV s' v d V X Y Z := h.same hg.same
theorem StepV.ent {s : St} {v : Value} {d : Int} {V : List Int} {X Y Z : Int} (h : StepV s v d V X Y Z) : StepV (Go.VE.ent s) v d V X Y Z := h.same fun _ _ => rfl

theorem StepV.veq {s : St} {v : Value} {d : Int} {V : List Int} {X Y Z : Int} (h : StepV s v d V X Y Z) : veq v v = true := by
  obtain ⟨⟨w, rfl, ⟨a, c, rfl, _⟩⟩, _, _, _⟩ := h
  simp [Go.VE.veq, veqA, veqL]

def atV (V : List Int) (i : Int) : Int := if i < V.length then V.getD i.toNat 0 else 0

def pairsL : List Int → List (Int × Int)
  | a :: b :: r => (a, b) :: pairsL r
  | _ => []

def pairCells (l : List (Int × Int)) : List Value := l.flatMap fun p => [.int .i64 p.1, .int .i64 p.2]

theorem pairCells_len (l : List (Int × Int)) : (pairCells l).length = l.length * 2 := by
  induction l with
  | nil => rfl
  | cons p r ih =>
    simp only [pairCells, List.flatMap_cons, List.length_append, List.length_cons, List.length_nil] at ih ⊢
    omega

theorem pairCells_append (a b : List (Int × Int)) : pairCells (a ++ b) = pairCells a ++ pairCells b := by simp [pairCells]

section
variable {ro : Nat} {s : St} {K : Value → St → Prop}

theorem wAt {v : Value} {d X Y Z : Int} {V : List Int} (hv : StepV s v d V X Y Z) (hw : Wf s) {i : Int} (hi : 0 ≤ i) : CallWP P ro 73 [v, .int .i64 i] s K = K (.int .i64 (atV V i)) s := by
  obtain ⟨⟨w, rfl, hV⟩, _, _, hl⟩ := hv
  refine callEq (call_wp b73 rfl ?_) K
  rw [n73]
  unfold v73
  simp only [pr_wop, pr_call, pr_wcall, pr_wdefer, pr_defers, pr_loop, pr_range, pr_fin, pr_hold, xdefers_eq, xcallv_fn, wopt_some, wopt_none, wopt_map, wopt_bind, wopt_ite, wdec_true, wdec_false, wdec_bool, wop_fieldAddr, wop_field, wop_index_agg, wop_build, wop_nilCheck, wop_int, wop_not, wop_extract, int_add keq_i64, int_sub keq_i64, int_mul keq_i64, int_add keq_u64, int_sub keq_u64, int_mul keq_u64, int_eql keq_i64, int_eql keq_u64, int_eql keq_u8, int_eql keq_u32, int_neq keq_i64, int_neq keq_u64, int_neq keq_u8, int_neq keq_u32, int_lss keq_i64, int_lss keq_u64, int_lss keq_u8, int_lss keq_u32, int_leq keq_i64, int_leq keq_u64, int_leq keq_u8, int_leq keq_u32, int_gtr keq_i64, int_gtr keq_u64, int_gtr keq_u8, int_gtr keq_u32, int_geq keq_i64, int_geq keq_u64, int_geq keq_u8, int_geq keq_u32, int_rem keq_i64, int_rem keq_u64, int_rem keq_u8, int_quo keq_u64, int_quo keq_i64, n_new, lo_new, n_ent, lo_ent, at_ent, Option.bind_some, Option.map_some, decide_eq_true_eq, Bool.not_eq_true', decide_eq_false_iff_not, Bool.not_true, Bool.not_false, ne_eq, if_true, if_false, reduceCtorEq, eq_self, Nat.zero_add, Nat.add_zero, not_false_eq_true, thenW_normal, thenW_ret, thenW_exit, outs_ret, outs_exit, kOf_cons, wdefers_nil, Nat.reduceEqDiff]
  refine box_rule hw.ent fun A s1 m1 => ?_
  have hV1 : Sl s1 w 1 V.length (V.map (.int .i64)) := hV.ent.grew m1.grew.same
  simp only [fa_79_1, pr_wop, pr_call, pr_wcall, pr_wdefer, pr_defers, pr_loop, pr_range, pr_fin, pr_hold, xdefers_eq, xcallv_fn, wopt_some, wopt_none, wopt_map, wopt_bind, wopt_ite, wdec_true, wdec_false, wdec_bool, wop_fieldAddr, wop_field, wop_index_agg, wop_build, wop_nilCheck, wop_int, wop_not, wop_extract, int_add keq_i64, int_sub keq_i64, int_mul keq_i64, int_add keq_u64, int_sub keq_u64, int_mul keq_u64, int_eql keq_i64, int_eql keq_u64, int_eql keq_u8, int_eql keq_u32, int_neq keq_i64, int_neq keq_u64, int_neq keq_u8, int_neq keq_u32, int_lss keq_i64, int_lss keq_u64, int_lss keq_u8, int_lss keq_u32, int_leq keq_i64, int_leq keq_u64, int_leq keq_u8, int_leq keq_u32, int_gtr keq_i64, int_gtr keq_u64, int_gtr keq_u8, int_gtr keq_u32, int_geq keq_i64, int_geq keq_u64, int_geq keq_u8, int_geq keq_u32, int_rem keq_i64, int_rem keq_u64, int_rem keq_u8, int_quo keq_u64, int_quo keq_i64, n_new, lo_new, n_ent, lo_ent, at_ent, Option.bind_some, Option.map_some, decide_eq_true_eq, Bool.not_eq_true', decide_eq_false_iff_not, Bool.not_true, Bool.not_false, ne_eq, if_true, if_false, reduceCtorEq, eq_self, Nat.zero_add, Nat.add_zero, not_false_eq_true, thenW_normal, thenW_ret, thenW_exit, outs_ret, outs_exit, kOf_cons, wdefers_nil, Nat.reduceEqDiff]
  refine load_rule (load_one (v := w) ap_30 m1.here rfl) ?_
  rw [hV1.wlen se_30]
  simp only [pr_wop, pr_call, pr_wcall, pr_wdefer, pr_defers, pr_loop, pr_range, pr_fin, pr_hold, xdefers_eq, xcallv_fn, wopt_some, wopt_none, wopt_map, wopt_bind, wopt_ite, wdec_true, wdec_false, wdec_bool, wop_fieldAddr, wop_field, wop_index_agg, wop_build, wop_nilCheck, wop_int, wop_not, wop_extract, int_add keq_i64, int_sub keq_i64, int_mul keq_i64, int_add keq_u64, int_sub keq_u64, int_mul keq_u64, int_eql keq_i64, int_eql keq_u64, int_eql keq_u8, int_eql keq_u32, int_neq keq_i64, int_neq keq_u64, int_neq keq_u8, int_neq keq_u32, int_lss keq_i64, int_lss keq_u64, int_lss keq_u8, int_lss keq_u32, int_leq keq_i64, int_leq keq_u64, int_leq keq_u8, int_leq keq_u32, int_gtr keq_i64, int_gtr keq_u64, int_gtr keq_u8, int_gtr keq_u32, int_geq keq_i64, int_geq keq_u64, int_geq keq_u8, int_geq keq_u32, int_rem keq_i64, int_rem keq_u64, int_rem keq_u8, int_quo keq_u64, int_quo keq_i64, n_new, lo_new, n_ent, lo_ent, at_ent, Option.bind_some, Option.map_some, decide_eq_true_eq, Bool.not_eq_true', decide_eq_false_iff_not, Bool.not_true, Bool.not_false, ne_eq, if_true, if_false, reduceCtorEq, eq_self, Nat.zero_add, Nat.add_zero, not_false_eq_true, thenW_normal, thenW_ret, thenW_exit, outs_ret, outs_exit, kOf_cons, wdefers_nil, Nat.reduceEqDiff]
  split
  · rename_i hlt
    refine load_rule (load_one (v := w) ap_30 m1.here rfl) ?_
    refine ix_rule (i := i) (u := .int .i64 (V.getD i.toNat 0)) hV1 se_30 isz_3 ap_3 hi hlt ?_ fun p hp => load_rule hp ?_
    · rw [List.getElem?_map, List.getElem?_eq_getElem (by omega)]
      simp [List.getD_eq_getElem?_getD, List.getElem?_eq_getElem (show i.toNat < V.length by omega)]
    · simp only [atV, hlt, if_true]
      exact fin_flat rfl m1.grew ⟨rfl, rfl⟩
  · rename_i hlt
    simp only [atV, hlt, if_false]
    exact fin_flat rfl m1.grew ⟨rfl, rfl⟩

theorem build2 (x y : Int) : abuild P 47 (partVals .e [(0, .const (.int .i64 x)), (1, .const (.int .i64 y))]) = some (.agg (.mk [.int .i64 x, .int .i64 y])) := by kernel_rfl
theorem build4' (x y z w : Int) : abuild P 53 (partVals .e [(0, .const (.int .i64 x)), (1, .const (.int .i64 y)), (2, .const (.int .i64 z)), (3, .const (.int .i64 w))]) = some (.agg (.mk [.int .i64 x, .int .i64 y, .int .i64 z, .int .i64 w])) := by kernel_rfl

theorem wPair {v : Value} {d X Y Z : Int} {V : List Int} (hv : StepV s v d V X Y Z) (hw : Wf s) (hro : ro ≤ s.n) {i : Int} (hi : 0 ≤ i) (hi2 : i < 2 ^ 62) : CallWP P ro 76 [v, .int .i64 i] s K = K (.agg (.mk [.int .i64 (atV V i), .int .i64 (atV V (i + 1))])) s := by
  refine callEq (call_wp b76 rfl ?_) K
  rw [n76]
  unfold v76
  simp only [pr_wop, pr_call, pr_wcall, pr_wdefer, pr_defers, pr_loop, pr_range, pr_fin, pr_hold, xdefers_eq, xcallv_fn, wopt_some, wopt_none, wopt_map, wopt_bind, wopt_ite, wdec_true, wdec_false, wdec_bool, wop_fieldAddr, wop_field, wop_index_agg, wop_build, wop_nilCheck, wop_int, wop_not, wop_extract, int_add keq_i64, int_sub keq_i64, int_mul keq_i64, int_add keq_u64, int_sub keq_u64, int_mul keq_u64, int_eql keq_i64, int_eql keq_u64, int_eql keq_u8, int_eql keq_u32, int_neq keq_i64, int_neq keq_u64, int_neq keq_u8, int_neq keq_u32, int_lss keq_i64, int_lss keq_u64, int_lss keq_u8, int_lss keq_u32, int_leq keq_i64, int_leq keq_u64, int_leq keq_u8, int_leq keq_u32, int_gtr keq_i64, int_gtr keq_u64, int_gtr keq_u8, int_gtr keq_u32, int_geq keq_i64, int_geq keq_u64, int_geq keq_u8, int_geq keq_u32, int_rem keq_i64, int_rem keq_u64, int_rem keq_u8, int_quo keq_u64, int_quo keq_i64, n_new, lo_new, n_ent, lo_ent, at_ent, Option.bind_some, Option.map_some, decide_eq_true_eq, Bool.not_eq_true', decide_eq_false_iff_not, Bool.not_true, Bool.not_false, ne_eq, if_true, if_false, reduceCtorEq, eq_self, Nat.zero_add, Nat.add_zero, not_false_eq_true, thenW_normal, thenW_ret, thenW_exit, outs_ret, outs_exit, kOf_cons, wdefers_nil, Nat.reduceEqDiff]
  refine box_rule hw.ent fun A s1 m1 => ?_
  refine alloc_rule ty_47 m1.wf fun A2 s2 m2 => ?_
  have g2 := m1.grew.trans m2.grew
  have hA : s2.at A = _ := (m2.grew.same A (St.at_lt m1.here)).trans m1.here
  have hv2 := hv.ent.grew g2
  have hl : aload P s2 79 (.pointer (some ⟨A, 0, none⟩)) = some v := by
    obtain ⟨⟨w, rfl, hV⟩, _, _, _⟩ := hv
    exact load_all ap_79 hA rfl
  refine load_rule hl ⟨hv.veq, ?_⟩
  refine load_rule hl ⟨hv.veq, ?_⟩
  rw [wrap_i64 (by omega) (by omega), wAt hv2 m2.wf hi]
  refine ⟨.refl _, ?_⟩
  rw [wAt hv2 m2.wf (by omega), build2]
  simp only [pr_wop, pr_call, pr_wcall, pr_wdefer, pr_defers, pr_loop, pr_range, pr_fin, pr_hold, xdefers_eq, xcallv_fn, wopt_some, wopt_none, wopt_map, wopt_bind, wopt_ite, wdec_true, wdec_false, wdec_bool, wop_fieldAddr, wop_field, wop_index_agg, wop_build, wop_nilCheck, wop_int, wop_not, wop_extract, int_add keq_i64, int_sub keq_i64, int_mul keq_i64, int_add keq_u64, int_sub keq_u64, int_mul keq_u64, int_eql keq_i64, int_eql keq_u64, int_eql keq_u8, int_eql keq_u32, int_neq keq_i64, int_neq keq_u64, int_neq keq_u8, int_neq keq_u32, int_lss keq_i64, int_lss keq_u64, int_lss keq_u8, int_lss keq_u32, int_leq keq_i64, int_leq keq_u64, int_leq keq_u8, int_leq keq_u32, int_gtr keq_i64, int_gtr keq_u64, int_gtr keq_u8, int_gtr keq_u32, int_geq keq_i64, int_geq keq_u64, int_geq keq_u8, int_geq keq_u32, int_rem keq_i64, int_rem keq_u64, int_rem keq_u8, int_quo keq_u64, int_quo keq_i64, n_new, lo_new, n_ent, lo_ent, at_ent, Option.bind_some, Option.map_some, decide_eq_true_eq, Bool.not_eq_true', decide_eq_false_iff_not, Bool.not_true, Bool.not_false, ne_eq, if_true, if_false, reduceCtorEq, eq_self, Nat.zero_add, Nat.add_zero, not_false_eq_true, thenW_normal, thenW_ret, thenW_exit, outs_ret, outs_exit, kOf_cons, wdefers_nil, Nat.reduceEqDiff]
  have h2 : s.n ≤ A2 := by rw [m2.eq]; exact m1.grew.n
  refine storeAll_rule isz_47 m2.here rfl (by decide) m2.wf (by omega) rfl rfl fun s3 p3 => ?_
  refine load_rule (load_all ap_47 p3.here rfl) ?_
  exact fin_flat rfl (p3.grew _ hw.ent g2 h2) ⟨rfl, rfl⟩

theorem wFour {v : Value} {d X Y Z : Int} {V : List Int} (hv : StepV s v d V X Y Z) (hw : Wf s) (hro : ro ≤ s.n) {i : Int} (hi : 0 ≤ i) (hi2 : i < 2 ^ 62) : CallWP P ro 75 [v, .int .i64 i] s K = K (.agg (.mk [.int .i64 (atV V i), .int .i64 (atV V (i + 1)), .int .i64 (atV V (i + 2)), .int .i64 (atV V (i + 3))])) s := by
  refine callEq (call_wp b75 rfl ?_) K
  rw [n75]
  unfold v75
  simp only [pr_wop, pr_call, pr_wcall, pr_wdefer, pr_defers, pr_loop, pr_range, pr_fin, pr_hold, xdefers_eq, xcallv_fn, wopt_some, wopt_none, wopt_map, wopt_bind, wopt_ite, wdec_true, wdec_false, wdec_bool, wop_fieldAddr, wop_field, wop_index_agg, wop_build, wop_nilCheck, wop_int, wop_not, wop_extract, int_add keq_i64, int_sub keq_i64, int_mul keq_i64, int_add keq_u64, int_sub keq_u64, int_mul keq_u64, int_eql keq_i64, int_eql keq_u64, int_eql keq_u8, int_eql keq_u32, int_neq keq_i64, int_neq keq_u64, int_neq keq_u8, int_neq keq_u32, int_lss keq_i64, int_lss keq_u64, int_lss keq_u8, int_lss keq_u32, int_leq keq_i64, int_leq keq_u64, int_leq keq_u8, int_leq keq_u32, int_gtr keq_i64, int_gtr keq_u64, int_gtr keq_u8, int_gtr keq_u32, int_geq keq_i64, int_geq keq_u64, int_geq keq_u8, int_geq keq_u32, int_rem keq_i64, int_rem keq_u64, int_rem keq_u8, int_quo keq_u64, int_quo keq_i64, n_new, lo_new, n_ent, lo_ent, at_ent, Option.bind_some, Option.map_some, decide_eq_true_eq, Bool.not_eq_true', decide_eq_false_iff_not, Bool.not_true, Bool.not_false, ne_eq, if_true, if_false, reduceCtorEq, eq_self, Nat.zero_add, Nat.add_zero, not_false_eq_true, thenW_normal, thenW_ret, thenW_exit, outs_ret, outs_exit, kOf_cons, wdefers_nil, Nat.reduceEqDiff]
  refine box_rule hw.ent fun A s1 m1 => ?_
  refine alloc_rule ty_53 m1.wf fun A2 s2 m2 => ?_
  have g2 := m1.grew.trans m2.grew
  have hA : s2.at A = _ := (m2.grew.same A (St.at_lt m1.here)).trans m1.here
  have hv2 := hv.ent.grew g2
  have hl : aload P s2 79 (.pointer (some ⟨A, 0, none⟩)) = some v := by
    obtain ⟨⟨w, rfl, hV⟩, _, _, _⟩ := hv
    exact load_all ap_79 hA rfl
  refine load_rule hl ⟨hv.veq, ?_⟩
  refine load_rule hl ⟨hv.veq, ?_⟩
  refine load_rule hl ⟨hv.veq, ?_⟩
  refine load_rule hl ⟨hv.veq, ?_⟩
  rw [wrap_i64 (n := i + 1) (by omega) (by omega), wrap_i64 (n := i + 2) (by omega) (by omega), wrap_i64 (n := i + 3) (by omega) (by omega), wAt hv2 m2.wf hi]
  refine ⟨.refl _, ?_⟩
  rw [wAt hv2 m2.wf (by omega)]
  refine ⟨.refl _, ?_⟩
  rw [wAt hv2 m2.wf (by omega)]
  refine ⟨.refl _, ?_⟩
  rw [wAt hv2 m2.wf (by omega), build4']
  simp only [pr_wop, pr_call, pr_wcall, pr_wdefer, pr_defers, pr_loop, pr_range, pr_fin, pr_hold, xdefers_eq, xcallv_fn, wopt_some, wopt_none, wopt_map, wopt_bind, wopt_ite, wdec_true, wdec_false, wdec_bool, wop_fieldAddr, wop_field, wop_index_agg, wop_build, wop_nilCheck, wop_int, wop_not, wop_extract, int_add keq_i64, int_sub keq_i64, int_mul keq_i64, int_add keq_u64, int_sub keq_u64, int_mul keq_u64, int_eql keq_i64, int_eql keq_u64, int_eql keq_u8, int_eql keq_u32, int_neq keq_i64, int_neq keq_u64, int_neq keq_u8, int_neq keq_u32, int_lss keq_i64, int_lss keq_u64, int_lss keq_u8, int_lss keq_u32, int_leq keq_i64, int_leq keq_u64, int_leq keq_u8, int_leq keq_u32, int_gtr keq_i64, int_gtr keq_u64, int_gtr keq_u8, int_gtr keq_u32, int_geq keq_i64, int_geq keq_u64, int_geq keq_u8, int_geq keq_u32, int_rem keq_i64, int_rem keq_u64, int_rem keq_u8, int_quo keq_u64, int_quo keq_i64, n_new, lo_new, n_ent, lo_ent, at_ent, Option.bind_some, Option.map_some, decide_eq_true_eq, Bool.not_eq_true', decide_eq_false_iff_not, Bool.not_true, Bool.not_false, ne_eq, if_true, if_false, reduceCtorEq, eq_self, Nat.zero_add, Nat.add_zero, not_false_eq_true, thenW_normal, thenW_ret, thenW_exit, outs_ret, outs_exit, kOf_cons, wdefers_nil, Nat.reduceEqDiff]
  have h2 : s.n ≤ A2 := by rw [m2.eq]; exact m1.grew.n
  refine storeAll_rule isz_53 m2.here rfl (by decide) m2.wf (by omega) rfl rfl fun s3 p3 => ?_
  refine load_rule (load_all ap_53 p3.here rfl) ?_
  exact fin_flat rfl (p3.grew _ hw.ent g2 h2) ⟨rfl, rfl⟩

theorem conv_u64_int (a : Int) (ty : TypeId) (s : St) (K : Value → St → Prop) : wop P ro (.convert 24 3 (.const (.int .u64 a))) ty s K = K (.int .i64 (IntKind.i64.wrap a)) s := by kernel_rfl
theorem min_int (a b : Int) (ty : TypeId) (s : St) (K : Value → St → Prop) : wop P ro (.call ⟨.builtin .min, ⟨[.const (.int .i64 a), .const (.int .i64 b)]⟩, #[3, 3]⟩) ty s K = K (.int .i64 (if b < a then b else a)) s := by kernel_rfl
theorem slice_nil (ty : TypeId) (s : St) (K : Value → St → Prop) : wop P ro (.slice 30 (.const (.slice none 0 0)) none (some (.const (.int .i64 0))) none) ty s K = K (.slice none 0 0) s := by kernel_rfl

/-- The first variables, at most as many as Z modulo 5 says. -/
theorem wBits {v : Value} {d X Y Z : Int} {V : List Int} (hv : StepV s v d V X Y Z) (hw : Wf s) (h : ∀ w s', Grew s s' → Ints s' w (V.take (Z % 5).toNat) → K w s') : CallWP P ro 77 [v] s K := by
  obtain ⟨⟨w, rfl, hV⟩, _, hz, hl⟩ := hv
  refine call_wp b77 rfl ?_
  rw [n77]
  unfold v77
  simp only [pr_wop, pr_call, pr_wcall, pr_wdefer, pr_defers, pr_loop, pr_range, pr_fin, pr_hold, xdefers_eq, xcallv_fn, wopt_some, wopt_none, wopt_map, wopt_bind, wopt_ite, wdec_true, wdec_false, wdec_bool, wop_fieldAddr, wop_field, wop_index_agg, wop_build, wop_nilCheck, wop_int, wop_not, wop_extract, int_add keq_i64, int_sub keq_i64, int_mul keq_i64, int_add keq_u64, int_sub keq_u64, int_mul keq_u64, int_eql keq_i64, int_eql keq_u64, int_eql keq_u8, int_eql keq_u32, int_neq keq_i64, int_neq keq_u64, int_neq keq_u8, int_neq keq_u32, int_lss keq_i64, int_lss keq_u64, int_lss keq_u8, int_lss keq_u32, int_leq keq_i64, int_leq keq_u64, int_leq keq_u8, int_leq keq_u32, int_gtr keq_i64, int_gtr keq_u64, int_gtr keq_u8, int_gtr keq_u32, int_geq keq_i64, int_geq keq_u64, int_geq keq_u8, int_geq keq_u32, int_rem keq_i64, int_rem keq_u64, int_rem keq_u8, int_quo keq_u64, int_quo keq_i64, n_new, lo_new, n_ent, lo_ent, at_ent, Option.bind_some, Option.map_some, decide_eq_true_eq, Bool.not_eq_true', decide_eq_false_iff_not, Bool.not_true, Bool.not_false, ne_eq, if_true, if_false, reduceCtorEq, eq_self, Nat.zero_add, Nat.add_zero, not_false_eq_true, thenW_normal, thenW_ret, thenW_exit, outs_ret, outs_exit, kOf_cons, wdefers_nil, Nat.reduceEqDiff]
  refine box_rule hw.ent fun A s1 m1 => ?_
  have hV1 : Sl s1 w 1 V.length (V.map (.int .i64)) := hV.ent.grew m1.grew.same
  simp only [fa_79_1, fa_79_4, pr_wop, pr_call, pr_wcall, pr_wdefer, pr_defers, pr_loop, pr_range, pr_fin, pr_hold, xdefers_eq, xcallv_fn, wopt_some, wopt_none, wopt_map, wopt_bind, wopt_ite, wdec_true, wdec_false, wdec_bool, wop_fieldAddr, wop_field, wop_index_agg, wop_build, wop_nilCheck, wop_int, wop_not, wop_extract, int_add keq_i64, int_sub keq_i64, int_mul keq_i64, int_add keq_u64, int_sub keq_u64, int_mul keq_u64, int_eql keq_i64, int_eql keq_u64, int_eql keq_u8, int_eql keq_u32, int_neq keq_i64, int_neq keq_u64, int_neq keq_u8, int_neq keq_u32, int_lss keq_i64, int_lss keq_u64, int_lss keq_u8, int_lss keq_u32, int_leq keq_i64, int_leq keq_u64, int_leq keq_u8, int_leq keq_u32, int_gtr keq_i64, int_gtr keq_u64, int_gtr keq_u8, int_gtr keq_u32, int_geq keq_i64, int_geq keq_u64, int_geq keq_u8, int_geq keq_u32, int_rem keq_i64, int_rem keq_u64, int_rem keq_u8, int_quo keq_u64, int_quo keq_i64, n_new, lo_new, n_ent, lo_ent, at_ent, Option.bind_some, Option.map_some, decide_eq_true_eq, Bool.not_eq_true', decide_eq_false_iff_not, Bool.not_true, Bool.not_false, ne_eq, if_true, if_false, reduceCtorEq, eq_self, Nat.zero_add, Nat.add_zero, not_false_eq_true, thenW_normal, thenW_ret, thenW_exit, outs_ret, outs_exit, kOf_cons, wdefers_nil, Nat.reduceEqDiff]
  refine load_rule (load_one (v := w) ap_30 m1.here rfl) ?_
  refine load_rule (load_one (v := w) ap_30 m1.here rfl) ?_
  rw [hV1.wlen se_30]
  refine load_rule (load_one (v := .int .u64 Z) ap_24 m1.here rfl) ?_
  simp only [pr_wop, pr_call, pr_wcall, pr_wdefer, pr_defers, pr_loop, pr_range, pr_fin, pr_hold, xdefers_eq, xcallv_fn, wopt_some, wopt_none, wopt_map, wopt_bind, wopt_ite, wdec_true, wdec_false, wdec_bool, wop_fieldAddr, wop_field, wop_index_agg, wop_build, wop_nilCheck, wop_int, wop_not, wop_extract, int_add keq_i64, int_sub keq_i64, int_mul keq_i64, int_add keq_u64, int_sub keq_u64, int_mul keq_u64, int_eql keq_i64, int_eql keq_u64, int_eql keq_u8, int_eql keq_u32, int_neq keq_i64, int_neq keq_u64, int_neq keq_u8, int_neq keq_u32, int_lss keq_i64, int_lss keq_u64, int_lss keq_u8, int_lss keq_u32, int_leq keq_i64, int_leq keq_u64, int_leq keq_u8, int_leq keq_u32, int_gtr keq_i64, int_gtr keq_u64, int_gtr keq_u8, int_gtr keq_u32, int_geq keq_i64, int_geq keq_u64, int_geq keq_u8, int_geq keq_u32, int_rem keq_i64, int_rem keq_u64, int_rem keq_u8, int_quo keq_u64, int_quo keq_i64, n_new, lo_new, n_ent, lo_ent, at_ent, Option.bind_some, Option.map_some, decide_eq_true_eq, Bool.not_eq_true', decide_eq_false_iff_not, Bool.not_true, Bool.not_false, ne_eq, if_true, if_false, reduceCtorEq, eq_self, Nat.zero_add, Nat.add_zero, not_false_eq_true, thenW_normal, thenW_ret, thenW_exit, outs_ret, outs_exit, kOf_cons, wdefers_nil, Nat.reduceEqDiff, int_rem keq_u64 _ _ (show (5 : Int) ≠ 0 by decide), tmod_nonneg hz.1]
  rw [conv_u64_int, wrap_i64 (by omega) (by omega), min_int]
  have hm : (if Z % 5 < (V.length : Int) then Z % 5 else (V.length : Int)) = ((min (Z % 5).toNat V.length : Nat) : Int) := by split <;> omega
  rw [hm]
  obtain ⟨u, hu, hr⟩ := hV1.front (k := min (Z % 5).toNat V.length) (Nat.min_le_right _ _)
  have hI : ∀ s', (∀ A, A < s1.n → s'.at A = s1.at A) → Ints s' u (V.take (Z % 5).toNat) := fun s' hs => by
    have := hu.grew hs
    unfold Ints
    rw [List.length_take, List.map_take]
    rw [Nat.mul_one] at this
    have e : (V.map (Value.int .i64)).take (min (Z % 5).toNat V.length) = (V.map (Value.int .i64)).take (Z % 5).toNat := by
      rw [List.take_eq_take_iff]; simp
    rw [e] at this
    exact this
  rcases hr se_30 isz_3 with ⟨rfl, rfl⟩ | ⟨a, n, c, rfl, e⟩
  · have h0 : V.length = 0 := by
      obtain ⟨a, c, he, _⟩ := hV1
      simp only [Value.slice.injEq] at he
      exact he.2.1.symm
    rw [h0, Nat.min_zero]
    show wop P ro (.slice 30 (.const (.slice none 0 0)) none (some (.const (.int .i64 0))) none) _ _ _
    rw [slice_nil]
    refine wfin_any hw m1.grew fun s' hg => h _ s' hg ?_
    have hV0 : V = [] := List.length_eq_zero_iff.1 h0
    subst hV0
    simpa [Ints] using Sl.nil s' 1
  · rw [wop_slice, Option.map_none, Option.map_some, aval, e]
    simp only [wopt_some]
    have hd : flat' u = false ∨ flat' u = true := by cases flat' u <;> simp
    rcases hd with hd | hd
    · exact wfin_new hw m1.grew hd fun s' hg _ hs => h _ s' hg (hI s' fun A hA => hs A)
    · refine fin_flat hd m1.grew (h _ s (.refl s) ?_)
      obtain ⟨a', c', rfl, hl', hx', hb'⟩ := hI s1 fun _ _ => rfl
      have : a' = none := by
        cases a' with
        | none => rfl
        | some _ => cases hd
      subst this
      refine ⟨none, c', rfl, hl', hx', fun hn => ?_⟩
      obtain ⟨A', o', m', _, _, _, he, _⟩ := hb' hn
      cases he

/-- The pairs of variables from a place on. -/
theorem wPairs {v : Value} {d X Y Z : Int} {V : List Int} (hv : StepV s v d V X Y Z) (hw : Wf s) (hro : ro ≤ s.n) {i : Nat} (hi : i < 2 ^ 61) (h : ∀ w s', Grew s s' → Sl s' w 2 (pairsL (V.drop i)).length (pairCells (pairsL (V.drop i))) → K w s') : CallWP P ro 78 [v, .int .i64 i] s K := by
  refine call_wp b78 rfl ?_
  rw [n78]
  unfold v78
  simp only [pr_wop, pr_call, pr_wcall, pr_wdefer, pr_defers, pr_loop, pr_range, pr_fin, pr_hold, xdefers_eq, xcallv_fn, wopt_some, wopt_none, wopt_map, wopt_bind, wopt_ite, wdec_true, wdec_false, wdec_bool, wop_fieldAddr, wop_field, wop_index_agg, wop_build, wop_nilCheck, wop_int, wop_not, wop_extract, int_add keq_i64, int_sub keq_i64, int_mul keq_i64, int_add keq_u64, int_sub keq_u64, int_mul keq_u64, int_eql keq_i64, int_eql keq_u64, int_eql keq_u8, int_eql keq_u32, int_neq keq_i64, int_neq keq_u64, int_neq keq_u8, int_neq keq_u32, int_lss keq_i64, int_lss keq_u64, int_lss keq_u8, int_lss keq_u32, int_leq keq_i64, int_leq keq_u64, int_leq keq_u8, int_leq keq_u32, int_gtr keq_i64, int_gtr keq_u64, int_gtr keq_u8, int_gtr keq_u32, int_geq keq_i64, int_geq keq_u64, int_geq keq_u8, int_geq keq_u32, int_rem keq_i64, int_rem keq_u64, int_rem keq_u8, int_quo keq_u64, int_quo keq_i64, n_new, lo_new, n_ent, lo_ent, at_ent, Option.bind_some, Option.map_some, decide_eq_true_eq, Bool.not_eq_true', decide_eq_false_iff_not, Bool.not_true, Bool.not_false, ne_eq, if_true, if_false, reduceCtorEq, eq_self, Nat.zero_add, Nat.add_zero, not_false_eq_true, thenW_normal, thenW_ret, thenW_exit, outs_ret, outs_exit, kOf_cons, wdefers_nil, Nat.reduceEqDiff]
  refine box_rule hw.ent fun A s1 m1 => ?_
  obtain ⟨⟨u, rfl, hV⟩, hd0, hz0, hl0⟩ := id hv
  refine wloop l78_11000 m78_11000 (fun (j : Nat) τ ds s' => ∃ w oA acc, τ 1 = .int .i64 j ∧ τ 2 = .pointer (some ⟨A, 0, none⟩) ∧ τ 5 = w ∧ ds = [] ∧ Wf s' ∧ Grew (ent s) s' ∧ s'.at A = s1.at A ∧
      Own s' w 47 2 acc.length (pairCells acc) oA ∧ (∀ B, oA = some B → s.n ≤ B ∧ B ≠ A) ∧ pairsL (V.drop i) = acc ++ pairsL (V.drop j) ∧ j < 2 ^ 61 + 2 ∧ acc.length ≤ j) (fun j => V.length - j) ?_ i ?_
  · rintro j τ ds s' ⟨w, oA, acc, h1, h2, h5, rfl, hw', hg', hA', hO, hB, hacc, hj, hjl⟩
    rw [n78_11000]
    unfold v78_11000
    simp only [pr_wop, pr_call, pr_wcall, pr_wdefer, pr_defers, pr_loop, pr_range, pr_fin, pr_hold, xdefers_eq, xcallv_fn, wopt_some, wopt_none, wopt_map, wopt_bind, wopt_ite, wdec_true, wdec_false, wdec_bool, wop_fieldAddr, wop_field, wop_index_agg, wop_build, wop_nilCheck, wop_int, wop_not, wop_extract, int_add keq_i64, int_sub keq_i64, int_mul keq_i64, int_add keq_u64, int_sub keq_u64, int_mul keq_u64, int_eql keq_i64, int_eql keq_u64, int_eql keq_u8, int_eql keq_u32, int_neq keq_i64, int_neq keq_u64, int_neq keq_u8, int_neq keq_u32, int_lss keq_i64, int_lss keq_u64, int_lss keq_u8, int_lss keq_u32, int_leq keq_i64, int_leq keq_u64, int_leq keq_u8, int_leq keq_u32, int_gtr keq_i64, int_gtr keq_u64, int_gtr keq_u8, int_gtr keq_u32, int_geq keq_i64, int_geq keq_u64, int_geq keq_u8, int_geq keq_u32, int_rem keq_i64, int_rem keq_u64, int_rem keq_u8, int_quo keq_u64, int_quo keq_i64, n_new, lo_new, n_ent, lo_ent, at_ent, Option.bind_some, Option.map_some, decide_eq_true_eq, Bool.not_eq_true', decide_eq_false_iff_not, Bool.not_true, Bool.not_false, ne_eq, if_true, if_false, reduceCtorEq, eq_self, Nat.zero_add, Nat.add_zero, not_false_eq_true, thenW_normal, thenW_ret, thenW_exit, outs_ret, outs_exit, kOf_cons, wdefers_nil, Nat.reduceEqDiff, h1, h2, h5, fa_79_1]
    have hA2 := hA'.trans m1.here
    refine load_rule (load_one (v := u) ap_30 hA2 rfl) ?_
    have hV1 : Sl s' u 1 V.length (V.map (.int .i64)) := hV.ent.grew hg'.same
    rw [wrap_i64 (n := (j : Int) + 1) (by omega) (by omega), hV1.wlen se_30]
    simp only [pr_wop, pr_call, pr_wcall, pr_wdefer, pr_defers, pr_loop, pr_range, pr_fin, pr_hold, xdefers_eq, xcallv_fn, wopt_some, wopt_none, wopt_map, wopt_bind, wopt_ite, wdec_true, wdec_false, wdec_bool, wop_fieldAddr, wop_field, wop_index_agg, wop_build, wop_nilCheck, wop_int, wop_not, wop_extract, int_add keq_i64, int_sub keq_i64, int_mul keq_i64, int_add keq_u64, int_sub keq_u64, int_mul keq_u64, int_eql keq_i64, int_eql keq_u64, int_eql keq_u8, int_eql keq_u32, int_neq keq_i64, int_neq keq_u64, int_neq keq_u8, int_neq keq_u32, int_lss keq_i64, int_lss keq_u64, int_lss keq_u8, int_lss keq_u32, int_leq keq_i64, int_leq keq_u64, int_leq keq_u8, int_leq keq_u32, int_gtr keq_i64, int_gtr keq_u64, int_gtr keq_u8, int_gtr keq_u32, int_geq keq_i64, int_geq keq_u64, int_geq keq_u8, int_geq keq_u32, int_rem keq_i64, int_rem keq_u64, int_rem keq_u8, int_quo keq_u64, int_quo keq_i64, n_new, lo_new, n_ent, lo_ent, at_ent, Option.bind_some, Option.map_some, decide_eq_true_eq, Bool.not_eq_true', decide_eq_false_iff_not, Bool.not_true, Bool.not_false, ne_eq, if_true, if_false, reduceCtorEq, eq_self, Nat.zero_add, Nat.add_zero, not_false_eq_true, thenW_normal, thenW_ret, thenW_exit, outs_ret, outs_exit, kOf_cons, wdefers_nil, Nat.reduceEqDiff]
    split
    · rename_i hlt
      have hlt : j + 1 < V.length := by omega
      refine load_rule (load_all (l := [.int .u8 d, u, .int .u64 X, .int .u64 Y, .int .u64 Z]) ap_79 hA2 rfl) ?_
      have hro' : ro ≤ s'.n := Nat.le_trans hro hg'.n
      rw [wPair (hv.ent.grew hg') hw' hro' (by omega) (by omega)]
      refine buildSlice_rule se_46 ty_47 hw' [.agg (.mk [.int .i64 (atV V j), .int .i64 (atV V (j + 1))])] rfl rfl (by decide) (by simp [Value.cells]) fun A3 s3 m3 => ?_
      have hO3 := hO.grew m3.grew
      have g3 := hg'.trans m3.grew
      refine append_rule (m := 1) se_46 (by kernel_rfl) ty_47 (by decide) (by decide) hO3 (m3.sl rfl) (by decide) m3.wf (fun B e => Nat.le_trans hro (hB B e).1) (by omega) rfl fun w4 s4 hO4 a4 => ?_
      have hd2 : V.drop j = atV V j :: atV V (j + 1) :: V.drop (j + 2) := by
        rw [List.drop_eq_getElem_cons (show j < V.length by omega), List.drop_eq_getElem_cons (show j + 1 < V.length by omega)]
        have e1 : atV V j = V[j] := by
          simp only [atV]
          rw [if_pos (by omega)]
          simp [List.getD_eq_getElem?_getD, List.getElem?_eq_getElem (show j < V.length by omega)]
        have e2 : atV V (j + 1) = V[j + 1] := by
          simp only [atV]
          rw [if_pos (by omega), show ((j : Int) + 1).toNat = j + 1 by omega]
          simp [List.getD_eq_getElem?_getD, List.getElem?_eq_getElem (show j + 1 < V.length by omega)]
        rw [e1, e2]
      have hAlt : A < s'.n := St.at_lt hA2
      refine ⟨j + 2, by omega, w4, some s3.n, acc ++ [(atV V j, atV V (j + 1))], ?_, h2, rfl, trivial, a4.wf, a4.grew _ hw.ent g3 (fun B e => (hB B e).1), ?_, ?_, ?_, ?_, by omega, by simp; omega⟩
      · show Value.int .i64 (IntKind.i64.wrap ((j : Int) + 2)) = _
        rw [wrap_i64 (by omega) (by omega)]
        rfl
      · rw [a4.rest A (by rw [m3.n]; omega) (fun e => (hB A e).2 rfl), m3.grew.same A hAlt, hA']
      · have : pairCells (acc ++ [(atV V j, atV V (j + 1))]) = pairCells acc ++ [.int .i64 (atV V j), .int .i64 (atV V (j + 1))] := by rw [pairCells_append]; rfl
        rw [this, List.length_append]
        exact hO4
      · rintro B e
        cases e
        exact ⟨g3.n, by rw [m3.n]; omega⟩
      · rw [hacc, hd2, pairsL, List.append_assoc]
        rfl
    · rename_i hge
      have hnil : pairsL (V.drop j) = [] := by
        have : (V.drop j).length ≤ 1 := by rw [List.length_drop]; omega
        match hq : V.drop j, this with
        | [], _ => rfl
        | [a], _ => rfl
        | a :: b :: r, hle => simp at hle
      rw [hnil, List.append_nil] at hacc
      show wfin s K (τ 5) s'
      rw [h5]
      refine wfin_sl hw hg' hO.sl fun s2 hg2 hs2 => h w s2 hg2 ?_
      rw [hacc]
      exact hs2
  · exact ⟨.slice none 0 0, none, [], rfl, rfl, rfl, rfl, m1.wf, m1.grew, rfl, ⟨rfl, rfl, rfl⟩, fun B e => (by cases e), rfl, by omega, Nat.zero_le _⟩

end
end Go.VE

/- A step on a nil or zero builder. -/
namespace Go.VE
open Go Go.Proofs
set_option maxRecDepth 20000

section
variable {ro : Nat} {s : St} {b : Value} {K : Value → St → Prop}

theorem dGates (hd : Dead s b) (hw : Wf s) (hro : ro ≤ s.n) (h : ∀ v, (∃ l, v = .agg (.mk l) ∧ l.length = 5 ∧ l.all (·.oneCell') = true) → K (.tuple (.mk [v, .int .i64 10])) s) : CallWP P ro 12 [b] s K := by
  refine call_wp b12 rfl ?_
  rw [n12]
  unfold v12
  simp only [pr_wop, pr_call, pr_wcall, pr_wdefer, pr_defers, pr_loop, pr_range, pr_fin, pr_hold, xdefers_eq, xcallv_fn, wopt_some, wopt_none, wopt_map, wopt_bind, wopt_ite, wdec_true, wdec_false, wdec_bool, wop_fieldAddr, wop_field, wop_index_agg, wop_build, wop_nilCheck, wop_int, wop_not, wop_extract, int_add keq_i64, int_sub keq_i64, int_mul keq_i64, int_add keq_u64, int_sub keq_u64, int_mul keq_u64, int_eql keq_i64, int_eql keq_u64, int_eql keq_u8, int_eql keq_u32, int_neq keq_i64, int_neq keq_u64, int_neq keq_u8, int_neq keq_u32, int_lss keq_i64, int_lss keq_u64, int_lss keq_u8, int_lss keq_u32, int_leq keq_i64, int_leq keq_u64, int_leq keq_u8, int_leq keq_u32, int_gtr keq_i64, int_gtr keq_u64, int_gtr keq_u8, int_gtr keq_u32, int_geq keq_i64, int_geq keq_u64, int_geq keq_u8, int_geq keq_u32, int_rem keq_i64, int_rem keq_u64, int_rem keq_u8, int_quo keq_u64, int_quo keq_i64, n_new, lo_new, n_ent, lo_ent, at_ent, Option.bind_some, Option.map_some, decide_eq_true_eq, Bool.not_eq_true', decide_eq_false_iff_not, Bool.not_true, Bool.not_false, ne_eq, if_true, if_false, reduceCtorEq, eq_self, Nat.zero_add, Nat.add_zero, not_false_eq_true, thenW_normal, thenW_ret, thenW_exit, outs_ret, outs_exit, kOf_cons, wdefers_nil, Nat.reduceEqDiff]
  refine alloc_rule ty_34 hw.ent fun A s1 m1 => ?_
  rw [dErr (hd.ent.grew m1.grew)]
  simp only [pr_wop, pr_call, pr_wcall, pr_wdefer, pr_defers, pr_loop, pr_range, pr_fin, pr_hold, xdefers_eq, xcallv_fn, wopt_some, wopt_none, wopt_map, wopt_bind, wopt_ite, wdec_true, wdec_false, wdec_bool, wop_fieldAddr, wop_field, wop_index_agg, wop_build, wop_nilCheck, wop_int, wop_not, wop_extract, int_add keq_i64, int_sub keq_i64, int_mul keq_i64, int_add keq_u64, int_sub keq_u64, int_mul keq_u64, int_eql keq_i64, int_eql keq_u64, int_eql keq_u8, int_eql keq_u32, int_neq keq_i64, int_neq keq_u64, int_neq keq_u8, int_neq keq_u32, int_lss keq_i64, int_lss keq_u64, int_lss keq_u8, int_lss keq_u32, int_leq keq_i64, int_leq keq_u64, int_leq keq_u8, int_leq keq_u32, int_gtr keq_i64, int_gtr keq_u64, int_gtr keq_u8, int_gtr keq_u32, int_geq keq_i64, int_geq keq_u64, int_geq keq_u8, int_geq keq_u32, int_rem keq_i64, int_rem keq_u64, int_rem keq_u8, int_quo keq_u64, int_quo keq_i64, n_new, lo_new, n_ent, lo_ent, at_ent, Option.bind_some, Option.map_some, decide_eq_true_eq, Bool.not_eq_true', decide_eq_false_iff_not, Bool.not_true, Bool.not_false, ne_eq, if_true, if_false, reduceCtorEq, eq_self, Nat.zero_add, Nat.add_zero, not_false_eq_true, thenW_normal, thenW_ret, thenW_exit, outs_ret, outs_exit, kOf_cons, wdefers_nil, Nat.reduceEqDiff, show ¬ (10 : Int) = 0 by decide]
  rw [show abuild P 34 (partVals .e []) = some (.agg (.mk [.int .i64 0, .int .i64 0, .int .i64 0, .int .i64 0, .slice none 0 0])) by kernel_rfl]
  simp only [pr_wop, pr_call, pr_wcall, pr_wdefer, pr_defers, pr_loop, pr_range, pr_fin, pr_hold, xdefers_eq, xcallv_fn, wopt_some, wopt_none, wopt_map, wopt_bind, wopt_ite, wdec_true, wdec_false, wdec_bool, wop_fieldAddr, wop_field, wop_index_agg, wop_build, wop_nilCheck, wop_int, wop_not, wop_extract, int_add keq_i64, int_sub keq_i64, int_mul keq_i64, int_add keq_u64, int_sub keq_u64, int_mul keq_u64, int_eql keq_i64, int_eql keq_u64, int_eql keq_u8, int_eql keq_u32, int_neq keq_i64, int_neq keq_u64, int_neq keq_u8, int_neq keq_u32, int_lss keq_i64, int_lss keq_u64, int_lss keq_u8, int_lss keq_u32, int_leq keq_i64, int_leq keq_u64, int_leq keq_u8, int_leq keq_u32, int_gtr keq_i64, int_gtr keq_u64, int_gtr keq_u8, int_gtr keq_u32, int_geq keq_i64, int_geq keq_u64, int_geq keq_u8, int_geq keq_u32, int_rem keq_i64, int_rem keq_u64, int_rem keq_u8, int_quo keq_u64, int_quo keq_i64, n_new, lo_new, n_ent, lo_ent, at_ent, Option.bind_some, Option.map_some, decide_eq_true_eq, Bool.not_eq_true', decide_eq_false_iff_not, Bool.not_true, Bool.not_false, ne_eq, if_true, if_false, reduceCtorEq, eq_self, Nat.zero_add, Nat.add_zero, not_false_eq_true, thenW_normal, thenW_ret, thenW_exit, outs_ret, outs_exit, kOf_cons, wdefers_nil, Nat.reduceEqDiff]
  have hA : s.n ≤ A := by rw [m1.eq]; exact Nat.le_refl _
  refine storeAll_rule isz_34 m1.here rfl (by decide) m1.wf (by omega) rfl rfl fun s2 p2 => ?_
  refine load_rule (load_all ap_34 p2.here rfl) ?_
  exact fin_flat rfl (p2.grew _ hw.ent m1.grew hA) (h _ ⟨_, rfl, rfl, rfl⟩)

theorem dPick (hd : Dead s b) (hw : Wf s) (hro : ro ≤ s.n) {l : List Int} {u p : Value} {n : Nat} {cs : List Value} (hu : Ints s u l) (hp : Sl s p 2 n cs) : CallWP P ro 32 [b, u, p] s K = K (.agg (.mk [.int .i64 (-1), .int .i64 (-1)])) s := by
  refine callEq (call_wp b32 rfl ?_) K
  rw [n32]
  unfold v32
  simp only [pr_wop, pr_call, pr_wcall, pr_wdefer, pr_defers, pr_loop, pr_range, pr_fin, pr_hold, xdefers_eq, xcallv_fn, wopt_some, wopt_none, wopt_map, wopt_bind, wopt_ite, wdec_true, wdec_false, wdec_bool, wop_fieldAddr, wop_field, wop_index_agg, wop_build, wop_nilCheck, wop_int, wop_not, wop_extract, int_add keq_i64, int_sub keq_i64, int_mul keq_i64, int_add keq_u64, int_sub keq_u64, int_mul keq_u64, int_eql keq_i64, int_eql keq_u64, int_eql keq_u8, int_eql keq_u32, int_neq keq_i64, int_neq keq_u64, int_neq keq_u8, int_neq keq_u32, int_lss keq_i64, int_lss keq_u64, int_lss keq_u8, int_lss keq_u32, int_leq keq_i64, int_leq keq_u64, int_leq keq_u8, int_leq keq_u32, int_gtr keq_i64, int_gtr keq_u64, int_gtr keq_u8, int_gtr keq_u32, int_geq keq_i64, int_geq keq_u64, int_geq keq_u8, int_geq keq_u32, int_rem keq_i64, int_rem keq_u64, int_rem keq_u8, int_quo keq_u64, int_quo keq_i64, n_new, lo_new, n_ent, lo_ent, at_ent, Option.bind_some, Option.map_some, decide_eq_true_eq, Bool.not_eq_true', decide_eq_false_iff_not, Bool.not_true, Bool.not_false, ne_eq, if_true, if_false, reduceCtorEq, eq_self, Nat.zero_add, Nat.add_zero, not_false_eq_true, thenW_normal, thenW_ret, thenW_exit, outs_ret, outs_exit, kOf_cons, wdefers_nil, Nat.reduceEqDiff]
  refine box_rule hw.ent fun A s1 m1 => ?_
  rw [hd.one.2.2] at m1
  refine alloc_rule ty_47 m1.wf fun A2 s2 m2 => ?_
  have g2 := m1.grew.trans m2.grew
  have h2 : s.n ≤ A2 := by rw [m2.eq]; exact m1.grew.n
  have hA : s2.at A = _ := (m2.grew.same A (St.at_lt m1.here)).trans m1.here
  have hb : aload P s2 25 (.pointer (some ⟨A, 0, none⟩)) = some b := load_one ap_25 hA rfl
  have hd2 := hd.ent.grew g2
  refine load_rule hb ⟨hd.one.2.1, ?_⟩
  rw [Sl.wlen hu se_30]
  simp only [pr_wop, pr_call, pr_wcall, pr_wdefer, pr_defers, pr_loop, pr_range, pr_fin, pr_hold, xdefers_eq, xcallv_fn, wopt_some, wopt_none, wopt_map, wopt_bind, wopt_ite, wdec_true, wdec_false, wdec_bool, wop_fieldAddr, wop_field, wop_index_agg, wop_build, wop_nilCheck, wop_int, wop_not, wop_extract, int_add keq_i64, int_sub keq_i64, int_mul keq_i64, int_add keq_u64, int_sub keq_u64, int_mul keq_u64, int_eql keq_i64, int_eql keq_u64, int_eql keq_u8, int_eql keq_u32, int_neq keq_i64, int_neq keq_u64, int_neq keq_u8, int_neq keq_u32, int_lss keq_i64, int_lss keq_u64, int_lss keq_u8, int_lss keq_u32, int_leq keq_i64, int_leq keq_u64, int_leq keq_u8, int_leq keq_u32, int_gtr keq_i64, int_gtr keq_u64, int_gtr keq_u8, int_gtr keq_u32, int_geq keq_i64, int_geq keq_u64, int_geq keq_u8, int_geq keq_u32, int_rem keq_i64, int_rem keq_u64, int_rem keq_u8, int_quo keq_u64, int_quo keq_i64, n_new, lo_new, n_ent, lo_ent, at_ent, Option.bind_some, Option.map_some, decide_eq_true_eq, Bool.not_eq_true', decide_eq_false_iff_not, Bool.not_true, Bool.not_false, ne_eq, if_true, if_false, reduceCtorEq, eq_self, Nat.zero_add, Nat.add_zero, not_false_eq_true, thenW_normal, thenW_ret, thenW_exit, outs_ret, outs_exit, kOf_cons, wdefers_nil, Nat.reduceEqDiff, Sl.wlen hu se_30, Sl.wlen hp se_46, min_int]
  have fin : wopt (abuild P 47 (partVals .e [(0, .const (.int .i64 (-1))), (1, .const (.int .i64 (-1)))])) (fun v => wop P ro (.store 47 (.const (.pointer (some ⟨A2, 0, none⟩))) (.const v)) 0 s2 fun _ s3 =>
      wop P ro (.load 47 (.const (.pointer (some ⟨A2, 0, none⟩)))) 47 s3 fun v _ => wfin s (fun v s' => v = .agg (.mk [.int .i64 (-1), .int .i64 (-1)]) ∧ s' = s) v s3) := minus2 hw h2 hro g2 m2.here rfl m2.wf ⟨rfl, rfl⟩
  generalize hm : (if (8 : Int) < (l.length : Int) then (8 : Int) else (l.length : Int)) = m
  have hm0 : ¬ m < 0 := by rw [← hm]; split <;> omega
  split
  · rw [int_shl _ _ _ _ hm0]
    simp only [pr_wop, pr_call, pr_wcall, pr_wdefer, pr_defers, pr_loop, pr_range, pr_fin, pr_hold, xdefers_eq, xcallv_fn, wopt_some, wopt_none, wopt_map, wopt_bind, wopt_ite, wdec_true, wdec_false, wdec_bool, wop_fieldAddr, wop_field, wop_index_agg, wop_build, wop_nilCheck, wop_int, wop_not, wop_extract, int_add keq_i64, int_sub keq_i64, int_mul keq_i64, int_add keq_u64, int_sub keq_u64, int_mul keq_u64, int_eql keq_i64, int_eql keq_u64, int_eql keq_u8, int_eql keq_u32, int_neq keq_i64, int_neq keq_u64, int_neq keq_u8, int_neq keq_u32, int_lss keq_i64, int_lss keq_u64, int_lss keq_u8, int_lss keq_u32, int_leq keq_i64, int_leq keq_u64, int_leq keq_u8, int_leq keq_u32, int_gtr keq_i64, int_gtr keq_u64, int_gtr keq_u8, int_gtr keq_u32, int_geq keq_i64, int_geq keq_u64, int_geq keq_u8, int_geq keq_u32, int_rem keq_i64, int_rem keq_u64, int_rem keq_u8, int_quo keq_u64, int_quo keq_i64, n_new, lo_new, n_ent, lo_ent, at_ent, Option.bind_some, Option.map_some, decide_eq_true_eq, Bool.not_eq_true', decide_eq_false_iff_not, Bool.not_true, Bool.not_false, ne_eq, if_true, if_false, reduceCtorEq, eq_self, Nat.zero_add, Nat.add_zero, not_false_eq_true, thenW_normal, thenW_ret, thenW_exit, outs_ret, outs_exit, kOf_cons, wdefers_nil, Nat.reduceEqDiff]
    split
    · refine load_rule hb ⟨hd.one.2.1, ?_⟩
      rw [dKnown hd2 m2.wf]
      refine ⟨.refl _, ?_⟩
      simp only [pr_wop, pr_call, pr_wcall, pr_wdefer, pr_defers, pr_loop, pr_range, pr_fin, pr_hold, xdefers_eq, xcallv_fn, wopt_some, wopt_none, wopt_map, wopt_bind, wopt_ite, wdec_true, wdec_false, wdec_bool, wop_fieldAddr, wop_field, wop_index_agg, wop_build, wop_nilCheck, wop_int, wop_not, wop_extract, int_add keq_i64, int_sub keq_i64, int_mul keq_i64, int_add keq_u64, int_sub keq_u64, int_mul keq_u64, int_eql keq_i64, int_eql keq_u64, int_eql keq_u8, int_eql keq_u32, int_neq keq_i64, int_neq keq_u64, int_neq keq_u8, int_neq keq_u32, int_lss keq_i64, int_lss keq_u64, int_lss keq_u8, int_lss keq_u32, int_leq keq_i64, int_leq keq_u64, int_leq keq_u8, int_leq keq_u32, int_gtr keq_i64, int_gtr keq_u64, int_gtr keq_u8, int_gtr keq_u32, int_geq keq_i64, int_geq keq_u64, int_geq keq_u8, int_geq keq_u32, int_rem keq_i64, int_rem keq_u64, int_rem keq_u8, int_quo keq_u64, int_quo keq_i64, n_new, lo_new, n_ent, lo_ent, at_ent, Option.bind_some, Option.map_some, decide_eq_true_eq, Bool.not_eq_true', decide_eq_false_iff_not, Bool.not_true, Bool.not_false, ne_eq, if_true, if_false, reduceCtorEq, eq_self, Nat.zero_add, Nat.add_zero, not_false_eq_true, thenW_normal, thenW_ret, thenW_exit, outs_ret, outs_exit, kOf_cons, wdefers_nil, Nat.reduceEqDiff]
      rw [dReady hd2]
      simp only [pr_wop, pr_call, pr_wcall, pr_wdefer, pr_defers, pr_loop, pr_range, pr_fin, pr_hold, xdefers_eq, xcallv_fn, wopt_some, wopt_none, wopt_map, wopt_bind, wopt_ite, wdec_true, wdec_false, wdec_bool, wop_fieldAddr, wop_field, wop_index_agg, wop_build, wop_nilCheck, wop_int, wop_not, wop_extract, int_add keq_i64, int_sub keq_i64, int_mul keq_i64, int_add keq_u64, int_sub keq_u64, int_mul keq_u64, int_eql keq_i64, int_eql keq_u64, int_eql keq_u8, int_eql keq_u32, int_neq keq_i64, int_neq keq_u64, int_neq keq_u8, int_neq keq_u32, int_lss keq_i64, int_lss keq_u64, int_lss keq_u8, int_lss keq_u32, int_leq keq_i64, int_leq keq_u64, int_leq keq_u8, int_leq keq_u32, int_gtr keq_i64, int_gtr keq_u64, int_gtr keq_u8, int_gtr keq_u32, int_geq keq_i64, int_geq keq_u64, int_geq keq_u8, int_geq keq_u32, int_rem keq_i64, int_rem keq_u64, int_rem keq_u8, int_quo keq_u64, int_quo keq_i64, n_new, lo_new, n_ent, lo_ent, at_ent, Option.bind_some, Option.map_some, decide_eq_true_eq, Bool.not_eq_true', decide_eq_false_iff_not, Bool.not_true, Bool.not_false, ne_eq, if_true, if_false, reduceCtorEq, eq_self, Nat.zero_add, Nat.add_zero, not_false_eq_true, thenW_normal, thenW_ret, thenW_exit, outs_ret, outs_exit, kOf_cons, wdefers_nil, Nat.reduceEqDiff]
      exact fin
    · rw [dReady hd2]
      simp only [pr_wop, pr_call, pr_wcall, pr_wdefer, pr_defers, pr_loop, pr_range, pr_fin, pr_hold, xdefers_eq, xcallv_fn, wopt_some, wopt_none, wopt_map, wopt_bind, wopt_ite, wdec_true, wdec_false, wdec_bool, wop_fieldAddr, wop_field, wop_index_agg, wop_build, wop_nilCheck, wop_int, wop_not, wop_extract, int_add keq_i64, int_sub keq_i64, int_mul keq_i64, int_add keq_u64, int_sub keq_u64, int_mul keq_u64, int_eql keq_i64, int_eql keq_u64, int_eql keq_u8, int_eql keq_u32, int_neq keq_i64, int_neq keq_u64, int_neq keq_u8, int_neq keq_u32, int_lss keq_i64, int_lss keq_u64, int_lss keq_u8, int_lss keq_u32, int_leq keq_i64, int_leq keq_u64, int_leq keq_u8, int_leq keq_u32, int_gtr keq_i64, int_gtr keq_u64, int_gtr keq_u8, int_gtr keq_u32, int_geq keq_i64, int_geq keq_u64, int_geq keq_u8, int_geq keq_u32, int_rem keq_i64, int_rem keq_u64, int_rem keq_u8, int_quo keq_u64, int_quo keq_i64, n_new, lo_new, n_ent, lo_ent, at_ent, Option.bind_some, Option.map_some, decide_eq_true_eq, Bool.not_eq_true', decide_eq_false_iff_not, Bool.not_true, Bool.not_false, ne_eq, if_true, if_false, reduceCtorEq, eq_self, Nat.zero_add, Nat.add_zero, not_false_eq_true, thenW_normal, thenW_ret, thenW_exit, outs_ret, outs_exit, kOf_cons, wdefers_nil, Nat.reduceEqDiff]
      exact fin
  · rw [dReady hd2]
    simp only [pr_wop, pr_call, pr_wcall, pr_wdefer, pr_defers, pr_loop, pr_range, pr_fin, pr_hold, xdefers_eq, xcallv_fn, wopt_some, wopt_none, wopt_map, wopt_bind, wopt_ite, wdec_true, wdec_false, wdec_bool, wop_fieldAddr, wop_field, wop_index_agg, wop_build, wop_nilCheck, wop_int, wop_not, wop_extract, int_add keq_i64, int_sub keq_i64, int_mul keq_i64, int_add keq_u64, int_sub keq_u64, int_mul keq_u64, int_eql keq_i64, int_eql keq_u64, int_eql keq_u8, int_eql keq_u32, int_neq keq_i64, int_neq keq_u64, int_neq keq_u8, int_neq keq_u32, int_lss keq_i64, int_lss keq_u64, int_lss keq_u8, int_lss keq_u32, int_leq keq_i64, int_leq keq_u64, int_leq keq_u8, int_leq keq_u32, int_gtr keq_i64, int_gtr keq_u64, int_gtr keq_u8, int_gtr keq_u32, int_geq keq_i64, int_geq keq_u64, int_geq keq_u8, int_geq keq_u32, int_rem keq_i64, int_rem keq_u64, int_rem keq_u8, int_quo keq_u64, int_quo keq_i64, n_new, lo_new, n_ent, lo_ent, at_ent, Option.bind_some, Option.map_some, decide_eq_true_eq, Bool.not_eq_true', decide_eq_false_iff_not, Bool.not_true, Bool.not_false, ne_eq, if_true, if_false, reduceCtorEq, eq_self, Nat.zero_add, Nat.add_zero, not_false_eq_true, thenW_normal, thenW_ret, thenW_exit, outs_ret, outs_exit, kOf_cons, wdefers_nil, Nat.reduceEqDiff]
    exact fin

end
end Go.VE
