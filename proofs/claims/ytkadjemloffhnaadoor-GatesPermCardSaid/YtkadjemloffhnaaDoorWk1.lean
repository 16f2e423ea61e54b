/-
  What the functions compute.
-/
import Derived.Test.YtkadjemloffhnaaDoorFn2
set_option linter.unusedSimpArgs false
set_option linter.unusedVariables false
/- The calls that are known: the examples of the chapter. -/
namespace Go.VE
open Go Go.Proofs
theorem wW : type_of% (And.intro @pr_wop <| And.intro @pr_call <| And.intro @pr_wcall <| And.intro @pr_wdefer <| And.intro @pr_defers <| And.intro @pr_loop <| And.intro @pr_range <| And.intro @pr_fin <| And.intro @pr_hold <| And.intro @xdefers_eq <| And.intro @xcallv_fn <| And.intro @wopt_some <| And.intro @wopt_none <| And.intro @wopt_map <| And.intro @wopt_bind <| And.intro @wopt_ite <| And.intro @wdec_true <| And.intro @wdec_false <| And.intro @wdec_bool <| And.intro @wop_fieldAddr <| And.intro @wop_field <| And.intro @wop_index_agg <| And.intro @wop_build <| And.intro @wop_nilCheck <| And.intro @wop_int <| And.intro @wop_not <| And.intro @wop_extract <| And.intro (fun {P : Program} => @int_add P _ keq_i64) <| And.intro (fun {P : Program} => @int_sub P _ keq_i64) <| And.intro (fun {P : Program} => @int_mul P _ keq_i64) <| And.intro (fun {P : Program} => @int_add P _ keq_u64) <| And.intro (fun {P : Program} => @int_sub P _ keq_u64) <| And.intro (fun {P : Program} => @int_mul P _ keq_u64) <| And.intro (fun {P : Program} => @int_eql P _ keq_i64) <| And.intro (fun {P : Program} => @int_eql P _ keq_u64) <| And.intro (fun {P : Program} => @int_eql P _ keq_u8) <| And.intro (fun {P : Program} => @int_eql P _ keq_u32) <| And.intro (fun {P : Program} => @int_neq P _ keq_i64) <| And.intro (fun {P : Program} => @int_neq P _ keq_u64) <| And.intro (fun {P : Program} => @int_neq P _ keq_u8) <| And.intro (fun {P : Program} => @int_neq P _ keq_u32) <| And.intro (fun {P : Program} => @int_lss P _ keq_i64) <| And.intro (fun {P : Program} => @int_lss P _ keq_u64) <| And.intro (fun {P : Program} => @int_lss P _ keq_u8) <| And.intro (fun {P : Program} => @int_lss P _ keq_u32) <| And.intro (fun {P : Program} => @int_leq P _ keq_i64) <| And.intro (fun {P : Program} => @int_leq P _ keq_u64) <| And.intro (fun {P : Program} => @int_leq P _ keq_u8) <| And.intro (fun {P : Program} => @int_leq P _ keq_u32) <| And.intro (fun {P : Program} => @int_gtr P _ keq_i64) <| And.intro (fun {P : Program} => @int_gtr P _ keq_u64) <| And.intro (fun {P : Program} => @int_gtr P _ keq_u8) <| And.intro (fun {P : Program} => @int_gtr P _ keq_u32) <| And.intro (fun {P : Program} => @int_geq P _ keq_i64) <| And.intro (fun {P : Program} => @int_geq P _ keq_u64) <| And.intro (fun {P : Program} => @int_geq P _ keq_u8) <| And.intro (fun {P : Program} => @int_geq P _ keq_u32) <| And.intro (fun {P : Program} => @int_rem P _ keq_i64) <| And.intro (fun {P : Program} => @int_rem P _ keq_u64) <| And.intro (fun {P : Program} => @int_rem P _ keq_u8) <| And.intro (fun {P : Program} => @int_quo P _ keq_u64) <| And.intro (fun {P : Program} => @int_quo P _ keq_i64) <| And.intro @n_new <| And.intro @lo_new <| And.intro @n_ent <| And.intro @lo_ent <| And.intro @at_ent <| And.intro @thenW_normal <| And.intro @thenW_ret <| And.intro @thenW_exit <| And.intro @outs_ret <| And.intro @outs_exit <| And.intro @kOf_cons <| And.intro @wdefers_nil <| And.intro @Option.bind_some.{0,0} <| And.intro @Option.map_some.{0,0} <| And.intro @decide_eq_true_eq <| And.intro @Bool.not_eq_true' <| And.intro @decide_eq_false_iff_not <| And.intro @Bool.not_true <| And.intro @Bool.not_false <| And.intro @ne_eq.{1} <| And.intro @if_true.{1} <| And.intro @if_false.{1} <| And.intro @eq_self.{1} <| And.intro @Nat.zero_add <| And.intro @Nat.add_zero <| @not_false_eq_true) := And.intro @pr_wop <| And.intro @pr_call <| And.intro @pr_wcall <| And.intro @pr_wdefer <| And.intro @pr_defers <| And.intro @pr_loop <| And.intro @pr_range <| And.intro @pr_fin <| And.intro @pr_hold <| And.intro @xdefers_eq <| And.intro @xcallv_fn <| And.intro @wopt_some <| And.intro @wopt_none <| And.intro @wopt_map <| And.intro @wopt_bind <| And.intro @wopt_ite <| And.intro @wdec_true <| And.intro @wdec_false <| And.intro @wdec_bool <| And.intro @wop_fieldAddr <| And.intro @wop_field <| And.intro @wop_index_agg <| And.intro @wop_build <| And.intro @wop_nilCheck <| And.intro @wop_int <| And.intro @wop_not <| And.intro @wop_extract <| And.intro (fun {P : Program} => @int_add P _ keq_i64) <| And.intro (fun {P : Program} => @int_sub P _ keq_i64) <| And.intro (fun {P : Program} => @int_mul P _ keq_i64) <| And.intro (fun {P : Program} => @int_add P _ keq_u64) <| And.intro (fun {P : Program} => @int_sub P _ keq_u64) <| And.intro (fun {P : Program} => @int_mul P _ keq_u64) <| And.intro (fun {P : Program} => @int_eql P _ keq_i64) <| And.intro (fun {P : Program} => @int_eql P _ keq_u64) <| And.intro (fun {P : Program} => @int_eql P _ keq_u8) <| And.intro (fun {P : Program} => @int_eql P _ keq_u32) <| And.intro (fun {P : Program} => @int_neq P _ keq_i64) <| And.intro (fun {P : Program} => @int_neq P _ keq_u64) <| And.intro (fun {P : Program} => @int_neq P _ keq_u8) <| And.intro (fun {P : Program} => @int_neq P _ keq_u32) <| And.intro (fun {P : Program} => @int_lss P _ keq_i64) <| And.intro (fun {P : Program} => @int_lss P _ keq_u64) <| And.intro (fun {P : Program} => @int_lss P _ keq_u8) <| And.intro (fun {P : Program} => @int_lss P _ keq_u32) <| And.intro (fun {P : Program} => @int_leq P _ keq_i64) <| And.intro (fun {P : Program} => @int_leq P _ keq_u64) <| And.intro (fun {P : Program} => @int_leq P _ keq_u8) <| And.intro (fun {P : Program} => @int_leq P _ keq_u32) <| And.intro (fun {P : Program} => @int_gtr P _ keq_i64) <| And.intro (fun {P : Program} => @int_gtr P _ keq_u64) <| And.intro (fun {P : Program} => @int_gtr P _ keq_u8) <| And.intro (fun {P : Program} => @int_gtr P _ keq_u32) <| And.intro (fun {P : Program} => @int_geq P _ keq_i64) <| And.intro (fun {P : Program} => @int_geq P _ keq_u64) <| And.intro (fun {P : Program} => @int_geq P _ keq_u8) <| And.intro (fun {P : Program} => @int_geq P _ keq_u32) <| And.intro (fun {P : Program} => @int_rem P _ keq_i64) <| And.intro (fun {P : Program} => @int_rem P _ keq_u64) <| And.intro (fun {P : Program} => @int_rem P _ keq_u8) <| And.intro (fun {P : Program} => @int_quo P _ keq_u64) <| And.intro (fun {P : Program} => @int_quo P _ keq_i64) <| And.intro @n_new <| And.intro @lo_new <| And.intro @n_ent <| And.intro @lo_ent <| And.intro @at_ent <| And.intro @thenW_normal <| And.intro @thenW_ret <| And.intro @thenW_exit <| And.intro @outs_ret <| And.intro @outs_exit <| And.intro @kOf_cons <| And.intro @wdefers_nil <| And.intro @Option.bind_some.{0,0} <| And.intro @Option.map_some.{0,0} <| And.intro @decide_eq_true_eq <| And.intro @Bool.not_eq_true' <| And.intro @decide_eq_false_iff_not <| And.intro @Bool.not_true <| And.intro @Bool.not_false <| And.intro @ne_eq.{1} <| And.intro @if_true.{1} <| And.intro @if_false.{1} <| And.intro @eq_self.{1} <| And.intro @Nat.zero_add <| And.intro @Nat.add_zero <| @not_false_eq_true
noncomputable instance known : Memo := memoOf [(9, [], .bool true)]
end Go.VE
/- The field's reference and the field: what their functions do. -/
namespace Go.VE
open Go Go.Proofs
set_option maxRecDepth 20000
def fP (f : Int) : Int := if f = 0 then 97 else if f = 1 then 257 else if f = 2 then 12289 else if f = 3 then 998244353 else 0
def fV (f : Int) : Bool := decide (0 ≤ f) && decide (f ≤ 3)
def fExp (f : Int) : Int := if f = 0 ∨ f = 2 then 5 else if f = 1 ∨ f = 3 then 3 else 0
def fGen (f : Int) : Int := if f = 0 then 5 else if f = 1 ∨ f = 3 then 3 else if f = 2 then 11 else 0
def fAdd (f a b : Int) : Int := if fV f then (a + b) % fP f else 0
def fSub (f a b : Int) : Int := if fV f then (a - b) % fP f else 0
def fMul (f a b : Int) : Int := if fV f then a * b % fP f else 0
theorem fV_cases {f : Int} (h : fV f = true) : f = 0 ∨ f = 1 ∨ f = 2 ∨ f = 3 := by
  simp only [fV, Bool.and_eq_true, decide_eq_true_eq] at h
  omega
theorem fP_pos {f : Int} (h : fV f = true) : 0 < fP f := by
  rcases fV_cases h with rfl | rfl | rfl | rfl <;> decide
theorem fP_lt (f : Int) : fP f < 2 ^ 30 := by
  unfold fP
  repeat' split
  all_goals omega
theorem fP_zero {f : Int} (h : fV f = false) : fP f = 0 := by
  unfold fP
  have : f ≠ 0 ∧ f ≠ 1 ∧ f ≠ 2 ∧ f ≠ 3 := by
    refine ⟨?_, ?_, ?_, ?_⟩ <;> (rintro rfl; revert h; decide)
  simp [this.1, this.2.1, this.2.2.1, this.2.2.2]
theorem tmod_nonneg {a b : Int} (h : 0 ≤ a) : a.tmod b = a % b := Int.tmod_eq_emod_of_nonneg h
theorem mod_bounds {a p : Int} (hp : 0 < p) : 0 ≤ a % p ∧ a % p < p := ⟨Int.emod_nonneg _ (by omega), Int.emod_lt_of_pos _ hp⟩
section
variable {ro : Nat} {s : St} {K : Value → St → Prop}
theorem wrP (f : Int) : CallWP P ro 51 [.int .i64 f] s K = K (.int .u64 (fP f)) s := by
  refine callEq (call_wp b51 rfl ?_) K
  rw [n51]
  unfold v51
  unfold fP
  simp only [wW, reduceCtorEq, Nat.reduceEqDiff]
  repeat' split
  all_goals (rw [wfin_flat (by simp only [lo_ent, Nat.le_refl]) rfl]; simp_all)
theorem wrValid (f : Int) : CallWP P ro 39 [.int .i64 f] s K = K (.bool (fV f)) s := by
  refine callEq (call_wp b39 rfl ?_) K
  rw [n39]
  unfold v39
  unfold fV
  simp only [wW, reduceCtorEq, Nat.reduceEqDiff]
  repeat' split
  all_goals (rw [wfin_flat (by simp only [lo_ent, Nat.le_refl]) rfl]; simp_all; try omega)
theorem wrExp (f : Int) : CallWP P ro 43 [.int .i64 f] s K = K (.int .i64 (fExp f)) s := by
  refine callEq (call_wp b43 rfl ?_) K
  rw [n43]
  unfold v43
  unfold fExp
  simp only [wW, reduceCtorEq, Nat.reduceEqDiff]
  repeat' split
  all_goals (rw [wfin_flat (by simp only [lo_ent, Nat.le_refl]) rfl]; simp_all)
theorem wrGen (f : Int) : CallWP P ro 65 [.int .i64 f] s K = K (.int .u64 (fGen f)) s := by
  refine callEq (call_wp b65 rfl ?_) K
  rw [n65]
  unfold v65
  unfold fGen
  simp only [wW, reduceCtorEq, Nat.reduceEqDiff]
  repeat' split
  all_goals (rw [wfin_flat (by simp only [lo_ent, Nat.le_refl]) rfl]; simp_all)
theorem wrAdd (f : Int) {a b : Int} (ha : 0 ≤ a) (hb : 0 ≤ b) : CallWP P ro 40 [.int .i64 f, .int .u64 a, .int .u64 b] s K = K (.int .u64 (fAdd f a b)) s := by
  refine callEq (call_wp b40 rfl ?_) K
  rw [n40]
  unfold v40
  simp only [wW, reduceCtorEq, Nat.reduceEqDiff, wrP, wrValid]
  by_cases hv : fV f = true
  · have hp := fP_pos hv
    have hl := fP_lt f
    have hne : fP f ≠ 0 := by omega
    have h1 := mod_bounds (a := a) hp
    have h2 := mod_bounds (a := b) hp
    simp only [hv, wW, reduceCtorEq, Nat.reduceEqDiff, hne, not_false_eq_true, tmod_nonneg ha, tmod_nonneg hb, Bool.false_eq_true]
    rw [wrap_u64 (by omega) (by omega), tmod_nonneg (by omega), wfin_flat (by simp only [lo_ent, Nat.le_refl]) rfl]
    simp only [fAdd, hv, if_true, and_true, Int.emod_add_emod, Int.add_emod_emod]
  · have hv : fV f = false := by simpa using hv
    simp only [hv, wW, reduceCtorEq, Nat.reduceEqDiff, wfin_flat (show s.n ≤ (ent s).lo from Nat.le_refl _) (flat_int _ _), fAdd, Bool.false_eq_true, and_self]
theorem wrSub (f : Int) {a b : Int} (ha : 0 ≤ a) (hb : 0 ≤ b) : CallWP P ro 56 [.int .i64 f, .int .u64 a, .int .u64 b] s K = K (.int .u64 (fSub f a b)) s := by
  refine callEq (call_wp b56 rfl ?_) K
  rw [n56]
  unfold v56
  simp only [wW, reduceCtorEq, Nat.reduceEqDiff, wrP, wrValid]
  by_cases hv : fV f = true
  · have hp := fP_pos hv
    have hl := fP_lt f
    have hne : fP f ≠ 0 := by omega
    have h1 := mod_bounds (a := a) hp
    have h2 := mod_bounds (a := b) hp
    simp only [hv, wW, reduceCtorEq, Nat.reduceEqDiff, hne, not_false_eq_true, tmod_nonneg ha, tmod_nonneg hb, Bool.false_eq_true]
    rw [wrap_u64 (n := a % fP f + fP f) (by omega) (by omega), wrap_u64 (by omega) (by omega), tmod_nonneg (by omega), wfin_flat (by simp only [lo_ent, Nat.le_refl]) rfl]
    simp only [fSub, hv, if_true, and_true, Value.int.injEq, true_and]
    rw [show a % fP f + fP f - b % fP f = a % fP f - b % fP f + fP f by omega, Int.add_emod_right, Int.emod_sub_emod, Int.sub_emod_emod]
  · have hv : fV f = false := by simpa using hv
    simp only [hv, wW, reduceCtorEq, Nat.reduceEqDiff, wfin_flat (show s.n ≤ (ent s).lo from Nat.le_refl _) (flat_int _ _), fSub, Bool.false_eq_true, and_self]
theorem wrMul (f : Int) {a b : Int} (ha : 0 ≤ a) (hb : 0 ≤ b) : CallWP P ro 45 [.int .i64 f, .int .u64 a, .int .u64 b] s K = K (.int .u64 (fMul f a b)) s := by
  refine callEq (call_wp b45 rfl ?_) K
  rw [n45]
  unfold v45
  simp only [wW, reduceCtorEq, Nat.reduceEqDiff, wrP, wrValid]
  by_cases hv : fV f = true
  · have hp := fP_pos hv
    have hl := fP_lt f
    have hne : fP f ≠ 0 := by omega
    have h1 := mod_bounds (a := a) hp
    have h2 := mod_bounds (a := b) hp
    have h3 : 0 ≤ a % fP f * (b % fP f) := Int.mul_nonneg h1.1 h2.1
    have h4 : a % fP f * (b % fP f) ≤ 2 ^ 30 * 2 ^ 30 := Int.mul_le_mul (by omega) (by omega) h2.1 (by omega)
    simp only [hv, wW, reduceCtorEq, Nat.reduceEqDiff, hne, not_false_eq_true, tmod_nonneg ha, tmod_nonneg hb, Bool.false_eq_true]
    rw [wrap_u64 (by omega) (by omega), tmod_nonneg (by omega), wfin_flat (by simp only [lo_ent, Nat.le_refl]) rfl]
    simp only [fMul, hv, if_true, and_true, ← Int.mul_emod]
  · have hv : fV f = false := by simpa using hv
    simp only [hv, wW, reduceCtorEq, Nat.reduceEqDiff, wfin_flat (show s.n ≤ (ent s).lo from Nat.le_refl _) (flat_int _ _), fMul, Bool.false_eq_true, and_self]
end
end Go.VE
/- Powers, inverses; the field's package. -/
namespace Go.VE
open Go Go.Proofs
set_option maxRecDepth 20000
def fPow (f a n : Int) : Int := if fV f then a ^ n.toNat % fP f else 0
def fInv (f a : Int) : Int := fPow f a (fP f - 2)
def fDiv (f a b : Int) : Int := fMul f a (fInv f b)
def fNeg (f a : Int) : Int := fSub f 0 a
theorem fMul_bounds (f a b : Int) : 0 ≤ fMul f a b ∧ fMul f a b < 2 ^ 30 := by
  unfold fMul
  split
  · rename_i h
    have := mod_bounds (a := a * b) (fP_pos h)
    have := fP_lt f
    omega
  · omega
theorem fAdd_bounds (f a b : Int) : 0 ≤ fAdd f a b ∧ fAdd f a b < 2 ^ 30 := by
  unfold fAdd
  split
  · rename_i h
    have := mod_bounds (a := a + b) (fP_pos h)
    have := fP_lt f
    omega
  · omega
theorem fSub_bounds (f a b : Int) : 0 ≤ fSub f a b ∧ fSub f a b < 2 ^ 30 := by
  unfold fSub
  split
  · rename_i h
    have := mod_bounds (a := a - b) (fP_pos h)
    have := fP_lt f
    omega
  · omega
theorem fPow_bounds (f a n : Int) : 0 ≤ fPow f a n ∧ fPow f a n < 2 ^ 30 := by
  unfold fPow
  split
  · rename_i h
    have := mod_bounds (a := a ^ n.toNat) (fP_pos h)
    have := fP_lt f
    omega
  · omega
section
variable {ro : Nat}
theorem wrNeg (f : Int) {a : Int} (ha : 0 ≤ a) {s : St} {K : Value → St → Prop} : CallWP P ro 33 [.int .i64 f, .int .u64 a] s K = K (.int .u64 (fNeg f a)) s := by
  refine callEq (call_wp b33 rfl ?_) K
  rw [n33]
  unfold v33
  simp only [wW, reduceCtorEq, Nat.reduceEqDiff, wrSub f (Int.le_refl 0) ha, wfin_flat (show s.n ≤ (ent s).lo from Nat.le_refl _) (flat_int _ _), fNeg, and_self]
theorem pow_half {a p : Int} (n : Nat) : (a ^ n % p) * (a ^ n % p) % p = a ^ (2 * n) % p := by
  rw [← Int.mul_emod, show 2 * n = n + n by omega, Int.pow_add]
theorem pow_half1 {a p : Int} (n : Nat) : (a ^ (2 * n) % p) * a % p = a ^ (2 * n + 1) % p := by
  rw [Int.pow_succ, Int.mul_emod (a ^ (2 * n) % p), Int.emod_emod, ← Int.mul_emod]
theorem wrPow (f : Int) {a : Int} (ha : 0 ≤ a) : ∀ (k : Nat) {n : Int} (_ : 0 ≤ n) (_ : n < 2 ^ 64) (_ : n.toNat = k) {s : St} {K : Value → St → Prop}, CallWP P ro 42 [.int .i64 f, .int .u64 a, .int .u64 n] s K = K (.int .u64 (fPow f a n)) s := by
  intro k
  induction k using Nat.strongRecOn with
  | ind k ih =>
    intro n hn hlt hk s K
    refine callEq (call_wp b42 rfl ?_) K
    rw [n42]
    unfold v42
    simp only [wW, reduceCtorEq, Nat.reduceEqDiff, wrValid]
    by_cases hv : fV f = true
    · simp only [hv, wW, reduceCtorEq, Nat.reduceEqDiff]
      have hp := fP_pos hv
      have h1p : 1 < fP f := by rcases fV_cases hv with rfl | rfl | rfl | rfl <;> decide
      by_cases h0 : n = 0
      · subst h0
        simp only [wW, reduceCtorEq, Nat.reduceEqDiff, wfin_flat (show s.n ≤ (ent s).lo from Nat.le_refl _) (flat_int _ _), and_true, fPow, hv]
        simp only [Int.toNat_zero, Int.pow_zero, Value.int.injEq, true_and]
        exact (Int.emod_eq_of_lt (by omega) h1p).symm
      · have hq : n.tdiv 2 = n / 2 := Int.tdiv_eq_ediv_of_nonneg hn
        have hb := fPow_bounds f a (n / 2)
        simp only [h0, if_false, wW, reduceCtorEq, Nat.reduceEqDiff, int_quo keq_u64 _ _ (show (2 : Int) ≠ 0 by decide), int_rem keq_u64 _ _ (show (2 : Int) ≠ 0 by decide), hq, tmod_nonneg hn]
        rw [wrap_u64 (by omega) (by omega), ih (n / 2).toNat (by omega) (by omega) (by omega) rfl]
        simp only [wrMul f hb.1 hb.1, wrMul f (fMul_bounds f _ _).1 ha, wfin_flat (show s.n ≤ (ent s).lo from Nat.le_refl _) (flat_int _ _), and_true, Value.int.injEq, true_and]
        split
        · rename_i h1
          simp only [fMul, fPow, hv, if_true]
          rw [pow_half, pow_half1]
          congr 2
          omega
        · rename_i h1
          simp only [fMul, fPow, hv, if_true]
          rw [pow_half]
          congr 2
          omega
    · have hv : fV f = false := by simpa using hv
      simp only [hv, wW, reduceCtorEq, Nat.reduceEqDiff, wfin_flat (show s.n ≤ (ent s).lo from Nat.le_refl _) (flat_int _ _), fPow, Bool.false_eq_true, and_self]
theorem wrInv (f : Int) {a : Int} (ha : 0 ≤ a) {s : St} {K : Value → St → Prop} : CallWP P ro 57 [.int .i64 f, .int .u64 a] s K = K (.int .u64 (fInv f a)) s := by
  refine callEq (call_wp b57 rfl ?_) K
  rw [n57]
  unfold v57
  simp only [wW, reduceCtorEq, Nat.reduceEqDiff, wrValid]
  by_cases hv : fV f = true
  · have h1p : 2 < fP f := by rcases fV_cases hv with rfl | rfl | rfl | rfl <;> decide
    have hl := fP_lt f
    simp only [hv, wW, reduceCtorEq, Nat.reduceEqDiff, wrP]
    rw [wrap_u64 (by omega) (by omega), wrPow f ha _ (by omega) (by omega) rfl]
    simp only [wfin_flat (show s.n ≤ (ent s).lo from Nat.le_refl _) (flat_int _ _), and_true, fInv]
  · have hv : fV f = false := by simpa using hv
    simp only [hv, wW, reduceCtorEq, Nat.reduceEqDiff, wfin_flat (show s.n ≤ (ent s).lo from Nat.le_refl _) (flat_int _ _), fInv, fPow, Bool.false_eq_true, and_self]
theorem wrDiv (f : Int) {a b : Int} (ha : 0 ≤ a) (hb : 0 ≤ b) {s : St} {K : Value → St → Prop} : CallWP P ro 34 [.int .i64 f, .int .u64 a, .int .u64 b] s K = K (.int .u64 (fDiv f a b)) s := by
  refine callEq (call_wp b34 rfl ?_) K
  rw [n34]
  unfold v34
  simp only [wW, reduceCtorEq, Nat.reduceEqDiff, wrInv f hb, wrMul f ha (show 0 ≤ fInv f b from (fPow_bounds f b _).1), wfin_flat (show s.n ≤ (ent s).lo from Nat.le_refl _) (flat_int _ _), fDiv, and_self]
def fieldCells (x0 x1 x2 x3 : Option Addr) (n0 n1 n2 n3 c0 c1 c2 c3 : Nat) : List Value :=
  [.int .u64 97, .int .u64 5, .int .i64 5, .int .i64 5, .slice x0 n0 c0, .int .u64 257, .int .u64 3, .int .i64 8, .int .i64 3, .slice x1 n1 c1,
   .int .u64 12289, .int .u64 11, .int .i64 12, .int .i64 5, .slice x2 n2 c2, .int .u64 998244353, .int .u64 3, .int .i64 23, .int .i64 3, .slice x3 n3 c3]
def FieldsAt (s : St) : Prop := ∃ x0 x1 x2 x3 n0 n1 n2 n3 c0 c1 c2 c3 t op, s.at 0 = some (.cells (fieldCells x0 x1 x2 x3 n0 n1 n2 n3 c0 c1 c2 c3) t op)
theorem FieldsAt.lt {s : St} (h : FieldsAt s) : 0 < s.n := by
  obtain ⟨_, _, _, _, _, _, _, _, _, _, _, _, _, _, h⟩ := h
  exact St.at_lt h
theorem FieldsAt.grew {s s' : St} (h : FieldsAt s) (hg : Grew s s') : FieldsAt s' := by
  obtain ⟨x0, x1, x2, x3, n0, n1, n2, n3, c0, c1, c2, c3, t, op, h1⟩ := h
  exact ⟨x0, x1, x2, x3, n0, n1, n2, n3, c0, c1, c2, c3, t, op, by rw [hg.same 0 (St.at_lt h1)]; exact h1⟩
def fTwo (f : Int) : Int := if f = 0 then 5 else if f = 1 then 8 else if f = 2 then 12 else if f = 3 then 23 else 0
theorem wfValid (f : Int) {s : St} {K : Value → St → Prop} : CallWP P ro 58 [.int .i64 f] s K = K (.bool (fV f)) s := by
  refine callEq (call_wp b58 rfl ?_) K
  rw [n58]
  unfold v58
  unfold fV
  simp only [wW, reduceCtorEq, Nat.reduceEqDiff]
  repeat' split
  all_goals (rw [wfin_flat (by simp only [lo_ent, Nat.le_refl]) rfl]; simp_all; try omega)
theorem wfOf (f : Int) {s : St} {K : Value → St → Prop} (hw : Wf s) (hro : ro ≤ s.n) (hG : FieldsAt s) (h : ∀ x n c s', Grew s s' → K (.agg (.mk [.int .u64 (fP f), .int .u64 (fGen f), .int .i64 (fTwo f), .int .i64 (fExp f), .slice x n c])) s') : CallWP P ro 66 [.int .i64 f] s K := by
  refine call_wp b66 rfl ?_
  rw [n66]
  unfold v66
  simp only [pr_wop, pr_call, pr_fin]
  refine alloc_rule ty_75 hw.ent fun A s1 m1 => ?_
  have hA : s.n ≤ A := by rw [m1.eq]; exact Nat.le_refl _
  have key : ∀ (l : List Value), l.length = 5 → l.all (·.oneCell') = true → (∀ s', Grew s s' → K (.agg (.mk l)) s') →
      wop P ro (.store 75 (.const (.pointer (some ⟨A, 0, none⟩))) (.const (.agg (.mk l)))) 0 s1 fun _ s2 =>
        wop P ro (.load 75 (.const (.pointer (some ⟨A, 0, none⟩)))) 75 s2 fun v _ => wfin s K v s2 := fun l hl h1 hK => by
    refine storeAll_rule isz_75 m1.here hl (by decide) m1.wf (by omega) rfl h1 fun s2 p2 => ?_
    refine load_rule (load_all ap_75 p2.here hl) ?_
    exact wfin_any hw (p2.grew _ hw.ent m1.grew hA) hK
  rw [wfValid]
  simp only [wop_not, wdec_bool]
  by_cases hv : fV f = true
  · rw [hv, if_neg (by decide)]
    obtain ⟨x0, x1, x2, x3, n0, n1, n2, n3, c0, c1, c2, c3, t, op, h0⟩ := hG
    have h0' : s1.at 0 = _ := (m1.grew.same 0 (St.at_lt h0)).trans h0
    rw [wop_indexAddr, ixArr un_88 isz_75]
    rcases fV_cases hv with rfl | rfl | rfl | rfl
    · refine load_rule (load_part (l := [.int .u64 97, .int .u64 5, .int .i64 5, .int .i64 5, .slice x0 n0 c0]) ap_75 h0' rfl) ?_
      exact key _ rfl rfl fun s' hg => h x0 n0 c0 s' hg
    · refine load_rule (load_part (l := [.int .u64 257, .int .u64 3, .int .i64 8, .int .i64 3, .slice x1 n1 c1]) ap_75 h0' rfl) ?_
      exact key _ rfl rfl fun s' hg => h x1 n1 c1 s' hg
    · refine load_rule (load_part (l := [.int .u64 12289, .int .u64 11, .int .i64 12, .int .i64 5, .slice x2 n2 c2]) ap_75 h0' rfl) ?_
      exact key _ rfl rfl fun s' hg => h x2 n2 c2 s' hg
    · refine load_rule (load_part (l := [.int .u64 998244353, .int .u64 3, .int .i64 23, .int .i64 3, .slice x3 n3 c3]) ap_75 h0' rfl) ?_
      exact key _ rfl rfl fun s' hg => h x3 n3 c3 s' hg
  · have hv : fV f = false := by simpa using hv
    have hf : fP f = 0 ∧ fGen f = 0 ∧ fTwo f = 0 ∧ fExp f = 0 := by
      have : f ≠ 0 ∧ f ≠ 1 ∧ f ≠ 2 ∧ f ≠ 3 := by
        refine ⟨?_, ?_, ?_, ?_⟩ <;> (rintro rfl; revert hv; decide)
      simp [fP, fGen, fTwo, fExp, this.1, this.2.1, this.2.2.1, this.2.2.2]
    rw [hv, if_pos (by decide), wop_build, show abuild P 75 (partVals .e []) = some (.agg (.mk [.int .u64 0, .int .u64 0, .int .i64 0, .int .i64 0, .slice none 0 0])) by kernel_rfl]
    refine key _ rfl rfl fun s' hg => ?_
    have := h none 0 0 s' hg
    rw [hf.1, hf.2.1, hf.2.2.1, hf.2.2.2] at this
    exact this
theorem wfP (f : Int) {s : St} {K : Value → St → Prop} (hw : Wf s) (hro : ro ≤ s.n) (hG : FieldsAt s) : CallWP P ro 47 [.int .i64 f] s K = K (.int .u64 (fP f)) s := by
  refine callEq (call_wp b47 rfl ?_) K
  rw [n47]
  unfold v47
  simp only [wW, reduceCtorEq, Nat.reduceEqDiff]
  refine wfOf f hw.ent hro hG fun x n c s' hg => ?_
  rw [fd_75_0, ap_38]
  simp only [wopt_some, List.getElem?_cons_zero]
  rw [wfin_flat (by rw [hg.lo]; exact Nat.le_refl _) rfl]
  exact ⟨rfl, rfl⟩
theorem wfAdd (f : Int) {a b : Int} (ha : 0 ≤ a) (hb : 0 ≤ b) {s : St} {K : Value → St → Prop} (hw : Wf s) (hro : ro ≤ s.n) (hG : FieldsAt s) : CallWP P ro 48 [.int .i64 f, .int .u64 a, .int .u64 b] s K = K (.int .u64 (fAdd f a b)) s := by
  refine callEq (call_wp b48 rfl ?_) K
  rw [n48]
  unfold v48
  simp only [wW, reduceCtorEq, Nat.reduceEqDiff]
  rw [wfP f hw.ent hro hG]
  simp only [wW, reduceCtorEq, Nat.reduceEqDiff]
  by_cases hv : fV f = true
  · have hp := fP_pos hv
    have hl := fP_lt f
    have hne : fP f ≠ 0 := by omega
    have h1 := mod_bounds (a := a) hp
    have h2 := mod_bounds (a := b) hp
    simp only [hne, wW, reduceCtorEq, Nat.reduceEqDiff, tmod_nonneg ha, tmod_nonneg hb, fAdd, hv]
    rw [wrap_u64 (n := a % fP f + b % fP f) (by omega) (by omega)]
    have e : (a + b) % fP f = (a % fP f + b % fP f) % fP f := by rw [Int.emod_add_emod, Int.add_emod_emod]
    split
    · rename_i h3
      rw [wrap_u64 (n := a % fP f + b % fP f - fP f) (by omega) (by omega), wfin_flat (Nat.le_refl _) rfl, e]
      refine ⟨?_, rfl⟩
      congr 1
      have e2 := Int.sub_emod_right (a % fP f + b % fP f) (fP f)
      rw [← e2]
      exact (Int.emod_eq_of_lt (by omega) (by omega)).symm
    · rename_i h3
      rw [wfin_flat (Nat.le_refl _) rfl, e]
      refine ⟨?_, rfl⟩
      congr 1
      exact (Int.emod_eq_of_lt (by omega) (by omega)).symm
  · have hv : fV f = false := by simpa using hv
    simp only [fP_zero hv, wW, reduceCtorEq, Nat.reduceEqDiff, fAdd, hv, Bool.false_eq_true]
    rw [wfin_flat (Nat.le_refl _) rfl]
    exact ⟨rfl, rfl⟩
theorem wfNeg (f : Int) {a : Int} (ha : 0 ≤ a) {s : St} {K : Value → St → Prop} (hw : Wf s) (hro : ro ≤ s.n) (hG : FieldsAt s) : CallWP P ro 30 [.int .i64 f, .int .u64 a] s K = K (.int .u64 (fNeg f a)) s := by
  refine callEq (call_wp b30 rfl ?_) K
  rw [n30]
  unfold v30
  simp only [wW, reduceCtorEq, Nat.reduceEqDiff]
  rw [wfP f hw.ent hro hG]
  simp only [wW, reduceCtorEq, Nat.reduceEqDiff]
  by_cases hv : fV f = true
  · have hp := fP_pos hv
    have hl := fP_lt f
    have hne : fP f ≠ 0 := by omega
    have h1 := mod_bounds (a := a) hp
    simp only [hne, wW, reduceCtorEq, Nat.reduceEqDiff, tmod_nonneg ha, fNeg, fSub, hv]
    split
    · rename_i h3
      rw [wfin_flat (Nat.le_refl _) rfl]
      refine ⟨?_, rfl⟩
      congr 1
      rw [Int.zero_sub]
      exact (Int.emod_eq_zero_of_dvd (Int.dvd_neg.2 (Int.dvd_of_emod_eq_zero h3))).symm
    · rename_i h3
      rw [wrap_u64 (by omega) (by omega), wfin_flat (Nat.le_refl _) rfl]
      refine ⟨?_, rfl⟩
      congr 1
      have h4 : a % fP f ≠ 0 := by simpa using h3
      have e2 : (0 - a) % fP f = (fP f - a % fP f) % fP f := by
        rw [← Int.sub_emod_emod 0 a, ← Int.add_emod_right (0 - a % fP f), show 0 - a % fP f + fP f = fP f - a % fP f by omega]
      rw [e2]
      exact (Int.emod_eq_of_lt (by omega) (by omega)).symm
  · have hv : fV f = false := by simpa using hv
    simp only [fP_zero hv, wW, reduceCtorEq, Nat.reduceEqDiff, fNeg, fSub, hv, Bool.false_eq_true]
    rw [wfin_flat (Nat.le_refl _) rfl]
    exact ⟨rfl, rfl⟩
theorem wfMul (f : Int) {a b : Int} (ha : 0 ≤ a) (hb : 0 ≤ b) {s : St} {K : Value → St → Prop} (hw : Wf s) (hro : ro ≤ s.n) (hG : FieldsAt s) : CallWP P ro 49 [.int .i64 f, .int .u64 a, .int .u64 b] s K = K (.int .u64 (fMul f a b)) s := by
  refine callEq (call_wp b49 rfl ?_) K
  rw [n49]
  unfold v49
  simp only [wW, reduceCtorEq, Nat.reduceEqDiff]
  rw [wfP f hw.ent hro hG]
  simp only [wW, reduceCtorEq, Nat.reduceEqDiff]
  by_cases hv : fV f = true
  · have hp := fP_pos hv
    have hl := fP_lt f
    have hne : fP f ≠ 0 := by omega
    have h1 := mod_bounds (a := a) hp
    have h2 := mod_bounds (a := b) hp
    have h3 : 0 ≤ a % fP f * (b % fP f) := Int.mul_nonneg h1.1 h2.1
    have h4 : a % fP f * (b % fP f) ≤ 2 ^ 30 * 2 ^ 30 := Int.mul_le_mul (by omega) (by omega) h2.1 (by omega)
    simp only [hne, wW, reduceCtorEq, Nat.reduceEqDiff, tmod_nonneg ha, tmod_nonneg hb, fMul, hv]
    rw [wrap_u64 (by omega) (by omega), tmod_nonneg (by omega), wfin_flat (Nat.le_refl _) rfl, ← Int.mul_emod]
    exact ⟨rfl, rfl⟩
  · have hv : fV f = false := by simpa using hv
    simp only [fP_zero hv, wW, reduceCtorEq, Nat.reduceEqDiff, fMul, hv, Bool.false_eq_true]
    rw [wfin_flat (Nat.le_refl _) rfl]
    exact ⟨rfl, rfl⟩
end
end Go.VE
/- Rows of gate programs, lists of numbers. -/
namespace Go.VE
open Go Go.Proofs
set_option maxRecDepth 20000
def Ints (s : St) (v : Value) (l : List Int) : Prop := Sl s v 1 l.length (l.map (.int .i64))
theorem take_succ_eq {α : Type} {l : List α} {i : Nat} {a : α} (h : l[i]? = some a) : l.take (i + 1) = l.take i ++ [a] := by
  rw [List.take_add_one, h]; rfl
def U64s (s : St) (v : Value) (l : List Int) : Prop := Sl s v 1 l.length (l.map (.int .u64))
structure Row where
  k : Int
  w0 : Int
  w1 : Int
  w2 : Int
  w3 : Int
  ql : Int
  qr : Int
  qm : Int
  qo : Int
  qc : Int
  rd : Int
def Row.cells (r : Row) : List Value := [.int .u8 r.k, .int .i64 r.w0, .int .i64 r.w1, .int .i64 r.w2, .int .i64 r.w3, .int .u64 r.ql, .int .u64 r.qr, .int .u64 r.qm, .int .u64 r.qo, .int .u64 r.qc, .int .i64 r.rd]
def rowCells (l : List Row) : List Value := l.flatMap Row.cells
theorem rowCells_len : ∀ (l : List Row), (rowCells l).length = l.length * 11
  | [] => rfl
  | r :: l => by
    have := rowCells_len l
    simp only [rowCells, List.flatMap_cons, List.length_append, List.length_cons] at this ⊢
    rw [this, Nat.add_mul, Nat.add_comm]; rfl
abbrev ptr (B : Nat) : Value := .pointer (some ⟨B, 0, none⟩)
theorem drop_cons {α : Type} {l : List α} {i : Nat} (h : i < l.length) : l.drop i = l[i] :: l.drop (i + 1) := List.drop_eq_getElem_cons h
theorem xleave_U [Memo] {P : Program} {ro : Nat} {s0 : St} {rs : List ResultVar} {K : Value → St → Prop} {τ : Tau} {l : AL} {ds : List Deferred} {s : St} : xleave (prims P ro) s0 rs K .ret τ l ds s = xleave (prims P ro) s0 rs K .ret (U τ l) [] ds s := by
  simp only [xleave, xresL_eq, U]
theorem fin_flat {si s : St} {K : Value → St → Prop} {v : Value} (hf : flat' v = true) (hg : Grew (ent si) s) (h : K v si) : wfin si K v s := by
  rw [wfin_flat (by rw [hg.lo]; exact Nat.le_refl _) hf]; exact h
def Row.w (r : Row) : Nat → Int
  | 0 => r.w0
  | 1 => r.w1
  | 2 => r.w2
  | _ => r.w3
theorem rc0 (r : Row) : r.cells[0]? = some (.int .u8 r.k) := rfl
theorem rc1 (r : Row) : r.cells[1]? = some (.int .i64 r.w0) := rfl
theorem rc2 (r : Row) : r.cells[2]? = some (.int .i64 r.w1) := rfl
theorem rc3 (r : Row) : r.cells[3]? = some (.int .i64 r.w2) := rfl
theorem rc4 (r : Row) : r.cells[4]? = some (.int .i64 r.w3) := rfl
theorem rc5 (r : Row) : r.cells[5]? = some (.int .u64 r.ql) := rfl
theorem rc6 (r : Row) : r.cells[6]? = some (.int .u64 r.qr) := rfl
theorem rc7 (r : Row) : r.cells[7]? = some (.int .u64 r.qm) := rfl
theorem rc8 (r : Row) : r.cells[8]? = some (.int .u64 r.qo) := rfl
theorem rc9 (r : Row) : r.cells[9]? = some (.int .u64 r.qc) := rfl
theorem rc10 (r : Row) : r.cells[10]? = some (.int .i64 r.rd) := rfl
theorem rcw (r : Row) : ∀ {k : Nat}, k < 4 → r.cells[1 + k]? = some (.int .i64 (r.w k))
  | 0, _ => rfl
  | 1, _ => rfl
  | 2, _ => rfl
  | 3, _ => rfl
theorem rcAll (r : Row) : cut r.cells 0 11 = some r.cells := rfl
structure Gp where
  f : Int
  nv : Int
  pub : Int
  sec : Int
  rows : List Row
def Gp.cells (g : Gp) (u : Value) : List Value := [.int .i64 g.f, .int .i64 g.nv, .int .i64 g.pub, .int .i64 g.sec, u]
theorem gc0 (g : Gp) (u : Value) : (g.cells u)[0]? = some (.int .i64 g.f) := rfl
theorem gc1 (g : Gp) (u : Value) : (g.cells u)[1]? = some (.int .i64 g.nv) := rfl
theorem gc2 (g : Gp) (u : Value) : (g.cells u)[2]? = some (.int .i64 g.pub) := rfl
theorem gc3 (g : Gp) (u : Value) : (g.cells u)[3]? = some (.int .i64 g.sec) := rfl
theorem gc4 (g : Gp) (u : Value) : (g.cells u)[4]? = some u := rfl
theorem gcAll (g : Gp) (u : Value) : cut (g.cells u) 0 5 = some (g.cells u) := rfl
theorem gcVeq (g : Gp) {u : Value} (h : veq u u = true) : veq (.agg (g.cells u).toArray) (.agg (g.cells u).toArray) = true := by simp [veq, veqA, veqL, Gp.cells, h]
theorem rcVeq (r : Row) : veq (.agg r.cells.toArray) (.agg r.cells.toArray) = true := by simp [veq, veqA, veqL, Row.cells]
theorem slVeq {s : St} {v : Value} {sz n : Nat} {cs : List Value} (h : Sl s v sz n cs) : veq v v = true := by
  obtain ⟨a, c, rfl, _⟩ := h
  simp [veq]
def RowsS (s : St) (u : Value) (l : List Row) : Prop := Sl s u 11 l.length (rowCells l)
theorem rowCells_cut : ∀ (l : List Row) {i : Nat} {r : Row}, l[i]? = some r → cut (rowCells l) (i * 11) 11 = some r.cells
  | [], i, r, h => by simp at h
  | x :: l, 0, r, h => by
    simp only [List.getElem?_cons_zero, Option.some.injEq] at h
    subst h
    rw [cut_eq (by rw [rowCells_len]; simp only [List.length_cons]; omega)]
    rfl
  | x :: l, i + 1, r, h => by
    simp only [List.getElem?_cons_succ] at h
    have ih := rowCells_cut l h
    have hl : i < l.length := by
      have := List.getElem?_eq_some_iff.1 h
      exact this.1
    have e : rowCells (x :: l) = x.cells ++ rowCells l := rfl
    have hx : x.cells.length = 11 := rfl
    rw [cut_eq (by rw [rowCells_len]; omega)] at ih
    rw [cut_eq (by rw [rowCells_len]; simp only [List.length_cons]; omega), e, List.drop_append, List.drop_of_length_le (by omega), List.nil_append, show (i + 1) * 11 - x.cells.length = i * 11 by omega]
    exact ih
theorem rowCells_get (l : List Row) {i : Nat} {r : Row} (h : l[i]? = some r) {k : Nat} (hk : k < 11) : (rowCells l)[i * 11 + k]? = r.cells[k]? := by
  have hc := rowCells_cut l h
  have hl : i < l.length := (List.getElem?_eq_some_iff.1 h).1
  rw [cut_eq (by rw [rowCells_len]; omega)] at hc
  have := Option.some.inj hc
  rw [← this, List.getElem?_take, if_pos hk, List.getElem?_drop]
structure RowIn (s : St) (A o : Nat) (c : List Value) (r : Row) : Prop where
  blk : acells (s.at A) = some c
  at_ : ∀ k, k < 11 → c[o + k]? = r.cells[k]?
  all : cut c o 11 = some r.cells
theorem RowsS.ix {s : St} {u : Value} {l : List Row} (h : RowsS s u l) {i : Nat} {r : Row} (hr : l[i]? = some r) : ∃ A o c, aindexAddr P 22 u (.int .i64 (i : Int)) = some (.pointer (some ⟨A, o, none⟩)) ∧ RowIn s A o c r := by
  have hl : i < l.length := (List.getElem?_eq_some_iff.1 hr).1
  obtain ⟨A, o, h1, h2, h3⟩ := Sl.ix h (by decide) (show (0 : Int) ≤ i by omega) (show (i : Int) < l.length by omega)
  have h0 := h3 0 11 (by decide) (by decide)
  simp only [Nat.add_zero] at h0
  rw [Int.toNat_natCast, rowCells_cut l hr] at h0
  cases hc : acells (s.at A) with
  | none => rw [hc] at h0; cases h0
  | some c =>
    rw [hc] at h0
    refine ⟨A, o, c, h1 se_22 isz_43, hc, fun k hk => ?_, h0⟩
    have := h2 k hk
    rw [hc, Int.toNat_natCast, rowCells_get l hr hk] at this
    exact this
theorem RowIn.kind {s : St} {A o : Nat} {c : List Value} {r : Row} (h : RowIn s A o c r) : c[o]? = some (.int .u8 r.k) := h.at_ 0 (by decide)
theorem RowIn.wire {s : St} {A o : Nat} {c : List Value} {r : Row} (h : RowIn s A o c r) {k : Nat} (hk : k < 4) : c[o + 1 + k]? = some (.int .i64 (r.w k)) := by
  have := h.at_ (1 + k) (by omega)
  rw [rcw r hk] at this
  simpa only [Nat.add_assoc] using this
theorem wix (A o : Nat) {k : Nat} (hk : k < 4) : aindexAddr P 41 (.pointer (some ⟨A, o, none⟩)) (.int .i64 (k : Int)) = some (.pointer (some ⟨A, o + k, none⟩)) := by
  rw [ixArr un_41 isz_3]
  unfold aplace
  rw [if_pos (by omega), Int.toNat_natCast, Nat.mul_one]
theorem six (A o : Nat) {k : Nat} (hk : k < 4) : aindexAddr P 39 (.pointer (some ⟨A, o, none⟩)) (.int .i64 (k : Int)) = some (.pointer (some ⟨A, o + k, none⟩)) := by
  rw [ixArr un_39 isz_38]
  unfold aplace
  rw [if_pos (by omega), Int.toNat_natCast, Nat.mul_one]
theorem wix0 (A o : Nat) : aindexAddr P 41 (.pointer (some ⟨A, o, none⟩)) (.int .i64 0) = some (.pointer (some ⟨A, o, none⟩)) := by kernel_rfl
theorem wix1 (A o : Nat) : aindexAddr P 41 (.pointer (some ⟨A, o, none⟩)) (.int .i64 1) = some (.pointer (some ⟨A, o + 1, none⟩)) := by kernel_rfl
theorem wix2 (A o : Nat) : aindexAddr P 41 (.pointer (some ⟨A, o, none⟩)) (.int .i64 2) = some (.pointer (some ⟨A, o + 2, none⟩)) := by kernel_rfl
theorem Sl.at1 {s : St} {v : Value} {n : Nat} {cs : List Value} (h : Sl s v 1 n cs) {t e : TypeId} (hse : sliceElem P t = some e) (hs : isz P e = some 1) {i : Int} {x : Value} (h0 : 0 ≤ i) (hi : i < n) (hx : cs[i.toNat]? = some x) : ∃ A o c, aindexAddr P t v (.int .i64 i) = some (.pointer (some ⟨A, o, none⟩)) ∧ acells (s.at A) = some c ∧ c[o]? = some x := by
  obtain ⟨A, o, h1, h2, _⟩ := Sl.ix h (by decide) h0 hi
  have := h2 0 (by decide)
  rw [Nat.add_zero, Nat.mul_one, Nat.add_zero, hx] at this
  cases hc : acells (s.at A) with
  | none => rw [hc] at this; cases this
  | some c => rw [hc] at this; exact ⟨A, o, c, h1 hse hs, hc, this⟩
theorem Ints.at1 {s : St} {v : Value} {l : List Int} (h : Ints s v l) {i : Int} {x : Int} (h0 : 0 ≤ i) (hx : l[i.toNat]? = some x) : ∃ A o c, aindexAddr P 49 v (.int .i64 i) = some (.pointer (some ⟨A, o, none⟩)) ∧ acells (s.at A) = some c ∧ c[o]? = some (.int .i64 x) := by
  have hl : i.toNat < l.length := (List.getElem?_eq_some_iff.1 hx).1
  exact Sl.at1 h se_49 isz_3 h0 (by omega) (by rw [List.getElem?_map, hx]; rfl)
theorem U64s.at1 {s : St} {v : Value} {l : List Int} (h : U64s s v l) {i : Int} {x : Int} (h0 : 0 ≤ i) (hx : l[i.toNat]? = some x) : ∃ A o c, aindexAddr P 25 v (.int .i64 i) = some (.pointer (some ⟨A, o, none⟩)) ∧ acells (s.at A) = some c ∧ c[o]? = some (.int .u64 x) := by
  have hl : i.toNat < l.length := (List.getElem?_eq_some_iff.1 hx).1
  exact Sl.at1 h se_25 isz_38 h0 (by omega) (by rw [List.getElem?_map, hx]; rfl)
theorem Sl.sameAt {s s' : St} {v : Value} {sz n : Nat} {cs : List Value} (h : Sl s v sz n cs) (hs : ∀ A o sp n c, v = .slice (some ⟨A, o, sp⟩) n c → s'.at A = s.at A) : Sl s' v sz n cs := by
  obtain ⟨a, c, rfl, hl, hx, h⟩ := h
  refine ⟨a, c, rfl, hl, hx, fun hn => ?_⟩
  obtain ⟨A, o, m, cells, t, op, rfl, hm, hA, hc⟩ := h hn
  exact ⟨A, o, m, cells, t, op, rfl, hm, by rw [hs A o m n c rfl]; exact hA, hc⟩
def QOk (Q : Ex → XK) : Prop := ∃ Q' : Ex → WK, ∀ ex τ l ds s, Q ex τ l ds s = Q' ex (U τ l) ds s
theorem QOk.lift (Q : Ex → WK) : QOk (lift Q) := ⟨Q, fun _ _ _ _ _ => rfl⟩
theorem QOk.leave [Memo] {P : Program} {ro : Nat} {s0 : St} {rs : List ResultVar} {K : Value → St → Prop} : QOk (xleave (prims P ro) s0 rs K) := ⟨wleave P ro s0 rs K, fun ex τ l ds s => by
  cases ex with
  | exit id => rfl
  | _ => simp only [xleave, wleave, xresL_eq, xdefers_eq, pr_fin]⟩
theorem QOk.blk {Q : Ex → XK} (h : QOk Q) (id : Nat) : QOk (blkX id Q) := by
  obtain ⟨Q', h⟩ := h
  refine ⟨blkW id Q', fun ex τ l ds s => ?_⟩
  cases ex with
  | exit j =>
    simp only [blkX, blkW]
    cases Nat.beq j id
    · exact h _ _ _ _ _
    · exact h _ _ _ _ _
  | _ => exact h _ _ _ _ _
theorem QOk.sX [Memo] {P : Program} {ro : Nat} {rnd : Option Nat} {N : Nat} {cuts : List (List Nat)} {b : Code} {p : List Nat} {Q : Ex → XK} (h : QOk Q) : QOk (sX (prims P ro) rnd N cuts b p Q) := by
  obtain ⟨Q', h⟩ := h
  refine ⟨thenW (fun τ ds s => wp P ro N rnd b τ ds s Q') Q', fun ex τ l ds s => ?_⟩
  cases ex with
  | normal =>
    simp only [Go.VE.sX, thenX, thenW]
    cases cutAt cuts p with
    | true => exact xp_eq rnd N cuts b h
    | false => exact xp_eq rnd N cuts b h
  | _ => exact h _ _ _ _ _
theorem blkX_n (id : Nat) (Q : Ex → XK) : blkX id Q .normal = Q .normal := rfl
theorem sX_n [Memo] {P : Program} {ro : Nat} {rnd : Option Nat} {N : Nat} {cuts : List (List Nat)} {b : Code} {p : List Nat} {Q : Ex → XK} (h : QOk Q) {τ : Tau} {l : AL} {ds : List Deferred} {s : St} : sX (prims P ro) rnd N cuts b p Q .normal τ l ds s = xp (prims P ro) rnd N cuts b p (U τ l) [] ds s Q := by
  obtain ⟨Q', h⟩ := h
  simp only [Go.VE.sX, thenX]
  have e : xp (prims P ro) rnd N cuts b p τ l ds s Q = xp (prims P ro) rnd N cuts b p (U τ l) [] ds s Q := by
    rw [xp_eq rnd N cuts b h, xp_eq rnd N cuts b h]; rfl
  cases cutAt cuts p with
  | true => rfl
  | false => exact e
theorem wL : type_of% (And.intro @wop_load <| And.intro @wop_indexAddr <| And.intro @wix0 <| And.intro @wix1 <| And.intro @wix2 <| And.intro @rcAll <| And.intro @gcAll <| And.intro (fun {s : St} {A o : Nat} => @load1 P s _ A o ap_38) <| And.intro (fun {s : St} {A o : Nat} => @load1 P s _ A o ap_3) <| And.intro (fun {s : St} {A o : Nat} => @load1 P s _ A o ap_4) <| And.intro (fun {s : St} {A o : Nat} => @load1 P s _ A o ap_40) <| And.intro (fun {s : St} {A o : Nat} => @load1 P s _ A o ap_22) <| And.intro (fun {s : St} {A o : Nat} => @loadN P s _ A o _ ap_43) <| And.intro (fun {s : St} {A o : Nat} => @loadN P s _ A o _ ap_24) <| And.intro (fun {s : St} {A o : Nat} => @loadN P s _ A o _ ap_39) <| And.intro @fa_43_0 <| And.intro @fa_43_1 <| And.intro @fa_43_2 <| And.intro @fa_43_3 <| And.intro @fa_43_4 <| And.intro @fa_43_5 <| And.intro @fa_43_6 <| And.intro @fa_43_7 <| And.intro @fa_24_0 <| And.intro @fa_24_1 <| And.intro @fa_24_2 <| And.intro @fa_24_3 <| And.intro @fa_24_4 <| And.intro @rc0 <| And.intro @rc1 <| And.intro @rc2 <| And.intro @rc3 <| And.intro @rc4 <| And.intro @rc5 <| And.intro @rc6 <| And.intro @rc7 <| And.intro @rc8 <| And.intro @rc9 <| And.intro @rc10 <| And.intro @gc0 <| And.intro @gc1 <| And.intro @gc2 <| And.intro @gc3 <| @gc4) := And.intro @wop_load <| And.intro @wop_indexAddr <| And.intro @wix0 <| And.intro @wix1 <| And.intro @wix2 <| And.intro @rcAll <| And.intro @gcAll <| And.intro (fun {s : St} {A o : Nat} => @load1 P s _ A o ap_38) <| And.intro (fun {s : St} {A o : Nat} => @load1 P s _ A o ap_3) <| And.intro (fun {s : St} {A o : Nat} => @load1 P s _ A o ap_4) <| And.intro (fun {s : St} {A o : Nat} => @load1 P s _ A o ap_40) <| And.intro (fun {s : St} {A o : Nat} => @load1 P s _ A o ap_22) <| And.intro (fun {s : St} {A o : Nat} => @loadN P s _ A o _ ap_43) <| And.intro (fun {s : St} {A o : Nat} => @loadN P s _ A o _ ap_24) <| And.intro (fun {s : St} {A o : Nat} => @loadN P s _ A o _ ap_39) <| And.intro @fa_43_0 <| And.intro @fa_43_1 <| And.intro @fa_43_2 <| And.intro @fa_43_3 <| And.intro @fa_43_4 <| And.intro @fa_43_5 <| And.intro @fa_43_6 <| And.intro @fa_43_7 <| And.intro @fa_24_0 <| And.intro @fa_24_1 <| And.intro @fa_24_2 <| And.intro @fa_24_3 <| And.intro @fa_24_4 <| And.intro @rc0 <| And.intro @rc1 <| And.intro @rc2 <| And.intro @rc3 <| And.intro @rc4 <| And.intro @rc5 <| And.intro @rc6 <| And.intro @rc7 <| And.intro @rc8 <| And.intro @rc9 <| And.intro @rc10 <| And.intro @gc0 <| And.intro @gc1 <| And.intro @gc2 <| And.intro @gc3 <| @gc4
end Go.VE
/- The reference of the gates: Reads, below. -/
namespace Go.VE
open Go Go.Proofs
set_option maxRecDepth 20000
structure Ac (e : TypeId) (sz : Nat) (s0 s : St) (v : Value) (n : Nat) (cs : List Value) (oA : Option Nat) : Prop where
  own : Own s v e sz n cs oA
  fresh : ∀ A, oA = some A → s0.n ≤ A
  wf : Wf s
  grew : Grew s0 s
section
variable {ro : Nat} {K : Value → St → Prop}
theorem Ac.nil {e : TypeId} {sz : Nat} {s0 s : St} (hw : Wf s) (hg : Grew s0 s) : Ac e sz s0 s (.slice none 0 0) 0 [] none := ⟨⟨rfl, rfl, rfl⟩, fun _ h => (by cases h), hw, hg⟩
theorem Ac.pushs {t e : TypeId} {sz bytes : Nat} {z : Value} (hse : sliceElem P t = some e) (hni : notInt P t = true) (hty : tyOk P e sz bytes z = true) (hsz : 0 < sz) (hsm : sz ≤ 100) (hby : 0 < bytes) {s0 s : St} {v : Value} {n : Nat} {cs : List Value} {oA : Option Nat} (h : Ac e sz s0 s v n cs oA) (hw0 : Wf s0) (hro : ro ≤ s0.n)
    {m : Nat} {ps : List (Nat × Operand)} {vs new : List Value} (hps : partVals .e ps = enumP vs 0) (hm : vs.length = m) (hm0 : 0 < m) (hm1 : m ≤ 1000) (hv : ∀ v ∈ vs, v.cells.size = sz) (hx : vs.flatMap (·.cells.toList) = new) (hl : new.length = m * sz) (h1 : new.all (·.oneCell') = true) (hlim : (2 * (n + m) + 1000) * bytes ≤ 2 ^ 47) {ty ty' : TypeId} {K : Value → Value → St → Prop}
    (hk : ∀ v1 v2 A s2, Ac e sz s0 s2 v2 (n + m) (cs ++ new) (some A) → s.n ≤ A → (∀ C, C < s.n → oA ≠ some C → s2.at C = s.at C) → K v1 v2 s2) :
    wop P ro (.buildSlice t m ⟨ps⟩) ty s fun v1 s1 => wop P ro (.call ⟨.builtin .append, ⟨[.const v, .const v1]⟩, #[t, t]⟩) ty' s1 (fun v2 s2 => K v1 v2 s2) := by
  have hms : m * sz ≤ 1000 * 100 := Nat.mul_le_mul hm1 hsm
  refine buildSlice_rule hse hty h.wf vs hps hm (by omega) hv fun A s1 m1 => ?_
  rw [hx] at m1
  refine append_rule hse hni hty hsz hby (h.own.grew m1.grew) (m1.sl (n := m) hl) hm0 m1.wf (fun B hB => Nat.le_trans hro (h.fresh B hB)) hlim h1 fun v2 s2 o2 a2 => ?_
  have hgn := h.grew.n
  have e1 := m1.eq
  have n1 := m1.n
  refine hk _ v2 s1.n s2 ⟨o2, fun B hB => by cases hB; omega, a2.wf, a2.grew s0 hw0 (h.grew.trans m1.grew) h.fresh⟩ (by omega) fun C hC hne => ?_
  rw [a2.rest C (by omega) hne]
  exact m1.grew.same C hC
theorem Ac.push {t e : TypeId} {sz bytes : Nat} {z : Value} (hse : sliceElem P t = some e) (hni : notInt P t = true) (hty : tyOk P e sz bytes z = true) (hsz : 0 < sz) (hsm : sz ≤ 100) (hby : 0 < bytes) {s0 s : St} {v : Value} {n : Nat} {cs : List Value} {oA : Option Nat} (h : Ac e sz s0 s v n cs oA) (hw0 : Wf s0) (hro : ro ≤ s0.n)
    {x : Value} {new : List Value} (hx : x.cells.toList = new) (hl : new.length = sz) (h1 : new.all (·.oneCell') = true) (hlim : (2 * (n + 1) + 1000) * bytes ≤ 2 ^ 47) {ty ty' : TypeId} {K : Value → Value → St → Prop}
    (hk : ∀ v1 v2 A s2, Ac e sz s0 s2 v2 (n + 1) (cs ++ new) (some A) → s.n ≤ A → (∀ C, C < s.n → oA ≠ some C → s2.at C = s.at C) → K v1 v2 s2) :
    wop P ro (.buildSlice t 1 ⟨[(0, .const x)]⟩) ty s fun v1 s1 => wop P ro (.call ⟨.builtin .append, ⟨[.const v, .const v1]⟩, #[t, t]⟩) ty' s1 (fun v2 s2 => K v1 v2 s2) := by
  have hsx : x.cells.size = sz := by rw [← hl, ← hx]; simp
  exact h.pushs hse hni hty hsz hsm hby hw0 hro (m := 1) (vs := [x]) rfl rfl (by decide) (by decide) (fun u hu => by simp only [List.mem_cons, List.not_mem_nil, or_false] at hu; rw [hu]; exact hsx) (by simp [hx]) (by rw [hl, Nat.one_mul]) h1 hlim hk
def rds (r : Row) : List Int :=
  if r.k = 1 then (if r.ql ≠ 0 ∨ r.qm ≠ 0 then [0] else []) ++ (if r.qr ≠ 0 ∨ r.qm ≠ 0 then [1] else []) ++ (if r.qo ≠ 0 then [2] else [])
  else if r.k = 2 then [0] else if r.k = 3 then [0, 1, 2, 3] else []
theorem Ac.fin {s : St} {sz : Nat} {e : TypeId} {s1 : St} {v : Value} {n : Nat} {cs : List Value} {oA : Option Nat} (h : Ac e sz (ent s) s1 v n cs oA) (hw : Wf s) (hk : ∀ s', Grew s s' → Sl s' v sz n cs → K v s') : wfin s K v s1 :=
  wfin_sl hw h.grew h.own.sl hk
theorem wReads (r : Row) {s : St} (hw : Wf s) (hro : ro ≤ s.n) (hk : ∀ v s', Grew s s' → Ints s' v (rds r) → K v s') : CallWP P ro 53 [.agg (.mk r.cells)] s K := by
  refine call_wp b53 rfl ?_
  rw [n53]
  unfold v53
  simp (maxSteps := 10000000) only [wW, reduceCtorEq, Nat.reduceEqDiff]
  refine box_rule hw.ent fun R s1 m1 => ?_
  have hR : s1.at R = some (.cells r.cells 43 false) := m1.here
  have hR1 : acells (s1.at R) = some r.cells := acells_some hR
  simp (maxSteps := 10000000) only [wW, reduceCtorEq, Nat.reduceEqDiff, wL, Nat.reduceAdd, hR1]
  have a1 : Ac 3 1 (ent s) s1 (.slice none 0 0) 0 [] none := .nil m1.wf m1.grew
  have fin : ∀ {v : Value} {s2 : St} {oA : Option Nat} {l : List Int}, Ac 3 1 (ent s) s2 v l.length (l.map (.int .i64)) oA → l = rds r → wfin s K v s2 := fun {v s2 oA l} ha hl => by
    refine ha.fin hw fun s' hg hs => hk v s' hg ?_
    unfold Ints
    rw [← hl]
    exact hs
  have hn1 := m1.n
  have he1 := m1.eq
  have hne : (ent s).n = s.n := rfl
  have push : ∀ {s2 : St} {v : Value} {l : List Int} {oA : Option Nat} (x : Int), Ac 3 1 (ent s) s2 v l.length (l.map (.int .i64)) oA → l.length ≤ 100 → ∀ {K : Value → Value → St → Prop}, (∀ v1 v2 A s3, Ac 3 1 (ent s) s3 v2 (l ++ [x]).length ((l ++ [x]).map (.int .i64)) (some A) → s2.n ≤ A → (∀ C, C < s2.n → oA ≠ some C → s3.at C = s2.at C) → K v1 v2 s3) →
      wop P ro (.buildSlice 49 1 ⟨[(0, .const (.int .i64 x))]⟩) 49 s2 fun v1 s1 => wop P ro (.call ⟨.builtin .append, ⟨[.const v, .const v1]⟩, #[49, 49]⟩) 49 s1 (fun v2 s2 => K v1 v2 s2) := fun {s2 v l oA} x ha hl {K} hk => by
    refine ha.push se_49 (by kernel_rfl) ty_3 (by decide) (by decide) (by decide) hw.ent hro rfl rfl rfl (by omega) fun v1 v2 A s3 h3 hA hC => hk v1 v2 A s3 ?_ hA hC
    rw [List.map_append, List.length_append]
    exact h3
  have third : ∀ {s2 : St} {v : Value} {l : List Int} {oA : Option Nat} {τ : Tau}, Ac 3 1 (ent s) s2 v l.length (l.map (.int .i64)) oA → l = rds r → ∀ (al : AL), U τ al 3 = v →
      blkX 0 (sX (prims P ro) none 47 k53 c53_111 [1, 1, 1] (xleave (prims P ro) s Tryd.f53.results.toList K)) .normal τ al [] s2 := fun {s2 v l oA τ} ha hl al hv => by
    rw [blkX_n, sX_n .leave, n53_111]
    unfold v53_111
    rw [xleave_U, r53]
    simp (maxSteps := 10000000) only [wW, reduceCtorEq, Nat.reduceEqDiff, U, tset_eq, Nat.reduceEqDiff] at hv ⊢
    rw [hv]
    exact fin ha hl
  have second : ∀ {s2 : St} {v : Value} {l : List Int} {oA : Option Nat} {τ : Tau}, τ 3 = v → τ 1 = ptr R → Ac 3 1 (ent s) s2 v l.length (l.map (.int .i64)) oA → (∀ A, oA = some A → A ≠ R) → l.length ≤ 50 → acells (s2.at R) = some r.cells → l ++ ((if r.qr ≠ 0 ∨ r.qm ≠ 0 then [1] else []) ++ (if r.qo ≠ 0 then [2] else [])) = rds r →
      xp (prims P ro) none 47 k53 c53_11010101 [1, 0, 1, 0, 1, 0, 1, 1] τ [] [] s2 (blkX 0 (sX (prims P ro) none 47 k53 c53_111 [1, 1, 1] (xleave (prims P ro) s Tryd.f53.results.toList K))) := fun {s2 v l oA τ} h3 h1 ha hAR hlen hR2 hl => by
    have hRn : R < s2.n := by
      rw [St.at_eq] at hR2
      split at hR2
      · assumption
      · cases hR2
    have fourth : ∀ {s2 : St} {v : Value} {l : List Int} {oA : Option Nat}, Ac 3 1 (ent s) s2 v l.length (l.map (.int .i64)) oA → l.length ≤ 60 → l ++ (if r.qo ≠ 0 then [2] else []) = rds r → acells (s2.at R) = some r.cells → ∀ {Y : Value → Value → St → Prop} {N : Prop},
        (r.qo ≠ 0 → ∀ v1 v2 s3, (∀ al : AL, U τ al 3 = v2 → blkX 0 (sX (prims P ro) none 47 k53 c53_111 [1, 1, 1] (xleave (prims P ro) s Tryd.f53.results.toList K)) .normal τ al [] s3) → Y v1 v2 s3) →
        (r.qo = 0 → (∀ al : AL, U τ al 3 = v → blkX 0 (sX (prims P ro) none 47 k53 c53_111 [1, 1, 1] (xleave (prims P ro) s Tryd.f53.results.toList K)) .normal τ al [] s2) → N) →
        if ¬r.qo = 0 then wop P ro (.buildSlice 49 1 ⟨[(0, .const (.int .i64 2))]⟩) 49 s2 fun v1 s1 => wop P ro (.call ⟨.builtin .append, ⟨[.const v, .const v1]⟩, #[49, 49]⟩) 49 s1 (fun v2 s2 => Y v1 v2 s2) else N := fun {s2 v l oA} ha hlen hl hR2 {Y N} hY hN => by
      by_cases hq : r.qo = 0
      · rw [if_neg (by simpa using hq)]
        refine hN hq fun al hal => third (τ := τ) ha ?_ al hal
        rw [if_neg (by simpa using hq), List.append_nil] at hl
        exact hl
      · rw [if_pos hq]
        refine push 2 ha (by omega) fun v1 v2 A s3 a3 hA hC => hY hq v1 v2 s3 fun al hal => third (τ := τ) a3 ?_ al hal
        rw [if_pos hq] at hl
        exact hl
    rw [n53_11010101]
    unfold v53_11010101
    simp (maxSteps := 10000000) only [wW, reduceCtorEq, Nat.reduceEqDiff, wL, Nat.reduceAdd, h1, h3, hR2]
    have step : l.length ≤ 50 → ∀ {Y : Value → Value → St → Prop}, (r.qr ≠ 0 ∨ r.qm ≠ 0) → (∀ v1 v2 A s3, Ac 3 1 (ent s) s3 v2 (l ++ [1]).length ((l ++ [1]).map (.int .i64)) (some A) → acells (s3.at R) = some r.cells → (l ++ [1]) ++ (if r.qo ≠ 0 then [2] else []) = rds r → Y v1 v2 s3) →
        wop P ro (.buildSlice 49 1 ⟨[(0, .const (.int .i64 1))]⟩) 49 s2 fun v1 s1 => wop P ro (.call ⟨.builtin .append, ⟨[.const v, .const v1]⟩, #[49, 49]⟩) 49 s1 (fun v2 s2 => Y v1 v2 s2) := fun hlen {Y} hq hY => by
      refine push 1 ha (by omega) fun v1 v2 A s3 a3 hA hC => hY v1 v2 A s3 a3 ?_ ?_
      · rw [hC R hRn fun e => hAR R e rfl]; exact hR2
      · rw [if_pos hq, ← List.append_assoc] at hl
        exact hl
    by_cases hq1 : r.qr = 0
    · rw [if_neg (by simpa using hq1)]
      by_cases hq2 : r.qm = 0
      · rw [if_neg (by simpa using hq2)]
        rw [if_neg (by simp [hq1, hq2]), List.nil_append] at hl
        refine fourth ha (by omega) hl hR2 (fun hq v1 v2 s3 hh => ?_) (fun hq hh => ?_)
        · exact hh _ (by simp only [U, tset_eq, Nat.reduceEqDiff, if_true, if_false])
        · exact hh _ (by simp only [U, tset_eq, Nat.reduceEqDiff, if_true, if_false, h3])
      · rw [if_pos hq2]
        refine step hlen (.inr hq2) fun v1 v2 A s3 a3 hR3 hl3 => ?_
        simp (maxSteps := 10000000) only [wW, reduceCtorEq, Nat.reduceEqDiff, wL, Nat.reduceAdd, h1, h3, hR3]
        refine fourth a3 (by simp; omega) hl3 hR3 (fun hq v1 v2 s3 hh => ?_) (fun hq hh => ?_)
        · exact hh _ (by simp only [U, tset_eq, Nat.reduceEqDiff, if_true, if_false])
        · exact hh _ (by simp only [U, tset_eq, Nat.reduceEqDiff, if_true, if_false])
    · rw [if_pos hq1]
      refine step hlen (.inl hq1) fun v1 v2 A s3 a3 hR3 hl3 => ?_
      simp (maxSteps := 10000000) only [wW, reduceCtorEq, Nat.reduceEqDiff, wL, Nat.reduceAdd, h1, h3, hR3]
      refine fourth a3 (by simp; omega) hl3 hR3 (fun hq v1 v2 s3 hh => ?_) (fun hq hh => ?_)
      · exact hh _ (by simp only [U, tset_eq, Nat.reduceEqDiff, if_true, if_false])
      · exact hh _ (by simp only [U, tset_eq, Nat.reduceEqDiff, if_true, if_false])
  by_cases h1 : r.k = 1
  · rw [if_pos h1]
    have hrd : rds r = (if r.ql ≠ 0 ∨ r.qm ≠ 0 then [0] else []) ++ ((if r.qr ≠ 0 ∨ r.qm ≠ 0 then [1] else []) ++ (if r.qo ≠ 0 then [2] else [])) := by
      unfold rds; rw [if_pos h1, List.append_assoc]
    have first : (r.ql ≠ 0 ∨ r.qm ≠ 0) → ∀ {Y : Value → Value → St → Prop}, (∀ v1 v2 s3, (∀ τ, τ 3 = v2 → τ 1 = ptr R → xp (prims P ro) none 47 k53 c53_11010101 [1, 0, 1, 0, 1, 0, 1, 1] τ [] [] s3 (blkX 0 (sX (prims P ro) none 47 k53 c53_111 [1, 1, 1] (xleave (prims P ro) s Tryd.f53.results.toList K)))) → Y v1 v2 s3) →
        wop P ro (.buildSlice 49 1 ⟨[(0, .const (.int .i64 0))]⟩) 49 s1 fun v1 s1 => wop P ro (.call ⟨.builtin .append, ⟨[.const (.slice none 0 0), .const v1]⟩, #[49, 49]⟩) 49 s1 (fun v2 s2 => Y v1 v2 s2) := fun hq {Y} hY => by
      refine push (l := []) 0 a1 (by decide) fun v1 v2 A s2 a2 hA hC => hY v1 v2 s2 fun τ h3 hp => second h3 hp a2 (fun B hB => ?_) (by simp) ?_ ?_
      · cases hB; omega
      · rw [hC R (by omega) (fun h => by cases h)]; exact hR1
      · rw [hrd, if_pos hq]; rfl
    by_cases hq1 : r.ql = 0
    · rw [if_neg (by simpa using hq1)]
      by_cases hq2 : r.qm = 0
      · rw [if_neg (by simpa using hq2)]
        refine second (l := []) ?_ ?_ a1 (fun _ h => by cases h) (by simp) hR1 ?_
        · simp only [U, tset_eq, Nat.reduceEqDiff, if_true, if_false]
        · simp only [U, tset_eq, Nat.reduceEqDiff, if_true, if_false]
        · rw [hrd]; simp only [hq1, hq2, ne_eq, not_true, or_self, if_false, List.nil_append]
      · rw [if_pos hq2]
        refine first (.inr hq2) fun v1 v2 s3 hh => hh _ ?_ ?_
        · simp only [U, tset_eq, Nat.reduceEqDiff, if_true, if_false]
        · simp only [U, tset_eq, Nat.reduceEqDiff, if_true, if_false]
    · rw [if_pos hq1]
      refine first (.inl hq1) fun v1 v2 s3 hh => hh _ ?_ ?_
      · simp only [U, tset_eq, Nat.reduceEqDiff, if_true, if_false]
      · simp only [U, tset_eq, Nat.reduceEqDiff, if_true, if_false]
  · rw [if_neg h1]
    by_cases h2 : r.k = 2
    · rw [if_pos h2]
      refine push (l := []) 0 a1 (by decide) fun v1 v2 A s2 a2 _ _ => fin a2 ?_
      simp [rds, h1, h2]
    · rw [if_neg h2]
      by_cases h3 : r.k = 3
      · rw [if_pos h3]
        refine a1.pushs se_49 (by kernel_rfl) ty_3 (by decide) (by decide) (by decide) hw.ent hro (vs := [.int .i64 0, .int .i64 1, .int .i64 2, .int .i64 3]) rfl rfl (by decide) (by decide) (by simp [Value.cells]) rfl rfl rfl (by decide) fun v1 v2 A s3 a3 _ _ => fin (l := [0, 1, 2, 3]) a3 ?_
        simp [rds, h3]
      · rw [if_neg h3]
        exact fin (l := []) a1 (by simp [rds, h1, h2, h3])
end
end Go.VE
/- The reference of the gates: below, sum. -/
namespace Go.VE
open Go Go.Proofs
set_option maxRecDepth 20000
def below (f : Int) (l : List Int) : Bool := l.all fun x => decide (x < fP f)
def at0 (l : List Int) (i : Int) : Int := (l[i.toNat]?).getD 0
theorem at0_get {l : List Int} {i : Int} (h0 : 0 ≤ i) (hi : i < l.length) : l[i.toNat]? = some (at0 l i) := by
  unfold at0
  rw [List.getElem?_eq_getElem (by omega)]; rfl
def sumA (r : Row) (vals : List Int) : Int := if r.ql ≠ 0 ∨ r.qm ≠ 0 then at0 vals r.w0 else 0
def sumB (r : Row) (vals : List Int) : Int := if r.qr ≠ 0 ∨ r.qm ≠ 0 then at0 vals r.w1 else 0
def sumM (f : Int) (r : Row) (vals : List Int) : Int :=
  fAdd f (fAdd f (fAdd f (fMul f r.ql (sumA r vals)) (fMul f r.qr (sumB r vals))) (fMul f r.qm (fMul f (sumA r vals) (sumB r vals)))) r.qc
structure Row.Nn (r : Row) : Prop where
  ql : 0 ≤ r.ql
  qr : 0 ≤ r.qr
  qm : 0 ≤ r.qm
  qo : 0 ≤ r.qo
  qc : 0 ≤ r.qc
section
variable {ro : Nat} {K : Value → St → Prop}
theorem wBelow (f : Int) {s : St} {v : Value} {l : List Int} (hl : U64s s v l) (hlen : l.length < 2 ^ 62) : CallWP P ro 24 [.int .i64 f, v] s K = K (.bool (below f l)) s := by
  refine callEq (call_wp b24 rfl ?_) K
  rw [n24]
  unfold v24
  simp (maxSteps := 10000000) only [wW, reduceCtorEq, Nat.reduceEqDiff]
  refine wloop l24_10100 m24_10100 (fun (i : Nat) τ ds s' => τ 0 = .int .i64 f ∧ τ 1 = v ∧ τ 5 = .int .i64 i ∧ ds = [] ∧ s' = ent s ∧ i ≤ l.length ∧ below f (l.take i) = true) (fun i => l.length - i) ?_ 0 ⟨rfl, rfl, rfl, rfl, rfl, Nat.zero_le _, rfl⟩
  rintro i τ ds s' ⟨h0, h1, h5, rfl, rfl, hi, heq⟩
  rw [n24_10100]
  unfold v24_10100
  simp only [wW, reduceCtorEq, Nat.reduceEqDiff, h0, h1, h5, hl.wlen se_25]
  by_cases hlt : (i : Int) < l.length
  · have hlt' : i < l.length := by omega
    rw [if_pos hlt]
    obtain ⟨A, o, c, e1, e2, e3⟩ := U64s.at1 hl (i := (i : Int)) (x := l[i]) (by omega) (by simp [hlt'])
    simp only [wW, reduceCtorEq, Nat.reduceEqDiff, wL, Nat.reduceAdd, e1, e2, e3, wrP]
    refine ⟨by simp [veq], .refl _, ?_⟩
    by_cases hge : l[i] ≥ fP f
    · rw [if_pos hge, r24]
      simp only [wW, reduceCtorEq, Nat.reduceEqDiff]
      show wfin s _ (.bool false) (ent s)
      rw [wfin_flat (Nat.le_refl _) rfl]
      refine ⟨?_, rfl⟩
      have : below f l = false := by
        unfold below
        rw [List.all_eq_false]
        exact ⟨l[i], List.getElem_mem _, by simpa using hge⟩
      rw [this]
    · rw [if_neg hge]
      refine ⟨i + 1, by omega, h0, h1, ?_, trivial, trivial, hlt', ?_⟩
      · show Value.int .i64 (IntKind.i64.wrap ((i : Int) + 1)) = _
        rw [wrap_i64 (by omega) (by omega)]
        rfl
      · rw [take_succ_eq (List.getElem?_eq_getElem hlt')]
        unfold below at heq ⊢
        rw [List.all_append, heq]
        simp
        omega
  · rw [if_neg hlt, wfin_flat (Nat.le_refl _) rfl]
    refine ⟨?_, rfl⟩
    rw [List.take_of_length_le (by omega)] at heq
    rw [heq]
theorem wSum (f : Int) {r : Row} (hn : r.Nn) {s : St} {u : Value} {vals : List Int} (hw : Wf s) (hro : ro ≤ s.n) (hu : U64s s u vals) (hpos : ∀ x ∈ vals, 0 ≤ x)
    (h0 : r.ql ≠ 0 ∨ r.qm ≠ 0 → 0 ≤ r.w0 ∧ r.w0 < vals.length) (h1 : r.qr ≠ 0 ∨ r.qm ≠ 0 → 0 ≤ r.w1 ∧ r.w1 < vals.length) : CallWP P ro 35 [.int .i64 f, .agg (.mk r.cells), u] s K = K (.int .u64 (sumM f r vals)) s := by
  refine callEq (call_wp b35 rfl ?_) K
  rw [n35]
  unfold v35
  simp (maxSteps := 10000000) only [wW, reduceCtorEq, Nat.reduceEqDiff]
  refine box_rule hw.ent fun R s1 m1 => ?_
  have hR : acells (s1.at R) = some r.cells := acells_some m1.here
  simp (maxSteps := 10000000) only [wW, reduceCtorEq, Nat.reduceEqDiff, wL, Nat.reduceAdd, hR]
  have hu1 : U64s s1 u vals := (Sl.ent hu).grew m1.grew.same
  have hap : ∀ {i : Int}, 0 ≤ at0 vals i := fun {i} => by
    unfold at0
    cases h : vals[i.toNat]? with
    | none => exact Int.le_refl 0
    | some x => exact hpos x (List.mem_of_getElem? h)
  have nA : 0 ≤ sumA r vals := by unfold sumA; split; exact hap; exact Int.le_refl 0
  have nB : 0 ≤ sumB r vals := by unfold sumB; split; exact hap; exact Int.le_refl 0
  have last : ∀ {τ : Tau}, τ 0 = .int .i64 f → τ 4 = ptr R → τ 7 = .int .u64 (sumA r vals) → τ 8 = .int .u64 (sumB r vals) → xp (prims P ro) none 65 k35 c35_1111 [1, 1, 1, 1] τ [] [] s1 (xleave (prims P ro) s Tryd.f35.results.toList (fun v s' => v = .int .u64 (sumM f r vals) ∧ s' = s)) := fun {τ} t0 t4 t7 t8 => by
    rw [n35_1111]
    unfold v35_1111
    simp (maxSteps := 10000000) only [wW, reduceCtorEq, Nat.reduceEqDiff, wL, Nat.reduceAdd, t0, t4, t7, t8, hR, wrMul f hn.ql nA, wrMul f hn.qr nB, wrMul f nA nB, wrAdd f (fMul_bounds f r.ql (sumA r vals)).1 (fMul_bounds f r.qr (sumB r vals)).1, wrMul f hn.qm (fMul_bounds f (sumA r vals) (sumB r vals)).1,
      wrAdd f (fAdd_bounds f (fMul f r.ql (sumA r vals)) (fMul f r.qr (sumB r vals))).1 (fMul_bounds f r.qm (fMul f (sumA r vals) (sumB r vals))).1, wrAdd f (fAdd_bounds f (fAdd f (fMul f r.ql (sumA r vals)) (fMul f r.qr (sumB r vals))) (fMul f r.qm (fMul f (sumA r vals) (sumB r vals)))).1 hn.qc]
    refine ⟨by simp [veq], by simp [veq], .refl _, by simp [veq], by simp [veq], .refl _, .refl _, .refl _, ?_⟩
    rw [xleave_U, r35]
    simp (maxSteps := 10000000) only [wW, reduceCtorEq, Nat.reduceEqDiff, U, tset_eq]
    exact fin_flat rfl m1.grew ⟨rfl, rfl⟩
  have snd : ∀ {τ : Tau}, τ 0 = .int .i64 f → τ 2 = u → τ 4 = ptr R → τ 7 = .int .u64 (sumA r vals) → τ 8 = .int .u64 0 → xp (prims P ro) none 65 k35 c35_111 [1, 1, 1] τ [] [] s1 (xleave (prims P ro) s Tryd.f35.results.toList (fun v s' => v = .int .u64 (sumM f r vals) ∧ s' = s)) := fun {τ} t0 t2 t4 t7 t8 => by
    rw [n35_111]
    unfold v35_111
    simp (maxSteps := 10000000) only [wW, reduceCtorEq, Nat.reduceEqDiff, wL, Nat.reduceAdd, t0, t2, t4, t7, t8, hR]
    have rdB : (r.qr ≠ 0 ∨ r.qm ≠ 0) → ∃ A o c, aindexAddr P 25 u (.int .i64 r.w1) = some (.pointer (some ⟨A, o, none⟩)) ∧ acells (s1.at A) = some c ∧ c[o]? = some (.int .u64 (sumB r vals)) := fun hq => by
      have := h1 hq
      refine hu1.at1 this.1 ?_
      unfold sumB
      rw [if_pos hq]
      exact at0_get this.1 this.2
    by_cases hq1 : r.qr = 0
    · rw [if_neg (by simpa using hq1)]
      by_cases hq2 : r.qm = 0
      · rw [if_neg (by simpa using hq2)]
        have hz : sumB r vals = 0 := by unfold sumB; rw [if_neg (by simp [hq1, hq2])]
        refine last ?_ ?_ ?_ ?_ <;> simp only [U, tset_eq, Nat.reduceEqDiff, if_true, if_false, t0, t4, t7, t8, hz]
      · rw [if_pos hq2]
        obtain ⟨A, o, c, e1, e2, e3⟩ := rdB (.inr hq2)
        simp (maxSteps := 10000000) only [wW, reduceCtorEq, Nat.reduceEqDiff, wL, Nat.reduceAdd, e1, e2, e3]
        refine last ?_ ?_ ?_ ?_ <;> simp only [U, tset_eq, Nat.reduceEqDiff, if_true, if_false, t0, t4, t7, t8]
    · rw [if_pos hq1]
      obtain ⟨A, o, c, e1, e2, e3⟩ := rdB (.inl hq1)
      simp (maxSteps := 10000000) only [wW, reduceCtorEq, Nat.reduceEqDiff, wL, Nat.reduceAdd, e1, e2, e3]
      refine last ?_ ?_ ?_ ?_ <;> simp only [U, tset_eq, Nat.reduceEqDiff, if_true, if_false, t0, t4, t7, t8]
  have rdA : (r.ql ≠ 0 ∨ r.qm ≠ 0) → ∃ A o c, aindexAddr P 25 u (.int .i64 r.w0) = some (.pointer (some ⟨A, o, none⟩)) ∧ acells (s1.at A) = some c ∧ c[o]? = some (.int .u64 (sumA r vals)) := fun hq => by
    have := h0 hq
    refine hu1.at1 this.1 ?_
    unfold sumA
    rw [if_pos hq]
    exact at0_get this.1 this.2
  by_cases hq1 : r.ql = 0
  · rw [if_neg (by simpa using hq1)]
    by_cases hq2 : r.qm = 0
    · rw [if_neg (by simpa using hq2)]
      have hz : sumA r vals = 0 := by unfold sumA; rw [if_neg (by simp [hq1, hq2])]
      refine snd ?_ ?_ ?_ ?_ ?_ <;> simp only [U, tset_eq, Nat.reduceEqDiff, if_true, if_false, hz]
    · rw [if_pos hq2]
      obtain ⟨A, o, c, e1, e2, e3⟩ := rdA (.inr hq2)
      simp (maxSteps := 10000000) only [wW, reduceCtorEq, Nat.reduceEqDiff, wL, Nat.reduceAdd, e1, e2, e3]
      refine snd ?_ ?_ ?_ ?_ ?_ <;> simp only [U, tset_eq, Nat.reduceEqDiff, if_true, if_false]
  · rw [if_pos hq1]
    obtain ⟨A, o, c, e1, e2, e3⟩ := rdA (.inl hq1)
    simp (maxSteps := 10000000) only [wW, reduceCtorEq, Nat.reduceEqDiff, wL, Nat.reduceAdd, e1, e2, e3]
    refine snd ?_ ?_ ?_ ?_ ?_ <;> simp only [U, tset_eq, Nat.reduceEqDiff, if_true, if_false]
end
end Go.VE
/- The reference of the sponge: a round. -/
namespace Go.VE
open Go Go.Proofs
set_option maxRecDepth 20000
def it {α : Type} (g : Nat → α → α) : Nat → α → α
  | 0, v => v
  | n + 1, v => g n (it g n v)
theorem it_len {g : Nat → List Int → List Int} (h : ∀ n l, (g n l).length = l.length) : ∀ (n : Nat) (l : List Int), (it g n l).length = l.length
  | 0, _ => rfl
  | n + 1, l => by rw [it, h, it_len h n l]
theorem it_nn {g : Nat → List Int → List Int} (h : ∀ n l, (∀ x ∈ l, 0 ≤ x) → ∀ x ∈ g n l, (0 : Int) ≤ x) {l : List Int} (hl : ∀ x ∈ l, 0 ≤ x) : ∀ (n : Nat), ∀ x ∈ it g n l, 0 ≤ x
  | 0 => hl
  | n + 1 => h n _ (it_nn h hl n)
theorem nn_set {l : List Int} {i : Nat} {y : Int} (hl : ∀ x ∈ l, 0 ≤ x) (hy : 0 ≤ y) : ∀ x ∈ l.set i y, (0 : Int) ≤ x := fun x hx => by
  rcases List.mem_or_eq_of_mem_set hx with h | h
  · exact hl x h
  · rw [h]; exact hy
theorem splice_set {cs : List Value} {i : Nat} {v : Value} (h : i < cs.length) : splice cs i [v] = cs.set i v := by
  unfold splice
  rw [List.set_eq_take_append_cons_drop, if_pos h]
  rfl
def u4 (l : List Int) : List Value := l.map (.int .u64)
theorem u4_set (l : List Int) (i : Nat) (x : Int) (h : i < l.length) : splice (u4 l) i [.int .u64 x] = u4 (l.set i x) := by
  rw [splice_set (by simp [u4, h])]
  simp [u4, List.map_set]
theorem u4_get {l : List Int} {i : Nat} (h : i < l.length) : (u4 l)[i]? = some (.int .u64 (at0 l i)) := by
  unfold u4 at0
  rw [List.getElem?_map, Int.toNat_natCast, List.getElem?_eq_getElem h]
  rfl
theorem at0_nn {l : List Int} (hl : ∀ x ∈ l, 0 ≤ x) (i : Int) : 0 ≤ at0 l i := by
  unfold at0
  cases h : l[i.toNat]? with
  | none => exact Int.le_refl 0
  | some x => exact hl x (List.mem_of_getElem? h)
theorem len4 {l : List Int} (h : l.length = 4) : ∃ a b c d, l = [a, b, c, d] := by
  match l, h with
  | [a, b, c, d], _ => exact ⟨a, b, c, d, rfl⟩
theorem u4_flat {l : List Int} (h : l.length = 4) : flat' (.agg (.mk (u4 l))) = true := by
  obtain ⟨a, b, c, d, rfl⟩ := len4 h
  rfl
theorem u4_one (l : List Int) : (u4 l).all (·.oneCell') = true := by
  rw [List.all_eq_true]
  intro v hv
  obtain ⟨x, _, rfl⟩ := List.mem_map.1 hv
  rfl
theorem u4_len (l : List Int) : (u4 l).length = l.length := by simp [u4]
theorem u4_cut {l : List Int} (h : l.length = 4) : cut (u4 l) 0 4 = some (u4 l) := by
  obtain ⟨a, b, c, d, rfl⟩ := len4 h
  rfl
def fConst (f r j : Int) : Int := if fV f then fAdd f (fPow f (fGen f) (4 * r + j + 1)) 7 else 0
def mrow (i : Nat) : List Int := if i = 0 then [2, 3, 1, 1] else if i = 1 then [1, 2, 3, 1] else if i = 2 then [1, 1, 2, 3] else [3, 1, 1, 2]
def rnA (f r : Int) (j : Nat) (s : List Int) : List Int := s.set j (fAdd f (at0 s j) (fConst f r j))
def rnB (f : Int) (j : Nat) (s : List Int) : List Int := s.set j (fPow f (at0 s j) (fExp f))
def rnC (f : Int) (s : List Int) (i j : Nat) (t : List Int) : List Int := t.set i (fAdd f (at0 t i) (fMul f (at0 (mrow i) j) (at0 s j)))
def rnD (f : Int) (s : List Int) (i : Nat) (t : List Int) : List Int := it (rnC f s i) 4 t
def rnS (f r : Int) (s : List Int) : List Int := it (rnB f) 4 (it (rnA f r) 4 s)
def roundM (f r : Int) (s : List Int) : List Int := it (rnD f (rnS f r s)) 4 [0, 0, 0, 0]
theorem rnA_len (f r : Int) (n : Nat) (l : List Int) : (rnA f r n l).length = l.length := by simp [rnA]
theorem rnB_len (f : Int) (n : Nat) (l : List Int) : (rnB f n l).length = l.length := by simp [rnB]
theorem rnC_len (f : Int) (s : List Int) (i n : Nat) (l : List Int) : (rnC f s i n l).length = l.length := by simp [rnC]
theorem rnD_len (f : Int) (s : List Int) (n : Nat) (l : List Int) : (rnD f s n l).length = l.length := it_len (rnC_len f s n) 4 l
theorem rnS_len (f r : Int) (s : List Int) : (rnS f r s).length = s.length := by rw [rnS, it_len (rnB_len f), it_len (rnA_len f r)]
theorem roundM_len (f r : Int) (s : List Int) : (roundM f r s).length = 4 := it_len (rnD_len f _) 4 _
theorem rnA_nn (f r : Int) (n : Nat) (l : List Int) (h : ∀ x ∈ l, 0 ≤ x) : ∀ x ∈ rnA f r n l, (0 : Int) ≤ x := nn_set h (fAdd_bounds _ _ _).1
theorem rnB_nn (f : Int) (n : Nat) (l : List Int) (h : ∀ x ∈ l, 0 ≤ x) : ∀ x ∈ rnB f n l, (0 : Int) ≤ x := nn_set h (fPow_bounds _ _ _).1
theorem rnC_nn (f : Int) (s : List Int) (i n : Nat) (l : List Int) (h : ∀ x ∈ l, 0 ≤ x) : ∀ x ∈ rnC f s i n l, (0 : Int) ≤ x := nn_set h (fAdd_bounds _ _ _).1
theorem rnD_nn (f : Int) (s : List Int) (n : Nat) (l : List Int) (h : ∀ x ∈ l, 0 ≤ x) : ∀ x ∈ rnD f s n l, (0 : Int) ≤ x := it_nn (rnC_nn f s n) h 4
theorem rnS_nn (f r : Int) (s : List Int) (h : ∀ x ∈ s, 0 ≤ x) : ∀ x ∈ rnS f r s, (0 : Int) ≤ x := it_nn (rnB_nn f) (it_nn (rnA_nn f r) h 4) 4
theorem roundM_nn (f r : Int) (s : List Int) : ∀ x ∈ roundM f r s, (0 : Int) ≤ x := it_nn (rnD_nn f _) (by simp) 4
theorem conv_int_u64 [Memo] (ro : Nat) (a : Int) (ty : TypeId) (s : St) (K : Value → St → Prop) : wop P ro (.convert 3 38 (.const (.int .i64 a))) ty s K = K (.int .u64 (IntKind.u64.wrap a)) s := by kernel_rfl
theorem fExp_bounds (f : Int) : 0 ≤ fExp f ∧ fExp f ≤ 5 := by
  unfold fExp
  split
  · omega
  · split <;> omega
section
variable {ro : Nat} {K : Value → St → Prop}
theorem fGen_nn (f : Int) : 0 ≤ fGen f := by
  unfold fGen
  repeat' split
  all_goals omega
theorem wConst (f : Int) {r j : Int} (hr : 0 ≤ r ∧ r ≤ 7) (hj : 0 ≤ j ∧ j ≤ 3) {s : St} : CallWP P ro 41 [.int .i64 f, .int .i64 r, .int .i64 j] s K = K (.int .u64 (fConst f r j)) s := by
  refine callEq (call_wp b41 rfl ?_) K
  rw [n41]
  unfold v41
  simp (maxSteps := 10000000) only [wW, reduceCtorEq, Nat.reduceEqDiff, wrValid]
  unfold fConst
  cases hv : fV f with
  | false =>
    simp (maxSteps := 10000000) only [wW, reduceCtorEq, Nat.reduceEqDiff, Bool.false_eq_true]
    exact fin_flat rfl (.refl _) ⟨rfl, rfl⟩
  | true =>
    simp (maxSteps := 10000000) only [wW, reduceCtorEq, Nat.reduceEqDiff, Bool.true_eq_false, wrGen, conv_int_u64]
    rw [if_neg (by omega), if_neg (by omega), if_neg (by omega), if_neg (by omega), wrap_i64 (n := 4 * r) (by omega) (by omega), wrap_i64 (n := 4 * r + j) (by omega) (by omega), wrap_i64 (by omega) (by omega), wrap_u64 (by omega) (by omega), wrPow f (fGen_nn f) _ (by omega) (by omega) rfl, wrAdd f (fPow_bounds _ _ _).1 (by decide)]
    exact fin_flat rfl (.refl _) ⟨rfl, rfl⟩
def mrows : List Int := [2, 3, 1, 1, 1, 2, 3, 1, 1, 1, 2, 3, 3, 1, 1, 2]
theorem build44 : abuild P 73 (partVals .e [(0, .const (.agg (.mk (u4 [2, 3, 1, 1])))), (1, .const (.agg (.mk (u4 [1, 2, 3, 1])))), (2, .const (.agg (.mk (u4 [1, 1, 2, 3])))), (3, .const (.agg (.mk (u4 [3, 1, 1, 2]))))]) = some (.agg (.mk (u4 mrows))) := by kernel_rfl
theorem build4u (a b c d : Int) : abuild P 39 (partVals .e [(0, .const (.int .u64 a)), (1, .const (.int .u64 b)), (2, .const (.int .u64 c)), (3, .const (.int .u64 d))]) = some (.agg (.mk (u4 [a, b, c, d]))) := by kernel_rfl
theorem ix44 (A : Nat) {k : Nat} (hk : k < 4) : aindexAddr P 73 (ptr A) (.int .i64 (k : Int)) = some (.pointer (some ⟨A, k * 4, none⟩)) := by
  rw [ixArr un_73 isz_39]
  unfold aplace
  rw [if_pos (by omega), Int.toNat_natCast, Nat.zero_add]
theorem wMrow {i : Nat} (hi : i < 4) {s : St} (hw : Wf s) (hro : ro ≤ s.n) : CallWP P ro 44 [.int .i64 i] s K = K (.agg (.mk (u4 (mrow i)))) s := by
  refine callEq (call_wp b44 rfl ?_) K
  rw [n44]
  unfold v44
  simp (maxSteps := 10000000) only [wW, reduceCtorEq, Nat.reduceEqDiff]
  refine alloc_rule ty_39 hw.ent fun A s1 m1 => ?_
  simp (maxSteps := 10000000) only [build4u, build44, wW, reduceCtorEq, Nat.reduceEqDiff]
  refine alloc_rule ty_73 m1.wf fun B s2 m2 => ?_
  have e1 := m1.eq
  have e2 := m2.eq
  have n1 := m1.n
  have n2 := m2.n
  have hn0 : (ent s).n = s.n := rfl
  refine storeAll_rule isz_73 m2.here (l := u4 mrows) rfl (by decide) m2.wf (by omega) rfl rfl fun s3 p3 => ?_
  simp (maxSteps := 10000000) only [wW, reduceCtorEq, Nat.reduceEqDiff, wop_indexAddr, ix44 B hi]
  have hrow : cut (u4 mrows) (i * 4) 4 = some (u4 (mrow i)) := by
    match i, hi with
    | 0, _ => rfl
    | 1, _ => rfl
    | 2, _ => rfl
    | 3, _ => rfl
  have hlen : (u4 (mrow i)).length = 4 := by
    match i, hi with
    | 0, _ => rfl
    | 1, _ => rfl
    | 2, _ => rfl
    | 3, _ => rfl
  refine load_rule (load_part ap_39 p3.here hrow) ?_
  have hA : s3.at A = _ := (p3.rest A (by omega)).trans ((m2.grew.same A (by omega)).trans m1.here)
  refine storeAll_rule isz_39 hA hlen (by decide) p3.wf (by omega) rfl (u4_one _) fun s4 p4 => ?_
  refine load_rule (load_all ap_39 p4.here hlen) ?_
  refine fin_flat (u4_flat (by simpa [u4] using hlen)) (p4.grew _ hw.ent (p3.grew _ hw.ent (m1.grew.trans m2.grew) (by omega)) (by omega)) ⟨rfl, rfl⟩
structure Vec (s0 s : St) (A : Nat) (l : List Int) : Prop where
  here : s.at A = some (.cells (u4 l) 39 false)
  new : s0.n ≤ A
  wf : Wf s
  grew : Grew s0 s
theorem Vec.store {s0 s : St} {A : Nat} {l : List Int} (h : Vec s0 s A l) (hw0 : Wf s0) (hro : ro ≤ s0.n) {i : Nat} (hi : i < l.length) {x : Int} {ty : TypeId} {K : Value → St → Prop} (hk : ∀ s', Vec s0 s' A (l.set i x) → (∀ B, B ≠ A → s'.at B = s.at B) → K undef s') :
    wop P ro (.store 38 (.const (.pointer (some ⟨A, i, none⟩))) (.const (.int .u64 x))) ty s K := by
  have hn := h.new
  refine store1_rule isz_38 h.here h.wf (by omega) (by simp [u4, hi]) rfl fun s' p => hk s' ⟨?_, h.new, p.wf, p.grew _ hw0 h.grew h.new⟩ p.rest
  rw [p.here, u4_set _ _ _ hi]
theorem wRound (f : Int) {r : Int} (hr : 0 ≤ r ∧ r ≤ 7) (hv : fV f = true) {l : List Int} (hl : l.length = 4) (hnn : ∀ x ∈ l, 0 ≤ x) {s : St} (hw : Wf s) (hro : ro ≤ s.n) : CallWP P ro 20 [.int .i64 f, .int .i64 r, .agg (.mk (u4 l))] s K = K (.agg (.mk (u4 (roundM f r l)))) s := by
  refine callEq (call_wp b20 rfl ?_) K
  rw [n20]
  unfold v20
  simp (maxSteps := 10000000) only [wW, reduceCtorEq, Nat.reduceEqDiff]
  refine box_rule hw.ent fun S s1 m1 => ?_
  refine alloc_rule ty_39 m1.wf fun R s2 m2 => ?_
  simp (maxSteps := 10000000) only [wW, reduceCtorEq, Nat.reduceEqDiff, wrValid, hv, Bool.true_eq_false]
  rw [if_neg (by omega), if_neg (by omega)]
  have e1 := m1.eq
  have e2 := m2.eq
  have n1 := m1.n
  have n2 := m2.n
  have hn0 : (ent s).n = s.n := rfl
  have g2 := m1.grew.trans m2.grew
  have hS2 : s2.at S = some (.cells (u4 l) 39 false) := (m2.grew.same S (by omega)).trans m1.here
  have hR2 : ∃ c, s2.at R = some (.cells c 39 false) ∧ c.length = 4 := ⟨_, m2.here, rfl⟩
  refine wloop l20_110100 m20_110100 (fun (j : Nat) τ ds s' => j ≤ 4 ∧ τ 0 = .int .i64 f ∧ τ 1 = .int .i64 r ∧ τ 5 = ptr S ∧ τ 6 = ptr R ∧ τ 7 = .int .i64 j ∧ ds = [] ∧ Vec (ent s) s' S (it (rnA f r) j l) ∧ ∃ c, s'.at R = some (.cells c 39 false) ∧ c.length = 4) (fun j => 4 - j) ?_ 0 ⟨by omega, rfl, rfl, rfl, rfl, rfl, rfl, ⟨hS2, by omega, m2.wf, g2⟩, hR2⟩
  rintro j τ ds s' ⟨hj, h0, h1, h5, h6, h7, rfl, v3, hR3⟩
  rw [n20_110100]
  unfold v20_110100
  have hlj : (it (rnA f r) j l).length = 4 := by rw [it_len (rnA_len f r), hl]
  by_cases hj4 : j < 4
  · have hb : acells (s'.at S) = some (u4 (it (rnA f r) j l)) := acells_some v3.here
    simp (maxSteps := 10000000) only [wW, reduceCtorEq, Nat.reduceEqDiff, wL, Nat.reduceAdd, h0, h1, h5, h7, six S 0 hj4, hb, u4_get (show j < (it (rnA f r) j l).length by omega)]
    rw [if_pos (by omega)]
    refine ⟨by simp [veq], ?_⟩
    rw [wConst f hr (by omega)]
    refine ⟨.refl _, ?_⟩
    have hnj := it_nn (rnA_nn f r) hnn j
    have hcb : 0 ≤ fConst f r j := by unfold fConst; rw [if_pos hv]; exact (fAdd_bounds _ _ _).1
    rw [wrAdd f (at0_nn hnj _) hcb]
    refine v3.store hw.ent hro (by omega) fun s4 v4 r4 => ?_
    rw [wrap_i64 (by omega) (by omega)]
    refine ⟨j + 1, by omega, by omega, h0, h1, h5, h6, rfl, trivial, v4, ?_⟩
    obtain ⟨c, hc, hcl⟩ := hR3
    exact ⟨c, (r4 R (by omega)).trans hc, hcl⟩
  · obtain rfl : j = 4 := by omega
    simp (maxSteps := 10000000) only [wW, reduceCtorEq, Nat.reduceEqDiff, h7]
    rw [if_neg (by omega)]
    refine wloop l20_1110100 m20_1110100 (fun (j : Nat) τ ds s' => j ≤ 4 ∧ τ 0 = .int .i64 f ∧ τ 5 = ptr S ∧ τ 6 = ptr R ∧ τ 8 = .int .i64 j ∧ ds = [] ∧ Vec (ent s) s' S (it (rnB f) j (it (rnA f r) 4 l)) ∧ ∃ c, s'.at R = some (.cells c 39 false) ∧ c.length = 4) (fun j => 4 - j) ?_ 0 ⟨by omega, h0, h5, h6, rfl, rfl, v3, hR3⟩
    clear h0 h1 h5 h6 h7 v3 hR3 hj hj4
    have hnA := it_nn (rnA_nn f r) hnn 4
    rintro j τ ds s' ⟨hj, h0, h5, h6, h8, rfl, v3, hR3⟩
    rw [n20_1110100]
    unfold v20_1110100
    have hlk : (it (rnB f) j (it (rnA f r) 4 l)).length = 4 := by rw [it_len (rnB_len f), hlj]
    by_cases hj4 : j < 4
    · have hb : acells (s'.at S) = some (u4 (it (rnB f) j (it (rnA f r) 4 l))) := acells_some v3.here
      simp (maxSteps := 10000000) only [wW, reduceCtorEq, Nat.reduceEqDiff, wL, Nat.reduceAdd, h0, h5, h8, six S 0 hj4, hb, u4_get (show j < (it (rnB f) j (it (rnA f r) 4 l)).length by omega), wrExp, conv_int_u64]
      rw [if_pos (by omega)]
      refine ⟨by simp [veq], .refl _, trivial, by simp [veq], ?_⟩
      have hxe := fExp_bounds f
      rw [wrap_u64 (by omega) (by omega), wrPow f (at0_nn (it_nn (rnB_nn f) hnA j) _) _ (by omega) (by omega) rfl]
      refine v3.store hw.ent hro (by omega) fun s4 v4 r4 => ?_
      rw [wrap_i64 (by omega) (by omega)]
      refine ⟨j + 1, by omega, by omega, h0, h5, h6, rfl, trivial, v4, ?_⟩
      obtain ⟨c, hc, hcl⟩ := hR3
      exact ⟨c, (r4 R (by omega)).trans hc, hcl⟩
    · obtain rfl : j = 4 := by omega
      simp (maxSteps := 10000000) only [wW, reduceCtorEq, Nat.reduceEqDiff, h8]
      rw [if_neg (by omega)]
      refine alloc_rule ty_39 v3.wf fun T s4 m4 => ?_
      have e4 := m4.eq
      have n4 := m4.n
      have gn := v3.grew.n
      have hS4 : s4.at S = some (.cells (u4 (rnS f r l)) 39 false) := (m4.grew.same S (St.at_lt v3.here)).trans v3.here
      have hSn := St.at_lt v3.here
      have hRn : R < s'.n := by obtain ⟨c, hc, _⟩ := hR3; exact St.at_lt hc
      have hR4 : ∃ c, s4.at R = some (.cells c 39 false) ∧ c.length = 4 := by
        obtain ⟨c, hc, hcl⟩ := hR3
        exact ⟨c, (m4.grew.same R hRn).trans hc, hcl⟩
      refine wloop l20_111110100 m20_111110100 (fun (j : Nat) τ ds s' => j ≤ 4 ∧ τ 0 = .int .i64 f ∧ τ 5 = ptr S ∧ τ 6 = ptr R ∧ τ 9 = ptr T ∧ τ 10 = .int .i64 j ∧ ds = [] ∧ Vec (ent s) s' T (it (rnD f (rnS f r l)) j [0, 0, 0, 0]) ∧ s'.at S = some (.cells (u4 (rnS f r l)) 39 false) ∧ ∃ c, s'.at R = some (.cells c 39 false) ∧ c.length = 4) (fun j => 4 - j) ?_ 0 ⟨by omega, h0, h5, h6, rfl, rfl, rfl, ⟨m4.here, by omega, m4.wf, v3.grew.trans m4.grew⟩, hS4, hR4⟩
      clear h0 h5 h6 h8 v3 hR3 hj hj4 hS4 hR4
      rintro j τ ds s' ⟨hj, h0, h5, h6, h9, h10, rfl, v3, hS3, hR3⟩
      rw [n20_111110100]
      unfold v20_111110100
      by_cases hj4 : j < 4
      · simp (maxSteps := 10000000) only [wW, reduceCtorEq, Nat.reduceEqDiff, wL, Nat.reduceAdd, h0, h5, h10]
        rw [if_pos (by omega), wMrow hj4 v3.wf (by have := v3.grew.n; omega)]
        refine alloc_rule ty_39 v3.wf fun M s6 m6 => ?_
        have e6 := m6.eq
        have n6 := m6.n
        have gn6 := v3.grew.n
        have hml : (u4 (mrow j)).length = 4 := by
          match j, hj4 with
          | 0, _ => rfl
          | 1, _ => rfl
          | 2, _ => rfl
          | 3, _ => rfl
        refine storeAll_rule isz_39 m6.here hml (by decide) m6.wf (by omega) rfl (u4_one _) fun s7 p7 => ?_
        have hTn := St.at_lt v3.here
        have hSn' := St.at_lt hS3
        have old : ∀ B, B < s'.n → s7.at B = s'.at B := fun B hB => (p7.rest B (by omega)).trans (m6.grew.same B hB)
        have vT : Vec (ent s) s7 T (it (rnD f (rnS f r l)) j [0, 0, 0, 0]) := ⟨(old T hTn).trans v3.here, v3.new, p7.wf, p7.grew _ hw.ent (v3.grew.trans m6.grew) (by omega)⟩
        have hR7 : ∃ c, s7.at R = some (.cells c 39 false) ∧ c.length = 4 := by
          obtain ⟨c, hc, hcl⟩ := hR3
          exact ⟨c, (old R (St.at_lt hc)).trans hc, hcl⟩
        refine wloop l20_1111101001001100 m20_1111101001001100 (fun (k : Nat) τ ds s' => k ≤ 4 ∧ τ 0 = .int .i64 f ∧ τ 5 = ptr S ∧ τ 6 = ptr R ∧ τ 9 = ptr T ∧ τ 10 = .int .i64 j ∧ τ 11 = ptr M ∧ τ 12 = .int .i64 k ∧ ds = [] ∧ Vec (ent s) s' T (it (rnC f (rnS f r l) j) k (it (rnD f (rnS f r l)) j [0, 0, 0, 0])) ∧ s'.at S = some (.cells (u4 (rnS f r l)) 39 false) ∧ s'.at M = some (.cells (u4 (mrow j)) 39 false) ∧ ∃ c, s'.at R = some (.cells c 39 false) ∧ c.length = 4) (fun k => 4 - k) ?_ 0 ⟨by omega, h0, h5, h6, h9, h10, rfl, rfl, rfl, vT, (old S hSn').trans hS3, p7.here, hR7⟩
        clear h0 h5 h6 h9 h10 v3 hS3 hR3 vT hR7
        rintro k τ ds s5 ⟨hk, h0, h5, h6, h9, h10, h11, h12, rfl, v5, hS5, hM5, hR5⟩
        rw [n20_1111101001001100]
        unfold v20_1111101001001100
        have hdl : (it (rnD f (rnS f r l)) j [0, 0, 0, 0]).length = 4 := it_len (rnD_len f _) _ _
        have hcl : (it (rnC f (rnS f r l) j) k (it (rnD f (rnS f r l)) j [0, 0, 0, 0])).length = 4 := by rw [it_len (rnC_len f _ j)]; exact hdl
        have hsl : (rnS f r l).length = 4 := by rw [rnS_len]; exact hl
        by_cases hk4 : k < 4
        · have hb1 : acells (s5.at T) = some (u4 (it (rnC f (rnS f r l) j) k (it (rnD f (rnS f r l)) j [0, 0, 0, 0]))) := acells_some v5.here
          have hb2 : acells (s5.at S) = some (u4 (rnS f r l)) := acells_some hS5
          have hb3 : acells (s5.at M) = some (u4 (mrow j)) := acells_some hM5
          have hml' : (mrow j).length = 4 := by simpa [u4] using hml
          have q1 := u4_get (l := it (rnC f (rnS f r l) j) k (it (rnD f (rnS f r l)) j [0, 0, 0, 0])) (i := j) (by omega)
          have q2 := u4_get (l := rnS f r l) (i := k) (by omega)
          have q3 := u4_get (l := mrow j) (i := k) (by omega)
          simp (maxSteps := 10000000) only [wW, reduceCtorEq, Nat.reduceEqDiff, wL, Nat.reduceAdd, h0, h5, h9, h10, h11, h12, six _ 0 hk4, six _ 0 hj4, hb1, hb2, hb3, q1, q2, q3]
          rw [if_pos (by omega)]
          refine ⟨by simp [veq], by simp [veq], by simp [veq], ?_⟩
          have nD := it_nn (rnD_nn f (rnS f r l)) (l := [0, 0, 0, 0]) (by simp) j
          have nC := it_nn (rnC_nn f (rnS f r l) j) nD k
          have nM : ∀ x ∈ mrow j, (0 : Int) ≤ x := by
            unfold mrow
            split
            · decide
            · split
              · decide
              · split <;> decide
          have nS := rnS_nn f r l hnn
          rw [wrMul f (at0_nn nM _) (at0_nn nS _)]
          refine ⟨.refl _, ?_⟩
          rw [wrAdd f (at0_nn nC _) (fMul_bounds _ _ _).1]
          refine v5.store hw.ent hro (by omega) fun s6 v6 r6 => ?_
          rw [wrap_i64 (by omega) (by omega)]
          have hMn : M ≠ T := by omega
          have hSn2 : S ≠ T := by omega
          refine ⟨k + 1, by omega, by omega, h0, h5, h6, h9, h10, h11, rfl, trivial, v6, (r6 S hSn2).trans hS5, (r6 M hMn).trans hM5, ?_⟩
          obtain ⟨c, hc, hcl⟩ := hR5
          exact ⟨c, (r6 R (by omega)).trans hc, hcl⟩
        · obtain rfl : k = 4 := by omega
          simp (maxSteps := 10000000) only [wW, reduceCtorEq, Nat.reduceEqDiff, h10, h12]
          rw [if_neg (by omega)]
          simp (maxSteps := 10000000) only [U, tset_eq, wW, reduceCtorEq, Nat.reduceEqDiff, h10, h0, h5, h6, h9]
          rw [wrap_i64 (by omega) (by omega)]
          exact ⟨j + 1, by omega, by omega, trivial, trivial, trivial, trivial, rfl, trivial, v5, hS5, hR5⟩
      · obtain rfl : j = 4 := by omega
        simp (maxSteps := 10000000) only [wW, reduceCtorEq, Nat.reduceEqDiff, h9, h10, h6]
        rw [if_neg (by omega)]
        simp (maxSteps := 10000000) only [U, tset_eq, wW, reduceCtorEq, Nat.reduceEqDiff, h9, h10, h6]
        have hrl : (u4 (roundM f r l)).length = 4 := by rw [u4_len]; exact roundM_len f r l
        obtain ⟨c, hc, hcl⟩ := hR3
        have hT := v3.here
        rw [show it (rnD f (rnS f r l)) 4 [0, 0, 0, 0] = roundM f r l by unfold roundM; rfl] at hT
        have hq4 := roundM_len f r l
        generalize roundM f r l = q at hT hrl hq4 ⊢
        refine load_rule (load_all ap_39 hT hrl) ?_
        refine storeAll_rule isz_39 hc hrl (by decide) v3.wf (by omega) hcl (u4_one _) fun s7 p7 => ?_
        refine load_rule (load_all ap_39 p7.here hrl) ?_
        exact fin_flat (u4_flat hq4) (p7.grew _ hw.ent v3.grew (by omega)) ⟨rfl, rfl⟩
end
end Go.VE
/- The reference of the gates: round, holds. -/
namespace Go.VE
open Go Go.Proofs
set_option maxRecDepth 20000
def wv (vals : List Int) (r : Row) : List Int := [at0 vals r.w0, at0 vals r.w1, at0 vals r.w2, at0 vals r.w3]
def setW (vals : List Int) (r : Row) (k : Nat) (t : List Int) : List Int := t.set k (at0 vals (r.w k))
theorem setW_len (vals : List Int) (r : Row) (n : Nat) (l : List Int) : (setW vals r n l).length = l.length := by simp [setW]
theorem wv_eq (vals : List Int) (r : Row) : it (setW vals r) 4 [0, 0, 0, 0] = wv vals r := rfl
theorem wv_nn {vals : List Int} (h : ∀ x ∈ vals, 0 ≤ x) (r : Row) : ∀ x ∈ wv vals r, (0 : Int) ≤ x := fun x hx => by
  simp only [wv, List.mem_cons, List.not_mem_nil, or_false] at hx
  rcases hx with rfl | rfl | rfl | rfl <;> exact at0_nn h _
structure RowFit (n : Nat) (r : Row) : Prop where
  nn : r.Nn
  a : r.k = 1 → r.ql ≠ 0 ∨ r.qm ≠ 0 → 0 ≤ r.w0 ∧ r.w0 < n
  b : r.k = 1 → r.qr ≠ 0 ∨ r.qm ≠ 0 → 0 ≤ r.w1 ∧ r.w1 < n
  c : r.k = 1 → r.qo ≠ 0 → 0 ≤ r.w2 ∧ r.w2 < n
  range : r.k = 2 → 0 ≤ r.w0 ∧ r.w0 < n
  round : r.k = 3 → (0 ≤ r.rd ∧ r.rd ≤ 7) ∧ ∀ k, k < 4 → 0 ≤ r.w k ∧ r.w k < n
noncomputable def holdsR (f : Int) (r nx : Row) (vals : List Int) : Bool :=
  if r.k = 1 then decide ((if r.qo ≠ 0 then fAdd f (sumM f r vals) (fMul f r.qo (at0 vals r.w2)) else sumM f r vals) = 0)
  else if r.k = 2 then decide (at0 vals r.w0 < 16)
  else if r.k = 3 then decide (wv vals nx = roundM f r.rd (wv vals r))
  else true
section
variable {ro : Nat} {K : Value → St → Prop}
theorem wRnd (f : Int) (hv : fV f = true) {r : Row} (hrd : 0 ≤ r.rd ∧ r.rd ≤ 7) {s : St} {u : Value} {vals : List Int} (hw : Wf s) (hro : ro ≤ s.n) (hu : U64s s u vals) (hpos : ∀ x ∈ vals, 0 ≤ x) (hwi : ∀ k, k < 4 → 0 ≤ r.w k ∧ r.w k < vals.length) :
    CallWP P ro 36 [.int .i64 f, .agg (.mk r.cells), u] s K = K (.agg (.mk (u4 (roundM f r.rd (wv vals r))))) s := by
  refine callEq (call_wp b36 rfl ?_) K
  rw [n36]
  unfold v36
  simp (maxSteps := 10000000) only [wW, reduceCtorEq, Nat.reduceEqDiff]
  refine box_rule hw.ent fun G s1 m1 => ?_
  refine alloc_rule ty_39 m1.wf fun R s2 m2 => ?_
  refine alloc_rule ty_39 m2.wf fun S s3 m3 => ?_
  have e1 := m1.eq
  have e2 := m2.eq
  have e3 := m3.eq
  have n1 := m1.n
  have n2 := m2.n
  have n3 := m3.n
  have hn0 : (ent s).n = s.n := rfl
  have g3 := (m1.grew.trans m2.grew).trans m3.grew
  have hG3 : s3.at G = some (.cells r.cells 43 false) := (m3.grew.same G (by omega)).trans ((m2.grew.same G (by omega)).trans m1.here)
  have hR3 : s3.at R = _ := (m3.grew.same R (by omega)).trans m2.here
  refine wloop l36_110100 m36_110100 (fun (k : Nat) τ ds s' => k ≤ 4 ∧ τ 0 = .int .i64 f ∧ τ 2 = u ∧ τ 4 = ptr G ∧ τ 6 = ptr R ∧ τ 7 = ptr S ∧ τ 8 = .int .i64 k ∧ ds = [] ∧ Vec (ent s) s' S (it (setW vals r) k [0, 0, 0, 0]) ∧ ∀ B, B ≠ S → s'.at B = s3.at B) (fun k => 4 - k) ?_ 0 ⟨by omega, rfl, rfl, rfl, rfl, rfl, rfl, rfl, ⟨m3.here, by omega, m3.wf, g3⟩, fun _ _ => rfl⟩
  rintro k τ ds s' ⟨hk, h0, h2, h4, h6, h7, h8, rfl, v, old⟩
  rw [n36_110100]
  unfold v36_110100
  have hG : acells (s'.at G) = some r.cells := acells_some ((old G (by omega)).trans hG3)
  have hu' : U64s s' u vals := (Sl.ent hu).grew v.grew.same
  by_cases hk4 : k < 4
  · have hx := hwi k hk4
    obtain ⟨A, o, c, q1, q2, q3⟩ := hu'.at1 hx.1 (at0_get hx.1 hx.2)
    have hb := rcw r hk4
    simp (maxSteps := 10000000) only [wW, reduceCtorEq, Nat.reduceEqDiff, wL, Nat.reduceAdd, h2, h4, h7, h8, wix _ _ hk4, six _ _ hk4, hG, hb, q1, q2, q3]
    rw [if_pos (by omega)]
    refine v.store hw.ent hro (by rw [it_len (setW_len vals r)]; exact hk4) fun s4 v4 r4 => ?_
    rw [wrap_i64 (by omega) (by omega)]
    exact ⟨k + 1, by omega, by omega, h0, h2, h4, h6, h7, rfl, trivial, v4, fun B hB => (r4 B hB).trans (old B hB)⟩
  · obtain rfl : k = 4 := by omega
    have hS := v.here
    have hpw := wv_nn hpos r
    rw [wv_eq] at hS
    have hlw : (wv vals r).length = 4 := rfl
    have hle : (u4 (wv vals r)).length = 4 := rfl
    generalize wv vals r = q at hS hpw hlw hle ⊢
    simp (maxSteps := 10000000) only [wW, reduceCtorEq, Nat.reduceEqDiff, h8]
    rw [if_neg (by omega)]
    simp (maxSteps := 10000000) only [U, tset_eq, wW, reduceCtorEq, Nat.reduceEqDiff, wL, Nat.reduceAdd, h0, h4, h6, h7, hG]
    rw [acells_some hS, wopt_some, cut_all hle, wopt_some]
    show CallWP P ro 20 [.int .i64 f, .int .i64 r.rd, .agg (.mk (u4 q))] s' _
    have hgn := v.grew.n
    rw [wRound f hrd hv hlw hpw v.wf (by omega)]
    have hl2 := roundM_len f r.rd q
    generalize roundM f r.rd q = q2 at hl2 ⊢
    refine storeAll_rule isz_39 ((old R (by omega)).trans hR3) (show (u4 q2).length = 4 by rw [u4_len]; exact hl2) (by decide) v.wf (by omega) rfl (u4_one _) fun s7 p7 => ?_
    rw [acells_some p7.here, wopt_some, cut_all (show (u4 q2).length = 4 by rw [u4_len]; exact hl2), wopt_some]
    exact fin_flat (u4_flat hl2) (p7.grew _ hw.ent v.grew (by omega)) ⟨rfl, rfl⟩
def nxt (l : List Row) (i : Nat) : Row := (l[i + 1]?).getD ⟨0, 0, 0, 0, 0, 0, 0, 0, 0, 0, 0⟩
theorem wv_get (vals : List Int) (r : Row) : ∀ {k : Nat}, k < 4 → at0 (wv vals r) k = at0 vals (r.w k)
  | 0, _ => rfl
  | 1, _ => rfl
  | 2, _ => rfl
  | 3, _ => rfl
theorem eq4 {a b : List Int} (ha : a.length = 4) (hb : b.length = 4) : a = b ↔ ∀ k : Nat, k < 4 → at0 a k = at0 b k := by
  obtain ⟨a0, a1, a2, a3, rfl⟩ := len4 ha
  obtain ⟨b0, b1, b2, b3, rfl⟩ := len4 hb
  constructor
  · rintro h k _; rw [h]
  · intro h
    have h0 : a0 = b0 := h 0 (by decide)
    have h1 : a1 = b1 := h 1 (by decide)
    have h2 : a2 = b2 := h 2 (by decide)
    have h3 : a3 = b3 := h 3 (by decide)
    rw [h0, h1, h2, h3]
theorem RowFit.reads {n : Nat} {r : Row} (h : RowFit n r) (h1 : r.k = 1) : (r.ql ≠ 0 ∨ r.qm ≠ 0 → 0 ≤ r.w0 ∧ r.w0 < n) ∧ (r.qr ≠ 0 ∨ r.qm ≠ 0 → 0 ≤ r.w1 ∧ r.w1 < n) := ⟨h.a h1, h.b h1⟩
theorem wHolds (g : Gp) (hv : fV g.f = true) {s : St} {ur u : Value} {vals : List Int} (hw : Wf s) (hro : ro ≤ s.n) (hr : RowsS s ur g.rows) (hu : U64s s u vals) (hpos : ∀ x ∈ vals, 0 ≤ x) {i : Nat} {r : Row} (hi : g.rows[i]? = some r) (hlen : g.rows.length < 2 ^ 60)
    (hf : RowFit vals.length r) (hnx : r.k = 3 → i + 1 < g.rows.length ∧ ∀ k, k < 4 → 0 ≤ (nxt g.rows i).w k ∧ (nxt g.rows i).w k < vals.length) :
    CallWP P ro 25 [.agg (.mk (g.cells ur)), u, .int .i64 i] s K = K (.bool (holdsR g.f r (nxt g.rows i) vals)) s := by
  refine callEq (call_wp b25 rfl ?_) K
  rw [n25]
  unfold v25
  simp (maxSteps := 10000000) only [wW, reduceCtorEq, Nat.reduceEqDiff]
  refine box_rule hw.ent fun G s1 m1 => ?_
  have e1 := m1.eq
  have n1 := m1.n
  have hn0 : (ent s).n = s.n := rfl
  have hG1 : s1.at G = some (.cells (g.cells ur) 24 false) := m1.here
  obtain ⟨A, o, c, q1, q2⟩ := RowsS.ix (Sl.grew (Sl.ent hr) m1.grew.same) hi
  simp (maxSteps := 10000000) only [wW, reduceCtorEq, Nat.reduceEqDiff, wL, Nat.reduceAdd, acells_some hG1, q1, q2.blk, q2.all]
  refine alloc_rule ty_43 m1.wf fun R s2 m2 => ?_
  have e2 := m2.eq
  have n2 := m2.n
  have hil : i < g.rows.length := (List.getElem?_eq_some_iff.1 hi).1
  refine storeAll_rule isz_43 m2.here (l := r.cells) rfl (by decide) m2.wf (by omega) rfl rfl fun s3 p3 => ?_
  have g3 := p3.grew _ hw.ent (m1.grew.trans m2.grew) (by omega)
  have n3 := p3.n
  have hG3 : s3.at G = some (.cells (g.cells ur) 24 false) := (p3.rest G (by omega)).trans ((m2.grew.same G (by omega)).trans hG1)
  have hG : acells (s3.at G) = some (g.cells ur) := acells_some hG3
  have hR : acells (s3.at R) = some r.cells := acells_some p3.here
  have hu3 : U64s s3 u vals := (Sl.ent hu).grew g3.same
  simp (maxSteps := 10000000) only [wW, reduceCtorEq, Nat.reduceEqDiff, wL, Nat.reduceAdd, hG, hR]
  unfold holdsR
  by_cases k1 : r.k = 1
  · rw [if_pos k1, if_pos k1]
    rw [wSum g.f hf.nn p3.wf (by omega) hu3 hpos (hf.a k1) (hf.b k1)]
    simp (maxSteps := 10000000) only [wW, reduceCtorEq, Nat.reduceEqDiff, wL, Nat.reduceAdd, hG, hR]
    by_cases hq : r.qo = 0
    · have hm : (if r.qo ≠ 0 then fAdd g.f (sumM g.f r vals) (fMul g.f r.qo (at0 vals r.w2)) else sumM g.f r vals) = sumM g.f r vals := if_neg (by simpa using hq)
      simp only [hm]
      rw [if_neg (by simpa using hq)]
      exact fin_flat rfl g3 ⟨rfl, rfl⟩
    · have hm : (if r.qo ≠ 0 then fAdd g.f (sumM g.f r vals) (fMul g.f r.qo (at0 vals r.w2)) else sumM g.f r vals) = fAdd g.f (sumM g.f r vals) (fMul g.f r.qo (at0 vals r.w2)) := if_pos hq
      simp only [hm]
      rw [if_pos hq]
      have hx := hf.c k1 hq
      obtain ⟨A2, o2, c2, x1, x2, x3⟩ := hu3.at1 hx.1 (at0_get hx.1 hx.2)
      simp (maxSteps := 10000000) only [wW, reduceCtorEq, Nat.reduceEqDiff, wL, Nat.reduceAdd, hG, hR, x1, x2, x3]
      refine ⟨by simp [veq], by simp [veq], by simp [veq], by simp [veq], by simp [veq], ?_⟩
      have hs0 : 0 ≤ sumM g.f r vals := (fAdd_bounds _ _ _).1
      rw [wrMul g.f hf.nn.qo (at0_nn hpos _)]
      refine ⟨.refl _, ?_⟩
      rw [wrAdd g.f hs0 (fMul_bounds _ _ _).1]
      simp (maxSteps := 10000000) only [wW, reduceCtorEq, Nat.reduceEqDiff]
      exact fin_flat rfl g3 ⟨rfl, rfl⟩
  · rw [if_neg k1, if_neg k1]
    by_cases k2 : r.k = 2
    · rw [if_pos k2, if_pos k2]
      have hx := hf.range k2
      obtain ⟨A2, o2, c2, x1, x2, x3⟩ := hu3.at1 hx.1 (at0_get hx.1 hx.2)
      simp (maxSteps := 10000000) only [wW, reduceCtorEq, Nat.reduceEqDiff, wL, Nat.reduceAdd, hG, hR, x1, x2, x3]
      exact fin_flat rfl g3 ⟨rfl, rfl⟩
    · rw [if_neg k2, if_neg k2]
      by_cases k3 : r.k = 3
      · rw [if_pos k3, if_pos k3]
        have hx := hf.round k3
        have hy := hnx k3
        rw [wRnd g.f hv hx.1 p3.wf (by omega) hu3 hpos hx.2]
        have hl2 := roundM_len g.f r.rd (wv vals r)
        generalize roundM g.f r.rd (wv vals r) = q at hl2 ⊢
        refine alloc_rule ty_39 p3.wf fun S s4 m4 => ?_
        have e4 := m4.eq
        have n4 := m4.n
        refine storeAll_rule isz_39 m4.here (show (u4 q).length = 4 by rw [u4_len]; exact hl2) (by decide) m4.wf (by omega) rfl (u4_one _) fun s5 p5 => ?_
        have g5 := p5.grew _ hw.ent (g3.trans m4.grew) (by omega)
        have hG5 : acells (s5.at G) = some (g.cells ur) := acells_some ((p5.rest G (by omega)).trans ((m4.grew.same G (by omega)).trans hG3))
        have hS5 : acells (s5.at S) = some (u4 q) := acells_some p5.here
        have hu5 : U64s s5 u vals := (Sl.ent hu).grew g5.same
        have hnr : g.rows[i + 1]? = some (nxt g.rows i) := by
          unfold nxt
          rw [List.getElem?_eq_getElem hy.1]; rfl
        have hr5 : RowsS s5 ur g.rows := (Sl.ent hr).grew g5.same
        obtain ⟨A3, o3, c3, y1, y2⟩ := hr5.ix hnr
        have hwv : (wv vals (nxt g.rows i)).length = 4 := rfl
        refine wloop l25_110101111101100 m25_110101111101100 (fun (k : Nat) τ ds s' => k ≤ 4 ∧ τ 1 = u ∧ τ 2 = .int .i64 i ∧ τ 3 = ptr G ∧ τ 9 = ptr S ∧ τ 10 = .int .i64 k ∧ ds = [] ∧ s' = s5 ∧ ∀ j, j < k → at0 (wv vals (nxt g.rows i)) j = at0 q j) (fun k => 4 - k) ?_ 0 ⟨by omega, rfl, rfl, rfl, rfl, rfl, rfl, rfl, fun j hj => by omega⟩
        rintro k τ ds s' ⟨hk, h1, h2, h3, h9, h10, rfl, rfl, hall⟩
        rw [n25_110101111101100]
        unfold v25_110101111101100
        by_cases hk4 : k < 4
        · have hx := hy.2 k hk4
          obtain ⟨A4, o4, c4, z1, z2, z3⟩ := hu5.at1 hx.1 (at0_get hx.1 hx.2)
          have hiw : IntKind.i64.wrap ((i : Int) + 1) = ((i + 1 : Nat) : Int) := by rw [wrap_i64 (by omega) (by omega)]; rfl
          have hw3 := y2.wire hk4
          have hb2 := y2.blk
          simp (maxSteps := 10000000) only [wW, reduceCtorEq, Nat.reduceEqDiff, wL, Nat.reduceAdd, h1, h2, h3, h9, h10, hG5, hiw, y1, hb2, wix _ _ hk4, six _ _ hk4, hw3, z1, z2, z3, hS5, u4_get (show k < q.length by omega)]
          rw [if_pos (by omega)]
          by_cases he : at0 vals ((nxt g.rows i).w k) = at0 q k
          · rw [if_neg (by simpa using he)]
            refine ⟨k + 1, by omega, by omega, h1, h2, h3, h9, ?_, trivial, trivial, fun j hj => ?_⟩
            · show Value.int .i64 (IntKind.i64.wrap ((k : Int) + 1)) = _
              rw [wrap_i64 (by omega) (by omega)]
              rfl
            · rcases Nat.lt_or_ge j k with h | h
              · exact hall j h
              · obtain rfl : j = k := by omega
                rw [wv_get _ _ hk4]
                exact he
          · rw [if_pos (by simpa using he), r25]
            simp (maxSteps := 10000000) only [U, tset_eq, wW, reduceCtorEq, Nat.reduceEqDiff]
            refine fin_flat rfl g5 ⟨?_, rfl⟩
            rw [decide_eq_false]
            intro hh
            rw [eq4 hwv hl2] at hh
            have := hh k hk4
            rw [wv_get _ _ hk4] at this
            exact he this
        · obtain rfl : k = 4 := by omega
          simp (maxSteps := 10000000) only [wW, reduceCtorEq, Nat.reduceEqDiff, h10]
          rw [if_neg (by omega)]
          refine fin_flat rfl g5 ⟨?_, rfl⟩
          rw [decide_eq_true]
          exact (eq4 hwv hl2).2 hall
      · rw [if_neg k3, if_neg k3]
        exact fin_flat rfl g3 ⟨rfl, rfl⟩
end
end Go.VE
/- The reference of the gates: formed. -/
namespace Go.VE
open Go Go.Proofs
set_option maxRecDepth 20000
def Row.qs (r : Row) : List Int := [r.ql, r.qr, r.qm, r.qo, r.qc]
def Formed (f nv : Int) (r : Row) : Prop :=
  r.k ≤ 3 ∧ 0 ≤ r.rd ∧ r.rd ≤ 7 ∧ (r.k ≠ 3 → r.rd = 0) ∧ (∀ q ∈ r.qs, q < fP f ∧ (r.k ≠ 1 → q = 0)) ∧ (∀ k : Nat, k < 4 → -1 ≤ r.w k ∧ r.w k < nv) ∧ ∀ j ∈ rds r, 0 ≤ r.w j.toNat
instance (f nv : Int) (r : Row) : Decidable (Formed f nv r) := by unfold Formed; infer_instance
theorem rds_lt (r : Row) : ∀ j ∈ rds r, (0 : Int) ≤ j ∧ j < 4 := by
  intro j hj
  unfold rds at hj
  split at hj
  · simp only [List.mem_append] at hj
    rcases hj with (hj | hj) | hj
    · split at hj
      · simp only [List.mem_cons, List.not_mem_nil, or_false] at hj; omega
      · cases hj
    · split at hj
      · simp only [List.mem_cons, List.not_mem_nil, or_false] at hj; omega
      · cases hj
    · split at hj
      · simp only [List.mem_cons, List.not_mem_nil, or_false] at hj; omega
      · cases hj
  · split at hj
    · simp only [List.mem_cons, List.not_mem_nil, or_false] at hj; omega
    · split at hj
      · simp only [List.mem_cons, List.not_mem_nil, or_false] at hj; omega
      · cases hj
theorem rds_len (r : Row) : (rds r).length ≤ 4 := by
  unfold rds
  split
  · simp only [List.length_append]
    have h : ∀ (c : Prop) [Decidable c] (x : Int), (if c then [x] else []).length ≤ 1 := fun c _ x => by split <;> simp
    have h1 := h (r.ql ≠ 0 ∨ r.qm ≠ 0) 0
    have h2 := h (r.qr ≠ 0 ∨ r.qm ≠ 0) 1
    have h3 := h (r.qo ≠ 0) 2
    omega
  · split
    · simp
    · split <;> simp
section
variable {ro : Nat} {K : Value → St → Prop}
theorem wFormed (g : Gp) (r : Row) {s : St} {ur : Value} (hw : Wf s) (hro : ro ≤ s.n) : CallWP P ro 52 [.agg (.mk (g.cells ur)), .agg (.mk r.cells)] s K = K (.bool (decide (Formed g.f g.nv r))) s := by
  refine callEq (call_wp b52 rfl ?_) K
  rw [n52]
  unfold v52
  simp (maxSteps := 10000000) only [wW, reduceCtorEq, Nat.reduceEqDiff]
  refine box_rule hw.ent fun G s1 m1 => ?_
  refine box_rule m1.wf fun R s2 m2 => ?_
  have e1 := m1.eq
  have e2 := m2.eq
  have n1 := m1.n
  have n2 := m2.n
  have hn0 : (ent s).n = s.n := rfl
  have g2 := m1.grew.trans m2.grew
  have hG2 : s2.at G = some (.cells (g.cells ur) 24 false) := (m2.grew.same G (by omega)).trans m1.here
  have hR2 : s2.at R = some (.cells r.cells 43 false) := m2.here
  have hG := acells_some hG2
  have hR := acells_some hR2
  have no : ∀ {s' : St}, Grew (ent s) s' → ¬ Formed g.f g.nv r → wfin s (fun v s' => v = .bool (decide (Formed g.f g.nv r)) ∧ s' = s) (.bool false) s' := fun hg hf => by
    refine fin_flat rfl hg ⟨?_, rfl⟩
    rw [decide_eq_false hf]
  have noR : ∀ {τ : Tau} {al : AL} {s' : St}, Grew (ent s) s' → ¬ Formed g.f g.nv r → U τ al 4 = .bool false → xleave (prims P ro) s Tryd.f52.results.toList (fun v s' => v = .bool (decide (Formed g.f g.nv r)) ∧ s' = s) .ret (U τ al) [] [] s' := fun {τ al s'} hg hf h4 => by
    rw [r52]
    simp (maxSteps := 10000000) only [wW, reduceCtorEq, Nat.reduceEqDiff]
    rw [h4]
    exact no hg hf
  simp (maxSteps := 10000000) only [wW, reduceCtorEq, Nat.reduceEqDiff, wL, Nat.reduceAdd, hG, hR]
  have rest : ∀ {τ : Tau}, r.k ≤ 3 ∧ 0 ≤ r.rd ∧ r.rd ≤ 7 ∧ (r.k ≠ 3 → r.rd = 0) → τ 2 = ptr G → τ 3 = ptr R → xp (prims P ro) none 104 k52 c52_11 [1, 1] τ [] [] s2 (xleave (prims P ro) s Tryd.f52.results.toList (fun v s' => v = .bool (decide (Formed g.f g.nv r)) ∧ s' = s)) := fun {τ} hk h2 h3 => by
    rw [n52_11]
    unfold v52_11
    simp (maxSteps := 10000000) only [wW, reduceCtorEq, Nat.reduceEqDiff, wL, Nat.reduceAdd, h2, h3, hG, hR]
    refine buildSlice_rule se_25 ty_38 m2.wf [.int .u64 r.ql, .int .u64 r.qr, .int .u64 r.qm, .int .u64 r.qo, .int .u64 r.qc] rfl rfl (by decide) (by simp [Value.cells]) fun A s3 m3 => ?_
    have e3 := m3.eq
    have n3 := m3.n
    have hQ : U64s s3 (.slice (some ⟨A, 0, none⟩) 5 5) r.qs := m3.sl rfl
    have g3 := g2.trans m3.grew
    have hG3 : acells (s3.at G) = some (g.cells ur) := acells_some ((m3.grew.same G (by omega)).trans hG2)
    have hR3' := (m3.grew.same R (by omega)).trans hR2
    have hR3 : acells (s3.at R) = some r.cells := acells_some hR3'
    refine wloop l52_1110100 m52_1110100 (fun (i : Nat) τ ds s' => i ≤ 5 ∧ τ 2 = ptr G ∧ τ 3 = ptr R ∧ τ 5 = .slice (some ⟨A, 0, none⟩) 5 5 ∧ τ 6 = .int .i64 i ∧ ds = [] ∧ s3 = s' ∧ ∀ q ∈ r.qs.take i, q < fP g.f ∧ (r.k ≠ 1 → q = 0)) (fun i => 5 - i) ?_ 0 ⟨by omega, ?_, ?_, rfl, rfl, rfl, rfl, fun q hq => by cases hq⟩
    · rintro i τ ds s' ⟨hi, h2, h3, h5, h6, rfl, rfl, hall⟩
      rw [n52_1110100]
      unfold v52_1110100
      simp (maxSteps := 10000000) only [wW, reduceCtorEq, Nat.reduceEqDiff, h5, h6, wop_len se_25]
      have hql : r.qs.length = 5 := rfl
      by_cases hlt : i < 5
      · rw [if_pos (by omega)]
        have hiq : i < r.qs.length := by rw [hql]; exact hlt
        obtain ⟨A4, o4, c4, z1, z2, z3⟩ := hQ.at1 (i := (i : Int)) (x := r.qs[i]) (by omega) (by rw [Int.toNat_natCast]; exact List.getElem?_eq_getElem hiq)
        simp (maxSteps := 10000000) only [wW, reduceCtorEq, Nat.reduceEqDiff, wL, Nat.reduceAdd, h2, h3, z1, z2, z3, hG3, hR3, wrP]
        refine ⟨by simp [veq], by simp [veq], .refl _, ?_⟩
        have hmem : r.qs[i] ∈ r.qs := List.getElem_mem _
        by_cases hge : r.qs[i] ≥ fP g.f
        · rw [if_pos hge]
          refine noR g3 (fun hf => ?_) (by simp only [U, tset_eq, wW, reduceCtorEq, Nat.reduceEqDiff])
          have := (hf.2.2.2.2.1 _ hmem).1
          omega
        · rw [if_neg hge]
          refine ⟨by simp [veq], ?_⟩
          have next : (r.k ≠ 1 → r.qs[i] = 0) → ∀ (al : AL), U τ al 2 = ptr G → U τ al 3 = ptr R → U τ al 5 = .slice (some ⟨A, 0, none⟩) 5 5 → U τ al 6 = .int .i64 (IntKind.i64.wrap ((i : Int) + 1)) → ∃ y, 5 - y < 5 - i ∧ y ≤ 5 ∧ U τ al 2 = ptr G ∧ U τ al 3 = ptr R ∧ U τ al 5 = .slice (some ⟨A, 0, none⟩) 5 5 ∧ U τ al 6 = .int .i64 (y : Nat) ∧ True ∧ True ∧ ∀ q ∈ r.qs.take y, q < fP g.f ∧ (r.k ≠ 1 → q = 0) := fun hz al a2 a3 a5 a6 => by
            rw [wrap_i64 (by omega) (by omega)] at a6
            refine ⟨i + 1, by omega, by omega, a2, a3, a5, a6, trivial, trivial, fun q hq => ?_⟩
            rw [take_succ_eq (List.getElem?_eq_getElem (show i < r.qs.length by omega)), List.mem_append] at hq
            rcases hq with hq | hq
            · exact hall q hq
            · simp only [List.mem_cons, List.not_mem_nil, or_false] at hq
              subst hq
              exact ⟨by omega, hz⟩
          by_cases hk1 : r.k = 1
          · rw [if_neg (by simpa using hk1)]
            refine next (fun h => absurd hk1 h) _ ?_ ?_ ?_ ?_ <;> simp only [U, tset_eq, wW, reduceCtorEq, Nat.reduceEqDiff, h2, h3, h5, h6]
          · rw [if_pos hk1]
            refine ⟨by simp [veq], ?_⟩
            by_cases hz : r.qs[i] = 0
            · rw [if_neg (by simpa using hz)]
              refine next (fun _ => hz) _ ?_ ?_ ?_ ?_ <;> simp only [U, tset_eq, wW, reduceCtorEq, Nat.reduceEqDiff, h2, h3, h5, h6]
            · rw [if_pos hz]
              refine noR g3 (fun hf => ?_) (by simp only [U, tset_eq, wW, reduceCtorEq, Nat.reduceEqDiff])
              exact hz ((hf.2.2.2.2.1 _ hmem).2 hk1)
      · obtain rfl : i = 5 := by omega
        rw [if_neg (by omega)]
        have hqs : ∀ q ∈ r.qs, q < fP g.f ∧ (r.k ≠ 1 → q = 0) := hall
        clear hall
        refine wloop l52_11110100 m52_11110100 (fun (i : Nat) τ ds s' => i ≤ 4 ∧ τ 2 = ptr G ∧ τ 3 = ptr R ∧ τ 7 = .int .i64 i ∧ ds = [] ∧ s3 = s' ∧ ∀ k : Nat, k < i → -1 ≤ r.w k ∧ r.w k < g.nv) (fun i => 4 - i) ?_ 0 ⟨by omega, ?_, ?_, rfl, rfl, rfl, fun k hk => by omega⟩
        · rintro i τ ds s' ⟨hi, h2, h3, h7, rfl, rfl, hall⟩
          rw [n52_11110100]
          unfold v52_11110100
          by_cases hlt : i < 4
          · simp (maxSteps := 10000000) only [wW, reduceCtorEq, Nat.reduceEqDiff, wL, Nat.reduceAdd, h2, h3, h7, hG3, hR3, wix _ _ hlt, rcw r hlt]
            rw [if_pos (by omega)]
            by_cases hlo : r.w i < -1
            · rw [if_pos hlo]
              refine noR g3 (fun hf => ?_) (by simp only [U, tset_eq, wW, reduceCtorEq, Nat.reduceEqDiff])
              have := (hf.2.2.2.2.2.1 i hlt).1
              omega
            · rw [if_neg hlo]
              by_cases hhi : r.w i ≥ g.nv
              · rw [if_pos hhi]
                refine noR g3 (fun hf => ?_) (by simp only [U, tset_eq, wW, reduceCtorEq, Nat.reduceEqDiff])
                have := (hf.2.2.2.2.2.1 i hlt).2
                omega
              · rw [if_neg hhi, wrap_i64 (by omega) (by omega)]
                refine ⟨i + 1, by omega, by omega, ?_, ?_, ?_, trivial, trivial, fun k hk => ?_⟩
                · simp only [U, tset_eq, wW, reduceCtorEq, Nat.reduceEqDiff, h2]
                · simp only [U, tset_eq, wW, reduceCtorEq, Nat.reduceEqDiff, h3]
                · simp only [U, tset_eq, wW, reduceCtorEq, Nat.reduceEqDiff]; rfl
                · rcases Nat.lt_or_ge k i with h | h
                  · exact hall k h
                  · obtain rfl : k = i := by omega
                    omega
          · obtain rfl : i = 4 := by omega
            simp (maxSteps := 10000000) only [wW, reduceCtorEq, Nat.reduceEqDiff, h7]
            rw [if_neg (by omega)]
            simp (maxSteps := 10000000) only [U, tset_eq, wW, reduceCtorEq, Nat.reduceEqDiff, wL, Nat.reduceAdd, h3, hR3]
            refine wReads r m3.wf (by omega) fun v s4 g4 hI => ?_
            have g34 := g3.trans g4
            have hR4 : acells (s4.at R) = some r.cells := acells_some ((g4.same R (by omega)).trans hR3')
            have hrl := rds_len r
            refine wloop l52_1111110100 m52_1111110100 (fun (i : Nat) τ ds s' => i ≤ (rds r).length ∧ τ 3 = ptr R ∧ τ 8 = v ∧ τ 9 = .int .i64 i ∧ ds = [] ∧ s4 = s' ∧ ∀ j ∈ (rds r).take i, 0 ≤ r.w j.toNat) (fun i => (rds r).length - i) ?_ 0 ⟨by omega, ?_, ?_, ?_, rfl, rfl, fun k hk => by cases hk⟩
            · rintro i τ ds s' ⟨hi, h3, h8, h9, rfl, rfl, hjs⟩
              rw [n52_1111110100]
              unfold v52_1111110100
              simp (maxSteps := 10000000) only [wW, reduceCtorEq, Nat.reduceEqDiff, h8, h9, hI.wlen se_49]
              by_cases hlt : i < (rds r).length
              · rw [if_pos (by omega)]
                obtain ⟨A4, o4, c4, z1, z2, z3⟩ := hI.at1 (i := (i : Int)) (x := (rds r)[i]) (by omega) (by rw [Int.toNat_natCast]; exact List.getElem?_eq_getElem hlt)
                have hmem : (rds r)[i] ∈ rds r := List.getElem_mem _
                have hj := rds_lt r _ hmem
                have hjc : (((rds r)[i]).toNat : Int) = (rds r)[i] := by omega
                have hwx := wix R 1 (k := ((rds r)[i]).toNat) (by omega)
                rw [hjc] at hwx
                simp (maxSteps := 10000000) only [wW, reduceCtorEq, Nat.reduceEqDiff, wL, Nat.reduceAdd, h3, z1, z2, z3, hR4, hwx, rcw r (show ((rds r)[i]).toNat < 4 by omega)]
                by_cases hneg : r.w ((rds r)[i]).toNat < 0
                · rw [if_pos hneg]
                  refine noR g34 (fun hf => ?_) (by simp only [U, tset_eq, wW, reduceCtorEq, Nat.reduceEqDiff])
                  have := hf.2.2.2.2.2.2 _ hmem
                  omega
                · rw [if_neg hneg, wrap_i64 (by omega) (by omega)]
                  refine ⟨i + 1, by omega, by omega, ?_, ?_, ?_, trivial, trivial, fun j hj => ?_⟩
                  · simp only [U, tset_eq, wW, reduceCtorEq, Nat.reduceEqDiff, h3]
                  · simp only [U, tset_eq, wW, reduceCtorEq, Nat.reduceEqDiff, h8]
                  · simp only [U, tset_eq, wW, reduceCtorEq, Nat.reduceEqDiff]; rfl
                  · rw [take_succ_eq (List.getElem?_eq_getElem hlt), List.mem_append] at hj
                    rcases hj with hj | hj
                    · exact hjs j hj
                    · simp only [List.mem_cons, List.not_mem_nil, or_false] at hj
                      subst hj
                      omega
              · rw [if_neg (by omega)]
                rw [List.take_of_length_le (by omega)] at hjs
                rw [xleave_U, r52]
                simp (maxSteps := 10000000) only [U, tset_eq, wW, reduceCtorEq, Nat.reduceEqDiff]
                refine fin_flat rfl g34 ⟨?_, rfl⟩
                rw [decide_eq_true]
                exact ⟨hk.1, hk.2.1, hk.2.2.1, hk.2.2.2, hqs, hall, hjs⟩
            · simp only [U, tset_eq, wW, reduceCtorEq, Nat.reduceEqDiff, h3]
            · simp only [U, tset_eq, wW, reduceCtorEq, Nat.reduceEqDiff]
            · simp only [U, tset_eq, wW, reduceCtorEq, Nat.reduceEqDiff]; rfl
        · simp only [U, tset_eq, wW, reduceCtorEq, Nat.reduceEqDiff, h2]
        · simp only [U, tset_eq, wW, reduceCtorEq, Nat.reduceEqDiff, h3]
    · simp only [U, tset_eq, wW, reduceCtorEq, Nat.reduceEqDiff, h2]
    · simp only [U, tset_eq, wW, reduceCtorEq, Nat.reduceEqDiff, h3]
  by_cases c1 : r.k > 3
  · rw [if_pos c1]
    exact no g2 fun hf => by have := hf.1; omega
  · rw [if_neg c1]
    by_cases c2 : r.rd < 0
    · rw [if_pos c2]
      exact no g2 fun hf => by have := hf.2.1; omega
    · rw [if_neg c2]
      by_cases c3 : r.rd > 7
      · rw [if_pos c3]
        exact no g2 fun hf => by have := hf.2.2.1; omega
      · rw [if_neg c3]
        by_cases c4 : r.k = 3
        · rw [if_neg (by simpa using c4)]
          refine rest ⟨by omega, by omega, by omega, fun h => absurd c4 h⟩ ?_ ?_ <;> simp only [U, tset_eq, wW, reduceCtorEq, Nat.reduceEqDiff]
        · rw [if_pos c4]
          by_cases c5 : r.rd = 0
          · rw [if_neg (by simpa using c5)]
            refine rest ⟨by omega, by omega, by omega, fun _ => c5⟩ ?_ ?_ <;> simp only [U, tset_eq, wW, reduceCtorEq, Nat.reduceEqDiff]
          · rw [if_pos c5]
            exact no g2 fun hf => c5 (hf.2.2.2.1 c4)
end
end Go.VE
/- The reference of the gates: limits. -/
namespace Go.VE
open Go Go.Proofs
set_option maxRecDepth 20000
def row0 : Row := ⟨0, 0, 0, 0, 0, 0, 0, 0, 0, 0, 0⟩
def rowAt (l : List Row) (i : Nat) : Row := (l[i]?).getD row0
theorem rowAt_get {l : List Row} {i : Nat} (h : i < l.length) : l[i]? = some (rowAt l i) := by
  unfold rowAt
  rw [List.getElem?_eq_getElem h]; rfl
theorem nxt_eq (l : List Row) (i : Nat) : nxt l i = rowAt l (i + 1) := rfl
def RowLim (g : Gp) (i : Nat) : Prop := Formed g.f g.nv (rowAt g.rows i) ∧ ((rowAt g.rows i).k = 3 → i + 1 < g.rows.length ∧ ∀ k : Nat, k < 4 → 0 ≤ (rowAt g.rows (i + 1)).w k)
instance (g : Gp) (i : Nat) : Decidable (RowLim g i) := by unfold RowLim; infer_instance
def Limits (g : Gp) : Prop :=
  fV g.f = true ∧ 0 ≤ g.pub ∧ g.pub ≤ 16 ∧ 0 ≤ g.sec ∧ g.sec ≤ 20000 ∧ g.pub + g.sec ≤ g.nv ∧ g.nv ≤ 40000 ∧ g.rows.length ≤ 8000 ∧ ∀ i : Nat, i < g.rows.length → RowLim g i
instance (g : Gp) : Decidable (Limits g) := by unfold Limits; infer_instance
section
variable {ro : Nat} {K : Value → St → Prop}
theorem wLimits (g : Gp) {s : St} {ur : Value} (hw : Wf s) (hro : ro ≤ s.n) (hr : RowsS s ur g.rows) (hlen : g.rows.length < 2 ^ 60) : CallWP P ro 26 [.agg (.mk (g.cells ur))] s K = K (.bool (decide (Limits g))) s := by
  refine callEq (call_wp b26 rfl ?_) K
  rw [n26]
  unfold v26
  simp (maxSteps := 10000000) only [wW, reduceCtorEq, Nat.reduceEqDiff]
  refine box_rule hw.ent fun G s1 m1 => ?_
  have e1 := m1.eq
  have n1 := m1.n
  have hn0 : (ent s).n = s.n := rfl
  have hG1 : s1.at G = some (.cells (g.cells ur) 24 false) := m1.here
  have hG := acells_some hG1
  have hr1 : RowsS s1 ur g.rows := (Sl.ent hr).grew m1.grew.same
  have hgl : ∀ s' K, wop P ro (.call ⟨.builtin .len, ⟨[.const ur]⟩, #[22]⟩) 3 s' K = K (.int .i64 (g.rows.length : Nat)) s' := fun s' K => Sl.wlen hr1 se_22 _ K
  have no : ¬ Limits g → wfin s (fun v s' => v = .bool (decide (Limits g)) ∧ s' = s) (.bool false) s1 := fun hf => by
    refine fin_flat rfl m1.grew ⟨?_, rfl⟩
    rw [decide_eq_false hf]
  have noR : ∀ {τ : Tau} {al : AL}, ¬ Limits g → U τ al 2 = .bool false → xleave (prims P ro) s Tryd.f26.results.toList (fun v s' => v = .bool (decide (Limits g)) ∧ s' = s) .ret (U τ al) [] [] s1 := fun {τ al} hf h4 => by
    rw [r26]
    simp (maxSteps := 10000000) only [wW, reduceCtorEq, Nat.reduceEqDiff]
    rw [h4]
    exact no hf
  simp (maxSteps := 10000000) only [wW, reduceCtorEq, Nat.reduceEqDiff, wL, Nat.reduceAdd, hG, wrValid, hgl]
  cases hv : fV g.f with
  | false =>
    simp (maxSteps := 10000000) only [wW, reduceCtorEq, Nat.reduceEqDiff]
    exact no fun hf => by rw [hf.1] at hv; cases hv
  | true =>
  simp (maxSteps := 10000000) only [Bool.true_eq_false, wW, reduceCtorEq, Nat.reduceEqDiff]
  by_cases c1 : g.pub < 0
  · rw [if_pos c1]
    exact no fun hf => by have := hf.2.1; omega
  · rw [if_neg c1]
    by_cases c2 : g.pub > 16
    · rw [if_pos c2]
      exact no fun hf => by have := hf.2.2.1; omega
    · rw [if_neg c2]
      by_cases c3 : g.sec < 0
      · rw [if_pos c3]
        exact no fun hf => by have := hf.2.2.2.1; omega
      · rw [if_neg c3]
        by_cases c4 : g.sec > 20000
        · rw [if_pos c4]
          exact no fun hf => by have := hf.2.2.2.2.1; omega
        · rw [if_neg c4, wrap_i64 (n := g.pub + g.sec) (by omega) (by omega)]
          by_cases c5 : g.nv < g.pub + g.sec
          · rw [if_pos c5]
            exact no fun hf => by have := hf.2.2.2.2.2.1; omega
          · rw [if_neg c5]
            by_cases c6 : g.nv > 40000
            · rw [if_pos c6]
              exact no fun hf => by have := hf.2.2.2.2.2.2.1; omega
            · rw [if_neg c6]
              by_cases c7 : (g.rows.length : Int) > 8000
              · rw [if_pos c7]
                exact no fun hf => by have := hf.2.2.2.2.2.2.2.1; omega
              · rw [if_neg c7]
                refine wloop l26_110100 m26_110100 (fun (i : Nat) τ ds s' => i ≤ g.rows.length ∧ τ 1 = ptr G ∧ τ 3 = .int .i64 i ∧ ds = [] ∧ s1 = s' ∧ ∀ j : Nat, j < i → RowLim g j) (fun i => g.rows.length - i) ?_ 0 ⟨by omega, ?_, ?_, rfl, rfl, fun k hk => by omega⟩
                · rintro i τ ds s' ⟨hi, h1, h3, rfl, rfl, hall⟩
                  rw [n26_110100]
                  unfold v26_110100
                  simp (maxSteps := 10000000) only [wW, reduceCtorEq, Nat.reduceEqDiff, wL, Nat.reduceAdd, h1, h3, hG, hgl]
                  by_cases hlt : i < g.rows.length
                  · rw [if_pos (by omega)]
                    obtain ⟨A, o, c, q1, q2⟩ := hr1.ix (rowAt_get hlt)
                    have hkc := q2.kind
                    simp (maxSteps := 10000000) only [wW, reduceCtorEq, Nat.reduceEqDiff, wL, Nat.reduceAdd, q1, q2.blk, q2.all, hG]
                    refine ⟨gcVeq g (slVeq hr1), slVeq hr1, rcVeq _, ?_⟩
                    rw [wFormed g (rowAt g.rows i) m1.wf (by omega)]
                    simp (maxSteps := 10000000) only [wW, reduceCtorEq, Nat.reduceEqDiff, wL, Nat.reduceAdd, q1, q2.blk, hG, hkc, hgl]
                    by_cases hf : Formed g.f g.nv (rowAt g.rows i)
                    · rw [if_neg (by simpa using hf)]
                      have hiw : IntKind.i64.wrap ((i : Int) + 1) = ((i + 1 : Nat) : Int) := by rw [wrap_i64 (by omega) (by omega)]; rfl
                      have next : RowLim g i → ∀ (τ : Tau) (al : AL), U τ al 1 = ptr G → U τ al 3 = .int .i64 ((i + 1 : Nat) : Int) → ∃ y, g.rows.length - y < g.rows.length - i ∧ y ≤ g.rows.length ∧ U τ al 1 = ptr G ∧ U τ al 3 = .int .i64 (y : Nat) ∧ True ∧ True ∧ ∀ j : Nat, j < y → RowLim g j := fun hl τ al a1 a3 => ⟨i + 1, by omega, by omega, a1, a3, trivial, trivial, fun j hj => by
                        rcases Nat.lt_or_ge j i with h | h
                        · exact hall j h
                        · obtain rfl : j = i := by omega
                          exact hl⟩
                      by_cases hk3 : (rowAt g.rows i).k = 3
                      · rw [if_neg (by simpa using hk3), hiw]
                        by_cases hge : ((i + 1 : Nat) : Int) ≥ g.rows.length
                        · rw [if_pos hge]
                          refine noR (fun hf => ?_) (by simp only [U, tset_eq, wW, reduceCtorEq, Nat.reduceEqDiff])
                          have := ((hf.2.2.2.2.2.2.2.2 i hlt).2 hk3).1
                          omega
                        · rw [if_neg hge]
                          have hlt1 : i + 1 < g.rows.length := by omega
                          obtain ⟨A2, o2, cc2, y1, y2⟩ := hr1.ix (rowAt_get hlt1)
                          refine wloop l26_110100100111100 m26_110100100111100 (fun (k : Nat) τ ds s' => k ≤ 4 ∧ τ 1 = ptr G ∧ τ 3 = .int .i64 i ∧ τ 4 = .int .i64 k ∧ ds = [] ∧ s1 = s' ∧ ∀ j : Nat, j < k → 0 ≤ (rowAt g.rows (i + 1)).w j) (fun k => 4 - k) ?_ 0 ⟨by omega, ?_, ?_, ?_, rfl, rfl, fun k hk => by omega⟩
                          · rintro k τ ds s' ⟨hk, h1, h3, h4, rfl, rfl, hks⟩
                            rw [n26_110100100111100]
                            unfold v26_110100100111100
                            by_cases hk4 : k < 4
                            · have hwk := y2.wire hk4
                              simp (maxSteps := 10000000) only [wW, reduceCtorEq, Nat.reduceEqDiff, wL, Nat.reduceAdd, h1, h3, h4, hG, hiw, y1, y2.blk, wix _ _ hk4, hwk]
                              rw [if_pos (by omega)]
                              by_cases hneg : (rowAt g.rows (i + 1)).w k < 0
                              · rw [if_pos hneg]
                                refine noR (fun hf => ?_) (by simp only [U, tset_eq, wW, reduceCtorEq, Nat.reduceEqDiff])
                                have := ((hf.2.2.2.2.2.2.2.2 i hlt).2 hk3).2 k hk4
                                omega
                              · rw [if_neg hneg, wrap_i64 (by omega) (by omega)]
                                refine ⟨k + 1, by omega, by omega, ?_, ?_, ?_, trivial, trivial, fun j hj => ?_⟩
                                · simp only [U, tset_eq, wW, reduceCtorEq, Nat.reduceEqDiff, h1]
                                · simp only [U, tset_eq, wW, reduceCtorEq, Nat.reduceEqDiff, h3]
                                · simp only [U, tset_eq, wW, reduceCtorEq, Nat.reduceEqDiff]; rfl
                                · rcases Nat.lt_or_ge j k with h | h
                                  · exact hks j h
                                  · obtain rfl : j = k := by omega
                                    omega
                            · obtain rfl : k = 4 := by omega
                              simp (maxSteps := 10000000) only [wW, reduceCtorEq, Nat.reduceEqDiff, h4]
                              rw [if_neg (by omega)]
                              simp (maxSteps := 10000000) only [U, tset_eq, wW, reduceCtorEq, Nat.reduceEqDiff, h3, hiw]
                              refine ⟨i + 1, by omega, by omega, ?_, ?_, trivial, trivial, fun j hj => ?_⟩
                              · simp only [h1]
                              · trivial
                              · rcases Nat.lt_or_ge j i with h | h
                                · exact hall j h
                                · obtain rfl : j = i := by omega
                                  exact ⟨hf, fun _ => ⟨hlt1, hks⟩⟩
                          · simp only [U, tset_eq, wW, reduceCtorEq, Nat.reduceEqDiff, h1]
                          · simp only [U, tset_eq, wW, reduceCtorEq, Nat.reduceEqDiff, h3]
                          · simp only [U, tset_eq, wW, reduceCtorEq, Nat.reduceEqDiff]; rfl
                      · rw [if_pos hk3, hiw]
                        refine next ⟨hf, fun h => absurd h hk3⟩ _ _ ?_ ?_ <;> simp only [U, tset_eq, wW, reduceCtorEq, Nat.reduceEqDiff, h1]
                    · rw [if_pos (by simpa using hf)]
                      refine noR (fun hl => hf ?_) (by simp only [U, tset_eq, wW, reduceCtorEq, Nat.reduceEqDiff])
                      exact (hl.2.2.2.2.2.2.2.2 i hlt).1
                  · rw [if_neg (by omega)]
                    obtain rfl : i = g.rows.length := by omega
                    refine fin_flat rfl m1.grew ⟨?_, rfl⟩
                    rw [decide_eq_true]
                    exact ⟨hv, by omega, by omega, by omega, by omega, by omega, by omega, by omega, hall⟩
                · simp only [U, tset_eq, wW, reduceCtorEq, Nat.reduceEqDiff]
                · simp only [U, tset_eq, wW, reduceCtorEq, Nat.reduceEqDiff]; rfl
end
end Go.VE
/- The reference of the gates: order, Valid. -/
namespace Go.VE
open Go Go.Proofs
set_option maxRecDepth 20000
structure Vc {α : Type} (e : TypeId) (mk : α → Value) (s0 s : St) (A : Nat) (l : List α) : Prop where
  here : s.at A = some (.cells (l.map mk) e false)
  new : s0.n ≤ A
  wf : Wf s
  grew : Grew s0 s
theorem map_splice {α : Type} (mk : α → Value) (l : List α) (i : Nat) (x : α) (h : i < l.length) : splice (l.map mk) i [mk x] = (l.set i x).map mk := by
  rw [splice_set (by simpa using h)]
  simp [List.map_set]
theorem oneCell_cells {v : Value} (h : v.oneCell' = true) : v.cells = #[v] := by cases v <;> first | rfl | cases h
theorem zeroList_one {v : Value} (h : v.oneCell' = true) (n : Nat) : zeroList v.cells (n * 1) = List.replicate n v := by
  unfold zeroList
  rw [oneCell_cells h, Nat.mul_one]
  refine List.ext_getElem (by simp) fun i h1 h2 => ?_
  simp [Nat.mod_one]
section
variable {ro : Nat} {K : Value → St → Prop}
theorem Vc.store {α : Type} {e : TypeId} {mk : α → Value} {s0 s : St} {A : Nat} {l : List α} (h : Vc e mk s0 s A l) (hs : isz P e = some 1) (hw0 : Wf s0) (hro : ro ≤ s0.n) {i : Nat} (hi : i < l.length) {x : α} (h1 : (mk x).oneCell' = true) {ty : TypeId} {K : Value → St → Prop} (hk : ∀ s', Vc e mk s0 s' A (l.set i x) → (∀ B, B ≠ A → s'.at B = s.at B) → s'.n = s.n → K undef s') :
    wop P ro (.store e (.const (.pointer (some ⟨A, i, none⟩))) (.const (mk x))) ty s K := by
  have hn := h.new
  refine store1_rule hs h.here h.wf (by omega) (by simpa using hi) h1 fun s' p => hk s' ⟨?_, h.new, p.wf, p.grew _ hw0 h.grew h.new⟩ p.rest p.n
  rw [p.here, map_splice _ _ _ _ hi]
theorem make_rule {α : Type} {t e : TypeId} {bytes : Nat} {mk : α → Value} {x : α} (hse : sliceElem P t = some e) (hty : tyOk P e 1 bytes (mk x) = true) (h1 : (mk x).oneCell' = true) {s : St} (hw : Wf s) {n : Int} (h0 : 0 ≤ n) (hn : n ≤ 2 ^ 30) (hb : bytes ≤ 100) {ty : TypeId} {K : Value → St → Prop}
    (hk : ∀ A s', Made s A (.cells ((List.replicate n.toNat x).map mk) e false) s' → K (.slice (some ⟨A, 0, none⟩) n.toNat n.toNat) s') : wop P ro (.makeSlice t (.const (.int .i64 n)) (.const (.int .i64 n))) ty s K := by
  obtain ⟨i, hi, hsz, hby, hz, hf, hzs⟩ := tyOk_spec hty
  rw [wop_makeSlice]
  have hle : bytes * n ≤ 100 * 2 ^ 30 := Int.mul_le_mul (by omega) hn h0 (by omega)
  have hc : flat (mk x) = true ∧ 0 ≤ n ∧ n ≤ n ∧ i.bytes * n ≤ 2 ^ 47 ∧ n ≤ 2 ^ 47 ∧ (mk x).cells.size = i.size := ⟨hf, h0, Int.le_refl _, by rw [hby]; omega, by omega, by rw [hsz]; exact hzs⟩
  simp only [amakeSlice, hse, hi, hz]
  rw [if_pos hc, wopt_some, hsz, zeroList_one h1]
  have := hk s.n (s.new (.cells (List.replicate n.toNat (mk x)) e false))
  rw [List.map_replicate] at this
  exact this (.mk' hw _)
theorem sliceElem_un {t e : TypeId} (he : sliceElem P t = some e) : P.underlying t = some (.slice e) := by
  unfold sliceElem at he
  split at he
  · rename_i e' hu; cases he; exact hu
  · cases he
theorem ixc {t e : TypeId} (hse : sliceElem P t = some e) (hs : isz P e = some 1) {A n c : Nat} {i : Int} (h0 : 0 ≤ i) (hi : i < n) : aindexAddr P t (.slice (some ⟨A, 0, none⟩) n c) (.int .i64 i) = some (.pointer (some ⟨A, i.toNat, none⟩)) := by
  simp only [aindexAddr, sliceElem_un hse, hs, Option.bind_some, aplace, h0, hi, and_self, if_true, Nat.mul_one, Nat.zero_add]
theorem max_i64 (a b : Int) (ty : TypeId) (s : St) (K : Value → St → Prop) : wop P ro (.call ⟨.builtin .max, ⟨[.const (.int .i64 a), .const (.int .i64 b)]⟩, #[3, 3]⟩) ty s K = K (.int .i64 (if a < b then b else a)) s := by kernel_rfl
end
def dInit (n0 : Int) (i : Nat) (D : List Int) : List Int := if (i : Int) < n0 then (D.set i (-1)).set i 0 else D.set i (-1)
def mostM (r : Row) (D : List Int) : List Int → Int → Option Int
  | [], m => some m
  | j :: l, m => if at0 D (r.w j.toNat) < 0 ∧ ¬ (r.k = 1 ∧ j = 2) then none else mostM r D l (if m < at0 D (r.w j.toNat) then at0 D (r.w j.toNat) else m)
def dNext (m : Int) (nx : Row) (k : Nat) (D : List Int) : List Int := if at0 D (nx.w k) < 0 then D.set (nx.w k).toNat (m + 1) else D
def dArith (r : Row) (m : Int) (D : List Int) : List Int := if r.k = 1 ∧ r.qo ≠ 0 ∧ at0 D r.w2 < 0 then D.set r.w2.toNat (m + 1) else D
def dRow (r nx : Row) (m : Int) (D : List Int) : List Int := if r.k = 3 then it (dNext m nx) 4 (dArith r m D) else dArith r m D
def stepD (g : Gp) (i : Nat) (D : List Int) : Option (List Int) := (mostM (rowAt g.rows i) D (rds (rowAt g.rows i)) 0).map fun m => dRow (rowAt g.rows i) (rowAt g.rows (i + 1)) m D
def orderD (g : Gp) : Nat → Option (List Int)
  | 0 => some (it (dInit (g.pub + g.sec)) g.nv.toNat (List.replicate g.nv.toNat 0))
  | i + 1 => (orderD g i).bind (stepD g i)
def orderM (g : Gp) : Option (List Int) := (orderD g g.rows.length).bind fun D => if D.all (fun x => decide (0 ≤ x)) then some D else none
theorem orderD_none {g : Gp} {i : Nat} (h : orderD g i = none) : ∀ {n : Nat}, i ≤ n → orderD g n = none
  | 0, hn => by obtain rfl : i = 0 := by omega
                exact h
  | n + 1, hn => by
    rcases Nat.lt_or_ge i (n + 1) with hlt | hge
    · rw [orderD, orderD_none h (by omega)]; rfl
    · obtain rfl : i = n + 1 := by omega
      exact h
def Dep (N : Nat) (m : Int) (D : List Int) : Prop := D.length = N ∧ ∀ x ∈ D, -1 ≤ x ∧ x ≤ m
theorem Dep.set {N : Nat} {m : Int} {D : List Int} (h : Dep N m D) {i : Nat} {x : Int} (hx : -1 ≤ x ∧ x ≤ m) : Dep N m (D.set i x) := ⟨by rw [List.length_set]; exact h.1, fun y hy => by
  rcases List.mem_or_eq_of_mem_set hy with hy | rfl
  · exact h.2 y hy
  · exact hx⟩
theorem Dep.mono {N : Nat} {m m' : Int} {D : List Int} (h : Dep N m D) (hm : m ≤ m') : Dep N m' D := ⟨h.1, fun x hx => ⟨(h.2 x hx).1, Int.le_trans (h.2 x hx).2 hm⟩⟩
theorem Dep.at0 {N : Nat} {m : Int} {D : List Int} (h : Dep N m D) (hm : 0 ≤ m) (i : Int) : -1 ≤ Go.VE.at0 D i ∧ Go.VE.at0 D i ≤ m := by
  unfold Go.VE.at0
  cases hx : D[i.toNat]? with
  | none => exact ⟨by decide, hm⟩
  | some x => exact h.2 x (List.mem_of_getElem? hx)
theorem Dep.init {N : Nat} {n0 : Int} {D : List Int} (h : Dep N 0 D) (i : Nat) : Dep N 0 (dInit n0 i D) := by
  unfold dInit
  split
  · exact (h.set (by decide)).set (by decide)
  · exact h.set (by decide)
theorem Dep.arith {N : Nat} {i m : Int} {D : List Int} {r : Row} (h : Dep N i D) (hm : -1 ≤ m ∧ m ≤ i) : Dep N (i + 1) (dArith r m D) := by
  unfold dArith
  split
  · exact (h.mono (by omega)).set (by omega)
  · exact h.mono (by omega)
theorem Dep.next {N : Nat} {i m : Int} {D : List Int} {r : Row} {k : Nat} (h : Dep N (i + 1) D) (hm : -1 ≤ m ∧ m ≤ i) : Dep N (i + 1) (dNext m r k D) := by
  unfold dNext
  split
  · exact h.set (by omega)
  · exact h
theorem Dep.nexts {N : Nat} {i m : Int} {D : List Int} {r : Row} (h : Dep N (i + 1) D) (hm : -1 ≤ m ∧ m ≤ i) : ∀ n, Dep N (i + 1) (it (dNext m r) n D)
  | 0 => h
  | n + 1 => (Dep.nexts h hm n).next hm
theorem Dep.inits {N : Nat} {n0 : Int} {D : List Int} (h : Dep N 0 D) : ∀ n, Dep N 0 (it (dInit n0) n D)
  | 0 => h
  | n + 1 => (Dep.inits h n).init n
end Go.VE
/- The reference of the gates: order, Valid. -/
namespace Go.VE
open Go Go.Proofs
set_option maxRecDepth 20000
structure OrdI (ro : Nat) (g : Gp) (ur : Value) (s0 : St) (G A : Nat) (s : St) (D : List Int) : Prop where
  vc : Vc 3 (.int .i64) s0 s A D
  gat : s.at G = some (.cells (g.cells ur) 24 false)
  len : D.length = g.nv.toNat
  w0 : Wf s0
  ro : ro ≤ s0.n
  rows : RowsS s0 ur g.rows
  ne : G ≠ A
section
variable {ro : Nat} {K : Value → St → Prop} {g : Gp} {ur : Value} {s0 : St} {G A : Nat} {s : St} {D : List Int}
theorem OrdI.rs (h : OrdI ro g ur s0 G A s D) : RowsS s ur g.rows := Sl.grew h.rows h.vc.grew.same
theorem OrdI.gc (h : OrdI ro g ur s0 G A s D) : acells (s.at G) = some (g.cells ur) := acells_some h.gat
theorem OrdI.dc (h : OrdI ro g ur s0 G A s D) : acells (s.at A) = some (D.map (.int .i64)) := acells_some h.vc.here
theorem OrdI.get (h : OrdI ro g ur s0 G A s D) {i : Int} (h0 : 0 ≤ i) (hi : i < g.nv) : (D.map (Value.int .i64))[i.toNat]? = some (.int .i64 (at0 D i)) := by
  have := h.len
  rw [List.getElem?_map, at0_get h0 (by omega)]; rfl
theorem OrdI.store (h : OrdI ro g ur s0 G A s D) {i : Int} (h0 : 0 ≤ i) (hi : i < g.nv) {x : Int} {ty : TypeId} {K : Value → St → Prop} (hk : ∀ s', OrdI ro g ur s0 G A s' (D.set i.toNat x) → (∀ B, B ≠ A → s'.at B = s.at B) → K undef s') :
    wop P ro (.store 3 (.const (.pointer (some ⟨A, i.toNat, none⟩))) (.const (.int .i64 x))) ty s K := by
  have := h.len
  exact h.vc.store isz_3 h.w0 h.ro (by omega) rfl fun s' v r _ => hk s' ⟨v, (r G h.ne).trans h.gat, by rw [List.length_set]; exact h.len, h.w0, h.ro, h.rows, h.ne⟩ r
theorem OrdI.grew (h : OrdI ro g ur s0 G A s D) {s' : St} (hg : Grew s s') : OrdI ro g ur s0 G A s' D :=
  ⟨⟨(hg.same A (St.at_lt h.vc.here)).trans h.vc.here, h.vc.new, h.vc.wf.grew hg, h.vc.grew.trans hg⟩, (hg.same G (St.at_lt h.gat)).trans h.gat, h.len, h.w0, h.ro, h.rows, h.ne⟩
theorem Limits.row {i : Nat} (h : Limits g) (hi : i < g.rows.length) : RowLim g i := h.2.2.2.2.2.2.2.2 i hi
theorem Limits.wire {i : Nat} (h : Limits g) (hi : i < g.rows.length) {k : Nat} (hk : k < 4) : -1 ≤ (rowAt g.rows i).w k ∧ (rowAt g.rows i).w k < g.nv := (h.row hi).1.2.2.2.2.2.1 k hk
theorem Limits.next {i : Nat} (h : Limits g) (hi : i < g.rows.length) (h3 : (rowAt g.rows i).k = 3) : i + 1 < g.rows.length ∧ ∀ k : Nat, k < 4 → 0 ≤ (rowAt g.rows (i + 1)).w k ∧ (rowAt g.rows (i + 1)).w k < g.nv :=
  ⟨((h.row hi).2 h3).1, fun k hk => ⟨((h.row hi).2 h3).2 k hk, (h.wire ((h.row hi).2 h3).1 hk).2⟩⟩
theorem Limits.reads {i : Nat} (h : Limits g) (hi : i < g.rows.length) {j : Int} (hj : j ∈ rds (rowAt g.rows i)) : 0 ≤ (rowAt g.rows i).w j.toNat ∧ (rowAt g.rows i).w j.toNat < g.nv := by
  have h4 := rds_lt _ j hj
  exact ⟨(h.row hi).1.2.2.2.2.2.2 j hj, (h.wire hi (by omega)).2⟩
theorem Limits.nv (h : Limits g) : 0 ≤ g.nv ∧ g.nv ≤ 40000 := ⟨by have := h.2.1; have := h.2.2.2.1; have := h.2.2.2.2.2.1; omega, h.2.2.2.2.2.2.1⟩
theorem rds_2 {r : Row} (h1 : r.k = 1) (hq : r.qo ≠ 0) : (2 : Int) ∈ rds r := by
  unfold rds
  rw [if_pos h1, if_pos hq]
  simp
abbrev slc (A n : Nat) : Value := .slice (some ⟨A, 0, none⟩) n n
theorem ordNext (hL : Limits g) (hI : OrdI ro g ur s0 G A s D) {i : Nat} (hi : i < g.rows.length) {R : Nat} (hR : s.at R = some (.cells (rowAt g.rows i).cells 43 false)) (hRA : R ≠ A) {m : Int} (hm : 0 ≤ m ∧ m ≤ i)
    {τ : Tau} {ds : List Deferred} {Qe : Ex → XK} (h1 : τ 1 = ptr G) (h4 : τ 4 = slc A g.nv.toNat) (h6 : τ 6 = .int .i64 i) (h7 : τ 7 = ptr R) (h9 : τ 9 = .int .i64 m)
    (hk : ∀ τ' al s', U τ' al 1 = ptr G → U τ' al 4 = slc A g.nv.toNat → U τ' al 6 = .int .i64 i → OrdI ro g ur s0 G A s' (if (rowAt g.rows i).k = 3 then it (dNext m (rowAt g.rows (i + 1))) 4 D else D) → Qe .normal τ' al ds s') :
    xp (prims P ro) none 153 k27_1110100 c27_111010010011111 [1, 1, 1, 1, 1, 0, 0, 1] τ [] ds s Qe := by
  have hnv := hL.nv
  have hrl := hL.2.2.2.2.2.2.2.1
  rw [n27_111010010011111]
  unfold v27_111010010011111
  have hRc : acells (s.at R) = some (rowAt g.rows i).cells := acells_some hR
  simp (maxSteps := 10000000) only [wW, reduceCtorEq, Nat.reduceEqDiff, wL, Nat.reduceAdd, h7, hRc]
  by_cases h3 : (rowAt g.rows i).k = 3
  · rw [if_pos h3] at hk ⊢
    have hn := hL.next hi h3
    refine wloop l27_11101001001111110100 m27_11101001001111110100 (fun (k : Nat) τ ds' s' => k ≤ 4 ∧ τ 1 = ptr G ∧ τ 4 = slc A g.nv.toNat ∧ τ 6 = .int .i64 i ∧ τ 9 = .int .i64 m ∧ τ 12 = .int .i64 k ∧ ds = ds' ∧ OrdI ro g ur s0 G A s' (it (dNext m (rowAt g.rows (i + 1))) k D)) (fun k => 4 - k) ?_ 0 ⟨by omega, ?_, ?_, ?_, ?_, rfl, rfl, hI⟩
    · clear h1 h4 h6 h7 h9 hI hR hRc
      rintro k τ ds' s' ⟨hk4', h1, h4, h6, h9, h12, rfl, hI⟩
      rw [n27_11101001001111110100]
      unfold v27_11101001001111110100
      by_cases hk4 : k < 4
      · have hx := hn.2 k hk4
        obtain ⟨A2, o2, c2, y1, y2⟩ := hI.rs.ix (rowAt_get hn.1)
        have hiw : IntKind.i64.wrap ((i : Int) + 1) = ((i + 1 : Nat) : Int) := by rw [wrap_i64 (by omega) (by omega)]; rfl
        have hwk := y2.wire hk4
        have hix := ixc se_49 isz_3 (A := A) (n := g.nv.toNat) (c := g.nv.toNat) (i := (rowAt g.rows (i + 1)).w k) hx.1 (by omega)
        have hgt := hI.get hx.1 hx.2
        simp (maxSteps := 10000000) only [wW, reduceCtorEq, Nat.reduceEqDiff, wL, Nat.reduceAdd, h1, h4, h6, h9, h12, hI.gc, hiw, y1, y2.blk, wix _ _ hk4, hwk, hix, hI.dc, hgt]
        rw [if_pos (by omega)]
        by_cases hneg : at0 (it (dNext m (rowAt g.rows (i + 1))) k D) ((rowAt g.rows (i + 1)).w k) < 0
        · rw [if_pos hneg, wrap_i64 (n := m + 1) (by omega) (by omega)]
          refine hI.store hx.1 hx.2 fun s2 hI2 _ => ?_
          rw [wrap_i64 (by omega) (by omega)]
          refine ⟨k + 1, by omega, by omega, ?_, ?_, ?_, ?_, ?_, trivial, ?_⟩
          · simp only [U, tset_eq, wW, reduceCtorEq, Nat.reduceEqDiff, h1]
          · simp only [U, tset_eq, wW, reduceCtorEq, Nat.reduceEqDiff, h4]
          · simp only [U, tset_eq, wW, reduceCtorEq, Nat.reduceEqDiff, h6]
          · simp only [U, tset_eq, wW, reduceCtorEq, Nat.reduceEqDiff, h9]
          · simp only [U, tset_eq, wW, reduceCtorEq, Nat.reduceEqDiff]; rfl
          · rw [it, dNext, if_pos hneg]
            exact hI2
        · rw [if_neg hneg, wrap_i64 (by omega) (by omega)]
          refine ⟨k + 1, by omega, by omega, ?_, ?_, ?_, ?_, ?_, trivial, ?_⟩
          · simp only [U, tset_eq, wW, reduceCtorEq, Nat.reduceEqDiff, h1]
          · simp only [U, tset_eq, wW, reduceCtorEq, Nat.reduceEqDiff, h4]
          · simp only [U, tset_eq, wW, reduceCtorEq, Nat.reduceEqDiff, h6]
          · simp only [U, tset_eq, wW, reduceCtorEq, Nat.reduceEqDiff, h9]
          · simp only [U, tset_eq, wW, reduceCtorEq, Nat.reduceEqDiff]; rfl
          · rw [it, dNext, if_neg hneg]
            exact hI
      · obtain rfl : k = 4 := by omega
        simp (maxSteps := 10000000) only [wW, reduceCtorEq, Nat.reduceEqDiff, h12]
        rw [if_neg (by omega)]
        refine hk _ [] _ ?_ ?_ ?_ hI
        · simp only [U, tset_eq, wW, reduceCtorEq, Nat.reduceEqDiff, h1]
        · simp only [U, tset_eq, wW, reduceCtorEq, Nat.reduceEqDiff, h4]
        · simp only [U, tset_eq, wW, reduceCtorEq, Nat.reduceEqDiff, h6]
    · simp only [U, tset_eq, wW, reduceCtorEq, Nat.reduceEqDiff, h1]
    · simp only [U, tset_eq, wW, reduceCtorEq, Nat.reduceEqDiff, h4]
    · simp only [U, tset_eq, wW, reduceCtorEq, Nat.reduceEqDiff, h6]
    · simp only [U, tset_eq, wW, reduceCtorEq, Nat.reduceEqDiff, h9]
  · rw [if_neg h3] at hk ⊢
    refine hk _ _ _ ?_ ?_ ?_ hI
    · simp only [U, tset_eq, wW, reduceCtorEq, Nat.reduceEqDiff, h1]
    · simp only [U, tset_eq, wW, reduceCtorEq, Nat.reduceEqDiff, h4]
    · simp only [U, tset_eq, wW, reduceCtorEq, Nat.reduceEqDiff, h6]
theorem ordArith (hL : Limits g) (hI : OrdI ro g ur s0 G A s D) {i : Nat} (hi : i < g.rows.length) {R : Nat} (hR : s.at R = some (.cells (rowAt g.rows i).cells 43 false)) (hRA : R ≠ A) {m : Int} (hm : 0 ≤ m ∧ m ≤ i)
    {τ : Tau} {ds : List Deferred} {Qe : Ex → XK} (hQ : QOk Qe) (h1 : τ 1 = ptr G) (h4 : τ 4 = slc A g.nv.toNat) (h6 : τ 6 = .int .i64 i) (h7 : τ 7 = ptr R) (h9 : τ 9 = .int .i64 m)
    {b : Bool} (h100 : τ 100 = .bool b) (hb : b = true ↔ (rowAt g.rows i).k = 1 ∧ (rowAt g.rows i).qo ≠ 0 ∧ at0 D (rowAt g.rows i).w2 < 0)
    (hk : ∀ τ' al s', U τ' al 1 = ptr G → U τ' al 4 = slc A g.nv.toNat → U τ' al 6 = .int .i64 i → OrdI ro g ur s0 G A s' (dRow (rowAt g.rows i) (rowAt g.rows (i + 1)) m D) → Qe .normal τ' al ds s') :
    xp (prims P ro) none 153 k27_1110100 c27_1110100100111101 [1, 0, 1, 1, 1, 1, 0, 0, 1] τ [] ds s (sX (prims P ro) none 153 k27_1110100 c27_111010010011111 [1, 1, 1, 1, 1, 0, 0, 1] Qe) := by
  have hnv := hL.nv
  have hrl := hL.2.2.2.2.2.2.2.1
  generalize hX : sX (prims P ro) none 153 k27_1110100 c27_111010010011111 [1, 1, 1, 1, 1, 0, 0, 1] Qe = X
  rw [n27_1110100100111101]
  unfold v27_1110100100111101
  have hRc : acells (s.at R) = some (rowAt g.rows i).cells := acells_some hR
  rw [h100, h4, h7, h9]
  simp (maxSteps := 10000000) only [wW, reduceCtorEq, Nat.reduceEqDiff, wL, Nat.reduceAdd, hRc]
  by_cases hbt : b = true
  · rw [if_pos hbt]
    have hc := hb.1 hbt
    have hw2 := hL.reads hi (rds_2 hc.1 hc.2.1)
    have hw2' : 0 ≤ (rowAt g.rows i).w2 ∧ (rowAt g.rows i).w2 < g.nv := hw2
    have hix := ixc se_49 isz_3 (A := A) (n := g.nv.toNat) (c := g.nv.toNat) (i := (rowAt g.rows i).w2) hw2'.1 (by omega)
    simp (maxSteps := 10000000) only [wW, reduceCtorEq, Nat.reduceEqDiff, wL, Nat.reduceAdd, hix]
    rw [wrap_i64 (n := m + 1) (by omega) (by omega)]
    refine hI.store hw2'.1 hw2'.2 fun s2 hI2 r2 => ?_
    rw [← hX, sX_n hQ]
    have e : dArith (rowAt g.rows i) m D = D.set (rowAt g.rows i).w2.toNat (m + 1) := by unfold dArith; rw [if_pos hc]
    rw [← e] at hI2
    refine ordNext hL hI2 hi ((r2 R hRA).trans hR) hRA hm ?_ ?_ ?_ ?_ ?_ hk
    · simp only [U, tset_eq, wW, reduceCtorEq, Nat.reduceEqDiff, h1]
    · simp only [U, tset_eq, wW, reduceCtorEq, Nat.reduceEqDiff, h4]
    · simp only [U, tset_eq, wW, reduceCtorEq, Nat.reduceEqDiff, h6]
    · simp only [U, tset_eq, wW, reduceCtorEq, Nat.reduceEqDiff, h7]
    · simp only [U, tset_eq, wW, reduceCtorEq, Nat.reduceEqDiff, h9]
  · rw [if_neg hbt]
    have hc := fun h => hbt (hb.2 h)
    rw [← hX, sX_n hQ]
    have e : dArith (rowAt g.rows i) m D = D := by unfold dArith; rw [if_neg hc]
    have hI' := hI
    rw [← e] at hI'
    refine ordNext hL hI' hi hR hRA hm ?_ ?_ ?_ ?_ ?_ hk
    · simp only [U, tset_eq, wW, reduceCtorEq, Nat.reduceEqDiff, h1]
    · simp only [U, tset_eq, wW, reduceCtorEq, Nat.reduceEqDiff, h4]
    · simp only [U, tset_eq, wW, reduceCtorEq, Nat.reduceEqDiff, h6]
    · simp only [U, tset_eq, wW, reduceCtorEq, Nat.reduceEqDiff, h7]
    · simp only [U, tset_eq, wW, reduceCtorEq, Nat.reduceEqDiff, h9]
end
end Go.VE
/- The reference of the gates: order, Valid. -/
namespace Go.VE
open Go Go.Proofs
set_option maxRecDepth 20000
section
variable {ro : Nat} {K : Value → St → Prop} {g : Gp} {ur : Value} {s0 : St} {G A : Nat} {s : St} {D : List Int}
theorem ordEnd {τ : Tau} {al : AL} {ds : List Deferred} {Q : Ex → WK} {i : Nat} (hi : i ≤ 8000) (h6 : U τ al 6 = .int .i64 i)
    (hk : ∀ τ', τ' 1 = U τ al 1 → τ' 4 = U τ al 4 → τ' 6 = .int .i64 ((i + 1 : Nat) : Int) → Q .normal τ' ds s) :
    blkX 3 (sX (prims P ro) none 153 k27_1110100 c27_111010011 [1, 1] (lift Q)) .normal τ al ds s := by
  rw [blkX_n, sX_n (.lift _), n27_111010011]
  unfold v27_111010011
  rw [h6]
  simp (maxSteps := 10000000) only [wW, reduceCtorEq, Nat.reduceEqDiff]
  rw [wrap_i64 (by omega) (by omega)]
  unfold lift
  refine hk _ ?_ ?_ ?_
  · simp only [U, tset_eq, wW, reduceCtorEq, Nat.reduceEqDiff]
  · simp only [U, tset_eq, wW, reduceCtorEq, Nat.reduceEqDiff]
  · simp only [U, tset_eq, wW, reduceCtorEq, Nat.reduceEqDiff]; rfl
theorem wOrder (g : Gp) (hL : Limits g) {s : St} {ur : Value} (hw : Wf s) (hro : ro ≤ s.n) (hr : RowsS s ur g.rows)
    (h0 : orderM g = none → K (.tuple (.mk [.slice none 0 0, .bool false])) s) (h1 : ∀ D v s', orderM g = some D → Grew s s' → Ints s' v D → K (.tuple (.mk [v, .bool true])) s') :
    CallWP P ro 27 [.agg (.mk (g.cells ur))] s K := by
  refine call_wp b27 rfl ?_
  rw [n27]
  unfold v27
  simp (maxSteps := 10000000) only [wW, reduceCtorEq, Nat.reduceEqDiff]
  refine box_rule hw.ent fun G s1 m1 => ?_
  have e1 := m1.eq
  have n1 := m1.n
  have hn0 : (ent s).n = s.n := rfl
  have hnv := hL.nv
  have hrl := hL.2.2.2.2.2.2.2.1
  have hps := hL.2.1
  have hps2 := hL.2.2.1
  have hps3 := hL.2.2.2.1
  have hps4 := hL.2.2.2.2.1
  have hG1 : s1.at G = some (.cells (g.cells ur) 24 false) := m1.here
  simp (maxSteps := 10000000) only [wW, reduceCtorEq, Nat.reduceEqDiff, wL, Nat.reduceAdd, acells_some hG1]
  refine make_rule (mk := Value.int .i64) (x := 0) se_49 ty_3 rfl m1.wf hnv.1 (by omega) (by decide) fun A s2 m2 => ?_
  have e2 := m2.eq
  have n2 := m2.n
  have hlen0 : (List.replicate g.nv.toNat (0 : Int)).length = g.nv.toNat := by simp
  have hI0 : OrdI ro g ur (ent s) G A s2 (List.replicate g.nv.toNat 0) := ⟨⟨m2.here, by omega, m2.wf, m1.grew.trans m2.grew⟩, (m2.grew.same G (by omega)).trans hG1, hlen0, hw.ent, hro, Sl.ent hr, by omega⟩
  have no : ∀ {s' : St}, Grew (ent s) s' → orderM g = none → wfin s K (.tuple (.mk [.slice none 0 0, .bool false])) s' := fun hg hf => fin_flat rfl hg (h0 hf)
  have noR : ∀ {τ : Tau} {al : AL} {s' : St}, Grew (ent s) s' → orderM g = none → U τ al 2 = .slice none 0 0 → U τ al 3 = .bool false → xleave (prims P ro) s Tryd.f27.results.toList K .ret (U τ al) [] [] s' := fun {τ al s'} hg hf h2 h3 => by
    rw [r27]
    simp (maxSteps := 10000000) only [wW, reduceCtorEq, Nat.reduceEqDiff]
    rw [h2, h3]
    exact no hg hf
  have hlI : ∀ {s : St} {K : Value → St → Prop}, wop P ro (.call ⟨.builtin .len, ⟨[.const (slc A g.nv.toNat)]⟩, #[49]⟩) 3 s K = K (.int .i64 (g.nv.toNat : Nat)) s := fun {s K} => wop_len se_49 _ _ _ _ _ _
  refine wloop l27_110100 m27_110100 (fun (i : Nat) τ ds s' => i ≤ g.nv.toNat ∧ τ 1 = ptr G ∧ τ 4 = slc A g.nv.toNat ∧ τ 5 = .int .i64 i ∧ ds = [] ∧ OrdI ro g ur (ent s) G A s' (it (dInit (g.pub + g.sec)) i (List.replicate g.nv.toNat 0))) (fun i => g.nv.toNat - i) ?_ 0 ⟨by omega, ?_, ?_, ?_, rfl, hI0⟩
  · clear hI0
    rintro i τ ds s' ⟨hi, t1, t4, t5, rfl, hI⟩
    rw [n27_110100]
    unfold v27_110100
    simp (maxSteps := 10000000) only [wW, reduceCtorEq, Nat.reduceEqDiff, t4, t5, hlI]
    by_cases hlt : i < g.nv.toNat
    · rw [if_pos (by omega)]
      have hx0 : (0 : Int) ≤ (i : Int) := by omega
      have hx1 : (i : Int) < g.nv := by omega
      have hix := ixc se_49 isz_3 (A := A) (n := g.nv.toNat) (c := g.nv.toNat) (i := (i : Int)) hx0 (by omega)
      simp (maxSteps := 10000000) only [wW, reduceCtorEq, Nat.reduceEqDiff, wL, Nat.reduceAdd, hix]
      refine hI.store hx0 hx1 fun s3 hI3 _ => ?_
      simp (maxSteps := 10000000) only [wW, reduceCtorEq, Nat.reduceEqDiff, wL, Nat.reduceAdd, t1, t4, t5, hI3.gc, hix]
      rw [wrap_i64 (n := g.pub + g.sec) (by omega) (by omega)]
      by_cases hp : (i : Int) < g.pub + g.sec
      · rw [if_pos hp]
        refine hI3.store hx0 hx1 fun s4 hI4 _ => ?_
        rw [wrap_i64 (by omega) (by omega)]
        refine ⟨i + 1, by omega, by omega, ?_, ?_, ?_, trivial, ?_⟩
        · simp only [U, tset_eq, wW, reduceCtorEq, Nat.reduceEqDiff, t1]
        · simp only [U, tset_eq, wW, reduceCtorEq, Nat.reduceEqDiff, t4]
        · simp only [U, tset_eq, wW, reduceCtorEq, Nat.reduceEqDiff]; rfl
        · rw [it, dInit, if_pos hp]
          exact hI4
      · rw [if_neg hp]
        rw [wrap_i64 (by omega) (by omega)]
        refine ⟨i + 1, by omega, by omega, ?_, ?_, ?_, trivial, ?_⟩
        · simp only [U, tset_eq, wW, reduceCtorEq, Nat.reduceEqDiff, t1]
        · simp only [U, tset_eq, wW, reduceCtorEq, Nat.reduceEqDiff, t4]
        · simp only [U, tset_eq, wW, reduceCtorEq, Nat.reduceEqDiff]; rfl
        · rw [it, dInit, if_neg hp]
          exact hI3
    · obtain rfl : i = g.nv.toNat := by omega
      rw [if_neg (by omega)]
      have hd0 : Dep g.nv.toNat 0 (it (dInit (g.pub + g.sec)) g.nv.toNat (List.replicate g.nv.toNat 0)) := Dep.inits ⟨hlen0, fun x hx => by rw [List.eq_of_mem_replicate hx]; decide⟩ _
      refine wloop l27_1110100 m27_1110100 (fun (i : Nat) τ ds s' => i ≤ g.rows.length ∧ τ 1 = ptr G ∧ τ 4 = slc A g.nv.toNat ∧ τ 6 = .int .i64 i ∧ ds = [] ∧ ∃ D, orderD g i = some D ∧ Dep g.nv.toNat i D ∧ OrdI ro g ur (ent s) G A s' D) (fun i => g.rows.length - i) ?_ 0 ⟨by omega, ?_, ?_, ?_, rfl, _, rfl, hd0, hI⟩
      · clear hI t1 t4 t5 hd0 hlt hi
        rintro i τ ds s' ⟨hi, t1, t4, t6, rfl, D, hD, hdep, hI⟩
        rw [n27_1110100]
        unfold v27_1110100
        have hgl : ∀ s' K, wop P ro (.call ⟨.builtin .len, ⟨[.const ur]⟩, #[22]⟩) 3 s' K = K (.int .i64 (g.rows.length : Nat)) s' := fun s' K => Sl.wlen hr se_22 _ K
        by_cases hlt : i < g.rows.length
        · obtain ⟨A5, o5, c5, q1, q2⟩ := hI.rs.ix (rowAt_get hlt)
          simp (maxSteps := 10000000) only [wW, reduceCtorEq, Nat.reduceEqDiff, wL, Nat.reduceAdd, t1, t4, t6, hI.gc, hgl, q1, q2.blk, q2.all]
          rw [if_pos (by omega)]
          refine alloc_rule ty_43 hI.vc.wf fun R s3 m3 => ?_
          have e3 := m3.eq
          have n3 := m3.n
          have gn := hI.vc.grew.n
          have hAlt := St.at_lt hI.vc.here
          have hGlt := St.at_lt hI.gat
          refine storeAll_rule isz_43 m3.here (l := (rowAt g.rows i).cells) rfl (by decide) m3.wf (by omega) rfl rfl fun s4 p4 => ?_
          have hI4 : OrdI ro g ur (ent s) G A s4 D := ⟨⟨(p4.rest A (by omega)).trans ((m3.grew.same A hAlt).trans hI.vc.here), hI.vc.new, p4.wf, p4.grew _ hw.ent (hI.vc.grew.trans m3.grew) (by omega)⟩, (p4.rest G (by omega)).trans ((m3.grew.same G hGlt).trans hI.gat), hI.len, hI.w0, hI.ro, hI.rows, hI.ne⟩
          have hR4 : s4.at R = some (.cells (rowAt g.rows i).cells 43 false) := p4.here
          simp (maxSteps := 10000000) only [wW, reduceCtorEq, Nat.reduceEqDiff, wL, Nat.reduceAdd, acells_some hR4]
          refine wReads (rowAt g.rows i) p4.wf (by have := hI4.vc.grew.n; omega) fun v s5 g5 hV => ?_
          have hI5 := hI4.grew g5
          have hR5 : s5.at R = some (.cells (rowAt g.rows i).cells 43 false) := (g5.same R (St.at_lt hR4)).trans hR4
          have hRc := acells_some hR5
          have hRA : R ≠ A := by omega
          have hrdl := rds_len (rowAt g.rows i)
          generalize hrr : rowAt g.rows i = r at *
          refine wloop l27_11101001001110100 m27_11101001001110100 (fun (k : Nat) τ ds s' => k ≤ (rds r).length ∧ τ 1 = ptr G ∧ τ 4 = slc A g.nv.toNat ∧ τ 6 = .int .i64 i ∧ τ 7 = ptr R ∧ τ 8 = v ∧ τ 10 = .int .i64 k ∧ ds = [] ∧ s5 = s' ∧ ∃ m, τ 9 = .int .i64 m ∧ 0 ≤ m ∧ m ≤ i ∧ mostM r D ((rds r).drop k) m = mostM r D (rds r) 0) (fun k => (rds r).length - k) ?_ 0 ⟨by omega, ?_, ?_, ?_, ?_, ?_, ?_, rfl, rfl, 0, ?_, by omega, by omega, rfl⟩
          · clear t1 t4 t6 hI hI4
            rintro k τ ds s' ⟨hk, t1, t4, t6, t7, t8, t10, rfl, rfl, m, t9, hm0, hm1, hmost⟩
            have hstep : stepD g i D = (mostM r D (rds r) 0).map fun m => dRow r (rowAt g.rows (i + 1)) m D := by unfold stepD; rw [hrr]
            have hon : orderD g (i + 1) = stepD g i D := by rw [orderD, hD]; rfl
            rw [n27_11101001001110100]
            unfold v27_11101001001110100
            by_cases hlk : k < (rds r).length
            · obtain ⟨A6, o6, c6, z1, z2, z3⟩ := hV.at1 (i := (k : Int)) (x := (rds r)[k]) (by omega) (by rw [Int.toNat_natCast]; exact List.getElem?_eq_getElem hlk)
              have hmem : (rds r)[k] ∈ rds r := List.getElem_mem _
              have hj := rds_lt r _ hmem
              have hjc : (((rds r)[k]).toNat : Int) = (rds r)[k] := by omega
              have hwx := wix R 1 (k := ((rds r)[k]).toNat) (by omega)
              rw [hjc] at hwx
              have hrw := hL.reads hlt (j := (rds r)[k]) (by rw [hrr]; exact hmem)
              rw [hrr] at hrw
              have hix := ixc se_49 isz_3 (A := A) (n := g.nv.toNat) (c := g.nv.toNat) (i := r.w ((rds r)[k]).toNat) hrw.1 (by omega)
              have hgt := hI5.get hrw.1 hrw.2
              simp (maxSteps := 10000000) only [wW, reduceCtorEq, Nat.reduceEqDiff, wL, Nat.reduceAdd, t4, t7, t8, t9, t10, hV.wlen se_49, z1, z2, z3, hRc, hwx, rcw r (show ((rds r)[k]).toNat < 4 by omega), hix, hI5.dc, hgt]
              rw [if_pos (by omega)]
              rw [drop_cons hlk, mostM] at hmost
              have hdb := hdep.at0 (by omega) (r.w ((rds r)[k]).toNat)
              have next : ¬ (at0 D (r.w ((rds r)[k]).toNat) < 0 ∧ ¬ (r.k = 1 ∧ (rds r)[k] = 2)) → ∀ (al : AL), U τ al 1 = ptr G → U τ al 4 = slc A g.nv.toNat → U τ al 6 = .int .i64 i → U τ al 7 = ptr R → U τ al 8 = v → U τ al 9 = .int .i64 (if m < at0 D (r.w ((rds r)[k]).toNat) then at0 D (r.w ((rds r)[k]).toNat) else m) → U τ al 10 = .int .i64 ((k + 1 : Nat) : Int) →
                  ∃ y, (rds r).length - y < (rds r).length - k ∧ y ≤ (rds r).length ∧ U τ al 1 = ptr G ∧ U τ al 4 = slc A g.nv.toNat ∧ U τ al 6 = .int .i64 i ∧ U τ al 7 = ptr R ∧ U τ al 8 = v ∧ U τ al 10 = .int .i64 (y : Nat) ∧ True ∧ True ∧ ∃ m, U τ al 9 = .int .i64 m ∧ 0 ≤ m ∧ m ≤ i ∧ mostM r D ((rds r).drop y) m = mostM r D (rds r) 0 := fun hc al a1 a4 a6 a7 a8 a9 a10 => by
                rw [if_neg hc] at hmost
                refine ⟨k + 1, by omega, by omega, a1, a4, a6, a7, a8, a10, trivial, trivial, _, a9, ?_, ?_, hmost⟩
                · split <;> omega
                · split <;> omega
              have bad : (at0 D (r.w ((rds r)[k]).toNat) < 0 ∧ ¬ (r.k = 1 ∧ (rds r)[k] = 2)) → orderM g = none := fun hc => by
                rw [if_pos hc] at hmost
                have : orderD g (i + 1) = none := by rw [hon, hstep, ← hmost]; rfl
                unfold orderM
                rw [orderD_none this (by omega)]; rfl
              have hkw : IntKind.i64.wrap ((k : Int) + 1) = ((k + 1 : Nat) : Int) := by rw [wrap_i64 (by omega) (by omega)]; rfl
              have fin : ∀ {A B C : Prop}, (at0 D (r.w ((rds r)[k]).toNat) < 0 → A) → (¬ at0 D (r.w ((rds r)[k]).toNat) < 0 → B) → (if at0 D (r.w ((rds r)[k]).toNat) < 0 then A else B) := fun {A B C} h1 h2 => by
                split
                · exact h1 (by assumption)
                · exact h2 (by assumption)
              refine fin (C := True) (fun hneg => ?_) (fun hneg => ?_)
              · by_cases k1 : r.k = 1
                · rw [if_pos k1]
                  by_cases j2 : (rds r)[k] = 2
                  · rw [if_neg (by simpa using j2)]
                    simp (maxSteps := 10000000) only [max_i64, hkw, wW, reduceCtorEq, Nat.reduceEqDiff]
                    refine next (fun h => h.2 ⟨k1, j2⟩) _ ?_ ?_ ?_ ?_ ?_ ?_ ?_ <;> simp only [U, tset_eq, wW, reduceCtorEq, Nat.reduceEqDiff, t1, t4, t6, t7, t8]
                  · rw [if_pos (by simpa using j2)]
                    exact noR hI5.vc.grew (bad ⟨hneg, fun h => j2 h.2⟩) (by simp only [U, tset_eq, wW, reduceCtorEq, Nat.reduceEqDiff]) (by simp only [U, tset_eq, wW, reduceCtorEq, Nat.reduceEqDiff])
                · rw [if_neg k1]
                  exact noR hI5.vc.grew (bad ⟨hneg, fun h => k1 h.1⟩) (by simp only [U, tset_eq, wW, reduceCtorEq, Nat.reduceEqDiff]) (by simp only [U, tset_eq, wW, reduceCtorEq, Nat.reduceEqDiff])
              · simp (maxSteps := 10000000) only [max_i64, hkw, wW, reduceCtorEq, Nat.reduceEqDiff]
                refine next (fun h => hneg h.1) _ ?_ ?_ ?_ ?_ ?_ ?_ ?_ <;> simp only [U, tset_eq, wW, reduceCtorEq, Nat.reduceEqDiff, t1, t4, t6, t7, t8]
            · obtain rfl : k = (rds r).length := by omega
              simp (maxSteps := 10000000) only [wW, reduceCtorEq, Nat.reduceEqDiff, t8, t10, hV.wlen se_49]
              rw [if_neg (by omega)]
              rw [List.drop_of_length_le (Nat.le_refl _), mostM] at hmost
              have hD1 : orderD g (i + 1) = some (dRow r (rowAt g.rows (i + 1)) m D) := by rw [hon, hstep, ← hmost]; rfl
              have hdep1 : Dep g.nv.toNat ((i + 1 : Nat) : Int) (dRow r (rowAt g.rows (i + 1)) m D) := by
                have := hdep.arith (r := r) (m := m) ⟨by omega, hm1⟩
                unfold dRow
                split
                · exact Dep.nexts this ⟨by omega, hm1⟩ 4
                · exact this
              have last : ∀ (τ' : Tau) (al : AL) (s' : St), U τ' al 1 = ptr G → U τ' al 4 = slc A g.nv.toNat → U τ' al 6 = .int .i64 i → OrdI ro g ur (ent s) G A s' (dRow (rowAt g.rows i) (rowAt g.rows (i + 1)) m D) → ∀ {Q : Ex → WK}, (∀ τ' s', (∃ y, g.rows.length - y < g.rows.length - i ∧ y ≤ g.rows.length ∧ τ' 1 = ptr G ∧ τ' 4 = slc A g.nv.toNat ∧ τ' 6 = .int .i64 (y : Nat) ∧ ([] : List Deferred) = [] ∧ ∃ D, orderD g y = some D ∧ Dep g.nv.toNat y D ∧ OrdI ro g ur (ent s) G A s' D) → Q .normal τ' [] s') →
                  blkX 3 (sX (prims P ro) none 153 k27_1110100 c27_111010011 [1, 1] (lift Q)) .normal τ' al [] s' := fun τ' al s' a1 a4 a6 hI' {Q} hQ => by
                refine ordEnd (by omega) a6 fun τ2 b1 b4 b6 => hQ τ2 s' ⟨i + 1, by omega, by omega, b1.trans a1, b4.trans a4, b6, rfl, _, hD1, hdep1, ?_⟩
                rw [hrr] at hI'
                exact hI'
              have row : ∀ {b : Bool} {τ' : Tau} {Q : Ex → WK}, τ' 100 = .bool b → (b = true ↔ r.k = 1 ∧ r.qo ≠ 0 ∧ at0 D r.w2 < 0) → τ' 1 = ptr G → τ' 4 = slc A g.nv.toNat → τ' 6 = .int .i64 i → τ' 7 = ptr R → τ' 9 = .int .i64 m →
                  (∀ τ' s', (∃ y, g.rows.length - y < g.rows.length - i ∧ y ≤ g.rows.length ∧ τ' 1 = ptr G ∧ τ' 4 = slc A g.nv.toNat ∧ τ' 6 = .int .i64 (y : Nat) ∧ ([] : List Deferred) = [] ∧ ∃ D, orderD g y = some D ∧ Dep g.nv.toNat y D ∧ OrdI ro g ur (ent s) G A s' D) → Q .normal τ' [] s') →
                  xp (prims P ro) none 153 k27_1110100 c27_1110100100111101 [1, 0, 1, 1, 1, 1, 0, 0, 1] τ' [] [] s5 (sX (prims P ro) none 153 k27_1110100 c27_111010010011111 [1, 1, 1, 1, 1, 0, 0, 1] (blkX 3 (sX (prims P ro) none 153 k27_1110100 c27_111010011 [1, 1] (lift Q)))) := fun {b τ' Q} h100 hb a1 a4 a6 a7 a9 hQ => by
                refine ordArith hL hI5 hlt (by rw [hrr]; exact hR5) hRA ⟨hm0, hm1⟩ ((QOk.lift Q).sX.blk 3) a1 a4 a6 a7 a9 h100 (by rw [hrr]; exact hb) fun τ2 al s2 b1 b4 b6 hI2 => last τ2 al s2 b1 b4 b6 hI2 hQ
              simp (maxSteps := 10000000) only [U, tset_eq, wW, reduceCtorEq, Nat.reduceEqDiff, wL, Nat.reduceAdd, t4, t7, hRc]
              by_cases k1 : r.k = 1
              · rw [if_pos k1]
                by_cases kq : r.qo = 0
                · rw [if_neg (by simpa using kq)]
                  refine row (b := false) ?_ ⟨fun h => (by cases h), fun h => absurd kq h.2.1⟩ ?_ ?_ ?_ ?_ ?_ (fun _ _ h => h) <;> simp only [tset_eq, wW, reduceCtorEq, Nat.reduceEqDiff, t1, t4, t6, t7, t9]
                · rw [if_pos kq]
                  have hw2 : 0 ≤ r.w2 ∧ r.w2 < g.nv := by
                    have := hL.reads hlt (j := 2) (by rw [hrr]; exact rds_2 k1 kq)
                    rw [hrr] at this
                    exact this
                  have hix := ixc se_49 isz_3 (A := A) (n := g.nv.toNat) (c := g.nv.toNat) (i := r.w2) hw2.1 (by omega)
                  have hgt := hI5.get hw2.1 hw2.2
                  rw [hix, wopt_some, load1 ap_3, hI5.dc, Option.bind_some, hgt, wopt_some, wop_int, int_lss keq_i64, wopt_some]
                  refine row (b := decide (at0 D r.w2 < 0)) ?_ ⟨fun h => ⟨k1, kq, by simpa using h⟩, fun h => by simpa using h.2.2⟩ ?_ ?_ ?_ ?_ ?_ (fun _ _ h => h) <;> simp only [tset_eq, wW, reduceCtorEq, Nat.reduceEqDiff, t1, t4, t6, t7, t9]
              · rw [if_neg k1]
                refine row (b := false) ?_ ⟨fun h => (by cases h), fun h => absurd h.1 k1⟩ ?_ ?_ ?_ ?_ ?_ (fun _ _ h => h) <;> simp only [tset_eq, wW, reduceCtorEq, Nat.reduceEqDiff, t1, t4, t6, t7, t9]
          · simp only [U, tset_eq, wW, reduceCtorEq, Nat.reduceEqDiff, t1]
          · simp only [U, tset_eq, wW, reduceCtorEq, Nat.reduceEqDiff, t4]
          · simp only [U, tset_eq, wW, reduceCtorEq, Nat.reduceEqDiff, t6]
          · simp only [U, tset_eq, wW, reduceCtorEq, Nat.reduceEqDiff]
          · simp only [U, tset_eq, wW, reduceCtorEq, Nat.reduceEqDiff]
          · simp only [U, tset_eq, wW, reduceCtorEq, Nat.reduceEqDiff]; rfl
          · simp only [U, tset_eq, wW, reduceCtorEq, Nat.reduceEqDiff]
        · simp (maxSteps := 10000000) only [wW, reduceCtorEq, Nat.reduceEqDiff, wL, Nat.reduceAdd, t1, t4, t6, hI.gc, hgl]
          rw [if_neg (by omega)]
          obtain rfl : i = g.rows.length := by omega
          have hgn := hI.vc.grew
          have oM : orderM g = if D.all (fun x => decide (0 ≤ x)) then some D else none := by unfold orderM; rw [hD]; rfl
          have hDl := hI.len
          refine wloop l27_11110100 m27_11110100 (fun (i : Nat) τ ds s2' => i ≤ g.nv.toNat ∧ τ 4 = slc A g.nv.toNat ∧ τ 13 = .int .i64 i ∧ ds = [] ∧ s' = s2' ∧ (D.take i).all (fun x => decide (0 ≤ x)) = true) (fun i => g.nv.toNat - i) ?_ 0 ⟨by omega, ?_, ?_, rfl, rfl, rfl⟩
          · clear t1 t4 t6
            rintro i τ ds s2' ⟨hi, t4, t13, rfl, rfl, hall⟩
            rw [n27_11110100]
            unfold v27_11110100
            simp (maxSteps := 10000000) only [wW, reduceCtorEq, Nat.reduceEqDiff, t4, t13, hlI]
            by_cases hlt : i < g.nv.toNat
            · rw [if_pos (by omega)]
              have hx0 : (0 : Int) ≤ (i : Int) := by omega
              have hx1 : (i : Int) < g.nv := by omega
              have hix := ixc se_49 isz_3 (A := A) (n := g.nv.toNat) (c := g.nv.toNat) (i := (i : Int)) hx0 (by omega)
              have hg := hI.get hx0 hx1
              simp (maxSteps := 10000000) only [wW, reduceCtorEq, Nat.reduceEqDiff, wL, Nat.reduceAdd, hix, hI.dc, hg]
              have hgi : D[i]? = some (at0 D (i : Int)) := by
                have := at0_get (l := D) hx0 (by omega)
                rwa [Int.toNat_natCast] at this
              by_cases hneg : at0 D (i : Int) < 0
              · rw [if_pos hneg]
                refine noR hgn ?_ (by simp only [U, tset_eq, wW, reduceCtorEq, Nat.reduceEqDiff]) (by simp only [U, tset_eq, wW, reduceCtorEq, Nat.reduceEqDiff])
                rw [oM, if_neg]
                rw [List.all_eq_true]
                intro h
                have := h _ (List.mem_of_getElem? hgi)
                simp only [decide_eq_true_eq] at this
                omega
              · rw [if_neg hneg, wrap_i64 (by omega) (by omega)]
                refine ⟨i + 1, by omega, by omega, ?_, ?_, trivial, trivial, ?_⟩
                · simp only [U, tset_eq, wW, reduceCtorEq, Nat.reduceEqDiff, t4]
                · simp only [U, tset_eq, wW, reduceCtorEq, Nat.reduceEqDiff]; rfl
                · rw [take_succ_eq hgi, List.all_append, hall]
                  simp
                  omega
            · obtain rfl : i = g.nv.toNat := by omega
              rw [if_neg (by omega)]
              rw [List.take_of_length_le (by omega)] at hall
              simp (maxSteps := 10000000) only [U, tset_eq, wW, reduceCtorEq, Nat.reduceEqDiff, t4]
              refine wfin_new hw hgn rfl fun s9 hg9 _ hat => h1 D _ s9 ?_ hg9 ?_
              · rw [oM, if_pos hall]
              · refine ⟨some ⟨A, 0, none⟩, g.nv.toNat, by rw [hDl], by simp, ⟨by omega, fun h => (by cases h), fun x hx => (by cases hx; exact .inl rfl)⟩, fun _ => ⟨A, 0, none, _, _, _, rfl, rfl, (hat A).trans hI.vc.here, ?_⟩⟩
                rw [List.drop_zero, List.take_of_length_le (by simp)]
          · simp only [U, tset_eq, wW, reduceCtorEq, Nat.reduceEqDiff, t4]
          · simp only [U, tset_eq, wW, reduceCtorEq, Nat.reduceEqDiff]; rfl
      · simp only [U, tset_eq, wW, reduceCtorEq, Nat.reduceEqDiff, t1]
      · simp only [U, tset_eq, wW, reduceCtorEq, Nat.reduceEqDiff, t4]
      · simp only [U, tset_eq, wW, reduceCtorEq, Nat.reduceEqDiff]; rfl
  · simp only [U, tset_eq, wW, reduceCtorEq, Nat.reduceEqDiff]
  · simp only [U, tset_eq, wW, reduceCtorEq, Nat.reduceEqDiff]
  · simp only [U, tset_eq, wW, reduceCtorEq, Nat.reduceEqDiff]; rfl
end
end Go.VE
/- The reference of the gates: Valid; a run, its rows. -/
namespace Go.VE
open Go Go.Proofs
set_option maxRecDepth 20000
def validM (g : Gp) : Bool := decide (Limits g) && (orderM g).isSome
section
variable {ro : Nat} {K : Value → St → Prop}
theorem wValid (g : Gp) {s : St} {ur : Value} (hw : Wf s) (hro : ro ≤ s.n) (hr : RowsS s ur g.rows) (hlen : g.rows.length < 2 ^ 60) : CallWP P ro 12 [.agg (.mk (g.cells ur))] s K = K (.bool (validM g)) s := by
  refine callEq (call_wp b12 rfl ?_) K
  rw [n12]
  unfold v12
  simp (maxSteps := 10000000) only [wW, reduceCtorEq, Nat.reduceEqDiff]
  refine box_rule hw.ent fun G s1 m1 => ?_
  have e1 := m1.eq
  have n1 := m1.n
  have hn0 : (ent s).n = s.n := rfl
  have hG1 : s1.at G = some (.cells (g.cells ur) 24 false) := m1.here
  have hr1 : RowsS s1 ur g.rows := (Sl.ent hr).grew m1.grew.same
  simp (maxSteps := 10000000) only [wW, reduceCtorEq, Nat.reduceEqDiff, wL, Nat.reduceAdd, acells_some hG1]
  rw [wLimits g m1.wf (by omega) hr1 hlen]
  unfold validM
  by_cases hL : Limits g
  · rw [decide_eq_true hL]
    simp (maxSteps := 10000000) only [wW, reduceCtorEq, Nat.reduceEqDiff, wL, Nat.reduceAdd, acells_some hG1, Bool.true_and]
    refine wOrder g hL m1.wf (by omega) hr1 (fun h => ?_) (fun D v s' h hg _ => ?_)
    · rw [h]
      simp (maxSteps := 10000000) only [wW, reduceCtorEq, Nat.reduceEqDiff, List.getElem?_cons_zero, List.getElem?_cons_succ]
      exact fin_flat rfl m1.grew ⟨rfl, rfl⟩
    · rw [h]
      simp (maxSteps := 10000000) only [wW, reduceCtorEq, Nat.reduceEqDiff, List.getElem?_cons_zero, List.getElem?_cons_succ]
      exact fin_flat rfl (m1.grew.trans hg) ⟨rfl, rfl⟩
  · rw [decide_eq_false hL]
    simp (maxSteps := 10000000) only [wW, reduceCtorEq, Nat.reduceEqDiff]
    exact fin_flat rfl m1.grew ⟨rfl, rfl⟩
end
def atB (l : List Bool) (i : Int) : Bool := (l[i.toNat]?).getD false
def setV (w x : Int) (c : List Int × List Bool) : List Int × List Bool := (c.1.set w.toNat x, c.2.set w.toNat true)
def runA (f : Int) (r : Row) (c : List Int × List Bool) : List Int × List Bool :=
  if r.k = 1 ∧ r.qo ≠ 0 ∧ atB c.2 r.w2 = false then setV r.w2 (fNeg f (fDiv f (sumM f r c.1) r.qo)) c else c
def runN (l : List Int) (nx : Row) (k : Nat) (c : List Int × List Bool) : List Int × List Bool :=
  if atB c.2 (nx.w k) = false then setV (nx.w k) (at0 l k) c else c
def runB (f : Int) (r nx : Row) (c : List Int × List Bool) : List Int × List Bool :=
  if r.k = 3 then it (runN (roundM f r.rd (wv c.1 r)) nx) 4 c else c
def runR (g : Gp) (i : Nat) (c : List Int × List Bool) : List Int × List Bool := runB g.f (rowAt g.rows i) (rowAt g.rows (i + 1)) (runA g.f (rowAt g.rows i) c)
def inp (pub sec : List Int) (i : Nat) : Int := if i < pub.length then at0 pub i else at0 sec ((i : Int) - pub.length)
def runI (pub sec : List Int) (i : Nat) (c : List Int × List Bool) : List Int × List Bool := setV i (inp pub sec i) c
def run0 (g : Gp) : List Int × List Bool := (List.replicate g.nv.toNat 0, List.replicate g.nv.toNat false)
def runV (g : Gp) (pub sec : List Int) : List Int × List Bool := it (runR g) g.rows.length (it (runI pub sec) (g.pub + g.sec).toNat (run0 g))
noncomputable def okM (g : Gp) (vals : List Int) : Nat → Bool
  | 0 => true
  | i + 1 => okM g vals i && holdsR g.f (rowAt g.rows i) (rowAt g.rows (i + 1)) vals
def runOk (g : Gp) (pub sec : List Int) : Prop := validM g = true ∧ (pub.length : Int) = g.pub ∧ (sec.length : Int) = g.sec ∧ below g.f pub = true ∧ below g.f sec = true
structure RunI (ro : Nat) (g : Gp) (ur : Value) (s0 : St) (G A B : Nat) (s : St) (c : List Int × List Bool) : Prop where
  vv : Vc 38 (.int .u64) s0 s A c.1
  vb : Vc 4 .bool s0 s B c.2
  gat : s.at G = some (.cells (g.cells ur) 24 false)
  l1 : c.1.length = g.nv.toNat
  l2 : c.2.length = g.nv.toNat
  w0 : Wf s0
  ro : ro ≤ s0.n
  rows : RowsS s0 ur g.rows
  ga : G ≠ A
  gb : G ≠ B
  ab : A ≠ B
  nn : ∀ x ∈ c.1, 0 ≤ x
section
variable {ro : Nat} {K : Value → St → Prop} {g : Gp} {ur : Value} {s0 : St} {G A B : Nat} {s : St} {c : List Int × List Bool}
theorem RunI.rs (h : RunI ro g ur s0 G A B s c) : RowsS s ur g.rows := Sl.grew h.rows h.vv.grew.same
theorem RunI.gc (h : RunI ro g ur s0 G A B s c) : acells (s.at G) = some (g.cells ur) := acells_some h.gat
theorem RunI.vc (h : RunI ro g ur s0 G A B s c) : acells (s.at A) = some (c.1.map (.int .u64)) := acells_some h.vv.here
theorem RunI.bc (h : RunI ro g ur s0 G A B s c) : acells (s.at B) = some (c.2.map .bool) := acells_some h.vb.here
theorem RunI.getB (h : RunI ro g ur s0 G A B s c) {i : Int} (h0 : 0 ≤ i) (hi : i < g.nv) : (c.2.map Value.bool)[i.toNat]? = some (.bool (atB c.2 i)) := by
  have := h.l2
  unfold atB
  rw [List.getElem?_map, List.getElem?_eq_getElem (by omega)]; rfl
theorem RunI.grew (h : RunI ro g ur s0 G A B s c) {s' : St} (hg : Grew s s') : RunI ro g ur s0 G A B s' c :=
  ⟨⟨(hg.same A (St.at_lt h.vv.here)).trans h.vv.here, h.vv.new, h.vv.wf.grew hg, h.vv.grew.trans hg⟩, ⟨(hg.same B (St.at_lt h.vb.here)).trans h.vb.here, h.vb.new, h.vv.wf.grew hg, h.vv.grew.trans hg⟩, (hg.same G (St.at_lt h.gat)).trans h.gat, h.l1, h.l2, h.w0, h.ro, h.rows, h.ga, h.gb, h.ab, h.nn⟩
theorem RunI.sl (h : RunI ro g ur s0 G A B s c) : U64s s (slc A g.nv.toNat) c.1 :=
  ⟨some ⟨A, 0, none⟩, g.nv.toNat, by rw [h.l1], by simp, ⟨by rw [h.l1]; omega, fun h => (by cases h), fun x hx => (by cases hx; exact .inl rfl)⟩, fun _ => ⟨A, 0, none, _, _, _, rfl, rfl, h.vv.here, by rw [List.drop_zero, List.take_of_length_le (by simp)]⟩⟩
theorem RunI.storeB (h : RunI ro g ur s0 G A B s c) {i : Int} (h0 : 0 ≤ i) (hi : i < g.nv) {ty : TypeId} {K : Value → St → Prop} (hk : ∀ s', RunI ro g ur s0 G A B s' (c.1, c.2.set i.toNat true) → (∀ C, C ≠ B → s'.at C = s.at C) → K undef s') :
    wop P ro (.store 4 (.const (.pointer (some ⟨B, i.toNat, none⟩))) (.const (.bool true))) ty s K := by
  have := h.l2
  exact h.vb.store (mk := Value.bool) (x := true) isz_4 h.w0 h.ro (by omega) rfl fun s' v r _ => hk s' ⟨⟨(r A h.ab).trans h.vv.here, h.vv.new, v.wf, v.grew⟩, v, (r G h.gb).trans h.gat, h.l1, by rw [List.length_set]; exact h.l2, h.w0, h.ro, h.rows, h.ga, h.gb, h.ab, h.nn⟩ r
theorem RunI.storeV (h : RunI ro g ur s0 G A B s c) {i : Int} (h0 : 0 ≤ i) (hi : i < g.nv) {x : Int} (hx : 0 ≤ x) {ty : TypeId} {K : Value → St → Prop} (hk : ∀ s', RunI ro g ur s0 G A B s' (c.1.set i.toNat x, c.2) → (∀ C, C ≠ A → s'.at C = s.at C) → K undef s') :
    wop P ro (.store 38 (.const (.pointer (some ⟨A, i.toNat, none⟩))) (.const (.int .u64 x))) ty s K := by
  have := h.l1
  exact h.vv.store isz_38 h.w0 h.ro (by omega) rfl fun s' v r _ => hk s' ⟨v, ⟨(r B (Ne.symm h.ab)).trans h.vb.here, h.vb.new, v.wf, v.grew⟩, (r G h.ga).trans h.gat, by rw [List.length_set]; exact h.l1, h.l2, h.w0, h.ro, h.rows, h.ga, h.gb, h.ab, nn_set h.nn hx⟩ r
theorem rds_0 {r : Row} (h1 : r.k = 1) (hq : r.ql ≠ 0 ∨ r.qm ≠ 0) : (0 : Int) ∈ rds r := by
  unfold rds
  rw [if_pos h1, if_pos hq]
  simp
theorem rds_1 {r : Row} (h1 : r.k = 1) (hq : r.qr ≠ 0 ∨ r.qm ≠ 0) : (1 : Int) ∈ rds r := by
  unfold rds
  rw [if_pos h1, if_pos hq]
  simp
theorem Limits.fit (h : Limits g) {i : Nat} (hi : i < g.rows.length) (hn : (rowAt g.rows i).Nn) : RowFit g.nv.toNat (rowAt g.rows i) := by
  have hnv := h.nv
  have key : ∀ {j : Int}, j ∈ rds (rowAt g.rows i) → 0 ≤ (rowAt g.rows i).w j.toNat ∧ (rowAt g.rows i).w j.toNat < g.nv.toNat := fun {j} hj => by
    have := h.reads hi hj
    omega
  refine ⟨hn, fun k1 hq => key (rds_0 k1 hq), fun k1 hq => key (rds_1 k1 hq), fun k1 hq => key (rds_2 k1 hq), fun k2 => ?_, fun k3 => ⟨⟨(h.row hi).1.2.1, (h.row hi).1.2.2.1⟩, fun k hk => ?_⟩⟩
  · refine key (j := 0) ?_
    unfold rds
    rw [if_neg (by omega), if_pos k2]
    simp
  · have : ((k : Nat) : Int) ∈ rds (rowAt g.rows i) := by
      unfold rds
      rw [if_neg (by omega), if_neg (by omega), if_pos k3]
      simp
      omega
    have := key this
    rwa [Int.toNat_natCast] at this
end
end Go.VE
/- The reference of the gates: a run's rows. -/
namespace Go.VE
open Go Go.Proofs
set_option maxRecDepth 20000
section
variable {ro : Nat} {K : Value → St → Prop} {g : Gp} {ur : Value} {s0 : St} {G A B : Nat} {s : St} {c : List Int × List Bool}
theorem runEnd {τ : Tau} {al : AL} {ds : List Deferred} {Q : Ex → WK} {i : Nat} (hi : i ≤ 8000) (h12 : U τ al 12 = .int .i64 i)
    (hk : ∀ τ', τ' 3 = U τ al 3 → τ' 9 = U τ al 9 → τ' 10 = U τ al 10 → τ' 12 = .int .i64 ((i + 1 : Nat) : Int) → Q .normal τ' ds s) :
    blkX 3 (sX (prims P ro) none 192 k15_111110100 c15_11111010011 [1, 1] (lift Q)) .normal τ al ds s := by
  rw [blkX_n, sX_n (.lift _), n15_11111010011]
  unfold v15_11111010011
  rw [h12]
  simp (maxSteps := 10000000) only [wW, reduceCtorEq, Nat.reduceEqDiff]
  rw [wrap_i64 (by omega) (by omega)]
  unfold lift
  refine hk _ ?_ ?_ ?_ ?_
  · simp only [U, tset_eq, wW, reduceCtorEq, Nat.reduceEqDiff]
  · simp only [U, tset_eq, wW, reduceCtorEq, Nat.reduceEqDiff]
  · simp only [U, tset_eq, wW, reduceCtorEq, Nat.reduceEqDiff]
  · simp only [U, tset_eq, wW, reduceCtorEq, Nat.reduceEqDiff]; rfl
theorem runNext (hL : Limits g) (hI : RunI ro g ur s0 G A B s c) {i : Nat} (hi : i < g.rows.length) (hfit : RowFit g.nv.toNat (rowAt g.rows i)) {R : Nat} (hR : s.at R = some (.cells (rowAt g.rows i).cells 43 false))
    {τ : Tau} {ds : List Deferred} {Qe : Ex → XK} (h3 : τ 3 = ptr G) (h9 : τ 9 = slc A g.nv.toNat) (h10 : τ 10 = slc B g.nv.toNat) (h12 : τ 12 = .int .i64 i) (h13 : τ 13 = ptr R)
    (hk : ∀ τ' al s', U τ' al 3 = ptr G → U τ' al 9 = slc A g.nv.toNat → U τ' al 10 = slc B g.nv.toNat → U τ' al 12 = .int .i64 i → RunI ro g ur s0 G A B s' (runB g.f (rowAt g.rows i) (rowAt g.rows (i + 1)) c) → Qe .normal τ' al ds s') :
    xp (prims P ro) none 192 k15_111110100 c15_11111010010011 [1, 1, 0, 0, 1] τ [] ds s Qe := by
  have hnv := hL.nv
  have hrl := hL.2.2.2.2.2.2.2.1
  have hv := hL.1
  rw [n15_11111010010011]
  unfold v15_11111010010011
  have hRc : acells (s.at R) = some (rowAt g.rows i).cells := acells_some hR
  rw [h3, h9, h13]
  simp (maxSteps := 10000000) only [wW, reduceCtorEq, Nat.reduceEqDiff, wL, Nat.reduceAdd, hRc]
  unfold runB at hk
  by_cases hk3 : (rowAt g.rows i).k = 3
  · rw [if_pos hk3] at hk ⊢
    have hn := hL.next hi hk3
    have hx := hfit.round hk3
    simp (maxSteps := 10000000) only [wW, reduceCtorEq, Nat.reduceEqDiff, wL, Nat.reduceAdd, hRc, hI.gc]
    have hgn := hI.vv.grew.n
    have hro := hI.ro
    rw [wRnd g.f hv hx.1 hI.vv.wf (by omega) hI.sl hI.nn (fun k hk4 => by have := hx.2 k hk4; have := hI.l1; omega)]
    have hl2 := roundM_len g.f (rowAt g.rows i).rd (wv c.1 (rowAt g.rows i))
    have hn2 := roundM_nn g.f (rowAt g.rows i).rd (wv c.1 (rowAt g.rows i))
    generalize roundM g.f (rowAt g.rows i).rd (wv c.1 (rowAt g.rows i)) = q at hl2 hn2 hk ⊢
    refine alloc_rule ty_39 hI.vv.wf fun S s4 m4 => ?_
    have e4 := m4.eq
    have n4 := m4.n
    refine storeAll_rule isz_39 m4.here (show (u4 q).length = 4 by rw [u4_len]; exact hl2) (by decide) m4.wf (by omega) rfl (u4_one _) fun s5 p5 => ?_
    have hI4 := hI.grew m4.grew
    have hA4 := St.at_lt hI.vv.here
    have hB4 := St.at_lt hI.vb.here
    have hG4 := St.at_lt hI.gat
    have g5 := p5.grew _ hI.w0 hI4.vv.grew (by omega)
    have hI5 : RunI ro g ur s0 G A B s5 c := ⟨⟨(p5.rest A (by omega)).trans hI4.vv.here, hI.vv.new, p5.wf, g5⟩, ⟨(p5.rest B (by omega)).trans hI4.vb.here, hI.vb.new, p5.wf, g5⟩, (p5.rest G (by omega)).trans hI4.gat, hI.l1, hI.l2, hI.w0, hI.ro, hI.rows, hI.ga, hI.gb, hI.ab, hI.nn⟩
    have hSA : S ≠ A := by omega
    have hSB : S ≠ B := by omega
    refine wloop l15_11111010010011101100 m15_11111010010011101100 (fun (k : Nat) τ ds' s' => k ≤ 4 ∧ τ 3 = ptr G ∧ τ 9 = slc A g.nv.toNat ∧ τ 10 = slc B g.nv.toNat ∧ τ 12 = .int .i64 i ∧ τ 14 = ptr S ∧ τ 15 = .int .i64 k ∧ ds = ds' ∧ RunI ro g ur s0 G A B s' (it (runN q (rowAt g.rows (i + 1))) k c) ∧ s'.at S = some (.cells (u4 q) 39 false)) (fun k => 4 - k) ?_ 0 ⟨by omega, ?_, ?_, ?_, ?_, ?_, rfl, rfl, hI5, p5.here⟩
    · clear h3 h9 h10 h12 h13 hI hR hRc hI4 hI5
      rintro k τ ds' s' ⟨hk4', h3, h9, h10, h12, h14, h15, rfl, hI, hS⟩
      rw [n15_11111010010011101100]
      unfold v15_11111010010011101100
      by_cases hk4 : k < 4
      · have hx := hn.2 k hk4
        obtain ⟨A2, o2, c2, y1, y2⟩ := hI.rs.ix (rowAt_get hn.1)
        have hiw : IntKind.i64.wrap ((i : Int) + 1) = ((i + 1 : Nat) : Int) := by rw [wrap_i64 (by omega) (by omega)]; rfl
        have hwk := y2.wire hk4
        have hixA := ixc se_25 isz_38 (A := A) (n := g.nv.toNat) (c := g.nv.toNat) (i := (rowAt g.rows (i + 1)).w k) hx.1 (by omega)
        have hixB := ixc se_52 isz_4 (A := B) (n := g.nv.toNat) (c := g.nv.toNat) (i := (rowAt g.rows (i + 1)).w k) hx.1 (by omega)
        have hgt := hI.getB hx.1 hx.2
        simp (maxSteps := 10000000) only [wW, reduceCtorEq, Nat.reduceEqDiff, wL, Nat.reduceAdd, h3, h9, h10, h12, h14, h15, hI.gc, hiw, y1, y2.blk, wix _ _ hk4, six _ _ hk4, hwk, hixA, hixB, hI.bc, hgt]
        rw [if_pos (by omega)]
        cases hneg : atB (it (runN q (rowAt g.rows (i + 1))) k c).2 ((rowAt g.rows (i + 1)).w k) with
        | false =>
          rw [if_pos rfl]
          refine hI.storeB hx.1 hx.2 fun s2 hI2 r2 => ?_
          have hS2 := (r2 S hSB).trans hS
          rw [acells_some hS2, wopt_some, u4_get (show k < q.length by omega), wopt_some]
          refine hI2.storeV hx.1 hx.2 (at0_nn hn2 _) fun s3 hI3 r3 => ?_
          rw [wrap_i64 (by omega) (by omega)]
          refine ⟨k + 1, by omega, by omega, ?_, ?_, ?_, ?_, ?_, ?_, trivial, ?_, (r3 S hSA).trans hS2⟩
          · simp only [U, tset_eq, wW, reduceCtorEq, Nat.reduceEqDiff, h3]
          · simp only [U, tset_eq, wW, reduceCtorEq, Nat.reduceEqDiff, h9]
          · simp only [U, tset_eq, wW, reduceCtorEq, Nat.reduceEqDiff, h10]
          · simp only [U, tset_eq, wW, reduceCtorEq, Nat.reduceEqDiff, h12]
          · simp only [U, tset_eq, wW, reduceCtorEq, Nat.reduceEqDiff, h14]
          · simp only [U, tset_eq, wW, reduceCtorEq, Nat.reduceEqDiff]; rfl
          · rw [it, runN, if_pos hneg]
            exact hI3
        | true =>
          rw [if_neg (by decide), wrap_i64 (by omega) (by omega)]
          refine ⟨k + 1, by omega, by omega, ?_, ?_, ?_, ?_, ?_, ?_, trivial, ?_, hS⟩
          · simp only [U, tset_eq, wW, reduceCtorEq, Nat.reduceEqDiff, h3]
          · simp only [U, tset_eq, wW, reduceCtorEq, Nat.reduceEqDiff, h9]
          · simp only [U, tset_eq, wW, reduceCtorEq, Nat.reduceEqDiff, h10]
          · simp only [U, tset_eq, wW, reduceCtorEq, Nat.reduceEqDiff, h12]
          · simp only [U, tset_eq, wW, reduceCtorEq, Nat.reduceEqDiff, h14]
          · simp only [U, tset_eq, wW, reduceCtorEq, Nat.reduceEqDiff]; rfl
          · rw [it, runN, if_neg (by rw [hneg]; decide)]
            exact hI
      · obtain rfl : k = 4 := by omega
        simp (maxSteps := 10000000) only [wW, reduceCtorEq, Nat.reduceEqDiff, h15]
        rw [if_neg (by omega)]
        refine hk _ [] _ ?_ ?_ ?_ ?_ hI
        · simp only [U, tset_eq, wW, reduceCtorEq, Nat.reduceEqDiff, h3]
        · simp only [U, tset_eq, wW, reduceCtorEq, Nat.reduceEqDiff, h9]
        · simp only [U, tset_eq, wW, reduceCtorEq, Nat.reduceEqDiff, h10]
        · simp only [U, tset_eq, wW, reduceCtorEq, Nat.reduceEqDiff, h12]
    · simp only [U, tset_eq, wW, reduceCtorEq, Nat.reduceEqDiff, h3]
    · simp only [U, tset_eq, wW, reduceCtorEq, Nat.reduceEqDiff, h9]
    · simp only [U, tset_eq, wW, reduceCtorEq, Nat.reduceEqDiff, h10]
    · simp only [U, tset_eq, wW, reduceCtorEq, Nat.reduceEqDiff, h12]
    · simp only [U, tset_eq, wW, reduceCtorEq, Nat.reduceEqDiff]
  · rw [if_neg hk3] at hk ⊢
    refine hk _ _ _ ?_ ?_ ?_ ?_ hI
    · simp only [U, tset_eq, wW, reduceCtorEq, Nat.reduceEqDiff, h3]
    · simp only [U, tset_eq, wW, reduceCtorEq, Nat.reduceEqDiff, h9]
    · simp only [U, tset_eq, wW, reduceCtorEq, Nat.reduceEqDiff, h10]
    · simp only [U, tset_eq, wW, reduceCtorEq, Nat.reduceEqDiff, h12]
theorem runArith (hL : Limits g) (hI : RunI ro g ur s0 G A B s c) {i : Nat} (hi : i < g.rows.length) (hfit : RowFit g.nv.toNat (rowAt g.rows i)) {R : Nat} (hR : s.at R = some (.cells (rowAt g.rows i).cells 43 false)) (hRA : R ≠ A) (hRB : R ≠ B)
    {τ : Tau} {ds : List Deferred} {Qe : Ex → XK} (hQ : QOk Qe) (h3 : τ 3 = ptr G) (h9 : τ 9 = slc A g.nv.toNat) (h10 : τ 10 = slc B g.nv.toNat) (h12 : τ 12 = .int .i64 i) (h13 : τ 13 = ptr R)
    {b : Bool} (h117 : τ 117 = .bool b) (hb : b = true ↔ (rowAt g.rows i).k = 1 ∧ (rowAt g.rows i).qo ≠ 0 ∧ atB c.2 (rowAt g.rows i).w2 = false)
    (hk : ∀ τ' al s', U τ' al 3 = ptr G → U τ' al 9 = slc A g.nv.toNat → U τ' al 10 = slc B g.nv.toNat → U τ' al 12 = .int .i64 i → RunI ro g ur s0 G A B s' (runR g i c) → Qe .normal τ' al ds s') :
    xp (prims P ro) none 192 k15_111110100 c15_111110100100101 [1, 0, 1, 0, 0, 1] τ [] ds s (sX (prims P ro) none 192 k15_111110100 c15_11111010010011 [1, 1, 0, 0, 1] Qe) := by
  have hnv := hL.nv
  generalize hX : sX (prims P ro) none 192 k15_111110100 c15_11111010010011 [1, 1, 0, 0, 1] Qe = X
  rw [n15_111110100100101]
  unfold v15_111110100100101
  have hRc : acells (s.at R) = some (rowAt g.rows i).cells := acells_some hR
  rw [h117, h3, h9, h10, h13]
  simp (maxSteps := 10000000) only [wW, reduceCtorEq, Nat.reduceEqDiff, wL, Nat.reduceAdd, hRc]
  by_cases hbt : b = true
  · rw [if_pos hbt]
    have hc := hb.1 hbt
    have hw2 := hL.reads hi (rds_2 hc.1 hc.2.1)
    have hw2' : 0 ≤ (rowAt g.rows i).w2 ∧ (rowAt g.rows i).w2 < g.nv := hw2
    have hixA := ixc se_25 isz_38 (A := A) (n := g.nv.toNat) (c := g.nv.toNat) (i := (rowAt g.rows i).w2) hw2'.1 (by omega)
    have hixB := ixc se_52 isz_4 (A := B) (n := g.nv.toNat) (c := g.nv.toNat) (i := (rowAt g.rows i).w2) hw2'.1 (by omega)
    rw [hixB, wopt_some]
    refine hI.storeB hw2'.1 hw2'.2 fun s2 hI2 r2 => ?_
    have hR2 := (r2 R hRB).trans hR
    simp (maxSteps := 10000000) only [wW, reduceCtorEq, Nat.reduceEqDiff, wL, Nat.reduceAdd, acells_some hR2, hI2.gc]
    refine ⟨by simp [veq], by simp [veq], by simp [veq], by simp [veq], rcVeq _, by simp [veq], ?_⟩
    have hgn := hI2.vv.grew.n
    have hro := hI.ro
    have hl1 := hI.l1
    rw [wSum g.f hfit.nn hI2.vv.wf (by omega) hI2.sl hI2.nn (fun hq => by have := hfit.a hc.1 hq; rw [hI2.l1]; exact this) (fun hq => by have := hfit.b hc.1 hq; rw [hI2.l1]; exact this)]
    refine ⟨.refl _, ?_⟩
    have hs0 : 0 ≤ sumM g.f (rowAt g.rows i) c.1 := (fAdd_bounds _ _ _).1
    rw [wrDiv g.f hs0 hfit.nn.qo]
    refine ⟨.refl _, ?_⟩
    have hd0 : 0 ≤ fDiv g.f (sumM g.f (rowAt g.rows i) c.1) (rowAt g.rows i).qo := (fMul_bounds _ _ _).1
    rw [wrNeg g.f hd0]
    refine ⟨.refl _, ?_⟩
    have hn0 : 0 ≤ fNeg g.f (fDiv g.f (sumM g.f (rowAt g.rows i) c.1) (rowAt g.rows i).qo) := (fSub_bounds _ _ _).1
    rw [hixA, wopt_some]
    refine hI2.storeV hw2'.1 hw2'.2 hn0 fun s3 hI3 r3 => ?_
    rw [← hX, sX_n hQ]
    have e : runA g.f (rowAt g.rows i) c = setV (rowAt g.rows i).w2 (fNeg g.f (fDiv g.f (sumM g.f (rowAt g.rows i) c.1) (rowAt g.rows i).qo)) c := by unfold runA; rw [if_pos hc]
    have hI3' : RunI ro g ur s0 G A B s3 (runA g.f (rowAt g.rows i) c) := by rw [e]; exact hI3
    refine runNext hL hI3' hi hfit ((r3 R hRA).trans hR2) ?_ ?_ ?_ ?_ ?_ hk
    · simp only [U, tset_eq, wW, reduceCtorEq, Nat.reduceEqDiff, h3]
    · simp only [U, tset_eq, wW, reduceCtorEq, Nat.reduceEqDiff, h9]
    · simp only [U, tset_eq, wW, reduceCtorEq, Nat.reduceEqDiff, h10]
    · simp only [U, tset_eq, wW, reduceCtorEq, Nat.reduceEqDiff, h12]
    · simp only [U, tset_eq, wW, reduceCtorEq, Nat.reduceEqDiff, h13]
  · rw [if_neg hbt]
    have hc := fun h => hbt (hb.2 h)
    rw [← hX, sX_n hQ]
    have e : runA g.f (rowAt g.rows i) c = c := by unfold runA; rw [if_neg hc]
    have hI3' : RunI ro g ur s0 G A B s (runA g.f (rowAt g.rows i) c) := by rw [e]; exact hI
    refine runNext hL hI3' hi hfit hR ?_ ?_ ?_ ?_ ?_ hk
    · simp only [U, tset_eq, wW, reduceCtorEq, Nat.reduceEqDiff, h3]
    · simp only [U, tset_eq, wW, reduceCtorEq, Nat.reduceEqDiff, h9]
    · simp only [U, tset_eq, wW, reduceCtorEq, Nat.reduceEqDiff, h10]
    · simp only [U, tset_eq, wW, reduceCtorEq, Nat.reduceEqDiff, h12]
    · simp only [U, tset_eq, wW, reduceCtorEq, Nat.reduceEqDiff, h13]
end
end Go.VE
/- The reference of the gates: Run. -/
namespace Go.VE
open Go Go.Proofs
set_option maxRecDepth 20000
section
variable {ro : Nat} {K : Value → St → Prop}
theorem inp_nn {pub sec : List Int} (hp : ∀ x ∈ pub, 0 ≤ x) (hs : ∀ x ∈ sec, 0 ≤ x) (i : Nat) : 0 ≤ inp pub sec i := by
  unfold inp
  split
  · exact at0_nn hp _
  · exact at0_nn hs _
theorem wRun (g : Gp) (hnn : ∀ r ∈ g.rows, r.Nn) {s : St} {ur pv sv : Value} {pub sec : List Int} (hw : Wf s) (hro : ro ≤ s.n) (hr : RowsS s ur g.rows) (hlen : g.rows.length < 2 ^ 60) (hp : U64s s pv pub) (hs : U64s s sv sec) (hpn : ∀ x ∈ pub, 0 ≤ x) (hsn : ∀ x ∈ sec, 0 ≤ x)
    (h0 : ¬ runOk g pub sec → K (.tuple (.mk [.slice none 0 0, .bool false, .int .i64 1])) s)
    (h1 : runOk g pub sec → ∀ v s', Grew s s' → U64s s' v (runV g pub sec).1 → K (.tuple (.mk [v, .bool (okM g (runV g pub sec).1 g.rows.length), .int .i64 0])) s') :
    CallWP P ro 15 [.agg (.mk (g.cells ur)), pv, sv] s K := by
  refine call_wp b15 rfl ?_
  rw [n15]
  unfold v15
  simp (maxSteps := 10000000) only [wW, reduceCtorEq, Nat.reduceEqDiff]
  refine box_rule hw.ent fun G s1 m1 => ?_
  have e1 := m1.eq
  have n1 := m1.n
  have hn0 : (ent s).n = s.n := rfl
  have hG1 : s1.at G = some (.cells (g.cells ur) 24 false) := m1.here
  have hG := acells_some hG1
  have hr1 : RowsS s1 ur g.rows := (Sl.ent hr).grew m1.grew.same
  have hp1 : U64s s1 pv pub := (Sl.ent hp).grew m1.grew.same
  have hs1 : U64s s1 sv sec := (Sl.ent hs).grew m1.grew.same
  have no : ¬ runOk g pub sec → wfin s K (.tuple (.mk [.slice none 0 0, .bool false, .int .i64 1])) s1 := fun hf => fin_flat rfl m1.grew (h0 hf)
  simp (maxSteps := 10000000) only [wW, reduceCtorEq, Nat.reduceEqDiff, wL, Nat.reduceAdd, hG]
  rw [wValid g m1.wf (by omega) hr1 hlen]
  simp (maxSteps := 10000000) only [wW, reduceCtorEq, Nat.reduceEqDiff, wL, Nat.reduceAdd, hG, hp1.wlen se_25, hs1.wlen se_25]
  by_cases c1 : validM g = true
  · have hL0 : Limits g := by
      unfold validM at c1
      simp only [Bool.and_eq_true, decide_eq_true_eq] at c1
      exact c1.1
    have hpl := hL0.2.2.1
    have hsl := hL0.2.2.2.2.1
    rw [if_neg (by simp [c1])]
    by_cases c2 : (pub.length : Int) = g.pub
    · rw [if_neg (by simpa using c2)]
      by_cases c3 : (sec.length : Int) = g.sec
      · rw [if_neg (by simpa using c3), wBelow g.f hp1 (by omega)]
        simp (maxSteps := 10000000) only [wW, reduceCtorEq, Nat.reduceEqDiff, wL, Nat.reduceAdd, hG]
        by_cases c4 : below g.f pub = true
        · rw [if_neg (by simp [c4]), wBelow g.f hs1 (by omega)]
          simp (maxSteps := 10000000) only [wW, reduceCtorEq, Nat.reduceEqDiff, wL, Nat.reduceAdd, hG]
          by_cases c5 : below g.f sec = true
          · rw [if_neg (by simp [c5])]
            have hOk : runOk g pub sec := ⟨c1, c2, c3, c4, c5⟩
            have hL : Limits g := by
              unfold validM at c1
              simp only [Bool.and_eq_true, decide_eq_true_eq] at c1
              exact c1.1
            have hnv := hL.nv
            have hrl := hL.2.2.2.2.2.2.2.1
            have hps := hL.2.1
            have hps2 := hL.2.2.1
            have hps3 := hL.2.2.2.1
            have hps4 := hL.2.2.2.2.1
            have hps5 := hL.2.2.2.2.2.1
            refine make_rule (mk := Value.int .u64) (x := 0) se_25 ty_38 rfl m1.wf hnv.1 (by omega) (by decide) fun A s2 m2 => ?_
            have e2 := m2.eq
            have n2 := m2.n
            have hG2 := (m2.grew.same G (by omega)).trans hG1
            rw [acells_some hG2, wopt_some, gc1, wopt_some]
            refine make_rule (mk := Value.bool) (x := false) se_52 ty_4 rfl m2.wf hnv.1 (by omega) (by decide) fun B s3 m3 => ?_
            have e3 := m3.eq
            have n3 := m3.n
            have g3 := (m1.grew.trans m2.grew).trans m3.grew
            have hI0 : RunI ro g ur (ent s) G A B s3 (run0 g) := ⟨⟨(m3.grew.same A (by omega)).trans m2.here, by omega, m3.wf, g3⟩, ⟨m3.here, by omega, m3.wf, g3⟩, (m3.grew.same G (by omega)).trans hG2, by simp [run0], by simp [run0], hw.ent, hro, Sl.ent hr, by omega, by omega, by omega, fun x hx => by
              have : x = 0 := List.eq_of_mem_replicate hx
              omega⟩
            have hpsn : ((g.pub + g.sec).toNat : Int) = g.pub + g.sec := by omega
            refine wloop l15_11110100 m15_11110100 (fun (i : Nat) τ ds s' => i ≤ (g.pub + g.sec).toNat ∧ τ 1 = pv ∧ τ 2 = sv ∧ τ 3 = ptr G ∧ τ 9 = slc A g.nv.toNat ∧ τ 10 = slc B g.nv.toNat ∧ τ 11 = .int .i64 i ∧ ds = [] ∧ RunI ro g ur (ent s) G A B s' (it (runI pub sec) i (run0 g))) (fun i => (g.pub + g.sec).toNat - i) ?_ 0 ⟨by omega, ?_, ?_, ?_, ?_, ?_, ?_, rfl, hI0⟩
            · clear hI0
              rintro i τ ds s' ⟨hi, t1, t2, t3, t9, t10, t11, rfl, hI⟩
              rw [n15_11110100]
              unfold v15_11110100
              simp (maxSteps := 10000000) only [wW, reduceCtorEq, Nat.reduceEqDiff, wL, Nat.reduceAdd, t3, t11, hI.gc]
              rw [wrap_i64 (n := g.pub + g.sec) (by omega) (by omega)]
              by_cases hlt : i < (g.pub + g.sec).toNat
              · rw [if_pos (by omega)]
                have hx0 : (0 : Int) ≤ (i : Int) := by omega
                have hx1 : (i : Int) < g.nv := by omega
                have hixA := ixc se_25 isz_38 (A := A) (n := g.nv.toNat) (c := g.nv.toNat) (i := (i : Int)) hx0 (by omega)
                have hixB := ixc se_52 isz_4 (A := B) (n := g.nv.toNat) (c := g.nv.toNat) (i := (i : Int)) hx0 (by omega)
                simp (maxSteps := 10000000) only [wW, reduceCtorEq, Nat.reduceEqDiff, wL, Nat.reduceAdd, t10, t11, hixB]
                refine hI.storeB hx0 hx1 fun s4 hI4 r4 => ?_
                simp (maxSteps := 10000000) only [wW, reduceCtorEq, Nat.reduceEqDiff, wL, Nat.reduceAdd, t1, t2, t3, t9, t11, hI4.gc, hixA]
                have hIs := fun (x : Int) (s5 : St) (h : RunI ro g ur (ent s) G A B s5 ((it (runI pub sec) i (run0 g)).1.set (i : Int).toNat x, (it (runI pub sec) i (run0 g)).2.set (i : Int).toNat true)) => h
                have hinn := inp_nn hpn hsn i
                by_cases hip : (i : Int) < g.pub
                · rw [if_pos hip]
                  have hin : inp pub sec i = at0 pub i := by unfold inp; rw [if_pos (by omega)]
                  obtain ⟨A5, o5, c5, z1, z2, z3⟩ := U64s.at1 (s := s4) ((Sl.ent hp).grew hI4.vv.grew.same) hx0 (at0_get hx0 (by omega))
                  rw [← hin] at z3
                  simp (maxSteps := 10000000) only [wW, reduceCtorEq, Nat.reduceEqDiff, wL, Nat.reduceAdd, z1, z2, z3, hixA]
                  refine hI4.storeV hx0 hx1 hinn fun s5 hI5 _ => ?_
                  rw [wrap_i64 (by omega) (by omega)]
                  refine ⟨i + 1, by omega, by omega, ?_, ?_, ?_, ?_, ?_, ?_, trivial, hI5⟩
                  · simp only [U, tset_eq, wW, reduceCtorEq, Nat.reduceEqDiff, t1]
                  · simp only [U, tset_eq, wW, reduceCtorEq, Nat.reduceEqDiff, t2]
                  · simp only [U, tset_eq, wW, reduceCtorEq, Nat.reduceEqDiff, t3]
                  · simp only [U, tset_eq, wW, reduceCtorEq, Nat.reduceEqDiff, t9]
                  · simp only [U, tset_eq, wW, reduceCtorEq, Nat.reduceEqDiff, t10]
                  · simp only [U, tset_eq, wW, reduceCtorEq, Nat.reduceEqDiff]; rfl
                · rw [if_neg hip, wrap_i64 (n := (i : Int) - g.pub) (by omega) (by omega)]
                  have hin : inp pub sec i = at0 sec ((i : Int) - g.pub) := by unfold inp; rw [if_neg (by omega), c2]
                  obtain ⟨A5, o5, c5, z1, z2, z3⟩ := U64s.at1 (s := s4) (i := (i : Int) - g.pub) ((Sl.ent hs).grew hI4.vv.grew.same) (by omega) (at0_get (by omega) (by omega))
                  rw [← hin] at z3
                  simp (maxSteps := 10000000) only [wW, reduceCtorEq, Nat.reduceEqDiff, wL, Nat.reduceAdd, z1, z2, z3, hixA]
                  refine hI4.storeV hx0 hx1 hinn fun s5 hI5 _ => ?_
                  rw [wrap_i64 (by omega) (by omega)]
                  refine ⟨i + 1, by omega, by omega, ?_, ?_, ?_, ?_, ?_, ?_, trivial, hI5⟩
                  · simp only [U, tset_eq, wW, reduceCtorEq, Nat.reduceEqDiff, t1]
                  · simp only [U, tset_eq, wW, reduceCtorEq, Nat.reduceEqDiff, t2]
                  · simp only [U, tset_eq, wW, reduceCtorEq, Nat.reduceEqDiff, t3]
                  · simp only [U, tset_eq, wW, reduceCtorEq, Nat.reduceEqDiff, t9]
                  · simp only [U, tset_eq, wW, reduceCtorEq, Nat.reduceEqDiff, t10]
                  · simp only [U, tset_eq, wW, reduceCtorEq, Nat.reduceEqDiff]; rfl
              · obtain rfl : i = (g.pub + g.sec).toNat := by omega
                rw [if_neg (by omega)]
                refine wloop l15_111110100 m15_111110100 (fun (i : Nat) τ ds s' => i ≤ g.rows.length ∧ τ 3 = ptr G ∧ τ 9 = slc A g.nv.toNat ∧ τ 10 = slc B g.nv.toNat ∧ τ 12 = .int .i64 i ∧ ds = [] ∧ RunI ro g ur (ent s) G A B s' (it (runR g) i (it (runI pub sec) (g.pub + g.sec).toNat (run0 g)))) (fun i => g.rows.length - i) ?_ 0 ⟨by omega, ?_, ?_, ?_, ?_, rfl, hI⟩
                · clear hI t1 t2 t3 t9 t10 t11
                  rintro i τ ds s' ⟨hi, t3, t9, t10, t12, rfl, hI⟩
                  have hgl : ∀ s' K, wop P ro (.call ⟨.builtin .len, ⟨[.const ur]⟩, #[22]⟩) 3 s' K = K (.int .i64 (g.rows.length : Nat)) s' := fun s' K => Sl.wlen hr se_22 _ K
                  rw [n15_111110100]
                  unfold v15_111110100
                  by_cases hlt : i < g.rows.length
                  · obtain ⟨A5, o5, c5, q1, q2⟩ := hI.rs.ix (rowAt_get hlt)
                    simp (maxSteps := 10000000) only [wW, reduceCtorEq, Nat.reduceEqDiff, wL, Nat.reduceAdd, t3, t12, hI.gc, hgl, q1, q2.blk, q2.all]
                    rw [if_pos (by omega)]
                    refine alloc_rule ty_43 hI.vv.wf fun R s4 m4 => ?_
                    have e4 := m4.eq
                    have n4 := m4.n
                    have gn := hI.vv.grew.n
                    have hI4 := hI.grew m4.grew
                    have hA4 := St.at_lt hI.vv.here
                    have hB4 := St.at_lt hI.vb.here
                    have hG4 := St.at_lt hI.gat
                    refine storeAll_rule isz_43 m4.here (l := (rowAt g.rows i).cells) rfl (by decide) m4.wf (by omega) rfl rfl fun s5 p5 => ?_
                    have g5 := p5.grew _ hI.w0 hI4.vv.grew (by omega)
                    have hI5 : RunI ro g ur (ent s) G A B s5 (it (runR g) i (it (runI pub sec) (g.pub + g.sec).toNat (run0 g))) := ⟨⟨(p5.rest A (by omega)).trans hI4.vv.here, hI.vv.new, p5.wf, g5⟩, ⟨(p5.rest B (by omega)).trans hI4.vb.here, hI.vb.new, p5.wf, g5⟩, (p5.rest G (by omega)).trans hI4.gat, hI.l1, hI.l2, hI.w0, hI.ro, hI.rows, hI.ga, hI.gb, hI.ab, hI.nn⟩
                    have hR5 : s5.at R = some (.cells (rowAt g.rows i).cells 43 false) := p5.here
                    have hRc := acells_some hR5
                    have hRA : R ≠ A := by omega
                    have hRB : R ≠ B := by omega
                    have hfit := hL.fit hlt (hnn _ (List.mem_of_getElem? (rowAt_get hlt)))
                    generalize hc : it (runR g) i (it (runI pub sec) (g.pub + g.sec).toNat (run0 g)) = c at hI5
                    have row : ∀ {b : Bool} {τ' : Tau} {Q : Ex → WK}, τ' 117 = .bool b → (b = true ↔ (rowAt g.rows i).k = 1 ∧ (rowAt g.rows i).qo ≠ 0 ∧ atB c.2 (rowAt g.rows i).w2 = false) → τ' 3 = ptr G → τ' 9 = slc A g.nv.toNat → τ' 10 = slc B g.nv.toNat → τ' 12 = .int .i64 i → τ' 13 = ptr R →
                        (∀ τ' s', (∃ y, g.rows.length - y < g.rows.length - i ∧ y ≤ g.rows.length ∧ τ' 3 = ptr G ∧ τ' 9 = slc A g.nv.toNat ∧ τ' 10 = slc B g.nv.toNat ∧ τ' 12 = .int .i64 (y : Nat) ∧ ([] : List Deferred) = [] ∧ RunI ro g ur (ent s) G A B s' (it (runR g) y (it (runI pub sec) (g.pub + g.sec).toNat (run0 g)))) → Q .normal τ' [] s') →
                        xp (prims P ro) none 192 k15_111110100 c15_111110100100101 [1, 0, 1, 0, 0, 1] τ' [] [] s5 (sX (prims P ro) none 192 k15_111110100 c15_11111010010011 [1, 1, 0, 0, 1] (blkX 3 (sX (prims P ro) none 192 k15_111110100 c15_11111010011 [1, 1] (lift Q)))) := fun {b τ' Q} h117 hb a3 a9 a10 a12 a13 hQ => by
                      refine runArith hL hI5 hlt hfit hR5 hRA hRB ((QOk.lift Q).sX.blk 3) a3 a9 a10 a12 a13 h117 hb fun τ2 al s2 b3 b9 b10 b12 hI2 => ?_
                      refine runEnd (by omega) b12 fun τ3 d3 d9 d10 d12 => hQ τ3 s2 ⟨i + 1, by omega, by omega, d3.trans b3, d9.trans b9, d10.trans b10, d12, rfl, ?_⟩
                      rw [it, hc]
                      exact hI2
                    simp (maxSteps := 10000000) only [U, tset_eq, wW, reduceCtorEq, Nat.reduceEqDiff, wL, Nat.reduceAdd, hRc, t10]
                    by_cases k1 : (rowAt g.rows i).k = 1
                    · rw [if_pos k1]
                      by_cases kq : (rowAt g.rows i).qo = 0
                      · rw [if_neg (by simpa using kq)]
                        refine row (b := false) ?_ ⟨fun h => (by cases h), fun h => absurd kq h.2.1⟩ ?_ ?_ ?_ ?_ ?_ (fun _ _ h => h) <;> simp only [tset_eq, wW, reduceCtorEq, Nat.reduceEqDiff, t3, t9, t10, t12]
                      · rw [if_pos kq]
                        have hw2 : 0 ≤ (rowAt g.rows i).w2 ∧ (rowAt g.rows i).w2 < g.nv := hL.reads hlt (j := 2) (rds_2 k1 kq)
                        have hixB := ixc se_52 isz_4 (A := B) (n := g.nv.toNat) (c := g.nv.toNat) (i := (rowAt g.rows i).w2) hw2.1 (by omega)
                        have hgt := hI5.getB hw2.1 hw2.2
                        rw [hixB, wopt_some, load1 ap_4, hI5.bc, Option.bind_some, hgt, wopt_some, wop_not]
                        refine row (b := !(atB c.2 (rowAt g.rows i).w2)) ?_ ⟨fun h => ⟨k1, kq, by simpa using h⟩, fun h => by simpa using h.2.2⟩ ?_ ?_ ?_ ?_ ?_ (fun _ _ h => h) <;> simp only [tset_eq, wW, reduceCtorEq, Nat.reduceEqDiff, t3, t9, t10, t12]
                    · rw [if_neg k1]
                      refine row (b := false) ?_ ⟨fun h => (by cases h), fun h => absurd h.1 k1⟩ ?_ ?_ ?_ ?_ ?_ (fun _ _ h => h) <;> simp only [tset_eq, wW, reduceCtorEq, Nat.reduceEqDiff, t3, t9, t10, t12]
                  · obtain rfl : i = g.rows.length := by omega
                    simp (maxSteps := 10000000) only [wW, reduceCtorEq, Nat.reduceEqDiff, wL, Nat.reduceAdd, t3, t12, hI.gc, hgl]
                    rw [if_neg (by omega)]
                    have hV : it (runR g) g.rows.length (it (runI pub sec) (g.pub + g.sec).toNat (run0 g)) = runV g pub sec := rfl
                    rw [hV] at hI
                    have h1' := h1 hOk
                    generalize runV g pub sec = c at hI h1'
                    refine wloop l15_11111110100 m15_11111110100 (fun (i : Nat) τ ds s2' => i ≤ g.rows.length ∧ τ 3 = ptr G ∧ τ 9 = slc A g.nv.toNat ∧ τ 17 = .bool (okM g c.1 i) ∧ τ 18 = .int .i64 i ∧ ds = [] ∧ s' = s2') (fun i => g.rows.length - i) ?_ 0 ⟨by omega, ?_, ?_, ?_, ?_, rfl, rfl⟩
                    · clear t3 t9 t10 t12
                      rintro i τ ds s2' ⟨hi, t3, t9, t17, t18, rfl, rfl⟩
                      rw [n15_11111110100]
                      unfold v15_11111110100
                      simp (maxSteps := 10000000) only [wW, reduceCtorEq, Nat.reduceEqDiff, wL, Nat.reduceAdd, t3, t9, t17, t18, hI.gc, hgl]
                      by_cases hlt : i < g.rows.length
                      · rw [if_pos (by omega)]
                        have hl1 := hI.l1
                        have hfit := hL.fit hlt (hnn _ (List.mem_of_getElem? (rowAt_get hlt)))
                        cases hok : okM g c.1 i with
                        | true =>
                          rw [if_pos rfl, wHolds g hL.1 hI.vv.wf (by have := hI.vv.grew.n; omega) hI.rs hI.sl hI.nn (rowAt_get hlt) hlen (by rw [hl1]; exact hfit) (fun h3 => ⟨(hL.next hlt h3).1, fun k hk4 => by have := (hL.next hlt h3).2 k hk4; rw [nxt_eq]; omega⟩)]
                          simp (maxSteps := 10000000) only [wW, reduceCtorEq, Nat.reduceEqDiff]
                          rw [wrap_i64 (by omega) (by omega)]
                          refine ⟨i + 1, by omega, by omega, ?_, ?_, ?_, ?_, trivial, trivial⟩
                          · simp only [U, tset_eq, wW, reduceCtorEq, Nat.reduceEqDiff, t3]
                          · simp only [U, tset_eq, wW, reduceCtorEq, Nat.reduceEqDiff, t9]
                          · simp only [U, tset_eq, wW, reduceCtorEq, Nat.reduceEqDiff]
                            rw [okM, hok, Bool.true_and, nxt_eq]
                          · simp only [U, tset_eq, wW, reduceCtorEq, Nat.reduceEqDiff]; rfl
                        | false =>
                          rw [if_neg (by decide), wrap_i64 (by omega) (by omega)]
                          refine ⟨i + 1, by omega, by omega, ?_, ?_, ?_, ?_, trivial, trivial⟩
                          · simp only [U, tset_eq, wW, reduceCtorEq, Nat.reduceEqDiff, t3]
                          · simp only [U, tset_eq, wW, reduceCtorEq, Nat.reduceEqDiff, t9]
                          · simp only [U, tset_eq, wW, reduceCtorEq, Nat.reduceEqDiff]
                            rw [okM, hok, Bool.false_and]
                          · simp only [U, tset_eq, wW, reduceCtorEq, Nat.reduceEqDiff]; rfl
                      · obtain rfl : i = g.rows.length := by omega
                        rw [if_neg (by omega)]
                        simp (maxSteps := 10000000) only [U, tset_eq, wW, reduceCtorEq, Nat.reduceEqDiff, t9, t17]
                        exact wfin_new hw hI.vv.grew rfl fun s9 hg9 _ hat => h1' _ s9 hg9 (Sl.sameAt hI.sl fun C o sp n cc e => hat C)
                    · simp only [U, tset_eq, wW, reduceCtorEq, Nat.reduceEqDiff, t3]
                    · simp only [U, tset_eq, wW, reduceCtorEq, Nat.reduceEqDiff, t9]
                    · simp only [U, tset_eq, wW, reduceCtorEq, Nat.reduceEqDiff]; rfl
                    · simp only [U, tset_eq, wW, reduceCtorEq, Nat.reduceEqDiff]; rfl
                · simp only [U, tset_eq, wW, reduceCtorEq, Nat.reduceEqDiff, t3]
                · simp only [U, tset_eq, wW, reduceCtorEq, Nat.reduceEqDiff, t9]
                · simp only [U, tset_eq, wW, reduceCtorEq, Nat.reduceEqDiff, t10]
                · simp only [U, tset_eq, wW, reduceCtorEq, Nat.reduceEqDiff]; rfl
            · simp only [U, tset_eq, wW, reduceCtorEq, Nat.reduceEqDiff]
            · simp only [U, tset_eq, wW, reduceCtorEq, Nat.reduceEqDiff]
            · simp only [U, tset_eq, wW, reduceCtorEq, Nat.reduceEqDiff]
            · simp only [U, tset_eq, wW, reduceCtorEq, Nat.reduceEqDiff]
            · simp only [U, tset_eq, wW, reduceCtorEq, Nat.reduceEqDiff]
            · simp only [U, tset_eq, wW, reduceCtorEq, Nat.reduceEqDiff]; rfl
          · rw [if_pos (by simpa using c5)]
            exact no fun h => c5 h.2.2.2.2
        · rw [if_pos (by simpa using c4)]
          exact no fun h => c4 h.2.2.2.1
      · rw [if_pos (by simpa using c3)]
        exact no fun h => c3 h.2.2.1
    · rw [if_pos (by simpa using c2)]
      exact no fun h => c2 h.2.1
  · rw [if_pos (by simpa using c1)]
    exact no fun h => c1 h.1
end
end Go.VE
