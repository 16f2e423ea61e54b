/-
  What the functions compute.
-/
import Derived.Test.YteamclmopokioaaDoorFn2
set_option linter.unusedSimpArgs false
set_option linter.unusedVariables false
/- The calls that are known: the examples of the chapter. -/
namespace Go.VE
open Go Go.Proofs
theorem wW : type_of% (And.intro @pr_wop <| And.intro @pr_call <| And.intro @pr_wcall <| And.intro @pr_wdefer <| And.intro @pr_defers <| And.intro @pr_loop <| And.intro @pr_range <| And.intro @pr_fin <| And.intro @pr_hold <| And.intro @xdefers_eq <| And.intro @xcallv_fn <| And.intro @wopt_some <| And.intro @wopt_none <| And.intro @wopt_map <| And.intro @wopt_bind <| And.intro @wopt_ite <| And.intro @wdec_true <| And.intro @wdec_false <| And.intro @wdec_bool <| And.intro @wop_fieldAddr <| And.intro @wop_field <| And.intro @wop_index_agg <| And.intro @wop_build <| And.intro @wop_nilCheck <| And.intro @wop_int <| And.intro @wop_not <| And.intro @wop_extract <| And.intro (fun {P : Program} => @int_add P _ keq_i64) <| And.intro (fun {P : Program} => @int_sub P _ keq_i64) <| And.intro (fun {P : Program} => @int_mul P _ keq_i64) <| And.intro (fun {P : Program} => @int_add P _ keq_u64) <| And.intro (fun {P : Program} => @int_sub P _ keq_u64) <| And.intro (fun {P : Program} => @int_mul P _ keq_u64) <| And.intro (fun {P : Program} => @int_eql P _ keq_i64) <| And.intro (fun {P : Program} => @int_eql P _ keq_u64) <| And.intro (fun {P : Program} => @int_eql P _ keq_u8) <| And.intro (fun {P : Program} => @int_eql P _ keq_u32) <| And.intro (fun {P : Program} => @int_neq P _ keq_i64) <| And.intro (fun {P : Program} => @int_neq P _ keq_u64) <| And.intro (fun {P : Program} => @int_neq P _ keq_u8) <| And.intro (fun {P : Program} => @int_neq P _ keq_u32) <| And.intro (fun {P : Program} => @int_lss P _ keq_i64) <| And.intro (fun {P : Program} => @int_lss P _ keq_u64) <| And.intro (fun {P : Program} => @int_lss P _ keq_u8) <| And.intro (fun {P : Program} => @int_lss P _ keq_u32) <| And.intro (fun {P : Program} => @int_leq P _ keq_i64) <| And.intro (fun {P : Program} => @int_leq P _ keq_u64) <| And.intro (fun {P : Program} => @int_leq P _ keq_u8) <| And.intro (fun {P : Program} => @int_leq P _ keq_u32) <| And.intro (fun {P : Program} => @int_gtr P _ keq_i64) <| And.intro (fun {P : Program} => @int_gtr P _ keq_u64) <| And.intro (fun {P : Program} => @int_gtr P _ keq_u8) <| And.intro (fun {P : Program} => @int_gtr P _ keq_u32) <| And.intro (fun {P : Program} => @int_geq P _ keq_i64) <| And.intro (fun {P : Program} => @int_geq P _ keq_u64) <| And.intro (fun {P : Program} => @int_geq P _ keq_u8) <| And.intro (fun {P : Program} => @int_geq P _ keq_u32) <| And.intro (fun {P : Program} => @int_rem P _ keq_i64) <| And.intro (fun {P : Program} => @int_rem P _ keq_u64) <| And.intro (fun {P : Program} => @int_rem P _ keq_u8) <| And.intro (fun {P : Program} => @int_quo P _ keq_u64) <| And.intro (fun {P : Program} => @int_quo P _ keq_i64) <| And.intro @n_new <| And.intro @lo_new <| And.intro @n_ent <| And.intro @lo_ent <| And.intro @at_ent <| And.intro @thenW_normal <| And.intro @thenW_ret <| And.intro @thenW_exit <| And.intro @outs_ret <| And.intro @outs_exit <| And.intro @kOf_cons <| And.intro @wdefers_nil <| And.intro @Option.bind_some.{0,0} <| And.intro @Option.map_some.{0,0} <| And.intro @decide_eq_true_eq <| And.intro @Bool.not_eq_true' <| And.intro @decide_eq_false_iff_not <| And.intro @Bool.not_true <| And.intro @Bool.not_false <| And.intro @ne_eq.{1} <| And.intro @if_true.{1} <| And.intro @if_false.{1} <| And.intro @eq_self.{1} <| And.intro @Nat.zero_add <| And.intro @Nat.add_zero <| @not_false_eq_true) := And.intro @pr_wop <| And.intro @pr_call <| And.intro @pr_wcall <| And.intro @pr_wdefer <| And.intro @pr_defers <| And.intro @pr_loop <| And.intro @pr_range <| And.intro @pr_fin <| And.intro @pr_hold <| And.intro @xdefers_eq <| And.intro @xcallv_fn <| And.intro @wopt_some <| And.intro @wopt_none <| And.intro @wopt_map <| And.intro @wopt_bind <| And.intro @wopt_ite <| And.intro @wdec_true <| And.intro @wdec_false <| And.intro @wdec_bool <| And.intro @wop_fieldAddr <| And.intro @wop_field <| And.intro @wop_index_agg <| And.intro @wop_build <| And.intro @wop_nilCheck <| And.intro @wop_int <| And.intro @wop_not <| And.intro @wop_extract <| And.intro (fun {P : Program} => @int_add P _ keq_i64) <| And.intro (fun {P : Program} => @int_sub P _ keq_i64) <| And.intro (fun {P : Program} => @int_mul P _ keq_i64) <| And.intro (fun {P : Program} => @int_add P _ keq_u64) <| And.intro (fun {P : Program} => @int_sub P _ keq_u64) <| And.intro (fun {P : Program} => @int_mul P _ keq_u64) <| And.intro (fun {P : Program} => @int_eql P _ keq_i64) <| And.intro (fun {P : Program} => @int_eql P _ keq_u64) <| And.intro (fun {P : Program} => @int_eql P _ keq_u8) <| And.intro (fun {P : Program} => @int_eql P _ keq_u32) <| And.intro (fun {P : Program} => @int_neq P _ keq_i64) <| And.intro (fun {P : Program} => @int_neq P _ keq_u64) <| And.intro (fun {P : Program} => @int_neq P _ keq_u8) <| And.intro (fun {P : Program} => @int_neq P _ keq_u32) <| And.intro (fun {P : Program} => @int_lss P _ keq_i64) <| And.intro (fun {P : Program} => @int_lss P _ keq_u64) <| And.intro (fun {P : Program} => @int_lss P _ keq_u8) <| And.intro (fun {P : Program} => @int_lss P _ keq_u32) <| And.intro (fun {P : Program} => @int_leq P _ keq_i64) <| And.intro (fun {P : Program} => @int_leq P _ keq_u64) <| And.intro (fun {P : Program} => @int_leq P _ keq_u8) <| And.intro (fun {P : Program} => @int_leq P _ keq_u32) <| And.intro (fun {P : Program} => @int_gtr P _ keq_i64) <| And.intro (fun {P : Program} => @int_gtr P _ keq_u64) <| And.intro (fun {P : Program} => @int_gtr P _ keq_u8) <| And.intro (fun {P : Program} => @int_gtr P _ keq_u32) <| And.intro (fun {P : Program} => @int_geq P _ keq_i64) <| And.intro (fun {P : Program} => @int_geq P _ keq_u64) <| And.intro (fun {P : Program} => @int_geq P _ keq_u8) <| And.intro (fun {P : Program} => @int_geq P _ keq_u32) <| And.intro (fun {P : Program} => @int_rem P _ keq_i64) <| And.intro (fun {P : Program} => @int_rem P _ keq_u64) <| And.intro (fun {P : Program} => @int_rem P _ keq_u8) <| And.intro (fun {P : Program} => @int_quo P _ keq_u64) <| And.intro (fun {P : Program} => @int_quo P _ keq_i64) <| And.intro @n_new <| And.intro @lo_new <| And.intro @n_ent <| And.intro @lo_ent <| And.intro @at_ent <| And.intro @thenW_normal <| And.intro @thenW_ret <| And.intro @thenW_exit <| And.intro @outs_ret <| And.intro @outs_exit <| And.intro @kOf_cons <| And.intro @wdefers_nil <| And.intro @Option.bind_some.{0,0} <| And.intro @Option.map_some.{0,0} <| And.intro @decide_eq_true_eq <| And.intro @Bool.not_eq_true' <| And.intro @decide_eq_false_iff_not <| And.intro @Bool.not_true <| And.intro @Bool.not_false <| And.intro @ne_eq.{1} <| And.intro @if_true.{1} <| And.intro @if_false.{1} <| And.intro @eq_self.{1} <| And.intro @Nat.zero_add <| And.intro @Nat.add_zero <| @not_false_eq_true
noncomputable instance known : Memo := memoOf [(15, [], .bool true)]
end Go.VE
/- The field's reference and the field: what their functions do. -/
namespace Go.VE
open Go Go.Proofs
set_option maxRecDepth 20000
def fP (f : Int) : Int := if f = 0 then 97 else if f = 1 then 257 else if f = 2 then 12289 else if f = 3 then 998244353 else 0
def fV (f : Int) : Bool := decide (0 ≤ f) && decide (f ≤ 3)
def fExp (f : Int) : Int := if f = 0 ∨ f = 2 then 5 else if f = 1 ∨ f = 3 then 3 else 0
def fGen (f : Int) : Int := if f = 0 then 5 else if f = 1 ∨ f = 3 then 3 else if f = 2 then 11 else 0
def fAdd (f a b : Int) : Int := if fV f then (a + b) % fP f else 0
def fSub (f a b : Int) : Int := if fV f then (a - b) % fP f else 0
def fMul (f a b : Int) : Int := if fV f then a * b % fP f else 0
theorem fV_cases {f : Int} (h : fV f = true) : f = 0 ∨ f = 1 ∨ f = 2 ∨ f = 3 := by
  simp only [fV, Bool.and_eq_true, decide_eq_true_eq] at h
  omega
theorem fP_pos {f : Int} (h : fV f = true) : 0 < fP f := by
  rcases fV_cases h with rfl | rfl | rfl | rfl <;> decide
theorem fP_lt (f : Int) : fP f < 2 ^ 30 := by
  unfold fP
  repeat' split
  all_goals omega
theorem fP_zero {f : Int} (h : fV f = false) : fP f = 0 := by
  unfold fP
  have : f ≠ 0 ∧ f ≠ 1 ∧ f ≠ 2 ∧ f ≠ 3 := by
    refine ⟨?_, ?_, ?_, ?_⟩ <;> (rintro rfl; revert h; decide)
  simp [this.1, this.2.1, this.2.2.1, this.2.2.2]
theorem tmod_nonneg {a b : Int} (h : 0 ≤ a) : a.tmod b = a % b := Int.tmod_eq_emod_of_nonneg h
theorem mod_bounds {a p : Int} (hp : 0 < p) : 0 ≤ a % p ∧ a % p < p := ⟨Int.emod_nonneg _ (by omega), Int.emod_lt_of_pos _ hp⟩
section
variable {ro : Nat} {s : St} {K : Value → St → Prop}
theorem wrP (f : Int) : CallWP P ro 14 [.int .i64 f] s K = K (.int .u64 (fP f)) s := by
  refine callEq (call_wp b14 rfl ?_) K
  rw [n14]
  unfold v14
  unfold fP
  simp only [wW, reduceCtorEq, Nat.reduceEqDiff]
  repeat' split
  all_goals (rw [wfin_flat (by simp only [lo_ent, Nat.le_refl]) rfl]; simp_all)
theorem wrValid (f : Int) : CallWP P ro 16 [.int .i64 f] s K = K (.bool (fV f)) s := by
  refine callEq (call_wp b16 rfl ?_) K
  rw [n16]
  unfold v16
  unfold fV
  simp only [wW, reduceCtorEq, Nat.reduceEqDiff]
  repeat' split
  all_goals (rw [wfin_flat (by simp only [lo_ent, Nat.le_refl]) rfl]; simp_all; try omega)
theorem wrExp (f : Int) : CallWP P ro 100 [.int .i64 f] s K = K (.int .i64 (fExp f)) s := by
  refine callEq (call_wp b100 rfl ?_) K
  rw [n100]
  unfold v100
  unfold fExp
  simp only [wW, reduceCtorEq, Nat.reduceEqDiff]
  repeat' split
  all_goals (rw [wfin_flat (by simp only [lo_ent, Nat.le_refl]) rfl]; simp_all)
theorem wrGen (f : Int) : CallWP P ro 103 [.int .i64 f] s K = K (.int .u64 (fGen f)) s := by
  refine callEq (call_wp b103 rfl ?_) K
  rw [n103]
  unfold v103
  unfold fGen
  simp only [wW, reduceCtorEq, Nat.reduceEqDiff]
  repeat' split
  all_goals (rw [wfin_flat (by simp only [lo_ent, Nat.le_refl]) rfl]; simp_all)
theorem wrAdd (f : Int) {a b : Int} (ha : 0 ≤ a) (hb : 0 ≤ b) : CallWP P ro 66 [.int .i64 f, .int .u64 a, .int .u64 b] s K = K (.int .u64 (fAdd f a b)) s := by
  refine callEq (call_wp b66 rfl ?_) K
  rw [n66]
  unfold v66
  simp only [wW, reduceCtorEq, Nat.reduceEqDiff, wrP, wrValid]
  by_cases hv : fV f = true
  · have hp := fP_pos hv
    have hl := fP_lt f
    have hne : fP f ≠ 0 := by omega
    have h1 := mod_bounds (a := a) hp
    have h2 := mod_bounds (a := b) hp
    simp only [hv, wW, reduceCtorEq, Nat.reduceEqDiff, hne, not_false_eq_true, tmod_nonneg ha, tmod_nonneg hb, Bool.false_eq_true]
    rw [wrap_u64 (by omega) (by omega), tmod_nonneg (by omega), wfin_flat (by simp only [lo_ent, Nat.le_refl]) rfl]
    simp only [fAdd, hv, if_true, and_true, Int.emod_add_emod, Int.add_emod_emod]
  · have hv : fV f = false := by simpa using hv
    simp only [hv, wW, reduceCtorEq, Nat.reduceEqDiff, wfin_flat (show s.n ≤ (ent s).lo from Nat.le_refl _) (flat_int _ _), fAdd, Bool.false_eq_true, and_self]
theorem wrSub (f : Int) {a b : Int} (ha : 0 ≤ a) (hb : 0 ≤ b) : CallWP P ro 86 [.int .i64 f, .int .u64 a, .int .u64 b] s K = K (.int .u64 (fSub f a b)) s := by
  refine callEq (call_wp b86 rfl ?_) K
  rw [n86]
  unfold v86
  simp only [wW, reduceCtorEq, Nat.reduceEqDiff, wrP, wrValid]
  by_cases hv : fV f = true
  · have hp := fP_pos hv
    have hl := fP_lt f
    have hne : fP f ≠ 0 := by omega
    have h1 := mod_bounds (a := a) hp
    have h2 := mod_bounds (a := b) hp
    simp only [hv, wW, reduceCtorEq, Nat.reduceEqDiff, hne, not_false_eq_true, tmod_nonneg ha, tmod_nonneg hb, Bool.false_eq_true]
    rw [wrap_u64 (n := a % fP f + fP f) (by omega) (by omega), wrap_u64 (by omega) (by omega), tmod_nonneg (by omega), wfin_flat (by simp only [lo_ent, Nat.le_refl]) rfl]
    simp only [fSub, hv, if_true, and_true, Value.int.injEq, true_and]
    rw [show a % fP f + fP f - b % fP f = a % fP f - b % fP f + fP f by omega, Int.add_emod_right, Int.emod_sub_emod, Int.sub_emod_emod]
  · have hv : fV f = false := by simpa using hv
    simp only [hv, wW, reduceCtorEq, Nat.reduceEqDiff, wfin_flat (show s.n ≤ (ent s).lo from Nat.le_refl _) (flat_int _ _), fSub, Bool.false_eq_true, and_self]
theorem wrMul (f : Int) {a b : Int} (ha : 0 ≤ a) (hb : 0 ≤ b) : CallWP P ro 72 [.int .i64 f, .int .u64 a, .int .u64 b] s K = K (.int .u64 (fMul f a b)) s := by
  refine callEq (call_wp b72 rfl ?_) K
  rw [n72]
  unfold v72
  simp only [wW, reduceCtorEq, Nat.reduceEqDiff, wrP, wrValid]
  by_cases hv : fV f = true
  · have hp := fP_pos hv
    have hl := fP_lt f
    have hne : fP f ≠ 0 := by omega
    have h1 := mod_bounds (a := a) hp
    have h2 := mod_bounds (a := b) hp
    have h3 : 0 ≤ a % fP f * (b % fP f) := Int.mul_nonneg h1.1 h2.1
    have h4 : a % fP f * (b % fP f) ≤ 2 ^ 30 * 2 ^ 30 := Int.mul_le_mul (by omega) (by omega) h2.1 (by omega)
    simp only [hv, wW, reduceCtorEq, Nat.reduceEqDiff, hne, not_false_eq_true, tmod_nonneg ha, tmod_nonneg hb, Bool.false_eq_true]
    rw [wrap_u64 (by omega) (by omega), tmod_nonneg (by omega), wfin_flat (by simp only [lo_ent, Nat.le_refl]) rfl]
    simp only [fMul, hv, if_true, and_true, ← Int.mul_emod]
  · have hv : fV f = false := by simpa using hv
    simp only [hv, wW, reduceCtorEq, Nat.reduceEqDiff, wfin_flat (show s.n ≤ (ent s).lo from Nat.le_refl _) (flat_int _ _), fMul, Bool.false_eq_true, and_self]
end
end Go.VE
/- Powers, inverses; the field's package. -/
namespace Go.VE
open Go Go.Proofs
set_option maxRecDepth 20000
def fPow (f a n : Int) : Int := if fV f then a ^ n.toNat % fP f else 0
def fInv (f a : Int) : Int := fPow f a (fP f - 2)
def fDiv (f a b : Int) : Int := fMul f a (fInv f b)
def fNeg (f a : Int) : Int := fSub f 0 a
theorem fMul_bounds (f a b : Int) : 0 ≤ fMul f a b ∧ fMul f a b < 2 ^ 30 := by
  unfold fMul
  split
  · rename_i h
    have := mod_bounds (a := a * b) (fP_pos h)
    have := fP_lt f
    omega
  · omega
theorem fAdd_bounds (f a b : Int) : 0 ≤ fAdd f a b ∧ fAdd f a b < 2 ^ 30 := by
  unfold fAdd
  split
  · rename_i h
    have := mod_bounds (a := a + b) (fP_pos h)
    have := fP_lt f
    omega
  · omega
theorem fSub_bounds (f a b : Int) : 0 ≤ fSub f a b ∧ fSub f a b < 2 ^ 30 := by
  unfold fSub
  split
  · rename_i h
    have := mod_bounds (a := a - b) (fP_pos h)
    have := fP_lt f
    omega
  · omega
theorem fPow_bounds (f a n : Int) : 0 ≤ fPow f a n ∧ fPow f a n < 2 ^ 30 := by
  unfold fPow
  split
  · rename_i h
    have := mod_bounds (a := a ^ n.toNat) (fP_pos h)
    have := fP_lt f
    omega
  · omega
section
variable {ro : Nat}
theorem wrNeg (f : Int) {a : Int} (ha : 0 ≤ a) {s : St} {K : Value → St → Prop} : CallWP P ro 48 [.int .i64 f, .int .u64 a] s K = K (.int .u64 (fNeg f a)) s := by
  refine callEq (call_wp b48 rfl ?_) K
  rw [n48]
  unfold v48
  simp only [wW, reduceCtorEq, Nat.reduceEqDiff, wrSub f (Int.le_refl 0) ha, wfin_flat (show s.n ≤ (ent s).lo from Nat.le_refl _) (flat_int _ _), fNeg, and_self]
theorem pow_half {a p : Int} (n : Nat) : (a ^ n % p) * (a ^ n % p) % p = a ^ (2 * n) % p := by
  rw [← Int.mul_emod, show 2 * n = n + n by omega, Int.pow_add]
theorem pow_half1 {a p : Int} (n : Nat) : (a ^ (2 * n) % p) * a % p = a ^ (2 * n + 1) % p := by
  rw [Int.pow_succ, Int.mul_emod (a ^ (2 * n) % p), Int.emod_emod, ← Int.mul_emod]
theorem wrPow (f : Int) {a : Int} (ha : 0 ≤ a) : ∀ (k : Nat) {n : Int} (_ : 0 ≤ n) (_ : n < 2 ^ 64) (_ : n.toNat = k) {s : St} {K : Value → St → Prop}, CallWP P ro 33 [.int .i64 f, .int .u64 a, .int .u64 n] s K = K (.int .u64 (fPow f a n)) s := by
  intro k
  induction k using Nat.strongRecOn with
  | ind k ih =>
    intro n hn hlt hk s K
    refine callEq (call_wp b33 rfl ?_) K
    rw [n33]
    unfold v33
    simp only [wW, reduceCtorEq, Nat.reduceEqDiff, wrValid]
    by_cases hv : fV f = true
    · simp only [hv, wW, reduceCtorEq, Nat.reduceEqDiff]
      have hp := fP_pos hv
      have h1p : 1 < fP f := by rcases fV_cases hv with rfl | rfl | rfl | rfl <;> decide
      by_cases h0 : n = 0
      · subst h0
        simp only [wW, reduceCtorEq, Nat.reduceEqDiff, wfin_flat (show s.n ≤ (ent s).lo from Nat.le_refl _) (flat_int _ _), and_true, fPow, hv]
        simp only [Int.toNat_zero, Int.pow_zero, Value.int.injEq, true_and]
        exact (Int.emod_eq_of_lt (by omega) h1p).symm
      · have hq : n.tdiv 2 = n / 2 := Int.tdiv_eq_ediv_of_nonneg hn
        have hb := fPow_bounds f a (n / 2)
        simp only [h0, if_false, wW, reduceCtorEq, Nat.reduceEqDiff, int_quo keq_u64 _ _ (show (2 : Int) ≠ 0 by decide), int_rem keq_u64 _ _ (show (2 : Int) ≠ 0 by decide), hq, tmod_nonneg hn]
        rw [wrap_u64 (by omega) (by omega), ih (n / 2).toNat (by omega) (by omega) (by omega) rfl]
        simp only [wrMul f hb.1 hb.1, wrMul f (fMul_bounds f _ _).1 ha, wfin_flat (show s.n ≤ (ent s).lo from Nat.le_refl _) (flat_int _ _), and_true, Value.int.injEq, true_and]
        split
        · rename_i h1
          simp only [fMul, fPow, hv, if_true]
          rw [pow_half, pow_half1]
          congr 2
          omega
        · rename_i h1
          simp only [fMul, fPow, hv, if_true]
          rw [pow_half]
          congr 2
          omega
    · have hv : fV f = false := by simpa using hv
      simp only [hv, wW, reduceCtorEq, Nat.reduceEqDiff, wfin_flat (show s.n ≤ (ent s).lo from Nat.le_refl _) (flat_int _ _), fPow, Bool.false_eq_true, and_self]
theorem wrInv (f : Int) {a : Int} (ha : 0 ≤ a) {s : St} {K : Value → St → Prop} : CallWP P ro 87 [.int .i64 f, .int .u64 a] s K = K (.int .u64 (fInv f a)) s := by
  refine callEq (call_wp b87 rfl ?_) K
  rw [n87]
  unfold v87
  simp only [wW, reduceCtorEq, Nat.reduceEqDiff, wrValid]
  by_cases hv : fV f = true
  · have h1p : 2 < fP f := by rcases fV_cases hv with rfl | rfl | rfl | rfl <;> decide
    have hl := fP_lt f
    simp only [hv, wW, reduceCtorEq, Nat.reduceEqDiff, wrP]
    rw [wrap_u64 (by omega) (by omega), wrPow f ha _ (by omega) (by omega) rfl]
    simp only [wfin_flat (show s.n ≤ (ent s).lo from Nat.le_refl _) (flat_int _ _), and_true, fInv]
  · have hv : fV f = false := by simpa using hv
    simp only [hv, wW, reduceCtorEq, Nat.reduceEqDiff, wfin_flat (show s.n ≤ (ent s).lo from Nat.le_refl _) (flat_int _ _), fInv, fPow, Bool.false_eq_true, and_self]
theorem wrDiv (f : Int) {a b : Int} (ha : 0 ≤ a) (hb : 0 ≤ b) {s : St} {K : Value → St → Prop} : CallWP P ro 49 [.int .i64 f, .int .u64 a, .int .u64 b] s K = K (.int .u64 (fDiv f a b)) s := by
  refine callEq (call_wp b49 rfl ?_) K
  rw [n49]
  unfold v49
  simp only [wW, reduceCtorEq, Nat.reduceEqDiff, wrInv f hb, wrMul f ha (show 0 ≤ fInv f b from (fPow_bounds f b _).1), wfin_flat (show s.n ≤ (ent s).lo from Nat.le_refl _) (flat_int _ _), fDiv, and_self]
def fieldCells (x0 x1 x2 x3 : Option Addr) (n0 n1 n2 n3 c0 c1 c2 c3 : Nat) : List Value :=
  [.int .u64 97, .int .u64 5, .int .i64 5, .int .i64 5, .slice x0 n0 c0, .int .u64 257, .int .u64 3, .int .i64 8, .int .i64 3, .slice x1 n1 c1,
   .int .u64 12289, .int .u64 11, .int .i64 12, .int .i64 5, .slice x2 n2 c2, .int .u64 998244353, .int .u64 3, .int .i64 23, .int .i64 3, .slice x3 n3 c3]
def FieldsAt (s : St) : Prop := ∃ x0 x1 x2 x3 n0 n1 n2 n3 c0 c1 c2 c3 t op, s.at 0 = some (.cells (fieldCells x0 x1 x2 x3 n0 n1 n2 n3 c0 c1 c2 c3) t op)
theorem FieldsAt.lt {s : St} (h : FieldsAt s) : 0 < s.n := by
  obtain ⟨_, _, _, _, _, _, _, _, _, _, _, _, _, _, h⟩ := h
  exact St.at_lt h
theorem FieldsAt.grew {s s' : St} (h : FieldsAt s) (hg : Grew s s') : FieldsAt s' := by
  obtain ⟨x0, x1, x2, x3, n0, n1, n2, n3, c0, c1, c2, c3, t, op, h1⟩ := h
  exact ⟨x0, x1, x2, x3, n0, n1, n2, n3, c0, c1, c2, c3, t, op, by rw [hg.same 0 (St.at_lt h1)]; exact h1⟩
def fTwo (f : Int) : Int := if f = 0 then 5 else if f = 1 then 8 else if f = 2 then 12 else if f = 3 then 23 else 0
theorem wfValid (f : Int) {s : St} {K : Value → St → Prop} : CallWP P ro 37 [.int .i64 f] s K = K (.bool (fV f)) s := by
  refine callEq (call_wp b37 rfl ?_) K
  rw [n37]
  unfold v37
  unfold fV
  simp only [wW, reduceCtorEq, Nat.reduceEqDiff]
  repeat' split
  all_goals (rw [wfin_flat (by simp only [lo_ent, Nat.le_refl]) rfl]; simp_all; try omega)
theorem wfOf (f : Int) {s : St} {K : Value → St → Prop} (hw : Wf s) (hro : ro ≤ s.n) (hG : FieldsAt s) (h : ∀ x n c s', Grew s s' → K (.agg (.mk [.int .u64 (fP f), .int .u64 (fGen f), .int .i64 (fTwo f), .int .i64 (fExp f), .slice x n c])) s') : CallWP P ro 95 [.int .i64 f] s K := by
  refine call_wp b95 rfl ?_
  rw [n95]
  unfold v95
  simp only [pr_wop, pr_call, pr_fin]
  refine alloc_rule ty_140 hw.ent fun A s1 m1 => ?_
  have hA : s.n ≤ A := by rw [m1.eq]; exact Nat.le_refl _
  have key : ∀ (l : List Value), l.length = 5 → l.all (·.oneCell') = true → (∀ s', Grew s s' → K (.agg (.mk l)) s') →
      wop P ro (.store 140 (.const (.pointer (some ⟨A, 0, none⟩))) (.const (.agg (.mk l)))) 0 s1 fun _ s2 =>
        wop P ro (.load 140 (.const (.pointer (some ⟨A, 0, none⟩)))) 140 s2 fun v _ => wfin s K v s2 := fun l hl h1 hK => by
    refine storeAll_rule isz_140 m1.here hl (by decide) m1.wf (by omega) rfl h1 fun s2 p2 => ?_
    refine load_rule (load_all ap_140 p2.here hl) ?_
    exact wfin_any hw (p2.grew _ hw.ent m1.grew hA) hK
  rw [wfValid]
  simp only [wop_not, wdec_bool]
  by_cases hv : fV f = true
  · rw [hv, if_neg (by decide)]
    obtain ⟨x0, x1, x2, x3, n0, n1, n2, n3, c0, c1, c2, c3, t, op, h0⟩ := hG
    have h0' : s1.at 0 = _ := (m1.grew.same 0 (St.at_lt h0)).trans h0
    rw [wop_indexAddr, ixArr un_149 isz_140]
    rcases fV_cases hv with rfl | rfl | rfl | rfl
    · refine load_rule (load_part (l := [.int .u64 97, .int .u64 5, .int .i64 5, .int .i64 5, .slice x0 n0 c0]) ap_140 h0' rfl) ?_
      exact key _ rfl rfl fun s' hg => h x0 n0 c0 s' hg
    · refine load_rule (load_part (l := [.int .u64 257, .int .u64 3, .int .i64 8, .int .i64 3, .slice x1 n1 c1]) ap_140 h0' rfl) ?_
      exact key _ rfl rfl fun s' hg => h x1 n1 c1 s' hg
    · refine load_rule (load_part (l := [.int .u64 12289, .int .u64 11, .int .i64 12, .int .i64 5, .slice x2 n2 c2]) ap_140 h0' rfl) ?_
      exact key _ rfl rfl fun s' hg => h x2 n2 c2 s' hg
    · refine load_rule (load_part (l := [.int .u64 998244353, .int .u64 3, .int .i64 23, .int .i64 3, .slice x3 n3 c3]) ap_140 h0' rfl) ?_
      exact key _ rfl rfl fun s' hg => h x3 n3 c3 s' hg
  · have hv : fV f = false := by simpa using hv
    have hf : fP f = 0 ∧ fGen f = 0 ∧ fTwo f = 0 ∧ fExp f = 0 := by
      have : f ≠ 0 ∧ f ≠ 1 ∧ f ≠ 2 ∧ f ≠ 3 := by
        refine ⟨?_, ?_, ?_, ?_⟩ <;> (rintro rfl; revert hv; decide)
      simp [fP, fGen, fTwo, fExp, this.1, this.2.1, this.2.2.1, this.2.2.2]
    rw [hv, if_pos (by decide), wop_build, show abuild P 140 (partVals .e []) = some (.agg (.mk [.int .u64 0, .int .u64 0, .int .i64 0, .int .i64 0, .slice none 0 0])) by kernel_rfl]
    refine key _ rfl rfl fun s' hg => ?_
    have := h none 0 0 s' hg
    rw [hf.1, hf.2.1, hf.2.2.1, hf.2.2.2] at this
    exact this
theorem wfP (f : Int) {s : St} {K : Value → St → Prop} (hw : Wf s) (hro : ro ≤ s.n) (hG : FieldsAt s) : CallWP P ro 80 [.int .i64 f] s K = K (.int .u64 (fP f)) s := by
  refine callEq (call_wp b80 rfl ?_) K
  rw [n80]
  unfold v80
  simp only [wW, reduceCtorEq, Nat.reduceEqDiff]
  refine wfOf f hw.ent hro hG fun x n c s' hg => ?_
  rw [fd_140_0, ap_24]
  simp only [wopt_some, List.getElem?_cons_zero]
  rw [wfin_flat (by rw [hg.lo]; exact Nat.le_refl _) rfl]
  exact ⟨rfl, rfl⟩
theorem wfAdd (f : Int) {a b : Int} (ha : 0 ≤ a) (hb : 0 ≤ b) {s : St} {K : Value → St → Prop} (hw : Wf s) (hro : ro ≤ s.n) (hG : FieldsAt s) : CallWP P ro 64 [.int .i64 f, .int .u64 a, .int .u64 b] s K = K (.int .u64 (fAdd f a b)) s := by
  refine callEq (call_wp b64 rfl ?_) K
  rw [n64]
  unfold v64
  simp only [wW, reduceCtorEq, Nat.reduceEqDiff]
  rw [wfP f hw.ent hro hG]
  simp only [wW, reduceCtorEq, Nat.reduceEqDiff]
  by_cases hv : fV f = true
  · have hp := fP_pos hv
    have hl := fP_lt f
    have hne : fP f ≠ 0 := by omega
    have h1 := mod_bounds (a := a) hp
    have h2 := mod_bounds (a := b) hp
    simp only [hne, wW, reduceCtorEq, Nat.reduceEqDiff, tmod_nonneg ha, tmod_nonneg hb, fAdd, hv]
    rw [wrap_u64 (n := a % fP f + b % fP f) (by omega) (by omega)]
    have e : (a + b) % fP f = (a % fP f + b % fP f) % fP f := by rw [Int.emod_add_emod, Int.add_emod_emod]
    split
    · rename_i h3
      rw [wrap_u64 (n := a % fP f + b % fP f - fP f) (by omega) (by omega), wfin_flat (Nat.le_refl _) rfl, e]
      refine ⟨?_, rfl⟩
      congr 1
      have e2 := Int.sub_emod_right (a % fP f + b % fP f) (fP f)
      rw [← e2]
      exact (Int.emod_eq_of_lt (by omega) (by omega)).symm
    · rename_i h3
      rw [wfin_flat (Nat.le_refl _) rfl, e]
      refine ⟨?_, rfl⟩
      congr 1
      exact (Int.emod_eq_of_lt (by omega) (by omega)).symm
  · have hv : fV f = false := by simpa using hv
    simp only [fP_zero hv, wW, reduceCtorEq, Nat.reduceEqDiff, fAdd, hv, Bool.false_eq_true]
    rw [wfin_flat (Nat.le_refl _) rfl]
    exact ⟨rfl, rfl⟩
theorem wfNeg (f : Int) {a : Int} (ha : 0 ≤ a) {s : St} {K : Value → St → Prop} (hw : Wf s) (hro : ro ≤ s.n) (hG : FieldsAt s) : CallWP P ro 93 [.int .i64 f, .int .u64 a] s K = K (.int .u64 (fNeg f a)) s := by
  refine callEq (call_wp b93 rfl ?_) K
  rw [n93]
  unfold v93
  simp only [wW, reduceCtorEq, Nat.reduceEqDiff]
  rw [wfP f hw.ent hro hG]
  simp only [wW, reduceCtorEq, Nat.reduceEqDiff]
  by_cases hv : fV f = true
  · have hp := fP_pos hv
    have hl := fP_lt f
    have hne : fP f ≠ 0 := by omega
    have h1 := mod_bounds (a := a) hp
    simp only [hne, wW, reduceCtorEq, Nat.reduceEqDiff, tmod_nonneg ha, fNeg, fSub, hv]
    split
    · rename_i h3
      rw [wfin_flat (Nat.le_refl _) rfl]
      refine ⟨?_, rfl⟩
      congr 1
      rw [Int.zero_sub]
      exact (Int.emod_eq_zero_of_dvd (Int.dvd_neg.2 (Int.dvd_of_emod_eq_zero h3))).symm
    · rename_i h3
      rw [wrap_u64 (by omega) (by omega), wfin_flat (Nat.le_refl _) rfl]
      refine ⟨?_, rfl⟩
      congr 1
      have h4 : a % fP f ≠ 0 := by simpa using h3
      have e2 : (0 - a) % fP f = (fP f - a % fP f) % fP f := by
        rw [← Int.sub_emod_emod 0 a, ← Int.add_emod_right (0 - a % fP f), show 0 - a % fP f + fP f = fP f - a % fP f by omega]
      rw [e2]
      exact (Int.emod_eq_of_lt (by omega) (by omega)).symm
  · have hv : fV f = false := by simpa using hv
    simp only [fP_zero hv, wW, reduceCtorEq, Nat.reduceEqDiff, fNeg, fSub, hv, Bool.false_eq_true]
    rw [wfin_flat (Nat.le_refl _) rfl]
    exact ⟨rfl, rfl⟩
theorem wfSub (f : Int) {a b : Int} (ha : 0 ≤ a) (hb : 0 ≤ b) {s : St} {K : Value → St → Prop} (hw : Wf s) (hro : ro ≤ s.n) (hG : FieldsAt s) : CallWP P ro 69 [.int .i64 f, .int .u64 a, .int .u64 b] s K = K (.int .u64 (fSub f a b)) s := by
  refine callEq (call_wp b69 rfl ?_) K
  rw [n69]
  unfold v69
  simp only [wW, reduceCtorEq, Nat.reduceEqDiff]
  rw [wfNeg f hb hw.ent hro hG, wfAdd f ha (show 0 ≤ fNeg f b from (fSub_bounds f 0 b).1) hw.ent hro hG, wfin_flat (Nat.le_refl _) rfl]
  refine ⟨?_, rfl⟩
  congr 1
  unfold fAdd fNeg fSub
  cases hv : fV f with
  | false => rfl
  | true =>
    simp only [if_true, Int.add_emod_emod]
    congr 1
    omega
theorem wfMul (f : Int) {a b : Int} (ha : 0 ≤ a) (hb : 0 ≤ b) {s : St} {K : Value → St → Prop} (hw : Wf s) (hro : ro ≤ s.n) (hG : FieldsAt s) : CallWP P ro 70 [.int .i64 f, .int .u64 a, .int .u64 b] s K = K (.int .u64 (fMul f a b)) s := by
  refine callEq (call_wp b70 rfl ?_) K
  rw [n70]
  unfold v70
  simp only [wW, reduceCtorEq, Nat.reduceEqDiff]
  rw [wfP f hw.ent hro hG]
  simp only [wW, reduceCtorEq, Nat.reduceEqDiff]
  by_cases hv : fV f = true
  · have hp := fP_pos hv
    have hl := fP_lt f
    have hne : fP f ≠ 0 := by omega
    have h1 := mod_bounds (a := a) hp
    have h2 := mod_bounds (a := b) hp
    have h3 : 0 ≤ a % fP f * (b % fP f) := Int.mul_nonneg h1.1 h2.1
    have h4 : a % fP f * (b % fP f) ≤ 2 ^ 30 * 2 ^ 30 := Int.mul_le_mul (by omega) (by omega) h2.1 (by omega)
    simp only [hne, wW, reduceCtorEq, Nat.reduceEqDiff, tmod_nonneg ha, tmod_nonneg hb, fMul, hv]
    rw [wrap_u64 (by omega) (by omega), tmod_nonneg (by omega), wfin_flat (Nat.le_refl _) rfl, ← Int.mul_emod]
    exact ⟨rfl, rfl⟩
  · have hv : fV f = false := by simpa using hv
    simp only [fP_zero hv, wW, reduceCtorEq, Nat.reduceEqDiff, fMul, hv, Bool.false_eq_true]
    rw [wfin_flat (Nat.le_refl _) rfl]
    exact ⟨rfl, rfl⟩
end
end Go.VE
/- Rows of gate programs, lists of numbers. -/
namespace Go.VE
open Go Go.Proofs
set_option maxRecDepth 20000
def Ints (s : St) (v : Value) (l : List Int) : Prop := Sl s v 1 l.length (l.map (.int .i64))
theorem take_succ_eq {α : Type} {l : List α} {i : Nat} {a : α} (h : l[i]? = some a) : l.take (i + 1) = l.take i ++ [a] := by
  rw [List.take_add_one, h]; rfl
def U64s (s : St) (v : Value) (l : List Int) : Prop := Sl s v 1 l.length (l.map (.int .u64))
structure Row where
  k : Int
  w0 : Int
  w1 : Int
  w2 : Int
  w3 : Int
  ql : Int
  qr : Int
  qm : Int
  qo : Int
  qc : Int
  rd : Int
def Row.cells (r : Row) : List Value := [.int .u8 r.k, .int .i64 r.w0, .int .i64 r.w1, .int .i64 r.w2, .int .i64 r.w3, .int .u64 r.ql, .int .u64 r.qr, .int .u64 r.qm, .int .u64 r.qo, .int .u64 r.qc, .int .i64 r.rd]
def rowCells (l : List Row) : List Value := l.flatMap Row.cells
theorem rowCells_len : ∀ (l : List Row), (rowCells l).length = l.length * 11
  | [] => rfl
  | r :: l => by
    have := rowCells_len l
    simp only [rowCells, List.flatMap_cons, List.length_append, List.length_cons] at this ⊢
    rw [this, Nat.add_mul, Nat.add_comm]; rfl
theorem rowCells_app (a b : List Row) : rowCells (a ++ b) = rowCells a ++ rowCells b := by simp [rowCells]
theorem rowCells_one (l : List Row) : (rowCells l).all (·.oneCell') = true := by
  rw [List.all_eq_true]
  intro v hv
  obtain ⟨r, _, hr⟩ := List.mem_flatMap.1 hv
  simp only [Row.cells, List.mem_cons, List.not_mem_nil, or_false] at hr
  rcases hr with rfl | rfl | rfl | rfl | rfl | rfl | rfl | rfl | rfl | rfl | rfl <;> rfl
abbrev ptr (B : Nat) : Value := .pointer (some ⟨B, 0, none⟩)
theorem drop_cons {α : Type} {l : List α} {i : Nat} (h : i < l.length) : l.drop i = l[i] :: l.drop (i + 1) := List.drop_eq_getElem_cons h
theorem xleave_U [Memo] {P : Program} {ro : Nat} {s0 : St} {rs : List ResultVar} {K : Value → St → Prop} {τ : Tau} {l : AL} {ds : List Deferred} {s : St} : xleave (prims P ro) s0 rs K .ret τ l ds s = xleave (prims P ro) s0 rs K .ret (U τ l) [] ds s := by
  simp only [xleave, xresL_eq, U]
theorem fin_flat {si s : St} {K : Value → St → Prop} {v : Value} (hf : flat' v = true) (hg : Grew (ent si) s) (h : K v si) : wfin si K v s := by
  rw [wfin_flat (by rw [hg.lo]; exact Nat.le_refl _) hf]; exact h
def Row.w (r : Row) : Nat → Int
  | 0 => r.w0
  | 1 => r.w1
  | 2 => r.w2
  | _ => r.w3
theorem rc0 (r : Row) : r.cells[0]? = some (.int .u8 r.k) := rfl
theorem rc1 (r : Row) : r.cells[1]? = some (.int .i64 r.w0) := rfl
theorem rc2 (r : Row) : r.cells[2]? = some (.int .i64 r.w1) := rfl
theorem rc3 (r : Row) : r.cells[3]? = some (.int .i64 r.w2) := rfl
theorem rc4 (r : Row) : r.cells[4]? = some (.int .i64 r.w3) := rfl
theorem rc5 (r : Row) : r.cells[5]? = some (.int .u64 r.ql) := rfl
theorem rc6 (r : Row) : r.cells[6]? = some (.int .u64 r.qr) := rfl
theorem rc7 (r : Row) : r.cells[7]? = some (.int .u64 r.qm) := rfl
theorem rc8 (r : Row) : r.cells[8]? = some (.int .u64 r.qo) := rfl
theorem rc9 (r : Row) : r.cells[9]? = some (.int .u64 r.qc) := rfl
theorem rc10 (r : Row) : r.cells[10]? = some (.int .i64 r.rd) := rfl
theorem rcw (r : Row) : ∀ {k : Nat}, k < 4 → r.cells[1 + k]? = some (.int .i64 (r.w k))
  | 0, _ => rfl
  | 1, _ => rfl
  | 2, _ => rfl
  | 3, _ => rfl
theorem rcAll (r : Row) : cut r.cells 0 11 = some r.cells := rfl
structure Gp where
  f : Int
  nv : Int
  pub : Int
  sec : Int
  rows : List Row
def Gp.cells (g : Gp) (u : Value) : List Value := [.int .i64 g.f, .int .i64 g.nv, .int .i64 g.pub, .int .i64 g.sec, u]
theorem gc0 (g : Gp) (u : Value) : (g.cells u)[0]? = some (.int .i64 g.f) := rfl
theorem gc1 (g : Gp) (u : Value) : (g.cells u)[1]? = some (.int .i64 g.nv) := rfl
theorem gc2 (g : Gp) (u : Value) : (g.cells u)[2]? = some (.int .i64 g.pub) := rfl
theorem gc3 (g : Gp) (u : Value) : (g.cells u)[3]? = some (.int .i64 g.sec) := rfl
theorem gc4 (g : Gp) (u : Value) : (g.cells u)[4]? = some u := rfl
theorem gcAll (g : Gp) (u : Value) : cut (g.cells u) 0 5 = some (g.cells u) := rfl
theorem gcVeq (g : Gp) {u : Value} (h : veq u u = true) : veq (.agg (g.cells u).toArray) (.agg (g.cells u).toArray) = true := by simp [veq, veqA, veqL, Gp.cells, h]
theorem rcVeq (r : Row) : veq (.agg r.cells.toArray) (.agg r.cells.toArray) = true := by simp [veq, veqA, veqL, Row.cells]
theorem slVeq {s : St} {v : Value} {sz n : Nat} {cs : List Value} (h : Sl s v sz n cs) : veq v v = true := by
  obtain ⟨a, c, rfl, _⟩ := h
  simp [veq]
def RowsS (s : St) (u : Value) (l : List Row) : Prop := Sl s u 11 l.length (rowCells l)
theorem rowCells_cut : ∀ (l : List Row) {i : Nat} {r : Row}, l[i]? = some r → cut (rowCells l) (i * 11) 11 = some r.cells
  | [], i, r, h => by simp at h
  | x :: l, 0, r, h => by
    simp only [List.getElem?_cons_zero, Option.some.injEq] at h
    subst h
    rw [cut_eq (by rw [rowCells_len]; simp only [List.length_cons]; omega)]
    rfl
  | x :: l, i + 1, r, h => by
    simp only [List.getElem?_cons_succ] at h
    have ih := rowCells_cut l h
    have hl : i < l.length := by
      have := List.getElem?_eq_some_iff.1 h
      exact this.1
    have e : rowCells (x :: l) = x.cells ++ rowCells l := rfl
    have hx : x.cells.length = 11 := rfl
    rw [cut_eq (by rw [rowCells_len]; omega)] at ih
    rw [cut_eq (by rw [rowCells_len]; simp only [List.length_cons]; omega), e, List.drop_append, List.drop_of_length_le (by omega), List.nil_append, show (i + 1) * 11 - x.cells.length = i * 11 by omega]
    exact ih
theorem rowCells_get (l : List Row) {i : Nat} {r : Row} (h : l[i]? = some r) {k : Nat} (hk : k < 11) : (rowCells l)[i * 11 + k]? = r.cells[k]? := by
  have hc := rowCells_cut l h
  have hl : i < l.length := (List.getElem?_eq_some_iff.1 h).1
  rw [cut_eq (by rw [rowCells_len]; omega)] at hc
  have := Option.some.inj hc
  rw [← this, List.getElem?_take, if_pos hk, List.getElem?_drop]
structure RowIn (s : St) (A o : Nat) (c : List Value) (r : Row) : Prop where
  blk : acells (s.at A) = some c
  at_ : ∀ k, k < 11 → c[o + k]? = r.cells[k]?
  all : cut c o 11 = some r.cells
theorem RowsS.ix {s : St} {u : Value} {l : List Row} (h : RowsS s u l) {i : Nat} {r : Row} (hr : l[i]? = some r) : ∃ A o c, aindexAddr P 32 u (.int .i64 (i : Int)) = some (.pointer (some ⟨A, o, none⟩)) ∧ RowIn s A o c r := by
  have hl : i < l.length := (List.getElem?_eq_some_iff.1 hr).1
  obtain ⟨A, o, h1, h2, h3⟩ := Sl.ix h (by decide) (show (0 : Int) ≤ i by omega) (show (i : Int) < l.length by omega)
  have h0 := h3 0 11 (by decide) (by decide)
  simp only [Nat.add_zero] at h0
  rw [Int.toNat_natCast, rowCells_cut l hr] at h0
  cases hc : acells (s.at A) with
  | none => rw [hc] at h0; cases h0
  | some c =>
    rw [hc] at h0
    refine ⟨A, o, c, h1 se_32 isz_94, hc, fun k hk => ?_, h0⟩
    have := h2 k hk
    rw [hc, Int.toNat_natCast, rowCells_get l hr hk] at this
    exact this
theorem RowIn.kind {s : St} {A o : Nat} {c : List Value} {r : Row} (h : RowIn s A o c r) : c[o]? = some (.int .u8 r.k) := h.at_ 0 (by decide)
theorem RowIn.wire {s : St} {A o : Nat} {c : List Value} {r : Row} (h : RowIn s A o c r) {k : Nat} (hk : k < 4) : c[o + 1 + k]? = some (.int .i64 (r.w k)) := by
  have := h.at_ (1 + k) (by omega)
  rw [rcw r hk] at this
  simpa only [Nat.add_assoc] using this
theorem wix (A o : Nat) {k : Nat} (hk : k < 4) : aindexAddr P 53 (.pointer (some ⟨A, o, none⟩)) (.int .i64 (k : Int)) = some (.pointer (some ⟨A, o + k, none⟩)) := by
  rw [ixArr un_53 isz_3]
  unfold aplace
  rw [if_pos (by omega), Int.toNat_natCast, Nat.mul_one]
theorem six (A o : Nat) {k : Nat} (hk : k < 4) : aindexAddr P 58 (.pointer (some ⟨A, o, none⟩)) (.int .i64 (k : Int)) = some (.pointer (some ⟨A, o + k, none⟩)) := by
  rw [ixArr un_58 isz_24]
  unfold aplace
  rw [if_pos (by omega), Int.toNat_natCast, Nat.mul_one]
theorem wix0 (A o : Nat) : aindexAddr P 53 (.pointer (some ⟨A, o, none⟩)) (.int .i64 0) = some (.pointer (some ⟨A, o, none⟩)) := by kernel_rfl
theorem wix1 (A o : Nat) : aindexAddr P 53 (.pointer (some ⟨A, o, none⟩)) (.int .i64 1) = some (.pointer (some ⟨A, o + 1, none⟩)) := by kernel_rfl
theorem wix2 (A o : Nat) : aindexAddr P 53 (.pointer (some ⟨A, o, none⟩)) (.int .i64 2) = some (.pointer (some ⟨A, o + 2, none⟩)) := by kernel_rfl
theorem Sl.at1 {s : St} {v : Value} {n : Nat} {cs : List Value} (h : Sl s v 1 n cs) {t e : TypeId} (hse : sliceElem P t = some e) (hs : isz P e = some 1) {i : Int} {x : Value} (h0 : 0 ≤ i) (hi : i < n) (hx : cs[i.toNat]? = some x) : ∃ A o c, aindexAddr P t v (.int .i64 i) = some (.pointer (some ⟨A, o, none⟩)) ∧ acells (s.at A) = some c ∧ c[o]? = some x := by
  obtain ⟨A, o, h1, h2, _⟩ := Sl.ix h (by decide) h0 hi
  have := h2 0 (by decide)
  rw [Nat.add_zero, Nat.mul_one, Nat.add_zero, hx] at this
  cases hc : acells (s.at A) with
  | none => rw [hc] at this; cases this
  | some c => rw [hc] at this; exact ⟨A, o, c, h1 hse hs, hc, this⟩
theorem Ints.at1 {s : St} {v : Value} {l : List Int} (h : Ints s v l) {i : Int} {x : Int} (h0 : 0 ≤ i) (hx : l[i.toNat]? = some x) : ∃ A o c, aindexAddr P 30 v (.int .i64 i) = some (.pointer (some ⟨A, o, none⟩)) ∧ acells (s.at A) = some c ∧ c[o]? = some (.int .i64 x) := by
  have hl : i.toNat < l.length := (List.getElem?_eq_some_iff.1 hx).1
  exact Sl.at1 h se_30 isz_3 h0 (by omega) (by rw [List.getElem?_map, hx]; rfl)
theorem U64s.at1 {s : St} {v : Value} {l : List Int} (h : U64s s v l) {i : Int} {x : Int} (h0 : 0 ≤ i) (hx : l[i.toNat]? = some x) : ∃ A o c, aindexAddr P 23 v (.int .i64 i) = some (.pointer (some ⟨A, o, none⟩)) ∧ acells (s.at A) = some c ∧ c[o]? = some (.int .u64 x) := by
  have hl : i.toNat < l.length := (List.getElem?_eq_some_iff.1 hx).1
  exact Sl.at1 h se_23 isz_24 h0 (by omega) (by rw [List.getElem?_map, hx]; rfl)
theorem Sl.sameAt {s s' : St} {v : Value} {sz n : Nat} {cs : List Value} (h : Sl s v sz n cs) (hs : ∀ A o sp n c, v = .slice (some ⟨A, o, sp⟩) n c → s'.at A = s.at A) : Sl s' v sz n cs := by
  obtain ⟨a, c, rfl, hl, hx, h⟩ := h
  refine ⟨a, c, rfl, hl, hx, fun hn => ?_⟩
  obtain ⟨A, o, m, cells, t, op, rfl, hm, hA, hc⟩ := h hn
  exact ⟨A, o, m, cells, t, op, rfl, hm, by rw [hs A o m n c rfl]; exact hA, hc⟩
def QOk (Q : Ex → XK) : Prop := ∃ Q' : Ex → WK, ∀ ex τ l ds s, Q ex τ l ds s = Q' ex (U τ l) ds s
theorem QOk.lift (Q : Ex → WK) : QOk (lift Q) := ⟨Q, fun _ _ _ _ _ => rfl⟩
theorem QOk.leave [Memo] {P : Program} {ro : Nat} {s0 : St} {rs : List ResultVar} {K : Value → St → Prop} : QOk (xleave (prims P ro) s0 rs K) := ⟨wleave P ro s0 rs K, fun ex τ l ds s => by
  cases ex with
  | exit id => rfl
  | _ => simp only [xleave, wleave, xresL_eq, xdefers_eq, pr_fin]⟩
theorem QOk.blk {Q : Ex → XK} (h : QOk Q) (id : Nat) : QOk (blkX id Q) := by
  obtain ⟨Q', h⟩ := h
  refine ⟨blkW id Q', fun ex τ l ds s => ?_⟩
  cases ex with
  | exit j =>
    simp only [blkX, blkW]
    cases Nat.beq j id
    · exact h _ _ _ _ _
    · exact h _ _ _ _ _
  | _ => exact h _ _ _ _ _
theorem QOk.sX [Memo] {P : Program} {ro : Nat} {rnd : Option Nat} {N : Nat} {cuts : List (List Nat)} {b : Code} {p : List Nat} {Q : Ex → XK} (h : QOk Q) : QOk (sX (prims P ro) rnd N cuts b p Q) := by
  obtain ⟨Q', h⟩ := h
  refine ⟨thenW (fun τ ds s => wp P ro N rnd b τ ds s Q') Q', fun ex τ l ds s => ?_⟩
  cases ex with
  | normal =>
    simp only [Go.VE.sX, thenX, thenW]
    cases cutAt cuts p with
    | true => exact xp_eq rnd N cuts b h
    | false => exact xp_eq rnd N cuts b h
  | _ => exact h _ _ _ _ _
theorem blkX_n (id : Nat) (Q : Ex → XK) : blkX id Q .normal = Q .normal := rfl
theorem sX_n [Memo] {P : Program} {ro : Nat} {rnd : Option Nat} {N : Nat} {cuts : List (List Nat)} {b : Code} {p : List Nat} {Q : Ex → XK} (h : QOk Q) {τ : Tau} {l : AL} {ds : List Deferred} {s : St} : sX (prims P ro) rnd N cuts b p Q .normal τ l ds s = xp (prims P ro) rnd N cuts b p (U τ l) [] ds s Q := by
  obtain ⟨Q', h⟩ := h
  simp only [Go.VE.sX, thenX]
  have e : xp (prims P ro) rnd N cuts b p τ l ds s Q = xp (prims P ro) rnd N cuts b p (U τ l) [] ds s Q := by
    rw [xp_eq rnd N cuts b h, xp_eq rnd N cuts b h]; rfl
  cases cutAt cuts p with
  | true => rfl
  | false => exact e
theorem wL : type_of% (And.intro @wop_load <| And.intro @wop_indexAddr <| And.intro @wix0 <| And.intro @wix1 <| And.intro @wix2 <| And.intro @rcAll <| And.intro @gcAll <| And.intro (fun {s : St} {A o : Nat} => @load1 P s _ A o ap_24) <| And.intro (fun {s : St} {A o : Nat} => @load1 P s _ A o ap_3) <| And.intro (fun {s : St} {A o : Nat} => @load1 P s _ A o ap_4) <| And.intro (fun {s : St} {A o : Nat} => @load1 P s _ A o ap_92) <| And.intro (fun {s : St} {A o : Nat} => @load1 P s _ A o ap_32) <| And.intro (fun {s : St} {A o : Nat} => @loadN P s _ A o _ ap_94) <| And.intro (fun {s : St} {A o : Nat} => @loadN P s _ A o _ ap_34) <| And.intro (fun {s : St} {A o : Nat} => @loadN P s _ A o _ ap_58) <| And.intro @fa_94_0 <| And.intro @fa_94_1 <| And.intro @fa_94_2 <| And.intro @fa_94_3 <| And.intro @fa_94_4 <| And.intro @fa_94_5 <| And.intro @fa_94_6 <| And.intro @fa_94_7 <| And.intro @fa_34_0 <| And.intro @fa_34_1 <| And.intro @fa_34_2 <| And.intro @fa_34_3 <| And.intro @fa_34_4 <| And.intro @rc0 <| And.intro @rc1 <| And.intro @rc2 <| And.intro @rc3 <| And.intro @rc4 <| And.intro @rc5 <| And.intro @rc6 <| And.intro @rc7 <| And.intro @rc8 <| And.intro @rc9 <| And.intro @rc10 <| And.intro @gc0 <| And.intro @gc1 <| And.intro @gc2 <| And.intro @gc3 <| @gc4) := And.intro @wop_load <| And.intro @wop_indexAddr <| And.intro @wix0 <| And.intro @wix1 <| And.intro @wix2 <| And.intro @rcAll <| And.intro @gcAll <| And.intro (fun {s : St} {A o : Nat} => @load1 P s _ A o ap_24) <| And.intro (fun {s : St} {A o : Nat} => @load1 P s _ A o ap_3) <| And.intro (fun {s : St} {A o : Nat} => @load1 P s _ A o ap_4) <| And.intro (fun {s : St} {A o : Nat} => @load1 P s _ A o ap_92) <| And.intro (fun {s : St} {A o : Nat} => @load1 P s _ A o ap_32) <| And.intro (fun {s : St} {A o : Nat} => @loadN P s _ A o _ ap_94) <| And.intro (fun {s : St} {A o : Nat} => @loadN P s _ A o _ ap_34) <| And.intro (fun {s : St} {A o : Nat} => @loadN P s _ A o _ ap_58) <| And.intro @fa_94_0 <| And.intro @fa_94_1 <| And.intro @fa_94_2 <| And.intro @fa_94_3 <| And.intro @fa_94_4 <| And.intro @fa_94_5 <| And.intro @fa_94_6 <| And.intro @fa_94_7 <| And.intro @fa_34_0 <| And.intro @fa_34_1 <| And.intro @fa_34_2 <| And.intro @fa_34_3 <| And.intro @fa_34_4 <| And.intro @rc0 <| And.intro @rc1 <| And.intro @rc2 <| And.intro @rc3 <| And.intro @rc4 <| And.intro @rc5 <| And.intro @rc6 <| And.intro @rc7 <| And.intro @rc8 <| And.intro @rc9 <| And.intro @rc10 <| And.intro @gc0 <| And.intro @gc1 <| And.intro @gc2 <| And.intro @gc3 <| @gc4
end Go.VE
/- Small functions of the law's package: lists. -/
namespace Go.VE
open Go Go.Proofs
set_option maxRecDepth 20000
section
variable {ro : Nat}
end
end Go.VE
/- What the methods of a nil or zero builder do. -/
namespace Go.VE
open Go Go.Proofs
set_option maxRecDepth 20000
def Dead (s : St) (b : Value) : Prop := b = .pointer none ∨ ∃ A c t op, b = .pointer (some ⟨A, 0, none⟩) ∧ s.at A = some (.cells c t op) ∧ c[0]? = some (.bool false)
theorem Dead.grew {s s' : St} {b : Value} (h : Dead s b) (hg : Grew s s') : Dead s' b := by
  rcases h with h | ⟨A, c, t, op, h1, h2, h3⟩
  · exact .inl h
  · exact .inr ⟨A, c, t, op, h1, by rw [hg.same A (St.at_lt h2)]; exact h2, h3⟩
theorem Dead.ent {s : St} {b : Value} (h : Dead s b) : Dead (ent s) b := h
theorem Dead.one {s : St} {b : Value} (h : Dead s b) : b.oneCell' = true ∧ veq b b = true ∧ b.cells.toList = [b] := by
  rcases h with rfl | ⟨A, c, t, op, rfl, _⟩
  · exact ⟨rfl, by simp [veq], rfl⟩
  · exact ⟨rfl, by simp [veq], rfl⟩
theorem ptr_some_nil [Memo] (ro : Nat) (a : Addr) (ty : TypeId) (s : St) (K : Value → St → Prop) : wop P ro (.binOp .eql 25 (.const (.pointer (some a))) (.const (.pointer none)) 25) ty s K = K (.bool false) s := by kernel_rfl
section
variable {ro : Nat} {s : St} {b : Value} {K : Value → St → Prop}
end
end Go.VE
/- What the other methods of a nil or zero builder do. -/
namespace Go.VE
open Go Go.Proofs
set_option maxRecDepth 20000
section
variable {ro : Nat} {s : St} {b : Value} {K : Value → St → Prop}
end
end Go.VE
/- The law's package: a step's variables. -/
namespace Go.VE
open Go Go.Proofs
set_option maxRecDepth 20000
structure StepV (s : St) (v : Value) (d : Int) (V : List Int) (X Y Z : Int) : Prop where
  ex : ∃ w, v = .agg (.mk [.int .u8 d, w, .int .u64 X, .int .u64 Y, .int .u64 Z]) ∧ Ints s w V
  hd : 0 ≤ d ∧ d < 256
  hz : 0 ≤ Z ∧ Z < 2 ^ 64
  len : V.length ≤ 60
theorem StepV.same {s s' : St} {v : Value} {d : Int} {V : List Int} {X Y Z : Int} (h : StepV s v d V X Y Z) (hg : ∀ A, A < s.n → s'.at A = s.at A) : StepV s' v d V X Y Z := by
  obtain ⟨⟨w, h1, h2⟩, h3, h4, h5⟩ := h
  exact ⟨⟨w, h1, h2.grew hg⟩, h3, h4, h5⟩
theorem StepV.grew {s s' : St} {v : Value} {d : Int} {V : List Int} {X Y Z : Int} (h : StepV s v d V X Y Z) (hg : Grew s s') : StepV s' v d V X Y Z := h.same hg.same
theorem StepV.ent {s : St} {v : Value} {d : Int} {V : List Int} {X Y Z : Int} (h : StepV s v d V X Y Z) : StepV (Go.VE.ent s) v d V X Y Z := h.same fun _ _ => rfl
theorem StepV.veq {s : St} {v : Value} {d : Int} {V : List Int} {X Y Z : Int} (h : StepV s v d V X Y Z) : veq v v = true := by
  obtain ⟨⟨w, rfl, ⟨a, c, rfl, _⟩⟩, _, _, _⟩ := h
  simp [Go.VE.veq, veqA, veqL]
section
variable {ro : Nat} {s : St} {K : Value → St → Prop}
end
end Go.VE
/- A step on a nil or zero builder. -/
namespace Go.VE
open Go Go.Proofs
set_option maxRecDepth 20000
section
variable {ro : Nat} {s : St} {b : Value} {K : Value → St → Prop}
end
end Go.VE
/- What a step returns on a nil or zero builder: minus ones. -/
namespace Go.VE
open Go Go.Proofs
set_option maxRecDepth 20000
section
variable {ro : Nat} {s : St} {b : Value} {K : Value → St → Prop}
end
end Go.VE
/- A builder that lives. -/
namespace Go.VE
open Go Go.Proofs
set_option maxRecDepth 20000
structure Bd where
  f : Int
  nv : Int
  pub : Int
  sec : Int
  rows : List Row
  e : Int
structure Bd.Ok (d : Bd) : Prop where
  f : fV d.f = true
  nv : 0 ≤ d.nv ∧ d.nv ≤ 40000
  rows : d.rows.length ≤ 8000
def Bd.cells (d : Bd) (u : Value) : List Value := [.bool true, .int .i64 d.f, .int .i64 d.nv, .int .i64 d.pub, .int .i64 d.sec, u, .int .i64 d.e]
structure RowsAt (s : St) (u : Value) (d : Bd) (oA : Option Nat) : Prop where
  sl : Sl s u 11 d.rows.length (rowCells d.rows)
  blk : ∀ A o sp n c, u = .slice (some ⟨A, o, sp⟩) n c → oA = some A
  own : d.e = 0 → Own s u 94 11 d.rows.length (rowCells d.rows) oA
theorem RowsAt.ofOwn {s : St} {u : Value} {d : Bd} {oA : Option Nat} (h : Own s u 94 11 d.rows.length (rowCells d.rows) oA) : RowsAt s u d oA := ⟨h.sl, by
  intro A o sp n c e
  cases oA with
  | none => obtain ⟨rfl, _⟩ := h; cases e
  | some A' => obtain ⟨rfl, _⟩ := h; cases e; rfl, fun _ => h⟩
theorem RowsAt.same {s s' : St} {u : Value} {d : Bd} {oA : Option Nat} (h : RowsAt s u d oA) (hs : ∀ A, oA = some A → s'.at A = s.at A) : RowsAt s' u d oA :=
  ⟨h.sl.sameAt fun A o sp n c e => hs A (h.blk A o sp n c e), h.blk, fun he => (h.own he).same hs⟩
structure Liv (ro : Nat) (s : St) (B : Nat) (oA : Option Nat) (d : Bd) : Prop where
  wf : Wf s
  fl : FieldsAt s
  r0 : 0 < ro
  hB : ro ≤ B
  hA : ∀ A, oA = some A → ro ≤ A ∧ A ≠ B ∧ A < s.n
  ok : d.Ok
  ex : ∃ u, s.at B = some (.cells (d.cells u) 81 false) ∧ RowsAt s u d oA
structure Mut (s : St) (B : Nat) (oA : Option Nat) (s' : St) (oA' : Option Nat) : Prop where
  n : s.n ≤ s'.n
  same : ∀ C, C < s.n → C ≠ B → oA ≠ some C → s'.at C = s.at C
  own : oA' = oA ∨ ∃ A, oA' = some A ∧ s.n ≤ A
  chg : s'.lo ≤ B ∨ (Grew s s' ∧ oA' = oA)
theorem Mut.refl (s : St) (B : Nat) (oA : Option Nat) : Mut s B oA s oA := ⟨Nat.le_refl _, fun _ _ _ _ => rfl, .inl rfl, .inr ⟨.refl _, rfl⟩⟩
theorem Mut.trans {a b c : St} {B : Nat} {x y z : Option Nat} (h : Mut a B x b y) (k : Mut b B y c z) : Mut a B x c z :=
  ⟨Nat.le_trans h.n k.n, fun C hC hB hx => by
    have : y ≠ some C := by
      rcases h.own with rfl | ⟨A, rfl, hA⟩
      · exact hx
      · intro e; cases e; omega
    rw [k.same C (Nat.lt_of_lt_of_le hC h.n) hB this, h.same C hC hB hx], by
    rcases k.own with rfl | ⟨A, rfl, hA⟩
    · exact h.own
    · exact .inr ⟨A, rfl, Nat.le_trans h.n hA⟩, by
    rcases k.chg with k1 | ⟨k1, rfl⟩
    · exact .inl k1
    · rcases h.chg with h1 | ⟨h1, rfl⟩
      · exact .inl (by rw [k1.lo]; exact h1)
      · exact .inr ⟨h1.trans k1, rfl⟩⟩
theorem Mut.ofGrew {s s' : St} {B : Nat} {oA : Option Nat} (h : Grew s s') : Mut s B oA s' oA := ⟨h.n, fun C hC _ _ => h.same C hC, .inl rfl, .inr ⟨h, rfl⟩⟩
section
variable {ro : Nat} {s : St} {B : Nat} {oA : Option Nat} {d : Bd} {K : Value → St → Prop}
theorem Liv.grew {s' : St} (h : Liv ro s B oA d) (hg : Grew s s') : Liv ro s' B oA d := by
  obtain ⟨u, h1, h2⟩ := h.ex
  exact ⟨h.wf.grew hg, h.fl.grew hg, h.r0, h.hB, fun A hA => ⟨(h.hA A hA).1, (h.hA A hA).2.1, Nat.lt_of_lt_of_le (h.hA A hA).2.2 hg.n⟩, h.ok, u, by rw [hg.same B (St.at_lt h1)]; exact h1, h2.same fun A hA => hg.same A (h.hA A hA).2.2⟩
theorem Liv.ent (h : Liv ro s B oA d) : Liv ro (Go.VE.ent s) B oA d := by
  obtain ⟨u, h1, h2⟩ := h.ex
  exact ⟨h.wf.ent, h.fl, h.r0, h.hB, h.hA, h.ok, u, h1, h2.same fun _ _ => rfl⟩
theorem Liv.lt (h : Liv ro s B oA d) : B < s.n := by
  obtain ⟨u, h1, _⟩ := h.ex
  exact St.at_lt h1
theorem Liv.ron (h : Liv ro s B oA d) : ro ≤ s.n := Nat.le_trans h.hB (Nat.le_of_lt h.lt)
theorem Liv.load (h : Liv ro s B oA d) {t : TypeId} (ha : ∀ c o, apart P t c o = c[o]?) {i : Nat} {v : Value} (hv : ∀ u, (d.cells u)[i]? = some v) : aload P s t (.pointer (some ⟨B, i, none⟩)) = some v := by
  obtain ⟨u, h1, _⟩ := h.ex
  exact load_one ha h1 (hv u)
theorem lErr (h : Liv ro s B oA d) : CallWP P ro 23 [ptr B] s K = K (.int .i64 d.e) s := by
  refine callEq (call_wp b23 rfl ?_) K
  rw [n23]
  unfold v23
  simp only [wW, reduceCtorEq, Nat.reduceEqDiff, ptr_some_nil, fa_81_0]
  refine load_rule (h.ent.load ap_4 fun u => rfl) ?_
  simp only [wW, reduceCtorEq, Nat.reduceEqDiff, fa_81_2]
  refine load_rule (h.ent.load ap_26 fun u => rfl) ?_
  exact fin_flat rfl (.refl _) ⟨rfl, rfl⟩
theorem lMinus (h : Liv ro s B oA d) : CallWP P ro 44 [ptr B] s K = K (.int .u64 (fP d.f - 1)) s := by
  refine callEq (call_wp b44 rfl ?_) K
  rw [n44]
  unfold v44
  simp only [wW, reduceCtorEq, Nat.reduceEqDiff, fa_81_1, fa_34_0]
  refine load_rule (h.ent.load ap_3 fun u => rfl) ?_
  rw [wfP d.f h.wf.ent h.ent.ron h.fl]
  simp only [wW, reduceCtorEq, Nat.reduceEqDiff]
  have h1 := fP_lt d.f
  have h2 := fP_pos h.ok.f
  rw [wrap_u64 (by omega) (by omega)]
  exact fin_flat rfl (.refl _) ⟨rfl, rfl⟩
end
end Go.VE
/- A builder that lives: known, ready. -/
namespace Go.VE
open Go Go.Proofs
set_option maxRecDepth 20000
section
variable {ro : Nat} {s : St} {B : Nat} {oA : Option Nat} {d : Bd} {K : Value → St → Prop}
def isVar (d : Bd) (v : Int) : Bool := decide (0 ≤ v) && decide (v < d.nv)
theorem lKnown1 (h : Liv ro s B oA d) {C : Nat} {T : TypeId} {op : Bool} (hC : s.at C = some (.cells [ptr B] T op)) (v : Int) : CallWP P ro 82 [.int .i64 v, ptr C] s K = K (.bool (!isVar d v)) s := by
  refine callEq (call_wp b82 rfl ?_) K
  rw [n82]
  unfold v82
  simp only [wW, reduceCtorEq, Nat.reduceEqDiff]
  by_cases h0 : v < 0
  · rw [if_pos h0]
    exact fin_flat rfl (.refl _) ⟨by simp [isVar]; omega, rfl⟩
  · rw [if_neg h0]
    refine load_rule (load_one (s := Go.VE.ent s) ap_25 hC rfl) ?_
    simp only [wW, reduceCtorEq, Nat.reduceEqDiff, fa_81_1, fa_34_1]
    refine load_rule (h.ent.load ap_3 fun u => rfl) ?_
    simp only [wW, reduceCtorEq, Nat.reduceEqDiff]
    refine fin_flat rfl (.refl _) ⟨?_, rfl⟩
    congr 1
    rw [Bool.eq_iff_iff]
    simp [isVar]
    omega
def bad (d : Bd) : List Int → Nat → Int
  | [], _ => -1
  | v :: r, j => if isVar d v = true then bad d r (j + 1) else j
theorem bad_all (d : Bd) : ∀ (l : List Int) (j : Nat), decide (0 ≤ bad d l j) = !(l.all (isVar d))
  | [], j => by simp [bad]
  | v :: r, j => by
    unfold bad
    by_cases hv : isVar d v = true
    · rw [if_pos hv, bad_all d r (j + 1)]; simp [hv]
    · rw [if_neg hv]; simp [hv]
theorem wIndex (h : Liv ro s B oA d) {C : Nat} {T : TypeId} {op : Bool} (hC : s.at C = some (.cells [ptr B] T op)) {u : Value} {l : List Int} (hu : Ints s u l) (hlen : l.length < 2 ^ 62) :
    CallWP P ro 96 [u, .func (.func 82) (.mk []) (.mk [ptr C])] s K = K (.int .i64 (bad d l 0)) s := by
  refine callEq (call_wp b96 rfl ?_) K
  rw [n96]
  unfold v96
  simp only [wW, reduceCtorEq, Nat.reduceEqDiff, hu.wlen se_30]
  refine wloop l96_10100 m96_10100 (fun (i : Nat) τ ds s' => τ 0 = u ∧ τ 1 = .func (.func 82) (.mk []) (.mk [ptr C]) ∧ τ 7 = .int .i64 l.length ∧ τ 8 = .int .i64 i ∧ ds = [] ∧ s' = ent s ∧ i ≤ l.length ∧ bad d (l.drop i) i = bad d l 0) (fun i => l.length - i) ?_ 0 ⟨rfl, rfl, rfl, rfl, rfl, rfl, Nat.zero_le _, rfl⟩
  rintro i τ ds s' ⟨h0, h1, h7, h8, rfl, rfl, hi, heq⟩
  rw [n96_10100]
  unfold v96_10100
  simp only [wW, reduceCtorEq, Nat.reduceEqDiff, h0, h1, h7, h8]
  by_cases hlt : (i : Int) < (l.length : Int)
  · have hlt' : i < l.length := by omega
    rw [if_pos hlt]
    refine ix_rule (i := (i : Int)) (u := .int .i64 l[i]) hu.ent se_30 isz_3 ap_3 (by omega) hlt (by simp [hlt']) fun p hp => load_rule hp ?_
    rw [drop_cons hlt', bad] at heq
    simp only [wW, reduceCtorEq, Nat.reduceEqDiff, List.nil_append, List.cons_append]
    rw [lKnown1 h.ent (show (Go.VE.ent s).at C = _ from hC)]
    by_cases hv : isVar d l[i] = true
    · rw [if_pos hv] at heq
      simp only [wW, reduceCtorEq, Nat.reduceEqDiff, hv]
      refine ⟨i + 1, by omega, h0, h1, h7, ?_, trivial, trivial, hlt', heq⟩
      show Value.int .i64 (IntKind.i64.wrap ((i : Int) + 1)) = _
      rw [wrap_i64 (by omega) (by omega)]
      rfl
    · rw [if_neg hv] at heq
      simp only [wW, reduceCtorEq, Nat.reduceEqDiff, hv, r96]
      exact fin_flat rfl (.refl _) ⟨by rw [← heq]; rfl, rfl⟩
  · rw [if_neg hlt]
    have : l.drop i = [] := List.drop_eq_nil_of_le (by omega)
    rw [this, bad] at heq
    exact fin_flat rfl (.refl _) ⟨by rw [← heq], rfl⟩
theorem wContains (h : Liv ro s B oA d) {C : Nat} {T : TypeId} {op : Bool} (hC : s.at C = some (.cells [ptr B] T op)) {u : Value} {l : List Int} (hu : Ints s u l) (hlen : l.length < 2 ^ 62) :
    CallWP P ro 81 [u, .func (.func 82) (.mk []) (.mk [ptr C])] s K = K (.bool (!(l.all (isVar d)))) s := by
  refine callEq (call_wp b81 rfl ?_) K
  rw [n81]
  unfold v81
  simp only [wW, reduceCtorEq, Nat.reduceEqDiff]
  rw [wIndex h.ent (show (Go.VE.ent s).at C = _ from hC) hu.ent hlen]
  simp only [wW, reduceCtorEq, Nat.reduceEqDiff, ge_iff_le, bad_all]
  exact fin_flat rfl (.refl _) ⟨rfl, rfl⟩
def kn (d : Bd) (l : List Int) : Bool := decide (d.e = 0) && l.all (isVar d)
theorem lKnown (h : Liv ro s B oA d) {u : Value} {l : List Int} (hu : Ints s u l) (hlen : l.length < 2 ^ 62) : CallWP P ro 39 [ptr B, u] s K = K (.bool (kn d l)) s := by
  refine callEq (call_wp b39 rfl ?_) K
  rw [n39]
  unfold v39
  simp only [wW, reduceCtorEq, Nat.reduceEqDiff]
  refine box_rule h.wf.ent fun A s1 m1 => ?_
  refine load_rule (load_one ap_25 m1.here rfl) ?_
  rw [lErr (h.ent.grew m1.grew)]
  simp only [wW, reduceCtorEq, Nat.reduceEqDiff]
  by_cases he : d.e = 0
  · rw [if_pos he]
    rw [wContains (h.ent.grew m1.grew) m1.here (hu.ent.grew m1.grew.same) hlen]
    simp only [wW, reduceCtorEq, Nat.reduceEqDiff, Bool.not_not]
    exact fin_flat rfl m1.grew ⟨by simp [kn, he], rfl⟩
  · rw [if_neg he]
    exact fin_flat rfl m1.grew ⟨by simp [kn, he], rfl⟩
end
end Go.VE
/- A builder that lives: numbers below P, ready. -/
namespace Go.VE
open Go Go.Proofs
set_option maxRecDepth 20000
def maxFrom (m : Int) : List Int → Int
  | [] => m
  | v :: r => maxFrom (if m < v then v else m) r
theorem maxFrom_lt (p : Int) : ∀ (l : List Int) (m : Int), (decide (maxFrom m l < p)) = (decide (m < p) && l.all fun v => decide (v < p))
  | [], m => by
    show decide (m < p) = (decide (m < p) && true)
    rw [Bool.and_true]
  | v :: r, m => by
    unfold maxFrom
    rw [maxFrom_lt p r, List.all_cons, ← Bool.and_assoc]
    congr 1
    rw [Bool.eq_iff_iff]
    by_cases h : m < v
    · simp [h]; omega
    · simp [h]; omega
theorem max_u64 [Memo] (ro : Nat) (a b : Int) (ty : TypeId) (s : St) (K : Value → St → Prop) : wop P ro (.call ⟨.builtin .max, ⟨[.const (.int .u64 a), .const (.int .u64 b)]⟩, #[24, 24]⟩) ty s K = K (.int .u64 (if a < b then b else a)) s := by kernel_rfl
section
variable {ro : Nat} {s : St} {B : Nat} {oA : Option Nat} {d : Bd} {K : Value → St → Prop}
theorem wMax {u : Value} {a : Int} {l : List Int} (hu : U64s s u (a :: l)) (hlen : l.length < 2 ^ 62) :
    CallWP P ro 79 [u] s K = K (.int .u64 (maxFrom a l)) s := by
  refine callEq (call_wp b79 rfl ?_) K
  rw [n79]
  unfold v79
  simp only [wW, reduceCtorEq, Nat.reduceEqDiff, Sl.wlen hu se_23, List.length_cons]
  rw [if_neg (by omega), n79_11]
  unfold v79_11
  simp only [wW, reduceCtorEq, Nat.reduceEqDiff]
  refine ix_rule (i := 0) (u := .int .u64 a) (Sl.ent hu) se_23 isz_24 ap_24 (by omega) (by simp) (by simp) fun p hp => load_rule hp ?_
  refine wloop l79_1110100 m79_1110100 (fun (i : Nat) τ ds s' => ∃ m, τ 0 = u ∧ τ 3 = .int .u64 m ∧ τ 4 = .int .i64 ((i : Int) + 1) ∧ ds = [] ∧ s' = ent s ∧ i ≤ l.length ∧ maxFrom m (l.drop i) = maxFrom a l) (fun i => l.length - i) ?_ 0 ⟨a, rfl, rfl, rfl, rfl, rfl, Nat.zero_le _, rfl⟩
  rintro i τ ds s' ⟨m, h0, h3, h4, rfl, rfl, hi, heq⟩
  rw [n79_1110100]
  unfold v79_1110100
  simp only [wW, reduceCtorEq, Nat.reduceEqDiff, h0, h3, h4, Sl.wlen hu se_23, List.length_cons]
  by_cases hlt : (i : Int) + 1 < ((l.length + 1 : Nat) : Int)
  · have hlt' : i < l.length := by omega
    rw [if_pos hlt]
    refine ix_rule (i := (i : Int) + 1) (u := .int .u64 l[i]) (Sl.ent hu) se_23 isz_24 ap_24 (by omega) (by simp; omega) (by
      rw [show ((i : Int) + 1).toNat = i + 1 by omega]
      simp [hlt']) fun p hp => load_rule hp ?_
    rw [drop_cons hlt', maxFrom] at heq
    simp only [wW, reduceCtorEq, Nat.reduceEqDiff, max_u64]
    refine ⟨i + 1, by omega, _, h0, rfl, ?_, trivial, trivial, hlt', heq⟩
    show Value.int .i64 (IntKind.i64.wrap ((i : Int) + 1 + 1)) = _
    rw [wrap_i64 (by omega) (by omega)]
    rfl
  · rw [if_neg hlt]
    have : l.drop i = [] := List.drop_eq_nil_of_le (by omega)
    rw [this, maxFrom] at heq
    rw [xleave_U, r79]
    simp only [wW, reduceCtorEq, Nat.reduceEqDiff]
    show wfin s _ (τ 3) (Go.VE.ent s)
    rw [h3]
    exact fin_flat rfl (.refl _) ⟨by rw [heq], rfl⟩
theorem wfin_old {si s : St} {K : Value → St → Prop} {v : Value} (h : s.lo < si.n) : wfin si K v s = K v { s with lo := min si.lo s.lo } := by
  have : Nat.ble si.n s.lo = false := by
    cases hb : Nat.ble si.n s.lo with
    | false => rfl
    | true => have := Nat.le_of_ble_eq_true hb; omega
  simp only [wfin, afinish, this, Bool.false_and, cond_false]
theorem Liv.lo {k : Nat} (h : Liv ro s B oA d) (hk : k ≤ s.n) : Liv ro { s with lo := k } B oA d := by
  obtain ⟨u, h1, h2⟩ := h.ex
  exact ⟨⟨hk, h.wf.len⟩, h.fl, h.r0, h.hB, h.hA, h.ok, u, h1, h2.same fun _ _ => rfl⟩
theorem Liv.putE (h : Liv ro s B oA d) {x : Int} (hx : x ≠ 0) {s' : St} (hp : ∀ u, s.at B = some (.cells (d.cells u) 81 false) → Put s B (.cells ({ d with e := x }.cells u) 81 false) s') : Liv ro s' B oA { d with e := x } := by
  obtain ⟨u, h1, h2⟩ := h.ex
  have p := hp u h1
  have hr := h.r0
  have hB := h.hB
  have h3 := h2.same (s' := s') fun A hA => p.rest A (h.hA A hA).2.1
  refine ⟨p.wf, ?_, hr, hB, fun A hA => by rw [p.n]; exact h.hA A hA, ⟨h.ok.f, h.ok.nv, h.ok.rows⟩, u, p.here, ⟨h3.sl, h3.blk, fun he => absurd he hx⟩⟩
  obtain ⟨x0, x1, x2, x3, n0, n1, n2, n3, c0, c1, c2, c3, t, op, hf⟩ := h.fl
  exact ⟨x0, x1, x2, x3, n0, n1, n2, n3, c0, c1, c2, c3, t, op, by rw [p.rest 0 (by omega)]; exact hf⟩
theorem storeE_rule (h : Liv ro s B oA d) {x : Int} (hx : x ≠ 0) {ty : TypeId} (hk : ∀ s', Liv ro s' B oA { d with e := x } → Mut s B oA s' oA → s'.lo ≤ B → s'.n = s.n → K undef s') : wop P ro (.store 26 (.const (.pointer (some ⟨B, 6, none⟩))) (.const (.int .i64 x))) ty s K := by
  obtain ⟨u, h1, h2⟩ := h.ex
  refine store1_rule isz_26 h1 h.wf h.hB (by simp [Bd.cells]) rfl fun s' p => ?_
  have p' : Put s B (.cells ({ d with e := x }.cells u) 81 false) s' := p
  refine hk s' (h.putE hx fun u' hu' => by rw [h1] at hu'; cases hu'; exact p') ⟨by rw [p.n]; exact Nat.le_refl _, fun C _ hC _ => p.rest C hC, .inl rfl, .inl (by rw [p.lo]; exact Nat.min_le_right _ _)⟩ (by rw [p.lo]; exact Nat.min_le_right _ _) p.n
theorem lReady (h : Liv ro s B oA d) (ok : Bool) {u : Value} {l : List Int} (hu : U64s s u l) (hlen : l.length < 2 ^ 62)
    (h0 : d.e ≠ 0 → K (.bool false) s) (h1 : d.e = 0 → ok = true → (l.all fun v => decide (v < fP d.f)) = true → K (.bool true) s)
    (h2 : d.e = 0 → (ok && l.all fun v => decide (v < fP d.f)) = false → ∀ s', Liv ro s' B oA { d with e := 1 } → Mut s B oA s' oA → K (.bool false) s') : CallWP P ro 38 [ptr B, .bool ok, u] s K := by
  refine call_wp b38 rfl ?_
  rw [n38]
  unfold v38
  have hB := h.lt
  have bad : d.e = 0 → (ok && l.all fun v => decide (v < fP d.f)) = false → wop P ro (.store 26 (.const (.pointer (some ⟨B, 6, none⟩))) (.const (.int .i64 1))) 0 (Go.VE.ent s) fun _ s5 =>
      wop P ro (.load 26 (.const (.pointer (some ⟨B, 6, none⟩)))) 26 s5 fun v s8 => wop P ro (.binOp .eql 26 (.const v) (.const (.int .i64 0)) 26) 4 s8 fun w s9 => wfin s K w s9 := by
    intro he hb
    refine storeE_rule h.ent (by decide) fun s5 h5 m5 hlo hn => ?_
    refine load_rule (h5.load ap_26 fun u => rfl) ?_
    simp only [wW, reduceCtorEq, Nat.reduceEqDiff, decide_eq_false (show ¬ (1 : Int) = 0 by decide)]
    rw [wfin_old (by omega)]
    refine h2 he hb _ (h5.lo ?_) ⟨m5.n, fun C hC hB hA => m5.same C hC hB hA, .inl rfl, .inl (by show min s.lo s5.lo ≤ B; omega)⟩
    have := h5.wf.lo
    omega
  have good : d.e = 0 → ok = true → (l.all fun v => decide (v < fP d.f)) = true → 
      wop P ro (.load 26 (.const (.pointer (some ⟨B, 6, none⟩)))) 26 (Go.VE.ent s) fun v s8 => wop P ro (.binOp .eql 26 (.const v) (.const (.int .i64 0)) 26) 4 s8 fun w s9 => wfin s K w s9 := by
    intro he ho hb
    refine load_rule (h.ent.load ap_26 fun u => rfl) ?_
    simp only [wW, reduceCtorEq, Nat.reduceEqDiff, he, decide_true]
    exact fin_flat rfl (.refl _) (h1 he ho hb)
  simp only [wW, reduceCtorEq, Nat.reduceEqDiff, lErr h.ent, fa_81_1, fa_81_2, fa_34_0]
  by_cases he : d.e = 0
  · rw [if_neg (by simp [he])]
    cases ok with
    | false => exact bad he rfl
    | true =>
      rw [if_neg (by decide)]
      simp only [wW, reduceCtorEq, Nat.reduceEqDiff, Sl.wlen hu se_23]
      cases l with
      | nil =>
        rw [if_neg (by simp)]
        exact good he rfl rfl
      | cons a r =>
        rw [if_pos (by simp)]
        refine load_rule (h.ent.load ap_3 fun u => rfl) ⟨by simp [veq], ?_⟩
        rw [wMax (Sl.ent hu) (by simp at hlen; omega)]
        refine ⟨.refl _, ?_⟩
        rw [wfP d.f h.wf.ent h.ent.ron h.fl]
        simp only [wW, reduceCtorEq, Nat.reduceEqDiff]
        have hm := maxFrom_lt (fP d.f) r a
        by_cases hlt : maxFrom a r < fP d.f
        · rw [if_neg (by omega)]
          rw [decide_eq_true hlt] at hm
          exact good he rfl (by rw [List.all_cons, ← hm])
        · rw [if_pos (by omega)]
          rw [decide_eq_false hlt] at hm
          exact bad he (by rw [List.all_cons, ← hm]; rfl)
  · rw [if_pos he]
    exact fin_flat rfl (.refl _) (h0 he)
end
end Go.VE
/- A builder that lives: rows. -/
namespace Go.VE
open Go Go.Proofs
set_option maxRecDepth 20000
def arithRow (u v w ql qr qm qo qc : Int) : Row := ⟨1, u, v, w, -1, ql, qr, qm, qo, qc, 0⟩
section
variable {ro : Nat} {s : St} {B : Nat} {oA : Option Nat} {d : Bd} {K : Value → St → Prop}
theorem lArith (hw : Wf s) (hro : ro ≤ s.n) (u v w ql qr qm qo qc : Int) : CallWP P ro 63 [.int .i64 u, .int .i64 v, .int .i64 w, .int .u64 ql, .int .u64 qr, .int .u64 qm, .int .u64 qo, .int .u64 qc] s K = K (.agg (.mk (arithRow u v w ql qr qm qo qc).cells)) s := by
  refine callEq (call_wp b63 rfl ?_) K
  rw [n63]
  unfold v63
  simp only [wW, reduceCtorEq, Nat.reduceEqDiff]
  refine alloc_rule ty_94 hw.ent fun A s1 m1 => ?_
  rw [show abuild P 53 (partVals .e [(0, .const (.int .i64 u)), (1, .const (.int .i64 v)), (2, .const (.int .i64 w)), (3, .const (.int .i64 (-1)))]) = some (.agg (.mk [.int .i64 u, .int .i64 v, .int .i64 w, .int .i64 (-1)])) by kernel_rfl]
  simp only [wW, reduceCtorEq, Nat.reduceEqDiff]
  rw [show abuild P 94 (partVals .e [(0, .const (.int .u8 1)), (1, .const (.agg (.mk [.int .i64 u, .int .i64 v, .int .i64 w, .int .i64 (-1)]))), (2, .const (.int .u64 ql)), (3, .const (.int .u64 qr)), (4, .const (.int .u64 qm)), (5, .const (.int .u64 qo)), (6, .const (.int .u64 qc))]) = some (.agg (.mk (arithRow u v w ql qr qm qo qc).cells)) by kernel_rfl]
  simp only [wW, reduceCtorEq, Nat.reduceEqDiff]
  have hA : s.n ≤ A := by rw [m1.eq]; exact Nat.le_refl _
  refine storeAll_rule isz_94 m1.here rfl (by decide) m1.wf (by omega) rfl rfl fun s2 p2 => ?_
  refine load_rule (load_all ap_94 p2.here rfl) ?_
  exact fin_flat rfl (p2.grew _ hw.ent m1.grew hA) ⟨rfl, rfl⟩
def Bd.full (d : Bd) (n : Int) (rows : List Row) : Prop := (d.rows.length + rows.length : Int) > 8000 ∨ d.nv + n > 40000
def Bd.add (d : Bd) (n : Int) (rows : List Row) : Bd := { d with rows := d.rows ++ rows, nv := d.nv + n }
theorem lPut (h : Liv ro s B oA d) {n : Int} (hn : 0 ≤ n ∧ n ≤ 1000) {u : Value} {rows : List Row} (hu : Sl s u 11 rows.length (rowCells rows)) (hne : 0 < rows.length) (hlen : rows.length ≤ 100000)
    (h0 : d.e ≠ 0 → K (.int .i64 (-1)) s)
    (h1 : d.e = 0 → d.full n rows → ∀ s', Liv ro s' B oA { d with e := 9 } → Mut s B oA s' oA → K (.int .i64 (-1)) s')
    (h2 : d.e = 0 → ¬ d.full n rows → ∀ s' oA', Liv ro s' B oA' (d.add n rows) → Mut s B oA s' oA' → K (.int .i64 d.nv) s') :
    CallWP P ro 62 [ptr B, .int .i64 n, u] s K := by
  refine call_wp b62 rfl ?_
  rw [n62]
  unfold v62
  have hB := h.lt
  have hnv := h.ok.nv
  have hrl := h.ok.rows
  have bad : d.e = 0 → d.full n rows → wop P ro (.store 26 (.const (.pointer (some ⟨B, 6, none⟩))) (.const (.int .i64 9))) 0 (Go.VE.ent s) fun _ s5 => wfin s K (.int .i64 (-1)) s5 := by
    intro he hb
    refine storeE_rule h.ent (by decide) fun s5 h5 m5 hlo hn => ?_
    rw [wfin_old (by omega)]
    refine h1 he hb _ (h5.lo ?_) ⟨m5.n, fun C hC hB hA => m5.same C hC hB hA, .inl rfl, .inl (by show min s.lo s5.lo ≤ B; omega)⟩
    have := h5.wf.lo
    omega
  obtain ⟨w, e1, e3⟩ := h.ent.ex
  have ld5 : ∀ {s' : St} {i : Nat}, s'.at B = some (.cells (d.cells w) 81 false) → i < 7 → ∀ {v : Value}, (d.cells w)[i]? = some v → ∀ {t : TypeId}, (∀ c o, apart P t c o = c[o]?) → aload P s' t (.pointer (some ⟨B, i, none⟩)) = some v := fun hs _ _ hv _ ha => load_one ha hs hv
  simp (maxSteps := 10000000) only [wW, reduceCtorEq, Nat.reduceEqDiff, fa_81_1, fa_81_2, fa_34_0, fa_34_1, fa_34_4, Nat.reduceAdd]
  refine load_rule (h.ent.load ap_26 fun u => rfl) ?_
  simp (maxSteps := 10000000) only [wW, reduceCtorEq, Nat.reduceEqDiff]
  by_cases he : d.e = 0
  · rw [if_neg (by simp [he])]
    refine load_rule (ld5 e1 (by decide) rfl ap_32) ?_
    rw [e3.sl.wlen se_32, hu.ent.wlen se_32]
    simp (maxSteps := 10000000) only [wW, reduceCtorEq, Nat.reduceEqDiff]
    rw [wrap_i64 (by omega) (by omega)]
    by_cases hf1 : (d.rows.length : Int) + rows.length > 8000
    · rw [if_pos hf1]
      exact bad he (.inl hf1)
    · rw [if_neg hf1]
      refine load_rule (ld5 e1 (by decide) rfl ap_3) ?_
      simp (maxSteps := 10000000) only [wW, reduceCtorEq, Nat.reduceEqDiff]
      rw [wrap_i64 (by omega) (by omega)]
      by_cases hf2 : d.nv + n > 40000
      · rw [if_pos hf2]
        exact bad he (.inr hf2)
      · rw [if_neg hf2]
        refine load_rule (ld5 e1 (by decide) rfl ap_3) ?_
        refine load_rule (ld5 e1 (by decide) rfl ap_32) ?_
        have e2 := e3.own he
        refine append_rule se_32 (by kernel_rfl) ty_94 (by decide) (by decide) e2 hu.ent hne h.wf.ent (fun A hA => (h.hA A hA).1) (by omega) (rowCells_one rows) fun w1 s1 hw1 a1 => ?_
        have hB1 : s1.at B = some (.cells (d.cells w) 81 false) := (a1.rest B hB fun hh => (h.hA B hh).2.1 rfl).trans e1
        refine store1_rule isz_32 hB1 a1.wf h.hB (by simp [Bd.cells]) (by obtain ⟨rfl, _⟩ := hw1; rfl) fun s2 p2 => ?_
        have hB2 : s2.at B = some (.cells (d.cells w1) 81 false) := p2.here
        refine load_rule (load_one ap_3 hB2 rfl) ?_
        simp (maxSteps := 10000000) only [wW, reduceCtorEq, Nat.reduceEqDiff]
        rw [wrap_i64 (by omega) (by omega)]
        refine store1_rule isz_3 hB2 p2.wf h.hB (by simp [Bd.cells]) rfl fun s3 p3 => ?_
        have hn0 : (Go.VE.ent s).n = s.n := rfl
        have hn1 := a1.n
        have hn2 := p2.n
        have hn3 := p3.n
        have hlo : s3.lo ≤ B := by rw [p3.lo]; exact Nat.min_le_right _ _
        have hBs : B ≠ s.n := by omega
        have hro := h.ron
        have hr0 := h.r0
        have hrB := h.hB
        have hA0 : oA ≠ some 0 := fun hh => by have := (h.hA 0 hh).1; omega
        rw [wfin_old (by omega)]
        refine h2 he (fun hf => ?_) _ (some s.n) ⟨⟨?_, p3.wf.len⟩, ?_, hr0, hrB, ?_, ⟨h.ok.f, ?_, ?_⟩, w1, ?_, ?_⟩ ⟨?_, ?_, .inr ⟨s.n, rfl, Nat.le_refl _⟩, .inl (by show min s.lo s3.lo ≤ B; omega)⟩
        · rcases hf with hf | hf
          · exact hf1 hf
          · exact hf2 hf
        · have := p3.wf.lo
          show min s.lo s3.lo ≤ s3.n
          omega
        · obtain ⟨x0, x1, x2, x3, n0, n1, n2, n3, c0, c1, c2, c3, t, op, hf⟩ := h.fl
          refine ⟨x0, x1, x2, x3, n0, n1, n2, n3, c0, c1, c2, c3, t, op, ?_⟩
          show s3.at 0 = _
          rw [p3.rest 0 (by omega), p2.rest 0 (by omega), a1.rest 0 (by omega) hA0]
          exact hf
        · rintro A hA
          cases hA
          exact ⟨hro, by omega, by show s.n < s3.n; omega⟩
        · show 0 ≤ d.nv + n ∧ d.nv + n ≤ 40000
          omega
        · show (d.rows ++ rows).length ≤ 8000
          rw [List.length_append]
          omega
        · exact p3.here
        · have hw2 : Own s3 w1 94 11 (d.rows.length + rows.length) (rowCells d.rows ++ rowCells rows) (some s.n) := hw1.same fun A hA => by
            cases hA
            show s3.at s.n = s1.at s.n
            rw [p3.rest s.n (by omega), p2.rest s.n (by omega)]
          rw [← rowCells_app, ← List.length_append] at hw2
          exact RowsAt.ofOwn (d := d.add n rows) (hw2.same fun _ _ => rfl)
        · show s.n ≤ s3.n
          omega
        · intro C hC hCB hCA
          show s3.at C = s.at C
          rw [p3.rest C hCB, p2.rest C hCB, a1.rest C hC hCA]
          rfl
  · rw [if_pos (by simpa using he)]
    exact fin_flat rfl (.refl _) (h0 he)
end
end Go.VE
/- A builder that lives: its small methods as functions. -/
namespace Go.VE
open Go Go.Proofs
set_option maxRecDepth 20000
def mready (d : Bd) (c : Bool) : Bd × Bool := if d.e ≠ 0 then (d, false) else if c then (d, true) else ({ d with e := 1 }, false)
open Classical in
noncomputable def mput (d : Bd) (n : Int) (rows : List Row) : Bd × Int := if d.e ≠ 0 then (d, -1) else if d.full n rows then ({ d with e := 9 }, -1) else (d.add n rows, d.nv)
def nums (d : Bd) (l : List Int) : Bool := l.all fun v => decide (v < fP d.f)
section
variable {ro : Nat} {s : St} {B : Nat} {oA : Option Nat} {d : Bd} {K : Value → St → Prop}
theorem lReady' (h : Liv ro s B oA d) (ok : Bool) {u : Value} {l : List Int} (hu : U64s s u l) (hlen : l.length < 2 ^ 62)
    (hk : ∀ s', Liv ro s' B oA (mready d (ok && nums d l)).1 → Mut s B oA s' oA → K (.bool (mready d (ok && nums d l)).2) s') : CallWP P ro 38 [ptr B, .bool ok, u] s K := by
  unfold mready nums at hk
  refine lReady h ok hu hlen (fun he => ?_) (fun he ho hl => ?_) (fun he hb s' h' m' => ?_)
  · rw [if_pos he] at hk
    exact hk s h (.refl _ _ _)
  · rw [if_neg (by simp [he]), ho, hl] at hk
    exact hk s h (.refl _ _ _)
  · rw [if_neg (by simp [he]), hb] at hk
    exact hk s' h' m'
theorem lPut' (h : Liv ro s B oA d) {n : Int} (hn : 0 ≤ n ∧ n ≤ 1000) {u : Value} {rows : List Row} (hu : Sl s u 11 rows.length (rowCells rows)) (hne : 0 < rows.length) (hlen : rows.length ≤ 100000)
    (hk : ∀ s' oA', Liv ro s' B oA' (mput d n rows).1 → Mut s B oA s' oA' → K (.int .i64 (mput d n rows).2) s') : CallWP P ro 62 [ptr B, .int .i64 n, u] s K := by
  unfold mput at hk
  refine lPut h hn hu hne hlen (fun he => ?_) (fun he hf s' h' m' => ?_) (fun he hf s' oA' h' m' => ?_)
  · rw [if_pos he] at hk
    exact hk s oA h (.refl _ _ _)
  · rw [if_neg (by simp [he]), if_pos hf] at hk
    exact hk s' oA h' m'
  · rw [if_neg (by simp [he]), if_neg hf] at hk
    exact hk s' oA' h' m'
noncomputable def mLinear (d : Bd) (u v x y z : Int) : Bd × Int :=
  if (mready d (kn d [u, v] && nums d [x, y, z])).2 = true then mput d 1 [arithRow u v d.nv x y 0 (fP d.f - 1) z] else ((mready d (kn d [u, v] && nums d [x, y, z])).1, -1)
theorem mready_true {d : Bd} {c : Bool} (h : (mready d c).2 = true) : (mready d c).1 = d ∧ d.e = 0 ∧ c = true := by
  unfold mready at h ⊢
  by_cases he : d.e ≠ 0
  · rw [if_pos he] at h; cases h
  · rw [if_neg he] at h ⊢
    cases c with
    | true => exact ⟨rfl, by simpa using he, rfl⟩
    | false => cases h
theorem fin_mut {si : St} {oA' : Option Nat} {d' : Bd} {v : Value} (h0 : Liv ro si B oA d) (h : Liv ro s B oA' d') (m : Mut (Go.VE.ent si) B oA s oA') (hf : flat' v = true) (hk : ∀ s', Liv ro s' B oA' d' → Mut si B oA s' oA' → K v s') : wfin si K v s := by
  have hB := h0.lt
  rcases m.chg with hlo | ⟨hg, rfl⟩
  · rw [wfin_old (by omega)]
    refine hk _ (h.lo ?_) ⟨m.n, m.same, m.own, .inl ?_⟩
    · have := h.wf.lo
      omega
    · show min si.lo s.lo ≤ B
      omega
  · refine fin_flat hf hg (hk si ?_ (.refl _ _ _))
    obtain ⟨u, e1, e2⟩ := h.ex
    obtain ⟨u0, _, e0⟩ := h0.ex
    refine ⟨h0.wf, h0.fl, h0.r0, h0.hB, h0.hA, h.ok, u, ?_, e2.same fun A hA => ?_⟩
    · exact (hg.same B hB).symm.trans e1
    · subst hA
      exact (hg.same A (h0.hA A rfl).2.2).symm
theorem Mut.grewL {s0 : St} {oA' : Option Nat} {s' : St} (hg : Grew s0 s) (m : Mut s B oA s' oA') : Mut s0 B oA s' oA' := (Mut.ofGrew hg).trans m
theorem lLinear (h : Liv ro s B oA d) (u v x y z : Int) (hk : ∀ s' oA', Liv ro s' B oA' (mLinear d u v x y z).1 → Mut s B oA s' oA' → K (.int .i64 (mLinear d u v x y z).2) s') :
    CallWP P ro 43 [ptr B, .int .i64 u, .int .i64 v, .int .u64 x, .int .u64 y, .int .u64 z] s K := by
  refine call_wp b43 rfl ?_
  rw [n43]
  unfold v43
  simp (maxSteps := 10000000) only [wW, reduceCtorEq, Nat.reduceEqDiff]
  refine buildSlice_rule se_30 ty_3 h.wf.ent [.int .i64 u, .int .i64 v] rfl rfl (by decide) (by simp [Value.cells]) fun A1 s1 m1 => ?_
  have hI : Ints s1 (.slice (some ⟨A1, 0, none⟩) 2 2) [u, v] := m1.sl rfl
  rw [lKnown (h.ent.grew m1.grew) hI (show 2 < 2 ^ 62 by decide)]
  refine buildSlice_rule se_23 ty_24 m1.wf [.int .u64 x, .int .u64 y, .int .u64 z] rfl rfl (by decide) (by simp [Value.cells]) fun A2 s2 m2 => ?_
  have hU : U64s s2 (.slice (some ⟨A2, 0, none⟩) 3 3) [x, y, z] := m2.sl rfl
  have g2 := m1.grew.trans m2.grew
  refine lReady' (h.ent.grew g2) _ hU (show 3 < 2 ^ 62 by decide) fun s3 h3 m3 => ?_
  have hk' := hk
  unfold mLinear at hk'
  simp (maxSteps := 10000000) only [wW, reduceCtorEq, Nat.reduceEqDiff]
  have m3' := Mut.grewL g2 m3
  by_cases hr : (mready d (kn d [u, v] && nums d [x, y, z])).2 = true
  · rw [if_pos hr] at hk'
    obtain ⟨e1, he, _⟩ := mready_true hr
    rw [hr, if_neg (by decide)]
    rw [e1] at h3
    simp (maxSteps := 10000000) only [wW, reduceCtorEq, Nat.reduceEqDiff, fa_81_1, fa_34_1]
    refine load_rule (h3.load ap_3 fun u => rfl) ⟨by simp [veq], ?_⟩
    rw [lMinus h3]
    refine ⟨.refl _, ?_⟩
    rw [lArith h3.wf h3.ron]
    refine ⟨Nat.le_refl _, ?_⟩
    refine buildSlice_rule se_32 ty_94 h3.wf [.agg (.mk (arithRow u v d.nv x y 0 (fP d.f - 1) z).cells)] rfl rfl (by decide) (by simp [Value.cells, Row.cells]) fun A4 s4 m4 => ?_
    refine ⟨m4.fresh (by simp [veqL, veq, Value.cells, Row.cells]), ?_⟩
    refine lPut' (h3.grew m4.grew) (by decide) (rows := [arithRow u v d.nv x y 0 (fP d.f - 1) z]) (m4.sl rfl) (Nat.zero_lt_one) (show 1 ≤ 100000 by decide) fun s5 oA5 h5 m5 => ?_
    have m5' := m3'.trans (Mut.grewL m4.grew m5)
    exact ⟨m5.n, fin_mut h h5 m5' rfl fun s' h' m' => hk' s' oA5 h' m'⟩
  · rw [if_neg hr] at hk'
    have hr' : (mready d (kn d [u, v] && nums d [x, y, z])).2 = false := by simpa using hr
    rw [hr', if_pos rfl]
    exact fin_mut h h3 m3' rfl (fun s' h' m' => hk' s' oA h' m')
noncomputable def mConst (d : Bd) (x : Int) : Bd × Int :=
  if (mready d (true && nums d [x])).2 = true then mput d 1 [arithRow (-1) (-1) d.nv 0 0 0 (fP d.f - 1) x] else ((mready d (true && nums d [x])).1, -1)
noncomputable def mMul (d : Bd) (u v : Int) : Bd × Int :=
  if (mready d (kn d [u, v] && nums d [])).2 = true then mput d 1 [arithRow u v d.nv 0 0 1 (fP d.f - 1) 0] else ((mready d (kn d [u, v] && nums d [])).1, -1)
noncomputable def mZero (d : Bd) (u : Int) : Bd :=
  if (mready d (kn d [u] && nums d [])).2 = true then (mput d 0 [arithRow u (-1) (-1) 1 0 0 0 0]).1 else (mready d (kn d [u] && nums d [])).1
noncomputable def mBit (d : Bd) (u : Int) : Bd :=
  if (mready d (kn d [u] && nums d [])).2 = true then (mput d 0 [arithRow u u (-1) (fP d.f - 1) 0 1 0 0]).1 else (mready d (kn d [u] && nums d [])).1
theorem U64s.nil (s : St) : U64s s (.slice none 0 0) [] := Sl.nil _ _
theorem lConst (h : Liv ro s B oA d) (x : Int) (hk : ∀ s' oA', Liv ro s' B oA' (mConst d x).1 → Mut s B oA s' oA' → K (.int .i64 (mConst d x).2) s') :
    CallWP P ro 22 [ptr B, .int .u64 x] s K := by
  refine call_wp b22 rfl ?_
  rw [n22]
  unfold v22
  simp (maxSteps := 10000000) only [wW, reduceCtorEq, Nat.reduceEqDiff]
  refine buildSlice_rule se_23 ty_24 h.wf.ent [.int .u64 x] rfl rfl (by decide) (by simp [Value.cells]) fun A2 s2 m2 => ?_
  have hU : U64s s2 (.slice (some ⟨A2, 0, none⟩) 1 1) [x] := m2.sl rfl
  have g2 := m2.grew
  refine lReady' (h.ent.grew g2) _ hU (show 1 < 2 ^ 62 by decide) fun s3 h3 m3 => ?_
  have hk' := hk
  unfold mConst at hk'
  simp (maxSteps := 10000000) only [wW, reduceCtorEq, Nat.reduceEqDiff]
  have m3' := Mut.grewL g2 m3
  by_cases hr : (mready d (true && nums d [x])).2 = true
  · rw [if_pos hr] at hk'
    obtain ⟨e1, he, _⟩ := mready_true hr
    rw [hr, if_neg (by decide)]
    rw [e1] at h3
    simp (maxSteps := 10000000) only [wW, reduceCtorEq, Nat.reduceEqDiff, fa_81_1, fa_34_1]
    refine load_rule (h3.load ap_3 fun u => rfl) ⟨by simp [veq], ?_⟩
    rw [lMinus h3]
    refine ⟨.refl _, ?_⟩
    rw [lArith h3.wf h3.ron]
    refine ⟨Nat.le_refl _, ?_⟩
    refine buildSlice_rule se_32 ty_94 h3.wf [.agg (.mk (arithRow (-1) (-1) d.nv 0 0 0 (fP d.f - 1) x).cells)] rfl rfl (by decide) (by simp [Value.cells, Row.cells]) fun A4 s4 m4 => ?_
    refine ⟨m4.fresh (by simp [veqL, veq, Value.cells, Row.cells]), ?_⟩
    refine lPut' (h3.grew m4.grew) (by decide) (rows := [arithRow (-1) (-1) d.nv 0 0 0 (fP d.f - 1) x]) (m4.sl rfl) (Nat.zero_lt_one) (show 1 ≤ 100000 by decide) fun s5 oA5 h5 m5 => ?_
    have m5' := m3'.trans (Mut.grewL m4.grew m5)
    exact ⟨m5.n, fin_mut h h5 m5' rfl fun s' h' m' => hk' s' oA5 h' m'⟩
  · rw [if_neg hr] at hk'
    have hr' : (mready d (true && nums d [x])).2 = false := by simpa using hr
    rw [hr', if_pos rfl]
    exact fin_mut h h3 m3' rfl (fun s' h' m' => hk' s' oA h' m')
theorem lMul (h : Liv ro s B oA d) (u v : Int) (hk : ∀ s' oA', Liv ro s' B oA' (mMul d u v).1 → Mut s B oA s' oA' → K (.int .i64 (mMul d u v).2) s') :
    CallWP P ro 21 [ptr B, .int .i64 u, .int .i64 v] s K := by
  refine call_wp b21 rfl ?_
  rw [n21]
  unfold v21
  simp (maxSteps := 10000000) only [wW, reduceCtorEq, Nat.reduceEqDiff]
  refine buildSlice_rule se_30 ty_3 h.wf.ent [.int .i64 u, .int .i64 v] rfl rfl (by decide) (by simp [Value.cells]) fun A1 s1 m1 => ?_
  have hI : Ints s1 (.slice (some ⟨A1, 0, none⟩) 2 2) [u, v] := m1.sl rfl
  rw [lKnown (h.ent.grew m1.grew) hI (show 2 < 2 ^ 62 by decide)]
  have g2 := m1.grew
  refine lReady' (h.ent.grew g2) _ (U64s.nil _) (show 0 < 2 ^ 62 by decide) fun s3 h3 m3 => ?_
  have hk' := hk
  unfold mMul at hk'
  simp (maxSteps := 10000000) only [wW, reduceCtorEq, Nat.reduceEqDiff]
  have m3' := Mut.grewL g2 m3
  by_cases hr : (mready d (kn d [u, v] && nums d [])).2 = true
  · rw [if_pos hr] at hk'
    obtain ⟨e1, he, _⟩ := mready_true hr
    rw [hr, if_neg (by decide)]
    rw [e1] at h3
    simp (maxSteps := 10000000) only [wW, reduceCtorEq, Nat.reduceEqDiff, fa_81_1, fa_34_1]
    refine load_rule (h3.load ap_3 fun u => rfl) ⟨by simp [veq], ?_⟩
    rw [lMinus h3]
    refine ⟨.refl _, ?_⟩
    rw [lArith h3.wf h3.ron]
    refine ⟨Nat.le_refl _, ?_⟩
    refine buildSlice_rule se_32 ty_94 h3.wf [.agg (.mk (arithRow u v d.nv 0 0 1 (fP d.f - 1) 0).cells)] rfl rfl (by decide) (by simp [Value.cells, Row.cells]) fun A4 s4 m4 => ?_
    refine ⟨m4.fresh (by simp [veqL, veq, Value.cells, Row.cells]), ?_⟩
    refine lPut' (h3.grew m4.grew) (by decide) (rows := [arithRow u v d.nv 0 0 1 (fP d.f - 1) 0]) (m4.sl rfl) (Nat.zero_lt_one) (show 1 ≤ 100000 by decide) fun s5 oA5 h5 m5 => ?_
    have m5' := m3'.trans (Mut.grewL m4.grew m5)
    exact ⟨m5.n, fin_mut h h5 m5' rfl fun s' h' m' => hk' s' oA5 h' m'⟩
  · rw [if_neg hr] at hk'
    have hr' : (mready d (kn d [u, v] && nums d [])).2 = false := by simpa using hr
    rw [hr', if_pos rfl]
    exact fin_mut h h3 m3' rfl (fun s' h' m' => hk' s' oA h' m')
theorem lBit (h : Liv ro s B oA d) (u : Int) (hk : ∀ s' oA', Liv ro s' B oA' (mBit d u) → Mut s B oA s' oA' → K (.tuple (.mk [])) s') :
    CallWP P ro 34 [ptr B, .int .i64 u] s K := by
  refine call_wp b34 rfl ?_
  rw [n34]
  unfold v34
  simp (maxSteps := 10000000) only [wW, reduceCtorEq, Nat.reduceEqDiff]
  refine buildSlice_rule se_30 ty_3 h.wf.ent [.int .i64 u] rfl rfl (by decide) (by simp [Value.cells]) fun A1 s1 m1 => ?_
  have hI : Ints s1 (.slice (some ⟨A1, 0, none⟩) 1 1) [u] := m1.sl rfl
  rw [lKnown (h.ent.grew m1.grew) hI (show 1 < 2 ^ 62 by decide)]
  have g2 := m1.grew
  refine lReady' (h.ent.grew g2) _ (U64s.nil _) (show 0 < 2 ^ 62 by decide) fun s3 h3 m3 => ?_
  have hk' := hk
  unfold mBit at hk'
  simp (maxSteps := 10000000) only [wW, reduceCtorEq, Nat.reduceEqDiff]
  have m3' := Mut.grewL g2 m3
  by_cases hr : (mready d (kn d [u] && nums d [])).2 = true
  · rw [if_pos hr] at hk'
    obtain ⟨e1, he, _⟩ := mready_true hr
    rw [hr, if_pos rfl]
    rw [e1] at h3
    rw [lMinus h3]
    rw [lArith h3.wf h3.ron]
    refine buildSlice_rule se_32 ty_94 h3.wf [.agg (.mk (arithRow u u (-1) (fP d.f - 1) 0 1 0 0).cells)] rfl rfl (by decide) (by simp [Value.cells, Row.cells]) fun A4 s4 m4 => ?_
    refine lPut' (h3.grew m4.grew) (by decide) (rows := [arithRow u u (-1) (fP d.f - 1) 0 1 0 0]) (m4.sl rfl) (Nat.zero_lt_one) (show 1 ≤ 100000 by decide) fun s5 oA5 h5 m5 => ?_
    have m5' := m3'.trans (Mut.grewL m4.grew m5)
    exact fin_mut h h5 m5' rfl fun s' h' m' => hk' s' oA5 h' m'
  · rw [if_neg hr] at hk'
    have hr' : (mready d (kn d [u] && nums d [])).2 = false := by simpa using hr
    rw [hr', if_neg (by decide)]
    exact fin_mut h h3 m3' rfl (fun s' h' m' => hk' s' oA h' m')
end
end Go.VE
/- A builder that lives: calls that consist of others. -/
namespace Go.VE
open Go Go.Proofs
set_option maxRecDepth 20000
def WholeAt (n0 : Nat) (s : St) (B : Nat) (oA : Option Nat) (A1 A2 A3 : Nat) (r nv : Int) : Prop :=
  ∃ t1 t2 t3 o1 o2 o3, s.at A1 = some (.cells [ptr B] t1 o1) ∧ s.at A2 = some (.cells [.int .i64 r] t2 o2) ∧ s.at A3 = some (.cells [.int .i64 nv] t3 o3) ∧
    (A1 ≠ B ∧ oA ≠ some A1) ∧ (A2 ≠ B ∧ oA ≠ some A2) ∧ (A3 ≠ B ∧ oA ≠ some A3) ∧ (n0 ≤ A1 ∧ n0 ≤ A2 ∧ n0 ≤ A3)
def rngOff (A : Nat) : Rng → Prop
  | .below n => n ≤ A
  | .blk q => q ≠ A
  | .ptr a => ∀ x, a = .pointer (some x) → x.block ≠ A
theorem Put.keeps {s s' : St} {A : Nat} {o : AO} {l : List (Nat × Rng)} (p : Put s A o s') (h : ∀ x ∈ l, rngOff A x.2) : Keeps l s s' := by
  refine ⟨by rw [p.n]; exact Nat.le_refl _, fun x hx => ?_⟩
  have hh := h x hx
  obtain ⟨j, g⟩ := x
  cases g with
  | below n =>
    intro C h1 h2
    have : n ≤ A := hh
    exact p.rest C (by omega)
  | blk q =>
    intro y hy
    have : q ≠ A := hh
    rw [p.rest q this]; exact hy
  | ptr a =>
    intro y z e hz
    have : y.block ≠ A := hh y e
    rw [p.rest y.block this]; exact hz
section
variable {ro : Nat} {s : St} {B : Nat} {oA : Option Nat} {d : Bd} {K : Value → St → Prop}
theorem WholeAt.mut {n0 A1 A2 A3 : Nat} {r nv : Int} {s' : St} {oA' : Option Nat} (h : WholeAt n0 s B oA A1 A2 A3 r nv) (m : Mut s B oA s' oA') : WholeAt n0 s' B oA' A1 A2 A3 r nv := by
  obtain ⟨t1, t2, t3, o1, o2, o3, h1, h2, h3, k1, k2, k3, k4⟩ := h
  have key : ∀ A, A < s.n → oA ≠ some A → oA' ≠ some A := fun A hA hne => by
    rcases m.own with rfl | ⟨A', rfl, hA'⟩
    · exact hne
    · intro e; cases e; omega
  exact ⟨t1, t2, t3, o1, o2, o3, (m.same A1 (St.at_lt h1) k1.1 k1.2).trans h1, (m.same A2 (St.at_lt h2) k2.1 k2.2).trans h2, (m.same A3 (St.at_lt h3) k3.1 k3.2).trans h3,
    ⟨k1.1, key _ (St.at_lt h1) k1.2⟩, ⟨k2.1, key _ (St.at_lt h2) k2.2⟩, ⟨k3.1, key _ (St.at_lt h3) k3.2⟩, k4⟩
theorem WholeAt.put {n0 A1 A2 A3 A : Nat} {r nv : Int} {s' : St} {o : AO} (h : WholeAt n0 s B oA A1 A2 A3 r nv) (p : Put s A o s') (hA : A < n0) : WholeAt n0 s' B oA A1 A2 A3 r nv := by
  obtain ⟨t1, t2, t3, o1, o2, o3, h1, h2, h3, k1, k2, k3, k4⟩ := h
  exact ⟨t1, t2, t3, o1, o2, o3, (p.rest A1 (by omega)).trans h1, (p.rest A2 (by omega)).trans h2, (p.rest A3 (by omega)).trans h3, k1, k2, k3, k4⟩
theorem lWhole (h : Liv ro s B oA d) (hk : ∀ A1 A2 A3 s', Liv ro s' B oA d → Mut s B oA s' oA → WholeAt s.n s' B oA A1 A2 A3 d.rows.length d.nv → K (.func (.func 83) (.mk []) (.mk [ptr A1, ptr A2, ptr A3])) s') : CallWP P ro 40 [ptr B] s K := by
  refine call_wp b40 rfl ?_
  rw [n40]
  unfold v40
  simp (maxSteps := 10000000) only [wW, reduceCtorEq, Nat.reduceEqDiff]
  refine box_rule h.wf.ent fun A1 s1 m1 => ?_
  have h1 := h.ent.grew m1.grew
  obtain ⟨w, e1, e2⟩ := h1.ex
  have hvw : veq w w = true := by
    obtain ⟨a, c, rfl, _⟩ := e2.sl
    simp [veq]
  refine load_rule (load_one ap_25 m1.here rfl) ⟨by simp [veq], ?_⟩
  simp (maxSteps := 10000000) only [wW, reduceCtorEq, Nat.reduceEqDiff, fa_81_1, fa_34_4, fa_34_1, Nat.reduceAdd]
  refine load_rule (load_one ap_32 e1 rfl) ⟨hvw, ?_⟩
  rw [e2.sl.wlen se_32]
  refine load_rule (load_one ap_25 m1.here rfl) ⟨by simp [veq], ?_⟩
  simp (maxSteps := 10000000) only [wW, reduceCtorEq, Nat.reduceEqDiff, fa_81_1, fa_34_4, fa_34_1, Nat.reduceAdd]
  refine load_rule (h1.load ap_3 fun u => rfl) ⟨by simp [veq], ?_⟩
  refine alloc_rule ty_3 m1.wf fun A2 s2 m2 => ⟨m2.fresh (by simp [veqL, veq, Value.cells]), ?_⟩
  refine alloc_rule ty_3 m2.wf fun A3 s3 m3 => ⟨m3.fresh (by simp [veqL, veq, Value.cells]), ?_⟩
  have q1 := m1.n
  have q2 := m2.n
  have q3 := m3.n
  have q1' := m1.eq
  have q2' := m2.eq
  have q3' := m3.eq
  have hn0 : (Go.VE.ent s).n = s.n := rfl
  have hB := h.lt
  have hro := h.ron
  have hA2 : s3.at A2 = _ := (m3.grew.same A2 (by omega)).trans m2.here
  refine store1_rule isz_3 hA2 m3.wf (by omega) (by simp [Value.cells]) rfl fun s4 p4 => ?_
  have g23 := m2.grew.trans m3.grew
  refine ⟨p4.keeps (by simp [rngOff]; omega), ?_⟩
  have q4 := p4.n
  have hA3 : s4.at A3 = _ := (p4.rest A3 (by omega)).trans m3.here
  refine store1_rule isz_3 hA3 p4.wf (by omega) (by simp [Value.cells]) rfl fun s5 p5 => ?_
  refine ⟨by rw [p5.n]; exact Nat.le_refl _, ?_⟩
  have g5 : Grew (Go.VE.ent s) s5 := p5.grew _ h.wf.ent (p4.grew _ h.wf.ent (m1.grew.trans g23) (by omega)) (by omega)
  have hA1 : s5.at A1 = some (.cells [ptr B] 25 false) := (p5.rest A1 (by omega)).trans ((p4.rest A1 (by omega)).trans ((g23.same A1 (by omega)).trans m1.here))
  have hA2' : s5.at A2 = some (.cells [.int .i64 d.rows.length] 3 false) := (p5.rest A2 (by omega)).trans p4.here
  have hA3' : s5.at A3 = some (.cells [.int .i64 d.nv] 3 false) := p5.here
  refine wfin_new h.wf g5 rfl fun s' hg hn hat => hk A1 A2 A3 s' (h.grew hg) (.ofGrew hg) ?_
  have off : ∀ A, s.n ≤ A → A ≠ B ∧ oA ≠ some A := fun A hA => ⟨by omega, fun e => by have := (h.hA A e).2.2; omega⟩
  exact ⟨_, _, _, _, _, _, (hat A1).trans hA1, (hat A2).trans hA2', (hat A3).trans hA3', off _ (by omega), off _ (by omega), off _ (by omega), by omega, by omega, by omega⟩
theorem wdefer_fn [Memo] {P : Program} {ro : Nat} (f : FuncId) (c : List Value) (ty : TypeId) (s : St) (K : Deferred → St → Prop) : wdefer P ro (.defer ⟨.value (.const (.func (.func f) (.mk []) (.mk c))), ⟨[]⟩, #[]⟩) ty s K = K ⟨.fn (.func f) (.mk c), (.mk [])⟩ s := by
  kernel_rfl
theorem sliceHi_rule {v : Value} {n k : Nat} {cs : List Value} (h : Sl s v 11 n cs) (hk : k ≤ n) {ty : TypeId}
    (hK : ∀ w, Sl s w 11 k (cs.take (k * 11)) → (∀ A o sp n c, w = .slice (some ⟨A, o, sp⟩) n c → ∃ o' sp' n' c', v = .slice (some ⟨A, o', sp'⟩) n' c') → w.oneCell' = true → K w s) :
    wop P ro (.slice 32 (.const v) none (some (.const (.int .i64 k))) none) ty s K := by
  have hs : isz P 94 = some 11 := isz_94
  have hund : P.underlying 32 = some (.slice 94) := un_32
  obtain ⟨a, c, rfl, hl, ⟨hc, hnone, hsp⟩, hb⟩ := h
  have hkm : k * 11 ≤ n * 11 := Nat.mul_le_mul_right 11 hk
  have hlen : (cs.take (k * 11)).length = k * 11 := by rw [List.length_take, hl]; omega
  cases a with
  | none =>
    obtain rfl := hnone rfl
    obtain rfl : n = 0 := by omega
    obtain rfl : k = 0 := by omega
    have e : wop P ro (.slice 32 (.const (.slice none 0 0)) none (some (.const (.int .i64 ((0 : Nat) : Int)))) none) ty s K = K (.slice none 0 0) s := by kernel_rfl
    rw [e]
    refine hK _ ⟨none, 0, rfl, by simp, ⟨Nat.le_refl _, fun _ => rfl, fun x h => by cases h⟩, fun h => absurd (Nat.zero_mul 11) h⟩ (fun A o sp n c e => by cases e) rfl
  | some x =>
    obtain ⟨A, o, m⟩ := x
    have hm := hsp _ rfl
    simp only at hm
    have hab : abound (some (.int .i64 k)) n c = some k := by
      simp only [abound]
      rw [if_pos ⟨by omega, by omega⟩]
      rfl
    have hblk : k * 11 ≠ 0 → ∃ A' o' m' cells t op, some (⟨A, o, m⟩ : Addr) = some ⟨A', o', m'⟩ ∧ mkOk m' = true ∧ s.at A' = some (.cells cells t op) ∧ (cells.drop o').take (k * 11) = cs.take (k * 11) := fun hne => by
      obtain ⟨A', o', m', cells, t, op, ha, hm', hA, hcs⟩ := hb (by omega)
      refine ⟨A', o', m', cells, t, op, ha, hm', hA, ?_⟩
      rw [← hcs, List.take_take, Nat.min_eq_left hkm]
    have hlo : ∀ y, abound none 0 y = some 0 := fun _ => rfl
    rw [wop_slice]
    rcases hm with rfl | ⟨rfl, hpos⟩
    · have e : asliceOp P 32 (.slice (some ⟨A, o, none⟩) n c) (Option.map (aval .e) none) (Option.map (aval .e) (some (.const (.int .i64 k)))) (Option.map (aval .e) none) = some (.slice (some ⟨A, o, none⟩) k c) := by
        simp only [asliceOp, hund, hs, sliceTwo, Option.map_some, Option.map_none, aval, hab, hlo, Option.bind_some, Nat.zero_mul, Nat.add_zero, Nat.sub_zero]
        split <;> rfl
      rw [e]
      exact hK _ ⟨_, _, rfl, hlen, ⟨by omega, fun h => (by cases h), fun x hx => by cases hx; exact .inl rfl⟩, hblk⟩ (fun A' o' sp' n' c' e => by cases e; exact ⟨_, _, _, _, rfl⟩) rfl
    · have e : asliceOp P 32 (.slice (some ⟨A, o, some 0⟩) n c) (Option.map (aval .e) none) (Option.map (aval .e) (some (.const (.int .i64 k)))) (Option.map (aval .e) none) = some (.slice (some ⟨A, o, some 0⟩) k c) := by
        simp only [asliceOp, hund, hs, sliceTwo, Option.map_some, Option.map_none, aval, hab, hlo, Option.bind_some, Nat.zero_mul, Nat.add_zero, Nat.sub_zero]
        rw [if_pos hpos]
      rw [e]
      exact hK _ ⟨_, _, rfl, hlen, ⟨by omega, fun h => (by cases h), fun x hx => by cases hx; exact .inr ⟨rfl, hpos⟩⟩, hblk⟩ (fun A' o' sp' n' c' e => by cases e; exact ⟨_, _, _, _, rfl⟩) rfl
def mUndo (d : Bd) (r : Nat) (nv : Int) : Bd := if d.e ≠ 0 then { d with rows := d.rows.take r, nv := nv } else d
theorem rowCells_take : ∀ (l : List Row) (k : Nat), rowCells (l.take k) = (rowCells l).take (k * 11)
  | [], k => by simp [rowCells]
  | r :: l, 0 => by simp [rowCells]
  | r :: l, k + 1 => by
    have ih := rowCells_take l k
    simp only [rowCells, List.take_succ_cons, List.flatMap_cons] at ih ⊢
    rw [ih, Nat.succ_mul, Nat.add_comm (k * 11) 11]
    have : r.cells.length = 11 := rfl
    rw [← this, List.take_length_add_append, this]
theorem lUndo (h : Liv ro s B oA d) {n0 A1 A2 A3 : Nat} {r : Nat} {nv : Int} (hw : WholeAt n0 s B oA A1 A2 A3 r nv) (hr : r ≤ d.rows.length) (hnv : 0 ≤ nv ∧ nv ≤ 40000) {K : St → Prop} (hk : ∀ s', Liv ro s' B oA (mUndo d r nv) → Mut s B oA s' oA → K s') :
    wdefers P ro [⟨.fn (.func 83) (.mk [ptr A1, ptr A2, ptr A3]), (.mk [])⟩] s K := by
  obtain ⟨t1, t2, t3, o1, o2, o3, h1, h2, h3, k1, k2, k3, _⟩ := hw
  show DeferWP P ro 83 [ptr A1, ptr A2, ptr A3] s _
  refine defer_wp b83 ?_
  rw [g83]
  unfold d83
  simp (maxSteps := 10000000) only [wW, reduceCtorEq, Nat.reduceEqDiff, show tau0 [ptr A1, ptr A2, ptr A3] 0 = ptr A1 from rfl, show tau0 [ptr A1, ptr A2, ptr A3] 1 = ptr A2 from rfl, show tau0 [ptr A1, ptr A2, ptr A3] 2 = ptr A3 from rfl]
  obtain ⟨w, e1, e2⟩ := h.ex
  have hvw : veq w w = true := by
    obtain ⟨a, c, rfl, _⟩ := e2.sl
    simp [veq]
  refine load_rule (load_one ap_25 h1 rfl) ?_
  simp (maxSteps := 10000000) only [wW, reduceCtorEq, Nat.reduceEqDiff, fa_81_2]
  refine load_rule (h.load ap_26 fun u => rfl) ?_
  simp (maxSteps := 10000000) only [wW, reduceCtorEq, Nat.reduceEqDiff]
  unfold mUndo at hk
  by_cases he : d.e = 0
  · rw [if_neg (by simp [he])] at hk
    rw [if_neg (by simp [he])]
    exact ⟨trivial, trivial, hk s h (.refl _ _ _)⟩
  · rw [if_pos he] at hk
    rw [if_pos (by simpa using he)]
    refine load_rule (load_one ap_25 h1 rfl) ⟨by simp [veq], ?_⟩
    refine load_rule (load_one ap_25 h1 rfl) ⟨by simp [veq], ?_⟩
    simp (maxSteps := 10000000) only [wW, reduceCtorEq, Nat.reduceEqDiff, fa_81_1, fa_34_4, fa_34_1, Nat.reduceAdd]
    refine load_rule (load_one ap_32 e1 rfl) ⟨hvw, ?_⟩
    refine load_rule (load_one ap_3 h2 rfl) ⟨by simp [veq], ?_⟩
    refine sliceHi_rule e2.sl hr fun w1 hw1 hblk hone => ?_
    refine store1_rule isz_32 e1 h.wf h.hB (by simp [Bd.cells]) hone fun s2 p2 => ?_
    have hB2 : s2.at B = some (.cells (d.cells w1) 81 false) := p2.here
    refine load_rule (load_one ap_25 ((p2.rest A1 k1.1).trans h1) rfl) ?_
    refine load_rule (load_one ap_3 ((p2.rest A3 k3.1).trans h3) rfl) ?_
    simp (maxSteps := 10000000) only [wW, reduceCtorEq, Nat.reduceEqDiff, fa_81_1, fa_34_4, fa_34_1, Nat.reduceAdd]
    refine store1_rule isz_3 hB2 p2.wf h.hB (by simp [Bd.cells]) rfl fun s3 p3 => ?_
    have hr0 := h.r0
    have hrB := h.hB
    refine ⟨trivial, trivial, hk s3 ⟨p3.wf, ?_, hr0, hrB, fun A hA => by rw [p3.n, p2.n]; exact h.hA A hA, ⟨h.ok.f, hnv, ?_⟩, w1, p3.here, ?_, ?_, fun h0 => absurd h0 he⟩ ⟨?_, ?_, .inl rfl, .inl ?_⟩⟩
    · obtain ⟨x0, x1, x2, x3, n0, n1, n2, n3, c0, c1, c2, c3, t, op, hf⟩ := h.fl
      exact ⟨x0, x1, x2, x3, n0, n1, n2, n3, c0, c1, c2, c3, t, op, by rw [p3.rest 0 (by omega), p2.rest 0 (by omega)]; exact hf⟩
    · show (d.rows.take r).length ≤ 8000
      rw [List.length_take]
      have := h.ok.rows
      omega
    · show Sl s3 w1 11 (d.rows.take r).length (rowCells (d.rows.take r))
      rw [rowCells_take, List.length_take, Nat.min_eq_left hr]
      refine hw1.sameAt fun A o sp n c e => ?_
      obtain ⟨o', sp', n', c', e'⟩ := hblk A o sp n c e
      have hA := h.hA A (e2.blk A o' sp' n' c' e')
      rw [p3.rest A hA.2.1, p2.rest A hA.2.1]
    · intro A o sp n c e
      obtain ⟨o', sp', n', c', e'⟩ := hblk A o sp n c e
      exact e2.blk A o' sp' n' c' e'
    · rw [p3.n, p2.n]; exact Nat.le_refl _
    · intro C _ hC _
      rw [p3.rest C hC, p2.rest C hC]
    · rw [p3.lo]; exact Nat.min_le_right _ _
end
end Go.VE
/- A builder: New, pair, Gates. -/
namespace Go.VE
open Go Go.Proofs
set_option maxRecDepth 20000
section
variable {ro : Nat} {s : St} {B : Nat} {oA : Option Nat} {d : Bd} {K : Value → St → Prop}
theorem lNew (f pub sec : Int) (hw : Wf s) (hF : FieldsAt s) (hro : ro ≤ s.n) (hr0 : 0 < ro)
    (h0 : ¬ (fV f = true ∧ (0 ≤ pub ∧ pub ≤ 16) ∧ (0 ≤ sec ∧ sec ≤ 20000)) → K (.tuple (.mk [.pointer none, .int .i64 1])) s)
    (h1 : fV f = true → (0 ≤ pub ∧ pub ≤ 16) → (0 ≤ sec ∧ sec ≤ 20000) → ∀ s', Grew s s' → Liv ro s' s.n none ⟨f, pub + sec, pub, sec, [], 0⟩ → K (.tuple (.mk [ptr s.n, .int .i64 0])) s') :
    CallWP P ro 9 [.int .i64 f, .int .i64 pub, .int .i64 sec] s K := by
  refine call_wp b9 rfl ?_
  rw [n9]
  unfold v9
  simp (maxSteps := 10000000) only [wW, reduceCtorEq, Nat.reduceEqDiff, wfValid]
  by_cases hf : fV f = true
  · rw [if_neg (by simp [hf])]
    by_cases a1 : pub < 0
    · rw [if_pos a1]; exact fin_flat rfl (.refl _) (h0 (by omega))
    rw [if_neg a1]
    by_cases a2 : pub > 16
    · rw [if_pos a2]; exact fin_flat rfl (.refl _) (h0 (by omega))
    rw [if_neg a2]
    by_cases a3 : sec < 0
    · rw [if_pos a3]; exact fin_flat rfl (.refl _) (h0 (by omega))
    rw [if_neg a3]
    by_cases a4 : sec > 20000
    · rw [if_pos a4]; exact fin_flat rfl (.refl _) (h0 (by omega))
    rw [if_neg a4, wrap_i64 (by omega) (by omega)]
    rw [show abuild P 34 (partVals .e [(0, .const (.int .i64 f)), (1, .const (.int .i64 (pub + sec))), (2, .const (.int .i64 pub)), (3, .const (.int .i64 sec))]) = some (.agg (.mk [.int .i64 f, .int .i64 (pub + sec), .int .i64 pub, .int .i64 sec, .slice none 0 0])) by kernel_rfl]
    simp (maxSteps := 10000000) only [wW, reduceCtorEq, Nat.reduceEqDiff]
    rw [show abuild P 81 (partVals .e [(0, .const (.bool true)), (1, .const (.agg (.mk [.int .i64 f, .int .i64 (pub + sec), .int .i64 pub, .int .i64 sec, .slice none 0 0])))]) = some (.agg (.mk (Bd.cells ⟨f, pub + sec, pub, sec, [], 0⟩ (.slice none 0 0)))) by kernel_rfl]
    simp (maxSteps := 10000000) only [wW, reduceCtorEq, Nat.reduceEqDiff]
    refine box_rule hw.ent fun A s1 m1 => ?_
    have hA : A = s.n := m1.eq
    subst hA
    refine wfin_new hw m1.grew rfl fun s' hg hn hat => h1 hf (by omega) (by omega) s' hg ?_
    exact ⟨hw.grew hg, hF.grew hg, hr0, hro, fun A h => (by cases h), ⟨hf, by show 0 ≤ pub + sec ∧ pub + sec ≤ 40000; omega, Nat.zero_le _⟩, .slice none 0 0, by rw [hat]; exact m1.here, RowsAt.ofOwn ⟨rfl, rfl, rfl⟩⟩
  · rw [if_pos (by simpa using hf)]
    exact fin_flat rfl (.refl _) (h0 fun h => hf h.1)
def mPair (d : Bd) (u v : Int) : Int × Int := if d.e ≠ 0 then (-1, -1) else (u, v)
theorem lPair (h : Liv ro s B oA d) (u v : Int) : CallWP P ro 57 [ptr B, .int .i64 u, .int .i64 v] s K = K (.agg (.mk [.int .i64 (mPair d u v).1, .int .i64 (mPair d u v).2])) s := by
  refine callEq (call_wp b57 rfl ?_) K
  rw [n57]
  unfold v57
  simp (maxSteps := 10000000) only [wW, reduceCtorEq, Nat.reduceEqDiff]
  refine alloc_rule ty_47 h.wf.ent fun A s1 m1 => ?_
  have h1 := h.ent.grew m1.grew
  have hA : s.n ≤ A := by rw [m1.eq]; exact Nat.le_refl _
  have hro := h.ron
  simp (maxSteps := 10000000) only [wW, reduceCtorEq, Nat.reduceEqDiff, fa_81_2]
  refine load_rule (h1.load ap_26 fun u => rfl) ?_
  simp (maxSteps := 10000000) only [wW, reduceCtorEq, Nat.reduceEqDiff]
  unfold mPair
  by_cases he : d.e = 0
  · rw [if_neg (by simp [he]), if_neg (by simp [he])]
    rw [show abuild P 47 (partVals .e [(0, .const (.int .i64 u)), (1, .const (.int .i64 v))]) = some (.agg (.mk [.int .i64 u, .int .i64 v])) by kernel_rfl]
    simp (maxSteps := 10000000) only [wW, reduceCtorEq, Nat.reduceEqDiff]
    refine storeAll_rule isz_47 m1.here rfl (by decide) m1.wf (by omega) rfl rfl fun s2 p2 => ?_
    refine load_rule (load_all ap_47 p2.here rfl) ?_
    exact fin_flat rfl (p2.grew _ h.wf.ent m1.grew hA) ⟨rfl, rfl⟩
  · rw [if_pos (by simpa using he), if_pos he]
    rw [show abuild P 47 (partVals .e [(0, .const (.int .i64 (-1))), (1, .const (.int .i64 (-1)))]) = some (.agg (.mk [.int .i64 (-1), .int .i64 (-1)])) by kernel_rfl]
    simp (maxSteps := 10000000) only [wW, reduceCtorEq, Nat.reduceEqDiff]
    refine storeAll_rule isz_47 m1.here rfl (by decide) m1.wf (by omega) rfl rfl fun s2 p2 => ?_
    refine load_rule (load_all ap_47 p2.here rfl) ?_
    exact fin_flat rfl (p2.grew _ h.wf.ent m1.grew hA) ⟨rfl, rfl⟩
end
end Go.VE
/- A builder that lives: Select. -/
namespace Go.VE
open Go Go.Proofs
set_option maxRecDepth 20000
structure Bd.Le (d d' : Bd) : Prop where
  rows : d.rows.length ≤ d'.rows.length
  f : d'.f = d.f
  pub : d'.pub = d.pub
  sec : d'.sec = d.sec
theorem Bd.Le.refl (d : Bd) : d.Le d := ⟨Nat.le_refl _, rfl, rfl, rfl⟩
theorem Bd.Le.trans {a b c : Bd} (h : a.Le b) (k : b.Le c) : a.Le c := ⟨Nat.le_trans h.rows k.rows, k.f.trans h.f, k.pub.trans h.pub, k.sec.trans h.sec⟩
theorem mready_le (d : Bd) (c : Bool) : d.Le (mready d c).1 := by
  unfold mready
  by_cases he : d.e ≠ 0
  · rw [if_pos he]; exact .refl d
  · rw [if_neg he]
    cases c with
    | true => exact .refl d
    | false => exact ⟨Nat.le_refl _, rfl, rfl, rfl⟩
theorem mput_le (d : Bd) (n : Int) (r : List Row) : d.Le (mput d n r).1 := by
  unfold mput
  by_cases he : d.e ≠ 0
  · rw [if_pos he]; exact .refl d
  · rw [if_neg he]
    by_cases hf : d.full n r
    · rw [if_pos hf]; exact ⟨Nat.le_refl _, rfl, rfl, rfl⟩
    · rw [if_neg hf]; exact ⟨by simp [Bd.add], rfl, rfl, rfl⟩
theorem mLinear_le (d : Bd) (u v x y z : Int) : d.Le (mLinear d u v x y z).1 := by
  unfold mLinear
  split
  · exact mput_le _ _ _
  · exact mready_le _ _
theorem mMul_le (d : Bd) (u v : Int) : d.Le (mMul d u v).1 := by
  unfold mMul
  split
  · exact mput_le _ _ _
  · exact mready_le _ _
theorem mConst_le (d : Bd) (x : Int) : d.Le (mConst d x).1 := by
  unfold mConst
  split
  · exact mput_le _ _ _
  · exact mready_le _ _
theorem mUndo_le {d0 d : Bd} (h : d0.Le d) {nv : Int} : d0.Le (mUndo d d0.rows.length nv) := by
  unfold mUndo
  split
  · refine ⟨?_, h.f, h.pub, h.sec⟩
    show d0.rows.length ≤ (d.rows.take d0.rows.length).length
    rw [List.length_take]
    have := h.rows
    omega
  · exact h
noncomputable def mSelect (d : Bd) (s u v : Int) : Bd × Int :=
  if (mready d (kn d [s, u, v] && nums d [])).2 = true then
    (mUndo (mLinear (mMul (mLinear d u v (fP d.f - 1) 1 0).1 s (mLinear d u v (fP d.f - 1) 1 0).2).1 u (mMul (mLinear d u v (fP d.f - 1) 1 0).1 s (mLinear d u v (fP d.f - 1) 1 0).2).2 1 1 0).1 d.rows.length d.nv,
      (mLinear (mMul (mLinear d u v (fP d.f - 1) 1 0).1 s (mLinear d u v (fP d.f - 1) 1 0).2).1 u (mMul (mLinear d u v (fP d.f - 1) 1 0).1 s (mLinear d u v (fP d.f - 1) 1 0).2).2 1 1 0).2)
  else ((mready d (kn d [s, u, v] && nums d [])).1, -1)
section
variable {ro : Nat} {s : St} {B : Nat} {oA : Option Nat} {d : Bd} {K : Value → St → Prop}
theorem lSelect (h : Liv ro s B oA d) (x u v : Int) (hk : ∀ s' oA', Liv ro s' B oA' (mSelect d x u v).1 → Mut s B oA s' oA' → K (.int .i64 (mSelect d x u v).2) s') :
    CallWP P ro 55 [ptr B, .int .i64 x, .int .i64 u, .int .i64 v] s K := by
  refine call_wp b55 rfl ?_
  rw [n55]
  unfold v55
  simp (maxSteps := 10000000) only [wW, reduceCtorEq, Nat.reduceEqDiff]
  refine buildSlice_rule se_30 ty_3 h.wf.ent [.int .i64 x, .int .i64 u, .int .i64 v] rfl rfl (by decide) (by simp [Value.cells]) fun A1 s1 m1 => ?_
  have hI : Ints s1 (.slice (some ⟨A1, 0, none⟩) 3 3) [x, u, v] := m1.sl rfl
  rw [lKnown (h.ent.grew m1.grew) hI (show 3 < 2 ^ 62 by decide)]
  refine lReady' (h.ent.grew m1.grew) _ (U64s.nil _) (show 0 < 2 ^ 62 by decide) fun s3 h3 m3 => ?_
  have hk' := hk
  unfold mSelect at hk'
  simp (maxSteps := 10000000) only [wW, reduceCtorEq, Nat.reduceEqDiff]
  have m3' := Mut.grewL m1.grew m3
  by_cases hr : (mready d (kn d [x, u, v] && nums d [])).2 = true
  · rw [if_pos hr] at hk'
    obtain ⟨e1, he, _⟩ := mready_true hr
    rw [hr, if_neg (by decide)]
    rw [e1] at h3
    refine lWhole h3 fun A1 A2 A3 s4 h4 m4 hw4 => ⟨trivial, ?_⟩
    rw [wdefer_fn, lMinus h4]
    refine lLinear h4 _ _ _ _ _ fun s5 oA5 h5 m5 => ?_
    refine lMul h5 _ _ fun s6 oA6 h6 m6 => ?_
    refine lLinear h6 _ _ _ _ _ fun s7 oA7 h7 m7 => ?_
    have m47 := m5.trans (m6.trans m7)
    refine lUndo h7 (hw4.mut m47) ((mLinear_le _ _ _ _ _ _).trans ((mMul_le _ _ _).trans (mLinear_le _ _ _ _ _ _))).rows h.ok.nv fun s8 h8 m8 => ?_
    exact fin_mut h h8 (m3'.trans (m4.trans (m47.trans m8))) rfl fun s' h' m' => hk' s' _ h' m'
  · rw [if_neg hr] at hk'
    have hr' : (mready d (kn d [x, u, v] && nums d [])).2 = false := by simpa using hr
    rw [hr', if_pos rfl]
    exact fin_mut h h3 m3' rfl (fun s' h' m' => hk' s' oA h' m')
end
end Go.VE
/- A builder that lives: Perm. -/
namespace Go.VE
open Go Go.Proofs
set_option maxRecDepth 20000
structure W4 where
  a : Int
  b : Int
  c : Int
  d : Int
def W4.cells (w : W4) : List Value := [.int .i64 w.a, .int .i64 w.b, .int .i64 w.c, .int .i64 w.d]
def W4.list (w : W4) : List Int := [w.a, w.b, w.c, w.d]
def roundRow (w : W4) (r : Int) : Row := ⟨3, w.a, w.b, w.c, w.d, 0, 0, 0, 0, 0, r⟩
def endRow (w : W4) : Row := ⟨0, w.a, w.b, w.c, w.d, 0, 0, 0, 0, 0, 0⟩
def nextW (nv : Int) (i : Nat) : W4 := ⟨nv + 4 * i, nv + 4 * i + 1, nv + 4 * i + 2, nv + 4 * i + 3⟩
def wiresAt (nv : Int) (w : W4) : Nat → W4
  | 0 => w
  | i + 1 => nextW nv i
def roundRows (nv : Int) (w : W4) : Nat → List Row
  | 0 => []
  | i + 1 => roundRows nv w i ++ [roundRow (wiresAt nv w i) i]
theorem roundRows_len (nv : Int) (w : W4) : ∀ i, (roundRows nv w i).length = i
  | 0 => rfl
  | i + 1 => by simp [roundRows, roundRows_len nv w i]
def permRows (nv : Int) (w : W4) : List Row := roundRows nv w 8 ++ [endRow (wiresAt nv w 8)]
def none4 : W4 := ⟨-1, -1, -1, -1⟩
noncomputable def mPerm (d : Bd) (w : W4) : Bd × W4 :=
  if (mready d (kn d w.list && nums d [])).2 = true then
    ((mput d 32 (permRows d.nv w)).1, if (mput d 32 (permRows d.nv w)).2 < 0 then none4 else wiresAt d.nv w 8)
  else ((mready d (kn d w.list && nums d [])).1, none4)
section
variable {ro : Nat} {s : St} {B : Nat} {oA : Option Nat} {d : Bd} {K : Value → St → Prop}
theorem Liv.put {A : Nat} {o : AO} {s' : St} (h : Liv ro s B oA d) (p : Put s A o s') (hA : ro ≤ A ∧ A ≠ B ∧ oA ≠ some A) : Liv ro s' B oA d := by
  obtain ⟨u, e1, e2⟩ := h.ex
  have h0 := h.r0
  refine ⟨p.wf, ?_, h.r0, h.hB, fun C hC => by rw [p.n]; exact h.hA C hC, h.ok, u, (p.rest B (Ne.symm hA.2.1)).trans e1, e2.same fun C hC => p.rest C fun e => hA.2.2 (by rw [← e]; exact hC)⟩
  obtain ⟨x0, x1, x2, x3, n0, n1, n2, n3, c0, c1, c2, c3, t, op, hf⟩ := h.fl
  exact ⟨x0, x1, x2, x3, n0, n1, n2, n3, c0, c1, c2, c3, t, op, by rw [p.rest 0 (by omega)]; exact hf⟩
theorem Mut.put {s0 s' : St} {A : Nat} {o : AO} {oA' : Option Nat} (m : Mut s0 B oA s oA') (hw : Wf s0) (p : Put s A o s') (hA : s0.n ≤ A) : Mut s0 B oA s' oA' := by
  refine ⟨by rw [p.n]; exact m.n, fun C hC hB hx => (p.rest C (by omega)).trans (m.same C hC hB hx), m.own, ?_⟩
  rcases m.chg with hlo | ⟨hg, rfl⟩
  · exact .inl (by rw [p.lo]; exact Nat.le_trans (Nat.min_le_left _ _) hlo)
  · exact .inr ⟨p.grew _ hw hg hA, rfl⟩
structure Loc (b s s' : St) : Prop where
  n : s.n ≤ s'.n
  same : ∀ C, C < b.n → s'.at C = s.at C
  lo : s'.lo ≤ s.lo
  wf : Wf s'
  grew : ∀ s0, s0.n = b.n → Wf s0 → Grew s0 s → Grew s0 s'
theorem Loc.refl {b s : St} (hw : Wf s) : Loc b s s := ⟨Nat.le_refl _, fun _ _ => rfl, Nat.le_refl _, hw, fun _ _ _ h => h⟩
theorem Loc.trans {b x y z : St} (h : Loc b x y) (k : Loc b y z) : Loc b x z := ⟨Nat.le_trans h.n k.n, fun C hC => (k.same C hC).trans (h.same C hC), Nat.le_trans k.lo h.lo, k.wf, fun s0 h0 hw hg => k.grew s0 h0 hw (h.grew s0 h0 hw hg)⟩
theorem Loc.ofGrew {b x y : St} (hw : Wf x) (hb : b.n ≤ x.n) (h : Grew x y) : Loc b x y := ⟨h.n, fun C hC => h.same C (by omega), by rw [h.lo]; exact Nat.le_refl _, hw.grew h, fun _ _ _ hg => hg.trans h⟩
end
end Go.VE
/- A builder that lives: Draw. -/
namespace Go.VE
open Go Go.Proofs
set_option maxRecDepth 20000
section
variable {ro : Nat} {s : St} {B : Nat} {oA : Option Nat} {d : Bd} {K : Value → St → Prop}
theorem Mut.own_ne {s' : St} {oA' : Option Nat} (m : Mut s B oA s' oA') {A : Nat} (hA : A < s.n) (h : oA ≠ some A) : oA' ≠ some A := by
  rcases m.own with rfl | ⟨A', rfl, h'⟩
  · exact h
  · intro e; cases e; omega
end
end Go.VE
/- A builder that lives: Absorb. -/
namespace Go.VE
open Go Go.Proofs
set_option maxRecDepth 20000
section
variable {ro : Nat} {s : St} {B : Nat} {oA : Option Nat} {d : Bd} {K : Value → St → Prop}
end
end Go.VE
/- The reference of the gates: Reads, below. -/
namespace Go.VE
open Go Go.Proofs
set_option maxRecDepth 20000
structure Ac (e : TypeId) (sz : Nat) (s0 s : St) (v : Value) (n : Nat) (cs : List Value) (oA : Option Nat) : Prop where
  own : Own s v e sz n cs oA
  fresh : ∀ A, oA = some A → s0.n ≤ A
  wf : Wf s
  grew : Grew s0 s
section
variable {ro : Nat} {K : Value → St → Prop}
theorem Ac.nil {e : TypeId} {sz : Nat} {s0 s : St} (hw : Wf s) (hg : Grew s0 s) : Ac e sz s0 s (.slice none 0 0) 0 [] none := ⟨⟨rfl, rfl, rfl⟩, fun _ h => (by cases h), hw, hg⟩
theorem Ac.pushs {t e : TypeId} {sz bytes : Nat} {z : Value} (hse : sliceElem P t = some e) (hni : notInt P t = true) (hty : tyOk P e sz bytes z = true) (hsz : 0 < sz) (hsm : sz ≤ 100) (hby : 0 < bytes) {s0 s : St} {v : Value} {n : Nat} {cs : List Value} {oA : Option Nat} (h : Ac e sz s0 s v n cs oA) (hw0 : Wf s0) (hro : ro ≤ s0.n)
    {m : Nat} {ps : List (Nat × Operand)} {vs new : List Value} (hps : partVals .e ps = enumP vs 0) (hm : vs.length = m) (hm0 : 0 < m) (hm1 : m ≤ 1000) (hv : ∀ v ∈ vs, v.cells.size = sz) (hx : vs.flatMap (·.cells.toList) = new) (hl : new.length = m * sz) (h1 : new.all (·.oneCell') = true) (hlim : (2 * (n + m) + 1000) * bytes ≤ 2 ^ 47) {ty ty' : TypeId} {K : Value → Value → St → Prop}
    (hk : ∀ v1 v2 A s2, Ac e sz s0 s2 v2 (n + m) (cs ++ new) (some A) → s.n ≤ A → (∀ C, C < s.n → oA ≠ some C → s2.at C = s.at C) → K v1 v2 s2) :
    wop P ro (.buildSlice t m ⟨ps⟩) ty s fun v1 s1 => wop P ro (.call ⟨.builtin .append, ⟨[.const v, .const v1]⟩, #[t, t]⟩) ty' s1 (fun v2 s2 => K v1 v2 s2) := by
  have hms : m * sz ≤ 1000 * 100 := Nat.mul_le_mul hm1 hsm
  refine buildSlice_rule hse hty h.wf vs hps hm (by omega) hv fun A s1 m1 => ?_
  rw [hx] at m1
  refine append_rule hse hni hty hsz hby (h.own.grew m1.grew) (m1.sl (n := m) hl) hm0 m1.wf (fun B hB => Nat.le_trans hro (h.fresh B hB)) hlim h1 fun v2 s2 o2 a2 => ?_
  have hgn := h.grew.n
  have e1 := m1.eq
  have n1 := m1.n
  refine hk _ v2 s1.n s2 ⟨o2, fun B hB => by cases hB; omega, a2.wf, a2.grew s0 hw0 (h.grew.trans m1.grew) h.fresh⟩ (by omega) fun C hC hne => ?_
  rw [a2.rest C (by omega) hne]
  exact m1.grew.same C hC
theorem Ac.push {t e : TypeId} {sz bytes : Nat} {z : Value} (hse : sliceElem P t = some e) (hni : notInt P t = true) (hty : tyOk P e sz bytes z = true) (hsz : 0 < sz) (hsm : sz ≤ 100) (hby : 0 < bytes) {s0 s : St} {v : Value} {n : Nat} {cs : List Value} {oA : Option Nat} (h : Ac e sz s0 s v n cs oA) (hw0 : Wf s0) (hro : ro ≤ s0.n)
    {x : Value} {new : List Value} (hx : x.cells.toList = new) (hl : new.length = sz) (h1 : new.all (·.oneCell') = true) (hlim : (2 * (n + 1) + 1000) * bytes ≤ 2 ^ 47) {ty ty' : TypeId} {K : Value → Value → St → Prop}
    (hk : ∀ v1 v2 A s2, Ac e sz s0 s2 v2 (n + 1) (cs ++ new) (some A) → s.n ≤ A → (∀ C, C < s.n → oA ≠ some C → s2.at C = s.at C) → K v1 v2 s2) :
    wop P ro (.buildSlice t 1 ⟨[(0, .const x)]⟩) ty s fun v1 s1 => wop P ro (.call ⟨.builtin .append, ⟨[.const v, .const v1]⟩, #[t, t]⟩) ty' s1 (fun v2 s2 => K v1 v2 s2) := by
  have hsx : x.cells.size = sz := by rw [← hl, ← hx]; simp
  exact h.pushs hse hni hty hsz hsm hby hw0 hro (m := 1) (vs := [x]) rfl rfl (by decide) (by decide) (fun u hu => by simp only [List.mem_cons, List.not_mem_nil, or_false] at hu; rw [hu]; exact hsx) (by simp [hx]) (by rw [hl, Nat.one_mul]) h1 hlim hk
def rds (r : Row) : List Int :=
  if r.k = 1 then (if r.ql ≠ 0 ∨ r.qm ≠ 0 then [0] else []) ++ (if r.qr ≠ 0 ∨ r.qm ≠ 0 then [1] else []) ++ (if r.qo ≠ 0 then [2] else [])
  else if r.k = 2 then [0] else if r.k = 3 then [0, 1, 2, 3] else []
theorem Ac.fin {s : St} {sz : Nat} {e : TypeId} {s1 : St} {v : Value} {n : Nat} {cs : List Value} {oA : Option Nat} (h : Ac e sz (ent s) s1 v n cs oA) (hw : Wf s) (hk : ∀ s', Grew s s' → Sl s' v sz n cs → K v s') : wfin s K v s1 :=
  wfin_sl hw h.grew h.own.sl hk
theorem wReads (r : Row) {s : St} (hw : Wf s) (hro : ro ≤ s.n) (hk : ∀ v s', Grew s s' → Ints s' v (rds r) → K v s') : CallWP P ro 98 [.agg (.mk r.cells)] s K := by
  refine call_wp b98 rfl ?_
  rw [n98]
  unfold v98
  simp (maxSteps := 10000000) only [wW, reduceCtorEq, Nat.reduceEqDiff]
  refine box_rule hw.ent fun R s1 m1 => ?_
  have hR : s1.at R = some (.cells r.cells 94 false) := m1.here
  have hR1 : acells (s1.at R) = some r.cells := acells_some hR
  simp (maxSteps := 10000000) only [wW, reduceCtorEq, Nat.reduceEqDiff, wL, Nat.reduceAdd, hR1]
  have a1 : Ac 3 1 (ent s) s1 (.slice none 0 0) 0 [] none := .nil m1.wf m1.grew
  have fin : ∀ {v : Value} {s2 : St} {oA : Option Nat} {l : List Int}, Ac 3 1 (ent s) s2 v l.length (l.map (.int .i64)) oA → l = rds r → wfin s K v s2 := fun {v s2 oA l} ha hl => by
    refine ha.fin hw fun s' hg hs => hk v s' hg ?_
    unfold Ints
    rw [← hl]
    exact hs
  have hn1 := m1.n
  have he1 := m1.eq
  have hne : (ent s).n = s.n := rfl
  have push : ∀ {s2 : St} {v : Value} {l : List Int} {oA : Option Nat} (x : Int), Ac 3 1 (ent s) s2 v l.length (l.map (.int .i64)) oA → l.length ≤ 100 → ∀ {K : Value → Value → St → Prop}, (∀ v1 v2 A s3, Ac 3 1 (ent s) s3 v2 (l ++ [x]).length ((l ++ [x]).map (.int .i64)) (some A) → s2.n ≤ A → (∀ C, C < s2.n → oA ≠ some C → s3.at C = s2.at C) → K v1 v2 s3) →
      wop P ro (.buildSlice 30 1 ⟨[(0, .const (.int .i64 x))]⟩) 30 s2 fun v1 s1 => wop P ro (.call ⟨.builtin .append, ⟨[.const v, .const v1]⟩, #[30, 30]⟩) 30 s1 (fun v2 s2 => K v1 v2 s2) := fun {s2 v l oA} x ha hl {K} hk => by
    refine ha.push se_30 (by kernel_rfl) ty_3 (by decide) (by decide) (by decide) hw.ent hro rfl rfl rfl (by omega) fun v1 v2 A s3 h3 hA hC => hk v1 v2 A s3 ?_ hA hC
    rw [List.map_append, List.length_append]
    exact h3
  have third : ∀ {s2 : St} {v : Value} {l : List Int} {oA : Option Nat} {τ : Tau}, Ac 3 1 (ent s) s2 v l.length (l.map (.int .i64)) oA → l = rds r → ∀ (al : AL), U τ al 3 = v →
      blkX 0 (sX (prims P ro) none 47 k98 c98_111 [1, 1, 1] (xleave (prims P ro) s Tryd.f98.results.toList K)) .normal τ al [] s2 := fun {s2 v l oA τ} ha hl al hv => by
    rw [blkX_n, sX_n .leave, n98_111]
    unfold v98_111
    rw [xleave_U, r98]
    simp (maxSteps := 10000000) only [wW, reduceCtorEq, Nat.reduceEqDiff, U, tset_eq, Nat.reduceEqDiff] at hv ⊢
    rw [hv]
    exact fin ha hl
  have second : ∀ {s2 : St} {v : Value} {l : List Int} {oA : Option Nat} {τ : Tau}, τ 3 = v → τ 1 = ptr R → Ac 3 1 (ent s) s2 v l.length (l.map (.int .i64)) oA → (∀ A, oA = some A → A ≠ R) → l.length ≤ 50 → acells (s2.at R) = some r.cells → l ++ ((if r.qr ≠ 0 ∨ r.qm ≠ 0 then [1] else []) ++ (if r.qo ≠ 0 then [2] else [])) = rds r →
      xp (prims P ro) none 47 k98 c98_11010101 [1, 0, 1, 0, 1, 0, 1, 1] τ [] [] s2 (blkX 0 (sX (prims P ro) none 47 k98 c98_111 [1, 1, 1] (xleave (prims P ro) s Tryd.f98.results.toList K))) := fun {s2 v l oA τ} h3 h1 ha hAR hlen hR2 hl => by
    have hRn : R < s2.n := by
      rw [St.at_eq] at hR2
      split at hR2
      · assumption
      · cases hR2
    have fourth : ∀ {s2 : St} {v : Value} {l : List Int} {oA : Option Nat}, Ac 3 1 (ent s) s2 v l.length (l.map (.int .i64)) oA → l.length ≤ 60 → l ++ (if r.qo ≠ 0 then [2] else []) = rds r → acells (s2.at R) = some r.cells → ∀ {Y : Value → Value → St → Prop} {N : Prop},
        (r.qo ≠ 0 → ∀ v1 v2 s3, (∀ al : AL, U τ al 3 = v2 → blkX 0 (sX (prims P ro) none 47 k98 c98_111 [1, 1, 1] (xleave (prims P ro) s Tryd.f98.results.toList K)) .normal τ al [] s3) → Y v1 v2 s3) →
        (r.qo = 0 → (∀ al : AL, U τ al 3 = v → blkX 0 (sX (prims P ro) none 47 k98 c98_111 [1, 1, 1] (xleave (prims P ro) s Tryd.f98.results.toList K)) .normal τ al [] s2) → N) →
        if ¬r.qo = 0 then wop P ro (.buildSlice 30 1 ⟨[(0, .const (.int .i64 2))]⟩) 30 s2 fun v1 s1 => wop P ro (.call ⟨.builtin .append, ⟨[.const v, .const v1]⟩, #[30, 30]⟩) 30 s1 (fun v2 s2 => Y v1 v2 s2) else N := fun {s2 v l oA} ha hlen hl hR2 {Y N} hY hN => by
      by_cases hq : r.qo = 0
      · rw [if_neg (by simpa using hq)]
        refine hN hq fun al hal => third (τ := τ) ha ?_ al hal
        rw [if_neg (by simpa using hq), List.append_nil] at hl
        exact hl
      · rw [if_pos hq]
        refine push 2 ha (by omega) fun v1 v2 A s3 a3 hA hC => hY hq v1 v2 s3 fun al hal => third (τ := τ) a3 ?_ al hal
        rw [if_pos hq] at hl
        exact hl
    rw [n98_11010101]
    unfold v98_11010101
    simp (maxSteps := 10000000) only [wW, reduceCtorEq, Nat.reduceEqDiff, wL, Nat.reduceAdd, h1, h3, hR2]
    have step : l.length ≤ 50 → ∀ {Y : Value → Value → St → Prop}, (r.qr ≠ 0 ∨ r.qm ≠ 0) → (∀ v1 v2 A s3, Ac 3 1 (ent s) s3 v2 (l ++ [1]).length ((l ++ [1]).map (.int .i64)) (some A) → acells (s3.at R) = some r.cells → (l ++ [1]) ++ (if r.qo ≠ 0 then [2] else []) = rds r → Y v1 v2 s3) →
        wop P ro (.buildSlice 30 1 ⟨[(0, .const (.int .i64 1))]⟩) 30 s2 fun v1 s1 => wop P ro (.call ⟨.builtin .append, ⟨[.const v, .const v1]⟩, #[30, 30]⟩) 30 s1 (fun v2 s2 => Y v1 v2 s2) := fun hlen {Y} hq hY => by
      refine push 1 ha (by omega) fun v1 v2 A s3 a3 hA hC => hY v1 v2 A s3 a3 ?_ ?_
      · rw [hC R hRn fun e => hAR R e rfl]; exact hR2
      · rw [if_pos hq, ← List.append_assoc] at hl
        exact hl
    by_cases hq1 : r.qr = 0
    · rw [if_neg (by simpa using hq1)]
      by_cases hq2 : r.qm = 0
      · rw [if_neg (by simpa using hq2)]
        rw [if_neg (by simp [hq1, hq2]), List.nil_append] at hl
        refine fourth ha (by omega) hl hR2 (fun hq v1 v2 s3 hh => ?_) (fun hq hh => ?_)
        · exact hh _ (by simp only [U, tset_eq, Nat.reduceEqDiff, if_true, if_false])
        · exact hh _ (by simp only [U, tset_eq, Nat.reduceEqDiff, if_true, if_false, h3])
      · rw [if_pos hq2]
        refine step hlen (.inr hq2) fun v1 v2 A s3 a3 hR3 hl3 => ?_
        simp (maxSteps := 10000000) only [wW, reduceCtorEq, Nat.reduceEqDiff, wL, Nat.reduceAdd, h1, h3, hR3]
        refine fourth a3 (by simp; omega) hl3 hR3 (fun hq v1 v2 s3 hh => ?_) (fun hq hh => ?_)
        · exact hh _ (by simp only [U, tset_eq, Nat.reduceEqDiff, if_true, if_false])
        · exact hh _ (by simp only [U, tset_eq, Nat.reduceEqDiff, if_true, if_false])
    · rw [if_pos hq1]
      refine step hlen (.inl hq1) fun v1 v2 A s3 a3 hR3 hl3 => ?_
      simp (maxSteps := 10000000) only [wW, reduceCtorEq, Nat.reduceEqDiff, wL, Nat.reduceAdd, h1, h3, hR3]
      refine fourth a3 (by simp; omega) hl3 hR3 (fun hq v1 v2 s3 hh => ?_) (fun hq hh => ?_)
      · exact hh _ (by simp only [U, tset_eq, Nat.reduceEqDiff, if_true, if_false])
      · exact hh _ (by simp only [U, tset_eq, Nat.reduceEqDiff, if_true, if_false])
  by_cases h1 : r.k = 1
  · rw [if_pos h1]
    have hrd : rds r = (if r.ql ≠ 0 ∨ r.qm ≠ 0 then [0] else []) ++ ((if r.qr ≠ 0 ∨ r.qm ≠ 0 then [1] else []) ++ (if r.qo ≠ 0 then [2] else [])) := by
      unfold rds; rw [if_pos h1, List.append_assoc]
    have first : (r.ql ≠ 0 ∨ r.qm ≠ 0) → ∀ {Y : Value → Value → St → Prop}, (∀ v1 v2 s3, (∀ τ, τ 3 = v2 → τ 1 = ptr R → xp (prims P ro) none 47 k98 c98_11010101 [1, 0, 1, 0, 1, 0, 1, 1] τ [] [] s3 (blkX 0 (sX (prims P ro) none 47 k98 c98_111 [1, 1, 1] (xleave (prims P ro) s Tryd.f98.results.toList K)))) → Y v1 v2 s3) →
        wop P ro (.buildSlice 30 1 ⟨[(0, .const (.int .i64 0))]⟩) 30 s1 fun v1 s1 => wop P ro (.call ⟨.builtin .append, ⟨[.const (.slice none 0 0), .const v1]⟩, #[30, 30]⟩) 30 s1 (fun v2 s2 => Y v1 v2 s2) := fun hq {Y} hY => by
      refine push (l := []) 0 a1 (by decide) fun v1 v2 A s2 a2 hA hC => hY v1 v2 s2 fun τ h3 hp => second h3 hp a2 (fun B hB => ?_) (by simp) ?_ ?_
      · cases hB; omega
      · rw [hC R (by omega) (fun h => by cases h)]; exact hR1
      · rw [hrd, if_pos hq]; rfl
    by_cases hq1 : r.ql = 0
    · rw [if_neg (by simpa using hq1)]
      by_cases hq2 : r.qm = 0
      · rw [if_neg (by simpa using hq2)]
        refine second (l := []) ?_ ?_ a1 (fun _ h => by cases h) (by simp) hR1 ?_
        · simp only [U, tset_eq, Nat.reduceEqDiff, if_true, if_false]
        · simp only [U, tset_eq, Nat.reduceEqDiff, if_true, if_false]
        · rw [hrd]; simp only [hq1, hq2, ne_eq, not_true, or_self, if_false, List.nil_append]
      · rw [if_pos hq2]
        refine first (.inr hq2) fun v1 v2 s3 hh => hh _ ?_ ?_
        · simp only [U, tset_eq, Nat.reduceEqDiff, if_true, if_false]
        · simp only [U, tset_eq, Nat.reduceEqDiff, if_true, if_false]
    · rw [if_pos hq1]
      refine first (.inl hq1) fun v1 v2 s3 hh => hh _ ?_ ?_
      · simp only [U, tset_eq, Nat.reduceEqDiff, if_true, if_false]
      · simp only [U, tset_eq, Nat.reduceEqDiff, if_true, if_false]
  · rw [if_neg h1]
    by_cases h2 : r.k = 2
    · rw [if_pos h2]
      refine push (l := []) 0 a1 (by decide) fun v1 v2 A s2 a2 _ _ => fin a2 ?_
      simp [rds, h1, h2]
    · rw [if_neg h2]
      by_cases h3 : r.k = 3
      · rw [if_pos h3]
        refine a1.pushs se_30 (by kernel_rfl) ty_3 (by decide) (by decide) (by decide) hw.ent hro (vs := [.int .i64 0, .int .i64 1, .int .i64 2, .int .i64 3]) rfl rfl (by decide) (by decide) (by simp [Value.cells]) rfl rfl rfl (by decide) fun v1 v2 A s3 a3 _ _ => fin (l := [0, 1, 2, 3]) a3 ?_
        simp [rds, h3]
      · rw [if_neg h3]
        exact fin (l := []) a1 (by simp [rds, h1, h2, h3])
end
end Go.VE
/- The reference of the gates: below, sum. -/
namespace Go.VE
open Go Go.Proofs
set_option maxRecDepth 20000
def below (f : Int) (l : List Int) : Bool := l.all fun x => decide (x < fP f)
def at0 (l : List Int) (i : Int) : Int := (l[i.toNat]?).getD 0
theorem at0_get {l : List Int} {i : Int} (h0 : 0 ≤ i) (hi : i < l.length) : l[i.toNat]? = some (at0 l i) := by
  unfold at0
  rw [List.getElem?_eq_getElem (by omega)]; rfl
def sumA (r : Row) (vals : List Int) : Int := if r.ql ≠ 0 ∨ r.qm ≠ 0 then at0 vals r.w0 else 0
def sumB (r : Row) (vals : List Int) : Int := if r.qr ≠ 0 ∨ r.qm ≠ 0 then at0 vals r.w1 else 0
def sumM (f : Int) (r : Row) (vals : List Int) : Int :=
  fAdd f (fAdd f (fAdd f (fMul f r.ql (sumA r vals)) (fMul f r.qr (sumB r vals))) (fMul f r.qm (fMul f (sumA r vals) (sumB r vals)))) r.qc
structure Row.Nn (r : Row) : Prop where
  ql : 0 ≤ r.ql
  qr : 0 ≤ r.qr
  qm : 0 ≤ r.qm
  qo : 0 ≤ r.qo
  qc : 0 ≤ r.qc
section
variable {ro : Nat} {K : Value → St → Prop}
theorem wBelow (f : Int) {s : St} {v : Value} {l : List Int} (hl : U64s s v l) (hlen : l.length < 2 ^ 62) : CallWP P ro 47 [.int .i64 f, v] s K = K (.bool (below f l)) s := by
  refine callEq (call_wp b47 rfl ?_) K
  rw [n47]
  unfold v47
  simp (maxSteps := 10000000) only [wW, reduceCtorEq, Nat.reduceEqDiff]
  refine wloop l47_10100 m47_10100 (fun (i : Nat) τ ds s' => τ 0 = .int .i64 f ∧ τ 1 = v ∧ τ 5 = .int .i64 i ∧ ds = [] ∧ s' = ent s ∧ i ≤ l.length ∧ below f (l.take i) = true) (fun i => l.length - i) ?_ 0 ⟨rfl, rfl, rfl, rfl, rfl, Nat.zero_le _, rfl⟩
  rintro i τ ds s' ⟨h0, h1, h5, rfl, rfl, hi, heq⟩
  rw [n47_10100]
  unfold v47_10100
  simp only [wW, reduceCtorEq, Nat.reduceEqDiff, h0, h1, h5, hl.wlen se_23]
  by_cases hlt : (i : Int) < l.length
  · have hlt' : i < l.length := by omega
    rw [if_pos hlt]
    obtain ⟨A, o, c, e1, e2, e3⟩ := U64s.at1 hl (i := (i : Int)) (x := l[i]) (by omega) (by simp [hlt'])
    simp only [wW, reduceCtorEq, Nat.reduceEqDiff, wL, Nat.reduceAdd, e1, e2, e3, wrP]
    refine ⟨by simp [veq], .refl _, ?_⟩
    by_cases hge : l[i] ≥ fP f
    · rw [if_pos hge, r47]
      simp only [wW, reduceCtorEq, Nat.reduceEqDiff]
      show wfin s _ (.bool false) (ent s)
      rw [wfin_flat (Nat.le_refl _) rfl]
      refine ⟨?_, rfl⟩
      have : below f l = false := by
        unfold below
        rw [List.all_eq_false]
        exact ⟨l[i], List.getElem_mem _, by simpa using hge⟩
      rw [this]
    · rw [if_neg hge]
      refine ⟨i + 1, by omega, h0, h1, ?_, trivial, trivial, hlt', ?_⟩
      · show Value.int .i64 (IntKind.i64.wrap ((i : Int) + 1)) = _
        rw [wrap_i64 (by omega) (by omega)]
        rfl
      · rw [take_succ_eq (List.getElem?_eq_getElem hlt')]
        unfold below at heq ⊢
        rw [List.all_append, heq]
        simp
        omega
  · rw [if_neg hlt, wfin_flat (Nat.le_refl _) rfl]
    refine ⟨?_, rfl⟩
    rw [List.take_of_length_le (by omega)] at heq
    rw [heq]
theorem wSum (f : Int) {r : Row} (hn : r.Nn) {s : St} {u : Value} {vals : List Int} (hw : Wf s) (hro : ro ≤ s.n) (hu : U64s s u vals) (hpos : ∀ x ∈ vals, 0 ≤ x)
    (h0 : r.ql ≠ 0 ∨ r.qm ≠ 0 → 0 ≤ r.w0 ∧ r.w0 < vals.length) (h1 : r.qr ≠ 0 ∨ r.qm ≠ 0 → 0 ≤ r.w1 ∧ r.w1 < vals.length) : CallWP P ro 50 [.int .i64 f, .agg (.mk r.cells), u] s K = K (.int .u64 (sumM f r vals)) s := by
  refine callEq (call_wp b50 rfl ?_) K
  rw [n50]
  unfold v50
  simp (maxSteps := 10000000) only [wW, reduceCtorEq, Nat.reduceEqDiff]
  refine box_rule hw.ent fun R s1 m1 => ?_
  have hR : acells (s1.at R) = some r.cells := acells_some m1.here
  simp (maxSteps := 10000000) only [wW, reduceCtorEq, Nat.reduceEqDiff, wL, Nat.reduceAdd, hR]
  have hu1 : U64s s1 u vals := (Sl.ent hu).grew m1.grew.same
  have hap : ∀ {i : Int}, 0 ≤ at0 vals i := fun {i} => by
    unfold at0
    cases h : vals[i.toNat]? with
    | none => exact Int.le_refl 0
    | some x => exact hpos x (List.mem_of_getElem? h)
  have nA : 0 ≤ sumA r vals := by unfold sumA; split; exact hap; exact Int.le_refl 0
  have nB : 0 ≤ sumB r vals := by unfold sumB; split; exact hap; exact Int.le_refl 0
  have last : ∀ {τ : Tau}, τ 0 = .int .i64 f → τ 4 = ptr R → τ 7 = .int .u64 (sumA r vals) → τ 8 = .int .u64 (sumB r vals) → xp (prims P ro) none 65 k50 c50_1111 [1, 1, 1, 1] τ [] [] s1 (xleave (prims P ro) s Tryd.f50.results.toList (fun v s' => v = .int .u64 (sumM f r vals) ∧ s' = s)) := fun {τ} t0 t4 t7 t8 => by
    rw [n50_1111]
    unfold v50_1111
    simp (maxSteps := 10000000) only [wW, reduceCtorEq, Nat.reduceEqDiff, wL, Nat.reduceAdd, t0, t4, t7, t8, hR, wrMul f hn.ql nA, wrMul f hn.qr nB, wrMul f nA nB, wrAdd f (fMul_bounds f r.ql (sumA r vals)).1 (fMul_bounds f r.qr (sumB r vals)).1, wrMul f hn.qm (fMul_bounds f (sumA r vals) (sumB r vals)).1,
      wrAdd f (fAdd_bounds f (fMul f r.ql (sumA r vals)) (fMul f r.qr (sumB r vals))).1 (fMul_bounds f r.qm (fMul f (sumA r vals) (sumB r vals))).1, wrAdd f (fAdd_bounds f (fAdd f (fMul f r.ql (sumA r vals)) (fMul f r.qr (sumB r vals))) (fMul f r.qm (fMul f (sumA r vals) (sumB r vals)))).1 hn.qc]
    refine ⟨by simp [veq], by simp [veq], .refl _, by simp [veq], by simp [veq], .refl _, .refl _, .refl _, ?_⟩
    rw [xleave_U, r50]
    simp (maxSteps := 10000000) only [wW, reduceCtorEq, Nat.reduceEqDiff, U, tset_eq]
    exact fin_flat rfl m1.grew ⟨rfl, rfl⟩
  have snd : ∀ {τ : Tau}, τ 0 = .int .i64 f → τ 2 = u → τ 4 = ptr R → τ 7 = .int .u64 (sumA r vals) → τ 8 = .int .u64 0 → xp (prims P ro) none 65 k50 c50_111 [1, 1, 1] τ [] [] s1 (xleave (prims P ro) s Tryd.f50.results.toList (fun v s' => v = .int .u64 (sumM f r vals) ∧ s' = s)) := fun {τ} t0 t2 t4 t7 t8 => by
    rw [n50_111]
    unfold v50_111
    simp (maxSteps := 10000000) only [wW, reduceCtorEq, Nat.reduceEqDiff, wL, Nat.reduceAdd, t0, t2, t4, t7, t8, hR]
    have rdB : (r.qr ≠ 0 ∨ r.qm ≠ 0) → ∃ A o c, aindexAddr P 23 u (.int .i64 r.w1) = some (.pointer (some ⟨A, o, none⟩)) ∧ acells (s1.at A) = some c ∧ c[o]? = some (.int .u64 (sumB r vals)) := fun hq => by
      have := h1 hq
      refine hu1.at1 this.1 ?_
      unfold sumB
      rw [if_pos hq]
      exact at0_get this.1 this.2
    by_cases hq1 : r.qr = 0
    · rw [if_neg (by simpa using hq1)]
      by_cases hq2 : r.qm = 0
      · rw [if_neg (by simpa using hq2)]
        have hz : sumB r vals = 0 := by unfold sumB; rw [if_neg (by simp [hq1, hq2])]
        refine last ?_ ?_ ?_ ?_ <;> simp only [U, tset_eq, Nat.reduceEqDiff, if_true, if_false, t0, t4, t7, t8, hz]
      · rw [if_pos hq2]
        obtain ⟨A, o, c, e1, e2, e3⟩ := rdB (.inr hq2)
        simp (maxSteps := 10000000) only [wW, reduceCtorEq, Nat.reduceEqDiff, wL, Nat.reduceAdd, e1, e2, e3]
        refine last ?_ ?_ ?_ ?_ <;> simp only [U, tset_eq, Nat.reduceEqDiff, if_true, if_false, t0, t4, t7, t8]
    · rw [if_pos hq1]
      obtain ⟨A, o, c, e1, e2, e3⟩ := rdB (.inl hq1)
      simp (maxSteps := 10000000) only [wW, reduceCtorEq, Nat.reduceEqDiff, wL, Nat.reduceAdd, e1, e2, e3]
      refine last ?_ ?_ ?_ ?_ <;> simp only [U, tset_eq, Nat.reduceEqDiff, if_true, if_false, t0, t4, t7, t8]
  have rdA : (r.ql ≠ 0 ∨ r.qm ≠ 0) → ∃ A o c, aindexAddr P 23 u (.int .i64 r.w0) = some (.pointer (some ⟨A, o, none⟩)) ∧ acells (s1.at A) = some c ∧ c[o]? = some (.int .u64 (sumA r vals)) := fun hq => by
    have := h0 hq
    refine hu1.at1 this.1 ?_
    unfold sumA
    rw [if_pos hq]
    exact at0_get this.1 this.2
  by_cases hq1 : r.ql = 0
  · rw [if_neg (by simpa using hq1)]
    by_cases hq2 : r.qm = 0
    · rw [if_neg (by simpa using hq2)]
      have hz : sumA r vals = 0 := by unfold sumA; rw [if_neg (by simp [hq1, hq2])]
      refine snd ?_ ?_ ?_ ?_ ?_ <;> simp only [U, tset_eq, Nat.reduceEqDiff, if_true, if_false, hz]
    · rw [if_pos hq2]
      obtain ⟨A, o, c, e1, e2, e3⟩ := rdA (.inr hq2)
      simp (maxSteps := 10000000) only [wW, reduceCtorEq, Nat.reduceEqDiff, wL, Nat.reduceAdd, e1, e2, e3]
      refine snd ?_ ?_ ?_ ?_ ?_ <;> simp only [U, tset_eq, Nat.reduceEqDiff, if_true, if_false]
  · rw [if_pos hq1]
    obtain ⟨A, o, c, e1, e2, e3⟩ := rdA (.inl hq1)
    simp (maxSteps := 10000000) only [wW, reduceCtorEq, Nat.reduceEqDiff, wL, Nat.reduceAdd, e1, e2, e3]
    refine snd ?_ ?_ ?_ ?_ ?_ <;> simp only [U, tset_eq, Nat.reduceEqDiff, if_true, if_false]
end
end Go.VE
/- The reference of the sponge: a round. -/
namespace Go.VE
open Go Go.Proofs
set_option maxRecDepth 20000
def it {α : Type} (g : Nat → α → α) : Nat → α → α
  | 0, v => v
  | n + 1, v => g n (it g n v)
theorem it_len {g : Nat → List Int → List Int} (h : ∀ n l, (g n l).length = l.length) : ∀ (n : Nat) (l : List Int), (it g n l).length = l.length
  | 0, _ => rfl
  | n + 1, l => by rw [it, h, it_len h n l]
theorem it_nn {g : Nat → List Int → List Int} (h : ∀ n l, (∀ x ∈ l, 0 ≤ x) → ∀ x ∈ g n l, (0 : Int) ≤ x) {l : List Int} (hl : ∀ x ∈ l, 0 ≤ x) : ∀ (n : Nat), ∀ x ∈ it g n l, 0 ≤ x
  | 0 => hl
  | n + 1 => h n _ (it_nn h hl n)
theorem nn_set {l : List Int} {i : Nat} {y : Int} (hl : ∀ x ∈ l, 0 ≤ x) (hy : 0 ≤ y) : ∀ x ∈ l.set i y, (0 : Int) ≤ x := fun x hx => by
  rcases List.mem_or_eq_of_mem_set hx with h | h
  · exact hl x h
  · rw [h]; exact hy
theorem splice_set {cs : List Value} {i : Nat} {v : Value} (h : i < cs.length) : splice cs i [v] = cs.set i v := by
  unfold splice
  rw [List.set_eq_take_append_cons_drop, if_pos h]
  rfl
def u4 (l : List Int) : List Value := l.map (.int .u64)
theorem u4_set (l : List Int) (i : Nat) (x : Int) (h : i < l.length) : splice (u4 l) i [.int .u64 x] = u4 (l.set i x) := by
  rw [splice_set (by simp [u4, h])]
  simp [u4, List.map_set]
theorem u4_get {l : List Int} {i : Nat} (h : i < l.length) : (u4 l)[i]? = some (.int .u64 (at0 l i)) := by
  unfold u4 at0
  rw [List.getElem?_map, Int.toNat_natCast, List.getElem?_eq_getElem h]
  rfl
theorem at0_nn {l : List Int} (hl : ∀ x ∈ l, 0 ≤ x) (i : Int) : 0 ≤ at0 l i := by
  unfold at0
  cases h : l[i.toNat]? with
  | none => exact Int.le_refl 0
  | some x => exact hl x (List.mem_of_getElem? h)
theorem len4 {l : List Int} (h : l.length = 4) : ∃ a b c d, l = [a, b, c, d] := by
  match l, h with
  | [a, b, c, d], _ => exact ⟨a, b, c, d, rfl⟩
theorem u4_flat {l : List Int} (h : l.length = 4) : flat' (.agg (.mk (u4 l))) = true := by
  obtain ⟨a, b, c, d, rfl⟩ := len4 h
  rfl
theorem u4_one (l : List Int) : (u4 l).all (·.oneCell') = true := by
  rw [List.all_eq_true]
  intro v hv
  obtain ⟨x, _, rfl⟩ := List.mem_map.1 hv
  rfl
theorem u4_len (l : List Int) : (u4 l).length = l.length := by simp [u4]
def fConst (f r j : Int) : Int := if fV f then fAdd f (fPow f (fGen f) (4 * r + j + 1)) 7 else 0
def mrow (i : Nat) : List Int := if i = 0 then [2, 3, 1, 1] else if i = 1 then [1, 2, 3, 1] else if i = 2 then [1, 1, 2, 3] else [3, 1, 1, 2]
def rnA (f r : Int) (j : Nat) (s : List Int) : List Int := s.set j (fAdd f (at0 s j) (fConst f r j))
def rnB (f : Int) (j : Nat) (s : List Int) : List Int := s.set j (fPow f (at0 s j) (fExp f))
def rnC (f : Int) (s : List Int) (i j : Nat) (t : List Int) : List Int := t.set i (fAdd f (at0 t i) (fMul f (at0 (mrow i) j) (at0 s j)))
def rnD (f : Int) (s : List Int) (i : Nat) (t : List Int) : List Int := it (rnC f s i) 4 t
def rnS (f r : Int) (s : List Int) : List Int := it (rnB f) 4 (it (rnA f r) 4 s)
def roundM (f r : Int) (s : List Int) : List Int := it (rnD f (rnS f r s)) 4 [0, 0, 0, 0]
theorem rnA_len (f r : Int) (n : Nat) (l : List Int) : (rnA f r n l).length = l.length := by simp [rnA]
theorem rnB_len (f : Int) (n : Nat) (l : List Int) : (rnB f n l).length = l.length := by simp [rnB]
theorem rnC_len (f : Int) (s : List Int) (i n : Nat) (l : List Int) : (rnC f s i n l).length = l.length := by simp [rnC]
theorem rnD_len (f : Int) (s : List Int) (n : Nat) (l : List Int) : (rnD f s n l).length = l.length := it_len (rnC_len f s n) 4 l
theorem rnS_len (f r : Int) (s : List Int) : (rnS f r s).length = s.length := by rw [rnS, it_len (rnB_len f), it_len (rnA_len f r)]
theorem roundM_len (f r : Int) (s : List Int) : (roundM f r s).length = 4 := it_len (rnD_len f _) 4 _
theorem rnA_nn (f r : Int) (n : Nat) (l : List Int) (h : ∀ x ∈ l, 0 ≤ x) : ∀ x ∈ rnA f r n l, (0 : Int) ≤ x := nn_set h (fAdd_bounds _ _ _).1
theorem rnB_nn (f : Int) (n : Nat) (l : List Int) (h : ∀ x ∈ l, 0 ≤ x) : ∀ x ∈ rnB f n l, (0 : Int) ≤ x := nn_set h (fPow_bounds _ _ _).1
theorem rnC_nn (f : Int) (s : List Int) (i n : Nat) (l : List Int) (h : ∀ x ∈ l, 0 ≤ x) : ∀ x ∈ rnC f s i n l, (0 : Int) ≤ x := nn_set h (fAdd_bounds _ _ _).1
theorem rnD_nn (f : Int) (s : List Int) (n : Nat) (l : List Int) (h : ∀ x ∈ l, 0 ≤ x) : ∀ x ∈ rnD f s n l, (0 : Int) ≤ x := it_nn (rnC_nn f s n) h 4
theorem rnS_nn (f r : Int) (s : List Int) (h : ∀ x ∈ s, 0 ≤ x) : ∀ x ∈ rnS f r s, (0 : Int) ≤ x := it_nn (rnB_nn f) (it_nn (rnA_nn f r) h 4) 4
theorem roundM_nn (f r : Int) (s : List Int) : ∀ x ∈ roundM f r s, (0 : Int) ≤ x := it_nn (rnD_nn f _) (by simp) 4
theorem conv_int_u64 [Memo] (ro : Nat) (a : Int) (ty : TypeId) (s : St) (K : Value → St → Prop) : wop P ro (.convert 3 24 (.const (.int .i64 a))) ty s K = K (.int .u64 (IntKind.u64.wrap a)) s := by kernel_rfl
theorem fExp_bounds (f : Int) : 0 ≤ fExp f ∧ fExp f ≤ 5 := by
  unfold fExp
  split
  · omega
  · split <;> omega
section
variable {ro : Nat} {K : Value → St → Prop}
theorem fGen_nn (f : Int) : 0 ≤ fGen f := by
  unfold fGen
  repeat' split
  all_goals omega
theorem wConst (f : Int) {r j : Int} (hr : 0 ≤ r ∧ r ≤ 7) (hj : 0 ≤ j ∧ j ≤ 3) {s : St} : CallWP P ro 99 [.int .i64 f, .int .i64 r, .int .i64 j] s K = K (.int .u64 (fConst f r j)) s := by
  refine callEq (call_wp b99 rfl ?_) K
  rw [n99]
  unfold v99
  simp (maxSteps := 10000000) only [wW, reduceCtorEq, Nat.reduceEqDiff, wrValid]
  unfold fConst
  cases hv : fV f with
  | false =>
    simp (maxSteps := 10000000) only [wW, reduceCtorEq, Nat.reduceEqDiff, Bool.false_eq_true]
    exact fin_flat rfl (.refl _) ⟨rfl, rfl⟩
  | true =>
    simp (maxSteps := 10000000) only [wW, reduceCtorEq, Nat.reduceEqDiff, Bool.true_eq_false, wrGen, conv_int_u64]
    rw [if_neg (by omega), if_neg (by omega), if_neg (by omega), if_neg (by omega), wrap_i64 (n := 4 * r) (by omega) (by omega), wrap_i64 (n := 4 * r + j) (by omega) (by omega), wrap_i64 (by omega) (by omega), wrap_u64 (by omega) (by omega), wrPow f (fGen_nn f) _ (by omega) (by omega) rfl, wrAdd f (fPow_bounds _ _ _).1 (by decide)]
    exact fin_flat rfl (.refl _) ⟨rfl, rfl⟩
def mrows : List Int := [2, 3, 1, 1, 1, 2, 3, 1, 1, 1, 2, 3, 3, 1, 1, 2]
theorem build44 : abuild P 150 (partVals .e [(0, .const (.agg (.mk (u4 [2, 3, 1, 1])))), (1, .const (.agg (.mk (u4 [1, 2, 3, 1])))), (2, .const (.agg (.mk (u4 [1, 1, 2, 3])))), (3, .const (.agg (.mk (u4 [3, 1, 1, 2]))))]) = some (.agg (.mk (u4 mrows))) := by kernel_rfl
theorem build4u (a b c d : Int) : abuild P 58 (partVals .e [(0, .const (.int .u64 a)), (1, .const (.int .u64 b)), (2, .const (.int .u64 c)), (3, .const (.int .u64 d))]) = some (.agg (.mk (u4 [a, b, c, d]))) := by kernel_rfl
theorem ix44 (A : Nat) {k : Nat} (hk : k < 4) : aindexAddr P 150 (ptr A) (.int .i64 (k : Int)) = some (.pointer (some ⟨A, k * 4, none⟩)) := by
  rw [ixArr un_150 isz_58]
  unfold aplace
  rw [if_pos (by omega), Int.toNat_natCast, Nat.zero_add]
theorem wMrow {i : Nat} (hi : i < 4) {s : St} (hw : Wf s) (hro : ro ≤ s.n) : CallWP P ro 101 [.int .i64 i] s K = K (.agg (.mk (u4 (mrow i)))) s := by
  refine callEq (call_wp b101 rfl ?_) K
  rw [n101]
  unfold v101
  simp (maxSteps := 10000000) only [wW, reduceCtorEq, Nat.reduceEqDiff]
  refine alloc_rule ty_58 hw.ent fun A s1 m1 => ?_
  simp (maxSteps := 10000000) only [build4u, build44, wW, reduceCtorEq, Nat.reduceEqDiff]
  refine alloc_rule ty_150 m1.wf fun B s2 m2 => ?_
  have e1 := m1.eq
  have e2 := m2.eq
  have n1 := m1.n
  have n2 := m2.n
  have hn0 : (ent s).n = s.n := rfl
  refine storeAll_rule isz_150 m2.here (l := u4 mrows) rfl (by decide) m2.wf (by omega) rfl rfl fun s3 p3 => ?_
  simp (maxSteps := 10000000) only [wW, reduceCtorEq, Nat.reduceEqDiff, wop_indexAddr, ix44 B hi]
  have hrow : cut (u4 mrows) (i * 4) 4 = some (u4 (mrow i)) := by
    match i, hi with
    | 0, _ => rfl
    | 1, _ => rfl
    | 2, _ => rfl
    | 3, _ => rfl
  have hlen : (u4 (mrow i)).length = 4 := by
    match i, hi with
    | 0, _ => rfl
    | 1, _ => rfl
    | 2, _ => rfl
    | 3, _ => rfl
  refine load_rule (load_part ap_58 p3.here hrow) ?_
  have hA : s3.at A = _ := (p3.rest A (by omega)).trans ((m2.grew.same A (by omega)).trans m1.here)
  refine storeAll_rule isz_58 hA hlen (by decide) p3.wf (by omega) rfl (u4_one _) fun s4 p4 => ?_
  refine load_rule (load_all ap_58 p4.here hlen) ?_
  refine fin_flat (u4_flat (by simpa [u4] using hlen)) (p4.grew _ hw.ent (p3.grew _ hw.ent (m1.grew.trans m2.grew) (by omega)) (by omega)) ⟨rfl, rfl⟩
structure Vec (s0 s : St) (A : Nat) (l : List Int) : Prop where
  here : s.at A = some (.cells (u4 l) 58 false)
  new : s0.n ≤ A
  wf : Wf s
  grew : Grew s0 s
theorem Vec.store {s0 s : St} {A : Nat} {l : List Int} (h : Vec s0 s A l) (hw0 : Wf s0) (hro : ro ≤ s0.n) {i : Nat} (hi : i < l.length) {x : Int} {ty : TypeId} {K : Value → St → Prop} (hk : ∀ s', Vec s0 s' A (l.set i x) → (∀ B, B ≠ A → s'.at B = s.at B) → K undef s') :
    wop P ro (.store 24 (.const (.pointer (some ⟨A, i, none⟩))) (.const (.int .u64 x))) ty s K := by
  have hn := h.new
  refine store1_rule isz_24 h.here h.wf (by omega) (by simp [u4, hi]) rfl fun s' p => hk s' ⟨?_, h.new, p.wf, p.grew _ hw0 h.grew h.new⟩ p.rest
  rw [p.here, u4_set _ _ _ hi]
theorem wRound (f : Int) {r : Int} (hr : 0 ≤ r ∧ r ≤ 7) (hv : fV f = true) {l : List Int} (hl : l.length = 4) (hnn : ∀ x ∈ l, 0 ≤ x) {s : St} (hw : Wf s) (hro : ro ≤ s.n) : CallWP P ro 88 [.int .i64 f, .int .i64 r, .agg (.mk (u4 l))] s K = K (.agg (.mk (u4 (roundM f r l)))) s := by
  refine callEq (call_wp b88 rfl ?_) K
  rw [n88]
  unfold v88
  simp (maxSteps := 10000000) only [wW, reduceCtorEq, Nat.reduceEqDiff]
  refine box_rule hw.ent fun S s1 m1 => ?_
  refine alloc_rule ty_58 m1.wf fun R s2 m2 => ?_
  simp (maxSteps := 10000000) only [wW, reduceCtorEq, Nat.reduceEqDiff, wrValid, hv, Bool.true_eq_false]
  rw [if_neg (by omega), if_neg (by omega)]
  have e1 := m1.eq
  have e2 := m2.eq
  have n1 := m1.n
  have n2 := m2.n
  have hn0 : (ent s).n = s.n := rfl
  have g2 := m1.grew.trans m2.grew
  have hS2 : s2.at S = some (.cells (u4 l) 58 false) := (m2.grew.same S (by omega)).trans m1.here
  have hR2 : ∃ c, s2.at R = some (.cells c 58 false) ∧ c.length = 4 := ⟨_, m2.here, rfl⟩
  refine wloop l88_110100 m88_110100 (fun (j : Nat) τ ds s' => j ≤ 4 ∧ τ 0 = .int .i64 f ∧ τ 1 = .int .i64 r ∧ τ 5 = ptr S ∧ τ 6 = ptr R ∧ τ 7 = .int .i64 j ∧ ds = [] ∧ Vec (ent s) s' S (it (rnA f r) j l) ∧ ∃ c, s'.at R = some (.cells c 58 false) ∧ c.length = 4) (fun j => 4 - j) ?_ 0 ⟨by omega, rfl, rfl, rfl, rfl, rfl, rfl, ⟨hS2, by omega, m2.wf, g2⟩, hR2⟩
  rintro j τ ds s' ⟨hj, h0, h1, h5, h6, h7, rfl, v3, hR3⟩
  rw [n88_110100]
  unfold v88_110100
  have hlj : (it (rnA f r) j l).length = 4 := by rw [it_len (rnA_len f r), hl]
  by_cases hj4 : j < 4
  · have hb : acells (s'.at S) = some (u4 (it (rnA f r) j l)) := acells_some v3.here
    simp (maxSteps := 10000000) only [wW, reduceCtorEq, Nat.reduceEqDiff, wL, Nat.reduceAdd, h0, h1, h5, h7, six S 0 hj4, hb, u4_get (show j < (it (rnA f r) j l).length by omega)]
    rw [if_pos (by omega)]
    refine ⟨by simp [veq], ?_⟩
    rw [wConst f hr (by omega)]
    refine ⟨.refl _, ?_⟩
    have hnj := it_nn (rnA_nn f r) hnn j
    have hcb : 0 ≤ fConst f r j := by unfold fConst; rw [if_pos hv]; exact (fAdd_bounds _ _ _).1
    rw [wrAdd f (at0_nn hnj _) hcb]
    refine v3.store hw.ent hro (by omega) fun s4 v4 r4 => ?_
    rw [wrap_i64 (by omega) (by omega)]
    refine ⟨j + 1, by omega, by omega, h0, h1, h5, h6, rfl, trivial, v4, ?_⟩
    obtain ⟨c, hc, hcl⟩ := hR3
    exact ⟨c, (r4 R (by omega)).trans hc, hcl⟩
  · obtain rfl : j = 4 := by omega
    simp (maxSteps := 10000000) only [wW, reduceCtorEq, Nat.reduceEqDiff, h7]
    rw [if_neg (by omega)]
    refine wloop l88_1110100 m88_1110100 (fun (j : Nat) τ ds s' => j ≤ 4 ∧ τ 0 = .int .i64 f ∧ τ 5 = ptr S ∧ τ 6 = ptr R ∧ τ 8 = .int .i64 j ∧ ds = [] ∧ Vec (ent s) s' S (it (rnB f) j (it (rnA f r) 4 l)) ∧ ∃ c, s'.at R = some (.cells c 58 false) ∧ c.length = 4) (fun j => 4 - j) ?_ 0 ⟨by omega, h0, h5, h6, rfl, rfl, v3, hR3⟩
    clear h0 h1 h5 h6 h7 v3 hR3 hj hj4
    have hnA := it_nn (rnA_nn f r) hnn 4
    rintro j τ ds s' ⟨hj, h0, h5, h6, h8, rfl, v3, hR3⟩
    rw [n88_1110100]
    unfold v88_1110100
    have hlk : (it (rnB f) j (it (rnA f r) 4 l)).length = 4 := by rw [it_len (rnB_len f), hlj]
    by_cases hj4 : j < 4
    · have hb : acells (s'.at S) = some (u4 (it (rnB f) j (it (rnA f r) 4 l))) := acells_some v3.here
      simp (maxSteps := 10000000) only [wW, reduceCtorEq, Nat.reduceEqDiff, wL, Nat.reduceAdd, h0, h5, h8, six S 0 hj4, hb, u4_get (show j < (it (rnB f) j (it (rnA f r) 4 l)).length by omega), wrExp, conv_int_u64]
      rw [if_pos (by omega)]
      refine ⟨by simp [veq], .refl _, trivial, by simp [veq], ?_⟩
      have hxe := fExp_bounds f
      rw [wrap_u64 (by omega) (by omega), wrPow f (at0_nn (it_nn (rnB_nn f) hnA j) _) _ (by omega) (by omega) rfl]
      refine v3.store hw.ent hro (by omega) fun s4 v4 r4 => ?_
      rw [wrap_i64 (by omega) (by omega)]
      refine ⟨j + 1, by omega, by omega, h0, h5, h6, rfl, trivial, v4, ?_⟩
      obtain ⟨c, hc, hcl⟩ := hR3
      exact ⟨c, (r4 R (by omega)).trans hc, hcl⟩
    · obtain rfl : j = 4 := by omega
      simp (maxSteps := 10000000) only [wW, reduceCtorEq, Nat.reduceEqDiff, h8]
      rw [if_neg (by omega)]
      refine alloc_rule ty_58 v3.wf fun T s4 m4 => ?_
      have e4 := m4.eq
      have n4 := m4.n
      have gn := v3.grew.n
      have hS4 : s4.at S = some (.cells (u4 (rnS f r l)) 58 false) := (m4.grew.same S (St.at_lt v3.here)).trans v3.here
      have hSn := St.at_lt v3.here
      have hRn : R < s'.n := by obtain ⟨c, hc, _⟩ := hR3; exact St.at_lt hc
      have hR4 : ∃ c, s4.at R = some (.cells c 58 false) ∧ c.length = 4 := by
        obtain ⟨c, hc, hcl⟩ := hR3
        exact ⟨c, (m4.grew.same R hRn).trans hc, hcl⟩
      refine wloop l88_111110100 m88_111110100 (fun (j : Nat) τ ds s' => j ≤ 4 ∧ τ 0 = .int .i64 f ∧ τ 5 = ptr S ∧ τ 6 = ptr R ∧ τ 9 = ptr T ∧ τ 10 = .int .i64 j ∧ ds = [] ∧ Vec (ent s) s' T (it (rnD f (rnS f r l)) j [0, 0, 0, 0]) ∧ s'.at S = some (.cells (u4 (rnS f r l)) 58 false) ∧ ∃ c, s'.at R = some (.cells c 58 false) ∧ c.length = 4) (fun j => 4 - j) ?_ 0 ⟨by omega, h0, h5, h6, rfl, rfl, rfl, ⟨m4.here, by omega, m4.wf, v3.grew.trans m4.grew⟩, hS4, hR4⟩
      clear h0 h5 h6 h8 v3 hR3 hj hj4 hS4 hR4
      rintro j τ ds s' ⟨hj, h0, h5, h6, h9, h10, rfl, v3, hS3, hR3⟩
      rw [n88_111110100]
      unfold v88_111110100
      by_cases hj4 : j < 4
      · simp (maxSteps := 10000000) only [wW, reduceCtorEq, Nat.reduceEqDiff, wL, Nat.reduceAdd, h0, h5, h10]
        rw [if_pos (by omega), wMrow hj4 v3.wf (by have := v3.grew.n; omega)]
        refine alloc_rule ty_58 v3.wf fun M s6 m6 => ?_
        have e6 := m6.eq
        have n6 := m6.n
        have gn6 := v3.grew.n
        have hml : (u4 (mrow j)).length = 4 := by
          match j, hj4 with
          | 0, _ => rfl
          | 1, _ => rfl
          | 2, _ => rfl
          | 3, _ => rfl
        refine storeAll_rule isz_58 m6.here hml (by decide) m6.wf (by omega) rfl (u4_one _) fun s7 p7 => ?_
        have hTn := St.at_lt v3.here
        have hSn' := St.at_lt hS3
        have old : ∀ B, B < s'.n → s7.at B = s'.at B := fun B hB => (p7.rest B (by omega)).trans (m6.grew.same B hB)
        have vT : Vec (ent s) s7 T (it (rnD f (rnS f r l)) j [0, 0, 0, 0]) := ⟨(old T hTn).trans v3.here, v3.new, p7.wf, p7.grew _ hw.ent (v3.grew.trans m6.grew) (by omega)⟩
        have hR7 : ∃ c, s7.at R = some (.cells c 58 false) ∧ c.length = 4 := by
          obtain ⟨c, hc, hcl⟩ := hR3
          exact ⟨c, (old R (St.at_lt hc)).trans hc, hcl⟩
        refine wloop l88_1111101001001100 m88_1111101001001100 (fun (k : Nat) τ ds s' => k ≤ 4 ∧ τ 0 = .int .i64 f ∧ τ 5 = ptr S ∧ τ 6 = ptr R ∧ τ 9 = ptr T ∧ τ 10 = .int .i64 j ∧ τ 11 = ptr M ∧ τ 12 = .int .i64 k ∧ ds = [] ∧ Vec (ent s) s' T (it (rnC f (rnS f r l) j) k (it (rnD f (rnS f r l)) j [0, 0, 0, 0])) ∧ s'.at S = some (.cells (u4 (rnS f r l)) 58 false) ∧ s'.at M = some (.cells (u4 (mrow j)) 58 false) ∧ ∃ c, s'.at R = some (.cells c 58 false) ∧ c.length = 4) (fun k => 4 - k) ?_ 0 ⟨by omega, h0, h5, h6, h9, h10, rfl, rfl, rfl, vT, (old S hSn').trans hS3, p7.here, hR7⟩
        clear h0 h5 h6 h9 h10 v3 hS3 hR3 vT hR7
        rintro k τ ds s5 ⟨hk, h0, h5, h6, h9, h10, h11, h12, rfl, v5, hS5, hM5, hR5⟩
        rw [n88_1111101001001100]
        unfold v88_1111101001001100
        have hdl : (it (rnD f (rnS f r l)) j [0, 0, 0, 0]).length = 4 := it_len (rnD_len f _) _ _
        have hcl : (it (rnC f (rnS f r l) j) k (it (rnD f (rnS f r l)) j [0, 0, 0, 0])).length = 4 := by rw [it_len (rnC_len f _ j)]; exact hdl
        have hsl : (rnS f r l).length = 4 := by rw [rnS_len]; exact hl
        by_cases hk4 : k < 4
        · have hb1 : acells (s5.at T) = some (u4 (it (rnC f (rnS f r l) j) k (it (rnD f (rnS f r l)) j [0, 0, 0, 0]))) := acells_some v5.here
          have hb2 : acells (s5.at S) = some (u4 (rnS f r l)) := acells_some hS5
          have hb3 : acells (s5.at M) = some (u4 (mrow j)) := acells_some hM5
          have hml' : (mrow j).length = 4 := by simpa [u4] using hml
          have q1 := u4_get (l := it (rnC f (rnS f r l) j) k (it (rnD f (rnS f r l)) j [0, 0, 0, 0])) (i := j) (by omega)
          have q2 := u4_get (l := rnS f r l) (i := k) (by omega)
          have q3 := u4_get (l := mrow j) (i := k) (by omega)
          simp (maxSteps := 10000000) only [wW, reduceCtorEq, Nat.reduceEqDiff, wL, Nat.reduceAdd, h0, h5, h9, h10, h11, h12, six _ 0 hk4, six _ 0 hj4, hb1, hb2, hb3, q1, q2, q3]
          rw [if_pos (by omega)]
          refine ⟨by simp [veq], by simp [veq], by simp [veq], ?_⟩
          have nD := it_nn (rnD_nn f (rnS f r l)) (l := [0, 0, 0, 0]) (by simp) j
          have nC := it_nn (rnC_nn f (rnS f r l) j) nD k
          have nM : ∀ x ∈ mrow j, (0 : Int) ≤ x := by
            unfold mrow
            split
            · decide
            · split
              · decide
              · split <;> decide
          have nS := rnS_nn f r l hnn
          rw [wrMul f (at0_nn nM _) (at0_nn nS _)]
          refine ⟨.refl _, ?_⟩
          rw [wrAdd f (at0_nn nC _) (fMul_bounds _ _ _).1]
          refine v5.store hw.ent hro (by omega) fun s6 v6 r6 => ?_
          rw [wrap_i64 (by omega) (by omega)]
          have hMn : M ≠ T := by omega
          have hSn2 : S ≠ T := by omega
          refine ⟨k + 1, by omega, by omega, h0, h5, h6, h9, h10, h11, rfl, trivial, v6, (r6 S hSn2).trans hS5, (r6 M hMn).trans hM5, ?_⟩
          obtain ⟨c, hc, hcl⟩ := hR5
          exact ⟨c, (r6 R (by omega)).trans hc, hcl⟩
        · obtain rfl : k = 4 := by omega
          simp (maxSteps := 10000000) only [wW, reduceCtorEq, Nat.reduceEqDiff, h10, h12]
          rw [if_neg (by omega)]
          simp (maxSteps := 10000000) only [U, tset_eq, wW, reduceCtorEq, Nat.reduceEqDiff, h10, h0, h5, h6, h9]
          rw [wrap_i64 (by omega) (by omega)]
          exact ⟨j + 1, by omega, by omega, trivial, trivial, trivial, trivial, rfl, trivial, v5, hS5, hR5⟩
      · obtain rfl : j = 4 := by omega
        simp (maxSteps := 10000000) only [wW, reduceCtorEq, Nat.reduceEqDiff, h9, h10, h6]
        rw [if_neg (by omega)]
        simp (maxSteps := 10000000) only [U, tset_eq, wW, reduceCtorEq, Nat.reduceEqDiff, h9, h10, h6]
        have hrl : (u4 (roundM f r l)).length = 4 := by rw [u4_len]; exact roundM_len f r l
        obtain ⟨c, hc, hcl⟩ := hR3
        have hT := v3.here
        rw [show it (rnD f (rnS f r l)) 4 [0, 0, 0, 0] = roundM f r l by unfold roundM; rfl] at hT
        have hq4 := roundM_len f r l
        generalize roundM f r l = q at hT hrl hq4 ⊢
        refine load_rule (load_all ap_58 hT hrl) ?_
        refine storeAll_rule isz_58 hc hrl (by decide) v3.wf (by omega) hcl (u4_one _) fun s7 p7 => ?_
        refine load_rule (load_all ap_58 p7.here hrl) ?_
        exact fin_flat (u4_flat hq4) (p7.grew _ hw.ent v3.grew (by omega)) ⟨rfl, rfl⟩
end
end Go.VE
/- The reference of the gates: round, holds. -/
namespace Go.VE
open Go Go.Proofs
set_option maxRecDepth 20000
def wv (vals : List Int) (r : Row) : List Int := [at0 vals r.w0, at0 vals r.w1, at0 vals r.w2, at0 vals r.w3]
def setW (vals : List Int) (r : Row) (k : Nat) (t : List Int) : List Int := t.set k (at0 vals (r.w k))
theorem setW_len (vals : List Int) (r : Row) (n : Nat) (l : List Int) : (setW vals r n l).length = l.length := by simp [setW]
theorem wv_eq (vals : List Int) (r : Row) : it (setW vals r) 4 [0, 0, 0, 0] = wv vals r := rfl
theorem wv_nn {vals : List Int} (h : ∀ x ∈ vals, 0 ≤ x) (r : Row) : ∀ x ∈ wv vals r, (0 : Int) ≤ x := fun x hx => by
  simp only [wv, List.mem_cons, List.not_mem_nil, or_false] at hx
  rcases hx with rfl | rfl | rfl | rfl <;> exact at0_nn h _
structure RowFit (n : Nat) (r : Row) : Prop where
  nn : r.Nn
  a : r.k = 1 → r.ql ≠ 0 ∨ r.qm ≠ 0 → 0 ≤ r.w0 ∧ r.w0 < n
  b : r.k = 1 → r.qr ≠ 0 ∨ r.qm ≠ 0 → 0 ≤ r.w1 ∧ r.w1 < n
  c : r.k = 1 → r.qo ≠ 0 → 0 ≤ r.w2 ∧ r.w2 < n
  range : r.k = 2 → 0 ≤ r.w0 ∧ r.w0 < n
  round : r.k = 3 → (0 ≤ r.rd ∧ r.rd ≤ 7) ∧ ∀ k, k < 4 → 0 ≤ r.w k ∧ r.w k < n
noncomputable def holdsR (f : Int) (r nx : Row) (vals : List Int) : Bool :=
  if r.k = 1 then decide ((if r.qo ≠ 0 then fAdd f (sumM f r vals) (fMul f r.qo (at0 vals r.w2)) else sumM f r vals) = 0)
  else if r.k = 2 then decide (at0 vals r.w0 < 16)
  else if r.k = 3 then decide (wv vals nx = roundM f r.rd (wv vals r))
  else true
section
variable {ro : Nat} {K : Value → St → Prop}
theorem wRnd (f : Int) (hv : fV f = true) {r : Row} (hrd : 0 ≤ r.rd ∧ r.rd ≤ 7) {s : St} {u : Value} {vals : List Int} (hw : Wf s) (hro : ro ≤ s.n) (hu : U64s s u vals) (hpos : ∀ x ∈ vals, 0 ≤ x) (hwi : ∀ k, k < 4 → 0 ≤ r.w k ∧ r.w k < vals.length) :
    CallWP P ro 51 [.int .i64 f, .agg (.mk r.cells), u] s K = K (.agg (.mk (u4 (roundM f r.rd (wv vals r))))) s := by
  refine callEq (call_wp b51 rfl ?_) K
  rw [n51]
  unfold v51
  simp (maxSteps := 10000000) only [wW, reduceCtorEq, Nat.reduceEqDiff]
  refine box_rule hw.ent fun G s1 m1 => ?_
  refine alloc_rule ty_58 m1.wf fun R s2 m2 => ?_
  refine alloc_rule ty_58 m2.wf fun S s3 m3 => ?_
  have e1 := m1.eq
  have e2 := m2.eq
  have e3 := m3.eq
  have n1 := m1.n
  have n2 := m2.n
  have n3 := m3.n
  have hn0 : (ent s).n = s.n := rfl
  have g3 := (m1.grew.trans m2.grew).trans m3.grew
  have hG3 : s3.at G = some (.cells r.cells 94 false) := (m3.grew.same G (by omega)).trans ((m2.grew.same G (by omega)).trans m1.here)
  have hR3 : s3.at R = _ := (m3.grew.same R (by omega)).trans m2.here
  refine wloop l51_110100 m51_110100 (fun (k : Nat) τ ds s' => k ≤ 4 ∧ τ 0 = .int .i64 f ∧ τ 2 = u ∧ τ 4 = ptr G ∧ τ 6 = ptr R ∧ τ 7 = ptr S ∧ τ 8 = .int .i64 k ∧ ds = [] ∧ Vec (ent s) s' S (it (setW vals r) k [0, 0, 0, 0]) ∧ ∀ B, B ≠ S → s'.at B = s3.at B) (fun k => 4 - k) ?_ 0 ⟨by omega, rfl, rfl, rfl, rfl, rfl, rfl, rfl, ⟨m3.here, by omega, m3.wf, g3⟩, fun _ _ => rfl⟩
  rintro k τ ds s' ⟨hk, h0, h2, h4, h6, h7, h8, rfl, v, old⟩
  rw [n51_110100]
  unfold v51_110100
  have hG : acells (s'.at G) = some r.cells := acells_some ((old G (by omega)).trans hG3)
  have hu' : U64s s' u vals := (Sl.ent hu).grew v.grew.same
  by_cases hk4 : k < 4
  · have hx := hwi k hk4
    obtain ⟨A, o, c, q1, q2, q3⟩ := hu'.at1 hx.1 (at0_get hx.1 hx.2)
    have hb := rcw r hk4
    simp (maxSteps := 10000000) only [wW, reduceCtorEq, Nat.reduceEqDiff, wL, Nat.reduceAdd, h2, h4, h7, h8, wix _ _ hk4, six _ _ hk4, hG, hb, q1, q2, q3]
    rw [if_pos (by omega)]
    refine v.store hw.ent hro (by rw [it_len (setW_len vals r)]; exact hk4) fun s4 v4 r4 => ?_
    rw [wrap_i64 (by omega) (by omega)]
    exact ⟨k + 1, by omega, by omega, h0, h2, h4, h6, h7, rfl, trivial, v4, fun B hB => (r4 B hB).trans (old B hB)⟩
  · obtain rfl : k = 4 := by omega
    have hS := v.here
    have hpw := wv_nn hpos r
    rw [wv_eq] at hS
    have hlw : (wv vals r).length = 4 := rfl
    have hle : (u4 (wv vals r)).length = 4 := rfl
    generalize wv vals r = q at hS hpw hlw hle ⊢
    simp (maxSteps := 10000000) only [wW, reduceCtorEq, Nat.reduceEqDiff, h8]
    rw [if_neg (by omega)]
    simp (maxSteps := 10000000) only [U, tset_eq, wW, reduceCtorEq, Nat.reduceEqDiff, wL, Nat.reduceAdd, h0, h4, h6, h7, hG]
    rw [acells_some hS, wopt_some, cut_all hle, wopt_some]
    show CallWP P ro 88 [.int .i64 f, .int .i64 r.rd, .agg (.mk (u4 q))] s' _
    have hgn := v.grew.n
    rw [wRound f hrd hv hlw hpw v.wf (by omega)]
    have hl2 := roundM_len f r.rd q
    generalize roundM f r.rd q = q2 at hl2 ⊢
    refine storeAll_rule isz_58 ((old R (by omega)).trans hR3) (show (u4 q2).length = 4 by rw [u4_len]; exact hl2) (by decide) v.wf (by omega) rfl (u4_one _) fun s7 p7 => ?_
    rw [acells_some p7.here, wopt_some, cut_all (show (u4 q2).length = 4 by rw [u4_len]; exact hl2), wopt_some]
    exact fin_flat (u4_flat hl2) (p7.grew _ hw.ent v.grew (by omega)) ⟨rfl, rfl⟩
def nxt (l : List Row) (i : Nat) : Row := (l[i + 1]?).getD ⟨0, 0, 0, 0, 0, 0, 0, 0, 0, 0, 0⟩
theorem wv_get (vals : List Int) (r : Row) : ∀ {k : Nat}, k < 4 → at0 (wv vals r) k = at0 vals (r.w k)
  | 0, _ => rfl
  | 1, _ => rfl
  | 2, _ => rfl
  | 3, _ => rfl
theorem eq4 {a b : List Int} (ha : a.length = 4) (hb : b.length = 4) : a = b ↔ ∀ k : Nat, k < 4 → at0 a k = at0 b k := by
  obtain ⟨a0, a1, a2, a3, rfl⟩ := len4 ha
  obtain ⟨b0, b1, b2, b3, rfl⟩ := len4 hb
  constructor
  · rintro h k _; rw [h]
  · intro h
    have h0 : a0 = b0 := h 0 (by decide)
    have h1 : a1 = b1 := h 1 (by decide)
    have h2 : a2 = b2 := h 2 (by decide)
    have h3 : a3 = b3 := h 3 (by decide)
    rw [h0, h1, h2, h3]
theorem RowFit.reads {n : Nat} {r : Row} (h : RowFit n r) (h1 : r.k = 1) : (r.ql ≠ 0 ∨ r.qm ≠ 0 → 0 ≤ r.w0 ∧ r.w0 < n) ∧ (r.qr ≠ 0 ∨ r.qm ≠ 0 → 0 ≤ r.w1 ∧ r.w1 < n) := ⟨h.a h1, h.b h1⟩
theorem wHolds (g : Gp) (hv : fV g.f = true) {s : St} {ur u : Value} {vals : List Int} (hw : Wf s) (hro : ro ≤ s.n) (hr : RowsS s ur g.rows) (hu : U64s s u vals) (hpos : ∀ x ∈ vals, 0 ≤ x) {i : Nat} {r : Row} (hi : g.rows[i]? = some r) (hlen : g.rows.length < 2 ^ 60)
    (hf : RowFit vals.length r) (hnx : r.k = 3 → i + 1 < g.rows.length ∧ ∀ k, k < 4 → 0 ≤ (nxt g.rows i).w k ∧ (nxt g.rows i).w k < vals.length) :
    CallWP P ro 52 [.agg (.mk (g.cells ur)), u, .int .i64 i] s K = K (.bool (holdsR g.f r (nxt g.rows i) vals)) s := by
  refine callEq (call_wp b52 rfl ?_) K
  rw [n52]
  unfold v52
  simp (maxSteps := 10000000) only [wW, reduceCtorEq, Nat.reduceEqDiff]
  refine box_rule hw.ent fun G s1 m1 => ?_
  have e1 := m1.eq
  have n1 := m1.n
  have hn0 : (ent s).n = s.n := rfl
  have hG1 : s1.at G = some (.cells (g.cells ur) 34 false) := m1.here
  obtain ⟨A, o, c, q1, q2⟩ := RowsS.ix (Sl.grew (Sl.ent hr) m1.grew.same) hi
  simp (maxSteps := 10000000) only [wW, reduceCtorEq, Nat.reduceEqDiff, wL, Nat.reduceAdd, acells_some hG1, q1, q2.blk, q2.all]
  refine alloc_rule ty_94 m1.wf fun R s2 m2 => ?_
  have e2 := m2.eq
  have n2 := m2.n
  have hil : i < g.rows.length := (List.getElem?_eq_some_iff.1 hi).1
  refine storeAll_rule isz_94 m2.here (l := r.cells) rfl (by decide) m2.wf (by omega) rfl rfl fun s3 p3 => ?_
  have g3 := p3.grew _ hw.ent (m1.grew.trans m2.grew) (by omega)
  have n3 := p3.n
  have hG3 : s3.at G = some (.cells (g.cells ur) 34 false) := (p3.rest G (by omega)).trans ((m2.grew.same G (by omega)).trans hG1)
  have hG : acells (s3.at G) = some (g.cells ur) := acells_some hG3
  have hR : acells (s3.at R) = some r.cells := acells_some p3.here
  have hu3 : U64s s3 u vals := (Sl.ent hu).grew g3.same
  simp (maxSteps := 10000000) only [wW, reduceCtorEq, Nat.reduceEqDiff, wL, Nat.reduceAdd, hG, hR]
  unfold holdsR
  by_cases k1 : r.k = 1
  · rw [if_pos k1, if_pos k1]
    rw [wSum g.f hf.nn p3.wf (by omega) hu3 hpos (hf.a k1) (hf.b k1)]
    simp (maxSteps := 10000000) only [wW, reduceCtorEq, Nat.reduceEqDiff, wL, Nat.reduceAdd, hG, hR]
    by_cases hq : r.qo = 0
    · have hm : (if r.qo ≠ 0 then fAdd g.f (sumM g.f r vals) (fMul g.f r.qo (at0 vals r.w2)) else sumM g.f r vals) = sumM g.f r vals := if_neg (by simpa using hq)
      simp only [hm]
      rw [if_neg (by simpa using hq)]
      exact fin_flat rfl g3 ⟨rfl, rfl⟩
    · have hm : (if r.qo ≠ 0 then fAdd g.f (sumM g.f r vals) (fMul g.f r.qo (at0 vals r.w2)) else sumM g.f r vals) = fAdd g.f (sumM g.f r vals) (fMul g.f r.qo (at0 vals r.w2)) := if_pos hq
      simp only [hm]
      rw [if_pos hq]
      have hx := hf.c k1 hq
      obtain ⟨A2, o2, c2, x1, x2, x3⟩ := hu3.at1 hx.1 (at0_get hx.1 hx.2)
      simp (maxSteps := 10000000) only [wW, reduceCtorEq, Nat.reduceEqDiff, wL, Nat.reduceAdd, hG, hR, x1, x2, x3]
      refine ⟨by simp [veq], by simp [veq], by simp [veq], by simp [veq], by simp [veq], ?_⟩
      have hs0 : 0 ≤ sumM g.f r vals := (fAdd_bounds _ _ _).1
      rw [wrMul g.f hf.nn.qo (at0_nn hpos _)]
      refine ⟨.refl _, ?_⟩
      rw [wrAdd g.f hs0 (fMul_bounds _ _ _).1]
      simp (maxSteps := 10000000) only [wW, reduceCtorEq, Nat.reduceEqDiff]
      exact fin_flat rfl g3 ⟨rfl, rfl⟩
  · rw [if_neg k1, if_neg k1]
    by_cases k2 : r.k = 2
    · rw [if_pos k2, if_pos k2]
      have hx := hf.range k2
      obtain ⟨A2, o2, c2, x1, x2, x3⟩ := hu3.at1 hx.1 (at0_get hx.1 hx.2)
      simp (maxSteps := 10000000) only [wW, reduceCtorEq, Nat.reduceEqDiff, wL, Nat.reduceAdd, hG, hR, x1, x2, x3]
      exact fin_flat rfl g3 ⟨rfl, rfl⟩
    · rw [if_neg k2, if_neg k2]
      by_cases k3 : r.k = 3
      · rw [if_pos k3, if_pos k3]
        have hx := hf.round k3
        have hy := hnx k3
        rw [wRnd g.f hv hx.1 p3.wf (by omega) hu3 hpos hx.2]
        have hl2 := roundM_len g.f r.rd (wv vals r)
        generalize roundM g.f r.rd (wv vals r) = q at hl2 ⊢
        refine alloc_rule ty_58 p3.wf fun S s4 m4 => ?_
        have e4 := m4.eq
        have n4 := m4.n
        refine storeAll_rule isz_58 m4.here (show (u4 q).length = 4 by rw [u4_len]; exact hl2) (by decide) m4.wf (by omega) rfl (u4_one _) fun s5 p5 => ?_
        have g5 := p5.grew _ hw.ent (g3.trans m4.grew) (by omega)
        have hG5 : acells (s5.at G) = some (g.cells ur) := acells_some ((p5.rest G (by omega)).trans ((m4.grew.same G (by omega)).trans hG3))
        have hS5 : acells (s5.at S) = some (u4 q) := acells_some p5.here
        have hu5 : U64s s5 u vals := (Sl.ent hu).grew g5.same
        have hnr : g.rows[i + 1]? = some (nxt g.rows i) := by
          unfold nxt
          rw [List.getElem?_eq_getElem hy.1]; rfl
        have hr5 : RowsS s5 ur g.rows := (Sl.ent hr).grew g5.same
        obtain ⟨A3, o3, c3, y1, y2⟩ := hr5.ix hnr
        have hwv : (wv vals (nxt g.rows i)).length = 4 := rfl
        refine wloop l52_110101111101100 m52_110101111101100 (fun (k : Nat) τ ds s' => k ≤ 4 ∧ τ 1 = u ∧ τ 2 = .int .i64 i ∧ τ 3 = ptr G ∧ τ 9 = ptr S ∧ τ 10 = .int .i64 k ∧ ds = [] ∧ s' = s5 ∧ ∀ j, j < k → at0 (wv vals (nxt g.rows i)) j = at0 q j) (fun k => 4 - k) ?_ 0 ⟨by omega, rfl, rfl, rfl, rfl, rfl, rfl, rfl, fun j hj => by omega⟩
        rintro k τ ds s' ⟨hk, h1, h2, h3, h9, h10, rfl, rfl, hall⟩
        rw [n52_110101111101100]
        unfold v52_110101111101100
        by_cases hk4 : k < 4
        · have hx := hy.2 k hk4
          obtain ⟨A4, o4, c4, z1, z2, z3⟩ := hu5.at1 hx.1 (at0_get hx.1 hx.2)
          have hiw : IntKind.i64.wrap ((i : Int) + 1) = ((i + 1 : Nat) : Int) := by rw [wrap_i64 (by omega) (by omega)]; rfl
          have hw3 := y2.wire hk4
          have hb2 := y2.blk
          simp (maxSteps := 10000000) only [wW, reduceCtorEq, Nat.reduceEqDiff, wL, Nat.reduceAdd, h1, h2, h3, h9, h10, hG5, hiw, y1, hb2, wix _ _ hk4, six _ _ hk4, hw3, z1, z2, z3, hS5, u4_get (show k < q.length by omega)]
          rw [if_pos (by omega)]
          by_cases he : at0 vals ((nxt g.rows i).w k) = at0 q k
          · rw [if_neg (by simpa using he)]
            refine ⟨k + 1, by omega, by omega, h1, h2, h3, h9, ?_, trivial, trivial, fun j hj => ?_⟩
            · show Value.int .i64 (IntKind.i64.wrap ((k : Int) + 1)) = _
              rw [wrap_i64 (by omega) (by omega)]
              rfl
            · rcases Nat.lt_or_ge j k with h | h
              · exact hall j h
              · obtain rfl : j = k := by omega
                rw [wv_get _ _ hk4]
                exact he
          · rw [if_pos (by simpa using he), r52]
            simp (maxSteps := 10000000) only [U, tset_eq, wW, reduceCtorEq, Nat.reduceEqDiff]
            refine fin_flat rfl g5 ⟨?_, rfl⟩
            rw [decide_eq_false]
            intro hh
            rw [eq4 hwv hl2] at hh
            have := hh k hk4
            rw [wv_get _ _ hk4] at this
            exact he this
        · obtain rfl : k = 4 := by omega
          simp (maxSteps := 10000000) only [wW, reduceCtorEq, Nat.reduceEqDiff, h10]
          rw [if_neg (by omega)]
          refine fin_flat rfl g5 ⟨?_, rfl⟩
          rw [decide_eq_true]
          exact (eq4 hwv hl2).2 hall
      · rw [if_neg k3, if_neg k3]
        exact fin_flat rfl g3 ⟨rfl, rfl⟩
end
end Go.VE
/- The reference of the gates: formed. -/
namespace Go.VE
open Go Go.Proofs
set_option maxRecDepth 20000
def Row.qs (r : Row) : List Int := [r.ql, r.qr, r.qm, r.qo, r.qc]
def Formed (f nv : Int) (r : Row) : Prop :=
  r.k ≤ 3 ∧ 0 ≤ r.rd ∧ r.rd ≤ 7 ∧ (r.k ≠ 3 → r.rd = 0) ∧ (∀ q ∈ r.qs, q < fP f ∧ (r.k ≠ 1 → q = 0)) ∧ (∀ k : Nat, k < 4 → -1 ≤ r.w k ∧ r.w k < nv) ∧ ∀ j ∈ rds r, 0 ≤ r.w j.toNat
instance (f nv : Int) (r : Row) : Decidable (Formed f nv r) := by unfold Formed; infer_instance
theorem rds_lt (r : Row) : ∀ j ∈ rds r, (0 : Int) ≤ j ∧ j < 4 := by
  intro j hj
  unfold rds at hj
  split at hj
  · simp only [List.mem_append] at hj
    rcases hj with (hj | hj) | hj
    · split at hj
      · simp only [List.mem_cons, List.not_mem_nil, or_false] at hj; omega
      · cases hj
    · split at hj
      · simp only [List.mem_cons, List.not_mem_nil, or_false] at hj; omega
      · cases hj
    · split at hj
      · simp only [List.mem_cons, List.not_mem_nil, or_false] at hj; omega
      · cases hj
  · split at hj
    · simp only [List.mem_cons, List.not_mem_nil, or_false] at hj; omega
    · split at hj
      · simp only [List.mem_cons, List.not_mem_nil, or_false] at hj; omega
      · cases hj
theorem rds_len (r : Row) : (rds r).length ≤ 4 := by
  unfold rds
  split
  · simp only [List.length_append]
    have h : ∀ (c : Prop) [Decidable c] (x : Int), (if c then [x] else []).length ≤ 1 := fun c _ x => by split <;> simp
    have h1 := h (r.ql ≠ 0 ∨ r.qm ≠ 0) 0
    have h2 := h (r.qr ≠ 0 ∨ r.qm ≠ 0) 1
    have h3 := h (r.qo ≠ 0) 2
    omega
  · split
    · simp
    · split <;> simp
section
variable {ro : Nat} {K : Value → St → Prop}
theorem wFormed (g : Gp) (r : Row) {s : St} {ur : Value} (hw : Wf s) (hro : ro ≤ s.n) : CallWP P ro 97 [.agg (.mk (g.cells ur)), .agg (.mk r.cells)] s K = K (.bool (decide (Formed g.f g.nv r))) s := by
  refine callEq (call_wp b97 rfl ?_) K
  rw [n97]
  unfold v97
  simp (maxSteps := 10000000) only [wW, reduceCtorEq, Nat.reduceEqDiff]
  refine box_rule hw.ent fun G s1 m1 => ?_
  refine box_rule m1.wf fun R s2 m2 => ?_
  have e1 := m1.eq
  have e2 := m2.eq
  have n1 := m1.n
  have n2 := m2.n
  have hn0 : (ent s).n = s.n := rfl
  have g2 := m1.grew.trans m2.grew
  have hG2 : s2.at G = some (.cells (g.cells ur) 34 false) := (m2.grew.same G (by omega)).trans m1.here
  have hR2 : s2.at R = some (.cells r.cells 94 false) := m2.here
  have hG := acells_some hG2
  have hR := acells_some hR2
  have no : ∀ {s' : St}, Grew (ent s) s' → ¬ Formed g.f g.nv r → wfin s (fun v s' => v = .bool (decide (Formed g.f g.nv r)) ∧ s' = s) (.bool false) s' := fun hg hf => by
    refine fin_flat rfl hg ⟨?_, rfl⟩
    rw [decide_eq_false hf]
  have noR : ∀ {τ : Tau} {al : AL} {s' : St}, Grew (ent s) s' → ¬ Formed g.f g.nv r → U τ al 4 = .bool false → xleave (prims P ro) s Tryd.f97.results.toList (fun v s' => v = .bool (decide (Formed g.f g.nv r)) ∧ s' = s) .ret (U τ al) [] [] s' := fun {τ al s'} hg hf h4 => by
    rw [r97]
    simp (maxSteps := 10000000) only [wW, reduceCtorEq, Nat.reduceEqDiff]
    rw [h4]
    exact no hg hf
  simp (maxSteps := 10000000) only [wW, reduceCtorEq, Nat.reduceEqDiff, wL, Nat.reduceAdd, hG, hR]
  have rest : ∀ {τ : Tau}, r.k ≤ 3 ∧ 0 ≤ r.rd ∧ r.rd ≤ 7 ∧ (r.k ≠ 3 → r.rd = 0) → τ 2 = ptr G → τ 3 = ptr R → xp (prims P ro) none 104 k97 c97_11 [1, 1] τ [] [] s2 (xleave (prims P ro) s Tryd.f97.results.toList (fun v s' => v = .bool (decide (Formed g.f g.nv r)) ∧ s' = s)) := fun {τ} hk h2 h3 => by
    rw [n97_11]
    unfold v97_11
    simp (maxSteps := 10000000) only [wW, reduceCtorEq, Nat.reduceEqDiff, wL, Nat.reduceAdd, h2, h3, hG, hR]
    refine buildSlice_rule se_23 ty_24 m2.wf [.int .u64 r.ql, .int .u64 r.qr, .int .u64 r.qm, .int .u64 r.qo, .int .u64 r.qc] rfl rfl (by decide) (by simp [Value.cells]) fun A s3 m3 => ?_
    have e3 := m3.eq
    have n3 := m3.n
    have hQ : U64s s3 (.slice (some ⟨A, 0, none⟩) 5 5) r.qs := m3.sl rfl
    have g3 := g2.trans m3.grew
    have hG3 : acells (s3.at G) = some (g.cells ur) := acells_some ((m3.grew.same G (by omega)).trans hG2)
    have hR3' := (m3.grew.same R (by omega)).trans hR2
    have hR3 : acells (s3.at R) = some r.cells := acells_some hR3'
    refine wloop l97_1110100 m97_1110100 (fun (i : Nat) τ ds s' => i ≤ 5 ∧ τ 2 = ptr G ∧ τ 3 = ptr R ∧ τ 5 = .slice (some ⟨A, 0, none⟩) 5 5 ∧ τ 6 = .int .i64 i ∧ ds = [] ∧ s3 = s' ∧ ∀ q ∈ r.qs.take i, q < fP g.f ∧ (r.k ≠ 1 → q = 0)) (fun i => 5 - i) ?_ 0 ⟨by omega, ?_, ?_, rfl, rfl, rfl, rfl, fun q hq => by cases hq⟩
    · rintro i τ ds s' ⟨hi, h2, h3, h5, h6, rfl, rfl, hall⟩
      rw [n97_1110100]
      unfold v97_1110100
      simp (maxSteps := 10000000) only [wW, reduceCtorEq, Nat.reduceEqDiff, h5, h6, wop_len se_23]
      have hql : r.qs.length = 5 := rfl
      by_cases hlt : i < 5
      · rw [if_pos (by omega)]
        have hiq : i < r.qs.length := by rw [hql]; exact hlt
        obtain ⟨A4, o4, c4, z1, z2, z3⟩ := hQ.at1 (i := (i : Int)) (x := r.qs[i]) (by omega) (by rw [Int.toNat_natCast]; exact List.getElem?_eq_getElem hiq)
        simp (maxSteps := 10000000) only [wW, reduceCtorEq, Nat.reduceEqDiff, wL, Nat.reduceAdd, h2, h3, z1, z2, z3, hG3, hR3, wrP]
        refine ⟨by simp [veq], by simp [veq], .refl _, ?_⟩
        have hmem : r.qs[i] ∈ r.qs := List.getElem_mem _
        by_cases hge : r.qs[i] ≥ fP g.f
        · rw [if_pos hge]
          refine noR g3 (fun hf => ?_) (by simp only [U, tset_eq, wW, reduceCtorEq, Nat.reduceEqDiff])
          have := (hf.2.2.2.2.1 _ hmem).1
          omega
        · rw [if_neg hge]
          refine ⟨by simp [veq], ?_⟩
          have next : (r.k ≠ 1 → r.qs[i] = 0) → ∀ (al : AL), U τ al 2 = ptr G → U τ al 3 = ptr R → U τ al 5 = .slice (some ⟨A, 0, none⟩) 5 5 → U τ al 6 = .int .i64 (IntKind.i64.wrap ((i : Int) + 1)) → ∃ y, 5 - y < 5 - i ∧ y ≤ 5 ∧ U τ al 2 = ptr G ∧ U τ al 3 = ptr R ∧ U τ al 5 = .slice (some ⟨A, 0, none⟩) 5 5 ∧ U τ al 6 = .int .i64 (y : Nat) ∧ True ∧ True ∧ ∀ q ∈ r.qs.take y, q < fP g.f ∧ (r.k ≠ 1 → q = 0) := fun hz al a2 a3 a5 a6 => by
            rw [wrap_i64 (by omega) (by omega)] at a6
            refine ⟨i + 1, by omega, by omega, a2, a3, a5, a6, trivial, trivial, fun q hq => ?_⟩
            rw [take_succ_eq (List.getElem?_eq_getElem (show i < r.qs.length by omega)), List.mem_append] at hq
            rcases hq with hq | hq
            · exact hall q hq
            · simp only [List.mem_cons, List.not_mem_nil, or_false] at hq
              subst hq
              exact ⟨by omega, hz⟩
          by_cases hk1 : r.k = 1
          · rw [if_neg (by simpa using hk1)]
            refine next (fun h => absurd hk1 h) _ ?_ ?_ ?_ ?_ <;> simp only [U, tset_eq, wW, reduceCtorEq, Nat.reduceEqDiff, h2, h3, h5, h6]
          · rw [if_pos hk1]
            refine ⟨by simp [veq], ?_⟩
            by_cases hz : r.qs[i] = 0
            · rw [if_neg (by simpa using hz)]
              refine next (fun _ => hz) _ ?_ ?_ ?_ ?_ <;> simp only [U, tset_eq, wW, reduceCtorEq, Nat.reduceEqDiff, h2, h3, h5, h6]
            · rw [if_pos hz]
              refine noR g3 (fun hf => ?_) (by simp only [U, tset_eq, wW, reduceCtorEq, Nat.reduceEqDiff])
              exact hz ((hf.2.2.2.2.1 _ hmem).2 hk1)
      · obtain rfl : i = 5 := by omega
        rw [if_neg (by omega)]
        have hqs : ∀ q ∈ r.qs, q < fP g.f ∧ (r.k ≠ 1 → q = 0) := hall
        clear hall
        refine wloop l97_11110100 m97_11110100 (fun (i : Nat) τ ds s' => i ≤ 4 ∧ τ 2 = ptr G ∧ τ 3 = ptr R ∧ τ 7 = .int .i64 i ∧ ds = [] ∧ s3 = s' ∧ ∀ k : Nat, k < i → -1 ≤ r.w k ∧ r.w k < g.nv) (fun i => 4 - i) ?_ 0 ⟨by omega, ?_, ?_, rfl, rfl, rfl, fun k hk => by omega⟩
        · rintro i τ ds s' ⟨hi, h2, h3, h7, rfl, rfl, hall⟩
          rw [n97_11110100]
          unfold v97_11110100
          by_cases hlt : i < 4
          · simp (maxSteps := 10000000) only [wW, reduceCtorEq, Nat.reduceEqDiff, wL, Nat.reduceAdd, h2, h3, h7, hG3, hR3, wix _ _ hlt, rcw r hlt]
            rw [if_pos (by omega)]
            by_cases hlo : r.w i < -1
            · rw [if_pos hlo]
              refine noR g3 (fun hf => ?_) (by simp only [U, tset_eq, wW, reduceCtorEq, Nat.reduceEqDiff])
              have := (hf.2.2.2.2.2.1 i hlt).1
              omega
            · rw [if_neg hlo]
              by_cases hhi : r.w i ≥ g.nv
              · rw [if_pos hhi]
                refine noR g3 (fun hf => ?_) (by simp only [U, tset_eq, wW, reduceCtorEq, Nat.reduceEqDiff])
                have := (hf.2.2.2.2.2.1 i hlt).2
                omega
              · rw [if_neg hhi, wrap_i64 (by omega) (by omega)]
                refine ⟨i + 1, by omega, by omega, ?_, ?_, ?_, trivial, trivial, fun k hk => ?_⟩
                · simp only [U, tset_eq, wW, reduceCtorEq, Nat.reduceEqDiff, h2]
                · simp only [U, tset_eq, wW, reduceCtorEq, Nat.reduceEqDiff, h3]
                · simp only [U, tset_eq, wW, reduceCtorEq, Nat.reduceEqDiff]; rfl
                · rcases Nat.lt_or_ge k i with h | h
                  · exact hall k h
                  · obtain rfl : k = i := by omega
                    omega
          · obtain rfl : i = 4 := by omega
            simp (maxSteps := 10000000) only [wW, reduceCtorEq, Nat.reduceEqDiff, h7]
            rw [if_neg (by omega)]
            simp (maxSteps := 10000000) only [U, tset_eq, wW, reduceCtorEq, Nat.reduceEqDiff, wL, Nat.reduceAdd, h3, hR3]
            refine wReads r m3.wf (by omega) fun v s4 g4 hI => ?_
            have g34 := g3.trans g4
            have hR4 : acells (s4.at R) = some r.cells := acells_some ((g4.same R (by omega)).trans hR3')
            have hrl := rds_len r
            refine wloop l97_1111110100 m97_1111110100 (fun (i : Nat) τ ds s' => i ≤ (rds r).length ∧ τ 3 = ptr R ∧ τ 8 = v ∧ τ 9 = .int .i64 i ∧ ds = [] ∧ s4 = s' ∧ ∀ j ∈ (rds r).take i, 0 ≤ r.w j.toNat) (fun i => (rds r).length - i) ?_ 0 ⟨by omega, ?_, ?_, ?_, rfl, rfl, fun k hk => by cases hk⟩
            · rintro i τ ds s' ⟨hi, h3, h8, h9, rfl, rfl, hjs⟩
              rw [n97_1111110100]
              unfold v97_1111110100
              simp (maxSteps := 10000000) only [wW, reduceCtorEq, Nat.reduceEqDiff, h8, h9, hI.wlen se_30]
              by_cases hlt : i < (rds r).length
              · rw [if_pos (by omega)]
                obtain ⟨A4, o4, c4, z1, z2, z3⟩ := hI.at1 (i := (i : Int)) (x := (rds r)[i]) (by omega) (by rw [Int.toNat_natCast]; exact List.getElem?_eq_getElem hlt)
                have hmem : (rds r)[i] ∈ rds r := List.getElem_mem _
                have hj := rds_lt r _ hmem
                have hjc : (((rds r)[i]).toNat : Int) = (rds r)[i] := by omega
                have hwx := wix R 1 (k := ((rds r)[i]).toNat) (by omega)
                rw [hjc] at hwx
                simp (maxSteps := 10000000) only [wW, reduceCtorEq, Nat.reduceEqDiff, wL, Nat.reduceAdd, h3, z1, z2, z3, hR4, hwx, rcw r (show ((rds r)[i]).toNat < 4 by omega)]
                by_cases hneg : r.w ((rds r)[i]).toNat < 0
                · rw [if_pos hneg]
                  refine noR g34 (fun hf => ?_) (by simp only [U, tset_eq, wW, reduceCtorEq, Nat.reduceEqDiff])
                  have := hf.2.2.2.2.2.2 _ hmem
                  omega
                · rw [if_neg hneg, wrap_i64 (by omega) (by omega)]
                  refine ⟨i + 1, by omega, by omega, ?_, ?_, ?_, trivial, trivial, fun j hj => ?_⟩
                  · simp only [U, tset_eq, wW, reduceCtorEq, Nat.reduceEqDiff, h3]
                  · simp only [U, tset_eq, wW, reduceCtorEq, Nat.reduceEqDiff, h8]
                  · simp only [U, tset_eq, wW, reduceCtorEq, Nat.reduceEqDiff]; rfl
                  · rw [take_succ_eq (List.getElem?_eq_getElem hlt), List.mem_append] at hj
                    rcases hj with hj | hj
                    · exact hjs j hj
                    · simp only [List.mem_cons, List.not_mem_nil, or_false] at hj
                      subst hj
                      omega
              · rw [if_neg (by omega)]
                rw [List.take_of_length_le (by omega)] at hjs
                rw [xleave_U, r97]
                simp (maxSteps := 10000000) only [U, tset_eq, wW, reduceCtorEq, Nat.reduceEqDiff]
                refine fin_flat rfl g34 ⟨?_, rfl⟩
                rw [decide_eq_true]
                exact ⟨hk.1, hk.2.1, hk.2.2.1, hk.2.2.2, hqs, hall, hjs⟩
            · simp only [U, tset_eq, wW, reduceCtorEq, Nat.reduceEqDiff, h3]
            · simp only [U, tset_eq, wW, reduceCtorEq, Nat.reduceEqDiff]
            · simp only [U, tset_eq, wW, reduceCtorEq, Nat.reduceEqDiff]; rfl
        · simp only [U, tset_eq, wW, reduceCtorEq, Nat.reduceEqDiff, h2]
        · simp only [U, tset_eq, wW, reduceCtorEq, Nat.reduceEqDiff, h3]
    · simp only [U, tset_eq, wW, reduceCtorEq, Nat.reduceEqDiff, h2]
    · simp only [U, tset_eq, wW, reduceCtorEq, Nat.reduceEqDiff, h3]
  by_cases c1 : r.k > 3
  · rw [if_pos c1]
    exact no g2 fun hf => by have := hf.1; omega
  · rw [if_neg c1]
    by_cases c2 : r.rd < 0
    · rw [if_pos c2]
      exact no g2 fun hf => by have := hf.2.1; omega
    · rw [if_neg c2]
      by_cases c3 : r.rd > 7
      · rw [if_pos c3]
        exact no g2 fun hf => by have := hf.2.2.1; omega
      · rw [if_neg c3]
        by_cases c4 : r.k = 3
        · rw [if_neg (by simpa using c4)]
          refine rest ⟨by omega, by omega, by omega, fun h => absurd c4 h⟩ ?_ ?_ <;> simp only [U, tset_eq, wW, reduceCtorEq, Nat.reduceEqDiff]
        · rw [if_pos c4]
          by_cases c5 : r.rd = 0
          · rw [if_neg (by simpa using c5)]
            refine rest ⟨by omega, by omega, by omega, fun _ => c5⟩ ?_ ?_ <;> simp only [U, tset_eq, wW, reduceCtorEq, Nat.reduceEqDiff]
          · rw [if_pos c5]
            exact no g2 fun hf => c5 (hf.2.2.2.1 c4)
end
end Go.VE
/- The reference of the gates: limits. -/
namespace Go.VE
open Go Go.Proofs
set_option maxRecDepth 20000
def row0 : Row := ⟨0, 0, 0, 0, 0, 0, 0, 0, 0, 0, 0⟩
def rowAt (l : List Row) (i : Nat) : Row := (l[i]?).getD row0
theorem rowAt_get {l : List Row} {i : Nat} (h : i < l.length) : l[i]? = some (rowAt l i) := by
  unfold rowAt
  rw [List.getElem?_eq_getElem h]; rfl
theorem nxt_eq (l : List Row) (i : Nat) : nxt l i = rowAt l (i + 1) := rfl
def RowLim (g : Gp) (i : Nat) : Prop := Formed g.f g.nv (rowAt g.rows i) ∧ ((rowAt g.rows i).k = 3 → i + 1 < g.rows.length ∧ ∀ k : Nat, k < 4 → 0 ≤ (rowAt g.rows (i + 1)).w k)
instance (g : Gp) (i : Nat) : Decidable (RowLim g i) := by unfold RowLim; infer_instance
def Limits (g : Gp) : Prop :=
  fV g.f = true ∧ 0 ≤ g.pub ∧ g.pub ≤ 16 ∧ 0 ≤ g.sec ∧ g.sec ≤ 20000 ∧ g.pub + g.sec ≤ g.nv ∧ g.nv ≤ 40000 ∧ g.rows.length ≤ 8000 ∧ ∀ i : Nat, i < g.rows.length → RowLim g i
instance (g : Gp) : Decidable (Limits g) := by unfold Limits; infer_instance
section
variable {ro : Nat} {K : Value → St → Prop}
theorem wLimits (g : Gp) {s : St} {ur : Value} (hw : Wf s) (hro : ro ≤ s.n) (hr : RowsS s ur g.rows) (hlen : g.rows.length < 2 ^ 60) : CallWP P ro 84 [.agg (.mk (g.cells ur))] s K = K (.bool (decide (Limits g))) s := by
  refine callEq (call_wp b84 rfl ?_) K
  rw [n84]
  unfold v84
  simp (maxSteps := 10000000) only [wW, reduceCtorEq, Nat.reduceEqDiff]
  refine box_rule hw.ent fun G s1 m1 => ?_
  have e1 := m1.eq
  have n1 := m1.n
  have hn0 : (ent s).n = s.n := rfl
  have hG1 : s1.at G = some (.cells (g.cells ur) 34 false) := m1.here
  have hG := acells_some hG1
  have hr1 : RowsS s1 ur g.rows := (Sl.ent hr).grew m1.grew.same
  have hgl : ∀ s' K, wop P ro (.call ⟨.builtin .len, ⟨[.const ur]⟩, #[32]⟩) 3 s' K = K (.int .i64 (g.rows.length : Nat)) s' := fun s' K => Sl.wlen hr1 se_32 _ K
  have no : ¬ Limits g → wfin s (fun v s' => v = .bool (decide (Limits g)) ∧ s' = s) (.bool false) s1 := fun hf => by
    refine fin_flat rfl m1.grew ⟨?_, rfl⟩
    rw [decide_eq_false hf]
  have noR : ∀ {τ : Tau} {al : AL}, ¬ Limits g → U τ al 2 = .bool false → xleave (prims P ro) s Tryd.f84.results.toList (fun v s' => v = .bool (decide (Limits g)) ∧ s' = s) .ret (U τ al) [] [] s1 := fun {τ al} hf h4 => by
    rw [r84]
    simp (maxSteps := 10000000) only [wW, reduceCtorEq, Nat.reduceEqDiff]
    rw [h4]
    exact no hf
  simp (maxSteps := 10000000) only [wW, reduceCtorEq, Nat.reduceEqDiff, wL, Nat.reduceAdd, hG, wrValid, hgl]
  cases hv : fV g.f with
  | false =>
    simp (maxSteps := 10000000) only [wW, reduceCtorEq, Nat.reduceEqDiff]
    exact no fun hf => by rw [hf.1] at hv; cases hv
  | true =>
  simp (maxSteps := 10000000) only [Bool.true_eq_false, wW, reduceCtorEq, Nat.reduceEqDiff]
  by_cases c1 : g.pub < 0
  · rw [if_pos c1]
    exact no fun hf => by have := hf.2.1; omega
  · rw [if_neg c1]
    by_cases c2 : g.pub > 16
    · rw [if_pos c2]
      exact no fun hf => by have := hf.2.2.1; omega
    · rw [if_neg c2]
      by_cases c3 : g.sec < 0
      · rw [if_pos c3]
        exact no fun hf => by have := hf.2.2.2.1; omega
      · rw [if_neg c3]
        by_cases c4 : g.sec > 20000
        · rw [if_pos c4]
          exact no fun hf => by have := hf.2.2.2.2.1; omega
        · rw [if_neg c4, wrap_i64 (n := g.pub + g.sec) (by omega) (by omega)]
          by_cases c5 : g.nv < g.pub + g.sec
          · rw [if_pos c5]
            exact no fun hf => by have := hf.2.2.2.2.2.1; omega
          · rw [if_neg c5]
            by_cases c6 : g.nv > 40000
            · rw [if_pos c6]
              exact no fun hf => by have := hf.2.2.2.2.2.2.1; omega
            · rw [if_neg c6]
              by_cases c7 : (g.rows.length : Int) > 8000
              · rw [if_pos c7]
                exact no fun hf => by have := hf.2.2.2.2.2.2.2.1; omega
              · rw [if_neg c7]
                refine wloop l84_110100 m84_110100 (fun (i : Nat) τ ds s' => i ≤ g.rows.length ∧ τ 1 = ptr G ∧ τ 3 = .int .i64 i ∧ ds = [] ∧ s1 = s' ∧ ∀ j : Nat, j < i → RowLim g j) (fun i => g.rows.length - i) ?_ 0 ⟨by omega, ?_, ?_, rfl, rfl, fun k hk => by omega⟩
                · rintro i τ ds s' ⟨hi, h1, h3, rfl, rfl, hall⟩
                  rw [n84_110100]
                  unfold v84_110100
                  simp (maxSteps := 10000000) only [wW, reduceCtorEq, Nat.reduceEqDiff, wL, Nat.reduceAdd, h1, h3, hG, hgl]
                  by_cases hlt : i < g.rows.length
                  · rw [if_pos (by omega)]
                    obtain ⟨A, o, c, q1, q2⟩ := hr1.ix (rowAt_get hlt)
                    have hkc := q2.kind
                    simp (maxSteps := 10000000) only [wW, reduceCtorEq, Nat.reduceEqDiff, wL, Nat.reduceAdd, q1, q2.blk, q2.all, hG]
                    refine ⟨gcVeq g (slVeq hr1), slVeq hr1, rcVeq _, ?_⟩
                    rw [wFormed g (rowAt g.rows i) m1.wf (by omega)]
                    simp (maxSteps := 10000000) only [wW, reduceCtorEq, Nat.reduceEqDiff, wL, Nat.reduceAdd, q1, q2.blk, hG, hkc, hgl]
                    by_cases hf : Formed g.f g.nv (rowAt g.rows i)
                    · rw [if_neg (by simpa using hf)]
                      have hiw : IntKind.i64.wrap ((i : Int) + 1) = ((i + 1 : Nat) : Int) := by rw [wrap_i64 (by omega) (by omega)]; rfl
                      have next : RowLim g i → ∀ (τ : Tau) (al : AL), U τ al 1 = ptr G → U τ al 3 = .int .i64 ((i + 1 : Nat) : Int) → ∃ y, g.rows.length - y < g.rows.length - i ∧ y ≤ g.rows.length ∧ U τ al 1 = ptr G ∧ U τ al 3 = .int .i64 (y : Nat) ∧ True ∧ True ∧ ∀ j : Nat, j < y → RowLim g j := fun hl τ al a1 a3 => ⟨i + 1, by omega, by omega, a1, a3, trivial, trivial, fun j hj => by
                        rcases Nat.lt_or_ge j i with h | h
                        · exact hall j h
                        · obtain rfl : j = i := by omega
                          exact hl⟩
                      by_cases hk3 : (rowAt g.rows i).k = 3
                      · rw [if_neg (by simpa using hk3), hiw]
                        by_cases hge : ((i + 1 : Nat) : Int) ≥ g.rows.length
                        · rw [if_pos hge]
                          refine noR (fun hf => ?_) (by simp only [U, tset_eq, wW, reduceCtorEq, Nat.reduceEqDiff])
                          have := ((hf.2.2.2.2.2.2.2.2 i hlt).2 hk3).1
                          omega
                        · rw [if_neg hge]
                          have hlt1 : i + 1 < g.rows.length := by omega
                          obtain ⟨A2, o2, cc2, y1, y2⟩ := hr1.ix (rowAt_get hlt1)
                          refine wloop l84_110100100111100 m84_110100100111100 (fun (k : Nat) τ ds s' => k ≤ 4 ∧ τ 1 = ptr G ∧ τ 3 = .int .i64 i ∧ τ 4 = .int .i64 k ∧ ds = [] ∧ s1 = s' ∧ ∀ j : Nat, j < k → 0 ≤ (rowAt g.rows (i + 1)).w j) (fun k => 4 - k) ?_ 0 ⟨by omega, ?_, ?_, ?_, rfl, rfl, fun k hk => by omega⟩
                          · rintro k τ ds s' ⟨hk, h1, h3, h4, rfl, rfl, hks⟩
                            rw [n84_110100100111100]
                            unfold v84_110100100111100
                            by_cases hk4 : k < 4
                            · have hwk := y2.wire hk4
                              simp (maxSteps := 10000000) only [wW, reduceCtorEq, Nat.reduceEqDiff, wL, Nat.reduceAdd, h1, h3, h4, hG, hiw, y1, y2.blk, wix _ _ hk4, hwk]
                              rw [if_pos (by omega)]
                              by_cases hneg : (rowAt g.rows (i + 1)).w k < 0
                              · rw [if_pos hneg]
                                refine noR (fun hf => ?_) (by simp only [U, tset_eq, wW, reduceCtorEq, Nat.reduceEqDiff])
                                have := ((hf.2.2.2.2.2.2.2.2 i hlt).2 hk3).2 k hk4
                                omega
                              · rw [if_neg hneg, wrap_i64 (by omega) (by omega)]
                                refine ⟨k + 1, by omega, by omega, ?_, ?_, ?_, trivial, trivial, fun j hj => ?_⟩
                                · simp only [U, tset_eq, wW, reduceCtorEq, Nat.reduceEqDiff, h1]
                                · simp only [U, tset_eq, wW, reduceCtorEq, Nat.reduceEqDiff, h3]
                                · simp only [U, tset_eq, wW, reduceCtorEq, Nat.reduceEqDiff]; rfl
                                · rcases Nat.lt_or_ge j k with h | h
                                  · exact hks j h
                                  · obtain rfl : j = k := by omega
                                    omega
                            · obtain rfl : k = 4 := by omega
                              simp (maxSteps := 10000000) only [wW, reduceCtorEq, Nat.reduceEqDiff, h4]
                              rw [if_neg (by omega)]
                              simp (maxSteps := 10000000) only [U, tset_eq, wW, reduceCtorEq, Nat.reduceEqDiff, h3, hiw]
                              refine ⟨i + 1, by omega, by omega, ?_, ?_, trivial, trivial, fun j hj => ?_⟩
                              · simp only [h1]
                              · trivial
                              · rcases Nat.lt_or_ge j i with h | h
                                · exact hall j h
                                · obtain rfl : j = i := by omega
                                  exact ⟨hf, fun _ => ⟨hlt1, hks⟩⟩
                          · simp only [U, tset_eq, wW, reduceCtorEq, Nat.reduceEqDiff, h1]
                          · simp only [U, tset_eq, wW, reduceCtorEq, Nat.reduceEqDiff, h3]
                          · simp only [U, tset_eq, wW, reduceCtorEq, Nat.reduceEqDiff]; rfl
                      · rw [if_pos hk3, hiw]
                        refine next ⟨hf, fun h => absurd h hk3⟩ _ _ ?_ ?_ <;> simp only [U, tset_eq, wW, reduceCtorEq, Nat.reduceEqDiff, h1]
                    · rw [if_pos (by simpa using hf)]
                      refine noR (fun hl => hf ?_) (by simp only [U, tset_eq, wW, reduceCtorEq, Nat.reduceEqDiff])
                      exact (hl.2.2.2.2.2.2.2.2 i hlt).1
                  · rw [if_neg (by omega)]
                    obtain rfl : i = g.rows.length := by omega
                    refine fin_flat rfl m1.grew ⟨?_, rfl⟩
                    rw [decide_eq_true]
                    exact ⟨hv, by omega, by omega, by omega, by omega, by omega, by omega, by omega, hall⟩
                · simp only [U, tset_eq, wW, reduceCtorEq, Nat.reduceEqDiff]
                · simp only [U, tset_eq, wW, reduceCtorEq, Nat.reduceEqDiff]; rfl
end
end Go.VE
/- The reference of the gates: order, Valid. -/
namespace Go.VE
open Go Go.Proofs
set_option maxRecDepth 20000
structure Vc {α : Type} (e : TypeId) (mk : α → Value) (s0 s : St) (A : Nat) (l : List α) : Prop where
  here : s.at A = some (.cells (l.map mk) e false)
  new : s0.n ≤ A
  wf : Wf s
  grew : Grew s0 s
theorem map_splice {α : Type} (mk : α → Value) (l : List α) (i : Nat) (x : α) (h : i < l.length) : splice (l.map mk) i [mk x] = (l.set i x).map mk := by
  rw [splice_set (by simpa using h)]
  simp [List.map_set]
theorem oneCell_cells {v : Value} (h : v.oneCell' = true) : v.cells = #[v] := by cases v <;> first | rfl | cases h
theorem zeroList_one {v : Value} (h : v.oneCell' = true) (n : Nat) : zeroList v.cells (n * 1) = List.replicate n v := by
  unfold zeroList
  rw [oneCell_cells h, Nat.mul_one]
  refine List.ext_getElem (by simp) fun i h1 h2 => ?_
  simp [Nat.mod_one]
section
variable {ro : Nat} {K : Value → St → Prop}
theorem Vc.store {α : Type} {e : TypeId} {mk : α → Value} {s0 s : St} {A : Nat} {l : List α} (h : Vc e mk s0 s A l) (hs : isz P e = some 1) (hw0 : Wf s0) (hro : ro ≤ s0.n) {i : Nat} (hi : i < l.length) {x : α} (h1 : (mk x).oneCell' = true) {ty : TypeId} {K : Value → St → Prop} (hk : ∀ s', Vc e mk s0 s' A (l.set i x) → (∀ B, B ≠ A → s'.at B = s.at B) → s'.n = s.n → K undef s') :
    wop P ro (.store e (.const (.pointer (some ⟨A, i, none⟩))) (.const (mk x))) ty s K := by
  have hn := h.new
  refine store1_rule hs h.here h.wf (by omega) (by simpa using hi) h1 fun s' p => hk s' ⟨?_, h.new, p.wf, p.grew _ hw0 h.grew h.new⟩ p.rest p.n
  rw [p.here, map_splice _ _ _ _ hi]
theorem make_rule {α : Type} {t e : TypeId} {bytes : Nat} {mk : α → Value} {x : α} (hse : sliceElem P t = some e) (hty : tyOk P e 1 bytes (mk x) = true) (h1 : (mk x).oneCell' = true) {s : St} (hw : Wf s) {n : Int} (h0 : 0 ≤ n) (hn : n ≤ 2 ^ 30) (hb : bytes ≤ 100) {ty : TypeId} {K : Value → St → Prop}
    (hk : ∀ A s', Made s A (.cells ((List.replicate n.toNat x).map mk) e false) s' → K (.slice (some ⟨A, 0, none⟩) n.toNat n.toNat) s') : wop P ro (.makeSlice t (.const (.int .i64 n)) (.const (.int .i64 n))) ty s K := by
  obtain ⟨i, hi, hsz, hby, hz, hf, hzs⟩ := tyOk_spec hty
  rw [wop_makeSlice]
  have hle : bytes * n ≤ 100 * 2 ^ 30 := Int.mul_le_mul (by omega) hn h0 (by omega)
  have hc : flat (mk x) = true ∧ 0 ≤ n ∧ n ≤ n ∧ i.bytes * n ≤ 2 ^ 47 ∧ n ≤ 2 ^ 47 ∧ (mk x).cells.size = i.size := ⟨hf, h0, Int.le_refl _, by rw [hby]; omega, by omega, by rw [hsz]; exact hzs⟩
  simp only [amakeSlice, hse, hi, hz]
  rw [if_pos hc, wopt_some, hsz, zeroList_one h1]
  have := hk s.n (s.new (.cells (List.replicate n.toNat (mk x)) e false))
  rw [List.map_replicate] at this
  exact this (.mk' hw _)
theorem sliceElem_un {t e : TypeId} (he : sliceElem P t = some e) : P.underlying t = some (.slice e) := by
  unfold sliceElem at he
  split at he
  · rename_i e' hu; cases he; exact hu
  · cases he
theorem ixc {t e : TypeId} (hse : sliceElem P t = some e) (hs : isz P e = some 1) {A n c : Nat} {i : Int} (h0 : 0 ≤ i) (hi : i < n) : aindexAddr P t (.slice (some ⟨A, 0, none⟩) n c) (.int .i64 i) = some (.pointer (some ⟨A, i.toNat, none⟩)) := by
  simp only [aindexAddr, sliceElem_un hse, hs, Option.bind_some, aplace, h0, hi, and_self, if_true, Nat.mul_one, Nat.zero_add]
theorem max_i64 (a b : Int) (ty : TypeId) (s : St) (K : Value → St → Prop) : wop P ro (.call ⟨.builtin .max, ⟨[.const (.int .i64 a), .const (.int .i64 b)]⟩, #[3, 3]⟩) ty s K = K (.int .i64 (if a < b then b else a)) s := by kernel_rfl
end
def dInit (n0 : Int) (i : Nat) (D : List Int) : List Int := if (i : Int) < n0 then (D.set i (-1)).set i 0 else D.set i (-1)
def mostM (r : Row) (D : List Int) : List Int → Int → Option Int
  | [], m => some m
  | j :: l, m => if at0 D (r.w j.toNat) < 0 ∧ ¬ (r.k = 1 ∧ j = 2) then none else mostM r D l (if m < at0 D (r.w j.toNat) then at0 D (r.w j.toNat) else m)
def dNext (m : Int) (nx : Row) (k : Nat) (D : List Int) : List Int := if at0 D (nx.w k) < 0 then D.set (nx.w k).toNat (m + 1) else D
def dArith (r : Row) (m : Int) (D : List Int) : List Int := if r.k = 1 ∧ r.qo ≠ 0 ∧ at0 D r.w2 < 0 then D.set r.w2.toNat (m + 1) else D
def dRow (r nx : Row) (m : Int) (D : List Int) : List Int := if r.k = 3 then it (dNext m nx) 4 (dArith r m D) else dArith r m D
def stepD (g : Gp) (i : Nat) (D : List Int) : Option (List Int) := (mostM (rowAt g.rows i) D (rds (rowAt g.rows i)) 0).map fun m => dRow (rowAt g.rows i) (rowAt g.rows (i + 1)) m D
def orderD (g : Gp) : Nat → Option (List Int)
  | 0 => some (it (dInit (g.pub + g.sec)) g.nv.toNat (List.replicate g.nv.toNat 0))
  | i + 1 => (orderD g i).bind (stepD g i)
def orderM (g : Gp) : Option (List Int) := (orderD g g.rows.length).bind fun D => if D.all (fun x => decide (0 ≤ x)) then some D else none
theorem orderD_none {g : Gp} {i : Nat} (h : orderD g i = none) : ∀ {n : Nat}, i ≤ n → orderD g n = none
  | 0, hn => by obtain rfl : i = 0 := by omega
                exact h
  | n + 1, hn => by
    rcases Nat.lt_or_ge i (n + 1) with hlt | hge
    · rw [orderD, orderD_none h (by omega)]; rfl
    · obtain rfl : i = n + 1 := by omega
      exact h
def Dep (N : Nat) (m : Int) (D : List Int) : Prop := D.length = N ∧ ∀ x ∈ D, -1 ≤ x ∧ x ≤ m
theorem Dep.set {N : Nat} {m : Int} {D : List Int} (h : Dep N m D) {i : Nat} {x : Int} (hx : -1 ≤ x ∧ x ≤ m) : Dep N m (D.set i x) := ⟨by rw [List.length_set]; exact h.1, fun y hy => by
  rcases List.mem_or_eq_of_mem_set hy with hy | rfl
  · exact h.2 y hy
  · exact hx⟩
theorem Dep.mono {N : Nat} {m m' : Int} {D : List Int} (h : Dep N m D) (hm : m ≤ m') : Dep N m' D := ⟨h.1, fun x hx => ⟨(h.2 x hx).1, Int.le_trans (h.2 x hx).2 hm⟩⟩
theorem Dep.at0 {N : Nat} {m : Int} {D : List Int} (h : Dep N m D) (hm : 0 ≤ m) (i : Int) : -1 ≤ Go.VE.at0 D i ∧ Go.VE.at0 D i ≤ m := by
  unfold Go.VE.at0
  cases hx : D[i.toNat]? with
  | none => exact ⟨by decide, hm⟩
  | some x => exact h.2 x (List.mem_of_getElem? hx)
theorem Dep.init {N : Nat} {n0 : Int} {D : List Int} (h : Dep N 0 D) (i : Nat) : Dep N 0 (dInit n0 i D) := by
  unfold dInit
  split
  · exact (h.set (by decide)).set (by decide)
  · exact h.set (by decide)
theorem Dep.arith {N : Nat} {i m : Int} {D : List Int} {r : Row} (h : Dep N i D) (hm : -1 ≤ m ∧ m ≤ i) : Dep N (i + 1) (dArith r m D) := by
  unfold dArith
  split
  · exact (h.mono (by omega)).set (by omega)
  · exact h.mono (by omega)
theorem Dep.next {N : Nat} {i m : Int} {D : List Int} {r : Row} {k : Nat} (h : Dep N (i + 1) D) (hm : -1 ≤ m ∧ m ≤ i) : Dep N (i + 1) (dNext m r k D) := by
  unfold dNext
  split
  · exact h.set (by omega)
  · exact h
theorem Dep.nexts {N : Nat} {i m : Int} {D : List Int} {r : Row} (h : Dep N (i + 1) D) (hm : -1 ≤ m ∧ m ≤ i) : ∀ n, Dep N (i + 1) (it (dNext m r) n D)
  | 0 => h
  | n + 1 => (Dep.nexts h hm n).next hm
theorem Dep.inits {N : Nat} {n0 : Int} {D : List Int} (h : Dep N 0 D) : ∀ n, Dep N 0 (it (dInit n0) n D)
  | 0 => h
  | n + 1 => (Dep.inits h n).init n
end Go.VE
