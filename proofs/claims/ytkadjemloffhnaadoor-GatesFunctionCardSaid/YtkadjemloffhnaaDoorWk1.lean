/-
  What the functions compute.
-/
import Derived.Test.YtkadjemloffhnaaDoorFn2
set_option linter.unusedSimpArgs false
set_option linter.unusedVariables false
/- The calls that are known: the examples of the chapter. -/
namespace Go.VE
open Go Go.Proofs
theorem wW : type_of% (And.intro @pr_wop <| And.intro @pr_call <| And.intro @pr_wcall <| And.intro @pr_wdefer <| And.intro @pr_defers <| And.intro @pr_loop <| And.intro @pr_range <| And.intro @pr_fin <| And.intro @pr_hold <| And.intro @xdefers_eq <| And.intro @xcallv_fn <| And.intro @wopt_some <| And.intro @wopt_none <| And.intro @wopt_map <| And.intro @wopt_bind <| And.intro @wopt_ite <| And.intro @wdec_true <| And.intro @wdec_false <| And.intro @wdec_bool <| And.intro @wop_fieldAddr <| And.intro @wop_field <| And.intro @wop_index_agg <| And.intro @wop_build <| And.intro @wop_nilCheck <| And.intro @wop_int <| And.intro @wop_not <| And.intro @wop_extract <| And.intro (fun {P : Program} => @int_add P _ keq_i64) <| And.intro (fun {P : Program} => @int_sub P _ keq_i64) <| And.intro (fun {P : Program} => @int_mul P _ keq_i64) <| And.intro (fun {P : Program} => @int_add P _ keq_u64) <| And.intro (fun {P : Program} => @int_sub P _ keq_u64) <| And.intro (fun {P : Program} => @int_mul P _ keq_u64) <| And.intro (fun {P : Program} => @int_eql P _ keq_i64) <| And.intro (fun {P : Program} => @int_eql P _ keq_u64) <| And.intro (fun {P : Program} => @int_eql P _ keq_u8) <| And.intro (fun {P : Program} => @int_eql P _ keq_u32) <| And.intro (fun {P : Program} => @int_neq P _ keq_i64) <| And.intro (fun {P : Program} => @int_neq P _ keq_u64) <| And.intro (fun {P : Program} => @int_neq P _ keq_u8) <| And.intro (fun {P : Program} => @int_neq P _ keq_u32) <| And.intro (fun {P : Program} => @int_lss P _ keq_i64) <| And.intro (fun {P : Program} => @int_lss P _ keq_u64) <| And.intro (fun {P : Program} => @int_lss P _ keq_u8) <| And.intro (fun {P : Program} => @int_lss P _ keq_u32) <| And.intro (fun {P : Program} => @int_leq P _ keq_i64) <| And.intro (fun {P : Program} => @int_leq P _ keq_u64) <| And.intro (fun {P : Program} => @int_leq P _ keq_u8) <| And.intro (fun {P : Program} => @int_leq P _ keq_u32) <| And.intro (fun {P : Program} => @int_gtr P _ keq_i64) <| And.intro (fun {P : Program} => @int_gtr P _ keq_u64) <| And.intro (fun {P : Program} => @int_gtr P _ keq_u8) <| And.intro (fun {P : Program} => @int_gtr P _ keq_u32) <| And.intro (fun {P : Program} => @int_geq P _ keq_i64) <| And.intro (fun {P : Program} => @int_geq P _ keq_u64) <| And.intro (fun {P : Program} => @int_geq P _ keq_u8) <| And.intro (fun {P : Program} => @int_geq P _ keq_u32) <| And.intro (fun {P : Program} => @int_rem P _ keq_i64) <| And.intro (fun {P : Program} => @int_rem P _ keq_u64) <| And.intro (fun {P : Program} => @int_rem P _ keq_u8) <| And.intro (fun {P : Program} => @int_quo P _ keq_u64) <| And.intro (fun {P : Program} => @int_quo P _ keq_i64) <| And.intro @n_new <| And.intro @lo_new <| And.intro @n_ent <| And.intro @lo_ent <| And.intro @at_ent <| And.intro @thenW_normal <| And.intro @thenW_ret <| And.intro @thenW_exit <| And.intro @outs_ret <| And.intro @outs_exit <| And.intro @kOf_cons <| And.intro @wdefers_nil <| And.intro @Option.bind_some.{0,0} <| And.intro @Option.map_some.{0,0} <| And.intro @decide_eq_true_eq <| And.intro @Bool.not_eq_true' <| And.intro @decide_eq_false_iff_not <| And.intro @Bool.not_true <| And.intro @Bool.not_false <| And.intro @ne_eq.{1} <| And.intro @if_true.{1} <| And.intro @if_false.{1} <| And.intro @eq_self.{1} <| And.intro @Nat.zero_add <| And.intro @Nat.add_zero <| @not_false_eq_true) := And.intro @pr_wop <| And.intro @pr_call <| And.intro @pr_wcall <| And.intro @pr_wdefer <| And.intro @pr_defers <| And.intro @pr_loop <| And.intro @pr_range <| And.intro @pr_fin <| And.intro @pr_hold <| And.intro @xdefers_eq <| And.intro @xcallv_fn <| And.intro @wopt_some <| And.intro @wopt_none <| And.intro @wopt_map <| And.intro @wopt_bind <| And.intro @wopt_ite <| And.intro @wdec_true <| And.intro @wdec_false <| And.intro @wdec_bool <| And.intro @wop_fieldAddr <| And.intro @wop_field <| And.intro @wop_index_agg <| And.intro @wop_build <| And.intro @wop_nilCheck <| And.intro @wop_int <| And.intro @wop_not <| And.intro @wop_extract <| And.intro (fun {P : Program} => @int_add P _ keq_i64) <| And.intro (fun {P : Program} => @int_sub P _ keq_i64) <| And.intro (fun {P : Program} => @int_mul P _ keq_i64) <| And.intro (fun {P : Program} => @int_add P _ keq_u64) <| And.intro (fun {P : Program} => @int_sub P _ keq_u64) <| And.intro (fun {P : Program} => @int_mul P _ keq_u64) <| And.intro (fun {P : Program} => @int_eql P _ keq_i64) <| And.intro (fun {P : Program} => @int_eql P _ keq_u64) <| And.intro (fun {P : Program} => @int_eql P _ keq_u8) <| And.intro (fun {P : Program} => @int_eql P _ keq_u32) <| And.intro (fun {P : Program} => @int_neq P _ keq_i64) <| And.intro (fun {P : Program} => @int_neq P _ keq_u64) <| And.intro (fun {P : Program} => @int_neq P _ keq_u8) <| And.intro (fun {P : Program} => @int_neq P _ keq_u32) <| And.intro (fun {P : Program} => @int_lss P _ keq_i64) <| And.intro (fun {P : Program} => @int_lss P _ keq_u64) <| And.intro (fun {P : Program} => @int_lss P _ keq_u8) <| And.intro (fun {P : Program} => @int_lss P _ keq_u32) <| And.intro (fun {P : Program} => @int_leq P _ keq_i64) <| And.intro (fun {P : Program} => @int_leq P _ keq_u64) <| And.intro (fun {P : Program} => @int_leq P _ keq_u8) <| And.intro (fun {P : Program} => @int_leq P _ keq_u32) <| And.intro (fun {P : Program} => @int_gtr P _ keq_i64) <| And.intro (fun {P : Program} => @int_gtr P _ keq_u64) <| And.intro (fun {P : Program} => @int_gtr P _ keq_u8) <| And.intro (fun {P : Program} => @int_gtr P _ keq_u32) <| And.intro (fun {P : Program} => @int_geq P _ keq_i64) <| And.intro (fun {P : Program} => @int_geq P _ keq_u64) <| And.intro (fun {P : Program} => @int_geq P _ keq_u8) <| And.intro (fun {P : Program} => @int_geq P _ keq_u32) <| And.intro (fun {P : Program} => @int_rem P _ keq_i64) <| And.intro (fun {P : Program} => @int_rem P _ keq_u64) <| And.intro (fun {P : Program} => @int_rem P _ keq_u8) <| And.intro (fun {P : Program} => @int_quo P _ keq_u64) <| And.intro (fun {P : Program} => @int_quo P _ keq_i64) <| And.intro @n_new <| And.intro @lo_new <| And.intro @n_ent <| And.intro @lo_ent <| And.intro @at_ent <| And.intro @thenW_normal <| And.intro @thenW_ret <| And.intro @thenW_exit <| And.intro @outs_ret <| And.intro @outs_exit <| And.intro @kOf_cons <| And.intro @wdefers_nil <| And.intro @Option.bind_some.{0,0} <| And.intro @Option.map_some.{0,0} <| And.intro @decide_eq_true_eq <| And.intro @Bool.not_eq_true' <| And.intro @decide_eq_false_iff_not <| And.intro @Bool.not_true <| And.intro @Bool.not_false <| And.intro @ne_eq.{1} <| And.intro @if_true.{1} <| And.intro @if_false.{1} <| And.intro @eq_self.{1} <| And.intro @Nat.zero_add <| And.intro @Nat.add_zero <| @not_false_eq_true
noncomputable instance known : Memo := memoOf [(9, [], .bool true)]
end Go.VE
/- The field's reference and the field: what their functions do. -/
namespace Go.VE
open Go Go.Proofs
set_option maxRecDepth 20000
def fP (f : Int) : Int := if f = 0 then 97 else if f = 1 then 257 else if f = 2 then 12289 else if f = 3 then 998244353 else 0
def fV (f : Int) : Bool := decide (0 ≤ f) && decide (f ≤ 3)
def fExp (f : Int) : Int := if f = 0 ∨ f = 2 then 5 else if f = 1 ∨ f = 3 then 3 else 0
def fGen (f : Int) : Int := if f = 0 then 5 else if f = 1 ∨ f = 3 then 3 else if f = 2 then 11 else 0
def fAdd (f a b : Int) : Int := if fV f then (a + b) % fP f else 0
def fSub (f a b : Int) : Int := if fV f then (a - b) % fP f else 0
def fMul (f a b : Int) : Int := if fV f then a * b % fP f else 0
theorem fV_cases {f : Int} (h : fV f = true) : f = 0 ∨ f = 1 ∨ f = 2 ∨ f = 3 := by
  simp only [fV, Bool.and_eq_true, decide_eq_true_eq] at h
  omega
theorem fP_pos {f : Int} (h : fV f = true) : 0 < fP f := by
  rcases fV_cases h with rfl | rfl | rfl | rfl <;> decide
theorem fP_lt (f : Int) : fP f < 2 ^ 30 := by
  unfold fP
  repeat' split
  all_goals omega
theorem fP_zero {f : Int} (h : fV f = false) : fP f = 0 := by
  unfold fP
  have : f ≠ 0 ∧ f ≠ 1 ∧ f ≠ 2 ∧ f ≠ 3 := by
    refine ⟨?_, ?_, ?_, ?_⟩ <;> (rintro rfl; revert h; decide)
  simp [this.1, this.2.1, this.2.2.1, this.2.2.2]
theorem tmod_nonneg {a b : Int} (h : 0 ≤ a) : a.tmod b = a % b := Int.tmod_eq_emod_of_nonneg h
theorem mod_bounds {a p : Int} (hp : 0 < p) : 0 ≤ a % p ∧ a % p < p := ⟨Int.emod_nonneg _ (by omega), Int.emod_lt_of_pos _ hp⟩
section
variable {ro : Nat} {s : St} {K : Value → St → Prop}
theorem wrP (f : Int) : CallWP P ro 51 [.int .i64 f] s K = K (.int .u64 (fP f)) s := by
  refine callEq (call_wp b51 rfl ?_) K
  rw [n51]
  unfold v51
  unfold fP
  simp only [wW, reduceCtorEq, Nat.reduceEqDiff]
  repeat' split
  all_goals (rw [wfin_flat (by simp only [lo_ent, Nat.le_refl]) rfl]; simp_all)
theorem wrValid (f : Int) : CallWP P ro 39 [.int .i64 f] s K = K (.bool (fV f)) s := by
  refine callEq (call_wp b39 rfl ?_) K
  rw [n39]
  unfold v39
  unfold fV
  simp only [wW, reduceCtorEq, Nat.reduceEqDiff]
  repeat' split
  all_goals (rw [wfin_flat (by simp only [lo_ent, Nat.le_refl]) rfl]; simp_all; try omega)
end
end Go.VE
/- Powers, inverses; the field's package. -/
namespace Go.VE
open Go Go.Proofs
set_option maxRecDepth 20000
def fPow (f a n : Int) : Int := if fV f then a ^ n.toNat % fP f else 0
def fInv (f a : Int) : Int := fPow f a (fP f - 2)
def fDiv (f a b : Int) : Int := fMul f a (fInv f b)
def fNeg (f a : Int) : Int := fSub f 0 a
theorem fMul_bounds (f a b : Int) : 0 ≤ fMul f a b ∧ fMul f a b < 2 ^ 30 := by
  unfold fMul
  split
  · rename_i h
    have := mod_bounds (a := a * b) (fP_pos h)
    have := fP_lt f
    omega
  · omega
theorem fAdd_bounds (f a b : Int) : 0 ≤ fAdd f a b ∧ fAdd f a b < 2 ^ 30 := by
  unfold fAdd
  split
  · rename_i h
    have := mod_bounds (a := a + b) (fP_pos h)
    have := fP_lt f
    omega
  · omega
theorem fSub_bounds (f a b : Int) : 0 ≤ fSub f a b ∧ fSub f a b < 2 ^ 30 := by
  unfold fSub
  split
  · rename_i h
    have := mod_bounds (a := a - b) (fP_pos h)
    have := fP_lt f
    omega
  · omega
theorem fPow_bounds (f a n : Int) : 0 ≤ fPow f a n ∧ fPow f a n < 2 ^ 30 := by
  unfold fPow
  split
  · rename_i h
    have := mod_bounds (a := a ^ n.toNat) (fP_pos h)
    have := fP_lt f
    omega
  · omega
section
variable {ro : Nat}
def fieldCells (x0 x1 x2 x3 : Option Addr) (n0 n1 n2 n3 c0 c1 c2 c3 : Nat) : List Value :=
  [.int .u64 97, .int .u64 5, .int .i64 5, .int .i64 5, .slice x0 n0 c0, .int .u64 257, .int .u64 3, .int .i64 8, .int .i64 3, .slice x1 n1 c1,
   .int .u64 12289, .int .u64 11, .int .i64 12, .int .i64 5, .slice x2 n2 c2, .int .u64 998244353, .int .u64 3, .int .i64 23, .int .i64 3, .slice x3 n3 c3]
def FieldsAt (s : St) : Prop := ∃ x0 x1 x2 x3 n0 n1 n2 n3 c0 c1 c2 c3 t op, s.at 0 = some (.cells (fieldCells x0 x1 x2 x3 n0 n1 n2 n3 c0 c1 c2 c3) t op)
theorem FieldsAt.lt {s : St} (h : FieldsAt s) : 0 < s.n := by
  obtain ⟨_, _, _, _, _, _, _, _, _, _, _, _, _, _, h⟩ := h
  exact St.at_lt h
theorem FieldsAt.grew {s s' : St} (h : FieldsAt s) (hg : Grew s s') : FieldsAt s' := by
  obtain ⟨x0, x1, x2, x3, n0, n1, n2, n3, c0, c1, c2, c3, t, op, h1⟩ := h
  exact ⟨x0, x1, x2, x3, n0, n1, n2, n3, c0, c1, c2, c3, t, op, by rw [hg.same 0 (St.at_lt h1)]; exact h1⟩
def fTwo (f : Int) : Int := if f = 0 then 5 else if f = 1 then 8 else if f = 2 then 12 else if f = 3 then 23 else 0
theorem wfValid (f : Int) {s : St} {K : Value → St → Prop} : CallWP P ro 58 [.int .i64 f] s K = K (.bool (fV f)) s := by
  refine callEq (call_wp b58 rfl ?_) K
  rw [n58]
  unfold v58
  unfold fV
  simp only [wW, reduceCtorEq, Nat.reduceEqDiff]
  repeat' split
  all_goals (rw [wfin_flat (by simp only [lo_ent, Nat.le_refl]) rfl]; simp_all; try omega)
theorem wfOf (f : Int) {s : St} {K : Value → St → Prop} (hw : Wf s) (hro : ro ≤ s.n) (hG : FieldsAt s) (h : ∀ x n c s', Grew s s' → K (.agg (.mk [.int .u64 (fP f), .int .u64 (fGen f), .int .i64 (fTwo f), .int .i64 (fExp f), .slice x n c])) s') : CallWP P ro 66 [.int .i64 f] s K := by
  refine call_wp b66 rfl ?_
  rw [n66]
  unfold v66
  simp only [pr_wop, pr_call, pr_fin]
  refine alloc_rule ty_75 hw.ent fun A s1 m1 => ?_
  have hA : s.n ≤ A := by rw [m1.eq]; exact Nat.le_refl _
  have key : ∀ (l : List Value), l.length = 5 → l.all (·.oneCell') = true → (∀ s', Grew s s' → K (.agg (.mk l)) s') →
      wop P ro (.store 75 (.const (.pointer (some ⟨A, 0, none⟩))) (.const (.agg (.mk l)))) 0 s1 fun _ s2 =>
        wop P ro (.load 75 (.const (.pointer (some ⟨A, 0, none⟩)))) 75 s2 fun v _ => wfin s K v s2 := fun l hl h1 hK => by
    refine storeAll_rule isz_75 m1.here hl (by decide) m1.wf (by omega) rfl h1 fun s2 p2 => ?_
    refine load_rule (load_all ap_75 p2.here hl) ?_
    exact wfin_any hw (p2.grew _ hw.ent m1.grew hA) hK
  rw [wfValid]
  simp only [wop_not, wdec_bool]
  by_cases hv : fV f = true
  · rw [hv, if_neg (by decide)]
    obtain ⟨x0, x1, x2, x3, n0, n1, n2, n3, c0, c1, c2, c3, t, op, h0⟩ := hG
    have h0' : s1.at 0 = _ := (m1.grew.same 0 (St.at_lt h0)).trans h0
    rw [wop_indexAddr, ixArr un_88 isz_75]
    rcases fV_cases hv with rfl | rfl | rfl | rfl
    · refine load_rule (load_part (l := [.int .u64 97, .int .u64 5, .int .i64 5, .int .i64 5, .slice x0 n0 c0]) ap_75 h0' rfl) ?_
      exact key _ rfl rfl fun s' hg => h x0 n0 c0 s' hg
    · refine load_rule (load_part (l := [.int .u64 257, .int .u64 3, .int .i64 8, .int .i64 3, .slice x1 n1 c1]) ap_75 h0' rfl) ?_
      exact key _ rfl rfl fun s' hg => h x1 n1 c1 s' hg
    · refine load_rule (load_part (l := [.int .u64 12289, .int .u64 11, .int .i64 12, .int .i64 5, .slice x2 n2 c2]) ap_75 h0' rfl) ?_
      exact key _ rfl rfl fun s' hg => h x2 n2 c2 s' hg
    · refine load_rule (load_part (l := [.int .u64 998244353, .int .u64 3, .int .i64 23, .int .i64 3, .slice x3 n3 c3]) ap_75 h0' rfl) ?_
      exact key _ rfl rfl fun s' hg => h x3 n3 c3 s' hg
  · have hv : fV f = false := by simpa using hv
    have hf : fP f = 0 ∧ fGen f = 0 ∧ fTwo f = 0 ∧ fExp f = 0 := by
      have : f ≠ 0 ∧ f ≠ 1 ∧ f ≠ 2 ∧ f ≠ 3 := by
        refine ⟨?_, ?_, ?_, ?_⟩ <;> (rintro rfl; revert hv; decide)
      simp [fP, fGen, fTwo, fExp, this.1, this.2.1, this.2.2.1, this.2.2.2]
    rw [hv, if_pos (by decide), wop_build, show abuild P 75 (partVals .e []) = some (.agg (.mk [.int .u64 0, .int .u64 0, .int .i64 0, .int .i64 0, .slice none 0 0])) by kernel_rfl]
    refine key _ rfl rfl fun s' hg => ?_
    have := h none 0 0 s' hg
    rw [hf.1, hf.2.1, hf.2.2.1, hf.2.2.2] at this
    exact this
theorem wfP (f : Int) {s : St} {K : Value → St → Prop} (hw : Wf s) (hro : ro ≤ s.n) (hG : FieldsAt s) : CallWP P ro 47 [.int .i64 f] s K = K (.int .u64 (fP f)) s := by
  refine callEq (call_wp b47 rfl ?_) K
  rw [n47]
  unfold v47
  simp only [wW, reduceCtorEq, Nat.reduceEqDiff]
  refine wfOf f hw.ent hro hG fun x n c s' hg => ?_
  rw [fd_75_0, ap_38]
  simp only [wopt_some, List.getElem?_cons_zero]
  rw [wfin_flat (by rw [hg.lo]; exact Nat.le_refl _) rfl]
  exact ⟨rfl, rfl⟩
theorem wfAdd (f : Int) {a b : Int} (ha : 0 ≤ a) (hb : 0 ≤ b) {s : St} {K : Value → St → Prop} (hw : Wf s) (hro : ro ≤ s.n) (hG : FieldsAt s) : CallWP P ro 48 [.int .i64 f, .int .u64 a, .int .u64 b] s K = K (.int .u64 (fAdd f a b)) s := by
  refine callEq (call_wp b48 rfl ?_) K
  rw [n48]
  unfold v48
  simp only [wW, reduceCtorEq, Nat.reduceEqDiff]
  rw [wfP f hw.ent hro hG]
  simp only [wW, reduceCtorEq, Nat.reduceEqDiff]
  by_cases hv : fV f = true
  · have hp := fP_pos hv
    have hl := fP_lt f
    have hne : fP f ≠ 0 := by omega
    have h1 := mod_bounds (a := a) hp
    have h2 := mod_bounds (a := b) hp
    simp only [hne, wW, reduceCtorEq, Nat.reduceEqDiff, tmod_nonneg ha, tmod_nonneg hb, fAdd, hv]
    rw [wrap_u64 (n := a % fP f + b % fP f) (by omega) (by omega)]
    have e : (a + b) % fP f = (a % fP f + b % fP f) % fP f := by rw [Int.emod_add_emod, Int.add_emod_emod]
    split
    · rename_i h3
      rw [wrap_u64 (n := a % fP f + b % fP f - fP f) (by omega) (by omega), wfin_flat (Nat.le_refl _) rfl, e]
      refine ⟨?_, rfl⟩
      congr 1
      have e2 := Int.sub_emod_right (a % fP f + b % fP f) (fP f)
      rw [← e2]
      exact (Int.emod_eq_of_lt (by omega) (by omega)).symm
    · rename_i h3
      rw [wfin_flat (Nat.le_refl _) rfl, e]
      refine ⟨?_, rfl⟩
      congr 1
      exact (Int.emod_eq_of_lt (by omega) (by omega)).symm
  · have hv : fV f = false := by simpa using hv
    simp only [fP_zero hv, wW, reduceCtorEq, Nat.reduceEqDiff, fAdd, hv, Bool.false_eq_true]
    rw [wfin_flat (Nat.le_refl _) rfl]
    exact ⟨rfl, rfl⟩
theorem wfNeg (f : Int) {a : Int} (ha : 0 ≤ a) {s : St} {K : Value → St → Prop} (hw : Wf s) (hro : ro ≤ s.n) (hG : FieldsAt s) : CallWP P ro 30 [.int .i64 f, .int .u64 a] s K = K (.int .u64 (fNeg f a)) s := by
  refine callEq (call_wp b30 rfl ?_) K
  rw [n30]
  unfold v30
  simp only [wW, reduceCtorEq, Nat.reduceEqDiff]
  rw [wfP f hw.ent hro hG]
  simp only [wW, reduceCtorEq, Nat.reduceEqDiff]
  by_cases hv : fV f = true
  · have hp := fP_pos hv
    have hl := fP_lt f
    have hne : fP f ≠ 0 := by omega
    have h1 := mod_bounds (a := a) hp
    simp only [hne, wW, reduceCtorEq, Nat.reduceEqDiff, tmod_nonneg ha, fNeg, fSub, hv]
    split
    · rename_i h3
      rw [wfin_flat (Nat.le_refl _) rfl]
      refine ⟨?_, rfl⟩
      congr 1
      rw [Int.zero_sub]
      exact (Int.emod_eq_zero_of_dvd (Int.dvd_neg.2 (Int.dvd_of_emod_eq_zero h3))).symm
    · rename_i h3
      rw [wrap_u64 (by omega) (by omega), wfin_flat (Nat.le_refl _) rfl]
      refine ⟨?_, rfl⟩
      congr 1
      have h4 : a % fP f ≠ 0 := by simpa using h3
      have e2 : (0 - a) % fP f = (fP f - a % fP f) % fP f := by
        rw [← Int.sub_emod_emod 0 a, ← Int.add_emod_right (0 - a % fP f), show 0 - a % fP f + fP f = fP f - a % fP f by omega]
      rw [e2]
      exact (Int.emod_eq_of_lt (by omega) (by omega)).symm
  · have hv : fV f = false := by simpa using hv
    simp only [fP_zero hv, wW, reduceCtorEq, Nat.reduceEqDiff, fNeg, fSub, hv, Bool.false_eq_true]
    rw [wfin_flat (Nat.le_refl _) rfl]
    exact ⟨rfl, rfl⟩
theorem wfMul (f : Int) {a b : Int} (ha : 0 ≤ a) (hb : 0 ≤ b) {s : St} {K : Value → St → Prop} (hw : Wf s) (hro : ro ≤ s.n) (hG : FieldsAt s) : CallWP P ro 49 [.int .i64 f, .int .u64 a, .int .u64 b] s K = K (.int .u64 (fMul f a b)) s := by
  refine callEq (call_wp b49 rfl ?_) K
  rw [n49]
  unfold v49
  simp only [wW, reduceCtorEq, Nat.reduceEqDiff]
  rw [wfP f hw.ent hro hG]
  simp only [wW, reduceCtorEq, Nat.reduceEqDiff]
  by_cases hv : fV f = true
  · have hp := fP_pos hv
    have hl := fP_lt f
    have hne : fP f ≠ 0 := by omega
    have h1 := mod_bounds (a := a) hp
    have h2 := mod_bounds (a := b) hp
    have h3 : 0 ≤ a % fP f * (b % fP f) := Int.mul_nonneg h1.1 h2.1
    have h4 : a % fP f * (b % fP f) ≤ 2 ^ 30 * 2 ^ 30 := Int.mul_le_mul (by omega) (by omega) h2.1 (by omega)
    simp only [hne, wW, reduceCtorEq, Nat.reduceEqDiff, tmod_nonneg ha, tmod_nonneg hb, fMul, hv]
    rw [wrap_u64 (by omega) (by omega), tmod_nonneg (by omega), wfin_flat (Nat.le_refl _) rfl, ← Int.mul_emod]
    exact ⟨rfl, rfl⟩
  · have hv : fV f = false := by simpa using hv
    simp only [fP_zero hv, wW, reduceCtorEq, Nat.reduceEqDiff, fMul, hv, Bool.false_eq_true]
    rw [wfin_flat (Nat.le_refl _) rfl]
    exact ⟨rfl, rfl⟩
end
end Go.VE
/- Rows of gate programs, lists of numbers. -/
namespace Go.VE
open Go Go.Proofs
set_option maxRecDepth 20000
def Ints (s : St) (v : Value) (l : List Int) : Prop := Sl s v 1 l.length (l.map (.int .i64))
theorem take_succ_eq {α : Type} {l : List α} {i : Nat} {a : α} (h : l[i]? = some a) : l.take (i + 1) = l.take i ++ [a] := by
  rw [List.take_add_one, h]; rfl
def U64s (s : St) (v : Value) (l : List Int) : Prop := Sl s v 1 l.length (l.map (.int .u64))
structure Row where
  k : Int
  w0 : Int
  w1 : Int
  w2 : Int
  w3 : Int
  ql : Int
  qr : Int
  qm : Int
  qo : Int
  qc : Int
  rd : Int
def Row.cells (r : Row) : List Value := [.int .u8 r.k, .int .i64 r.w0, .int .i64 r.w1, .int .i64 r.w2, .int .i64 r.w3, .int .u64 r.ql, .int .u64 r.qr, .int .u64 r.qm, .int .u64 r.qo, .int .u64 r.qc, .int .i64 r.rd]
def rowCells (l : List Row) : List Value := l.flatMap Row.cells
theorem rowCells_len : ∀ (l : List Row), (rowCells l).length = l.length * 11
  | [] => rfl
  | r :: l => by
    have := rowCells_len l
    simp only [rowCells, List.flatMap_cons, List.length_append, List.length_cons] at this ⊢
    rw [this, Nat.add_mul, Nat.add_comm]; rfl
abbrev ptr (B : Nat) : Value := .pointer (some ⟨B, 0, none⟩)
theorem drop_cons {α : Type} {l : List α} {i : Nat} (h : i < l.length) : l.drop i = l[i] :: l.drop (i + 1) := List.drop_eq_getElem_cons h
theorem xleave_U [Memo] {P : Program} {ro : Nat} {s0 : St} {rs : List ResultVar} {K : Value → St → Prop} {τ : Tau} {l : AL} {ds : List Deferred} {s : St} : xleave (prims P ro) s0 rs K .ret τ l ds s = xleave (prims P ro) s0 rs K .ret (U τ l) [] ds s := by
  simp only [xleave, xresL_eq, U]
theorem fin_flat {si s : St} {K : Value → St → Prop} {v : Value} (hf : flat' v = true) (hg : Grew (ent si) s) (h : K v si) : wfin si K v s := by
  rw [wfin_flat (by rw [hg.lo]; exact Nat.le_refl _) hf]; exact h
def Row.w (r : Row) : Nat → Int
  | 0 => r.w0
  | 1 => r.w1
  | 2 => r.w2
  | _ => r.w3
theorem rc0 (r : Row) : r.cells[0]? = some (.int .u8 r.k) := rfl
theorem rc1 (r : Row) : r.cells[1]? = some (.int .i64 r.w0) := rfl
theorem rc2 (r : Row) : r.cells[2]? = some (.int .i64 r.w1) := rfl
theorem rc3 (r : Row) : r.cells[3]? = some (.int .i64 r.w2) := rfl
theorem rc4 (r : Row) : r.cells[4]? = some (.int .i64 r.w3) := rfl
theorem rc5 (r : Row) : r.cells[5]? = some (.int .u64 r.ql) := rfl
theorem rc6 (r : Row) : r.cells[6]? = some (.int .u64 r.qr) := rfl
theorem rc7 (r : Row) : r.cells[7]? = some (.int .u64 r.qm) := rfl
theorem rc8 (r : Row) : r.cells[8]? = some (.int .u64 r.qo) := rfl
theorem rc9 (r : Row) : r.cells[9]? = some (.int .u64 r.qc) := rfl
theorem rc10 (r : Row) : r.cells[10]? = some (.int .i64 r.rd) := rfl
theorem rcw (r : Row) : ∀ {k : Nat}, k < 4 → r.cells[1 + k]? = some (.int .i64 (r.w k))
  | 0, _ => rfl
  | 1, _ => rfl
  | 2, _ => rfl
  | 3, _ => rfl
theorem rcAll (r : Row) : cut r.cells 0 11 = some r.cells := rfl
structure Gp where
  f : Int
  nv : Int
  pub : Int
  sec : Int
  rows : List Row
def Gp.cells (g : Gp) (u : Value) : List Value := [.int .i64 g.f, .int .i64 g.nv, .int .i64 g.pub, .int .i64 g.sec, u]
theorem gc0 (g : Gp) (u : Value) : (g.cells u)[0]? = some (.int .i64 g.f) := rfl
theorem gc1 (g : Gp) (u : Value) : (g.cells u)[1]? = some (.int .i64 g.nv) := rfl
theorem gc2 (g : Gp) (u : Value) : (g.cells u)[2]? = some (.int .i64 g.pub) := rfl
theorem gc3 (g : Gp) (u : Value) : (g.cells u)[3]? = some (.int .i64 g.sec) := rfl
theorem gc4 (g : Gp) (u : Value) : (g.cells u)[4]? = some u := rfl
theorem gcAll (g : Gp) (u : Value) : cut (g.cells u) 0 5 = some (g.cells u) := rfl
theorem gcVeq (g : Gp) {u : Value} (h : veq u u = true) : veq (.agg (g.cells u).toArray) (.agg (g.cells u).toArray) = true := by simp [veq, veqA, veqL, Gp.cells, h]
theorem rcVeq (r : Row) : veq (.agg r.cells.toArray) (.agg r.cells.toArray) = true := by simp [veq, veqA, veqL, Row.cells]
theorem slVeq {s : St} {v : Value} {sz n : Nat} {cs : List Value} (h : Sl s v sz n cs) : veq v v = true := by
  obtain ⟨a, c, rfl, _⟩ := h
  simp [veq]
def RowsS (s : St) (u : Value) (l : List Row) : Prop := Sl s u 11 l.length (rowCells l)
theorem rowCells_cut : ∀ (l : List Row) {i : Nat} {r : Row}, l[i]? = some r → cut (rowCells l) (i * 11) 11 = some r.cells
  | [], i, r, h => by simp at h
  | x :: l, 0, r, h => by
    simp only [List.getElem?_cons_zero, Option.some.injEq] at h
    subst h
    rw [cut_eq (by rw [rowCells_len]; simp only [List.length_cons]; omega)]
    rfl
  | x :: l, i + 1, r, h => by
    simp only [List.getElem?_cons_succ] at h
    have ih := rowCells_cut l h
    have hl : i < l.length := by
      have := List.getElem?_eq_some_iff.1 h
      exact this.1
    have e : rowCells (x :: l) = x.cells ++ rowCells l := rfl
    have hx : x.cells.length = 11 := rfl
    rw [cut_eq (by rw [rowCells_len]; omega)] at ih
    rw [cut_eq (by rw [rowCells_len]; simp only [List.length_cons]; omega), e, List.drop_append, List.drop_of_length_le (by omega), List.nil_append, show (i + 1) * 11 - x.cells.length = i * 11 by omega]
    exact ih
theorem rowCells_get (l : List Row) {i : Nat} {r : Row} (h : l[i]? = some r) {k : Nat} (hk : k < 11) : (rowCells l)[i * 11 + k]? = r.cells[k]? := by
  have hc := rowCells_cut l h
  have hl : i < l.length := (List.getElem?_eq_some_iff.1 h).1
  rw [cut_eq (by rw [rowCells_len]; omega)] at hc
  have := Option.some.inj hc
  rw [← this, List.getElem?_take, if_pos hk, List.getElem?_drop]
structure RowIn (s : St) (A o : Nat) (c : List Value) (r : Row) : Prop where
  blk : acells (s.at A) = some c
  at_ : ∀ k, k < 11 → c[o + k]? = r.cells[k]?
  all : cut c o 11 = some r.cells
theorem RowsS.ix {s : St} {u : Value} {l : List Row} (h : RowsS s u l) {i : Nat} {r : Row} (hr : l[i]? = some r) : ∃ A o c, aindexAddr P 22 u (.int .i64 (i : Int)) = some (.pointer (some ⟨A, o, none⟩)) ∧ RowIn s A o c r := by
  have hl : i < l.length := (List.getElem?_eq_some_iff.1 hr).1
  obtain ⟨A, o, h1, h2, h3⟩ := Sl.ix h (by decide) (show (0 : Int) ≤ i by omega) (show (i : Int) < l.length by omega)
  have h0 := h3 0 11 (by decide) (by decide)
  simp only [Nat.add_zero] at h0
  rw [Int.toNat_natCast, rowCells_cut l hr] at h0
  cases hc : acells (s.at A) with
  | none => rw [hc] at h0; cases h0
  | some c =>
    rw [hc] at h0
    refine ⟨A, o, c, h1 se_22 isz_43, hc, fun k hk => ?_, h0⟩
    have := h2 k hk
    rw [hc, Int.toNat_natCast, rowCells_get l hr hk] at this
    exact this
theorem RowIn.kind {s : St} {A o : Nat} {c : List Value} {r : Row} (h : RowIn s A o c r) : c[o]? = some (.int .u8 r.k) := h.at_ 0 (by decide)
theorem RowIn.wire {s : St} {A o : Nat} {c : List Value} {r : Row} (h : RowIn s A o c r) {k : Nat} (hk : k < 4) : c[o + 1 + k]? = some (.int .i64 (r.w k)) := by
  have := h.at_ (1 + k) (by omega)
  rw [rcw r hk] at this
  simpa only [Nat.add_assoc] using this
theorem wix (A o : Nat) {k : Nat} (hk : k < 4) : aindexAddr P 41 (.pointer (some ⟨A, o, none⟩)) (.int .i64 (k : Int)) = some (.pointer (some ⟨A, o + k, none⟩)) := by
  rw [ixArr un_41 isz_3]
  unfold aplace
  rw [if_pos (by omega), Int.toNat_natCast, Nat.mul_one]
theorem six (A o : Nat) {k : Nat} (hk : k < 4) : aindexAddr P 39 (.pointer (some ⟨A, o, none⟩)) (.int .i64 (k : Int)) = some (.pointer (some ⟨A, o + k, none⟩)) := by
  rw [ixArr un_39 isz_38]
  unfold aplace
  rw [if_pos (by omega), Int.toNat_natCast, Nat.mul_one]
theorem wix0 (A o : Nat) : aindexAddr P 41 (.pointer (some ⟨A, o, none⟩)) (.int .i64 0) = some (.pointer (some ⟨A, o, none⟩)) := by kernel_rfl
theorem wix1 (A o : Nat) : aindexAddr P 41 (.pointer (some ⟨A, o, none⟩)) (.int .i64 1) = some (.pointer (some ⟨A, o + 1, none⟩)) := by kernel_rfl
theorem wix2 (A o : Nat) : aindexAddr P 41 (.pointer (some ⟨A, o, none⟩)) (.int .i64 2) = some (.pointer (some ⟨A, o + 2, none⟩)) := by kernel_rfl
theorem Sl.at1 {s : St} {v : Value} {n : Nat} {cs : List Value} (h : Sl s v 1 n cs) {t e : TypeId} (hse : sliceElem P t = some e) (hs : isz P e = some 1) {i : Int} {x : Value} (h0 : 0 ≤ i) (hi : i < n) (hx : cs[i.toNat]? = some x) : ∃ A o c, aindexAddr P t v (.int .i64 i) = some (.pointer (some ⟨A, o, none⟩)) ∧ acells (s.at A) = some c ∧ c[o]? = some x := by
  obtain ⟨A, o, h1, h2, _⟩ := Sl.ix h (by decide) h0 hi
  have := h2 0 (by decide)
  rw [Nat.add_zero, Nat.mul_one, Nat.add_zero, hx] at this
  cases hc : acells (s.at A) with
  | none => rw [hc] at this; cases this
  | some c => rw [hc] at this; exact ⟨A, o, c, h1 hse hs, hc, this⟩
theorem Ints.at1 {s : St} {v : Value} {l : List Int} (h : Ints s v l) {i : Int} {x : Int} (h0 : 0 ≤ i) (hx : l[i.toNat]? = some x) : ∃ A o c, aindexAddr P 49 v (.int .i64 i) = some (.pointer (some ⟨A, o, none⟩)) ∧ acells (s.at A) = some c ∧ c[o]? = some (.int .i64 x) := by
  have hl : i.toNat < l.length := (List.getElem?_eq_some_iff.1 hx).1
  exact Sl.at1 h se_49 isz_3 h0 (by omega) (by rw [List.getElem?_map, hx]; rfl)
theorem U64s.at1 {s : St} {v : Value} {l : List Int} (h : U64s s v l) {i : Int} {x : Int} (h0 : 0 ≤ i) (hx : l[i.toNat]? = some x) : ∃ A o c, aindexAddr P 25 v (.int .i64 i) = some (.pointer (some ⟨A, o, none⟩)) ∧ acells (s.at A) = some c ∧ c[o]? = some (.int .u64 x) := by
  have hl : i.toNat < l.length := (List.getElem?_eq_some_iff.1 hx).1
  exact Sl.at1 h se_25 isz_38 h0 (by omega) (by rw [List.getElem?_map, hx]; rfl)
theorem Sl.sameAt {s s' : St} {v : Value} {sz n : Nat} {cs : List Value} (h : Sl s v sz n cs) (hs : ∀ A o sp n c, v = .slice (some ⟨A, o, sp⟩) n c → s'.at A = s.at A) : Sl s' v sz n cs := by
  obtain ⟨a, c, rfl, hl, hx, h⟩ := h
  refine ⟨a, c, rfl, hl, hx, fun hn => ?_⟩
  obtain ⟨A, o, m, cells, t, op, rfl, hm, hA, hc⟩ := h hn
  exact ⟨A, o, m, cells, t, op, rfl, hm, by rw [hs A o m n c rfl]; exact hA, hc⟩
def QOk (Q : Ex → XK) : Prop := ∃ Q' : Ex → WK, ∀ ex τ l ds s, Q ex τ l ds s = Q' ex (U τ l) ds s
theorem QOk.lift (Q : Ex → WK) : QOk (lift Q) := ⟨Q, fun _ _ _ _ _ => rfl⟩
theorem QOk.leave [Memo] {P : Program} {ro : Nat} {s0 : St} {rs : List ResultVar} {K : Value → St → Prop} : QOk (xleave (prims P ro) s0 rs K) := ⟨wleave P ro s0 rs K, fun ex τ l ds s => by
  cases ex with
  | exit id => rfl
  | _ => simp only [xleave, wleave, xresL_eq, xdefers_eq, pr_fin]⟩
theorem QOk.blk {Q : Ex → XK} (h : QOk Q) (id : Nat) : QOk (blkX id Q) := by
  obtain ⟨Q', h⟩ := h
  refine ⟨blkW id Q', fun ex τ l ds s => ?_⟩
  cases ex with
  | exit j =>
    simp only [blkX, blkW]
    cases Nat.beq j id
    · exact h _ _ _ _ _
    · exact h _ _ _ _ _
  | _ => exact h _ _ _ _ _
theorem QOk.sX [Memo] {P : Program} {ro : Nat} {rnd : Option Nat} {N : Nat} {cuts : List (List Nat)} {b : Code} {p : List Nat} {Q : Ex → XK} (h : QOk Q) : QOk (sX (prims P ro) rnd N cuts b p Q) := by
  obtain ⟨Q', h⟩ := h
  refine ⟨thenW (fun τ ds s => wp P ro N rnd b τ ds s Q') Q', fun ex τ l ds s => ?_⟩
  cases ex with
  | normal =>
    simp only [Go.VE.sX, thenX, thenW]
    cases cutAt cuts p with
    | true => exact xp_eq rnd N cuts b h
    | false => exact xp_eq rnd N cuts b h
  | _ => exact h _ _ _ _ _
theorem blkX_n (id : Nat) (Q : Ex → XK) : blkX id Q .normal = Q .normal := rfl
theorem sX_n [Memo] {P : Program} {ro : Nat} {rnd : Option Nat} {N : Nat} {cuts : List (List Nat)} {b : Code} {p : List Nat} {Q : Ex → XK} (h : QOk Q) {τ : Tau} {l : AL} {ds : List Deferred} {s : St} : sX (prims P ro) rnd N cuts b p Q .normal τ l ds s = xp (prims P ro) rnd N cuts b p (U τ l) [] ds s Q := by
  obtain ⟨Q', h⟩ := h
  simp only [Go.VE.sX, thenX]
  have e : xp (prims P ro) rnd N cuts b p τ l ds s Q = xp (prims P ro) rnd N cuts b p (U τ l) [] ds s Q := by
    rw [xp_eq rnd N cuts b h, xp_eq rnd N cuts b h]; rfl
  cases cutAt cuts p with
  | true => rfl
  | false => exact e
theorem wL : type_of% (And.intro @wop_load <| And.intro @wop_indexAddr <| And.intro @wix0 <| And.intro @wix1 <| And.intro @wix2 <| And.intro @rcAll <| And.intro @gcAll <| And.intro (fun {s : St} {A o : Nat} => @load1 P s _ A o ap_38) <| And.intro (fun {s : St} {A o : Nat} => @load1 P s _ A o ap_3) <| And.intro (fun {s : St} {A o : Nat} => @load1 P s _ A o ap_4) <| And.intro (fun {s : St} {A o : Nat} => @load1 P s _ A o ap_40) <| And.intro (fun {s : St} {A o : Nat} => @load1 P s _ A o ap_22) <| And.intro (fun {s : St} {A o : Nat} => @loadN P s _ A o _ ap_43) <| And.intro (fun {s : St} {A o : Nat} => @loadN P s _ A o _ ap_24) <| And.intro (fun {s : St} {A o : Nat} => @loadN P s _ A o _ ap_39) <| And.intro @fa_43_0 <| And.intro @fa_43_1 <| And.intro @fa_43_2 <| And.intro @fa_43_3 <| And.intro @fa_43_4 <| And.intro @fa_43_5 <| And.intro @fa_43_6 <| And.intro @fa_43_7 <| And.intro @fa_24_0 <| And.intro @fa_24_1 <| And.intro @fa_24_2 <| And.intro @fa_24_3 <| And.intro @fa_24_4 <| And.intro @rc0 <| And.intro @rc1 <| And.intro @rc2 <| And.intro @rc3 <| And.intro @rc4 <| And.intro @rc5 <| And.intro @rc6 <| And.intro @rc7 <| And.intro @rc8 <| And.intro @rc9 <| And.intro @rc10 <| And.intro @gc0 <| And.intro @gc1 <| And.intro @gc2 <| And.intro @gc3 <| @gc4) := And.intro @wop_load <| And.intro @wop_indexAddr <| And.intro @wix0 <| And.intro @wix1 <| And.intro @wix2 <| And.intro @rcAll <| And.intro @gcAll <| And.intro (fun {s : St} {A o : Nat} => @load1 P s _ A o ap_38) <| And.intro (fun {s : St} {A o : Nat} => @load1 P s _ A o ap_3) <| And.intro (fun {s : St} {A o : Nat} => @load1 P s _ A o ap_4) <| And.intro (fun {s : St} {A o : Nat} => @load1 P s _ A o ap_40) <| And.intro (fun {s : St} {A o : Nat} => @load1 P s _ A o ap_22) <| And.intro (fun {s : St} {A o : Nat} => @loadN P s _ A o _ ap_43) <| And.intro (fun {s : St} {A o : Nat} => @loadN P s _ A o _ ap_24) <| And.intro (fun {s : St} {A o : Nat} => @loadN P s _ A o _ ap_39) <| And.intro @fa_43_0 <| And.intro @fa_43_1 <| And.intro @fa_43_2 <| And.intro @fa_43_3 <| And.intro @fa_43_4 <| And.intro @fa_43_5 <| And.intro @fa_43_6 <| And.intro @fa_43_7 <| And.intro @fa_24_0 <| And.intro @fa_24_1 <| And.intro @fa_24_2 <| And.intro @fa_24_3 <| And.intro @fa_24_4 <| And.intro @rc0 <| And.intro @rc1 <| And.intro @rc2 <| And.intro @rc3 <| And.intro @rc4 <| And.intro @rc5 <| And.intro @rc6 <| And.intro @rc7 <| And.intro @rc8 <| And.intro @rc9 <| And.intro @rc10 <| And.intro @gc0 <| And.intro @gc1 <| And.intro @gc2 <| And.intro @gc3 <| @gc4
end Go.VE
/- The reference of the gates: Reads, below. -/
namespace Go.VE
open Go Go.Proofs
set_option maxRecDepth 20000
structure Ac (e : TypeId) (sz : Nat) (s0 s : St) (v : Value) (n : Nat) (cs : List Value) (oA : Option Nat) : Prop where
  own : Own s v e sz n cs oA
  fresh : ∀ A, oA = some A → s0.n ≤ A
  wf : Wf s
  grew : Grew s0 s
section
variable {ro : Nat} {K : Value → St → Prop}
theorem Ac.nil {e : TypeId} {sz : Nat} {s0 s : St} (hw : Wf s) (hg : Grew s0 s) : Ac e sz s0 s (.slice none 0 0) 0 [] none := ⟨⟨rfl, rfl, rfl⟩, fun _ h => (by cases h), hw, hg⟩
theorem Ac.pushs {t e : TypeId} {sz bytes : Nat} {z : Value} (hse : sliceElem P t = some e) (hni : notInt P t = true) (hty : tyOk P e sz bytes z = true) (hsz : 0 < sz) (hsm : sz ≤ 100) (hby : 0 < bytes) {s0 s : St} {v : Value} {n : Nat} {cs : List Value} {oA : Option Nat} (h : Ac e sz s0 s v n cs oA) (hw0 : Wf s0) (hro : ro ≤ s0.n)
    {m : Nat} {ps : List (Nat × Operand)} {vs new : List Value} (hps : partVals .e ps = enumP vs 0) (hm : vs.length = m) (hm0 : 0 < m) (hm1 : m ≤ 1000) (hv : ∀ v ∈ vs, v.cells.size = sz) (hx : vs.flatMap (·.cells.toList) = new) (hl : new.length = m * sz) (h1 : new.all (·.oneCell') = true) (hlim : (2 * (n + m) + 1000) * bytes ≤ 2 ^ 47) {ty ty' : TypeId} {K : Value → Value → St → Prop}
    (hk : ∀ v1 v2 A s2, Ac e sz s0 s2 v2 (n + m) (cs ++ new) (some A) → s.n ≤ A → (∀ C, C < s.n → oA ≠ some C → s2.at C = s.at C) → K v1 v2 s2) :
    wop P ro (.buildSlice t m ⟨ps⟩) ty s fun v1 s1 => wop P ro (.call ⟨.builtin .append, ⟨[.const v, .const v1]⟩, #[t, t]⟩) ty' s1 (fun v2 s2 => K v1 v2 s2) := by
  have hms : m * sz ≤ 1000 * 100 := Nat.mul_le_mul hm1 hsm
  refine buildSlice_rule hse hty h.wf vs hps hm (by omega) hv fun A s1 m1 => ?_
  rw [hx] at m1
  refine append_rule hse hni hty hsz hby (h.own.grew m1.grew) (m1.sl (n := m) hl) hm0 m1.wf (fun B hB => Nat.le_trans hro (h.fresh B hB)) hlim h1 fun v2 s2 o2 a2 => ?_
  have hgn := h.grew.n
  have e1 := m1.eq
  have n1 := m1.n
  refine hk _ v2 s1.n s2 ⟨o2, fun B hB => by cases hB; omega, a2.wf, a2.grew s0 hw0 (h.grew.trans m1.grew) h.fresh⟩ (by omega) fun C hC hne => ?_
  rw [a2.rest C (by omega) hne]
  exact m1.grew.same C hC
theorem Ac.push {t e : TypeId} {sz bytes : Nat} {z : Value} (hse : sliceElem P t = some e) (hni : notInt P t = true) (hty : tyOk P e sz bytes z = true) (hsz : 0 < sz) (hsm : sz ≤ 100) (hby : 0 < bytes) {s0 s : St} {v : Value} {n : Nat} {cs : List Value} {oA : Option Nat} (h : Ac e sz s0 s v n cs oA) (hw0 : Wf s0) (hro : ro ≤ s0.n)
    {x : Value} {new : List Value} (hx : x.cells.toList = new) (hl : new.length = sz) (h1 : new.all (·.oneCell') = true) (hlim : (2 * (n + 1) + 1000) * bytes ≤ 2 ^ 47) {ty ty' : TypeId} {K : Value → Value → St → Prop}
    (hk : ∀ v1 v2 A s2, Ac e sz s0 s2 v2 (n + 1) (cs ++ new) (some A) → s.n ≤ A → (∀ C, C < s.n → oA ≠ some C → s2.at C = s.at C) → K v1 v2 s2) :
    wop P ro (.buildSlice t 1 ⟨[(0, .const x)]⟩) ty s fun v1 s1 => wop P ro (.call ⟨.builtin .append, ⟨[.const v, .const v1]⟩, #[t, t]⟩) ty' s1 (fun v2 s2 => K v1 v2 s2) := by
  have hsx : x.cells.size = sz := by rw [← hl, ← hx]; simp
  exact h.pushs hse hni hty hsz hsm hby hw0 hro (m := 1) (vs := [x]) rfl rfl (by decide) (by decide) (fun u hu => by simp only [List.mem_cons, List.not_mem_nil, or_false] at hu; rw [hu]; exact hsx) (by simp [hx]) (by rw [hl, Nat.one_mul]) h1 hlim hk
def rds (r : Row) : List Int :=
  if r.k = 1 then (if r.ql ≠ 0 ∨ r.qm ≠ 0 then [0] else []) ++ (if r.qr ≠ 0 ∨ r.qm ≠ 0 then [1] else []) ++ (if r.qo ≠ 0 then [2] else [])
  else if r.k = 2 then [0] else if r.k = 3 then [0, 1, 2, 3] else []
theorem Ac.fin {s : St} {sz : Nat} {e : TypeId} {s1 : St} {v : Value} {n : Nat} {cs : List Value} {oA : Option Nat} (h : Ac e sz (ent s) s1 v n cs oA) (hw : Wf s) (hk : ∀ s', Grew s s' → Sl s' v sz n cs → K v s') : wfin s K v s1 :=
  wfin_sl hw h.grew h.own.sl hk
theorem wReads (r : Row) {s : St} (hw : Wf s) (hro : ro ≤ s.n) (hk : ∀ v s', Grew s s' → Ints s' v (rds r) → K v s') : CallWP P ro 53 [.agg (.mk r.cells)] s K := by
  refine call_wp b53 rfl ?_
  rw [n53]
  unfold v53
  simp (maxSteps := 10000000) only [wW, reduceCtorEq, Nat.reduceEqDiff]
  refine box_rule hw.ent fun R s1 m1 => ?_
  have hR : s1.at R = some (.cells r.cells 43 false) := m1.here
  have hR1 : acells (s1.at R) = some r.cells := acells_some hR
  simp (maxSteps := 10000000) only [wW, reduceCtorEq, Nat.reduceEqDiff, wL, Nat.reduceAdd, hR1]
  have a1 : Ac 3 1 (ent s) s1 (.slice none 0 0) 0 [] none := .nil m1.wf m1.grew
  have fin : ∀ {v : Value} {s2 : St} {oA : Option Nat} {l : List Int}, Ac 3 1 (ent s) s2 v l.length (l.map (.int .i64)) oA → l = rds r → wfin s K v s2 := fun {v s2 oA l} ha hl => by
    refine ha.fin hw fun s' hg hs => hk v s' hg ?_
    unfold Ints
    rw [← hl]
    exact hs
  have hn1 := m1.n
  have he1 := m1.eq
  have hne : (ent s).n = s.n := rfl
  have push : ∀ {s2 : St} {v : Value} {l : List Int} {oA : Option Nat} (x : Int), Ac 3 1 (ent s) s2 v l.length (l.map (.int .i64)) oA → l.length ≤ 100 → ∀ {K : Value → Value → St → Prop}, (∀ v1 v2 A s3, Ac 3 1 (ent s) s3 v2 (l ++ [x]).length ((l ++ [x]).map (.int .i64)) (some A) → s2.n ≤ A → (∀ C, C < s2.n → oA ≠ some C → s3.at C = s2.at C) → K v1 v2 s3) →
      wop P ro (.buildSlice 49 1 ⟨[(0, .const (.int .i64 x))]⟩) 49 s2 fun v1 s1 => wop P ro (.call ⟨.builtin .append, ⟨[.const v, .const v1]⟩, #[49, 49]⟩) 49 s1 (fun v2 s2 => K v1 v2 s2) := fun {s2 v l oA} x ha hl {K} hk => by
    refine ha.push se_49 (by kernel_rfl) ty_3 (by decide) (by decide) (by decide) hw.ent hro rfl rfl rfl (by omega) fun v1 v2 A s3 h3 hA hC => hk v1 v2 A s3 ?_ hA hC
    rw [List.map_append, List.length_append]
    exact h3
  have third : ∀ {s2 : St} {v : Value} {l : List Int} {oA : Option Nat} {τ : Tau}, Ac 3 1 (ent s) s2 v l.length (l.map (.int .i64)) oA → l = rds r → ∀ (al : AL), U τ al 3 = v →
      blkX 0 (sX (prims P ro) none 47 k53 c53_111 [1, 1, 1] (xleave (prims P ro) s Tryd.f53.results.toList K)) .normal τ al [] s2 := fun {s2 v l oA τ} ha hl al hv => by
    rw [blkX_n, sX_n .leave, n53_111]
    unfold v53_111
    rw [xleave_U, r53]
    simp (maxSteps := 10000000) only [wW, reduceCtorEq, Nat.reduceEqDiff, U, tset_eq, Nat.reduceEqDiff] at hv ⊢
    rw [hv]
    exact fin ha hl
  have second : ∀ {s2 : St} {v : Value} {l : List Int} {oA : Option Nat} {τ : Tau}, τ 3 = v → τ 1 = ptr R → Ac 3 1 (ent s) s2 v l.length (l.map (.int .i64)) oA → (∀ A, oA = some A → A ≠ R) → l.length ≤ 50 → acells (s2.at R) = some r.cells → l ++ ((if r.qr ≠ 0 ∨ r.qm ≠ 0 then [1] else []) ++ (if r.qo ≠ 0 then [2] else [])) = rds r →
      xp (prims P ro) none 47 k53 c53_11010101 [1, 0, 1, 0, 1, 0, 1, 1] τ [] [] s2 (blkX 0 (sX (prims P ro) none 47 k53 c53_111 [1, 1, 1] (xleave (prims P ro) s Tryd.f53.results.toList K))) := fun {s2 v l oA τ} h3 h1 ha hAR hlen hR2 hl => by
    have hRn : R < s2.n := by
      rw [St.at_eq] at hR2
      split at hR2
      · assumption
      · cases hR2
    have fourth : ∀ {s2 : St} {v : Value} {l : List Int} {oA : Option Nat}, Ac 3 1 (ent s) s2 v l.length (l.map (.int .i64)) oA → l.length ≤ 60 → l ++ (if r.qo ≠ 0 then [2] else []) = rds r → acells (s2.at R) = some r.cells → ∀ {Y : Value → Value → St → Prop} {N : Prop},
        (r.qo ≠ 0 → ∀ v1 v2 s3, (∀ al : AL, U τ al 3 = v2 → blkX 0 (sX (prims P ro) none 47 k53 c53_111 [1, 1, 1] (xleave (prims P ro) s Tryd.f53.results.toList K)) .normal τ al [] s3) → Y v1 v2 s3) →
        (r.qo = 0 → (∀ al : AL, U τ al 3 = v → blkX 0 (sX (prims P ro) none 47 k53 c53_111 [1, 1, 1] (xleave (prims P ro) s Tryd.f53.results.toList K)) .normal τ al [] s2) → N) →
        if ¬r.qo = 0 then wop P ro (.buildSlice 49 1 ⟨[(0, .const (.int .i64 2))]⟩) 49 s2 fun v1 s1 => wop P ro (.call ⟨.builtin .append, ⟨[.const v, .const v1]⟩, #[49, 49]⟩) 49 s1 (fun v2 s2 => Y v1 v2 s2) else N := fun {s2 v l oA} ha hlen hl hR2 {Y N} hY hN => by
      by_cases hq : r.qo = 0
      · rw [if_neg (by simpa using hq)]
        refine hN hq fun al hal => third (τ := τ) ha ?_ al hal
        rw [if_neg (by simpa using hq), List.append_nil] at hl
        exact hl
      · rw [if_pos hq]
        refine push 2 ha (by omega) fun v1 v2 A s3 a3 hA hC => hY hq v1 v2 s3 fun al hal => third (τ := τ) a3 ?_ al hal
        rw [if_pos hq] at hl
        exact hl
    rw [n53_11010101]
    unfold v53_11010101
    simp (maxSteps := 10000000) only [wW, reduceCtorEq, Nat.reduceEqDiff, wL, Nat.reduceAdd, h1, h3, hR2]
    have step : l.length ≤ 50 → ∀ {Y : Value → Value → St → Prop}, (r.qr ≠ 0 ∨ r.qm ≠ 0) → (∀ v1 v2 A s3, Ac 3 1 (ent s) s3 v2 (l ++ [1]).length ((l ++ [1]).map (.int .i64)) (some A) → acells (s3.at R) = some r.cells → (l ++ [1]) ++ (if r.qo ≠ 0 then [2] else []) = rds r → Y v1 v2 s3) →
        wop P ro (.buildSlice 49 1 ⟨[(0, .const (.int .i64 1))]⟩) 49 s2 fun v1 s1 => wop P ro (.call ⟨.builtin .append, ⟨[.const v, .const v1]⟩, #[49, 49]⟩) 49 s1 (fun v2 s2 => Y v1 v2 s2) := fun hlen {Y} hq hY => by
      refine push 1 ha (by omega) fun v1 v2 A s3 a3 hA hC => hY v1 v2 A s3 a3 ?_ ?_
      · rw [hC R hRn fun e => hAR R e rfl]; exact hR2
      · rw [if_pos hq, ← List.append_assoc] at hl
        exact hl
    by_cases hq1 : r.qr = 0
    · rw [if_neg (by simpa using hq1)]
      by_cases hq2 : r.qm = 0
      · rw [if_neg (by simpa using hq2)]
        rw [if_neg (by simp [hq1, hq2]), List.nil_append] at hl
        refine fourth ha (by omega) hl hR2 (fun hq v1 v2 s3 hh => ?_) (fun hq hh => ?_)
        · exact hh _ (by simp only [U, tset_eq, Nat.reduceEqDiff, if_true, if_false])
        · exact hh _ (by simp only [U, tset_eq, Nat.reduceEqDiff, if_true, if_false, h3])
      · rw [if_pos hq2]
        refine step hlen (.inr hq2) fun v1 v2 A s3 a3 hR3 hl3 => ?_
        simp (maxSteps := 10000000) only [wW, reduceCtorEq, Nat.reduceEqDiff, wL, Nat.reduceAdd, h1, h3, hR3]
        refine fourth a3 (by simp; omega) hl3 hR3 (fun hq v1 v2 s3 hh => ?_) (fun hq hh => ?_)
        · exact hh _ (by simp only [U, tset_eq, Nat.reduceEqDiff, if_true, if_false])
        · exact hh _ (by simp only [U, tset_eq, Nat.reduceEqDiff, if_true, if_false])
    · rw [if_pos hq1]
      refine step hlen (.inl hq1) fun v1 v2 A s3 a3 hR3 hl3 => ?_
      simp (maxSteps := 10000000) only [wW, reduceCtorEq, Nat.reduceEqDiff, wL, Nat.reduceAdd, h1, h3, hR3]
      refine fourth a3 (by simp; omega) hl3 hR3 (fun hq v1 v2 s3 hh => ?_) (fun hq hh => ?_)
      · exact hh _ (by simp only [U, tset_eq, Nat.reduceEqDiff, if_true, if_false])
      · exact hh _ (by simp only [U, tset_eq, Nat.reduceEqDiff, if_true, if_false])
  by_cases h1 : r.k = 1
  · rw [if_pos h1]
    have hrd : rds r = (if r.ql ≠ 0 ∨ r.qm ≠ 0 then [0] else []) ++ ((if r.qr ≠ 0 ∨ r.qm ≠ 0 then [1] else []) ++ (if r.qo ≠ 0 then [2] else [])) := by
      unfold rds; rw [if_pos h1, List.append_assoc]
    have first : (r.ql ≠ 0 ∨ r.qm ≠ 0) → ∀ {Y : Value → Value → St → Prop}, (∀ v1 v2 s3, (∀ τ, τ 3 = v2 → τ 1 = ptr R → xp (prims P ro) none 47 k53 c53_11010101 [1, 0, 1, 0, 1, 0, 1, 1] τ [] [] s3 (blkX 0 (sX (prims P ro) none 47 k53 c53_111 [1, 1, 1] (xleave (prims P ro) s Tryd.f53.results.toList K)))) → Y v1 v2 s3) →
        wop P ro (.buildSlice 49 1 ⟨[(0, .const (.int .i64 0))]⟩) 49 s1 fun v1 s1 => wop P ro (.call ⟨.builtin .append, ⟨[.const (.slice none 0 0), .const v1]⟩, #[49, 49]⟩) 49 s1 (fun v2 s2 => Y v1 v2 s2) := fun hq {Y} hY => by
      refine push (l := []) 0 a1 (by decide) fun v1 v2 A s2 a2 hA hC => hY v1 v2 s2 fun τ h3 hp => second h3 hp a2 (fun B hB => ?_) (by simp) ?_ ?_
      · cases hB; omega
      · rw [hC R (by omega) (fun h => by cases h)]; exact hR1
      · rw [hrd, if_pos hq]; rfl
    by_cases hq1 : r.ql = 0
    · rw [if_neg (by simpa using hq1)]
      by_cases hq2 : r.qm = 0
      · rw [if_neg (by simpa using hq2)]
        refine second (l := []) ?_ ?_ a1 (fun _ h => by cases h) (by simp) hR1 ?_
        · simp only [U, tset_eq, Nat.reduceEqDiff, if_true, if_false]
        · simp only [U, tset_eq, Nat.reduceEqDiff, if_true, if_false]
        · rw [hrd]; simp only [hq1, hq2, ne_eq, not_true, or_self, if_false, List.nil_append]
      · rw [if_pos hq2]
        refine first (.inr hq2) fun v1 v2 s3 hh => hh _ ?_ ?_
        · simp only [U, tset_eq, Nat.reduceEqDiff, if_true, if_false]
        · simp only [U, tset_eq, Nat.reduceEqDiff, if_true, if_false]
    · rw [if_pos hq1]
      refine first (.inl hq1) fun v1 v2 s3 hh => hh _ ?_ ?_
      · simp only [U, tset_eq, Nat.reduceEqDiff, if_true, if_false]
      · simp only [U, tset_eq, Nat.reduceEqDiff, if_true, if_false]
  · rw [if_neg h1]
    by_cases h2 : r.k = 2
    · rw [if_pos h2]
      refine push (l := []) 0 a1 (by decide) fun v1 v2 A s2 a2 _ _ => fin a2 ?_
      simp [rds, h1, h2]
    · rw [if_neg h2]
      by_cases h3 : r.k = 3
      · rw [if_pos h3]
        refine a1.pushs se_49 (by kernel_rfl) ty_3 (by decide) (by decide) (by decide) hw.ent hro (vs := [.int .i64 0, .int .i64 1, .int .i64 2, .int .i64 3]) rfl rfl (by decide) (by decide) (by simp [Value.cells]) rfl rfl rfl (by decide) fun v1 v2 A s3 a3 _ _ => fin (l := [0, 1, 2, 3]) a3 ?_
        simp [rds, h3]
      · rw [if_neg h3]
        exact fin (l := []) a1 (by simp [rds, h1, h2, h3])
end
end Go.VE
/- The reference of the gates: below, sum. -/
namespace Go.VE
open Go Go.Proofs
set_option maxRecDepth 20000
def below (f : Int) (l : List Int) : Bool := l.all fun x => decide (x < fP f)
def at0 (l : List Int) (i : Int) : Int := (l[i.toNat]?).getD 0
theorem at0_get {l : List Int} {i : Int} (h0 : 0 ≤ i) (hi : i < l.length) : l[i.toNat]? = some (at0 l i) := by
  unfold at0
  rw [List.getElem?_eq_getElem (by omega)]; rfl
def sumA (r : Row) (vals : List Int) : Int := if r.ql ≠ 0 ∨ r.qm ≠ 0 then at0 vals r.w0 else 0
def sumB (r : Row) (vals : List Int) : Int := if r.qr ≠ 0 ∨ r.qm ≠ 0 then at0 vals r.w1 else 0
def sumM (f : Int) (r : Row) (vals : List Int) : Int :=
  fAdd f (fAdd f (fAdd f (fMul f r.ql (sumA r vals)) (fMul f r.qr (sumB r vals))) (fMul f r.qm (fMul f (sumA r vals) (sumB r vals)))) r.qc
structure Row.Nn (r : Row) : Prop where
  ql : 0 ≤ r.ql
  qr : 0 ≤ r.qr
  qm : 0 ≤ r.qm
  qo : 0 ≤ r.qo
  qc : 0 ≤ r.qc
section
variable {ro : Nat} {K : Value → St → Prop}
end
end Go.VE
/- The reference of the sponge: a round. -/
namespace Go.VE
open Go Go.Proofs
set_option maxRecDepth 20000
def it {α : Type} (g : Nat → α → α) : Nat → α → α
  | 0, v => v
  | n + 1, v => g n (it g n v)
theorem it_len {g : Nat → List Int → List Int} (h : ∀ n l, (g n l).length = l.length) : ∀ (n : Nat) (l : List Int), (it g n l).length = l.length
  | 0, _ => rfl
  | n + 1, l => by rw [it, h, it_len h n l]
theorem it_nn {g : Nat → List Int → List Int} (h : ∀ n l, (∀ x ∈ l, 0 ≤ x) → ∀ x ∈ g n l, (0 : Int) ≤ x) {l : List Int} (hl : ∀ x ∈ l, 0 ≤ x) : ∀ (n : Nat), ∀ x ∈ it g n l, 0 ≤ x
  | 0 => hl
  | n + 1 => h n _ (it_nn h hl n)
theorem nn_set {l : List Int} {i : Nat} {y : Int} (hl : ∀ x ∈ l, 0 ≤ x) (hy : 0 ≤ y) : ∀ x ∈ l.set i y, (0 : Int) ≤ x := fun x hx => by
  rcases List.mem_or_eq_of_mem_set hx with h | h
  · exact hl x h
  · rw [h]; exact hy
theorem splice_set {cs : List Value} {i : Nat} {v : Value} (h : i < cs.length) : splice cs i [v] = cs.set i v := by
  unfold splice
  rw [List.set_eq_take_append_cons_drop, if_pos h]
  rfl
def u4 (l : List Int) : List Value := l.map (.int .u64)
theorem u4_set (l : List Int) (i : Nat) (x : Int) (h : i < l.length) : splice (u4 l) i [.int .u64 x] = u4 (l.set i x) := by
  rw [splice_set (by simp [u4, h])]
  simp [u4, List.map_set]
theorem u4_get {l : List Int} {i : Nat} (h : i < l.length) : (u4 l)[i]? = some (.int .u64 (at0 l i)) := by
  unfold u4 at0
  rw [List.getElem?_map, Int.toNat_natCast, List.getElem?_eq_getElem h]
  rfl
theorem at0_nn {l : List Int} (hl : ∀ x ∈ l, 0 ≤ x) (i : Int) : 0 ≤ at0 l i := by
  unfold at0
  cases h : l[i.toNat]? with
  | none => exact Int.le_refl 0
  | some x => exact hl x (List.mem_of_getElem? h)
theorem len4 {l : List Int} (h : l.length = 4) : ∃ a b c d, l = [a, b, c, d] := by
  match l, h with
  | [a, b, c, d], _ => exact ⟨a, b, c, d, rfl⟩
theorem u4_flat {l : List Int} (h : l.length = 4) : flat' (.agg (.mk (u4 l))) = true := by
  obtain ⟨a, b, c, d, rfl⟩ := len4 h
  rfl
theorem u4_one (l : List Int) : (u4 l).all (·.oneCell') = true := by
  rw [List.all_eq_true]
  intro v hv
  obtain ⟨x, _, rfl⟩ := List.mem_map.1 hv
  rfl
theorem u4_len (l : List Int) : (u4 l).length = l.length := by simp [u4]
def fConst (f r j : Int) : Int := if fV f then fAdd f (fPow f (fGen f) (4 * r + j + 1)) 7 else 0
def mrow (i : Nat) : List Int := if i = 0 then [2, 3, 1, 1] else if i = 1 then [1, 2, 3, 1] else if i = 2 then [1, 1, 2, 3] else [3, 1, 1, 2]
def rnA (f r : Int) (j : Nat) (s : List Int) : List Int := s.set j (fAdd f (at0 s j) (fConst f r j))
def rnB (f : Int) (j : Nat) (s : List Int) : List Int := s.set j (fPow f (at0 s j) (fExp f))
def rnC (f : Int) (s : List Int) (i j : Nat) (t : List Int) : List Int := t.set i (fAdd f (at0 t i) (fMul f (at0 (mrow i) j) (at0 s j)))
def rnD (f : Int) (s : List Int) (i : Nat) (t : List Int) : List Int := it (rnC f s i) 4 t
def rnS (f r : Int) (s : List Int) : List Int := it (rnB f) 4 (it (rnA f r) 4 s)
def roundM (f r : Int) (s : List Int) : List Int := it (rnD f (rnS f r s)) 4 [0, 0, 0, 0]
theorem rnC_len (f : Int) (s : List Int) (i n : Nat) (l : List Int) : (rnC f s i n l).length = l.length := by simp [rnC]
theorem rnD_len (f : Int) (s : List Int) (n : Nat) (l : List Int) : (rnD f s n l).length = l.length := it_len (rnC_len f s n) 4 l
theorem roundM_len (f r : Int) (s : List Int) : (roundM f r s).length = 4 := it_len (rnD_len f _) 4 _
theorem rnC_nn (f : Int) (s : List Int) (i n : Nat) (l : List Int) (h : ∀ x ∈ l, 0 ≤ x) : ∀ x ∈ rnC f s i n l, (0 : Int) ≤ x := nn_set h (fAdd_bounds _ _ _).1
theorem rnD_nn (f : Int) (s : List Int) (n : Nat) (l : List Int) (h : ∀ x ∈ l, 0 ≤ x) : ∀ x ∈ rnD f s n l, (0 : Int) ≤ x := it_nn (rnC_nn f s n) h 4
theorem roundM_nn (f r : Int) (s : List Int) : ∀ x ∈ roundM f r s, (0 : Int) ≤ x := it_nn (rnD_nn f _) (by simp) 4
theorem conv_int_u64 [Memo] (ro : Nat) (a : Int) (ty : TypeId) (s : St) (K : Value → St → Prop) : wop P ro (.convert 3 38 (.const (.int .i64 a))) ty s K = K (.int .u64 (IntKind.u64.wrap a)) s := by kernel_rfl
section
variable {ro : Nat} {K : Value → St → Prop}
theorem build4u (a b c d : Int) : abuild P 39 (partVals .e [(0, .const (.int .u64 a)), (1, .const (.int .u64 b)), (2, .const (.int .u64 c)), (3, .const (.int .u64 d))]) = some (.agg (.mk (u4 [a, b, c, d]))) := by kernel_rfl
structure Vec (s0 s : St) (A : Nat) (l : List Int) : Prop where
  here : s.at A = some (.cells (u4 l) 39 false)
  new : s0.n ≤ A
  wf : Wf s
  grew : Grew s0 s
theorem Vec.store {s0 s : St} {A : Nat} {l : List Int} (h : Vec s0 s A l) (hw0 : Wf s0) (hro : ro ≤ s0.n) {i : Nat} (hi : i < l.length) {x : Int} {ty : TypeId} {K : Value → St → Prop} (hk : ∀ s', Vec s0 s' A (l.set i x) → (∀ B, B ≠ A → s'.at B = s.at B) → K undef s') :
    wop P ro (.store 38 (.const (.pointer (some ⟨A, i, none⟩))) (.const (.int .u64 x))) ty s K := by
  have hn := h.new
  refine store1_rule isz_38 h.here h.wf (by omega) (by simp [u4, hi]) rfl fun s' p => hk s' ⟨?_, h.new, p.wf, p.grew _ hw0 h.grew h.new⟩ p.rest
  rw [p.here, u4_set _ _ _ hi]
end
end Go.VE
/- The reference of the gates: round, holds. -/
namespace Go.VE
open Go Go.Proofs
set_option maxRecDepth 20000
def wv (vals : List Int) (r : Row) : List Int := [at0 vals r.w0, at0 vals r.w1, at0 vals r.w2, at0 vals r.w3]
def setW (vals : List Int) (r : Row) (k : Nat) (t : List Int) : List Int := t.set k (at0 vals (r.w k))
theorem setW_len (vals : List Int) (r : Row) (n : Nat) (l : List Int) : (setW vals r n l).length = l.length := by simp [setW]
theorem wv_eq (vals : List Int) (r : Row) : it (setW vals r) 4 [0, 0, 0, 0] = wv vals r := rfl
theorem wv_nn {vals : List Int} (h : ∀ x ∈ vals, 0 ≤ x) (r : Row) : ∀ x ∈ wv vals r, (0 : Int) ≤ x := fun x hx => by
  simp only [wv, List.mem_cons, List.not_mem_nil, or_false] at hx
  rcases hx with rfl | rfl | rfl | rfl <;> exact at0_nn h _
structure RowFit (n : Nat) (r : Row) : Prop where
  nn : r.Nn
  a : r.k = 1 → r.ql ≠ 0 ∨ r.qm ≠ 0 → 0 ≤ r.w0 ∧ r.w0 < n
  b : r.k = 1 → r.qr ≠ 0 ∨ r.qm ≠ 0 → 0 ≤ r.w1 ∧ r.w1 < n
  c : r.k = 1 → r.qo ≠ 0 → 0 ≤ r.w2 ∧ r.w2 < n
  range : r.k = 2 → 0 ≤ r.w0 ∧ r.w0 < n
  round : r.k = 3 → (0 ≤ r.rd ∧ r.rd ≤ 7) ∧ ∀ k, k < 4 → 0 ≤ r.w k ∧ r.w k < n
noncomputable def holdsR (f : Int) (r nx : Row) (vals : List Int) : Bool :=
  if r.k = 1 then decide ((if r.qo ≠ 0 then fAdd f (sumM f r vals) (fMul f r.qo (at0 vals r.w2)) else sumM f r vals) = 0)
  else if r.k = 2 then decide (at0 vals r.w0 < 16)
  else if r.k = 3 then decide (wv vals nx = roundM f r.rd (wv vals r))
  else true
section
variable {ro : Nat} {K : Value → St → Prop}
def nxt (l : List Row) (i : Nat) : Row := (l[i + 1]?).getD ⟨0, 0, 0, 0, 0, 0, 0, 0, 0, 0, 0⟩
theorem wv_get (vals : List Int) (r : Row) : ∀ {k : Nat}, k < 4 → at0 (wv vals r) k = at0 vals (r.w k)
  | 0, _ => rfl
  | 1, _ => rfl
  | 2, _ => rfl
  | 3, _ => rfl
theorem eq4 {a b : List Int} (ha : a.length = 4) (hb : b.length = 4) : a = b ↔ ∀ k : Nat, k < 4 → at0 a k = at0 b k := by
  obtain ⟨a0, a1, a2, a3, rfl⟩ := len4 ha
  obtain ⟨b0, b1, b2, b3, rfl⟩ := len4 hb
  constructor
  · rintro h k _; rw [h]
  · intro h
    have h0 : a0 = b0 := h 0 (by decide)
    have h1 : a1 = b1 := h 1 (by decide)
    have h2 : a2 = b2 := h 2 (by decide)
    have h3 : a3 = b3 := h 3 (by decide)
    rw [h0, h1, h2, h3]
theorem RowFit.reads {n : Nat} {r : Row} (h : RowFit n r) (h1 : r.k = 1) : (r.ql ≠ 0 ∨ r.qm ≠ 0 → 0 ≤ r.w0 ∧ r.w0 < n) ∧ (r.qr ≠ 0 ∨ r.qm ≠ 0 → 0 ≤ r.w1 ∧ r.w1 < n) := ⟨h.a h1, h.b h1⟩
end
end Go.VE
/- The reference of the gates: formed. -/
namespace Go.VE
open Go Go.Proofs
set_option maxRecDepth 20000
def Row.qs (r : Row) : List Int := [r.ql, r.qr, r.qm, r.qo, r.qc]
def Formed (f nv : Int) (r : Row) : Prop :=
  r.k ≤ 3 ∧ 0 ≤ r.rd ∧ r.rd ≤ 7 ∧ (r.k ≠ 3 → r.rd = 0) ∧ (∀ q ∈ r.qs, q < fP f ∧ (r.k ≠ 1 → q = 0)) ∧ (∀ k : Nat, k < 4 → -1 ≤ r.w k ∧ r.w k < nv) ∧ ∀ j ∈ rds r, 0 ≤ r.w j.toNat
instance (f nv : Int) (r : Row) : Decidable (Formed f nv r) := by unfold Formed; infer_instance
theorem rds_lt (r : Row) : ∀ j ∈ rds r, (0 : Int) ≤ j ∧ j < 4 := by
  intro j hj
  unfold rds at hj
  split at hj
  · simp only [List.mem_append] at hj
    rcases hj with (hj | hj) | hj
    · split at hj
      · simp only [List.mem_cons, List.not_mem_nil, or_false] at hj; omega
      · cases hj
    · split at hj
      · simp only [List.mem_cons, List.not_mem_nil, or_false] at hj; omega
      · cases hj
    · split at hj
      · simp only [List.mem_cons, List.not_mem_nil, or_false] at hj; omega
      · cases hj
  · split at hj
    · simp only [List.mem_cons, List.not_mem_nil, or_false] at hj; omega
    · split at hj
      · simp only [List.mem_cons, List.not_mem_nil, or_false] at hj; omega
      · cases hj
theorem rds_len (r : Row) : (rds r).length ≤ 4 := by
  unfold rds
  split
  · simp only [List.length_append]
    have h : ∀ (c : Prop) [Decidable c] (x : Int), (if c then [x] else []).length ≤ 1 := fun c _ x => by split <;> simp
    have h1 := h (r.ql ≠ 0 ∨ r.qm ≠ 0) 0
    have h2 := h (r.qr ≠ 0 ∨ r.qm ≠ 0) 1
    have h3 := h (r.qo ≠ 0) 2
    omega
  · split
    · simp
    · split <;> simp
section
variable {ro : Nat} {K : Value → St → Prop}
theorem wFormed (g : Gp) (r : Row) {s : St} {ur : Value} (hw : Wf s) (hro : ro ≤ s.n) : CallWP P ro 52 [.agg (.mk (g.cells ur)), .agg (.mk r.cells)] s K = K (.bool (decide (Formed g.f g.nv r))) s := by
  refine callEq (call_wp b52 rfl ?_) K
  rw [n52]
  unfold v52
  simp (maxSteps := 10000000) only [wW, reduceCtorEq, Nat.reduceEqDiff]
  refine box_rule hw.ent fun G s1 m1 => ?_
  refine box_rule m1.wf fun R s2 m2 => ?_
  have e1 := m1.eq
  have e2 := m2.eq
  have n1 := m1.n
  have n2 := m2.n
  have hn0 : (ent s).n = s.n := rfl
  have g2 := m1.grew.trans m2.grew
  have hG2 : s2.at G = some (.cells (g.cells ur) 24 false) := (m2.grew.same G (by omega)).trans m1.here
  have hR2 : s2.at R = some (.cells r.cells 43 false) := m2.here
  have hG := acells_some hG2
  have hR := acells_some hR2
  have no : ∀ {s' : St}, Grew (ent s) s' → ¬ Formed g.f g.nv r → wfin s (fun v s' => v = .bool (decide (Formed g.f g.nv r)) ∧ s' = s) (.bool false) s' := fun hg hf => by
    refine fin_flat rfl hg ⟨?_, rfl⟩
    rw [decide_eq_false hf]
  have noR : ∀ {τ : Tau} {al : AL} {s' : St}, Grew (ent s) s' → ¬ Formed g.f g.nv r → U τ al 4 = .bool false → xleave (prims P ro) s Tryd.f52.results.toList (fun v s' => v = .bool (decide (Formed g.f g.nv r)) ∧ s' = s) .ret (U τ al) [] [] s' := fun {τ al s'} hg hf h4 => by
    rw [r52]
    simp (maxSteps := 10000000) only [wW, reduceCtorEq, Nat.reduceEqDiff]
    rw [h4]
    exact no hg hf
  simp (maxSteps := 10000000) only [wW, reduceCtorEq, Nat.reduceEqDiff, wL, Nat.reduceAdd, hG, hR]
  have rest : ∀ {τ : Tau}, r.k ≤ 3 ∧ 0 ≤ r.rd ∧ r.rd ≤ 7 ∧ (r.k ≠ 3 → r.rd = 0) → τ 2 = ptr G → τ 3 = ptr R → xp (prims P ro) none 104 k52 c52_11 [1, 1] τ [] [] s2 (xleave (prims P ro) s Tryd.f52.results.toList (fun v s' => v = .bool (decide (Formed g.f g.nv r)) ∧ s' = s)) := fun {τ} hk h2 h3 => by
    rw [n52_11]
    unfold v52_11
    simp (maxSteps := 10000000) only [wW, reduceCtorEq, Nat.reduceEqDiff, wL, Nat.reduceAdd, h2, h3, hG, hR]
    refine buildSlice_rule se_25 ty_38 m2.wf [.int .u64 r.ql, .int .u64 r.qr, .int .u64 r.qm, .int .u64 r.qo, .int .u64 r.qc] rfl rfl (by decide) (by simp [Value.cells]) fun A s3 m3 => ?_
    have e3 := m3.eq
    have n3 := m3.n
    have hQ : U64s s3 (.slice (some ⟨A, 0, none⟩) 5 5) r.qs := m3.sl rfl
    have g3 := g2.trans m3.grew
    have hG3 : acells (s3.at G) = some (g.cells ur) := acells_some ((m3.grew.same G (by omega)).trans hG2)
    have hR3' := (m3.grew.same R (by omega)).trans hR2
    have hR3 : acells (s3.at R) = some r.cells := acells_some hR3'
    refine wloop l52_1110100 m52_1110100 (fun (i : Nat) τ ds s' => i ≤ 5 ∧ τ 2 = ptr G ∧ τ 3 = ptr R ∧ τ 5 = .slice (some ⟨A, 0, none⟩) 5 5 ∧ τ 6 = .int .i64 i ∧ ds = [] ∧ s3 = s' ∧ ∀ q ∈ r.qs.take i, q < fP g.f ∧ (r.k ≠ 1 → q = 0)) (fun i => 5 - i) ?_ 0 ⟨by omega, ?_, ?_, rfl, rfl, rfl, rfl, fun q hq => by cases hq⟩
    · rintro i τ ds s' ⟨hi, h2, h3, h5, h6, rfl, rfl, hall⟩
      rw [n52_1110100]
      unfold v52_1110100
      simp (maxSteps := 10000000) only [wW, reduceCtorEq, Nat.reduceEqDiff, h5, h6, wop_len se_25]
      have hql : r.qs.length = 5 := rfl
      by_cases hlt : i < 5
      · rw [if_pos (by omega)]
        have hiq : i < r.qs.length := by rw [hql]; exact hlt
        obtain ⟨A4, o4, c4, z1, z2, z3⟩ := hQ.at1 (i := (i : Int)) (x := r.qs[i]) (by omega) (by rw [Int.toNat_natCast]; exact List.getElem?_eq_getElem hiq)
        simp (maxSteps := 10000000) only [wW, reduceCtorEq, Nat.reduceEqDiff, wL, Nat.reduceAdd, h2, h3, z1, z2, z3, hG3, hR3, wrP]
        refine ⟨by simp [veq], by simp [veq], .refl _, ?_⟩
        have hmem : r.qs[i] ∈ r.qs := List.getElem_mem _
        by_cases hge : r.qs[i] ≥ fP g.f
        · rw [if_pos hge]
          refine noR g3 (fun hf => ?_) (by simp only [U, tset_eq, wW, reduceCtorEq, Nat.reduceEqDiff])
          have := (hf.2.2.2.2.1 _ hmem).1
          omega
        · rw [if_neg hge]
          refine ⟨by simp [veq], ?_⟩
          have next : (r.k ≠ 1 → r.qs[i] = 0) → ∀ (al : AL), U τ al 2 = ptr G → U τ al 3 = ptr R → U τ al 5 = .slice (some ⟨A, 0, none⟩) 5 5 → U τ al 6 = .int .i64 (IntKind.i64.wrap ((i : Int) + 1)) → ∃ y, 5 - y < 5 - i ∧ y ≤ 5 ∧ U τ al 2 = ptr G ∧ U τ al 3 = ptr R ∧ U τ al 5 = .slice (some ⟨A, 0, none⟩) 5 5 ∧ U τ al 6 = .int .i64 (y : Nat) ∧ True ∧ True ∧ ∀ q ∈ r.qs.take y, q < fP g.f ∧ (r.k ≠ 1 → q = 0) := fun hz al a2 a3 a5 a6 => by
            rw [wrap_i64 (by omega) (by omega)] at a6
            refine ⟨i + 1, by omega, by omega, a2, a3, a5, a6, trivial, trivial, fun q hq => ?_⟩
            rw [take_succ_eq (List.getElem?_eq_getElem (show i < r.qs.length by omega)), List.mem_append] at hq
            rcases hq with hq | hq
            · exact hall q hq
            · simp only [List.mem_cons, List.not_mem_nil, or_false] at hq
              subst hq
              exact ⟨by omega, hz⟩
          by_cases hk1 : r.k = 1
          · rw [if_neg (by simpa using hk1)]
            refine next (fun h => absurd hk1 h) _ ?_ ?_ ?_ ?_ <;> simp only [U, tset_eq, wW, reduceCtorEq, Nat.reduceEqDiff, h2, h3, h5, h6]
          · rw [if_pos hk1]
            refine ⟨by simp [veq], ?_⟩
            by_cases hz : r.qs[i] = 0
            · rw [if_neg (by simpa using hz)]
              refine next (fun _ => hz) _ ?_ ?_ ?_ ?_ <;> simp only [U, tset_eq, wW, reduceCtorEq, Nat.reduceEqDiff, h2, h3, h5, h6]
            · rw [if_pos hz]
              refine noR g3 (fun hf => ?_) (by simp only [U, tset_eq, wW, reduceCtorEq, Nat.reduceEqDiff])
              exact hz ((hf.2.2.2.2.1 _ hmem).2 hk1)
      · obtain rfl : i = 5 := by omega
        rw [if_neg (by omega)]
        have hqs : ∀ q ∈ r.qs, q < fP g.f ∧ (r.k ≠ 1 → q = 0) := hall
        clear hall
        refine wloop l52_11110100 m52_11110100 (fun (i : Nat) τ ds s' => i ≤ 4 ∧ τ 2 = ptr G ∧ τ 3 = ptr R ∧ τ 7 = .int .i64 i ∧ ds = [] ∧ s3 = s' ∧ ∀ k : Nat, k < i → -1 ≤ r.w k ∧ r.w k < g.nv) (fun i => 4 - i) ?_ 0 ⟨by omega, ?_, ?_, rfl, rfl, rfl, fun k hk => by omega⟩
        · rintro i τ ds s' ⟨hi, h2, h3, h7, rfl, rfl, hall⟩
          rw [n52_11110100]
          unfold v52_11110100
          by_cases hlt : i < 4
          · simp (maxSteps := 10000000) only [wW, reduceCtorEq, Nat.reduceEqDiff, wL, Nat.reduceAdd, h2, h3, h7, hG3, hR3, wix _ _ hlt, rcw r hlt]
            rw [if_pos (by omega)]
            by_cases hlo : r.w i < -1
            · rw [if_pos hlo]
              refine noR g3 (fun hf => ?_) (by simp only [U, tset_eq, wW, reduceCtorEq, Nat.reduceEqDiff])
              have := (hf.2.2.2.2.2.1 i hlt).1
              omega
            · rw [if_neg hlo]
              by_cases hhi : r.w i ≥ g.nv
              · rw [if_pos hhi]
                refine noR g3 (fun hf => ?_) (by simp only [U, tset_eq, wW, reduceCtorEq, Nat.reduceEqDiff])
                have := (hf.2.2.2.2.2.1 i hlt).2
                omega
              · rw [if_neg hhi, wrap_i64 (by omega) (by omega)]
                refine ⟨i + 1, by omega, by omega, ?_, ?_, ?_, trivial, trivial, fun k hk => ?_⟩
                · simp only [U, tset_eq, wW, reduceCtorEq, Nat.reduceEqDiff, h2]
                · simp only [U, tset_eq, wW, reduceCtorEq, Nat.reduceEqDiff, h3]
                · simp only [U, tset_eq, wW, reduceCtorEq, Nat.reduceEqDiff]; rfl
                · rcases Nat.lt_or_ge k i with h | h
                  · exact hall k h
                  · obtain rfl : k = i := by omega
                    omega
          · obtain rfl : i = 4 := by omega
            simp (maxSteps := 10000000) only [wW, reduceCtorEq, Nat.reduceEqDiff, h7]
            rw [if_neg (by omega)]
            simp (maxSteps := 10000000) only [U, tset_eq, wW, reduceCtorEq, Nat.reduceEqDiff, wL, Nat.reduceAdd, h3, hR3]
            refine wReads r m3.wf (by omega) fun v s4 g4 hI => ?_
            have g34 := g3.trans g4
            have hR4 : acells (s4.at R) = some r.cells := acells_some ((g4.same R (by omega)).trans hR3')
            have hrl := rds_len r
            refine wloop l52_1111110100 m52_1111110100 (fun (i : Nat) τ ds s' => i ≤ (rds r).length ∧ τ 3 = ptr R ∧ τ 8 = v ∧ τ 9 = .int .i64 i ∧ ds = [] ∧ s4 = s' ∧ ∀ j ∈ (rds r).take i, 0 ≤ r.w j.toNat) (fun i => (rds r).length - i) ?_ 0 ⟨by omega, ?_, ?_, ?_, rfl, rfl, fun k hk => by cases hk⟩
            · rintro i τ ds s' ⟨hi, h3, h8, h9, rfl, rfl, hjs⟩
              rw [n52_1111110100]
              unfold v52_1111110100
              simp (maxSteps := 10000000) only [wW, reduceCtorEq, Nat.reduceEqDiff, h8, h9, hI.wlen se_49]
              by_cases hlt : i < (rds r).length
              · rw [if_pos (by omega)]
                obtain ⟨A4, o4, c4, z1, z2, z3⟩ := hI.at1 (i := (i : Int)) (x := (rds r)[i]) (by omega) (by rw [Int.toNat_natCast]; exact List.getElem?_eq_getElem hlt)
                have hmem : (rds r)[i] ∈ rds r := List.getElem_mem _
                have hj := rds_lt r _ hmem
                have hjc : (((rds r)[i]).toNat : Int) = (rds r)[i] := by omega
                have hwx := wix R 1 (k := ((rds r)[i]).toNat) (by omega)
                rw [hjc] at hwx
                simp (maxSteps := 10000000) only [wW, reduceCtorEq, Nat.reduceEqDiff, wL, Nat.reduceAdd, h3, z1, z2, z3, hR4, hwx, rcw r (show ((rds r)[i]).toNat < 4 by omega)]
                by_cases hneg : r.w ((rds r)[i]).toNat < 0
                · rw [if_pos hneg]
                  refine noR g34 (fun hf => ?_) (by simp only [U, tset_eq, wW, reduceCtorEq, Nat.reduceEqDiff])
                  have := hf.2.2.2.2.2.2 _ hmem
                  omega
                · rw [if_neg hneg, wrap_i64 (by omega) (by omega)]
                  refine ⟨i + 1, by omega, by omega, ?_, ?_, ?_, trivial, trivial, fun j hj => ?_⟩
                  · simp only [U, tset_eq, wW, reduceCtorEq, Nat.reduceEqDiff, h3]
                  · simp only [U, tset_eq, wW, reduceCtorEq, Nat.reduceEqDiff, h8]
                  · simp only [U, tset_eq, wW, reduceCtorEq, Nat.reduceEqDiff]; rfl
                  · rw [take_succ_eq (List.getElem?_eq_getElem hlt), List.mem_append] at hj
                    rcases hj with hj | hj
                    · exact hjs j hj
                    · simp only [List.mem_cons, List.not_mem_nil, or_false] at hj
                      subst hj
                      omega
              · rw [if_neg (by omega)]
                rw [List.take_of_length_le (by omega)] at hjs
                rw [xleave_U, r52]
                simp (maxSteps := 10000000) only [U, tset_eq, wW, reduceCtorEq, Nat.reduceEqDiff]
                refine fin_flat rfl g34 ⟨?_, rfl⟩
                rw [decide_eq_true]
                exact ⟨hk.1, hk.2.1, hk.2.2.1, hk.2.2.2, hqs, hall, hjs⟩
            · simp only [U, tset_eq, wW, reduceCtorEq, Nat.reduceEqDiff, h3]
            · simp only [U, tset_eq, wW, reduceCtorEq, Nat.reduceEqDiff]
            · simp only [U, tset_eq, wW, reduceCtorEq, Nat.reduceEqDiff]; rfl
        · simp only [U, tset_eq, wW, reduceCtorEq, Nat.reduceEqDiff, h2]
        · simp only [U, tset_eq, wW, reduceCtorEq, Nat.reduceEqDiff, h3]
    · simp only [U, tset_eq, wW, reduceCtorEq, Nat.reduceEqDiff, h2]
    · simp only [U, tset_eq, wW, reduceCtorEq, Nat.reduceEqDiff, h3]
  by_cases c1 : r.k > 3
  · rw [if_pos c1]
    exact no g2 fun hf => by have := hf.1; omega
  · rw [if_neg c1]
    by_cases c2 : r.rd < 0
    · rw [if_pos c2]
      exact no g2 fun hf => by have := hf.2.1; omega
    · rw [if_neg c2]
      by_cases c3 : r.rd > 7
      · rw [if_pos c3]
        exact no g2 fun hf => by have := hf.2.2.1; omega
      · rw [if_neg c3]
        by_cases c4 : r.k = 3
        · rw [if_neg (by simpa using c4)]
          refine rest ⟨by omega, by omega, by omega, fun h => absurd c4 h⟩ ?_ ?_ <;> simp only [U, tset_eq, wW, reduceCtorEq, Nat.reduceEqDiff]
        · rw [if_pos c4]
          by_cases c5 : r.rd = 0
          · rw [if_neg (by simpa using c5)]
            refine rest ⟨by omega, by omega, by omega, fun _ => c5⟩ ?_ ?_ <;> simp only [U, tset_eq, wW, reduceCtorEq, Nat.reduceEqDiff]
          · rw [if_pos c5]
            exact no g2 fun hf => c5 (hf.2.2.2.1 c4)
end
end Go.VE
/- The reference of the gates: limits. -/
namespace Go.VE
open Go Go.Proofs
set_option maxRecDepth 20000
def row0 : Row := ⟨0, 0, 0, 0, 0, 0, 0, 0, 0, 0, 0⟩
def rowAt (l : List Row) (i : Nat) : Row := (l[i]?).getD row0
theorem rowAt_get {l : List Row} {i : Nat} (h : i < l.length) : l[i]? = some (rowAt l i) := by
  unfold rowAt
  rw [List.getElem?_eq_getElem h]; rfl
theorem nxt_eq (l : List Row) (i : Nat) : nxt l i = rowAt l (i + 1) := rfl
def RowLim (g : Gp) (i : Nat) : Prop := Formed g.f g.nv (rowAt g.rows i) ∧ ((rowAt g.rows i).k = 3 → i + 1 < g.rows.length ∧ ∀ k : Nat, k < 4 → 0 ≤ (rowAt g.rows (i + 1)).w k)
instance (g : Gp) (i : Nat) : Decidable (RowLim g i) := by unfold RowLim; infer_instance
def Limits (g : Gp) : Prop :=
  fV g.f = true ∧ 0 ≤ g.pub ∧ g.pub ≤ 16 ∧ 0 ≤ g.sec ∧ g.sec ≤ 20000 ∧ g.pub + g.sec ≤ g.nv ∧ g.nv ≤ 40000 ∧ g.rows.length ≤ 8000 ∧ ∀ i : Nat, i < g.rows.length → RowLim g i
instance (g : Gp) : Decidable (Limits g) := by unfold Limits; infer_instance
section
variable {ro : Nat} {K : Value → St → Prop}
theorem wLimits (g : Gp) {s : St} {ur : Value} (hw : Wf s) (hro : ro ≤ s.n) (hr : RowsS s ur g.rows) (hlen : g.rows.length < 2 ^ 60) : CallWP P ro 26 [.agg (.mk (g.cells ur))] s K = K (.bool (decide (Limits g))) s := by
  refine callEq (call_wp b26 rfl ?_) K
  rw [n26]
  unfold v26
  simp (maxSteps := 10000000) only [wW, reduceCtorEq, Nat.reduceEqDiff]
  refine box_rule hw.ent fun G s1 m1 => ?_
  have e1 := m1.eq
  have n1 := m1.n
  have hn0 : (ent s).n = s.n := rfl
  have hG1 : s1.at G = some (.cells (g.cells ur) 24 false) := m1.here
  have hG := acells_some hG1
  have hr1 : RowsS s1 ur g.rows := (Sl.ent hr).grew m1.grew.same
  have hgl : ∀ s' K, wop P ro (.call ⟨.builtin .len, ⟨[.const ur]⟩, #[22]⟩) 3 s' K = K (.int .i64 (g.rows.length : Nat)) s' := fun s' K => Sl.wlen hr1 se_22 _ K
  have no : ¬ Limits g → wfin s (fun v s' => v = .bool (decide (Limits g)) ∧ s' = s) (.bool false) s1 := fun hf => by
    refine fin_flat rfl m1.grew ⟨?_, rfl⟩
    rw [decide_eq_false hf]
  have noR : ∀ {τ : Tau} {al : AL}, ¬ Limits g → U τ al 2 = .bool false → xleave (prims P ro) s Tryd.f26.results.toList (fun v s' => v = .bool (decide (Limits g)) ∧ s' = s) .ret (U τ al) [] [] s1 := fun {τ al} hf h4 => by
    rw [r26]
    simp (maxSteps := 10000000) only [wW, reduceCtorEq, Nat.reduceEqDiff]
    rw [h4]
    exact no hf
  simp (maxSteps := 10000000) only [wW, reduceCtorEq, Nat.reduceEqDiff, wL, Nat.reduceAdd, hG, wrValid, hgl]
  cases hv : fV g.f with
  | false =>
    simp (maxSteps := 10000000) only [wW, reduceCtorEq, Nat.reduceEqDiff]
    exact no fun hf => by rw [hf.1] at hv; cases hv
  | true =>
  simp (maxSteps := 10000000) only [Bool.true_eq_false, wW, reduceCtorEq, Nat.reduceEqDiff]
  by_cases c1 : g.pub < 0
  · rw [if_pos c1]
    exact no fun hf => by have := hf.2.1; omega
  · rw [if_neg c1]
    by_cases c2 : g.pub > 16
    · rw [if_pos c2]
      exact no fun hf => by have := hf.2.2.1; omega
    · rw [if_neg c2]
      by_cases c3 : g.sec < 0
      · rw [if_pos c3]
        exact no fun hf => by have := hf.2.2.2.1; omega
      · rw [if_neg c3]
        by_cases c4 : g.sec > 20000
        · rw [if_pos c4]
          exact no fun hf => by have := hf.2.2.2.2.1; omega
        · rw [if_neg c4, wrap_i64 (n := g.pub + g.sec) (by omega) (by omega)]
          by_cases c5 : g.nv < g.pub + g.sec
          · rw [if_pos c5]
            exact no fun hf => by have := hf.2.2.2.2.2.1; omega
          · rw [if_neg c5]
            by_cases c6 : g.nv > 40000
            · rw [if_pos c6]
              exact no fun hf => by have := hf.2.2.2.2.2.2.1; omega
            · rw [if_neg c6]
              by_cases c7 : (g.rows.length : Int) > 8000
              · rw [if_pos c7]
                exact no fun hf => by have := hf.2.2.2.2.2.2.2.1; omega
              · rw [if_neg c7]
                refine wloop l26_110100 m26_110100 (fun (i : Nat) τ ds s' => i ≤ g.rows.length ∧ τ 1 = ptr G ∧ τ 3 = .int .i64 i ∧ ds = [] ∧ s1 = s' ∧ ∀ j : Nat, j < i → RowLim g j) (fun i => g.rows.length - i) ?_ 0 ⟨by omega, ?_, ?_, rfl, rfl, fun k hk => by omega⟩
                · rintro i τ ds s' ⟨hi, h1, h3, rfl, rfl, hall⟩
                  rw [n26_110100]
                  unfold v26_110100
                  simp (maxSteps := 10000000) only [wW, reduceCtorEq, Nat.reduceEqDiff, wL, Nat.reduceAdd, h1, h3, hG, hgl]
                  by_cases hlt : i < g.rows.length
                  · rw [if_pos (by omega)]
                    obtain ⟨A, o, c, q1, q2⟩ := hr1.ix (rowAt_get hlt)
                    have hkc := q2.kind
                    simp (maxSteps := 10000000) only [wW, reduceCtorEq, Nat.reduceEqDiff, wL, Nat.reduceAdd, q1, q2.blk, q2.all, hG]
                    refine ⟨gcVeq g (slVeq hr1), slVeq hr1, rcVeq _, ?_⟩
                    rw [wFormed g (rowAt g.rows i) m1.wf (by omega)]
                    simp (maxSteps := 10000000) only [wW, reduceCtorEq, Nat.reduceEqDiff, wL, Nat.reduceAdd, q1, q2.blk, hG, hkc, hgl]
                    by_cases hf : Formed g.f g.nv (rowAt g.rows i)
                    · rw [if_neg (by simpa using hf)]
                      have hiw : IntKind.i64.wrap ((i : Int) + 1) = ((i + 1 : Nat) : Int) := by rw [wrap_i64 (by omega) (by omega)]; rfl
                      have next : RowLim g i → ∀ (τ : Tau) (al : AL), U τ al 1 = ptr G → U τ al 3 = .int .i64 ((i + 1 : Nat) : Int) → ∃ y, g.rows.length - y < g.rows.length - i ∧ y ≤ g.rows.length ∧ U τ al 1 = ptr G ∧ U τ al 3 = .int .i64 (y : Nat) ∧ True ∧ True ∧ ∀ j : Nat, j < y → RowLim g j := fun hl τ al a1 a3 => ⟨i + 1, by omega, by omega, a1, a3, trivial, trivial, fun j hj => by
                        rcases Nat.lt_or_ge j i with h | h
                        · exact hall j h
                        · obtain rfl : j = i := by omega
                          exact hl⟩
                      by_cases hk3 : (rowAt g.rows i).k = 3
                      · rw [if_neg (by simpa using hk3), hiw]
                        by_cases hge : ((i + 1 : Nat) : Int) ≥ g.rows.length
                        · rw [if_pos hge]
                          refine noR (fun hf => ?_) (by simp only [U, tset_eq, wW, reduceCtorEq, Nat.reduceEqDiff])
                          have := ((hf.2.2.2.2.2.2.2.2 i hlt).2 hk3).1
                          omega
                        · rw [if_neg hge]
                          have hlt1 : i + 1 < g.rows.length := by omega
                          obtain ⟨A2, o2, cc2, y1, y2⟩ := hr1.ix (rowAt_get hlt1)
                          refine wloop l26_110100100111100 m26_110100100111100 (fun (k : Nat) τ ds s' => k ≤ 4 ∧ τ 1 = ptr G ∧ τ 3 = .int .i64 i ∧ τ 4 = .int .i64 k ∧ ds = [] ∧ s1 = s' ∧ ∀ j : Nat, j < k → 0 ≤ (rowAt g.rows (i + 1)).w j) (fun k => 4 - k) ?_ 0 ⟨by omega, ?_, ?_, ?_, rfl, rfl, fun k hk => by omega⟩
                          · rintro k τ ds s' ⟨hk, h1, h3, h4, rfl, rfl, hks⟩
                            rw [n26_110100100111100]
                            unfold v26_110100100111100
                            by_cases hk4 : k < 4
                            · have hwk := y2.wire hk4
                              simp (maxSteps := 10000000) only [wW, reduceCtorEq, Nat.reduceEqDiff, wL, Nat.reduceAdd, h1, h3, h4, hG, hiw, y1, y2.blk, wix _ _ hk4, hwk]
                              rw [if_pos (by omega)]
                              by_cases hneg : (rowAt g.rows (i + 1)).w k < 0
                              · rw [if_pos hneg]
                                refine noR (fun hf => ?_) (by simp only [U, tset_eq, wW, reduceCtorEq, Nat.reduceEqDiff])
                                have := ((hf.2.2.2.2.2.2.2.2 i hlt).2 hk3).2 k hk4
                                omega
                              · rw [if_neg hneg, wrap_i64 (by omega) (by omega)]
                                refine ⟨k + 1, by omega, by omega, ?_, ?_, ?_, trivial, trivial, fun j hj => ?_⟩
                                · simp only [U, tset_eq, wW, reduceCtorEq, Nat.reduceEqDiff, h1]
                                · simp only [U, tset_eq, wW, reduceCtorEq, Nat.reduceEqDiff, h3]
                                · simp only [U, tset_eq, wW, reduceCtorEq, Nat.reduceEqDiff]; rfl
                                · rcases Nat.lt_or_ge j k with h | h
                                  · exact hks j h
                                  · obtain rfl : j = k := by omega
                                    omega
                            · obtain rfl : k = 4 := by omega
                              simp (maxSteps := 10000000) only [wW, reduceCtorEq, Nat.reduceEqDiff, h4]
                              rw [if_neg (by omega)]
                              simp (maxSteps := 10000000) only [U, tset_eq, wW, reduceCtorEq, Nat.reduceEqDiff, h3, hiw]
                              refine ⟨i + 1, by omega, by omega, ?_, ?_, trivial, trivial, fun j hj => ?_⟩
                              · simp only [h1]
                              · trivial
                              · rcases Nat.lt_or_ge j i with h | h
                                · exact hall j h
                                · obtain rfl : j = i := by omega
                                  exact ⟨hf, fun _ => ⟨hlt1, hks⟩⟩
                          · simp only [U, tset_eq, wW, reduceCtorEq, Nat.reduceEqDiff, h1]
                          · simp only [U, tset_eq, wW, reduceCtorEq, Nat.reduceEqDiff, h3]
                          · simp only [U, tset_eq, wW, reduceCtorEq, Nat.reduceEqDiff]; rfl
                      · rw [if_pos hk3, hiw]
                        refine next ⟨hf, fun h => absurd h hk3⟩ _ _ ?_ ?_ <;> simp only [U, tset_eq, wW, reduceCtorEq, Nat.reduceEqDiff, h1]
                    · rw [if_pos (by simpa using hf)]
                      refine noR (fun hl => hf ?_) (by simp only [U, tset_eq, wW, reduceCtorEq, Nat.reduceEqDiff])
                      exact (hl.2.2.2.2.2.2.2.2 i hlt).1
                  · rw [if_neg (by omega)]
                    obtain rfl : i = g.rows.length := by omega
                    refine fin_flat rfl m1.grew ⟨?_, rfl⟩
                    rw [decide_eq_true]
                    exact ⟨hv, by omega, by omega, by omega, by omega, by omega, by omega, by omega, hall⟩
                · simp only [U, tset_eq, wW, reduceCtorEq, Nat.reduceEqDiff]
                · simp only [U, tset_eq, wW, reduceCtorEq, Nat.reduceEqDiff]; rfl
end
end Go.VE
/- The reference of the gates: order, Valid. -/
namespace Go.VE
open Go Go.Proofs
set_option maxRecDepth 20000
structure Vc {α : Type} (e : TypeId) (mk : α → Value) (s0 s : St) (A : Nat) (l : List α) : Prop where
  here : s.at A = some (.cells (l.map mk) e false)
  new : s0.n ≤ A
  wf : Wf s
  grew : Grew s0 s
theorem map_splice {α : Type} (mk : α → Value) (l : List α) (i : Nat) (x : α) (h : i < l.length) : splice (l.map mk) i [mk x] = (l.set i x).map mk := by
  rw [splice_set (by simpa using h)]
  simp [List.map_set]
theorem oneCell_cells {v : Value} (h : v.oneCell' = true) : v.cells = #[v] := by cases v <;> first | rfl | cases h
theorem zeroList_one {v : Value} (h : v.oneCell' = true) (n : Nat) : zeroList v.cells (n * 1) = List.replicate n v := by
  unfold zeroList
  rw [oneCell_cells h, Nat.mul_one]
  refine List.ext_getElem (by simp) fun i h1 h2 => ?_
  simp [Nat.mod_one]
section
variable {ro : Nat} {K : Value → St → Prop}
theorem Vc.store {α : Type} {e : TypeId} {mk : α → Value} {s0 s : St} {A : Nat} {l : List α} (h : Vc e mk s0 s A l) (hs : isz P e = some 1) (hw0 : Wf s0) (hro : ro ≤ s0.n) {i : Nat} (hi : i < l.length) {x : α} (h1 : (mk x).oneCell' = true) {ty : TypeId} {K : Value → St → Prop} (hk : ∀ s', Vc e mk s0 s' A (l.set i x) → (∀ B, B ≠ A → s'.at B = s.at B) → s'.n = s.n → K undef s') :
    wop P ro (.store e (.const (.pointer (some ⟨A, i, none⟩))) (.const (mk x))) ty s K := by
  have hn := h.new
  refine store1_rule hs h.here h.wf (by omega) (by simpa using hi) h1 fun s' p => hk s' ⟨?_, h.new, p.wf, p.grew _ hw0 h.grew h.new⟩ p.rest p.n
  rw [p.here, map_splice _ _ _ _ hi]
theorem make_rule {α : Type} {t e : TypeId} {bytes : Nat} {mk : α → Value} {x : α} (hse : sliceElem P t = some e) (hty : tyOk P e 1 bytes (mk x) = true) (h1 : (mk x).oneCell' = true) {s : St} (hw : Wf s) {n : Int} (h0 : 0 ≤ n) (hn : n ≤ 2 ^ 30) (hb : bytes ≤ 100) {ty : TypeId} {K : Value → St → Prop}
    (hk : ∀ A s', Made s A (.cells ((List.replicate n.toNat x).map mk) e false) s' → K (.slice (some ⟨A, 0, none⟩) n.toNat n.toNat) s') : wop P ro (.makeSlice t (.const (.int .i64 n)) (.const (.int .i64 n))) ty s K := by
  obtain ⟨i, hi, hsz, hby, hz, hf, hzs⟩ := tyOk_spec hty
  rw [wop_makeSlice]
  have hle : bytes * n ≤ 100 * 2 ^ 30 := Int.mul_le_mul (by omega) hn h0 (by omega)
  have hc : flat (mk x) = true ∧ 0 ≤ n ∧ n ≤ n ∧ i.bytes * n ≤ 2 ^ 47 ∧ n ≤ 2 ^ 47 ∧ (mk x).cells.size = i.size := ⟨hf, h0, Int.le_refl _, by rw [hby]; omega, by omega, by rw [hsz]; exact hzs⟩
  simp only [amakeSlice, hse, hi, hz]
  rw [if_pos hc, wopt_some, hsz, zeroList_one h1]
  have := hk s.n (s.new (.cells (List.replicate n.toNat (mk x)) e false))
  rw [List.map_replicate] at this
  exact this (.mk' hw _)
theorem sliceElem_un {t e : TypeId} (he : sliceElem P t = some e) : P.underlying t = some (.slice e) := by
  unfold sliceElem at he
  split at he
  · rename_i e' hu; cases he; exact hu
  · cases he
theorem ixc {t e : TypeId} (hse : sliceElem P t = some e) (hs : isz P e = some 1) {A n c : Nat} {i : Int} (h0 : 0 ≤ i) (hi : i < n) : aindexAddr P t (.slice (some ⟨A, 0, none⟩) n c) (.int .i64 i) = some (.pointer (some ⟨A, i.toNat, none⟩)) := by
  simp only [aindexAddr, sliceElem_un hse, hs, Option.bind_some, aplace, h0, hi, and_self, if_true, Nat.mul_one, Nat.zero_add]
theorem max_i64 (a b : Int) (ty : TypeId) (s : St) (K : Value → St → Prop) : wop P ro (.call ⟨.builtin .max, ⟨[.const (.int .i64 a), .const (.int .i64 b)]⟩, #[3, 3]⟩) ty s K = K (.int .i64 (if a < b then b else a)) s := by kernel_rfl
end
def dInit (n0 : Int) (i : Nat) (D : List Int) : List Int := if (i : Int) < n0 then (D.set i (-1)).set i 0 else D.set i (-1)
def mostM (r : Row) (D : List Int) : List Int → Int → Option Int
  | [], m => some m
  | j :: l, m => if at0 D (r.w j.toNat) < 0 ∧ ¬ (r.k = 1 ∧ j = 2) then none else mostM r D l (if m < at0 D (r.w j.toNat) then at0 D (r.w j.toNat) else m)
def dNext (m : Int) (nx : Row) (k : Nat) (D : List Int) : List Int := if at0 D (nx.w k) < 0 then D.set (nx.w k).toNat (m + 1) else D
def dArith (r : Row) (m : Int) (D : List Int) : List Int := if r.k = 1 ∧ r.qo ≠ 0 ∧ at0 D r.w2 < 0 then D.set r.w2.toNat (m + 1) else D
def dRow (r nx : Row) (m : Int) (D : List Int) : List Int := if r.k = 3 then it (dNext m nx) 4 (dArith r m D) else dArith r m D
def stepD (g : Gp) (i : Nat) (D : List Int) : Option (List Int) := (mostM (rowAt g.rows i) D (rds (rowAt g.rows i)) 0).map fun m => dRow (rowAt g.rows i) (rowAt g.rows (i + 1)) m D
def orderD (g : Gp) : Nat → Option (List Int)
  | 0 => some (it (dInit (g.pub + g.sec)) g.nv.toNat (List.replicate g.nv.toNat 0))
  | i + 1 => (orderD g i).bind (stepD g i)
def orderM (g : Gp) : Option (List Int) := (orderD g g.rows.length).bind fun D => if D.all (fun x => decide (0 ≤ x)) then some D else none
theorem orderD_none {g : Gp} {i : Nat} (h : orderD g i = none) : ∀ {n : Nat}, i ≤ n → orderD g n = none
  | 0, hn => by obtain rfl : i = 0 := by omega
                exact h
  | n + 1, hn => by
    rcases Nat.lt_or_ge i (n + 1) with hlt | hge
    · rw [orderD, orderD_none h (by omega)]; rfl
    · obtain rfl : i = n + 1 := by omega
      exact h
def Dep (N : Nat) (m : Int) (D : List Int) : Prop := D.length = N ∧ ∀ x ∈ D, -1 ≤ x ∧ x ≤ m
theorem Dep.set {N : Nat} {m : Int} {D : List Int} (h : Dep N m D) {i : Nat} {x : Int} (hx : -1 ≤ x ∧ x ≤ m) : Dep N m (D.set i x) := ⟨by rw [List.length_set]; exact h.1, fun y hy => by
  rcases List.mem_or_eq_of_mem_set hy with hy | rfl
  · exact h.2 y hy
  · exact hx⟩
theorem Dep.mono {N : Nat} {m m' : Int} {D : List Int} (h : Dep N m D) (hm : m ≤ m') : Dep N m' D := ⟨h.1, fun x hx => ⟨(h.2 x hx).1, Int.le_trans (h.2 x hx).2 hm⟩⟩
theorem Dep.at0 {N : Nat} {m : Int} {D : List Int} (h : Dep N m D) (hm : 0 ≤ m) (i : Int) : -1 ≤ Go.VE.at0 D i ∧ Go.VE.at0 D i ≤ m := by
  unfold Go.VE.at0
  cases hx : D[i.toNat]? with
  | none => exact ⟨by decide, hm⟩
  | some x => exact h.2 x (List.mem_of_getElem? hx)
theorem Dep.init {N : Nat} {n0 : Int} {D : List Int} (h : Dep N 0 D) (i : Nat) : Dep N 0 (dInit n0 i D) := by
  unfold dInit
  split
  · exact (h.set (by decide)).set (by decide)
  · exact h.set (by decide)
theorem Dep.arith {N : Nat} {i m : Int} {D : List Int} {r : Row} (h : Dep N i D) (hm : -1 ≤ m ∧ m ≤ i) : Dep N (i + 1) (dArith r m D) := by
  unfold dArith
  split
  · exact (h.mono (by omega)).set (by omega)
  · exact h.mono (by omega)
theorem Dep.next {N : Nat} {i m : Int} {D : List Int} {r : Row} {k : Nat} (h : Dep N (i + 1) D) (hm : -1 ≤ m ∧ m ≤ i) : Dep N (i + 1) (dNext m r k D) := by
  unfold dNext
  split
  · exact h.set (by omega)
  · exact h
theorem Dep.nexts {N : Nat} {i m : Int} {D : List Int} {r : Row} (h : Dep N (i + 1) D) (hm : -1 ≤ m ∧ m ≤ i) : ∀ n, Dep N (i + 1) (it (dNext m r) n D)
  | 0 => h
  | n + 1 => (Dep.nexts h hm n).next hm
theorem Dep.inits {N : Nat} {n0 : Int} {D : List Int} (h : Dep N 0 D) : ∀ n, Dep N 0 (it (dInit n0) n D)
  | 0 => h
  | n + 1 => (Dep.inits h n).init n
end Go.VE
/- The reference of the gates: order, Valid. -/
namespace Go.VE
open Go Go.Proofs
set_option maxRecDepth 20000
structure OrdI (ro : Nat) (g : Gp) (ur : Value) (s0 : St) (G A : Nat) (s : St) (D : List Int) : Prop where
  vc : Vc 3 (.int .i64) s0 s A D
  gat : s.at G = some (.cells (g.cells ur) 24 false)
  len : D.length = g.nv.toNat
  w0 : Wf s0
  ro : ro ≤ s0.n
  rows : RowsS s0 ur g.rows
  ne : G ≠ A
section
variable {ro : Nat} {K : Value → St → Prop} {g : Gp} {ur : Value} {s0 : St} {G A : Nat} {s : St} {D : List Int}
theorem OrdI.rs (h : OrdI ro g ur s0 G A s D) : RowsS s ur g.rows := Sl.grew h.rows h.vc.grew.same
theorem OrdI.gc (h : OrdI ro g ur s0 G A s D) : acells (s.at G) = some (g.cells ur) := acells_some h.gat
theorem OrdI.dc (h : OrdI ro g ur s0 G A s D) : acells (s.at A) = some (D.map (.int .i64)) := acells_some h.vc.here
theorem OrdI.get (h : OrdI ro g ur s0 G A s D) {i : Int} (h0 : 0 ≤ i) (hi : i < g.nv) : (D.map (Value.int .i64))[i.toNat]? = some (.int .i64 (at0 D i)) := by
  have := h.len
  rw [List.getElem?_map, at0_get h0 (by omega)]; rfl
theorem OrdI.store (h : OrdI ro g ur s0 G A s D) {i : Int} (h0 : 0 ≤ i) (hi : i < g.nv) {x : Int} {ty : TypeId} {K : Value → St → Prop} (hk : ∀ s', OrdI ro g ur s0 G A s' (D.set i.toNat x) → (∀ B, B ≠ A → s'.at B = s.at B) → K undef s') :
    wop P ro (.store 3 (.const (.pointer (some ⟨A, i.toNat, none⟩))) (.const (.int .i64 x))) ty s K := by
  have := h.len
  exact h.vc.store isz_3 h.w0 h.ro (by omega) rfl fun s' v r _ => hk s' ⟨v, (r G h.ne).trans h.gat, by rw [List.length_set]; exact h.len, h.w0, h.ro, h.rows, h.ne⟩ r
theorem OrdI.grew (h : OrdI ro g ur s0 G A s D) {s' : St} (hg : Grew s s') : OrdI ro g ur s0 G A s' D :=
  ⟨⟨(hg.same A (St.at_lt h.vc.here)).trans h.vc.here, h.vc.new, h.vc.wf.grew hg, h.vc.grew.trans hg⟩, (hg.same G (St.at_lt h.gat)).trans h.gat, h.len, h.w0, h.ro, h.rows, h.ne⟩
theorem Limits.row {i : Nat} (h : Limits g) (hi : i < g.rows.length) : RowLim g i := h.2.2.2.2.2.2.2.2 i hi
theorem Limits.wire {i : Nat} (h : Limits g) (hi : i < g.rows.length) {k : Nat} (hk : k < 4) : -1 ≤ (rowAt g.rows i).w k ∧ (rowAt g.rows i).w k < g.nv := (h.row hi).1.2.2.2.2.2.1 k hk
theorem Limits.next {i : Nat} (h : Limits g) (hi : i < g.rows.length) (h3 : (rowAt g.rows i).k = 3) : i + 1 < g.rows.length ∧ ∀ k : Nat, k < 4 → 0 ≤ (rowAt g.rows (i + 1)).w k ∧ (rowAt g.rows (i + 1)).w k < g.nv :=
  ⟨((h.row hi).2 h3).1, fun k hk => ⟨((h.row hi).2 h3).2 k hk, (h.wire ((h.row hi).2 h3).1 hk).2⟩⟩
theorem Limits.reads {i : Nat} (h : Limits g) (hi : i < g.rows.length) {j : Int} (hj : j ∈ rds (rowAt g.rows i)) : 0 ≤ (rowAt g.rows i).w j.toNat ∧ (rowAt g.rows i).w j.toNat < g.nv := by
  have h4 := rds_lt _ j hj
  exact ⟨(h.row hi).1.2.2.2.2.2.2 j hj, (h.wire hi (by omega)).2⟩
theorem Limits.nv (h : Limits g) : 0 ≤ g.nv ∧ g.nv ≤ 40000 := ⟨by have := h.2.1; have := h.2.2.2.1; have := h.2.2.2.2.2.1; omega, h.2.2.2.2.2.2.1⟩
theorem rds_2 {r : Row} (h1 : r.k = 1) (hq : r.qo ≠ 0) : (2 : Int) ∈ rds r := by
  unfold rds
  rw [if_pos h1, if_pos hq]
  simp
abbrev slc (A n : Nat) : Value := .slice (some ⟨A, 0, none⟩) n n
theorem ordNext (hL : Limits g) (hI : OrdI ro g ur s0 G A s D) {i : Nat} (hi : i < g.rows.length) {R : Nat} (hR : s.at R = some (.cells (rowAt g.rows i).cells 43 false)) (hRA : R ≠ A) {m : Int} (hm : 0 ≤ m ∧ m ≤ i)
    {τ : Tau} {ds : List Deferred} {Qe : Ex → XK} (h1 : τ 1 = ptr G) (h4 : τ 4 = slc A g.nv.toNat) (h6 : τ 6 = .int .i64 i) (h7 : τ 7 = ptr R) (h9 : τ 9 = .int .i64 m)
    (hk : ∀ τ' al s', U τ' al 1 = ptr G → U τ' al 4 = slc A g.nv.toNat → U τ' al 6 = .int .i64 i → OrdI ro g ur s0 G A s' (if (rowAt g.rows i).k = 3 then it (dNext m (rowAt g.rows (i + 1))) 4 D else D) → Qe .normal τ' al ds s') :
    xp (prims P ro) none 153 k27_1110100 c27_111010010011111 [1, 1, 1, 1, 1, 0, 0, 1] τ [] ds s Qe := by
  have hnv := hL.nv
  have hrl := hL.2.2.2.2.2.2.2.1
  rw [n27_111010010011111]
  unfold v27_111010010011111
  have hRc : acells (s.at R) = some (rowAt g.rows i).cells := acells_some hR
  simp (maxSteps := 10000000) only [wW, reduceCtorEq, Nat.reduceEqDiff, wL, Nat.reduceAdd, h7, hRc]
  by_cases h3 : (rowAt g.rows i).k = 3
  · rw [if_pos h3] at hk ⊢
    have hn := hL.next hi h3
    refine wloop l27_11101001001111110100 m27_11101001001111110100 (fun (k : Nat) τ ds' s' => k ≤ 4 ∧ τ 1 = ptr G ∧ τ 4 = slc A g.nv.toNat ∧ τ 6 = .int .i64 i ∧ τ 9 = .int .i64 m ∧ τ 12 = .int .i64 k ∧ ds = ds' ∧ OrdI ro g ur s0 G A s' (it (dNext m (rowAt g.rows (i + 1))) k D)) (fun k => 4 - k) ?_ 0 ⟨by omega, ?_, ?_, ?_, ?_, rfl, rfl, hI⟩
    · clear h1 h4 h6 h7 h9 hI hR hRc
      rintro k τ ds' s' ⟨hk4', h1, h4, h6, h9, h12, rfl, hI⟩
      rw [n27_11101001001111110100]
      unfold v27_11101001001111110100
      by_cases hk4 : k < 4
      · have hx := hn.2 k hk4
        obtain ⟨A2, o2, c2, y1, y2⟩ := hI.rs.ix (rowAt_get hn.1)
        have hiw : IntKind.i64.wrap ((i : Int) + 1) = ((i + 1 : Nat) : Int) := by rw [wrap_i64 (by omega) (by omega)]; rfl
        have hwk := y2.wire hk4
        have hix := ixc se_49 isz_3 (A := A) (n := g.nv.toNat) (c := g.nv.toNat) (i := (rowAt g.rows (i + 1)).w k) hx.1 (by omega)
        have hgt := hI.get hx.1 hx.2
        simp (maxSteps := 10000000) only [wW, reduceCtorEq, Nat.reduceEqDiff, wL, Nat.reduceAdd, h1, h4, h6, h9, h12, hI.gc, hiw, y1, y2.blk, wix _ _ hk4, hwk, hix, hI.dc, hgt]
        rw [if_pos (by omega)]
        by_cases hneg : at0 (it (dNext m (rowAt g.rows (i + 1))) k D) ((rowAt g.rows (i + 1)).w k) < 0
        · rw [if_pos hneg, wrap_i64 (n := m + 1) (by omega) (by omega)]
          refine hI.store hx.1 hx.2 fun s2 hI2 _ => ?_
          rw [wrap_i64 (by omega) (by omega)]
          refine ⟨k + 1, by omega, by omega, ?_, ?_, ?_, ?_, ?_, trivial, ?_⟩
          · simp only [U, tset_eq, wW, reduceCtorEq, Nat.reduceEqDiff, h1]
          · simp only [U, tset_eq, wW, reduceCtorEq, Nat.reduceEqDiff, h4]
          · simp only [U, tset_eq, wW, reduceCtorEq, Nat.reduceEqDiff, h6]
          · simp only [U, tset_eq, wW, reduceCtorEq, Nat.reduceEqDiff, h9]
          · simp only [U, tset_eq, wW, reduceCtorEq, Nat.reduceEqDiff]; rfl
          · rw [it, dNext, if_pos hneg]
            exact hI2
        · rw [if_neg hneg, wrap_i64 (by omega) (by omega)]
          refine ⟨k + 1, by omega, by omega, ?_, ?_, ?_, ?_, ?_, trivial, ?_⟩
          · simp only [U, tset_eq, wW, reduceCtorEq, Nat.reduceEqDiff, h1]
          · simp only [U, tset_eq, wW, reduceCtorEq, Nat.reduceEqDiff, h4]
          · simp only [U, tset_eq, wW, reduceCtorEq, Nat.reduceEqDiff, h6]
          · simp only [U, tset_eq, wW, reduceCtorEq, Nat.reduceEqDiff, h9]
          · simp only [U, tset_eq, wW, reduceCtorEq, Nat.reduceEqDiff]; rfl
          · rw [it, dNext, if_neg hneg]
            exact hI
      · obtain rfl : k = 4 := by omega
        simp (maxSteps := 10000000) only [wW, reduceCtorEq, Nat.reduceEqDiff, h12]
        rw [if_neg (by omega)]
        refine hk _ [] _ ?_ ?_ ?_ hI
        · simp only [U, tset_eq, wW, reduceCtorEq, Nat.reduceEqDiff, h1]
        · simp only [U, tset_eq, wW, reduceCtorEq, Nat.reduceEqDiff, h4]
        · simp only [U, tset_eq, wW, reduceCtorEq, Nat.reduceEqDiff, h6]
    · simp only [U, tset_eq, wW, reduceCtorEq, Nat.reduceEqDiff, h1]
    · simp only [U, tset_eq, wW, reduceCtorEq, Nat.reduceEqDiff, h4]
    · simp only [U, tset_eq, wW, reduceCtorEq, Nat.reduceEqDiff, h6]
    · simp only [U, tset_eq, wW, reduceCtorEq, Nat.reduceEqDiff, h9]
  · rw [if_neg h3] at hk ⊢
    refine hk _ _ _ ?_ ?_ ?_ hI
    · simp only [U, tset_eq, wW, reduceCtorEq, Nat.reduceEqDiff, h1]
    · simp only [U, tset_eq, wW, reduceCtorEq, Nat.reduceEqDiff, h4]
    · simp only [U, tset_eq, wW, reduceCtorEq, Nat.reduceEqDiff, h6]
theorem ordArith (hL : Limits g) (hI : OrdI ro g ur s0 G A s D) {i : Nat} (hi : i < g.rows.length) {R : Nat} (hR : s.at R = some (.cells (rowAt g.rows i).cells 43 false)) (hRA : R ≠ A) {m : Int} (hm : 0 ≤ m ∧ m ≤ i)
    {τ : Tau} {ds : List Deferred} {Qe : Ex → XK} (hQ : QOk Qe) (h1 : τ 1 = ptr G) (h4 : τ 4 = slc A g.nv.toNat) (h6 : τ 6 = .int .i64 i) (h7 : τ 7 = ptr R) (h9 : τ 9 = .int .i64 m)
    {b : Bool} (h100 : τ 100 = .bool b) (hb : b = true ↔ (rowAt g.rows i).k = 1 ∧ (rowAt g.rows i).qo ≠ 0 ∧ at0 D (rowAt g.rows i).w2 < 0)
    (hk : ∀ τ' al s', U τ' al 1 = ptr G → U τ' al 4 = slc A g.nv.toNat → U τ' al 6 = .int .i64 i → OrdI ro g ur s0 G A s' (dRow (rowAt g.rows i) (rowAt g.rows (i + 1)) m D) → Qe .normal τ' al ds s') :
    xp (prims P ro) none 153 k27_1110100 c27_1110100100111101 [1, 0, 1, 1, 1, 1, 0, 0, 1] τ [] ds s (sX (prims P ro) none 153 k27_1110100 c27_111010010011111 [1, 1, 1, 1, 1, 0, 0, 1] Qe) := by
  have hnv := hL.nv
  have hrl := hL.2.2.2.2.2.2.2.1
  generalize hX : sX (prims P ro) none 153 k27_1110100 c27_111010010011111 [1, 1, 1, 1, 1, 0, 0, 1] Qe = X
  rw [n27_1110100100111101]
  unfold v27_1110100100111101
  have hRc : acells (s.at R) = some (rowAt g.rows i).cells := acells_some hR
  rw [h100, h4, h7, h9]
  simp (maxSteps := 10000000) only [wW, reduceCtorEq, Nat.reduceEqDiff, wL, Nat.reduceAdd, hRc]
  by_cases hbt : b = true
  · rw [if_pos hbt]
    have hc := hb.1 hbt
    have hw2 := hL.reads hi (rds_2 hc.1 hc.2.1)
    have hw2' : 0 ≤ (rowAt g.rows i).w2 ∧ (rowAt g.rows i).w2 < g.nv := hw2
    have hix := ixc se_49 isz_3 (A := A) (n := g.nv.toNat) (c := g.nv.toNat) (i := (rowAt g.rows i).w2) hw2'.1 (by omega)
    simp (maxSteps := 10000000) only [wW, reduceCtorEq, Nat.reduceEqDiff, wL, Nat.reduceAdd, hix]
    rw [wrap_i64 (n := m + 1) (by omega) (by omega)]
    refine hI.store hw2'.1 hw2'.2 fun s2 hI2 r2 => ?_
    rw [← hX, sX_n hQ]
    have e : dArith (rowAt g.rows i) m D = D.set (rowAt g.rows i).w2.toNat (m + 1) := by unfold dArith; rw [if_pos hc]
    rw [← e] at hI2
    refine ordNext hL hI2 hi ((r2 R hRA).trans hR) hRA hm ?_ ?_ ?_ ?_ ?_ hk
    · simp only [U, tset_eq, wW, reduceCtorEq, Nat.reduceEqDiff, h1]
    · simp only [U, tset_eq, wW, reduceCtorEq, Nat.reduceEqDiff, h4]
    · simp only [U, tset_eq, wW, reduceCtorEq, Nat.reduceEqDiff, h6]
    · simp only [U, tset_eq, wW, reduceCtorEq, Nat.reduceEqDiff, h7]
    · simp only [U, tset_eq, wW, reduceCtorEq, Nat.reduceEqDiff, h9]
  · rw [if_neg hbt]
    have hc := fun h => hbt (hb.2 h)
    rw [← hX, sX_n hQ]
    have e : dArith (rowAt g.rows i) m D = D := by unfold dArith; rw [if_neg hc]
    have hI' := hI
    rw [← e] at hI'
    refine ordNext hL hI' hi hR hRA hm ?_ ?_ ?_ ?_ ?_ hk
    · simp only [U, tset_eq, wW, reduceCtorEq, Nat.reduceEqDiff, h1]
    · simp only [U, tset_eq, wW, reduceCtorEq, Nat.reduceEqDiff, h4]
    · simp only [U, tset_eq, wW, reduceCtorEq, Nat.reduceEqDiff, h6]
    · simp only [U, tset_eq, wW, reduceCtorEq, Nat.reduceEqDiff, h7]
    · simp only [U, tset_eq, wW, reduceCtorEq, Nat.reduceEqDiff, h9]
end
end Go.VE
/- The reference of the gates: order, Valid. -/
namespace Go.VE
open Go Go.Proofs
set_option maxRecDepth 20000
section
variable {ro : Nat} {K : Value → St → Prop} {g : Gp} {ur : Value} {s0 : St} {G A : Nat} {s : St} {D : List Int}
theorem ordEnd {τ : Tau} {al : AL} {ds : List Deferred} {Q : Ex → WK} {i : Nat} (hi : i ≤ 8000) (h6 : U τ al 6 = .int .i64 i)
    (hk : ∀ τ', τ' 1 = U τ al 1 → τ' 4 = U τ al 4 → τ' 6 = .int .i64 ((i + 1 : Nat) : Int) → Q .normal τ' ds s) :
    blkX 3 (sX (prims P ro) none 153 k27_1110100 c27_111010011 [1, 1] (lift Q)) .normal τ al ds s := by
  rw [blkX_n, sX_n (.lift _), n27_111010011]
  unfold v27_111010011
  rw [h6]
  simp (maxSteps := 10000000) only [wW, reduceCtorEq, Nat.reduceEqDiff]
  rw [wrap_i64 (by omega) (by omega)]
  unfold lift
  refine hk _ ?_ ?_ ?_
  · simp only [U, tset_eq, wW, reduceCtorEq, Nat.reduceEqDiff]
  · simp only [U, tset_eq, wW, reduceCtorEq, Nat.reduceEqDiff]
  · simp only [U, tset_eq, wW, reduceCtorEq, Nat.reduceEqDiff]; rfl
theorem wOrder (g : Gp) (hL : Limits g) {s : St} {ur : Value} (hw : Wf s) (hro : ro ≤ s.n) (hr : RowsS s ur g.rows)
    (h0 : orderM g = none → K (.tuple (.mk [.slice none 0 0, .bool false])) s) (h1 : ∀ D v s', orderM g = some D → Grew s s' → Ints s' v D → K (.tuple (.mk [v, .bool true])) s') :
    CallWP P ro 27 [.agg (.mk (g.cells ur))] s K := by
  refine call_wp b27 rfl ?_
  rw [n27]
  unfold v27
  simp (maxSteps := 10000000) only [wW, reduceCtorEq, Nat.reduceEqDiff]
  refine box_rule hw.ent fun G s1 m1 => ?_
  have e1 := m1.eq
  have n1 := m1.n
  have hn0 : (ent s).n = s.n := rfl
  have hnv := hL.nv
  have hrl := hL.2.2.2.2.2.2.2.1
  have hps := hL.2.1
  have hps2 := hL.2.2.1
  have hps3 := hL.2.2.2.1
  have hps4 := hL.2.2.2.2.1
  have hG1 : s1.at G = some (.cells (g.cells ur) 24 false) := m1.here
  simp (maxSteps := 10000000) only [wW, reduceCtorEq, Nat.reduceEqDiff, wL, Nat.reduceAdd, acells_some hG1]
  refine make_rule (mk := Value.int .i64) (x := 0) se_49 ty_3 rfl m1.wf hnv.1 (by omega) (by decide) fun A s2 m2 => ?_
  have e2 := m2.eq
  have n2 := m2.n
  have hlen0 : (List.replicate g.nv.toNat (0 : Int)).length = g.nv.toNat := by simp
  have hI0 : OrdI ro g ur (ent s) G A s2 (List.replicate g.nv.toNat 0) := ⟨⟨m2.here, by omega, m2.wf, m1.grew.trans m2.grew⟩, (m2.grew.same G (by omega)).trans hG1, hlen0, hw.ent, hro, Sl.ent hr, by omega⟩
  have no : ∀ {s' : St}, Grew (ent s) s' → orderM g = none → wfin s K (.tuple (.mk [.slice none 0 0, .bool false])) s' := fun hg hf => fin_flat rfl hg (h0 hf)
  have noR : ∀ {τ : Tau} {al : AL} {s' : St}, Grew (ent s) s' → orderM g = none → U τ al 2 = .slice none 0 0 → U τ al 3 = .bool false → xleave (prims P ro) s Tryd.f27.results.toList K .ret (U τ al) [] [] s' := fun {τ al s'} hg hf h2 h3 => by
    rw [r27]
    simp (maxSteps := 10000000) only [wW, reduceCtorEq, Nat.reduceEqDiff]
    rw [h2, h3]
    exact no hg hf
  have hlI : ∀ {s : St} {K : Value → St → Prop}, wop P ro (.call ⟨.builtin .len, ⟨[.const (slc A g.nv.toNat)]⟩, #[49]⟩) 3 s K = K (.int .i64 (g.nv.toNat : Nat)) s := fun {s K} => wop_len se_49 _ _ _ _ _ _
  refine wloop l27_110100 m27_110100 (fun (i : Nat) τ ds s' => i ≤ g.nv.toNat ∧ τ 1 = ptr G ∧ τ 4 = slc A g.nv.toNat ∧ τ 5 = .int .i64 i ∧ ds = [] ∧ OrdI ro g ur (ent s) G A s' (it (dInit (g.pub + g.sec)) i (List.replicate g.nv.toNat 0))) (fun i => g.nv.toNat - i) ?_ 0 ⟨by omega, ?_, ?_, ?_, rfl, hI0⟩
  · clear hI0
    rintro i τ ds s' ⟨hi, t1, t4, t5, rfl, hI⟩
    rw [n27_110100]
    unfold v27_110100
    simp (maxSteps := 10000000) only [wW, reduceCtorEq, Nat.reduceEqDiff, t4, t5, hlI]
    by_cases hlt : i < g.nv.toNat
    · rw [if_pos (by omega)]
      have hx0 : (0 : Int) ≤ (i : Int) := by omega
      have hx1 : (i : Int) < g.nv := by omega
      have hix := ixc se_49 isz_3 (A := A) (n := g.nv.toNat) (c := g.nv.toNat) (i := (i : Int)) hx0 (by omega)
      simp (maxSteps := 10000000) only [wW, reduceCtorEq, Nat.reduceEqDiff, wL, Nat.reduceAdd, hix]
      refine hI.store hx0 hx1 fun s3 hI3 _ => ?_
      simp (maxSteps := 10000000) only [wW, reduceCtorEq, Nat.reduceEqDiff, wL, Nat.reduceAdd, t1, t4, t5, hI3.gc, hix]
      rw [wrap_i64 (n := g.pub + g.sec) (by omega) (by omega)]
      by_cases hp : (i : Int) < g.pub + g.sec
      · rw [if_pos hp]
        refine hI3.store hx0 hx1 fun s4 hI4 _ => ?_
        rw [wrap_i64 (by omega) (by omega)]
        refine ⟨i + 1, by omega, by omega, ?_, ?_, ?_, trivial, ?_⟩
        · simp only [U, tset_eq, wW, reduceCtorEq, Nat.reduceEqDiff, t1]
        · simp only [U, tset_eq, wW, reduceCtorEq, Nat.reduceEqDiff, t4]
        · simp only [U, tset_eq, wW, reduceCtorEq, Nat.reduceEqDiff]; rfl
        · rw [it, dInit, if_pos hp]
          exact hI4
      · rw [if_neg hp]
        rw [wrap_i64 (by omega) (by omega)]
        refine ⟨i + 1, by omega, by omega, ?_, ?_, ?_, trivial, ?_⟩
        · simp only [U, tset_eq, wW, reduceCtorEq, Nat.reduceEqDiff, t1]
        · simp only [U, tset_eq, wW, reduceCtorEq, Nat.reduceEqDiff, t4]
        · simp only [U, tset_eq, wW, reduceCtorEq, Nat.reduceEqDiff]; rfl
        · rw [it, dInit, if_neg hp]
          exact hI3
    · obtain rfl : i = g.nv.toNat := by omega
      rw [if_neg (by omega)]
      have hd0 : Dep g.nv.toNat 0 (it (dInit (g.pub + g.sec)) g.nv.toNat (List.replicate g.nv.toNat 0)) := Dep.inits ⟨hlen0, fun x hx => by rw [List.eq_of_mem_replicate hx]; decide⟩ _
      refine wloop l27_1110100 m27_1110100 (fun (i : Nat) τ ds s' => i ≤ g.rows.length ∧ τ 1 = ptr G ∧ τ 4 = slc A g.nv.toNat ∧ τ 6 = .int .i64 i ∧ ds = [] ∧ ∃ D, orderD g i = some D ∧ Dep g.nv.toNat i D ∧ OrdI ro g ur (ent s) G A s' D) (fun i => g.rows.length - i) ?_ 0 ⟨by omega, ?_, ?_, ?_, rfl, _, rfl, hd0, hI⟩
      · clear hI t1 t4 t5 hd0 hlt hi
        rintro i τ ds s' ⟨hi, t1, t4, t6, rfl, D, hD, hdep, hI⟩
        rw [n27_1110100]
        unfold v27_1110100
        have hgl : ∀ s' K, wop P ro (.call ⟨.builtin .len, ⟨[.const ur]⟩, #[22]⟩) 3 s' K = K (.int .i64 (g.rows.length : Nat)) s' := fun s' K => Sl.wlen hr se_22 _ K
        by_cases hlt : i < g.rows.length
        · obtain ⟨A5, o5, c5, q1, q2⟩ := hI.rs.ix (rowAt_get hlt)
          simp (maxSteps := 10000000) only [wW, reduceCtorEq, Nat.reduceEqDiff, wL, Nat.reduceAdd, t1, t4, t6, hI.gc, hgl, q1, q2.blk, q2.all]
          rw [if_pos (by omega)]
          refine alloc_rule ty_43 hI.vc.wf fun R s3 m3 => ?_
          have e3 := m3.eq
          have n3 := m3.n
          have gn := hI.vc.grew.n
          have hAlt := St.at_lt hI.vc.here
          have hGlt := St.at_lt hI.gat
          refine storeAll_rule isz_43 m3.here (l := (rowAt g.rows i).cells) rfl (by decide) m3.wf (by omega) rfl rfl fun s4 p4 => ?_
          have hI4 : OrdI ro g ur (ent s) G A s4 D := ⟨⟨(p4.rest A (by omega)).trans ((m3.grew.same A hAlt).trans hI.vc.here), hI.vc.new, p4.wf, p4.grew _ hw.ent (hI.vc.grew.trans m3.grew) (by omega)⟩, (p4.rest G (by omega)).trans ((m3.grew.same G hGlt).trans hI.gat), hI.len, hI.w0, hI.ro, hI.rows, hI.ne⟩
          have hR4 : s4.at R = some (.cells (rowAt g.rows i).cells 43 false) := p4.here
          simp (maxSteps := 10000000) only [wW, reduceCtorEq, Nat.reduceEqDiff, wL, Nat.reduceAdd, acells_some hR4]
          refine wReads (rowAt g.rows i) p4.wf (by have := hI4.vc.grew.n; omega) fun v s5 g5 hV => ?_
          have hI5 := hI4.grew g5
          have hR5 : s5.at R = some (.cells (rowAt g.rows i).cells 43 false) := (g5.same R (St.at_lt hR4)).trans hR4
          have hRc := acells_some hR5
          have hRA : R ≠ A := by omega
          have hrdl := rds_len (rowAt g.rows i)
          generalize hrr : rowAt g.rows i = r at *
          refine wloop l27_11101001001110100 m27_11101001001110100 (fun (k : Nat) τ ds s' => k ≤ (rds r).length ∧ τ 1 = ptr G ∧ τ 4 = slc A g.nv.toNat ∧ τ 6 = .int .i64 i ∧ τ 7 = ptr R ∧ τ 8 = v ∧ τ 10 = .int .i64 k ∧ ds = [] ∧ s5 = s' ∧ ∃ m, τ 9 = .int .i64 m ∧ 0 ≤ m ∧ m ≤ i ∧ mostM r D ((rds r).drop k) m = mostM r D (rds r) 0) (fun k => (rds r).length - k) ?_ 0 ⟨by omega, ?_, ?_, ?_, ?_, ?_, ?_, rfl, rfl, 0, ?_, by omega, by omega, rfl⟩
          · clear t1 t4 t6 hI hI4
            rintro k τ ds s' ⟨hk, t1, t4, t6, t7, t8, t10, rfl, rfl, m, t9, hm0, hm1, hmost⟩
            have hstep : stepD g i D = (mostM r D (rds r) 0).map fun m => dRow r (rowAt g.rows (i + 1)) m D := by unfold stepD; rw [hrr]
            have hon : orderD g (i + 1) = stepD g i D := by rw [orderD, hD]; rfl
            rw [n27_11101001001110100]
            unfold v27_11101001001110100
            by_cases hlk : k < (rds r).length
            · obtain ⟨A6, o6, c6, z1, z2, z3⟩ := hV.at1 (i := (k : Int)) (x := (rds r)[k]) (by omega) (by rw [Int.toNat_natCast]; exact List.getElem?_eq_getElem hlk)
              have hmem : (rds r)[k] ∈ rds r := List.getElem_mem _
              have hj := rds_lt r _ hmem
              have hjc : (((rds r)[k]).toNat : Int) = (rds r)[k] := by omega
              have hwx := wix R 1 (k := ((rds r)[k]).toNat) (by omega)
              rw [hjc] at hwx
              have hrw := hL.reads hlt (j := (rds r)[k]) (by rw [hrr]; exact hmem)
              rw [hrr] at hrw
              have hix := ixc se_49 isz_3 (A := A) (n := g.nv.toNat) (c := g.nv.toNat) (i := r.w ((rds r)[k]).toNat) hrw.1 (by omega)
              have hgt := hI5.get hrw.1 hrw.2
              simp (maxSteps := 10000000) only [wW, reduceCtorEq, Nat.reduceEqDiff, wL, Nat.reduceAdd, t4, t7, t8, t9, t10, hV.wlen se_49, z1, z2, z3, hRc, hwx, rcw r (show ((rds r)[k]).toNat < 4 by omega), hix, hI5.dc, hgt]
              rw [if_pos (by omega)]
              rw [drop_cons hlk, mostM] at hmost
              have hdb := hdep.at0 (by omega) (r.w ((rds r)[k]).toNat)
              have next : ¬ (at0 D (r.w ((rds r)[k]).toNat) < 0 ∧ ¬ (r.k = 1 ∧ (rds r)[k] = 2)) → ∀ (al : AL), U τ al 1 = ptr G → U τ al 4 = slc A g.nv.toNat → U τ al 6 = .int .i64 i → U τ al 7 = ptr R → U τ al 8 = v → U τ al 9 = .int .i64 (if m < at0 D (r.w ((rds r)[k]).toNat) then at0 D (r.w ((rds r)[k]).toNat) else m) → U τ al 10 = .int .i64 ((k + 1 : Nat) : Int) →
                  ∃ y, (rds r).length - y < (rds r).length - k ∧ y ≤ (rds r).length ∧ U τ al 1 = ptr G ∧ U τ al 4 = slc A g.nv.toNat ∧ U τ al 6 = .int .i64 i ∧ U τ al 7 = ptr R ∧ U τ al 8 = v ∧ U τ al 10 = .int .i64 (y : Nat) ∧ True ∧ True ∧ ∃ m, U τ al 9 = .int .i64 m ∧ 0 ≤ m ∧ m ≤ i ∧ mostM r D ((rds r).drop y) m = mostM r D (rds r) 0 := fun hc al a1 a4 a6 a7 a8 a9 a10 => by
                rw [if_neg hc] at hmost
                refine ⟨k + 1, by omega, by omega, a1, a4, a6, a7, a8, a10, trivial, trivial, _, a9, ?_, ?_, hmost⟩
                · split <;> omega
                · split <;> omega
              have bad : (at0 D (r.w ((rds r)[k]).toNat) < 0 ∧ ¬ (r.k = 1 ∧ (rds r)[k] = 2)) → orderM g = none := fun hc => by
                rw [if_pos hc] at hmost
                have : orderD g (i + 1) = none := by rw [hon, hstep, ← hmost]; rfl
                unfold orderM
                rw [orderD_none this (by omega)]; rfl
              have hkw : IntKind.i64.wrap ((k : Int) + 1) = ((k + 1 : Nat) : Int) := by rw [wrap_i64 (by omega) (by omega)]; rfl
              have fin : ∀ {A B C : Prop}, (at0 D (r.w ((rds r)[k]).toNat) < 0 → A) → (¬ at0 D (r.w ((rds r)[k]).toNat) < 0 → B) → (if at0 D (r.w ((rds r)[k]).toNat) < 0 then A else B) := fun {A B C} h1 h2 => by
                split
                · exact h1 (by assumption)
                · exact h2 (by assumption)
              refine fin (C := True) (fun hneg => ?_) (fun hneg => ?_)
              · by_cases k1 : r.k = 1
                · rw [if_pos k1]
                  by_cases j2 : (rds r)[k] = 2
                  · rw [if_neg (by simpa using j2)]
                    simp (maxSteps := 10000000) only [max_i64, hkw, wW, reduceCtorEq, Nat.reduceEqDiff]
                    refine next (fun h => h.2 ⟨k1, j2⟩) _ ?_ ?_ ?_ ?_ ?_ ?_ ?_ <;> simp only [U, tset_eq, wW, reduceCtorEq, Nat.reduceEqDiff, t1, t4, t6, t7, t8]
                  · rw [if_pos (by simpa using j2)]
                    exact noR hI5.vc.grew (bad ⟨hneg, fun h => j2 h.2⟩) (by simp only [U, tset_eq, wW, reduceCtorEq, Nat.reduceEqDiff]) (by simp only [U, tset_eq, wW, reduceCtorEq, Nat.reduceEqDiff])
                · rw [if_neg k1]
                  exact noR hI5.vc.grew (bad ⟨hneg, fun h => k1 h.1⟩) (by simp only [U, tset_eq, wW, reduceCtorEq, Nat.reduceEqDiff]) (by simp only [U, tset_eq, wW, reduceCtorEq, Nat.reduceEqDiff])
              · simp (maxSteps := 10000000) only [max_i64, hkw, wW, reduceCtorEq, Nat.reduceEqDiff]
                refine next (fun h => hneg h.1) _ ?_ ?_ ?_ ?_ ?_ ?_ ?_ <;> simp only [U, tset_eq, wW, reduceCtorEq, Nat.reduceEqDiff, t1, t4, t6, t7, t8]
            · obtain rfl : k = (rds r).length := by omega
              simp (maxSteps := 10000000) only [wW, reduceCtorEq, Nat.reduceEqDiff, t8, t10, hV.wlen se_49]
              rw [if_neg (by omega)]
              rw [List.drop_of_length_le (Nat.le_refl _), mostM] at hmost
              have hD1 : orderD g (i + 1) = some (dRow r (rowAt g.rows (i + 1)) m D) := by rw [hon, hstep, ← hmost]; rfl
              have hdep1 : Dep g.nv.toNat ((i + 1 : Nat) : Int) (dRow r (rowAt g.rows (i + 1)) m D) := by
                have := hdep.arith (r := r) (m := m) ⟨by omega, hm1⟩
                unfold dRow
                split
                · exact Dep.nexts this ⟨by omega, hm1⟩ 4
                · exact this
              have last : ∀ (τ' : Tau) (al : AL) (s' : St), U τ' al 1 = ptr G → U τ' al 4 = slc A g.nv.toNat → U τ' al 6 = .int .i64 i → OrdI ro g ur (ent s) G A s' (dRow (rowAt g.rows i) (rowAt g.rows (i + 1)) m D) → ∀ {Q : Ex → WK}, (∀ τ' s', (∃ y, g.rows.length - y < g.rows.length - i ∧ y ≤ g.rows.length ∧ τ' 1 = ptr G ∧ τ' 4 = slc A g.nv.toNat ∧ τ' 6 = .int .i64 (y : Nat) ∧ ([] : List Deferred) = [] ∧ ∃ D, orderD g y = some D ∧ Dep g.nv.toNat y D ∧ OrdI ro g ur (ent s) G A s' D) → Q .normal τ' [] s') →
                  blkX 3 (sX (prims P ro) none 153 k27_1110100 c27_111010011 [1, 1] (lift Q)) .normal τ' al [] s' := fun τ' al s' a1 a4 a6 hI' {Q} hQ => by
                refine ordEnd (by omega) a6 fun τ2 b1 b4 b6 => hQ τ2 s' ⟨i + 1, by omega, by omega, b1.trans a1, b4.trans a4, b6, rfl, _, hD1, hdep1, ?_⟩
                rw [hrr] at hI'
                exact hI'
              have row : ∀ {b : Bool} {τ' : Tau} {Q : Ex → WK}, τ' 100 = .bool b → (b = true ↔ r.k = 1 ∧ r.qo ≠ 0 ∧ at0 D r.w2 < 0) → τ' 1 = ptr G → τ' 4 = slc A g.nv.toNat → τ' 6 = .int .i64 i → τ' 7 = ptr R → τ' 9 = .int .i64 m →
                  (∀ τ' s', (∃ y, g.rows.length - y < g.rows.length - i ∧ y ≤ g.rows.length ∧ τ' 1 = ptr G ∧ τ' 4 = slc A g.nv.toNat ∧ τ' 6 = .int .i64 (y : Nat) ∧ ([] : List Deferred) = [] ∧ ∃ D, orderD g y = some D ∧ Dep g.nv.toNat y D ∧ OrdI ro g ur (ent s) G A s' D) → Q .normal τ' [] s') →
                  xp (prims P ro) none 153 k27_1110100 c27_1110100100111101 [1, 0, 1, 1, 1, 1, 0, 0, 1] τ' [] [] s5 (sX (prims P ro) none 153 k27_1110100 c27_111010010011111 [1, 1, 1, 1, 1, 0, 0, 1] (blkX 3 (sX (prims P ro) none 153 k27_1110100 c27_111010011 [1, 1] (lift Q)))) := fun {b τ' Q} h100 hb a1 a4 a6 a7 a9 hQ => by
                refine ordArith hL hI5 hlt (by rw [hrr]; exact hR5) hRA ⟨hm0, hm1⟩ ((QOk.lift Q).sX.blk 3) a1 a4 a6 a7 a9 h100 (by rw [hrr]; exact hb) fun τ2 al s2 b1 b4 b6 hI2 => last τ2 al s2 b1 b4 b6 hI2 hQ
              simp (maxSteps := 10000000) only [U, tset_eq, wW, reduceCtorEq, Nat.reduceEqDiff, wL, Nat.reduceAdd, t4, t7, hRc]
              by_cases k1 : r.k = 1
              · rw [if_pos k1]
                by_cases kq : r.qo = 0
                · rw [if_neg (by simpa using kq)]
                  refine row (b := false) ?_ ⟨fun h => (by cases h), fun h => absurd kq h.2.1⟩ ?_ ?_ ?_ ?_ ?_ (fun _ _ h => h) <;> simp only [tset_eq, wW, reduceCtorEq, Nat.reduceEqDiff, t1, t4, t6, t7, t9]
                · rw [if_pos kq]
                  have hw2 : 0 ≤ r.w2 ∧ r.w2 < g.nv := by
                    have := hL.reads hlt (j := 2) (by rw [hrr]; exact rds_2 k1 kq)
                    rw [hrr] at this
                    exact this
                  have hix := ixc se_49 isz_3 (A := A) (n := g.nv.toNat) (c := g.nv.toNat) (i := r.w2) hw2.1 (by omega)
                  have hgt := hI5.get hw2.1 hw2.2
                  rw [hix, wopt_some, load1 ap_3, hI5.dc, Option.bind_some, hgt, wopt_some, wop_int, int_lss keq_i64, wopt_some]
                  refine row (b := decide (at0 D r.w2 < 0)) ?_ ⟨fun h => ⟨k1, kq, by simpa using h⟩, fun h => by simpa using h.2.2⟩ ?_ ?_ ?_ ?_ ?_ (fun _ _ h => h) <;> simp only [tset_eq, wW, reduceCtorEq, Nat.reduceEqDiff, t1, t4, t6, t7, t9]
              · rw [if_neg k1]
                refine row (b := false) ?_ ⟨fun h => (by cases h), fun h => absurd h.1 k1⟩ ?_ ?_ ?_ ?_ ?_ (fun _ _ h => h) <;> simp only [tset_eq, wW, reduceCtorEq, Nat.reduceEqDiff, t1, t4, t6, t7, t9]
          · simp only [U, tset_eq, wW, reduceCtorEq, Nat.reduceEqDiff, t1]
          · simp only [U, tset_eq, wW, reduceCtorEq, Nat.reduceEqDiff, t4]
          · simp only [U, tset_eq, wW, reduceCtorEq, Nat.reduceEqDiff, t6]
          · simp only [U, tset_eq, wW, reduceCtorEq, Nat.reduceEqDiff]
          · simp only [U, tset_eq, wW, reduceCtorEq, Nat.reduceEqDiff]
          · simp only [U, tset_eq, wW, reduceCtorEq, Nat.reduceEqDiff]; rfl
          · simp only [U, tset_eq, wW, reduceCtorEq, Nat.reduceEqDiff]
        · simp (maxSteps := 10000000) only [wW, reduceCtorEq, Nat.reduceEqDiff, wL, Nat.reduceAdd, t1, t4, t6, hI.gc, hgl]
          rw [if_neg (by omega)]
          obtain rfl : i = g.rows.length := by omega
          have hgn := hI.vc.grew
          have oM : orderM g = if D.all (fun x => decide (0 ≤ x)) then some D else none := by unfold orderM; rw [hD]; rfl
          have hDl := hI.len
          refine wloop l27_11110100 m27_11110100 (fun (i : Nat) τ ds s2' => i ≤ g.nv.toNat ∧ τ 4 = slc A g.nv.toNat ∧ τ 13 = .int .i64 i ∧ ds = [] ∧ s' = s2' ∧ (D.take i).all (fun x => decide (0 ≤ x)) = true) (fun i => g.nv.toNat - i) ?_ 0 ⟨by omega, ?_, ?_, rfl, rfl, rfl⟩
          · clear t1 t4 t6
            rintro i τ ds s2' ⟨hi, t4, t13, rfl, rfl, hall⟩
            rw [n27_11110100]
            unfold v27_11110100
            simp (maxSteps := 10000000) only [wW, reduceCtorEq, Nat.reduceEqDiff, t4, t13, hlI]
            by_cases hlt : i < g.nv.toNat
            · rw [if_pos (by omega)]
              have hx0 : (0 : Int) ≤ (i : Int) := by omega
              have hx1 : (i : Int) < g.nv := by omega
              have hix := ixc se_49 isz_3 (A := A) (n := g.nv.toNat) (c := g.nv.toNat) (i := (i : Int)) hx0 (by omega)
              have hg := hI.get hx0 hx1
              simp (maxSteps := 10000000) only [wW, reduceCtorEq, Nat.reduceEqDiff, wL, Nat.reduceAdd, hix, hI.dc, hg]
              have hgi : D[i]? = some (at0 D (i : Int)) := by
                have := at0_get (l := D) hx0 (by omega)
                rwa [Int.toNat_natCast] at this
              by_cases hneg : at0 D (i : Int) < 0
              · rw [if_pos hneg]
                refine noR hgn ?_ (by simp only [U, tset_eq, wW, reduceCtorEq, Nat.reduceEqDiff]) (by simp only [U, tset_eq, wW, reduceCtorEq, Nat.reduceEqDiff])
                rw [oM, if_neg]
                rw [List.all_eq_true]
                intro h
                have := h _ (List.mem_of_getElem? hgi)
                simp only [decide_eq_true_eq] at this
                omega
              · rw [if_neg hneg, wrap_i64 (by omega) (by omega)]
                refine ⟨i + 1, by omega, by omega, ?_, ?_, trivial, trivial, ?_⟩
                · simp only [U, tset_eq, wW, reduceCtorEq, Nat.reduceEqDiff, t4]
                · simp only [U, tset_eq, wW, reduceCtorEq, Nat.reduceEqDiff]; rfl
                · rw [take_succ_eq hgi, List.all_append, hall]
                  simp
                  omega
            · obtain rfl : i = g.nv.toNat := by omega
              rw [if_neg (by omega)]
              rw [List.take_of_length_le (by omega)] at hall
              simp (maxSteps := 10000000) only [U, tset_eq, wW, reduceCtorEq, Nat.reduceEqDiff, t4]
              refine wfin_new hw hgn rfl fun s9 hg9 _ hat => h1 D _ s9 ?_ hg9 ?_
              · rw [oM, if_pos hall]
              · refine ⟨some ⟨A, 0, none⟩, g.nv.toNat, by rw [hDl], by simp, ⟨by omega, fun h => (by cases h), fun x hx => (by cases hx; exact .inl rfl)⟩, fun _ => ⟨A, 0, none, _, _, _, rfl, rfl, (hat A).trans hI.vc.here, ?_⟩⟩
                rw [List.drop_zero, List.take_of_length_le (by simp)]
          · simp only [U, tset_eq, wW, reduceCtorEq, Nat.reduceEqDiff, t4]
          · simp only [U, tset_eq, wW, reduceCtorEq, Nat.reduceEqDiff]; rfl
      · simp only [U, tset_eq, wW, reduceCtorEq, Nat.reduceEqDiff, t1]
      · simp only [U, tset_eq, wW, reduceCtorEq, Nat.reduceEqDiff, t4]
      · simp only [U, tset_eq, wW, reduceCtorEq, Nat.reduceEqDiff]; rfl
  · simp only [U, tset_eq, wW, reduceCtorEq, Nat.reduceEqDiff]
  · simp only [U, tset_eq, wW, reduceCtorEq, Nat.reduceEqDiff]
  · simp only [U, tset_eq, wW, reduceCtorEq, Nat.reduceEqDiff]; rfl
end
end Go.VE
/- The reference of the gates: Valid; a run, its rows. -/
namespace Go.VE
open Go Go.Proofs
set_option maxRecDepth 20000
def validM (g : Gp) : Bool := decide (Limits g) && (orderM g).isSome
section
variable {ro : Nat} {K : Value → St → Prop}
theorem wValid (g : Gp) {s : St} {ur : Value} (hw : Wf s) (hro : ro ≤ s.n) (hr : RowsS s ur g.rows) (hlen : g.rows.length < 2 ^ 60) : CallWP P ro 12 [.agg (.mk (g.cells ur))] s K = K (.bool (validM g)) s := by
  refine callEq (call_wp b12 rfl ?_) K
  rw [n12]
  unfold v12
  simp (maxSteps := 10000000) only [wW, reduceCtorEq, Nat.reduceEqDiff]
  refine box_rule hw.ent fun G s1 m1 => ?_
  have e1 := m1.eq
  have n1 := m1.n
  have hn0 : (ent s).n = s.n := rfl
  have hG1 : s1.at G = some (.cells (g.cells ur) 24 false) := m1.here
  have hr1 : RowsS s1 ur g.rows := (Sl.ent hr).grew m1.grew.same
  simp (maxSteps := 10000000) only [wW, reduceCtorEq, Nat.reduceEqDiff, wL, Nat.reduceAdd, acells_some hG1]
  rw [wLimits g m1.wf (by omega) hr1 hlen]
  unfold validM
  by_cases hL : Limits g
  · rw [decide_eq_true hL]
    simp (maxSteps := 10000000) only [wW, reduceCtorEq, Nat.reduceEqDiff, wL, Nat.reduceAdd, acells_some hG1, Bool.true_and]
    refine wOrder g hL m1.wf (by omega) hr1 (fun h => ?_) (fun D v s' h hg _ => ?_)
    · rw [h]
      simp (maxSteps := 10000000) only [wW, reduceCtorEq, Nat.reduceEqDiff, List.getElem?_cons_zero, List.getElem?_cons_succ]
      exact fin_flat rfl m1.grew ⟨rfl, rfl⟩
    · rw [h]
      simp (maxSteps := 10000000) only [wW, reduceCtorEq, Nat.reduceEqDiff, List.getElem?_cons_zero, List.getElem?_cons_succ]
      exact fin_flat rfl (m1.grew.trans hg) ⟨rfl, rfl⟩
  · rw [decide_eq_false hL]
    simp (maxSteps := 10000000) only [wW, reduceCtorEq, Nat.reduceEqDiff]
    exact fin_flat rfl m1.grew ⟨rfl, rfl⟩
end
def atB (l : List Bool) (i : Int) : Bool := (l[i.toNat]?).getD false
def setV (w x : Int) (c : List Int × List Bool) : List Int × List Bool := (c.1.set w.toNat x, c.2.set w.toNat true)
def runA (f : Int) (r : Row) (c : List Int × List Bool) : List Int × List Bool :=
  if r.k = 1 ∧ r.qo ≠ 0 ∧ atB c.2 r.w2 = false then setV r.w2 (fNeg f (fDiv f (sumM f r c.1) r.qo)) c else c
def runN (l : List Int) (nx : Row) (k : Nat) (c : List Int × List Bool) : List Int × List Bool :=
  if atB c.2 (nx.w k) = false then setV (nx.w k) (at0 l k) c else c
def runB (f : Int) (r nx : Row) (c : List Int × List Bool) : List Int × List Bool :=
  if r.k = 3 then it (runN (roundM f r.rd (wv c.1 r)) nx) 4 c else c
def runR (g : Gp) (i : Nat) (c : List Int × List Bool) : List Int × List Bool := runB g.f (rowAt g.rows i) (rowAt g.rows (i + 1)) (runA g.f (rowAt g.rows i) c)
def inp (pub sec : List Int) (i : Nat) : Int := if i < pub.length then at0 pub i else at0 sec ((i : Int) - pub.length)
def runI (pub sec : List Int) (i : Nat) (c : List Int × List Bool) : List Int × List Bool := setV i (inp pub sec i) c
def run0 (g : Gp) : List Int × List Bool := (List.replicate g.nv.toNat 0, List.replicate g.nv.toNat false)
def runV (g : Gp) (pub sec : List Int) : List Int × List Bool := it (runR g) g.rows.length (it (runI pub sec) (g.pub + g.sec).toNat (run0 g))
noncomputable def okM (g : Gp) (vals : List Int) : Nat → Bool
  | 0 => true
  | i + 1 => okM g vals i && holdsR g.f (rowAt g.rows i) (rowAt g.rows (i + 1)) vals
def runOk (g : Gp) (pub sec : List Int) : Prop := validM g = true ∧ (pub.length : Int) = g.pub ∧ (sec.length : Int) = g.sec ∧ below g.f pub = true ∧ below g.f sec = true
structure RunI (ro : Nat) (g : Gp) (ur : Value) (s0 : St) (G A B : Nat) (s : St) (c : List Int × List Bool) : Prop where
  vv : Vc 38 (.int .u64) s0 s A c.1
  vb : Vc 4 .bool s0 s B c.2
  gat : s.at G = some (.cells (g.cells ur) 24 false)
  l1 : c.1.length = g.nv.toNat
  l2 : c.2.length = g.nv.toNat
  w0 : Wf s0
  ro : ro ≤ s0.n
  rows : RowsS s0 ur g.rows
  ga : G ≠ A
  gb : G ≠ B
  ab : A ≠ B
  nn : ∀ x ∈ c.1, 0 ≤ x
section
variable {ro : Nat} {K : Value → St → Prop} {g : Gp} {ur : Value} {s0 : St} {G A B : Nat} {s : St} {c : List Int × List Bool}
theorem RunI.rs (h : RunI ro g ur s0 G A B s c) : RowsS s ur g.rows := Sl.grew h.rows h.vv.grew.same
theorem RunI.gc (h : RunI ro g ur s0 G A B s c) : acells (s.at G) = some (g.cells ur) := acells_some h.gat
theorem RunI.vc (h : RunI ro g ur s0 G A B s c) : acells (s.at A) = some (c.1.map (.int .u64)) := acells_some h.vv.here
theorem RunI.bc (h : RunI ro g ur s0 G A B s c) : acells (s.at B) = some (c.2.map .bool) := acells_some h.vb.here
theorem RunI.getB (h : RunI ro g ur s0 G A B s c) {i : Int} (h0 : 0 ≤ i) (hi : i < g.nv) : (c.2.map Value.bool)[i.toNat]? = some (.bool (atB c.2 i)) := by
  have := h.l2
  unfold atB
  rw [List.getElem?_map, List.getElem?_eq_getElem (by omega)]; rfl
theorem RunI.grew (h : RunI ro g ur s0 G A B s c) {s' : St} (hg : Grew s s') : RunI ro g ur s0 G A B s' c :=
  ⟨⟨(hg.same A (St.at_lt h.vv.here)).trans h.vv.here, h.vv.new, h.vv.wf.grew hg, h.vv.grew.trans hg⟩, ⟨(hg.same B (St.at_lt h.vb.here)).trans h.vb.here, h.vb.new, h.vv.wf.grew hg, h.vv.grew.trans hg⟩, (hg.same G (St.at_lt h.gat)).trans h.gat, h.l1, h.l2, h.w0, h.ro, h.rows, h.ga, h.gb, h.ab, h.nn⟩
theorem RunI.sl (h : RunI ro g ur s0 G A B s c) : U64s s (slc A g.nv.toNat) c.1 :=
  ⟨some ⟨A, 0, none⟩, g.nv.toNat, by rw [h.l1], by simp, ⟨by rw [h.l1]; omega, fun h => (by cases h), fun x hx => (by cases hx; exact .inl rfl)⟩, fun _ => ⟨A, 0, none, _, _, _, rfl, rfl, h.vv.here, by rw [List.drop_zero, List.take_of_length_le (by simp)]⟩⟩
theorem RunI.storeB (h : RunI ro g ur s0 G A B s c) {i : Int} (h0 : 0 ≤ i) (hi : i < g.nv) {ty : TypeId} {K : Value → St → Prop} (hk : ∀ s', RunI ro g ur s0 G A B s' (c.1, c.2.set i.toNat true) → (∀ C, C ≠ B → s'.at C = s.at C) → K undef s') :
    wop P ro (.store 4 (.const (.pointer (some ⟨B, i.toNat, none⟩))) (.const (.bool true))) ty s K := by
  have := h.l2
  exact h.vb.store (mk := Value.bool) (x := true) isz_4 h.w0 h.ro (by omega) rfl fun s' v r _ => hk s' ⟨⟨(r A h.ab).trans h.vv.here, h.vv.new, v.wf, v.grew⟩, v, (r G h.gb).trans h.gat, h.l1, by rw [List.length_set]; exact h.l2, h.w0, h.ro, h.rows, h.ga, h.gb, h.ab, h.nn⟩ r
theorem rds_0 {r : Row} (h1 : r.k = 1) (hq : r.ql ≠ 0 ∨ r.qm ≠ 0) : (0 : Int) ∈ rds r := by
  unfold rds
  rw [if_pos h1, if_pos hq]
  simp
theorem rds_1 {r : Row} (h1 : r.k = 1) (hq : r.qr ≠ 0 ∨ r.qm ≠ 0) : (1 : Int) ∈ rds r := by
  unfold rds
  rw [if_pos h1, if_pos hq]
  simp
theorem Limits.fit (h : Limits g) {i : Nat} (hi : i < g.rows.length) (hn : (rowAt g.rows i).Nn) : RowFit g.nv.toNat (rowAt g.rows i) := by
  have hnv := h.nv
  have key : ∀ {j : Int}, j ∈ rds (rowAt g.rows i) → 0 ≤ (rowAt g.rows i).w j.toNat ∧ (rowAt g.rows i).w j.toNat < g.nv.toNat := fun {j} hj => by
    have := h.reads hi hj
    omega
  refine ⟨hn, fun k1 hq => key (rds_0 k1 hq), fun k1 hq => key (rds_1 k1 hq), fun k1 hq => key (rds_2 k1 hq), fun k2 => ?_, fun k3 => ⟨⟨(h.row hi).1.2.1, (h.row hi).1.2.2.1⟩, fun k hk => ?_⟩⟩
  · refine key (j := 0) ?_
    unfold rds
    rw [if_neg (by omega), if_pos k2]
    simp
  · have : ((k : Nat) : Int) ∈ rds (rowAt g.rows i) := by
      unfold rds
      rw [if_neg (by omega), if_neg (by omega), if_pos k3]
      simp
      omega
    have := key this
    rwa [Int.toNat_natCast] at this
end
end Go.VE
/- The reference of the gates: a run's rows. -/
namespace Go.VE
open Go Go.Proofs
set_option maxRecDepth 20000
section
variable {ro : Nat} {K : Value → St → Prop} {g : Gp} {ur : Value} {s0 : St} {G A B : Nat} {s : St} {c : List Int × List Bool}
end
end Go.VE
/- The reference of the gates: Run. -/
namespace Go.VE
open Go Go.Proofs
set_option maxRecDepth 20000
section
variable {ro : Nat} {K : Value → St → Prop}
end
end Go.VE
/- Numbers: primes, Fermat, inverses. -/
namespace Go.VE
open Go Go.Proofs
set_option maxRecDepth 20000
def PrimeN (p : Nat) : Prop := 1 < p ∧ ∀ g, g ∣ p → g = 1 ∨ g = p
def ndv (n : Nat) : Nat → Nat → Bool
  | 0, lo => n % lo != 0
  | k + 1, lo => ndv n k lo && ndv n k (lo + 2 ^ k)
theorem ndv_ok {n : Nat} : ∀ {k lo : Nat}, ndv n k lo = true → ∀ d, lo ≤ d → d < lo + 2 ^ k → n % d ≠ 0
  | 0, lo, h, d, h1, h2 => by
    obtain rfl : d = lo := by omega
    simpa [ndv] using h
  | k + 1, lo, h, d, h1, h2 => by
    rw [ndv, Bool.and_eq_true] at h
    rw [Nat.pow_succ] at h2
    rcases Nat.lt_or_ge d (lo + 2 ^ k) with h3 | h3
    · exact ndv_ok h.1 d h1 h3
    · exact ndv_ok h.2 d h3 (by omega)
theorem prime_ndv {n k : Nat} (h : ndv n k 2 = true) (hb : n < (2 + 2 ^ k) * (2 + 2 ^ k)) (hn : 1 < n) : PrimeN n := by
  refine ⟨hn, fun g hg => ?_⟩
  obtain ⟨q, hq⟩ := hg
  have hn' := ndv_ok h
  rcases Nat.lt_or_ge g 2 with h1 | h1
  · have : g ≠ 0 := by rintro rfl; rw [Nat.zero_mul] at hq; omega
    omega
  · rcases Nat.lt_or_ge q 2 with h' | h'
    · have : q ≠ 0 := by rintro rfl; rw [Nat.mul_zero] at hq; omega
      obtain rfl : q = 1 := by omega
      omega
    · exfalso
      rcases Nat.lt_or_ge g (2 + 2 ^ k) with h2 | h2
      · exact hn' g h1 h2 (by rw [hq, Nat.mul_mod_right])
      · rcases Nat.lt_or_ge q (2 + 2 ^ k) with h3 | h3
        · exact hn' q h' h3 (by rw [hq, Nat.mul_mod_left])
        · have := Nat.mul_le_mul h2 h3
          omega
theorem prime_97 : PrimeN 97 := prime_ndv (k := 3) (by decide +kernel) (by decide) (by decide)
theorem prime_257 : PrimeN 257 := prime_ndv (k := 4) (by decide +kernel) (by decide) (by decide)
theorem prime_12289 : PrimeN 12289 := prime_ndv (k := 7) (by decide +kernel) (by decide) (by decide)
theorem prime_998244353 : PrimeN 998244353 := prime_ndv (k := 15) (by decide +kernel) (by decide) (by decide)
theorem PrimeN.cop {p a : Nat} (h : PrimeN p) (ha : a % p ≠ 0) : Nat.Coprime p a := by
  rcases h.2 _ (Nat.gcd_dvd_left p a) with e | e
  · exact e
  · exfalso
    have := Nat.gcd_dvd_right p a
    rw [e] at this
    exact ha (Nat.mod_eq_zero_of_dvd this)
theorem PrimeN.euclid {p m n : Nat} (h : PrimeN p) (hd : p ∣ m * n) : p ∣ m ∨ p ∣ n := by
  by_cases hm : m % p = 0
  · exact .inl (Nat.dvd_of_mod_eq_zero hm)
  · exact .inr ((h.cop hm).dvd_of_dvd_mul_left hd)
theorem mod_sub {p a b : Nat} (h : a ≤ b) : a % p = b % p ↔ p ∣ b - a := by
  constructor
  · intro e
    exact Nat.dvd_of_mod_eq_zero (Nat.sub_mod_eq_zero_of_mod_eq e.symm)
  · rintro ⟨k, hk⟩
    have : b = a + p * k := by omega
    rw [this, Nat.add_mul_mod_self_left]
def prodN : List Nat → Nat
  | [] => 1
  | x :: l => x * prodN l
def factN : Nat → Nat
  | 0 => 1
  | n + 1 => (n + 1) * factN n
theorem prodN_perm {l l' : List Nat} (h : l.Perm l') : prodN l = prodN l' := by
  induction h with
  | nil => rfl
  | cons x _ ih => rw [prodN, prodN, ih]
  | swap x y l => rw [prodN, prodN, prodN, prodN, Nat.mul_left_comm]
  | trans _ _ ih1 ih2 => rw [ih1, ih2]
theorem pigeon : ∀ {n : Nat} {l : List Nat}, l.Nodup → (∀ x ∈ l, 1 ≤ x ∧ x ≤ n) → l.length ≤ n
  | 0, [], _, _ => Nat.le_refl _
  | 0, x :: l, _, h => by have := h x (by simp); omega
  | n + 1, l, hd, h => by
    by_cases hm : n + 1 ∈ l
    · have h1 := pigeon (n := n) (hd.erase (n + 1)) fun x hx => by
        have h2 := (hd.mem_erase_iff).1 hx
        have := h x h2.2
        have := h2.1
        omega
      rw [List.length_erase_of_mem hm] at h1
      omega
    · have := pigeon (n := n) hd fun x hx => by
        have h1 := h x hx
        have : x ≠ n + 1 := fun e => hm (e ▸ hx)
        omega
      omega
theorem prodN_fact : ∀ {n : Nat} {l : List Nat}, l.Nodup → (∀ x ∈ l, 1 ≤ x ∧ x ≤ n) → l.length = n → prodN l = factN n
  | 0, l, _, _, hl => by
    have : l = [] := List.length_eq_zero_iff.1 hl
    subst this
    rfl
  | n + 1, l, hd, h, hl => by
    have hm : n + 1 ∈ l := by
      apply Classical.byContradiction
      intro hm
      have := pigeon (n := n) hd fun x hx => by
        have h1 := h x hx
        have : x ≠ n + 1 := fun e => hm (e ▸ hx)
        omega
      omega
    rw [prodN_perm (List.perm_cons_erase hm), prodN, prodN_fact (n := n) (hd.erase (n + 1)) (fun x hx => by
      have h2 := (hd.mem_erase_iff).1 hx
      have := h x h2.2
      have := h2.1
      omega) (by rw [List.length_erase_of_mem hm]; omega), factN]
theorem fact_ndvd {p : Nat} (h : PrimeN p) : ∀ n, n < p → ¬ p ∣ factN n
  | 0, _ => fun hd => by
    have := Nat.le_of_dvd (by decide) hd
    have := h.1
    have e : factN 0 = 1 := rfl
    omega
  | n + 1, hn => fun hd => by
    rw [factN] at hd
    rcases h.euclid hd with h1 | h1
    · have := Nat.le_of_dvd (by omega) h1
      omega
    · exact fact_ndvd h n (by omega) h1
theorem prodN_map {a p : Nat} : ∀ l : List Nat, prodN (l.map fun i => a * i % p) % p = a ^ l.length * prodN l % p
  | [] => by simp [prodN]
  | x :: l => by
    rw [List.map_cons, prodN, prodN, List.length_cons, Nat.pow_succ, Nat.mod_mul_mod, Nat.mul_mod, prodN_map l, ← Nat.mul_mod]
    congr 1
    rw [Nat.mul_comm (a ^ l.length) a, Nat.mul_assoc, Nat.mul_assoc, Nat.mul_left_comm x]
theorem fermat {p a : Nat} (h : PrimeN p) (ha : a % p ≠ 0) : a ^ (p - 1) % p = 1 := by
  have hp := h.1
  have hc := h.cop ha
  have hl : ((List.range (p - 1)).map (· + 1)).Nodup := by
    rw [List.nodup_iff_pairwise_ne, List.pairwise_map]
    exact (List.pairwise_lt_range).imp fun h => by omega
  have hr : ∀ x ∈ (List.range (p - 1)).map (· + 1), 1 ≤ x ∧ x ≤ p - 1 := fun x hx => by
    obtain ⟨i, hi, rfl⟩ := List.mem_map.1 hx
    have := List.mem_range.1 hi
    omega
  have hn : ((List.range (p - 1)).map (· + 1)).length = p - 1 := by rw [List.length_map, List.length_range]
  have e1 := prodN_fact hl hr hn
  have hl2 : (((List.range (p - 1)).map (· + 1)).map fun i => a * i % p).Nodup := by
    rw [List.map_map, List.nodup_iff_pairwise_ne, List.pairwise_map]
    refine (List.pairwise_lt_range).imp_of_mem fun {i j} hi hj hij => ?_
    have hi' := List.mem_range.1 hi
    have hj' := List.mem_range.1 hj
    intro e
    have e' : a * (i + 1) % p = a * (j + 1) % p := e
    have hd : p ∣ a * (j + 1) - a * (i + 1) := (mod_sub (Nat.mul_le_mul_left a (by omega))).1 e'
    rw [← Nat.mul_sub] at hd
    have := Nat.le_of_dvd (by omega) (hc.dvd_of_dvd_mul_left hd)
    omega
  have hr2 : ∀ x ∈ ((List.range (p - 1)).map (· + 1)).map fun i => a * i % p, 1 ≤ x ∧ x ≤ p - 1 := fun x hx => by
    obtain ⟨i, hi, rfl⟩ := List.mem_map.1 hx
    have := hr i hi
    have hlt := Nat.mod_lt (a * i) (show 0 < p by omega)
    have : a * i % p ≠ 0 := fun e => by
      have := Nat.le_of_dvd (by omega) (hc.dvd_of_dvd_mul_left (Nat.dvd_of_mod_eq_zero e))
      omega
    omega
  have e2 := prodN_fact hl2 hr2 (by rw [List.length_map]; exact hn)
  have e3 := prodN_map (a := a) (p := p) ((List.range (p - 1)).map (· + 1))
  rw [e2, e1, hn] at e3
  have hle : factN (p - 1) ≤ a ^ (p - 1) * factN (p - 1) := Nat.le_mul_of_pos_left _ (Nat.pow_pos (by
    rcases Nat.eq_zero_or_pos a with h0 | h0
    · rw [h0, Nat.zero_mod] at ha; exact absurd rfl ha
    · exact h0))
  have hd : p ∣ a ^ (p - 1) * factN (p - 1) - factN (p - 1) := (mod_sub hle).1 e3
  have hd2 : p ∣ (a ^ (p - 1) - 1) * factN (p - 1) := by rw [Nat.sub_mul, Nat.one_mul]; exact hd
  rcases h.euclid hd2 with h1 | h1
  · have hpos : 1 ≤ a ^ (p - 1) := Nat.pow_pos (by
      rcases Nat.eq_zero_or_pos a with h0 | h0
      · rw [h0, Nat.zero_mod] at ha; exact absurd rfl ha
      · exact h0)
    have := (mod_sub hpos).2 h1
    have e : 1 % p = a ^ (p - 1) % p := this
    rw [← e, Nat.mod_eq_of_lt hp]
  · exact absurd h1 (fact_ndvd h _ (by omega))
theorem inv_one {p a : Nat} (h : PrimeN p) (ha : a % p ≠ 0) {x : Int} (h0 : 0 ≤ x) (h1 : x < p) (hx : (p : Int) ∣ x * a - 1) : x = (a : Int) ^ (p - 2) % p := by
  have hp := h.1
  have hf := fermat h ha
  have hfi : (p : Int) ∣ (a : Int) ^ (p - 1) - 1 := by
    have hpos : 1 ≤ a ^ (p - 1) := Nat.pow_pos (by
      rcases Nat.eq_zero_or_pos a with h0 | h0
      · rw [h0, Nat.zero_mod] at ha; exact absurd rfl ha
      · exact h0)
    have hd : p ∣ a ^ (p - 1) - 1 := (mod_sub hpos).1 (by show 1 % p = _; rw [hf, Nat.mod_eq_of_lt hp])
    have := Int.natCast_dvd_natCast.2 hd
    rw [Int.natCast_sub hpos, Int.natCast_pow] at this
    exact this
  have e : (a : Int) ^ (p - 1) = (a : Int) ^ (p - 2) * a := by rw [← Int.pow_succ]; congr 1; omega
  rw [e] at hfi
  have hd : (p : Int) ∣ (x - (a : Int) ^ (p - 2)) * a := by
    have := Int.dvd_sub hx hfi
    have e2 : x * a - 1 - ((a : Int) ^ (p - 2) * a - 1) = (x - (a : Int) ^ (p - 2)) * a := by rw [Int.sub_mul]; omega
    rw [e2] at this
    exact this
  have hn : p ∣ (x - (a : Int) ^ (p - 2)).natAbs * a := by
    have := Int.natAbs_dvd_natAbs.2 hd
    rw [Int.natAbs_mul, Int.natAbs_natCast, Int.natAbs_natCast] at this
    exact this
  have h2 : p ∣ (x - (a : Int) ^ (p - 2)).natAbs := (h.cop ha).dvd_of_dvd_mul_right hn
  have h3 : (p : Int) ∣ x - (a : Int) ^ (p - 2) := Int.natAbs_dvd_natAbs.1 (by rw [Int.natAbs_natCast]; exact h2)
  have h4 := Int.emod_emod_of_dvd x (Int.dvd_refl (p : Int))
  have h5 : x % p = (a : Int) ^ (p - 2) % p := Int.emod_eq_emod_iff_emod_sub_eq_zero.2 (Int.emod_eq_zero_of_dvd h3)
  rw [← h5, Int.emod_eq_of_lt h0 h1]
structure Euc (p a : Nat) (r s : Nat) (x y : Int) : Prop where
  gcd : Nat.gcd r s = 1
  lt : s < r
  rx : (p : Int) ∣ x * a - r
  sy : (p : Int) ∣ y * a - s
  sum : y.natAbs * r + x.natAbs * s = p
  sg : (0 ≤ x ∧ y ≤ 0) ∨ (x ≤ 0 ∧ 0 ≤ y)
  xb : x.natAbs < p
theorem Euc.start {p a : Nat} (h : PrimeN p) (ha : a % p ≠ 0) (hl : a < p) : Euc p a p a 0 1 := by
  refine ⟨h.cop ha, hl, ?_, ?_, by simp, .inr ⟨Int.le_refl _, by decide⟩, by have := h.1; simp; omega⟩
  · rw [Int.zero_mul, Int.zero_sub]; exact (Int.dvd_neg).2 (Int.dvd_refl _)
  · rw [Int.one_mul, Int.sub_self]; exact Int.dvd_zero _
theorem Euc.step {p a r s : Nat} {x y : Int} (h : Euc p a r s x y) (hs : s ≠ 0) : Euc p a s (r % s) y (x - (r / s : Nat) * y) ∧ (x - (r / s : Nat) * y).natAbs ≤ p ∧ ((r / s : Nat) * y).natAbs ≤ p := by
  have hdm := Nat.div_add_mod r s
  have hlt := Nat.mod_lt r (Nat.pos_of_ne_zero hs)
  have hr2 : 2 ≤ r := by have := h.lt; omega
  have hq : ((r / s : Nat) * y).natAbs = r / s * y.natAbs := by rw [Int.natAbs_mul, Int.natAbs_natCast]
  have hm0 : 0 ≤ y → 0 ≤ ((r / s : Nat) : Int) * y := fun hy => Int.mul_nonneg (Int.natCast_nonneg _) hy
  have hm1 : y ≤ 0 → ((r / s : Nat) : Int) * y ≤ 0 := fun hy => Int.mul_nonpos_of_nonneg_of_nonpos (Int.natCast_nonneg _) hy
  have habs : (x - (r / s : Nat) * y).natAbs = x.natAbs + r / s * y.natAbs := by
    rw [← hq]
    rcases h.sg with ⟨a1, a2⟩ | ⟨a1, a2⟩
    · have := hm1 a2; omega
    · have := hm0 a2; omega
  have hsum : (x - (r / s : Nat) * y).natAbs * s + y.natAbs * (r % s) = p := by
    rw [habs, Nat.add_mul, ← h.sum]
    have e : y.natAbs * r = y.natAbs * (s * (r / s)) + y.natAbs * (r % s) := by rw [← Nat.mul_add, hdm]
    rw [e]
    have e2 : r / s * y.natAbs * s = y.natAbs * (s * (r / s)) := by rw [Nat.mul_comm (r / s), Nat.mul_assoc, Nat.mul_comm (r / s)]
    omega
  have hle : (x - (r / s : Nat) * y).natAbs ≤ p := by
    have : (x - (r / s : Nat) * y).natAbs * 1 ≤ (x - (r / s : Nat) * y).natAbs * s := Nat.mul_le_mul_left _ (by omega)
    omega
  refine ⟨⟨?_, hlt, h.sy, ?_, hsum, ?_, ?_⟩, hle, by rw [hq]; omega⟩
  · rw [← h.gcd, Nat.gcd_comm r s, Nat.gcd_rec s r, Nat.gcd_comm]
  · have h1 := Int.dvd_sub h.rx (Int.dvd_mul_of_dvd_right (b := ((r / s : Nat) : Int)) h.sy)
    have e : x * a - r - ((r / s : Nat) : Int) * (y * a - s) = (x - (r / s : Nat) * y) * a - (r % s : Nat) := by
      have e3 : (r : Int) = s * (r / s : Nat) + (r % s : Nat) := by rw [← Int.natCast_mul, ← Int.natCast_add, hdm]
      rw [Int.mul_sub, Int.sub_mul, Int.mul_assoc, Int.mul_comm ((r / s : Nat) : Int) (s : Int)]
      omega
    rw [e] at h1
    exact h1
  · rcases h.sg with ⟨a1, a2⟩ | ⟨a1, a2⟩
    · have := hm1 a2; exact .inr ⟨a2, by omega⟩
    · have := hm0 a2; exact .inl ⟨a2, by omega⟩
  · have h1 := h.sum
    have : y.natAbs * 2 ≤ y.natAbs * r := Nat.mul_le_mul_left _ hr2
    have h2 := h.xb
    by_cases hy : y.natAbs = 0
    · omega
    · omega
theorem Euc.done {p a r : Nat} {x y : Int} (hp : PrimeN p) (ha : a % p ≠ 0) (h : Euc p a r 0 x y) : (if x < 0 then x + p else x) = (a : Int) ^ (p - 2) % p := by
  have hr : r = 1 := by have := h.gcd; rw [Nat.gcd_zero_right] at this; exact this
  subst hr
  have hx := h.rx
  have hb := h.xb
  split
  · refine inv_one hp ha (by omega) (by omega) ?_
    have := Int.dvd_add hx (Int.dvd_mul_right (p : Int) a)
    have e : x * a - (1 : Nat) + p * a = (x + p) * a - 1 := by rw [Int.add_mul]; omega
    rw [e] at this
    exact this
  · exact inv_one hp ha (by omega) (by omega) hx
theorem fP_prime {f : Int} (h : fV f = true) : PrimeN (fP f).toNat := by
  rcases fV_cases h with rfl | rfl | rfl | rfl
  · exact prime_97
  · exact prime_257
  · exact prime_12289
  · exact prime_998244353
end Go.VE
/- The fields of the program: Generator, Exponent, Pow, Inv, Div. -/
namespace Go.VE
open Go Go.Proofs
set_option maxRecDepth 20000
theorem and1_64 {x : Int} (h0 : 0 ≤ x) (h1 : x < 2 ^ 64) : ((BitVec.ofInt 64 x &&& BitVec.ofInt 64 1).toNat : Int) = x % 2 := by
  rw [BitVec.toNat_and]
  have e1 : (BitVec.ofInt 64 x).toNat = x.toNat := by
    rw [BitVec.toNat_ofInt]
    congr 1
    exact Int.emod_eq_of_lt h0 h1
  have e2 : (BitVec.ofInt 64 1).toNat = 1 := rfl
  rw [e1, e2, Nat.and_one_is_mod]
  omega
theorem andU1 {x : Int} (h0 : 0 ≤ x) (h1 : x < 2 ^ 64) : abinInt P .and .u64 x .u64 1 = some (.int .u64 (x % 2)) := by
  rw [int_and keq_u64]
  have e : IntKind.u64.bits = 64 := rfl
  rw [e, and1_64 h0 h1, wrap_u64 (by omega) (by omega)]
theorem shrU1 {x : Int} (h0 : 0 ≤ x) : abinInt P .shr .u64 x .u64 1 = some (.int .u64 (x / 2)) := by
  rw [int_shr _ _ _ _ (by decide)]
  have e : (2 : Int) ^ min (1 : Int).toNat IntKind.u64.bits = 2 := rfl
  rw [e, Int.fdiv_eq_ediv_of_nonneg _ (by decide)]
theorem emod_pow (a p : Int) : ∀ n : Nat, (a % p) ^ n % p = a ^ n % p
  | 0 => by rw [Int.pow_zero, Int.pow_zero]
  | n + 1 => by rw [Int.pow_succ, Int.pow_succ, Int.mul_emod, emod_pow a p n, Int.emod_emod, ← Int.mul_emod]
theorem mulL (a b p : Int) : (a % p) * b % p = a * b % p := by rw [Int.mul_emod, Int.emod_emod, ← Int.mul_emod]
section
variable {ro : Nat} {s : St} {K : Value → St → Prop}
theorem conv_u64_i64 (a : Int) (ty : TypeId) (s : St) (K : Value → St → Prop) : wop P ro (.convert 38 2 (.const (.int .u64 a))) ty s K = K (.int .i64 (IntKind.i64.wrap a)) s := by kernel_rfl
theorem conv_i64_u64 (a : Int) (ty : TypeId) (s : St) (K : Value → St → Prop) : wop P ro (.convert 2 38 (.const (.int .i64 a))) ty s K = K (.int .u64 (IntKind.u64.wrap a)) s := by kernel_rfl
theorem wfGen (f : Int) (hw : Wf s) (hro : ro ≤ s.n) (hG : FieldsAt s) : CallWP P ro 74 [.int .i64 f] s K = K (.int .u64 (fGen f)) s := by
  refine callEq (call_wp b74 rfl ?_) K
  rw [n74]
  unfold v74
  simp only [wW, reduceCtorEq, Nat.reduceEqDiff]
  refine wfOf f hw.ent hro hG fun x n c s' hg => ?_
  rw [fd_75_1, ap_38]
  simp only [wopt_some, List.getElem?_cons_zero, List.getElem?_cons_succ]
  rw [wfin_flat (by rw [hg.lo]; exact Nat.le_refl _) rfl]
  exact ⟨rfl, rfl⟩
theorem wfExp (f : Int) (hw : Wf s) (hro : ro ≤ s.n) (hG : FieldsAt s) : CallWP P ro 75 [.int .i64 f] s K = K (.int .i64 (fExp f)) s := by
  refine callEq (call_wp b75 rfl ?_) K
  rw [n75]
  unfold v75
  simp only [wW, reduceCtorEq, Nat.reduceEqDiff]
  refine wfOf f hw.ent hro hG fun x n c s' hg => ?_
  rw [fd_75_3, ap_3]
  simp only [wopt_some, List.getElem?_cons_zero, List.getElem?_cons_succ]
  rw [wfin_flat (by rw [hg.lo]; exact Nat.le_refl _) rfl]
  exact ⟨rfl, rfl⟩
theorem wfPow (f : Int) {a n : Int} (ha : 0 ≤ a) (hn : 0 ≤ n) (hn2 : n < 2 ^ 64) (hw : Wf s) (hro : ro ≤ s.n) (hG : FieldsAt s) : CallWP P ro 70 [.int .i64 f, .int .u64 a, .int .u64 n] s K = K (.int .u64 (fPow f a n)) s := by
  refine callEq (call_wp b70 rfl ?_) K
  rw [n70]
  unfold v70
  simp (maxSteps := 10000000) only [wW, reduceCtorEq, Nat.reduceEqDiff]
  rw [wfValid]
  cases hv : fV f with
  | false =>
    simp (maxSteps := 10000000) only [wW, reduceCtorEq, Nat.reduceEqDiff]
    refine fin_flat rfl (.refl _) ⟨?_, rfl⟩
    unfold fPow
    rw [hv]; rfl
  | true =>
    simp (maxSteps := 10000000) only [wW, reduceCtorEq, Nat.reduceEqDiff]
    have hp := fP_pos hv
    have hp1 : 1 < fP f := by rcases fV_cases hv with rfl | rfl | rfl | rfl <;> decide
    have hb : ∀ x y : Int, 0 ≤ fMul f x y ∧ fMul f x y < fP f := fun x y => by
      unfold fMul
      rw [if_pos hv]
      exact mod_bounds hp
    have hm : ∀ x y : Int, fMul f x y = x * y % fP f := fun x y => by unfold fMul; rw [if_pos hv]
    refine wloop l70_111000 m70_111000 (fun (m : Nat) τ ds s' => ds = [] ∧ s' = ent s ∧ τ 0 = .int .i64 f ∧ ∃ a' out : Int, τ 1 = .int .u64 a' ∧ τ 2 = .int .u64 m ∧ τ 7 = .int .u64 out ∧ 0 ≤ a' ∧ (0 ≤ out ∧ out < fP f) ∧ (m : Int) < 2 ^ 64 ∧ out * a' ^ m % fP f = fPow f a n) (fun m => m) ?_ n.toNat ⟨rfl, rfl, ?_, a, 1, ?_, ?_, ?_, ha, ⟨by decide, hp1⟩, by omega, ?_⟩
    · rintro m τ ds s' ⟨rfl, rfl, t0, a', out, t1, t2, t7, ha', ho, hm64, hinv⟩
      rw [n70_111000]
      unfold v70_111000
      simp (maxSteps := 10000000) only [wW, reduceCtorEq, Nat.reduceEqDiff, t0, t1, t2, t7]
      by_cases h0 : m = 0
      · subst h0
        rw [if_neg (by omega)]
        rw [Int.pow_zero, Int.mul_one, Int.emod_eq_of_lt ho.1 ho.2] at hinv
        simp (maxSteps := 10000000) only [U, tset_eq, wW, reduceCtorEq, Nat.reduceEqDiff, t7]
        exact fin_flat rfl (.refl _) ⟨by rw [hinv], rfl⟩
      · rw [if_pos (by omega), andU1 (by omega) hm64, wopt_some]
        simp (maxSteps := 10000000) only [wW, reduceCtorEq, Nat.reduceEqDiff]
        have hdiv : ((m : Int) / 2) = ((m / 2 : Nat) : Int) := by omega
        by_cases h1 : (m : Int) % 2 = 1
        · rw [if_pos h1, wfMul f ho.1 ha' hw.ent hro hG, wfMul f ha' ha' hw.ent hro hG, shrU1 (by omega), wopt_some]
          refine ⟨m / 2, by omega, trivial, rfl, ?_, fMul f a' a', fMul f out a', ?_, ?_, ?_, (hb _ _).1, hb _ _, by omega, ?_⟩
          · simp only [U, tset_eq, wW, reduceCtorEq, Nat.reduceEqDiff, t0]
          · simp only [U, tset_eq, wW, reduceCtorEq, Nat.reduceEqDiff]
          · simp only [U, tset_eq, wW, reduceCtorEq, Nat.reduceEqDiff, hdiv]
          · simp only [U, tset_eq, wW, reduceCtorEq, Nat.reduceEqDiff]
          · rw [← hinv, hm, hm, Int.mul_emod, emod_pow, ← Int.mul_emod, mulL]
            have e : m = 1 + 2 * (m / 2) := by omega
            have e2 : a' ^ m = a' * (a' * a') ^ (m / 2) := by
              conv => lhs; rw [e, Int.pow_add, Int.pow_one, Int.pow_mul, Int.pow_succ, Int.pow_one]
            rw [e2, Int.mul_assoc]
        · rw [if_neg h1, wfMul f ha' ha' hw.ent hro hG, shrU1 (by omega), wopt_some]
          refine ⟨m / 2, by omega, trivial, rfl, ?_, fMul f a' a', out, ?_, ?_, ?_, (hb _ _).1, ho, by omega, ?_⟩
          · simp only [U, tset_eq, wW, reduceCtorEq, Nat.reduceEqDiff, t0]
          · simp only [U, tset_eq, wW, reduceCtorEq, Nat.reduceEqDiff]
          · simp only [U, tset_eq, wW, reduceCtorEq, Nat.reduceEqDiff, hdiv]
          · simp only [U, tset_eq, wW, reduceCtorEq, Nat.reduceEqDiff, t7]
          · rw [← hinv, hm, Int.mul_emod, emod_pow, ← Int.mul_emod]
            have e : m = 2 * (m / 2) := by omega
            have e2 : a' ^ m = (a' * a') ^ (m / 2) := by
              conv => lhs; rw [e, Int.pow_mul, Int.pow_succ, Int.pow_one]
            rw [e2]
    · simp only [U, tset_eq, wW, reduceCtorEq, Nat.reduceEqDiff]
    · simp only [U, tset_eq, wW, reduceCtorEq, Nat.reduceEqDiff]
    · simp only [U, tset_eq, wW, reduceCtorEq, Nat.reduceEqDiff]
      rw [Int.toNat_of_nonneg hn]
    · simp only [U, tset_eq, wW, reduceCtorEq, Nat.reduceEqDiff]
    · unfold fPow
      rw [hv, Int.one_mul, if_pos rfl]
theorem wfInv (f : Int) {a : Int} (ha : 0 ≤ a) (hw : Wf s) (hro : ro ≤ s.n) (hG : FieldsAt s) : CallWP P ro 55 [.int .i64 f, .int .u64 a] s K = K (.int .u64 (fInv f a)) s := by
  refine callEq (call_wp b55 rfl ?_) K
  rw [n55]
  unfold v55
  simp (maxSteps := 10000000) only [wW, reduceCtorEq, Nat.reduceEqDiff]
  rw [wfP f hw.ent hro hG]
  simp (maxSteps := 10000000) only [wW, reduceCtorEq, Nat.reduceEqDiff]
  cases hv : fV f with
  | false =>
    rw [fP_zero hv, if_pos rfl]
    refine fin_flat rfl (.refl _) ⟨?_, rfl⟩
    unfold fInv fPow
    rw [hv]; rfl
  | true =>
    have hp := fP_pos hv
    have hl := fP_lt f
    have hpr := fP_prime hv
    have hp1 := hpr.1
    have hb := mod_bounds (a := a) hp
    have hI : fInv f a = (a % fP f) ^ ((fP f).toNat - 2) % fP f := by
      unfold fInv fPow
      rw [if_pos hv, emod_pow]
      congr 2
      omega
    rw [if_neg (by omega), int_rem keq_u64 _ _ (by omega), wopt_some, tmod_nonneg ha]
    simp (maxSteps := 10000000) only [wW, reduceCtorEq, Nat.reduceEqDiff]
    by_cases h0 : a % fP f = 0
    · rw [if_pos h0]
      refine fin_flat rfl (.refl _) ⟨?_, rfl⟩
      have hk : (fP f).toNat - 2 ≠ 0 := by rcases fV_cases hv with rfl | rfl | rfl | rfl <;> decide
      rw [hI, h0, Int.zero_pow hk, Int.zero_emod]
    · rw [if_neg h0, conv_u64_i64, wrap_i64 (by omega) (by omega)]
      refine ⟨rfl, ?_⟩
      rw [conv_u64_i64, wrap_i64 (by omega) (by omega)]
      refine ⟨rfl, ?_⟩
      rw [hI]
      have hpN : ((fP f).toNat : Int) = fP f := Int.toNat_of_nonneg (by omega)
      have hbN : ((a % fP f).toNat : Int) = a % fP f := Int.toNat_of_nonneg hb.1
      have haN : (a % fP f).toNat % (fP f).toNat ≠ 0 := by rw [Nat.mod_eq_of_lt (by omega)]; omega
      have hst := Euc.start hpr haN (by omega)
      refine wloop l55_11111000 m55_11111000 (fun (m : Nat) τ ds s' => ds = [] ∧ s' = ent s ∧ τ 5 = .int .u64 (fP f) ∧ ∃ (r : Nat) (x y : Int), τ 6 = .int .i64 r ∧ τ 7 = .int .i64 m ∧ τ 8 = .int .i64 x ∧ τ 9 = .int .i64 y ∧ Euc (fP f).toNat (a % fP f).toNat r m x y ∧ r ≤ (fP f).toNat) (fun m => m) ?_ (a % fP f).toNat ⟨rfl, rfl, ?_, (fP f).toNat, 0, 1, ?_, ?_, ?_, ?_, hst, Nat.le_refl _⟩
      · rintro m τ ds s' ⟨rfl, rfl, t5, r, x, y, t6, t7, t8, t9, hE, hr⟩
        rw [n55_11111000]
        unfold v55_11111000
        simp (maxSteps := 10000000) only [wW, reduceCtorEq, Nat.reduceEqDiff, t5, t6, t7, t8, t9]
        by_cases hm : m = 0
        · subst hm
          have hd := hE.done hpr haN
          rw [hpN, hbN] at hd
          have hxb := hE.xb
          rw [if_neg (by simp)]
          simp (maxSteps := 10000000) only [U, tset_eq, wW, reduceCtorEq, Nat.reduceEqDiff, t5, t8]
          by_cases hx : x < 0
          · rw [if_pos hx] at hd ⊢
            rw [conv_u64_i64, wrap_i64 (by omega) (by omega)]
            simp (maxSteps := 10000000) only [wW, reduceCtorEq, Nat.reduceEqDiff]
            rw [wrap_i64 (by omega) (by omega), conv_i64_u64, wrap_u64 (by omega) (by omega), hd]
            exact fin_flat rfl (.refl _) ⟨rfl, rfl⟩
          · rw [if_neg hx] at hd ⊢
            rw [conv_i64_u64, wrap_u64 (by omega) (by omega), hd]
            exact fin_flat rfl (.refl _) ⟨rfl, rfl⟩
        · obtain ⟨h1, h2, h3⟩ := hE.step hm
          have hlt := hE.lt
          have hdm := Nat.div_add_mod r m
          have hml := Nat.mod_lt r (Nat.pos_of_ne_zero hm)
          have hq : Int.tdiv (r : Int) (m : Int) = ((r / m : Nat) : Int) := by rw [Int.tdiv_eq_ediv_of_nonneg (by omega)]; rfl
          have hq0 : (0 : Int) ≤ ((r / m : Nat) : Int) := Int.natCast_nonneg _
          have hqb : ((r / m : Nat) : Int) ≤ r := by have := Nat.div_le_self r m; omega
          have hqs : ((r / m : Nat) : Int) * (m : Int) = ((r - r % m : Nat) : Int) := by rw [← Int.natCast_mul]; congr 1; rw [Nat.mul_comm]; omega
          rw [if_pos (by omega), int_quo keq_i64 _ _ (by omega), wopt_some, hq, wrap_i64 (by omega) (by omega)]
          simp (maxSteps := 10000000) only [wW, reduceCtorEq, Nat.reduceEqDiff]
          rw [hqs, wrap_i64 (n := ((r - r % m : Nat) : Int)) (by omega) (by omega)]
          have e1 : (r : Int) - ((r - r % m : Nat) : Int) = ((r % m : Nat) : Int) := by have := Nat.mod_le r m; omega
          rw [e1, wrap_i64 (n := ((r % m : Nat) : Int)) (by omega) (by omega), wrap_i64 (n := ((r / m : Nat) : Int) * y) (by omega) (by omega), wrap_i64 (n := x - ((r / m : Nat) : Int) * y) (by omega) (by omega)]
          refine ⟨r % m, hml, trivial, trivial, ?_, m, y, x - ((r / m : Nat) : Int) * y, ?_, ?_, ?_, ?_, h1, by omega⟩
          · simp only [U, tset_eq, wW, reduceCtorEq, Nat.reduceEqDiff, t5]
          · simp only [U, tset_eq, wW, reduceCtorEq, Nat.reduceEqDiff]
          · simp only [U, tset_eq, wW, reduceCtorEq, Nat.reduceEqDiff]
          · simp only [U, tset_eq, wW, reduceCtorEq, Nat.reduceEqDiff]
          · simp only [U, tset_eq, wW, reduceCtorEq, Nat.reduceEqDiff]
      · simp only [U, tset_eq, wW, reduceCtorEq, Nat.reduceEqDiff]
      · simp only [U, tset_eq, wW, reduceCtorEq, Nat.reduceEqDiff, hpN]
      · simp only [U, tset_eq, wW, reduceCtorEq, Nat.reduceEqDiff, hbN]
      · simp only [U, tset_eq, wW, reduceCtorEq, Nat.reduceEqDiff]
      · simp only [U, tset_eq, wW, reduceCtorEq, Nat.reduceEqDiff]
theorem wfDiv (f : Int) {a b : Int} (ha : 0 ≤ a) (hb : 0 ≤ b) (hw : Wf s) (hro : ro ≤ s.n) (hG : FieldsAt s) : CallWP P ro 31 [.int .i64 f, .int .u64 a, .int .u64 b] s K = K (.int .u64 (fDiv f a b)) s := by
  refine callEq (call_wp b31 rfl ?_) K
  rw [n31]
  unfold v31
  simp (maxSteps := 10000000) only [wW, reduceCtorEq, Nat.reduceEqDiff]
  rw [wfInv f hb hw.ent hro hG, wfMul f ha (show 0 ≤ fInv f b from (fPow_bounds f b _).1) hw.ent hro hG]
  exact fin_flat rfl (.refl _) ⟨rfl, rfl⟩
end
end Go.VE
/- The program's sponge: a round. -/
namespace Go.VE
open Go Go.Proofs
set_option maxRecDepth 20000
def sqR (f r : Int) (l : List Int) (j : Nat) : Int := fPow f (fAdd f (at0 l j) (fConst f r j)) (fExp f)
def mixT (f a b c d : Int) (s : Int × Int) : Int := (a + b + c + d + s.1 + 2 * s.2) % fP f
theorem len4' {l : List Int} (h : l.length = 4) : ∃ a b c d, l = [a, b, c, d] := by
  match l, h with
  | [a, b, c, d], _ => exact ⟨a, b, c, d, rfl⟩
theorem mix_row {f : Int} (hv : fV f = true) (m0 m1 m2 m3 a b c d : Int) : fAdd f (fAdd f (fAdd f (fAdd f 0 (fMul f m0 a)) (fMul f m1 b)) (fMul f m2 c)) (fMul f m3 d) = (m0 * a + m1 * b + m2 * c + m3 * d) % fP f := by
  unfold fAdd fMul
  simp only [hv, if_true, Int.zero_add, Int.emod_add_emod, Int.add_emod_emod, Int.emod_emod]
theorem roundM_out {f : Int} (hv : fV f = true) (r : Int) {l : List Int} (hl : l.length = 4) :
    roundM f r l = [mixT f (sqR f r l 0) (sqR f r l 1) (sqR f r l 2) (sqR f r l 3) (sqR f r l 0, sqR f r l 1), mixT f (sqR f r l 0) (sqR f r l 1) (sqR f r l 2) (sqR f r l 3) (sqR f r l 1, sqR f r l 2), mixT f (sqR f r l 0) (sqR f r l 1) (sqR f r l 2) (sqR f r l 3) (sqR f r l 2, sqR f r l 3), mixT f (sqR f r l 0) (sqR f r l 1) (sqR f r l 2) (sqR f r l 3) (sqR f r l 3, sqR f r l 0)] := by
  obtain ⟨a, b, c, d, rfl⟩ := len4' hl
  have hS : rnS f r [a, b, c, d] = [sqR f r [a, b, c, d] 0, sqR f r [a, b, c, d] 1, sqR f r [a, b, c, d] 2, sqR f r [a, b, c, d] 3] := rfl
  unfold roundM
  rw [hS]
  generalize sqR f r [a, b, c, d] 0 = x0
  generalize sqR f r [a, b, c, d] 1 = x1
  generalize sqR f r [a, b, c, d] 2 = x2
  generalize sqR f r [a, b, c, d] 3 = x3
  have hR : it (rnD f [x0, x1, x2, x3]) 4 [0, 0, 0, 0] = [fAdd f (fAdd f (fAdd f (fAdd f 0 (fMul f 2 x0)) (fMul f 3 x1)) (fMul f 1 x2)) (fMul f 1 x3), fAdd f (fAdd f (fAdd f (fAdd f 0 (fMul f 1 x0)) (fMul f 2 x1)) (fMul f 3 x2)) (fMul f 1 x3), fAdd f (fAdd f (fAdd f (fAdd f 0 (fMul f 1 x0)) (fMul f 1 x1)) (fMul f 2 x2)) (fMul f 3 x3), fAdd f (fAdd f (fAdd f (fAdd f 0 (fMul f 3 x0)) (fMul f 1 x1)) (fMul f 1 x2)) (fMul f 2 x3)] := by kernel_rfl
  rw [hR, mix_row hv, mix_row hv, mix_row hv, mix_row hv]
  have e0 : 2 * x0 + 3 * x1 + 1 * x2 + 1 * x3 = x0 + x1 + x2 + x3 + x0 + 2 * x1 := by omega
  have e1 : 1 * x0 + 2 * x1 + 3 * x2 + 1 * x3 = x0 + x1 + x2 + x3 + x1 + 2 * x2 := by omega
  have e2 : 1 * x0 + 1 * x1 + 2 * x2 + 3 * x3 = x0 + x1 + x2 + x3 + x2 + 2 * x3 := by omega
  have e3 : 3 * x0 + 1 * x1 + 1 * x2 + 2 * x3 = x0 + x1 + x2 + x3 + x3 + 2 * x0 := by omega
  simp only [mixT]
  rw [e0, e1, e2, e3]
def kJ (f k : Int) : Nat → Int
  | 0 => k
  | j + 1 => kJ f k j * fGen f % fP f
def stJ (f k : Int) (j : Nat) (l : List Int) : List Int := l.set j (fPow f ((at0 l j + kJ f k (j + 1) + 7) % fP f) (fExp f))
def red4 (f : Int) (j : Nat) (l : List Int) : List Int := l.set j (at0 l j % fP f)
theorem kJ_pow {f : Int} (hv : fV f = true) (r : Int) (hr : 0 ≤ r) : ∀ j : Nat, kJ f (fPow f (fGen f) (4 * r)) j = fPow f (fGen f) (4 * r + j)
  | 0 => by rw [kJ]; congr 1; omega
  | j + 1 => by
    rw [kJ, kJ_pow hv r hr j]
    unfold fPow
    rw [if_pos hv, if_pos hv, mulL, ← Int.pow_succ]
    congr 2
    omega
theorem stJ_out {f : Int} (hv : fV f = true) {r : Int} (hr : 0 ≤ r) {l : List Int} (hl : l.length = 4) :
    it (stJ f (fPow f (fGen f) (4 * r))) 4 (it (red4 f) 4 l) = [sqR f r l 0, sqR f r l 1, sqR f r l 2, sqR f r l 3] := by
  obtain ⟨a, b, c, d, rfl⟩ := len4' hl
  have hA : it (red4 f) 4 [a, b, c, d] = [a % fP f, b % fP f, c % fP f, d % fP f] := rfl
  rw [hA]
  have hB : it (stJ f (fPow f (fGen f) (4 * r))) 4 [a % fP f, b % fP f, c % fP f, d % fP f] = [fPow f ((a % fP f + kJ f (fPow f (fGen f) (4 * r)) 1 + 7) % fP f) (fExp f), fPow f ((b % fP f + kJ f (fPow f (fGen f) (4 * r)) 2 + 7) % fP f) (fExp f), fPow f ((c % fP f + kJ f (fPow f (fGen f) (4 * r)) 3 + 7) % fP f) (fExp f), fPow f ((d % fP f + kJ f (fPow f (fGen f) (4 * r)) 4 + 7) % fP f) (fExp f)] := rfl
  rw [hB]
  have key : ∀ (x : Int) (j : Nat), fPow f ((x % fP f + kJ f (fPow f (fGen f) (4 * r)) (j + 1) + 7) % fP f) (fExp f) = fPow f (fAdd f x (fConst f r j)) (fExp f) := fun x j => by
    rw [kJ_pow hv r hr]
    congr 1
    unfold fConst fAdd
    simp only [hv, if_true]
    rw [Int.add_emod_emod, Int.add_assoc, Int.emod_add_emod]
    congr 3
    congr 1
    omega
  rw [key, key, key, key]
  rfl
section
variable {ro : Nat} {s : St} {K : Value → St → Prop}
def mxc (f : Int) : List Value := [.int .u64 (fP f), .int .u64 (fGen f), .bool (decide (fExp f = 5))]
theorem mx0 (f : Int) : (mxc f)[0]? = some (.int .u64 (fP f)) := rfl
theorem mx1 (f : Int) : (mxc f)[1]? = some (.int .u64 (fGen f)) := rfl
theorem mx2 (f : Int) : (mxc f)[2]? = some (.bool (decide (fExp f = 5))) := rfl
theorem mxVeq (f : Int) : veq (.agg (mxc f).toArray) (.agg (mxc f).toArray) = true := by simp [veq, veqA, veqL, mxc]
theorem mfa0 (A : Nat) : afieldAddr P 79 (ptr A) 0 = some (.pointer (some ⟨A, 0, none⟩)) := by kernel_rfl
theorem mfa1 (A : Nat) : afieldAddr P 79 (ptr A) 1 = some (.pointer (some ⟨A, 1, none⟩)) := by kernel_rfl
theorem mfa2 (A : Nat) : afieldAddr P 79 (ptr A) 2 = some (.pointer (some ⟨A, 2, none⟩)) := by kernel_rfl
theorem buildMx (a b : Int) (c : Bool) : abuild P 79 (partVals .e [(0, .const (.int .u64 a)), (1, .const (.int .u64 b)), (2, .const (.bool c))]) = some (.agg (.mk [.int .u64 a, .int .u64 b, .bool c])) := by kernel_rfl
theorem wKnown (f r : Int) : CallWP P ro 67 [.int .i64 f, .int .i64 r] s K = K (.bool (fV f && (decide (0 ≤ r) && decide (r < 8)))) s := by
  refine callEq (call_wp b67 rfl ?_) K
  rw [n67]
  unfold v67
  simp (maxSteps := 10000000) only [wW, reduceCtorEq, Nat.reduceEqDiff]
  rw [wfValid]
  cases hv : fV f with
  | false =>
    simp (maxSteps := 10000000) only [wW, reduceCtorEq, Nat.reduceEqDiff]
    exact fin_flat rfl (.refl _) ⟨rfl, rfl⟩
  | true =>
    simp (maxSteps := 10000000) only [wW, reduceCtorEq, Nat.reduceEqDiff]
    by_cases h0 : 0 ≤ r
    · rw [if_pos (by omega), decide_eq_true h0]
      exact fin_flat rfl (.refl _) ⟨rfl, rfl⟩
    · rw [if_neg (by omega), decide_eq_false h0]
      exact fin_flat rfl (.refl _) ⟨rfl, rfl⟩
theorem wIn (f : Int) (hw : Wf s) (hro : ro ≤ s.n) (hG : FieldsAt s) (hr0 : 0 < ro) : CallWP P ro 68 [.int .i64 f] s K = K (.agg (.mk (mxc f))) s := by
  refine callEq (call_wp b68 rfl ?_) K
  rw [n68]
  unfold v68
  simp (maxSteps := 10000000) only [wW, reduceCtorEq, Nat.reduceEqDiff]
  refine alloc_rule ty_79 hw.ent fun M s1 m1 => ?_
  have e1 := m1.eq
  have n1 := m1.n
  have hn0 : (ent s).n = s.n := rfl
  have hG1 : FieldsAt s1 := FieldsAt.grew (s := ent s) hG m1.grew
  rw [wfP f m1.wf (by omega) hG1, wfGen f m1.wf (by omega) hG1, wfExp f m1.wf (by omega) hG1]
  simp (maxSteps := 10000000) only [wW, reduceCtorEq, Nat.reduceEqDiff, buildMx]
  refine storeAll_rule isz_79 m1.here (l := mxc f) rfl (by decide) m1.wf (by omega) rfl rfl fun s2 p2 => ?_
  refine load_rule (load_all ap_79 p2.here rfl) ?_
  exact fin_flat rfl (p2.grew _ hw.ent m1.grew (by omega)) ⟨rfl, rfl⟩
theorem mul_lt30 {x y : Int} (h0 : 0 ≤ x) (h1 : x < 2 ^ 30) (h2 : 0 ≤ y) (h3 : y < 2 ^ 30) : 0 ≤ x * y ∧ x * y < 2 ^ 60 := by
  refine ⟨Int.mul_nonneg h0 h2, ?_⟩
  have : x * y ≤ (2 ^ 30 - 1) * (2 ^ 30 - 1) := Int.mul_le_mul (by omega) (by omega) h2 (by decide)
  omega
theorem wPower (f : Int) (hv : fV f = true) {x : Int} (h0 : 0 ≤ x) (h1 : x < fP f) (hw : Wf s) : CallWP P ro 76 [.agg (.mk (mxc f)), .int .u64 x] s K = K (.int .u64 (fPow f x (fExp f))) s := by
  refine callEq (call_wp b76 rfl ?_) K
  rw [n76]
  unfold v76
  simp (maxSteps := 10000000) only [wW, reduceCtorEq, Nat.reduceEqDiff]
  refine box_rule hw.ent fun M s1 m1 => ?_
  have hM : s1.at M = some (.cells (mxc f) 79 false) := m1.here
  have hp := fP_pos hv
  have hl := fP_lt f
  have b1 := mul_lt30 h0 (by omega) h0 (by omega)
  have c1 := mod_bounds (a := x * x) hp
  have b2 := mul_lt30 c1.1 (by omega) c1.1 (by omega)
  have c2 := mod_bounds (a := x * x % fP f * (x * x % fP f)) hp
  have b3 := mul_lt30 c2.1 (by omega) h0 (by omega)
  have b4 := mul_lt30 c1.1 (by omega) h0 (by omega)
  have r : ∀ a : Int, 0 ≤ a → abinInt P .rem .u64 a .u64 (fP f) = some (.int .u64 (a % fP f)) := fun a ha => by rw [int_rem keq_u64 _ _ (by omega), tmod_nonneg ha]
  simp (maxSteps := 10000000) only [wW, reduceCtorEq, Nat.reduceEqDiff, wL, Nat.reduceAdd, mfa0, mfa2, acells_some hM, mx0, mx2]
  rw [wrap_u64 (n := x * x) (by omega) (by omega), r _ b1.1, wopt_some]
  have hE : fPow f x (fExp f) = x ^ (fExp f).toNat % fP f := by unfold fPow; rw [if_pos hv]
  by_cases h5 : fExp f = 5
  · rw [if_pos h5]
    simp (maxSteps := 10000000) only [wW, reduceCtorEq, Nat.reduceEqDiff, wL, Nat.reduceAdd, mfa0, acells_some hM, mx0]
    rw [wrap_u64 (n := x * x % fP f * (x * x % fP f)) (by omega) (by omega), r _ b2.1, wopt_some]
    simp (maxSteps := 10000000) only [wW, reduceCtorEq, Nat.reduceEqDiff, wL, Nat.reduceAdd, mfa0, acells_some hM, mx0]
    rw [wrap_u64 (n := x * x % fP f * (x * x % fP f) % fP f * x) (by omega) (by omega), r _ b3.1, wopt_some]
    refine fin_flat rfl m1.grew ⟨?_, rfl⟩
    rw [hE, h5, mulL]
    have e : x * x % fP f * (x * x % fP f) * x % fP f = x * x * (x * x) * x % fP f := by rw [Int.mul_emod, ← Int.mul_emod (x * x) (x * x), ← Int.mul_emod]
    rw [e]
    have e2 : x ^ (5 : Int).toNat = x * x * (x * x) * x := by
      show x ^ 5 = _
      rw [Int.pow_succ, Int.pow_succ, Int.pow_succ, Int.pow_succ, Int.pow_succ, Int.pow_zero, Int.one_mul]
      simp only [Int.mul_assoc]
    rw [e2]
  · have h3 : fExp f = 3 := by rcases fV_cases hv with rfl | rfl | rfl | rfl <;> first | rfl | exact absurd rfl h5
    rw [if_neg h5]
    simp (maxSteps := 10000000) only [wW, reduceCtorEq, Nat.reduceEqDiff, wL, Nat.reduceAdd, mfa0, acells_some hM, mx0]
    rw [wrap_u64 (n := x * x % fP f * x) (by omega) (by omega), r _ b4.1, wopt_some]
    refine fin_flat rfl m1.grew ⟨?_, rfl⟩
    rw [hE, h3, mulL]
    have e2 : x ^ (3 : Int).toNat = x * x * x := by
      show x ^ 3 = _
      rw [Int.pow_succ, Int.pow_succ, Int.pow_succ, Int.pow_zero, Int.one_mul]
    rw [e2]
theorem red4_len (f : Int) (j : Nat) (l : List Int) : (red4 f j l).length = l.length := List.length_set
theorem stJ_len (f k : Int) (j : Nat) (l : List Int) : (stJ f k j l).length = l.length := List.length_set
theorem wReduced (f : Int) (hv : fV f = true) {l : List Int} (hl : l.length = 4) (hnn : ∀ x ∈ l, 0 ≤ x) (hw : Wf s) (hro : ro ≤ s.n) : CallWP P ro 71 [.agg (.mk (mxc f)), .agg (.mk (u4 l))] s K = K (.agg (.mk (u4 (it (red4 f) 4 l)))) s := by
  refine callEq (call_wp b71 rfl ?_) K
  rw [n71]
  unfold v71
  simp (maxSteps := 10000000) only [wW, reduceCtorEq, Nat.reduceEqDiff]
  refine box_rule hw.ent fun M s1 m1 => ?_
  refine box_rule m1.wf fun S s2 m2 => ?_
  refine alloc_rule ty_39 m2.wf fun R s3 m3 => ?_
  have e1 := m1.eq
  have e2 := m2.eq
  have e3 := m3.eq
  have n1 := m1.n
  have n2 := m2.n
  have hn0 : (ent s).n = s.n := rfl
  have hp := fP_pos hv
  have g3 := m1.grew.trans (m2.grew.trans m3.grew)
  have hM : s3.at M = some (.cells (mxc f) 79 false) := (m3.grew.same M (by omega)).trans ((m2.grew.same M (by omega)).trans m1.here)
  have hS : s3.at S = some (.cells (u4 l) 39 false) := (m3.grew.same S (by omega)).trans m2.here
  have hR : ∃ c, s3.at R = some (.cells c 39 false) ∧ c.length = 4 := ⟨_, m3.here, rfl⟩
  have rnn : ∀ j, ∀ x ∈ it (red4 f) j l, (0 : Int) ≤ x := it_nn (fun j l h => nn_set h (mod_bounds hp).1) hnn
  refine wloop l71_10100 m71_10100 (fun (j : Nat) τ ds s' => j ≤ 4 ∧ τ 2 = ptr M ∧ τ 3 = ptr S ∧ τ 4 = ptr R ∧ τ 6 = .int .i64 j ∧ ds = [] ∧ Vec (ent s) s' S (it (red4 f) j l) ∧ s'.at M = some (.cells (mxc f) 79 false) ∧ ∃ c, s'.at R = some (.cells c 39 false) ∧ c.length = 4) (fun j => 4 - j) ?_ 0 ⟨by omega, rfl, rfl, rfl, rfl, rfl, ⟨hS, by omega, m3.wf, g3⟩, hM, hR⟩
  rintro j τ ds s' ⟨hj, t2, t3, t4, t6, rfl, v, hM', c, hRc, hcl⟩
  rw [n71_10100]
  unfold v71_10100
  have hlj : (it (red4 f) j l).length = 4 := by rw [it_len (red4_len f), hl]
  by_cases hj4 : j < 4
  · have hb : acells (s'.at S) = some (u4 (it (red4 f) j l)) := acells_some v.here
    have hi : ∀ z : Int, veq (.int .u64 z) (.int .u64 z) = true := fun z => by simp [veq]
    simp (maxSteps := 10000000) only [wW, reduceCtorEq, Nat.reduceEqDiff, wL, Nat.reduceAdd, t2, t3, t6, six S 0 hj4, hb, u4_get (show j < (it (red4 f) j l).length by omega), mfa0, acells_some hM', mx0, hi, true_and]
    rw [if_pos (by omega), int_rem keq_u64 _ _ (by omega), wopt_some, tmod_nonneg (at0_nn (rnn j) _)]
    refine v.store hw.ent hro (by omega) fun s4 v4 r4 => ?_
    rw [wrap_i64 (by omega) (by omega)]
    refine ⟨j + 1, by omega, by omega, ?_, ?_, ?_, ?_, v4, (r4 M (by omega)).trans hM', c, (r4 R (by omega)).trans hRc, hcl⟩
    · simp only [U, tset_eq, wW, reduceCtorEq, Nat.reduceEqDiff, t2]
    · simp only [U, tset_eq, wW, reduceCtorEq, Nat.reduceEqDiff, t3]
    · simp only [U, tset_eq, wW, reduceCtorEq, Nat.reduceEqDiff, t4]
    · simp only [U, tset_eq, wW, reduceCtorEq, Nat.reduceEqDiff]; rfl
  · obtain rfl : j = 4 := by omega
    simp (maxSteps := 10000000) only [wW, reduceCtorEq, Nat.reduceEqDiff, t6]
    rw [if_neg (by omega)]
    have hle : (u4 (it (red4 f) 4 l)).length = 4 := by rw [u4_len]; exact hlj
    simp (maxSteps := 10000000) only [U, tset_eq, wW, reduceCtorEq, Nat.reduceEqDiff, t3, t4]
    refine load_rule (load_all ap_39 v.here hle) ?_
    refine storeAll_rule isz_39 hRc hle (by decide) v.wf (by omega) hcl (u4_one _) fun s7 p7 => ?_
    refine load_rule (load_all ap_39 p7.here hle) ?_
    exact fin_flat (u4_flat hlj) (p7.grew _ hw.ent v.grew (by omega)) ⟨rfl, rfl⟩
end
end Go.VE
/- The program's sponge: Round. -/
namespace Go.VE
open Go Go.Proofs
set_option maxRecDepth 20000
theorem fGen_bounds (f : Int) : 0 ≤ fGen f ∧ fGen f < 2 ^ 30 := by
  unfold fGen
  split
  · decide
  · split
    · decide
    · split <;> decide
theorem fPow_lt {f : Int} (hv : fV f = true) (a n : Int) : 0 ≤ fPow f a n ∧ fPow f a n < fP f := by
  unfold fPow
  rw [if_pos hv]
  exact mod_bounds (fP_pos hv)
theorem kJ_lt {f k : Int} (hv : fV f = true) (hk : 0 ≤ k ∧ k < fP f) : ∀ j, 0 ≤ kJ f k j ∧ kJ f k j < fP f
  | 0 => hk
  | _ + 1 => mod_bounds (fP_pos hv)
theorem stJ_rng {f k : Int} (hv : fV f = true) {l : List Int} (h : ∀ x ∈ l, 0 ≤ x ∧ x < fP f) : ∀ j, ∀ x ∈ it (stJ f k) j l, 0 ≤ x ∧ x < fP f
  | 0 => h
  | j + 1 => fun x hx => by
    rw [it] at hx
    unfold stJ at hx
    rcases List.mem_or_eq_of_mem_set hx with hx | rfl
    · exact stJ_rng hv h j x hx
    · exact fPow_lt hv _ _
theorem at0_rng {p : Int} {l : List Int} (hp : 0 < p) (h : ∀ x ∈ l, 0 ≤ x ∧ x < p) (i : Int) : 0 ≤ at0 l i ∧ at0 l i < p := by
  unfold at0
  cases hx : l[i.toNat]? with
  | none => exact ⟨Int.le_refl _, hp⟩
  | some x => exact h x (List.mem_of_getElem? hx)
def mixL (f : Int) (l : List Int) : List Int := [mixT f (at0 l 0) (at0 l 1) (at0 l 2) (at0 l 3) (at0 l 0, at0 l 1), mixT f (at0 l 0) (at0 l 1) (at0 l 2) (at0 l 3) (at0 l 1, at0 l 2), mixT f (at0 l 0) (at0 l 1) (at0 l 2) (at0 l 3) (at0 l 2, at0 l 3), mixT f (at0 l 0) (at0 l 1) (at0 l 2) (at0 l 3) (at0 l 3, at0 l 0)]
theorem wrapSums {z0 z1 z2 z3 : Int} (h0 : 0 ≤ z0 ∧ z0 < 2 ^ 30) (h1 : 0 ≤ z1 ∧ z1 < 2 ^ 30) (h2 : 0 ≤ z2 ∧ z2 < 2 ^ 30) (h3 : 0 ≤ z3 ∧ z3 < 2 ^ 30) : (IntKind.u64.wrap (z0 + z1) = z0 + z1) ∧ (IntKind.u64.wrap (z0 + z1 + z2) = z0 + z1 + z2) ∧ (IntKind.u64.wrap (z0 + z1 + z2 + z3) = z0 + z1 + z2 + z3) ∧ (IntKind.u64.wrap (z0 + z1 + z2 + z3 + z0) = z0 + z1 + z2 + z3 + z0) ∧ (IntKind.u64.wrap (z0 + z1 + z2 + z3 + z1) = z0 + z1 + z2 + z3 + z1) ∧ (IntKind.u64.wrap (z0 + z1 + z2 + z3 + z2) = z0 + z1 + z2 + z3 + z2) ∧ (IntKind.u64.wrap (z0 + z1 + z2 + z3 + z3) = z0 + z1 + z2 + z3 + z3) ∧ (IntKind.u64.wrap (2 * z0) = 2 * z0) ∧ (IntKind.u64.wrap (2 * z1) = 2 * z1) ∧ (IntKind.u64.wrap (2 * z2) = 2 * z2) ∧ (IntKind.u64.wrap (2 * z3) = 2 * z3) ∧ (IntKind.u64.wrap (z0 + z1 + z2 + z3 + z0 + 2 * z1) = z0 + z1 + z2 + z3 + z0 + 2 * z1) ∧ (IntKind.u64.wrap (z0 + z1 + z2 + z3 + z1 + 2 * z2) = z0 + z1 + z2 + z3 + z1 + 2 * z2) ∧ (IntKind.u64.wrap (z0 + z1 + z2 + z3 + z2 + 2 * z3) = z0 + z1 + z2 + z3 + z2 + 2 * z3) ∧ (IntKind.u64.wrap (z0 + z1 + z2 + z3 + z3 + 2 * z0) = z0 + z1 + z2 + z3 + z3 + 2 * z0) := by
  have w : ∀ z : Int, 0 ≤ z → z < 2 ^ 40 → IntKind.u64.wrap z = z := fun z a b => wrap_u64 a (by omega)
  refine ⟨w _ ?_ ?_, w _ ?_ ?_, w _ ?_ ?_, w _ ?_ ?_, w _ ?_ ?_, w _ ?_ ?_, w _ ?_ ?_, w _ ?_ ?_, w _ ?_ ?_, w _ ?_ ?_, w _ ?_ ?_, w _ ?_ ?_, w _ ?_ ?_, w _ ?_ ?_, w _ ?_ ?_⟩ <;> omega
section
variable {ro : Nat} {s : St} {K : Value → St → Prop}
theorem wMround (f : Int) (hv : fV f = true) {k : Int} (hk : 0 ≤ k ∧ k < fP f) {l : List Int} (hl : l.length = 4) (hr : ∀ x ∈ l, 0 ≤ x ∧ x < fP f) (hw : Wf s) (hro : ro ≤ s.n) :
    CallWP P ro 69 [.agg (.mk (mxc f)), .int .u64 k, .agg (.mk (u4 l))] s K = K (.tuple (.mk [.int .u64 (kJ f k 4), .agg (.mk (u4 (mixL f (it (stJ f k) 4 l))))])) s := by
  refine callEq (call_wp b69 rfl ?_) K
  rw [n69]
  unfold v69
  simp (maxSteps := 10000000) only [wW, reduceCtorEq, Nat.reduceEqDiff]
  refine box_rule hw.ent fun M s1 m1 => ?_
  refine box_rule m1.wf fun S s2 m2 => ?_
  refine alloc_rule ty_39 m2.wf fun R s3 m3 => ?_
  have e1 := m1.eq
  have e2 := m2.eq
  have e3 := m3.eq
  have n1 := m1.n
  have n2 := m2.n
  have hn0 : (ent s).n = s.n := rfl
  have hp := fP_pos hv
  have hpl := fP_lt f
  have hg := fGen_bounds f
  have g3 := m1.grew.trans (m2.grew.trans m3.grew)
  have hM : s3.at M = some (.cells (mxc f) 79 false) := (m3.grew.same M (by omega)).trans ((m2.grew.same M (by omega)).trans m1.here)
  have hS : s3.at S = some (.cells (u4 l) 39 false) := (m3.grew.same S (by omega)).trans m2.here
  have hR : ∃ c, s3.at R = some (.cells c 39 false) ∧ c.length = 4 := ⟨_, m3.here, rfl⟩
  have hi : ∀ z : Int, veq (.int .u64 z) (.int .u64 z) = true := fun z => by simp [veq]
  refine wloop l69_10100 m69_10100 (fun (j : Nat) τ ds s' => j ≤ 4 ∧ τ 1 = .int .u64 (kJ f k j) ∧ τ 3 = ptr M ∧ τ 5 = ptr S ∧ τ 7 = ptr R ∧ τ 10 = .int .i64 j ∧ ds = [] ∧ Vec (ent s) s' S (it (stJ f k) j l) ∧ s'.at M = some (.cells (mxc f) 79 false) ∧ ∃ c, s'.at R = some (.cells c 39 false) ∧ c.length = 4) (fun j => 4 - j) ?_ 0 ⟨by omega, rfl, rfl, rfl, rfl, rfl, rfl, ⟨hS, by omega, m3.wf, g3⟩, hM, hR⟩
  rintro j τ ds s' ⟨hj, t1, t3, t5, t7, t10, rfl, v, hM', c, hRc, hcl⟩
  rw [n69_10100]
  unfold v69_10100
  have hlj : (it (stJ f k) j l).length = 4 := by rw [it_len (stJ_len f k), hl]
  have hrj := stJ_rng (k := k) hv hr j
  by_cases hj4 : j < 4
  · have hb : acells (s'.at S) = some (u4 (it (stJ f k) j l)) := acells_some v.here
    have hkj := kJ_lt hv hk j
    have hm := mul_lt30 hkj.1 (by omega) hg.1 hg.2
    have hk1 := kJ_lt hv hk (j + 1)
    have hkd : kJ f k j * fGen f % fP f = kJ f k (j + 1) := rfl
    have hst : it (stJ f k) (j + 1) l = (it (stJ f k) j l).set j (fPow f ((at0 (it (stJ f k) j l) j + kJ f k (j + 1) + 7) % fP f) (fExp f)) := rfl
    have ha := at0_rng hp hrj j
    simp (maxSteps := 10000000) only [wW, reduceCtorEq, Nat.reduceEqDiff, wL, Nat.reduceAdd, t1, t3, t5, t10, mfa0, mfa1, acells_some hM', mx0, mx1]
    rw [if_pos (by omega), wrap_u64 (n := kJ f k j * fGen f) (by omega) (by omega), int_rem keq_u64 _ _ (by omega), wopt_some, tmod_nonneg hm.1, hkd]
    rw [load_all ap_79 hM' rfl, wopt_some]
    refine ⟨mxVeq f, ?_⟩
    simp (maxSteps := 10000000) only [wW, reduceCtorEq, Nat.reduceEqDiff, wL, Nat.reduceAdd, six S 0 hj4, Nat.zero_add, hb, u4_get (show j < (it (stJ f k) j l).length by omega), hi, true_and, mfa0, acells_some hM', mx0]
    rw [wrap_u64 (n := at0 (it (stJ f k) j l) j + kJ f k (j + 1)) (by omega) (by omega), wrap_u64 (n := at0 (it (stJ f k) j l) j + kJ f k (j + 1) + 7) (by omega) (by omega), int_rem keq_u64 _ _ (by omega), wopt_some, tmod_nonneg (by omega)]
    have hmb := mod_bounds (a := at0 (it (stJ f k) j l) j + kJ f k (j + 1) + 7) hp
    rw [wPower f hv hmb.1 hmb.2 v.wf]
    refine v.store hw.ent hro (by omega) fun s4 v4 r4 => ?_
    rw [← hst] at v4
    rw [wrap_i64 (by omega) (by omega)]
    refine ⟨j + 1, by omega, by omega, ?_, ?_, ?_, ?_, ?_, v4, (r4 M (by omega)).trans hM', c, (r4 R (by omega)).trans hRc, hcl⟩
    · simp only [U, tset_eq, wW, reduceCtorEq, Nat.reduceEqDiff]
    · simp only [U, tset_eq, wW, reduceCtorEq, Nat.reduceEqDiff, t3]
    · simp only [U, tset_eq, wW, reduceCtorEq, Nat.reduceEqDiff, t5]
    · simp only [U, tset_eq, wW, reduceCtorEq, Nat.reduceEqDiff, t7]
    · simp only [U, tset_eq, wW, reduceCtorEq, Nat.reduceEqDiff]; rfl
  · obtain rfl : j = 4 := by omega
    simp (maxSteps := 10000000) only [wW, reduceCtorEq, Nat.reduceEqDiff, t10]
    rw [if_neg (by omega)]
    generalize it (stJ f k) 4 l = q at v hlj hrj ⊢
    have hRro : ro ≤ R := by omega
    have hRn : (ent s).n ≤ R := by omega
    have hb : acells (s'.at S) = some (u4 q) := acells_some v.here
    have q0 : (u4 q)[0]? = some (.int .u64 (at0 q 0)) := u4_get (l := q) (i := 0) (by omega)
    have q1 : (u4 q)[1]? = some (.int .u64 (at0 q 1)) := u4_get (l := q) (i := 1) (by omega)
    have q2 : (u4 q)[2]? = some (.int .u64 (at0 q 2)) := u4_get (l := q) (i := 2) (by omega)
    have q3 : (u4 q)[3]? = some (.int .u64 (at0 q 3)) := u4_get (l := q) (i := 3) (by omega)
    have a0 := at0_rng hp hrj 0
    have a1 := at0_rng hp hrj 1
    have a2 := at0_rng hp hrj 2
    have a3 := at0_rng hp hrj 3
    have x0 : aindexAddr P 39 (ptr S) (.int .i64 0) = some (.pointer (some ⟨S, 0, none⟩)) := six S 0 (k := 0) (by decide)
    have x1 : aindexAddr P 39 (ptr S) (.int .i64 1) = some (.pointer (some ⟨S, 1, none⟩)) := six S 0 (k := 1) (by decide)
    have x2 : aindexAddr P 39 (ptr S) (.int .i64 2) = some (.pointer (some ⟨S, 2, none⟩)) := six S 0 (k := 2) (by decide)
    have x3 : aindexAddr P 39 (ptr S) (.int .i64 3) = some (.pointer (some ⟨S, 3, none⟩)) := six S 0 (k := 3) (by decide)
    have hml : mixL f q = [mixT f (at0 q 0) (at0 q 1) (at0 q 2) (at0 q 3) (at0 q 0, at0 q 1), mixT f (at0 q 0) (at0 q 1) (at0 q 2) (at0 q 3) (at0 q 1, at0 q 2), mixT f (at0 q 0) (at0 q 1) (at0 q 2) (at0 q 3) (at0 q 2, at0 q 3), mixT f (at0 q 0) (at0 q 1) (at0 q 2) (at0 q 3) (at0 q 3, at0 q 0)] := rfl
    rw [hml]
    generalize at0 q 0 = z0 at *
    generalize at0 q 1 = z1 at *
    generalize at0 q 2 = z2 at *
    generalize at0 q 3 = z3 at *
    have r : ∀ a : Int, 0 ≤ a → abinInt P .rem .u64 a .u64 (fP f) = some (.int .u64 (a % fP f)) := fun a ha => by rw [int_rem keq_u64 _ _ (by omega), tmod_nonneg ha]
    obtain ⟨w1, w2, w3, v0, v1, v2, v3, d0, d1, d2, d3, y0, y1, y2, y3⟩ := wrapSums (z0 := z0) (z1 := z1) (z2 := z2) (z3 := z3) (by omega) (by omega) (by omega) (by omega)
    simp (maxSteps := 10000000) only [U, tset_eq, wW, reduceCtorEq, Nat.reduceEqDiff, wL, Nat.reduceAdd, t1, t3, t5, t7, x0, x1, x2, x3, hb, q0, q1, q2, q3, hi, true_and, mfa0, acells_some hM', mx0, w1, w2, w3, v0, v1, v2, v3, d0, d1, d2, d3, y0, y1, y2, y3]
    have nn : ∀ a b : Int, 0 ≤ a → 0 ≤ b → 0 ≤ a + b := fun _ _ => Int.add_nonneg
    have r0 := r (z0 + z1 + z2 + z3 + z0 + 2 * z1) (nn _ _ (nn _ _ (nn _ _ (nn _ _ (nn _ _ a0.1 a1.1) a2.1) a3.1) a0.1) (Int.mul_nonneg (by decide) a1.1))
    have r1 := r (z0 + z1 + z2 + z3 + z1 + 2 * z2) (nn _ _ (nn _ _ (nn _ _ (nn _ _ (nn _ _ a0.1 a1.1) a2.1) a3.1) a1.1) (Int.mul_nonneg (by decide) a2.1))
    have r2 := r (z0 + z1 + z2 + z3 + z2 + 2 * z3) (nn _ _ (nn _ _ (nn _ _ (nn _ _ (nn _ _ a0.1 a1.1) a2.1) a3.1) a2.1) (Int.mul_nonneg (by decide) a3.1))
    have r3 := r (z0 + z1 + z2 + z3 + z3 + 2 * z0) (nn _ _ (nn _ _ (nn _ _ (nn _ _ (nn _ _ a0.1 a1.1) a2.1) a3.1) a3.1) (Int.mul_nonneg (by decide) a0.1))
    simp (maxSteps := 10000000) only [wW, reduceCtorEq, Nat.reduceEqDiff, wL, Nat.reduceAdd, r0, r1, r2, r3, x0, x1, x2, x3, hb, q0, q1, q2, q3, hi, true_and, mfa0, acells_some hM', mx0, build4u]
    simp only [mixT]
    generalize (z0 + z1 + z2 + z3 + z0 + 2 * z1) % fP f = T0
    generalize (z0 + z1 + z2 + z3 + z1 + 2 * z2) % fP f = T1
    generalize (z0 + z1 + z2 + z3 + z2 + 2 * z3) % fP f = T2
    generalize (z0 + z1 + z2 + z3 + z3 + 2 * z0) % fP f = T3
    refine storeAll_rule isz_39 hRc (l := u4 [T0, T1, T2, T3]) rfl (by decide) v.wf hRro hcl (u4_one _) fun s7 p7 => ?_
    rw [acells_some p7.here, wopt_some, cut_all (l := u4 [T0, T1, T2, T3]) (n := 4) rfl, wopt_some]
    exact fin_flat rfl (p7.grew _ hw.ent v.grew hRn) ⟨rfl, rfl⟩
theorem mixL_round {f : Int} (hv : fV f = true) {r : Int} (hr : 0 ≤ r) {l : List Int} (hl : l.length = 4) : mixL f (it (stJ f (fPow f (fGen f) (4 * r))) 4 (it (red4 f) 4 l)) = roundM f r l := by
  rw [stJ_out hv hr hl, roundM_out hv r hl]
  rfl
theorem red4_rng {f : Int} (hv : fV f = true) {l : List Int} (hl : l.length = 4) : ∀ x ∈ it (red4 f) 4 l, 0 ≤ x ∧ x < fP f := by
  obtain ⟨a, b, c, d, rfl⟩ := len4' hl
  have hA : it (red4 f) 4 [a, b, c, d] = [a % fP f, b % fP f, c % fP f, d % fP f] := rfl
  rw [hA]
  intro x hx
  simp only [List.mem_cons, List.not_mem_nil, or_false] at hx
  rcases hx with rfl | rfl | rfl | rfl <;> exact mod_bounds (fP_pos hv)
theorem wsRound (f : Int) (hv : fV f = true) {r : Int} (hr : 0 ≤ r ∧ r ≤ 7) {l : List Int} (hl : l.length = 4) (hnn : ∀ x ∈ l, 0 ≤ x) (hw : Wf s) (hro : ro ≤ s.n) (hG : FieldsAt s) (hr0 : 0 < ro) :
    CallWP P ro 54 [.int .i64 f, .int .i64 r, .agg (.mk (u4 l))] s K = K (.agg (.mk (u4 (roundM f r l)))) s := by
  refine callEq (call_wp b54 rfl ?_) K
  rw [n54]
  unfold v54
  simp (maxSteps := 10000000) only [wW, reduceCtorEq, Nat.reduceEqDiff]
  refine box_rule hw.ent fun A s1 m1 => ?_
  refine alloc_rule ty_39 m1.wf fun R s2 m2 => ?_
  have e1 := m1.eq
  have e2 := m2.eq
  have n1 := m1.n
  have n2 := m2.n
  have hn0 : (ent s).n = s.n := rfl
  rw [wKnown, hv, decide_eq_true hr.1, decide_eq_true (show r < 8 by omega)]
  simp (maxSteps := 10000000) only [wW, reduceCtorEq, Nat.reduceEqDiff, Bool.true_and]
  have hG2 : FieldsAt s2 := FieldsAt.grew (FieldsAt.grew (s := ent s) hG m1.grew) m2.grew
  rw [wIn f m2.wf (by omega) hG2 hr0]
  refine alloc_rule ty_79 m2.wf fun M s3 m3 => ?_
  have e3 := m3.eq
  have n3 := m3.n
  refine storeAll_rule isz_79 m3.here (l := mxc f) rfl (by decide) m3.wf (by omega) rfl rfl fun s4 p4 => ?_
  have n4 := p4.n
  have keep4 : ∀ B, B < s2.n → s4.at B = s2.at B := fun B hB => (p4.rest B (by omega)).trans (m3.grew.same B hB)
  have hA4 : s4.at A = some (.cells (u4 l) 39 false) := (keep4 A (by omega)).trans ((m2.grew.same A (by omega)).trans m1.here)
  have hle : (u4 l).length = 4 := by rw [u4_len]; exact hl
  have hi : ∀ z : Int, veq (.int .u64 z) (.int .u64 z) = true := fun z => by simp [veq]
  have u4Veq : veq (.agg (.mk (u4 l))) (.agg (.mk (u4 l))) = true := by
    obtain ⟨a, b, c, d, rfl⟩ := len4' hl
    simp [veq, veqA, veqL, u4]
  rw [wop_load, load_all ap_79 p4.here rfl, wopt_some]
  refine ⟨mxVeq f, ?_⟩
  simp (maxSteps := 10000000) only [wW, reduceCtorEq, Nat.reduceEqDiff, wL, Nat.reduceAdd, mfa1, acells_some p4.here, mx1, hi, true_and]
  rw [wrap_i64 (by omega) (by omega), conv_int_u64, wrap_u64 (by omega) (by omega)]
  refine ⟨rfl, hi _, ?_⟩
  rw [load_all ap_79 p4.here rfl, wopt_some]
  refine ⟨mxVeq f, ?_⟩
  rw [acells_some hA4, wopt_some, cut_all hle, wopt_some]
  refine ⟨u4Veq, ?_⟩
  refine alloc_rule ty_39 p4.wf fun T s5 m5 => ?_
  have e5 := m5.eq
  have n5 := m5.n
  have hG5 : FieldsAt s5 := FieldsAt.grew (s := s4) (by
    obtain ⟨x0, x1, x2, x3, c0, c1, c2, c3, d0, d1, d2, d3, t, op, hf⟩ := hG2
    exact ⟨x0, x1, x2, x3, c0, c1, c2, c3, d0, d1, d2, d3, t, op, (keep4 0 (St.at_lt hf)).trans hf⟩) m5.grew
  have hg := fGen_bounds f
  refine ⟨m5.fresh (by kernel_rfl), ?_⟩
  rw [wfPow f hg.1 (by omega) (by omega) m5.wf (by omega) hG5]
  refine ⟨.refl _, ?_⟩
  rw [wReduced f hv hl hnn m5.wf (by omega)]
  refine ⟨.refl _, ?_⟩
  rw [wMround f hv (fPow_lt hv _ _) (by rw [it_len (red4_len f), hl]) (red4_rng hv hl) m5.wf (by omega), mixL_round hv hr.1 hl]
  refine ⟨.refl _, ?_⟩
  have hl2 := roundM_len f r l
  generalize roundM f r l = q at hl2 ⊢
  have hle2 : (u4 q).length = 4 := by rw [u4_len]; exact hl2
  simp (maxSteps := 10000000) only [wW, reduceCtorEq, Nat.reduceEqDiff, List.getElem?_cons_zero, List.getElem?_cons_succ]
  refine storeAll_rule isz_39 m5.here hle2 (by decide) m5.wf (by omega) rfl (u4_one _) fun s6 p6 => ?_
  have n6 := p6.n
  refine ⟨by omega, ?_⟩
  rw [load_all ap_39 p6.here hle2, wopt_some]
  have hR6 : s6.at R = _ := (p6.rest R (by omega)).trans ((m5.grew.same R (by omega)).trans ((keep4 R (by omega)).trans m2.here))
  refine storeAll_rule isz_39 hR6 hle2 (by decide) p6.wf (by omega) rfl (u4_one _) fun s7 p7 => ?_
  rw [acells_some p7.here, wopt_some, cut_all hle2, wopt_some]
  have g4 := p4.grew _ hw.ent (m1.grew.trans (m2.grew.trans m3.grew)) (by omega)
  exact fin_flat (u4_flat hl2) (p7.grew _ hw.ent (p6.grew _ hw.ent (g4.trans m5.grew) (by omega)) (by omega)) ⟨rfl, rfl⟩
end
end Go.VE
/- The program's gates: what a row reads, its sum, its round. -/
namespace Go.VE
open Go Go.Proofs
set_option maxRecDepth 20000
def rd0 (r : Row) : Bool := if r.k = 1 then decide (r.ql ≠ 0 ∨ r.qm ≠ 0) else decide (r.k = 2 ∨ r.k = 3)
def rd1 (r : Row) : Bool := if r.k = 1 then decide (r.qr ≠ 0 ∨ r.qm ≠ 0) else decide (r.k = 3)
def rd2 (r : Row) : Bool := if r.k = 1 then decide (r.qo ≠ 0) else decide (r.k = 3)
def rd3 (r : Row) : Bool := decide (r.k = 3)
def rdB (r : Row) : Nat → Bool
  | 0 => rd0 r
  | 1 => rd1 r
  | 2 => rd2 r
  | 3 => rd3 r
  | _ => false
def rdVs (r : Row) : List Value := [.bool (rd0 r), .bool (rd1 r), .bool (rd2 r), .bool (rd3 r)]
theorem bix0 (A o : Nat) : aindexAddr P 70 (.pointer (some ⟨A, o, none⟩)) (.int .i64 0) = some (.pointer (some ⟨A, o, none⟩)) := by kernel_rfl
theorem bix1 (A o : Nat) : aindexAddr P 70 (.pointer (some ⟨A, o, none⟩)) (.int .i64 1) = some (.pointer (some ⟨A, o + 1, none⟩)) := by kernel_rfl
theorem bix2 (A o : Nat) : aindexAddr P 70 (.pointer (some ⟨A, o, none⟩)) (.int .i64 2) = some (.pointer (some ⟨A, o + 2, none⟩)) := by kernel_rfl
theorem bix3 (A o : Nat) : aindexAddr P 70 (.pointer (some ⟨A, o, none⟩)) (.int .i64 3) = some (.pointer (some ⟨A, o + 3, none⟩)) := by kernel_rfl
theorem build4b (a b c d : Bool) : abuild P 70 (partVals .e [(0, .const (.bool a)), (1, .const (.bool b)), (2, .const (.bool c)), (3, .const (.bool d))]) = some (.agg (.mk [.bool a, .bool b, .bool c, .bool d])) := by kernel_rfl
theorem ai0 (a b c d : Bool) : aindex P 70 (.agg (.mk [.bool a, .bool b, .bool c, .bool d])) (.int .i64 0) = some (.bool a) := by kernel_rfl
theorem ai1 (a b c d : Bool) : aindex P 70 (.agg (.mk [.bool a, .bool b, .bool c, .bool d])) (.int .i64 1) = some (.bool b) := by kernel_rfl
theorem ai2 (a b c d : Bool) : aindex P 70 (.agg (.mk [.bool a, .bool b, .bool c, .bool d])) (.int .i64 2) = some (.bool c) := by kernel_rfl
theorem ai3 (a b c d : Bool) : aindex P 70 (.agg (.mk [.bool a, .bool b, .bool c, .bool d])) (.int .i64 3) = some (.bool d) := by kernel_rfl
theorem aiR (r : Row) {k : Nat} (hk : k < 4) : aindex P 70 (.agg (.mk (rdVs r))) (.int .i64 (k : Int)) = some (.bool (rdB r k)) := by
  match k, hk with
  | 0, _ => exact ai0 _ _ _ _
  | 1, _ => exact ai1 _ _ _ _
  | 2, _ => exact ai2 _ _ _ _
  | 3, _ => exact ai3 _ _ _ _
section
variable {ro : Nat} {s : St} {K : Value → St → Prop}
theorem wGreads (r : Row) (hw : Wf s) (hro : ro ≤ s.n) : CallWP P ro 63 [.agg (.mk r.cells)] s K = K (.agg (.mk (rdVs r))) s := by
  refine callEq (call_wp b63 rfl ?_) K
  rw [n63]
  unfold v63
  simp (maxSteps := 10000000) only [wW, reduceCtorEq, Nat.reduceEqDiff]
  refine box_rule hw.ent fun G s1 m1 => ?_
  refine alloc_rule ty_70 m1.wf fun R s2 m2 => ?_
  have e1 := m1.eq
  have e2 := m2.eq
  have n1 := m1.n
  have n2 := m2.n
  have hn0 : (ent s).n = s.n := rfl
  have g2 := m1.grew.trans m2.grew
  have hG : s2.at G = some (.cells r.cells 43 false) := (m2.grew.same G (by omega)).trans m1.here
  have hb := acells_some hG
  have hRo : ro ≤ R := by omega
  have hRn : (ent s).n ≤ R := by omega
  simp (maxSteps := 10000000) only [wW, reduceCtorEq, Nat.reduceEqDiff, wL, Nat.reduceAdd, hb]
  have fin : ∀ (a b c d : Bool), [Value.bool a, .bool b, .bool c, .bool d] = rdVs r → ∀ {s9 : St} {cs : List Value}, s9.at R = some (.cells cs 70 false) → cs.length = 4 → Wf s9 → Grew (ent s) s9 →
      wop P ro (.store 70 (.const (ptr R)) (.const (.agg (.mk [.bool a, .bool b, .bool c, .bool d])))) 0 s9 fun _ s' => wopt (aload P s' 70 (ptr R)) fun v => wfin s (fun v s' => v = .agg (.mk (rdVs r)) ∧ s' = s) v s' := fun a b c d he {s9 cs} hR hc hw9 hg9 => by
    refine storeAll_rule isz_70 hR (l := [.bool a, .bool b, .bool c, .bool d]) rfl (by decide) hw9 hRo hc rfl fun s7 p7 => ?_
    rw [load_all ap_70 p7.here rfl, wopt_some, he]
    exact fin_flat rfl (p7.grew _ hw.ent hg9 hRn) ⟨rfl, rfl⟩
  by_cases k1 : r.k = 1
  · rw [if_pos k1]
    simp (maxSteps := 10000000) only [wW, reduceCtorEq, Nat.reduceEqDiff, wL, Nat.reduceAdd, hb, build4b]
    by_cases h1 : r.ql = 0
    · rw [if_neg (by simpa using h1)]
      by_cases h2 : r.qr = 0
      · rw [if_neg (by simpa using h2)]
        exact fin _ _ _ _ (by simp [rdVs, rd0, rd1, rd2, rd3, k1, h1, h2]) m2.here rfl m2.wf g2
      · rw [if_pos h2]
        exact fin _ _ _ _ (by simp [rdVs, rd0, rd1, rd2, rd3, k1, h1, h2]) m2.here rfl m2.wf g2
    · rw [if_pos h1]
      by_cases h2 : r.qr = 0
      · rw [if_neg (by simpa using h2)]
        exact fin _ _ _ _ (by simp [rdVs, rd0, rd1, rd2, rd3, k1, h1, h2]) m2.here rfl m2.wf g2
      · rw [if_pos h2]
        exact fin _ _ _ _ (by simp [rdVs, rd0, rd1, rd2, rd3, k1, h1, h2]) m2.here rfl m2.wf g2
  · rw [if_neg k1]
    simp (maxSteps := 10000000) only [wW, reduceCtorEq, Nat.reduceEqDiff, wL, Nat.reduceAdd, bix0, bix1, bix2, bix3, Nat.zero_add]
    by_cases k3 : r.k = 3
    · rw [if_pos k3]
      refine store1_rule isz_4 m2.here m2.wf hRo (by decide) rfl fun s3 p3 => ?_
      refine store1_rule isz_4 p3.here p3.wf hRo (by decide) rfl fun s4 p4 => ?_
      refine store1_rule isz_4 p4.here p4.wf hRo (by decide) rfl fun s5 p5 => ?_
      refine store1_rule isz_4 p5.here p5.wf hRo (by decide) rfl fun s6 p6 => ?_
      have h6 : s6.at R = some (.cells [.bool true, .bool true, .bool true, .bool true] 70 false) := p6.here
      have g6 := p6.grew _ hw.ent (p5.grew _ hw.ent (p4.grew _ hw.ent (p3.grew _ hw.ent g2 hRn) hRn) hRn) hRn
      rw [load_all ap_70 h6 rfl, wopt_some]
      exact fin true true true true (by simp [rdVs, rd0, rd1, rd2, rd3, k3]) h6 rfl p6.wf g6
    · rw [if_neg k3]
      by_cases k2 : r.k = 2
      · rw [if_pos k2]
        refine store1_rule isz_4 m2.here m2.wf hRo (by decide) rfl fun s6 p6 => ?_
        have h6 : s6.at R = some (.cells [.bool true, .bool false, .bool false, .bool false] 70 false) := p6.here
        rw [load_all ap_70 h6 rfl, wopt_some]
        exact fin true false false false (by simp [rdVs, rd0, rd1, rd2, rd3, k2]) h6 rfl p6.wf (p6.grew _ hw.ent g2 hRn)
      · rw [if_neg k2]
        have h6 : s2.at R = some (.cells [.bool false, .bool false, .bool false, .bool false] 70 false) := m2.here
        rw [load_all ap_70 h6 rfl, wopt_some]
        exact fin false false false false (by simp [rdVs, rd0, rd1, rd2, rd3, k1, k2, k3]) h6 rfl m2.wf g2
def wireM (r : Row) (vals : List Int) (i : Nat) : Int := if rdB r i = true then at0 vals (r.w i) else 0
theorem wWire (r : Row) {u : Value} {vals : List Int} (hu : U64s s u vals) {i : Nat} (hi : i < 4) (hf : rdB r i = true → 0 ≤ r.w i ∧ r.w i < vals.length) (hw : Wf s) (hro : ro ≤ s.n) : CallWP P ro 50 [.agg (.mk r.cells), u, .int .i64 i] s K = K (.int .u64 (wireM r vals i)) s := by
  refine callEq (call_wp b50 rfl ?_) K
  rw [n50]
  unfold v50
  simp (maxSteps := 10000000) only [wW, reduceCtorEq, Nat.reduceEqDiff]
  refine box_rule hw.ent fun G s1 m1 => ?_
  have e1 := m1.eq
  have n1 := m1.n
  have hn0 : (ent s).n = s.n := rfl
  have hG : s1.at G = some (.cells r.cells 43 false) := m1.here
  have hb := acells_some hG
  have hu1 : U64s s1 u vals := (Sl.ent hu).grew m1.grew.same
  rw [wop_load, load_all ap_43 hG rfl, wopt_some, wGreads r m1.wf (by omega), wop_index_agg, aiR r hi, wopt_some]
  simp (maxSteps := 10000000) only [wW, reduceCtorEq, Nat.reduceEqDiff]
  unfold wireM
  cases h : rdB r i with
  | false =>
    simp (maxSteps := 10000000) only [wW, reduceCtorEq, Nat.reduceEqDiff]
    exact fin_flat rfl m1.grew ⟨rfl, rfl⟩
  | true =>
    have hx := hf h
    obtain ⟨A, o, c, q1, q2, q3⟩ := hu1.at1 hx.1 (at0_get hx.1 hx.2)
    have hbw := rcw r hi
    simp (maxSteps := 10000000) only [wW, reduceCtorEq, Nat.reduceEqDiff, wL, Nat.reduceAdd, hb, wix _ _ hi, hbw, q1, q2, q3]
    exact fin_flat rfl m1.grew ⟨rfl, rfl⟩
end
end Go.VE
/- The program's gates: a row's sum, its round, whether it holds. -/
namespace Go.VE
open Go Go.Proofs
set_option maxRecDepth 20000
theorem fAdd_assoc (f x y z : Int) : fAdd f x (fAdd f y z) = fAdd f (fAdd f x y) z := by
  unfold fAdd
  by_cases h : fV f = true
  · simp only [h, if_true]
    rw [Int.add_emod_emod, Int.emod_add_emod, Int.add_assoc]
  · simp only [h, if_false, Bool.false_eq_true]
theorem wire_A {r : Row} (h : r.k = 1) (vals : List Int) : wireM r vals 0 = sumA r vals := by
  unfold wireM sumA
  have e : rdB r 0 = decide (r.ql ≠ 0 ∨ r.qm ≠ 0) := by
    show rd0 r = _
    unfold rd0
    rw [if_pos h]
  rw [e]
  simp only [decide_eq_true_eq]
  rfl
theorem wire_B {r : Row} (h : r.k = 1) (vals : List Int) : wireM r vals 1 = sumB r vals := by
  unfold wireM sumB
  have e : rdB r 1 = decide (r.qr ≠ 0 ∨ r.qm ≠ 0) := by
    show rd1 r = _
    unfold rd1
    rw [if_pos h]
  rw [e]
  simp only [decide_eq_true_eq]
  rfl
theorem wire_C {r : Row} (h : r.k = 1) (vals : List Int) : wireM r vals 2 = if r.qo ≠ 0 then at0 vals r.w2 else 0 := by
  unfold wireM
  have e : rdB r 2 = decide (r.qo ≠ 0) := by
    show rd2 r = _
    unfold rd2
    rw [if_pos h]
  rw [e]
  simp only [decide_eq_true_eq]
  rfl
theorem wireM_nn {r : Row} {vals : List Int} (h : ∀ x ∈ vals, 0 ≤ x) (i : Nat) : 0 ≤ wireM r vals i := by
  unfold wireM
  split
  · exact at0_nn h _
  · exact Int.le_refl _
section
variable {ro : Nat} {s : St} {K : Value → St → Prop}
theorem wTotal (f : Int) {r : Row} (hk : r.k = 1) (hn : r.Nn) {u : Value} {vals : List Int} (hu : U64s s u vals) (hpos : ∀ x ∈ vals, 0 ≤ x) (ha : r.ql ≠ 0 ∨ r.qm ≠ 0 → 0 ≤ r.w0 ∧ r.w0 < vals.length) (hb : r.qr ≠ 0 ∨ r.qm ≠ 0 → 0 ≤ r.w1 ∧ r.w1 < vals.length) (hw : Wf s) (hro : ro ≤ s.n) (hG : FieldsAt s) :
    CallWP P ro 32 [.int .i64 f, .agg (.mk r.cells), u] s K = K (.int .u64 (sumM f r vals)) s := by
  refine callEq (call_wp b32 rfl ?_) K
  rw [n32]
  unfold v32
  simp (maxSteps := 10000000) only [wW, reduceCtorEq, Nat.reduceEqDiff]
  refine box_rule hw.ent fun G s1 m1 => ?_
  have e1 := m1.eq
  have n1 := m1.n
  have hn0 : (ent s).n = s.n := rfl
  have hC : s1.at G = some (.cells r.cells 43 false) := m1.here
  have hc := acells_some hC
  have hu1 : U64s s1 u vals := (Sl.ent hu).grew m1.grew.same
  have hG1 : FieldsAt s1 := FieldsAt.grew (s := ent s) hG m1.grew
  have h0 : rdB r 0 = true → 0 ≤ r.w 0 ∧ r.w 0 < vals.length := fun h => by
    have e : rd0 r = true := h
    unfold rd0 at e
    rw [if_pos hk, decide_eq_true_eq] at e
    exact ha e
  have h1 : rdB r 1 = true → 0 ≤ r.w 1 ∧ r.w 1 < vals.length := fun h => by
    have e : rd1 r = true := h
    unfold rd1 at e
    rw [if_pos hk, decide_eq_true_eq] at e
    exact hb e
  have hi : ∀ z : Int, veq (.int .u64 z) (.int .u64 z) = true := fun z => by simp [veq]
  have w0 : ∀ K : Value → St → Prop, CallWP P ro 50 [.agg (.mk r.cells), u, .int .i64 0] s1 K = K (.int .u64 (wireM r vals 0)) s1 := fun K => wWire r hu1 (i := 0) (by decide) h0 m1.wf (by omega)
  have w1 : ∀ K : Value → St → Prop, CallWP P ro 50 [.agg (.mk r.cells), u, .int .i64 1] s1 K = K (.int .u64 (wireM r vals 1)) s1 := fun K => wWire r hu1 (i := 1) (by decide) h1 m1.wf (by omega)
  have a0 := wireM_nn (r := r) hpos 0
  have a1 := wireM_nn (r := r) hpos 1
  rw [wop_load, load_all ap_43 hC rfl, wopt_some]
  refine ⟨rcVeq r, ?_⟩
  rw [wop_load, load_all ap_43 hC rfl, wopt_some]
  refine ⟨rcVeq r, ?_⟩
  show CallWP P ro 50 [.agg (.mk r.cells), u, .int .i64 0] s1 _
  rw [w0]
  refine ⟨.refl _, ?_⟩
  show CallWP P ro 50 [.agg (.mk r.cells), u, .int .i64 1] s1 _
  rw [w1]
  simp (maxSteps := 10000000) only [wW, reduceCtorEq, Nat.reduceEqDiff, wL, Nat.reduceAdd, hc, hi, true_and]
  rw [wfMul f hn.ql a0 m1.wf (by omega) hG1]
  refine ⟨.refl _, ?_⟩
  rw [wfMul f hn.qr a1 m1.wf (by omega) hG1, wfAdd f (fMul_bounds _ _ _).1 (fMul_bounds _ _ _).1 m1.wf (by omega) hG1]
  simp (maxSteps := 10000000) only [wW, reduceCtorEq, Nat.reduceEqDiff, wL, Nat.reduceAdd, hc, hi, true_and]
  rw [wfMul f a0 a1 m1.wf (by omega) hG1]
  refine ⟨.refl _, ?_⟩
  rw [wfMul f hn.qm (fMul_bounds _ _ _).1 m1.wf (by omega) hG1]
  refine ⟨.refl _, ?_⟩
  rw [wfAdd f (fMul_bounds _ _ _).1 hn.qc m1.wf (by omega) hG1, wfAdd f (fAdd_bounds _ _ _).1 (fAdd_bounds _ _ _).1 m1.wf (by omega) hG1]
  refine fin_flat rfl m1.grew ⟨?_, rfl⟩
  rw [fAdd_assoc, wire_A hk, wire_B hk]
  rfl
theorem wTurned (f : Int) (hv : fV f = true) {r : Row} (hrd : 0 ≤ r.rd ∧ r.rd ≤ 7) {u : Value} {vals : List Int} (hw : Wf s) (hro : ro ≤ s.n) (hG : FieldsAt s) (hr0 : 0 < ro) (hu : U64s s u vals) (hpos : ∀ x ∈ vals, 0 ≤ x) (hwi : ∀ k, k < 4 → 0 ≤ r.w k ∧ r.w k < vals.length) :
    CallWP P ro 29 [.int .i64 f, .agg (.mk r.cells), u] s K = K (.agg (.mk (u4 (roundM f r.rd (wv vals r))))) s := by
  refine callEq (call_wp b29 rfl ?_) K
  rw [n29]
  unfold v29
  simp (maxSteps := 10000000) only [wW, reduceCtorEq, Nat.reduceEqDiff]
  refine box_rule hw.ent fun G s1 m1 => ?_
  refine alloc_rule ty_39 m1.wf fun R s2 m2 => ?_
  refine alloc_rule ty_39 m2.wf fun S s3 m3 => ?_
  have e1 := m1.eq
  have e2 := m2.eq
  have e3 := m3.eq
  have n1 := m1.n
  have n2 := m2.n
  have n3 := m3.n
  have hn0 : (ent s).n = s.n := rfl
  have g3 := (m1.grew.trans m2.grew).trans m3.grew
  have hG3 : s3.at G = some (.cells r.cells 43 false) := (m3.grew.same G (by omega)).trans ((m2.grew.same G (by omega)).trans m1.here)
  have hR3 : s3.at R = _ := (m3.grew.same R (by omega)).trans m2.here
  refine wloop l29_110100 m29_110100 (fun (k : Nat) τ ds s' => k ≤ 4 ∧ τ 0 = .int .i64 f ∧ τ 2 = u ∧ τ 4 = ptr G ∧ τ 6 = ptr R ∧ τ 7 = ptr S ∧ τ 9 = .int .i64 k ∧ ds = [] ∧ Vec (ent s) s' S (it (setW vals r) k [0, 0, 0, 0]) ∧ ∀ B, B ≠ S → s'.at B = s3.at B) (fun k => 4 - k) ?_ 0 ⟨by omega, rfl, rfl, rfl, rfl, rfl, rfl, rfl, ⟨m3.here, by omega, m3.wf, g3⟩, fun _ _ => rfl⟩
  rintro k τ ds s' ⟨hk, h0, h2, h4, h6, h7, h9, rfl, v, old⟩
  rw [n29_110100]
  unfold v29_110100
  have hGc : acells (s'.at G) = some r.cells := acells_some ((old G (by omega)).trans hG3)
  have hu' : U64s s' u vals := (Sl.ent hu).grew v.grew.same
  by_cases hk4 : k < 4
  · have hx := hwi k hk4
    obtain ⟨A, o, c, q1, q2, q3⟩ := hu'.at1 hx.1 (at0_get hx.1 hx.2)
    have hb := rcw r hk4
    simp (maxSteps := 10000000) only [wW, reduceCtorEq, Nat.reduceEqDiff, wL, Nat.reduceAdd, h2, h4, h7, h9, wix _ _ hk4, six _ _ hk4, hGc, hb, q1, q2, q3]
    rw [if_pos (by omega)]
    refine v.store hw.ent hro (by rw [it_len (setW_len vals r)]; exact hk4) fun s4 v4 r4 => ?_
    rw [wrap_i64 (by omega) (by omega)]
    exact ⟨k + 1, by omega, by omega, h0, h2, h4, h6, h7, rfl, trivial, v4, fun B hB => (r4 B hB).trans (old B hB)⟩
  · obtain rfl : k = 4 := by omega
    have hS := v.here
    have hpw := wv_nn hpos r
    rw [wv_eq] at hS
    have hlw : (wv vals r).length = 4 := rfl
    have hle : (u4 (wv vals r)).length = 4 := rfl
    have hG' : FieldsAt s' := FieldsAt.grew (s := ent s) hG v.grew
    generalize wv vals r = q at hS hpw hlw hle ⊢
    simp (maxSteps := 10000000) only [wW, reduceCtorEq, Nat.reduceEqDiff, h9]
    rw [if_neg (by omega)]
    simp (maxSteps := 10000000) only [U, tset_eq, wW, reduceCtorEq, Nat.reduceEqDiff, wL, Nat.reduceAdd, h0, h4, h6, h7, hGc]
    rw [acells_some hS, wopt_some, cut_all hle, wopt_some]
    show CallWP P ro 54 [.int .i64 f, .int .i64 r.rd, .agg (.mk (u4 q))] s' _
    have hgn := v.grew.n
    rw [wsRound f hv hrd hlw hpw v.wf (by omega) hG' hr0]
    have hl2 := roundM_len f r.rd q
    generalize roundM f r.rd q = q2 at hl2 ⊢
    refine storeAll_rule isz_39 ((old R (by omega)).trans hR3) (show (u4 q2).length = 4 by rw [u4_len]; exact hl2) (by decide) v.wf (by omega) rfl (u4_one _) fun s7 p7 => ?_
    rw [acells_some p7.here, wopt_some, cut_all (show (u4 q2).length = 4 by rw [u4_len]; exact hl2), wopt_some]
    exact fin_flat (u4_flat hl2) (p7.grew _ hw.ent v.grew (by omega)) ⟨rfl, rfl⟩
end
end Go.VE
