/-
  What the functions compute.
-/
import Derived.Test.YteamclmopokioaaDoorWk1
set_option linter.unusedSimpArgs false
set_option linter.unusedVariables false
/- The reference of the gates: formed. -/
namespace Go.VE
open Go Go.Proofs
set_option maxRecDepth 20000
def Row.qs (r : Row) : List Int := [r.ql, r.qr, r.qm, r.qo, r.qc]

/-- A row has the numbers of its kind. -/
def Formed (f nv : Int) (r : Row) : Prop :=
  r.k ≤ 3 ∧ 0 ≤ r.rd ∧ r.rd ≤ 7 ∧ (r.k ≠ 3 → r.rd = 0) ∧ (∀ q ∈ r.qs, q < fP f ∧ (r.k ≠ 1 → q = 0)) ∧ (∀ k : Nat, k < 4 → -1 ≤ r.w k ∧ r.w k < nv) ∧ ∀ j ∈ rds r, 0 ≤ r.w j.toNat

instance (f nv : Int) (r : Row) : Decidable (Formed f nv r) := by unfold Formed; infer_instance

theorem rds_lt (r : Row) : ∀ j ∈ rds r, (0 : Int) ≤ j ∧ j < 4 := by
  intro j hj
  unfold rds at hj
  split at hj
  · simp only [List.mem_append] at hj
    rcases hj with (hj | hj) | hj
    · split at hj
      · simp only [List.mem_cons, List.not_mem_nil, or_false] at hj; omega
      · cases hj
    · split at hj
      · simp only [List.mem_cons, List.not_mem_nil, or_false] at hj; omega
      · cases hj
    · split at hj
      · simp only [List.mem_cons, List.not_mem_nil, or_false] at hj; omega
      · cases hj
  · split at hj
    · simp only [List.mem_cons, List.not_mem_nil, or_false] at hj; omega
    · split at hj
      · simp only [List.mem_cons, List.not_mem_nil, or_false] at hj; omega
      · cases hj

theorem rds_len (r : Row) : (rds r).length ≤ 4 := by
  unfold rds
  split
  · simp only [List.length_append]
    have h : ∀ (c : Prop) [Decidable c] (x : Int), (if c then [x] else []).length ≤ 1 := fun c _ x => by split <;> simp
    have h1 := h (r.ql ≠ 0 ∨ r.qm ≠ 0) 0
    have h2 := h (r.qr ≠ 0 ∨ r.qm ≠ 0) 1
    have h3 := h (r.qo ≠ 0) 2
    omega
  · split
    · simp
    · split <;> simp

section
variable {ro : Nat} {K : Value → St → Prop}
theorem wFormed (g : Gp) (r : Row) {s : St} {ur : Value} (hw : Wf s) (hro : ro ≤ s.n) : CallWP P ro 97 [.agg (.mk (g.cells ur)), .agg (.mk r.cells)] s K = K (.bool (decide (Formed g.f g.nv r))) s := by
  refine callEq (call_wp b97 rfl ?_) K
  rw [n97]
  unfold v97
  simp (maxSteps := 10000000) only [wW, Option.bind_some, Option.map_some, decide_eq_true_eq, Bool.not_eq_true', decide_eq_false_iff_not, Bool.not_true, Bool.not_false, ne_eq, if_true, if_false, reduceCtorEq, eq_self, Nat.zero_add, Nat.add_zero, not_false_eq_true, Nat.reduceEqDiff]
  refine box_rule hw.ent fun G s1 m1 => ?_
  refine box_rule m1.wf fun R s2 m2 => ?_
  have e1 := m1.eq
  have e2 := m2.eq
  have n1 := m1.n
  have n2 := m2.n
  have hn0 : (ent s).n = s.n := rfl
  have g2 := m1.grew.trans m2.grew
  have hG2 : s2.at G = some (.cells (g.cells ur) 34 false) := (m2.grew.same G (by omega)).trans m1.here
  have hR2 : s2.at R = some (.cells r.cells 94 false) := m2.here
  have hG := acells_some hG2
  have hR := acells_some hR2
  have no : ∀ {s' : St}, Grew (ent s) s' → ¬ Formed g.f g.nv r → wfin s (fun v s' => v = .bool (decide (Formed g.f g.nv r)) ∧ s' = s) (.bool false) s' := fun hg hf => by
    refine fin_flat rfl hg ⟨?_, rfl⟩
    rw [decide_eq_false hf]
  have noR : ∀ {τ : Tau} {al : AL} {s' : St}, Grew (ent s) s' → ¬ Formed g.f g.nv r → U τ al 4 = .bool false → xleave (prims P ro) s Tryd.f97.results.toList (fun v s' => v = .bool (decide (Formed g.f g.nv r)) ∧ s' = s) .ret (U τ al) [] [] s' := fun {τ al s'} hg hf h4 => by
    rw [r97]
    simp (maxSteps := 10000000) only [wW, Option.bind_some, Option.map_some, decide_eq_true_eq, Bool.not_eq_true', decide_eq_false_iff_not, Bool.not_true, Bool.not_false, ne_eq, if_true, if_false, reduceCtorEq, eq_self, Nat.zero_add, Nat.add_zero, not_false_eq_true, Nat.reduceEqDiff]
    rw [h4]
    exact no hg hf
  simp (maxSteps := 10000000) only [wW, Option.bind_some, Option.map_some, decide_eq_true_eq, Bool.not_eq_true', decide_eq_false_iff_not, Bool.not_true, Bool.not_false, ne_eq, if_true, if_false, reduceCtorEq, eq_self, Nat.zero_add, Nat.add_zero, not_false_eq_true, Nat.reduceEqDiff, wop_load, wop_indexAddr, wix0, wix1, wix2, rcAll, gcAll, Option.map_some, Nat.reduceAdd, load1 ap_24, load1 ap_3, load1 ap_4, load1 ap_92, load1 ap_32, loadN ap_94, loadN ap_34, loadN ap_58, fa_94_0, fa_94_1, fa_94_2, fa_94_3, fa_94_4, fa_94_5, fa_94_6, fa_94_7, fa_34_0, fa_34_1, fa_34_2, fa_34_3, fa_34_4, rc0, rc1, rc2, rc3, rc4, rc5, rc6, rc7, rc8, rc9, rc10, gc0, gc1, gc2, gc3, gc4, hG, hR]
  have rest : ∀ {τ : Tau}, r.k ≤ 3 ∧ 0 ≤ r.rd ∧ r.rd ≤ 7 ∧ (r.k ≠ 3 → r.rd = 0) → τ 2 = ptr G → τ 3 = ptr R → xp (prims P ro) none 104 k97 c97_11 [1, 1] τ [] [] s2 (xleave (prims P ro) s Tryd.f97.results.toList (fun v s' => v = .bool (decide (Formed g.f g.nv r)) ∧ s' = s)) := fun {τ} hk h2 h3 => by
    rw [n97_11]
    unfold v97_11
    simp (maxSteps := 10000000) only [wW, Option.bind_some, Option.map_some, decide_eq_true_eq, Bool.not_eq_true', decide_eq_false_iff_not, Bool.not_true, Bool.not_false, ne_eq, if_true, if_false, reduceCtorEq, eq_self, Nat.zero_add, Nat.add_zero, not_false_eq_true, Nat.reduceEqDiff, wop_load, wop_indexAddr, wix0, wix1, wix2, rcAll, gcAll, Option.map_some, Nat.reduceAdd, load1 ap_24, load1 ap_3, load1 ap_4, load1 ap_92, load1 ap_32, loadN ap_94, loadN ap_34, loadN ap_58, fa_94_0, fa_94_1, fa_94_2, fa_94_3, fa_94_4, fa_94_5, fa_94_6, fa_94_7, fa_34_0, fa_34_1, fa_34_2, fa_34_3, fa_34_4, rc0, rc1, rc2, rc3, rc4, rc5, rc6, rc7, rc8, rc9, rc10, gc0, gc1, gc2, gc3, gc4, h2, h3, hG, hR]
    refine buildSlice_rule se_23 ty_24 m2.wf [.int .u64 r.ql, .int .u64 r.qr, .int .u64 r.qm, .int .u64 r.qo, .int .u64 r.qc] rfl rfl (by decide) (by simp [Value.cells]) fun A s3 m3 => ?_
    have e3 := m3.eq
    have n3 := m3.n
    have hQ : U64s s3 (.slice (some ⟨A, 0, none⟩) 5 5) r.qs := m3.sl rfl
    have g3 := g2.trans m3.grew
    have hG3 : acells (s3.at G) = some (g.cells ur) := acells_some ((m3.grew.same G (by omega)).trans hG2)
    have hR3' := (m3.grew.same R (by omega)).trans hR2
    have hR3 : acells (s3.at R) = some r.cells := acells_some hR3'
    refine wloop l97_1110100 m97_1110100 (fun (i : Nat) τ ds s' => i ≤ 5 ∧ τ 2 = ptr G ∧ τ 3 = ptr R ∧ τ 5 = .slice (some ⟨A, 0, none⟩) 5 5 ∧ τ 6 = .int .i64 i ∧ ds = [] ∧ s3 = s' ∧ ∀ q ∈ r.qs.take i, q < fP g.f ∧ (r.k ≠ 1 → q = 0)) (fun i => 5 - i) ?_ 0 ⟨by omega, ?_, ?_, rfl, rfl, rfl, rfl, fun q hq => by cases hq⟩
    · rintro i τ ds s' ⟨hi, h2, h3, h5, h6, rfl, rfl, hall⟩
      rw [n97_1110100]
      unfold v97_1110100
      simp (maxSteps := 10000000) only [wW, Option.bind_some, Option.map_some, decide_eq_true_eq, Bool.not_eq_true', decide_eq_false_iff_not, Bool.not_true, Bool.not_false, ne_eq, if_true, if_false, reduceCtorEq, eq_self, Nat.zero_add, Nat.add_zero, not_false_eq_true, Nat.reduceEqDiff, h5, h6, wop_len se_23]
      have hql : r.qs.length = 5 := rfl
      by_cases hlt : i < 5
      · rw [if_pos (by omega)]
        have hiq : i < r.qs.length := by rw [hql]; exact hlt
        obtain ⟨A4, o4, c4, z1, z2, z3⟩ := hQ.at1 (i := (i : Int)) (x := r.qs[i]) (by omega) (by rw [Int.toNat_natCast]; exact List.getElem?_eq_getElem hiq)
        simp (maxSteps := 10000000) only [wW, Option.bind_some, Option.map_some, decide_eq_true_eq, Bool.not_eq_true', decide_eq_false_iff_not, Bool.not_true, Bool.not_false, ne_eq, if_true, if_false, reduceCtorEq, eq_self, Nat.zero_add, Nat.add_zero, not_false_eq_true, Nat.reduceEqDiff, wop_load, wop_indexAddr, wix0, wix1, wix2, rcAll, gcAll, Option.map_some, Nat.reduceAdd, load1 ap_24, load1 ap_3, load1 ap_4, load1 ap_92, load1 ap_32, loadN ap_94, loadN ap_34, loadN ap_58, fa_94_0, fa_94_1, fa_94_2, fa_94_3, fa_94_4, fa_94_5, fa_94_6, fa_94_7, fa_34_0, fa_34_1, fa_34_2, fa_34_3, fa_34_4, rc0, rc1, rc2, rc3, rc4, rc5, rc6, rc7, rc8, rc9, rc10, gc0, gc1, gc2, gc3, gc4, h2, h3, z1, z2, z3, hG3, hR3, wrP]
        refine ⟨by simp [veq], by simp [veq], .refl _, ?_⟩
        have hmem : r.qs[i] ∈ r.qs := List.getElem_mem _
        by_cases hge : r.qs[i] ≥ fP g.f
        · rw [if_pos hge]
          refine noR g3 (fun hf => ?_) (by simp only [U, tset_eq, wW, Option.bind_some, Option.map_some, decide_eq_true_eq, Bool.not_eq_true', decide_eq_false_iff_not, Bool.not_true, Bool.not_false, ne_eq, if_true, if_false, reduceCtorEq, eq_self, Nat.zero_add, Nat.add_zero, not_false_eq_true, Nat.reduceEqDiff])
          have := (hf.2.2.2.2.1 _ hmem).1
          omega
        · rw [if_neg hge]
          refine ⟨by simp [veq], ?_⟩
          have next : (r.k ≠ 1 → r.qs[i] = 0) → ∀ (al : AL), U τ al 2 = ptr G → U τ al 3 = ptr R → U τ al 5 = .slice (some ⟨A, 0, none⟩) 5 5 → U τ al 6 = .int .i64 (IntKind.i64.wrap ((i : Int) + 1)) → ∃ y, 5 - y < 5 - i ∧ y ≤ 5 ∧ U τ al 2 = ptr G ∧ U τ al 3 = ptr R ∧ U τ al 5 = .slice (some ⟨A, 0, none⟩) 5 5 ∧ U τ al 6 = .int .i64 (y : Nat) ∧ True ∧ True ∧ ∀ q ∈ r.qs.take y, q < fP g.f ∧ (r.k ≠ 1 → q = 0) := fun hz al a2 a3 a5 a6 => by
            rw [wrap_i64 (by omega) (by omega)] at a6
            refine ⟨i + 1, by omega, by omega, a2, a3, a5, a6, trivial, trivial, fun q hq => ?_⟩
            rw [take_succ_eq (List.getElem?_eq_getElem (show i < r.qs.length by omega)), List.mem_append] at hq
            rcases hq with hq | hq
            · exact hall q hq
            · simp only [List.mem_cons, List.not_mem_nil, or_false] at hq
              subst hq
              exact ⟨by omega, hz⟩
          by_cases hk1 : r.k = 1
          · rw [if_neg (by simpa using hk1)]
            refine next (fun h => absurd hk1 h) _ ?_ ?_ ?_ ?_ <;> simp only [U, tset_eq, wW, Option.bind_some, Option.map_some, decide_eq_true_eq, Bool.not_eq_true', decide_eq_false_iff_not, Bool.not_true, Bool.not_false, ne_eq, if_true, if_false, reduceCtorEq, eq_self, Nat.zero_add, Nat.add_zero, not_false_eq_true, Nat.reduceEqDiff, h2, h3, h5, h6]
          · rw [if_pos hk1]
            refine ⟨by simp [veq], ?_⟩
            by_cases hz : r.qs[i] = 0
            · rw [if_neg (by simpa using hz)]
              refine next (fun _ => hz) _ ?_ ?_ ?_ ?_ <;> simp only [U, tset_eq, wW, Option.bind_some, Option.map_some, decide_eq_true_eq, Bool.not_eq_true', decide_eq_false_iff_not, Bool.not_true, Bool.not_false, ne_eq, if_true, if_false, reduceCtorEq, eq_self, Nat.zero_add, Nat.add_zero, not_false_eq_true, Nat.reduceEqDiff, h2, h3, h5, h6]
            · rw [if_pos hz]
              refine noR g3 (fun hf => ?_) (by simp only [U, tset_eq, wW, Option.bind_some, Option.map_some, decide_eq_true_eq, Bool.not_eq_true', decide_eq_false_iff_not, Bool.not_true, Bool.not_false, ne_eq, if_true, if_false, reduceCtorEq, eq_self, Nat.zero_add, Nat.add_zero, not_false_eq_true, Nat.reduceEqDiff])
              exact hz ((hf.2.2.2.2.1 _ hmem).2 hk1)
      · obtain rfl : i = 5 := by omega
        rw [if_neg (by omega)]
        have hqs : ∀ q ∈ r.qs, q < fP g.f ∧ (r.k ≠ 1 → q = 0) := hall
        clear hall
        refine wloop l97_11110100 m97_11110100 (fun (i : Nat) τ ds s' => i ≤ 4 ∧ τ 2 = ptr G ∧ τ 3 = ptr R ∧ τ 7 = .int .i64 i ∧ ds = [] ∧ s3 = s' ∧ ∀ k : Nat, k < i → -1 ≤ r.w k ∧ r.w k < g.nv) (fun i => 4 - i) ?_ 0 ⟨by omega, ?_, ?_, rfl, rfl, rfl, fun k hk => by omega⟩
        · rintro i τ ds s' ⟨hi, h2, h3, h7, rfl, rfl, hall⟩
          rw [n97_11110100]
          unfold v97_11110100
          by_cases hlt : i < 4
          · simp (maxSteps := 10000000) only [wW, Option.bind_some, Option.map_some, decide_eq_true_eq, Bool.not_eq_true', decide_eq_false_iff_not, Bool.not_true, Bool.not_false, ne_eq, if_true, if_false, reduceCtorEq, eq_self, Nat.zero_add, Nat.add_zero, not_false_eq_true, Nat.reduceEqDiff, wop_load, wop_indexAddr, wix0, wix1, wix2, rcAll, gcAll, Option.map_some, Nat.reduceAdd, load1 ap_24, load1 ap_3, load1 ap_4, load1 ap_92, load1 ap_32, loadN ap_94, loadN ap_34, loadN ap_58, fa_94_0, fa_94_1, fa_94_2, fa_94_3, fa_94_4, fa_94_5, fa_94_6, fa_94_7, fa_34_0, fa_34_1, fa_34_2, fa_34_3, fa_34_4, rc0, rc1, rc2, rc3, rc4, rc5, rc6, rc7, rc8, rc9, rc10, gc0, gc1, gc2, gc3, gc4, h2, h3, h7, hG3, hR3, wix _ _ hlt, rcw r hlt]
            rw [if_pos (by omega)]
            by_cases hlo : r.w i < -1
            · rw [if_pos hlo]
              refine noR g3 (fun hf => ?_) (by simp only [U, tset_eq, wW, Option.bind_some, Option.map_some, decide_eq_true_eq, Bool.not_eq_true', decide_eq_false_iff_not, Bool.not_true, Bool.not_false, ne_eq, if_true, if_false, reduceCtorEq, eq_self, Nat.zero_add, Nat.add_zero, not_false_eq_true, Nat.reduceEqDiff])
              have := (hf.2.2.2.2.2.1 i hlt).1
              omega
            · rw [if_neg hlo]
              by_cases hhi : r.w i ≥ g.nv
              · rw [if_pos hhi]
                refine noR g3 (fun hf => ?_) (by simp only [U, tset_eq, wW, Option.bind_some, Option.map_some, decide_eq_true_eq, Bool.not_eq_true', decide_eq_false_iff_not, Bool.not_true, Bool.not_false, ne_eq, if_true, if_false, reduceCtorEq, eq_self, Nat.zero_add, Nat.add_zero, not_false_eq_true, Nat.reduceEqDiff])
                have := (hf.2.2.2.2.2.1 i hlt).2
                omega
              · rw [if_neg hhi, wrap_i64 (by omega) (by omega)]
                refine ⟨i + 1, by omega, by omega, ?_, ?_, ?_, trivial, trivial, fun k hk => ?_⟩
                · simp only [U, tset_eq, wW, Option.bind_some, Option.map_some, decide_eq_true_eq, Bool.not_eq_true', decide_eq_false_iff_not, Bool.not_true, Bool.not_false, ne_eq, if_true, if_false, reduceCtorEq, eq_self, Nat.zero_add, Nat.add_zero, not_false_eq_true, Nat.reduceEqDiff, h2]
                · simp only [U, tset_eq, wW, Option.bind_some, Option.map_some, decide_eq_true_eq, Bool.not_eq_true', decide_eq_false_iff_not, Bool.not_true, Bool.not_false, ne_eq, if_true, if_false, reduceCtorEq, eq_self, Nat.zero_add, Nat.add_zero, not_false_eq_true, Nat.reduceEqDiff, h3]
                · simp only [U, tset_eq, wW, Option.bind_some, Option.map_some, decide_eq_true_eq, Bool.not_eq_true', decide_eq_false_iff_not, Bool.not_true, Bool.not_false, ne_eq, if_true, if_false, reduceCtorEq, eq_self, Nat.zero_add, Nat.add_zero, not_false_eq_true, Nat.reduceEqDiff]; rfl
                · rcases Nat.lt_or_ge k i with h | h
                  · exact hall k h
                  · obtain rfl : k = i := by omega
                    omega
          · obtain rfl : i = 4 := by omega
            simp (maxSteps := 10000000) only [wW, Option.bind_some, Option.map_some, decide_eq_true_eq, Bool.not_eq_true', decide_eq_false_iff_not, Bool.not_true, Bool.not_false, ne_eq, if_true, if_false, reduceCtorEq, eq_self, Nat.zero_add, Nat.add_zero, not_false_eq_true, Nat.reduceEqDiff, h7]
            rw [if_neg (by omega)]
            simp (maxSteps := 10000000) only [U, tset_eq, wW, Option.bind_some, Option.map_some, decide_eq_true_eq, Bool.not_eq_true', decide_eq_false_iff_not, Bool.not_true, Bool.not_false, ne_eq, if_true, if_false, reduceCtorEq, eq_self, Nat.zero_add, Nat.add_zero, not_false_eq_true, Nat.reduceEqDiff, wop_load, wop_indexAddr, wix0, wix1, wix2, rcAll, gcAll, Option.map_some, Nat.reduceAdd, load1 ap_24, load1 ap_3, load1 ap_4, load1 ap_92, load1 ap_32, loadN ap_94, loadN ap_34, loadN ap_58, fa_94_0, fa_94_1, fa_94_2, fa_94_3, fa_94_4, fa_94_5, fa_94_6, fa_94_7, fa_34_0, fa_34_1, fa_34_2, fa_34_3, fa_34_4, rc0, rc1, rc2, rc3, rc4, rc5, rc6, rc7, rc8, rc9, rc10, gc0, gc1, gc2, gc3, gc4, h3, hR3]
            refine wReads r m3.wf (by omega) fun v s4 g4 hI => ?_
            have g34 := g3.trans g4
            have hR4 : acells (s4.at R) = some r.cells := acells_some ((g4.same R (by omega)).trans hR3')
            have hrl := rds_len r
            refine wloop l97_1111110100 m97_1111110100 (fun (i : Nat) τ ds s' => i ≤ (rds r).length ∧ τ 3 = ptr R ∧ τ 8 = v ∧ τ 9 = .int .i64 i ∧ ds = [] ∧ s4 = s' ∧ ∀ j ∈ (rds r).take i, 0 ≤ r.w j.toNat) (fun i => (rds r).length - i) ?_ 0 ⟨by omega, ?_, ?_, ?_, rfl, rfl, fun k hk => by cases hk⟩
            · rintro i τ ds s' ⟨hi, h3, h8, h9, rfl, rfl, hjs⟩
              rw [n97_1111110100]
              unfold v97_1111110100
              simp (maxSteps := 10000000) only [wW, Option.bind_some, Option.map_some, decide_eq_true_eq, Bool.not_eq_true', decide_eq_false_iff_not, Bool.not_true, Bool.not_false, ne_eq, if_true, if_false, reduceCtorEq, eq_self, Nat.zero_add, Nat.add_zero, not_false_eq_true, Nat.reduceEqDiff, h8, h9, hI.wlen se_30]
              by_cases hlt : i < (rds r).length
              · rw [if_pos (by omega)]
                obtain ⟨A4, o4, c4, z1, z2, z3⟩ := hI.at1 (i := (i : Int)) (x := (rds r)[i]) (by omega) (by rw [Int.toNat_natCast]; exact List.getElem?_eq_getElem hlt)
                have hmem : (rds r)[i] ∈ rds r := List.getElem_mem _
                have hj := rds_lt r _ hmem
                have hjc : (((rds r)[i]).toNat : Int) = (rds r)[i] := by omega
                have hwx := wix R 1 (k := ((rds r)[i]).toNat) (by omega)
                rw [hjc] at hwx
                simp (maxSteps := 10000000) only [wW, Option.bind_some, Option.map_some, decide_eq_true_eq, Bool.not_eq_true', decide_eq_false_iff_not, Bool.not_true, Bool.not_false, ne_eq, if_true, if_false, reduceCtorEq, eq_self, Nat.zero_add, Nat.add_zero, not_false_eq_true, Nat.reduceEqDiff, wop_load, wop_indexAddr, wix0, wix1, wix2, rcAll, gcAll, Option.map_some, Nat.reduceAdd, load1 ap_24, load1 ap_3, load1 ap_4, load1 ap_92, load1 ap_32, loadN ap_94, loadN ap_34, loadN ap_58, fa_94_0, fa_94_1, fa_94_2, fa_94_3, fa_94_4, fa_94_5, fa_94_6, fa_94_7, fa_34_0, fa_34_1, fa_34_2, fa_34_3, fa_34_4, rc0, rc1, rc2, rc3, rc4, rc5, rc6, rc7, rc8, rc9, rc10, gc0, gc1, gc2, gc3, gc4, h3, z1, z2, z3, hR4, hwx, rcw r (show ((rds r)[i]).toNat < 4 by omega)]
                by_cases hneg : r.w ((rds r)[i]).toNat < 0
                · rw [if_pos hneg]
                  refine noR g34 (fun hf => ?_) (by simp only [U, tset_eq, wW, Option.bind_some, Option.map_some, decide_eq_true_eq, Bool.not_eq_true', decide_eq_false_iff_not, Bool.not_true, Bool.not_false, ne_eq, if_true, if_false, reduceCtorEq, eq_self, Nat.zero_add, Nat.add_zero, not_false_eq_true, Nat.reduceEqDiff])
                  have := hf.2.2.2.2.2.2 _ hmem
                  omega
                · rw [if_neg hneg, wrap_i64 (by omega) (by omega)]
                  refine ⟨i + 1, by omega, by omega, ?_, ?_, ?_, trivial, trivial, fun j hj => ?_⟩
                  · simp only [U, tset_eq, wW, Option.bind_some, Option.map_some, decide_eq_true_eq, Bool.not_eq_true', decide_eq_false_iff_not, Bool.not_true, Bool.not_false, ne_eq, if_true, if_false, reduceCtorEq, eq_self, Nat.zero_add, Nat.add_zero, not_false_eq_true, Nat.reduceEqDiff, h3]
                  · simp only [U, tset_eq, wW, Option.bind_some, Option.map_some, decide_eq_true_eq, Bool.not_eq_true', decide_eq_false_iff_not, Bool.not_true, Bool.not_false, ne_eq, if_true, if_false, reduceCtorEq, eq_self, Nat.zero_add, Nat.add_zero, not_false_eq_true, Nat.reduceEqDiff, h8]
                  · simp only [U, tset_eq, wW, Option.bind_some, Option.map_some, decide_eq_true_eq, Bool.not_eq_true', decide_eq_false_iff_not, Bool.not_true, Bool.not_false, ne_eq, if_true, if_false, reduceCtorEq, eq_self, Nat.zero_add, Nat.add_zero, not_false_eq_true, Nat.reduceEqDiff]; rfl
                  · rw [take_succ_eq (List.getElem?_eq_getElem hlt), List.mem_append] at hj
                    rcases hj with hj | hj
                    · exact hjs j hj
                    · simp only [List.mem_cons, List.not_mem_nil, or_false] at hj
                      subst hj
                      omega
              · rw [if_neg (by omega)]
                rw [List.take_of_length_le (by omega)] at hjs
                rw [xleave_U, r97]
                simp (maxSteps := 10000000) only [U, tset_eq, wW, Option.bind_some, Option.map_some, decide_eq_true_eq, Bool.not_eq_true', decide_eq_false_iff_not, Bool.not_true, Bool.not_false, ne_eq, if_true, if_false, reduceCtorEq, eq_self, Nat.zero_add, Nat.add_zero, not_false_eq_true, Nat.reduceEqDiff]
                refine fin_flat rfl g34 ⟨?_, rfl⟩
                rw [decide_eq_true]
                exact ⟨hk.1, hk.2.1, hk.2.2.1, hk.2.2.2, hqs, hall, hjs⟩
            · simp only [U, tset_eq, wW, Option.bind_some, Option.map_some, decide_eq_true_eq, Bool.not_eq_true', decide_eq_false_iff_not, Bool.not_true, Bool.not_false, ne_eq, if_true, if_false, reduceCtorEq, eq_self, Nat.zero_add, Nat.add_zero, not_false_eq_true, Nat.reduceEqDiff, h3]
            · simp only [U, tset_eq, wW, Option.bind_some, Option.map_some, decide_eq_true_eq, Bool.not_eq_true', decide_eq_false_iff_not, Bool.not_true, Bool.not_false, ne_eq, if_true, if_false, reduceCtorEq, eq_self, Nat.zero_add, Nat.add_zero, not_false_eq_true, Nat.reduceEqDiff]
            · simp only [U, tset_eq, wW, Option.bind_some, Option.map_some, decide_eq_true_eq, Bool.not_eq_true', decide_eq_false_iff_not, Bool.not_true, Bool.not_false, ne_eq, if_true, if_false, reduceCtorEq, eq_self, Nat.zero_add, Nat.add_zero, not_false_eq_true, Nat.reduceEqDiff]; rfl
        · simp only [U, tset_eq, wW, Option.bind_some, Option.map_some, decide_eq_true_eq, Bool.not_eq_true', decide_eq_false_iff_not, Bool.not_true, Bool.not_false, ne_eq, if_true, if_false, reduceCtorEq, eq_self, Nat.zero_add, Nat.add_zero, not_false_eq_true, Nat.reduceEqDiff, h2]
        · simp only [U, tset_eq, wW, Option.bind_some, Option.map_some, decide_eq_true_eq, Bool.not_eq_true', decide_eq_false_iff_not, Bool.not_true, Bool.not_false, ne_eq, if_true, if_false, reduceCtorEq, eq_self, Nat.zero_add, Nat.add_zero, not_false_eq_true, Nat.reduceEqDiff, h3]
    · simp only [U, tset_eq, wW, Option.bind_some, Option.map_some, decide_eq_true_eq, Bool.not_eq_true', decide_eq_false_iff_not, Bool.not_true, Bool.not_false, ne_eq, if_true, if_false, reduceCtorEq, eq_self, Nat.zero_add, Nat.add_zero, not_false_eq_true, Nat.reduceEqDiff, h2]
    · simp only [U, tset_eq, wW, Option.bind_some, Option.map_some, decide_eq_true_eq, Bool.not_eq_true', decide_eq_false_iff_not, Bool.not_true, Bool.not_false, ne_eq, if_true, if_false, reduceCtorEq, eq_self, Nat.zero_add, Nat.add_zero, not_false_eq_true, Nat.reduceEqDiff, h3]
  by_cases c1 : r.k > 3
  · rw [if_pos c1]
    exact no g2 fun hf => by have := hf.1; omega
  · rw [if_neg c1]
    by_cases c2 : r.rd < 0
    · rw [if_pos c2]
      exact no g2 fun hf => by have := hf.2.1; omega
    · rw [if_neg c2]
      by_cases c3 : r.rd > 7
      · rw [if_pos c3]
        exact no g2 fun hf => by have := hf.2.2.1; omega
      · rw [if_neg c3]
        by_cases c4 : r.k = 3
        · rw [if_neg (by simpa using c4)]
          refine rest ⟨by omega, by omega, by omega, fun h => absurd c4 h⟩ ?_ ?_ <;> simp only [U, tset_eq, wW, Option.bind_some, Option.map_some, decide_eq_true_eq, Bool.not_eq_true', decide_eq_false_iff_not, Bool.not_true, Bool.not_false, ne_eq, if_true, if_false, reduceCtorEq, eq_self, Nat.zero_add, Nat.add_zero, not_false_eq_true, Nat.reduceEqDiff]
        · rw [if_pos c4]
          by_cases c5 : r.rd = 0
          · rw [if_neg (by simpa using c5)]
            refine rest ⟨by omega, by omega, by omega, fun _ => c5⟩ ?_ ?_ <;> simp only [U, tset_eq, wW, Option.bind_some, Option.map_some, decide_eq_true_eq, Bool.not_eq_true', decide_eq_false_iff_not, Bool.not_true, Bool.not_false, ne_eq, if_true, if_false, reduceCtorEq, eq_self, Nat.zero_add, Nat.add_zero, not_false_eq_true, Nat.reduceEqDiff]
          · rw [if_pos c5]
            exact no g2 fun hf => c5 (hf.2.2.2.1 c4)

end
end Go.VE
/- The reference of the gates: limits. -/
namespace Go.VE
open Go Go.Proofs
set_option maxRecDepth 20000
def row0 : Row := ⟨0, 0, 0, 0, 0, 0, 0, 0, 0, 0, 0⟩
def rowAt (l : List Row) (i : Nat) : Row := (l[i]?).getD row0
theorem rowAt_get {l : List Row} {i : Nat} (h : i < l.length) : l[i]? = some (rowAt l i) := by
  unfold rowAt
  rw [List.getElem?_eq_getElem h]; rfl
theorem nxt_eq (l : List Row) (i : Nat) : nxt l i = rowAt l (i + 1) := rfl

/-- What is asked of row i. -/
def RowLim (g : Gp) (i : Nat) : Prop := Formed g.f g.nv (rowAt g.rows i) ∧ ((rowAt g.rows i).k = 3 → i + 1 < g.rows.length ∧ ∀ k : Nat, k < 4 → 0 ≤ (rowAt g.rows (i + 1)).w k)
instance (g : Gp) (i : Nat) : Decidable (RowLim g i) := by unfold RowLim; infer_instance

/-- A program has numbers within the limits. -/
def Limits (g : Gp) : Prop :=
  fV g.f = true ∧ 0 ≤ g.pub ∧ g.pub ≤ 16 ∧ 0 ≤ g.sec ∧ g.sec ≤ 20000 ∧ g.pub + g.sec ≤ g.nv ∧ g.nv ≤ 40000 ∧ g.rows.length ≤ 8000 ∧ ∀ i : Nat, i < g.rows.length → RowLim g i
instance (g : Gp) : Decidable (Limits g) := by unfold Limits; infer_instance

section
variable {ro : Nat} {K : Value → St → Prop}
theorem wLimits (g : Gp) {s : St} {ur : Value} (hw : Wf s) (hro : ro ≤ s.n) (hr : RowsS s ur g.rows) (hlen : g.rows.length < 2 ^ 60) : CallWP P ro 84 [.agg (.mk (g.cells ur))] s K = K (.bool (decide (Limits g))) s := by
  refine callEq (call_wp b84 rfl ?_) K
  rw [n84]
  unfold v84
  simp (maxSteps := 10000000) only [wW, Option.bind_some, Option.map_some, decide_eq_true_eq, Bool.not_eq_true', decide_eq_false_iff_not, Bool.not_true, Bool.not_false, ne_eq, if_true, if_false, reduceCtorEq, eq_self, Nat.zero_add, Nat.add_zero, not_false_eq_true, Nat.reduceEqDiff]
  refine box_rule hw.ent fun G s1 m1 => ?_
  have e1 := m1.eq
  have n1 := m1.n
  have hn0 : (ent s).n = s.n := rfl
  have hG1 : s1.at G = some (.cells (g.cells ur) 34 false) := m1.here
  have hG := acells_some hG1
  have hr1 : RowsS s1 ur g.rows := (Sl.ent hr).grew m1.grew.same
  have hgl : ∀ s' K, wop P ro (.call ⟨.builtin .len, ⟨[.const ur]⟩, #[32]⟩) 3 s' K = K (.int .i64 (g.rows.length : Nat)) s' := fun s' K => Sl.wlen hr1 se_32 _ K
  have no : ¬ Limits g → wfin s (fun v s' => v = .bool (decide (Limits g)) ∧ s' = s) (.bool false) s1 := fun hf => by
    refine fin_flat rfl m1.grew ⟨?_, rfl⟩
    rw [decide_eq_false hf]
  have noR : ∀ {τ : Tau} {al : AL}, ¬ Limits g → U τ al 2 = .bool false → xleave (prims P ro) s Tryd.f84.results.toList (fun v s' => v = .bool (decide (Limits g)) ∧ s' = s) .ret (U τ al) [] [] s1 := fun {τ al} hf h4 => by
    rw [r84]
    simp (maxSteps := 10000000) only [wW, Option.bind_some, Option.map_some, decide_eq_true_eq, Bool.not_eq_true', decide_eq_false_iff_not, Bool.not_true, Bool.not_false, ne_eq, if_true, if_false, reduceCtorEq, eq_self, Nat.zero_add, Nat.add_zero, not_false_eq_true, Nat.reduceEqDiff]
    rw [h4]
    exact no hf
  simp (maxSteps := 10000000) only [wW, Option.bind_some, Option.map_some, decide_eq_true_eq, Bool.not_eq_true', decide_eq_false_iff_not, Bool.not_true, Bool.not_false, ne_eq, if_true, if_false, reduceCtorEq, eq_self, Nat.zero_add, Nat.add_zero, not_false_eq_true, Nat.reduceEqDiff, wop_load, wop_indexAddr, wix0, wix1, wix2, rcAll, gcAll, Option.map_some, Nat.reduceAdd, load1 ap_24, load1 ap_3, load1 ap_4, load1 ap_92, load1 ap_32, loadN ap_94, loadN ap_34, loadN ap_58, fa_94_0, fa_94_1, fa_94_2, fa_94_3, fa_94_4, fa_94_5, fa_94_6, fa_94_7, fa_34_0, fa_34_1, fa_34_2, fa_34_3, fa_34_4, rc0, rc1, rc2, rc3, rc4, rc5, rc6, rc7, rc8, rc9, rc10, gc0, gc1, gc2, gc3, gc4, hG, wrValid, hgl]
  cases hv : fV g.f with
  | false =>
    simp (maxSteps := 10000000) only [wW, Option.bind_some, Option.map_some, decide_eq_true_eq, Bool.not_eq_true', decide_eq_false_iff_not, Bool.not_true, Bool.not_false, ne_eq, if_true, if_false, reduceCtorEq, eq_self, Nat.zero_add, Nat.add_zero, not_false_eq_true, Nat.reduceEqDiff]
    exact no fun hf => by rw [hf.1] at hv; cases hv
  | true =>
  simp (maxSteps := 10000000) only [Bool.true_eq_false, wW, Option.bind_some, Option.map_some, decide_eq_true_eq, Bool.not_eq_true', decide_eq_false_iff_not, Bool.not_true, Bool.not_false, ne_eq, if_true, if_false, reduceCtorEq, eq_self, Nat.zero_add, Nat.add_zero, not_false_eq_true, Nat.reduceEqDiff]
  by_cases c1 : g.pub < 0
  · rw [if_pos c1]
    exact no fun hf => by have := hf.2.1; omega
  · rw [if_neg c1]
    by_cases c2 : g.pub > 16
    · rw [if_pos c2]
      exact no fun hf => by have := hf.2.2.1; omega
    · rw [if_neg c2]
      by_cases c3 : g.sec < 0
      · rw [if_pos c3]
        exact no fun hf => by have := hf.2.2.2.1; omega
      · rw [if_neg c3]
        by_cases c4 : g.sec > 20000
        · rw [if_pos c4]
          exact no fun hf => by have := hf.2.2.2.2.1; omega
        · rw [if_neg c4, wrap_i64 (n := g.pub + g.sec) (by omega) (by omega)]
          by_cases c5 : g.nv < g.pub + g.sec
          · rw [if_pos c5]
            exact no fun hf => by have := hf.2.2.2.2.2.1; omega
          · rw [if_neg c5]
            by_cases c6 : g.nv > 40000
            · rw [if_pos c6]
              exact no fun hf => by have := hf.2.2.2.2.2.2.1; omega
            · rw [if_neg c6]
              by_cases c7 : (g.rows.length : Int) > 8000
              · rw [if_pos c7]
                exact no fun hf => by have := hf.2.2.2.2.2.2.2.1; omega
              · rw [if_neg c7]
                refine wloop l84_110100 m84_110100 (fun (i : Nat) τ ds s' => i ≤ g.rows.length ∧ τ 1 = ptr G ∧ τ 3 = .int .i64 i ∧ ds = [] ∧ s1 = s' ∧ ∀ j : Nat, j < i → RowLim g j) (fun i => g.rows.length - i) ?_ 0 ⟨by omega, ?_, ?_, rfl, rfl, fun k hk => by omega⟩
                · rintro i τ ds s' ⟨hi, h1, h3, rfl, rfl, hall⟩
                  rw [n84_110100]
                  unfold v84_110100
                  simp (maxSteps := 10000000) only [wW, Option.bind_some, Option.map_some, decide_eq_true_eq, Bool.not_eq_true', decide_eq_false_iff_not, Bool.not_true, Bool.not_false, ne_eq, if_true, if_false, reduceCtorEq, eq_self, Nat.zero_add, Nat.add_zero, not_false_eq_true, Nat.reduceEqDiff, wop_load, wop_indexAddr, wix0, wix1, wix2, rcAll, gcAll, Option.map_some, Nat.reduceAdd, load1 ap_24, load1 ap_3, load1 ap_4, load1 ap_92, load1 ap_32, loadN ap_94, loadN ap_34, loadN ap_58, fa_94_0, fa_94_1, fa_94_2, fa_94_3, fa_94_4, fa_94_5, fa_94_6, fa_94_7, fa_34_0, fa_34_1, fa_34_2, fa_34_3, fa_34_4, rc0, rc1, rc2, rc3, rc4, rc5, rc6, rc7, rc8, rc9, rc10, gc0, gc1, gc2, gc3, gc4, h1, h3, hG, hgl]
                  by_cases hlt : i < g.rows.length
                  · rw [if_pos (by omega)]
                    obtain ⟨A, o, c, q1, q2⟩ := hr1.ix (rowAt_get hlt)
                    have hkc := q2.kind
                    simp (maxSteps := 10000000) only [wW, Option.bind_some, Option.map_some, decide_eq_true_eq, Bool.not_eq_true', decide_eq_false_iff_not, Bool.not_true, Bool.not_false, ne_eq, if_true, if_false, reduceCtorEq, eq_self, Nat.zero_add, Nat.add_zero, not_false_eq_true, Nat.reduceEqDiff, wop_load, wop_indexAddr, wix0, wix1, wix2, rcAll, gcAll, Option.map_some, Nat.reduceAdd, load1 ap_24, load1 ap_3, load1 ap_4, load1 ap_92, load1 ap_32, loadN ap_94, loadN ap_34, loadN ap_58, fa_94_0, fa_94_1, fa_94_2, fa_94_3, fa_94_4, fa_94_5, fa_94_6, fa_94_7, fa_34_0, fa_34_1, fa_34_2, fa_34_3, fa_34_4, rc0, rc1, rc2, rc3, rc4, rc5, rc6, rc7, rc8, rc9, rc10, gc0, gc1, gc2, gc3, gc4, q1, q2.blk, q2.all, hG]
                    refine ⟨gcVeq g (slVeq hr1), slVeq hr1, rcVeq _, ?_⟩
                    rw [wFormed g (rowAt g.rows i) m1.wf (by omega)]
                    simp (maxSteps := 10000000) only [wW, Option.bind_some, Option.map_some, decide_eq_true_eq, Bool.not_eq_true', decide_eq_false_iff_not, Bool.not_true, Bool.not_false, ne_eq, if_true, if_false, reduceCtorEq, eq_self, Nat.zero_add, Nat.add_zero, not_false_eq_true, Nat.reduceEqDiff, wop_load, wop_indexAddr, wix0, wix1, wix2, rcAll, gcAll, Option.map_some, Nat.reduceAdd, load1 ap_24, load1 ap_3, load1 ap_4, load1 ap_92, load1 ap_32, loadN ap_94, loadN ap_34, loadN ap_58, fa_94_0, fa_94_1, fa_94_2, fa_94_3, fa_94_4, fa_94_5, fa_94_6, fa_94_7, fa_34_0, fa_34_1, fa_34_2, fa_34_3, fa_34_4, rc0, rc1, rc2, rc3, rc4, rc5, rc6, rc7, rc8, rc9, rc10, gc0, gc1, gc2, gc3, gc4, q1, q2.blk, hG, hkc, hgl]
                    by_cases hf : Formed g.f g.nv (rowAt g.rows i)
                    · rw [if_neg (by simpa using hf)]
                      have hiw : IntKind.i64.wrap ((i : Int) + 1) = ((i + 1 : Nat) : Int) := by rw [wrap_i64 (by omega) (by omega)]; rfl
                      have next : RowLim g i → ∀ (τ : Tau) (al : AL), U τ al 1 = ptr G → U τ al 3 = .int .i64 ((i + 1 : Nat) : Int) → ∃ y, g.rows.length - y < g.rows.length - i ∧ y ≤ g.rows.length ∧ U τ al 1 = ptr G ∧ U τ al 3 = .int .i64 (y : Nat) ∧ True ∧ True ∧ ∀ j : Nat, j < y → RowLim g j := fun hl τ al a1 a3 => ⟨i + 1, by omega, by omega, a1, a3, trivial, trivial, fun j hj => by
                        rcases Nat.lt_or_ge j i with h | h
                        · exact hall j h
                        · obtain rfl : j = i := by omega
                          exact hl⟩
                      by_cases hk3 : (rowAt g.rows i).k = 3
                      · rw [if_neg (by simpa using hk3), hiw]
                        by_cases hge : ((i + 1 : Nat) : Int) ≥ g.rows.length
                        · rw [if_pos hge]
                          refine noR (fun hf => ?_) (by simp only [U, tset_eq, wW, Option.bind_some, Option.map_some, decide_eq_true_eq, Bool.not_eq_true', decide_eq_false_iff_not, Bool.not_true, Bool.not_false, ne_eq, if_true, if_false, reduceCtorEq, eq_self, Nat.zero_add, Nat.add_zero, not_false_eq_true, Nat.reduceEqDiff])
                          have := ((hf.2.2.2.2.2.2.2.2 i hlt).2 hk3).1
                          omega
                        · rw [if_neg hge]
                          have hlt1 : i + 1 < g.rows.length := by omega
                          obtain ⟨A2, o2, cc2, y1, y2⟩ := hr1.ix (rowAt_get hlt1)
                          refine wloop l84_110100100111100 m84_110100100111100 (fun (k : Nat) τ ds s' => k ≤ 4 ∧ τ 1 = ptr G ∧ τ 3 = .int .i64 i ∧ τ 4 = .int .i64 k ∧ ds = [] ∧ s1 = s' ∧ ∀ j : Nat, j < k → 0 ≤ (rowAt g.rows (i + 1)).w j) (fun k => 4 - k) ?_ 0 ⟨by omega, ?_, ?_, ?_, rfl, rfl, fun k hk => by omega⟩
                          · rintro k τ ds s' ⟨hk, h1, h3, h4, rfl, rfl, hks⟩
                            rw [n84_110100100111100]
                            unfold v84_110100100111100
                            by_cases hk4 : k < 4
                            · have hwk := y2.wire hk4
                              simp (maxSteps := 10000000) only [wW, Option.bind_some, Option.map_some, decide_eq_true_eq, Bool.not_eq_true', decide_eq_false_iff_not, Bool.not_true, Bool.not_false, ne_eq, if_true, if_false, reduceCtorEq, eq_self, Nat.zero_add, Nat.add_zero, not_false_eq_true, Nat.reduceEqDiff, wop_load, wop_indexAddr, wix0, wix1, wix2, rcAll, gcAll, Option.map_some, Nat.reduceAdd, load1 ap_24, load1 ap_3, load1 ap_4, load1 ap_92, load1 ap_32, loadN ap_94, loadN ap_34, loadN ap_58, fa_94_0, fa_94_1, fa_94_2, fa_94_3, fa_94_4, fa_94_5, fa_94_6, fa_94_7, fa_34_0, fa_34_1, fa_34_2, fa_34_3, fa_34_4, rc0, rc1, rc2, rc3, rc4, rc5, rc6, rc7, rc8, rc9, rc10, gc0, gc1, gc2, gc3, gc4, h1, h3, h4, hG, hiw, y1, y2.blk, wix _ _ hk4, hwk]
                              rw [if_pos (by omega)]
                              by_cases hneg : (rowAt g.rows (i + 1)).w k < 0
                              · rw [if_pos hneg]
                                refine noR (fun hf => ?_) (by simp only [U, tset_eq, wW, Option.bind_some, Option.map_some, decide_eq_true_eq, Bool.not_eq_true', decide_eq_false_iff_not, Bool.not_true, Bool.not_false, ne_eq, if_true, if_false, reduceCtorEq, eq_self, Nat.zero_add, Nat.add_zero, not_false_eq_true, Nat.reduceEqDiff])
                                have := ((hf.2.2.2.2.2.2.2.2 i hlt).2 hk3).2 k hk4
                                omega
                              · rw [if_neg hneg, wrap_i64 (by omega) (by omega)]
                                refine ⟨k + 1, by omega, by omega, ?_, ?_, ?_, trivial, trivial, fun j hj => ?_⟩
                                · simp only [U, tset_eq, wW, Option.bind_some, Option.map_some, decide_eq_true_eq, Bool.not_eq_true', decide_eq_false_iff_not, Bool.not_true, Bool.not_false, ne_eq, if_true, if_false, reduceCtorEq, eq_self, Nat.zero_add, Nat.add_zero, not_false_eq_true, Nat.reduceEqDiff, h1]
                                · simp only [U, tset_eq, wW, Option.bind_some, Option.map_some, decide_eq_true_eq, Bool.not_eq_true', decide_eq_false_iff_not, Bool.not_true, Bool.not_false, ne_eq, if_true, if_false, reduceCtorEq, eq_self, Nat.zero_add, Nat.add_zero, not_false_eq_true, Nat.reduceEqDiff, h3]
                                · simp only [U, tset_eq, wW, Option.bind_some, Option.map_some, decide_eq_true_eq, Bool.not_eq_true', decide_eq_false_iff_not, Bool.not_true, Bool.not_false, ne_eq, if_true, if_false, reduceCtorEq, eq_self, Nat.zero_add, Nat.add_zero, not_false_eq_true, Nat.reduceEqDiff]; rfl
                                · rcases Nat.lt_or_ge j k with h | h
                                  · exact hks j h
                                  · obtain rfl : j = k := by omega
                                    omega
                            · obtain rfl : k = 4 := by omega
                              simp (maxSteps := 10000000) only [wW, Option.bind_some, Option.map_some, decide_eq_true_eq, Bool.not_eq_true', decide_eq_false_iff_not, Bool.not_true, Bool.not_false, ne_eq, if_true, if_false, reduceCtorEq, eq_self, Nat.zero_add, Nat.add_zero, not_false_eq_true, Nat.reduceEqDiff, h4]
                              rw [if_neg (by omega)]
                              simp (maxSteps := 10000000) only [U, tset_eq, wW, Option.bind_some, Option.map_some, decide_eq_true_eq, Bool.not_eq_true', decide_eq_false_iff_not, Bool.not_true, Bool.not_false, ne_eq, if_true, if_false, reduceCtorEq, eq_self, Nat.zero_add, Nat.add_zero, not_false_eq_true, Nat.reduceEqDiff, h3, hiw]
                              refine ⟨i + 1, by omega, by omega, ?_, ?_, trivial, trivial, fun j hj => ?_⟩
                              · simp only [h1]
                              · trivial
                              · rcases Nat.lt_or_ge j i with h | h
                                · exact hall j h
                                · obtain rfl : j = i := by omega
                                  exact ⟨hf, fun _ => ⟨hlt1, hks⟩⟩
                          · simp only [U, tset_eq, wW, Option.bind_some, Option.map_some, decide_eq_true_eq, Bool.not_eq_true', decide_eq_false_iff_not, Bool.not_true, Bool.not_false, ne_eq, if_true, if_false, reduceCtorEq, eq_self, Nat.zero_add, Nat.add_zero, not_false_eq_true, Nat.reduceEqDiff, h1]
                          · simp only [U, tset_eq, wW, Option.bind_some, Option.map_some, decide_eq_true_eq, Bool.not_eq_true', decide_eq_false_iff_not, Bool.not_true, Bool.not_false, ne_eq, if_true, if_false, reduceCtorEq, eq_self, Nat.zero_add, Nat.add_zero, not_false_eq_true, Nat.reduceEqDiff, h3]
                          · simp only [U, tset_eq, wW, Option.bind_some, Option.map_some, decide_eq_true_eq, Bool.not_eq_true', decide_eq_false_iff_not, Bool.not_true, Bool.not_false, ne_eq, if_true, if_false, reduceCtorEq, eq_self, Nat.zero_add, Nat.add_zero, not_false_eq_true, Nat.reduceEqDiff]; rfl
                      · rw [if_pos hk3, hiw]
                        refine next ⟨hf, fun h => absurd h hk3⟩ _ _ ?_ ?_ <;> simp only [U, tset_eq, wW, Option.bind_some, Option.map_some, decide_eq_true_eq, Bool.not_eq_true', decide_eq_false_iff_not, Bool.not_true, Bool.not_false, ne_eq, if_true, if_false, reduceCtorEq, eq_self, Nat.zero_add, Nat.add_zero, not_false_eq_true, Nat.reduceEqDiff, h1]
                    · rw [if_pos (by simpa using hf)]
                      refine noR (fun hl => hf ?_) (by simp only [U, tset_eq, wW, Option.bind_some, Option.map_some, decide_eq_true_eq, Bool.not_eq_true', decide_eq_false_iff_not, Bool.not_true, Bool.not_false, ne_eq, if_true, if_false, reduceCtorEq, eq_self, Nat.zero_add, Nat.add_zero, not_false_eq_true, Nat.reduceEqDiff])
                      exact (hl.2.2.2.2.2.2.2.2 i hlt).1
                  · rw [if_neg (by omega)]
                    obtain rfl : i = g.rows.length := by omega
                    refine fin_flat rfl m1.grew ⟨?_, rfl⟩
                    rw [decide_eq_true]
                    exact ⟨hv, by omega, by omega, by omega, by omega, by omega, by omega, by omega, hall⟩
                · simp only [U, tset_eq, wW, Option.bind_some, Option.map_some, decide_eq_true_eq, Bool.not_eq_true', decide_eq_false_iff_not, Bool.not_true, Bool.not_false, ne_eq, if_true, if_false, reduceCtorEq, eq_self, Nat.zero_add, Nat.add_zero, not_false_eq_true, Nat.reduceEqDiff]
                · simp only [U, tset_eq, wW, Option.bind_some, Option.map_some, decide_eq_true_eq, Bool.not_eq_true', decide_eq_false_iff_not, Bool.not_true, Bool.not_false, ne_eq, if_true, if_false, reduceCtorEq, eq_self, Nat.zero_add, Nat.add_zero, not_false_eq_true, Nat.reduceEqDiff]; rfl

end
end Go.VE
/- The reference of the gates: order, Valid. -/
namespace Go.VE
open Go Go.Proofs
set_option maxRecDepth 20000
/-- A list of values of one cell each in a block that was made since a state. -/
structure Vc {α : Type} (e : TypeId) (mk : α → Value) (s0 s : St) (A : Nat) (l : List α) : Prop where
  here : s.at A = some (.cells (l.map mk) e false)
  new : s0.n ≤ A
  wf : Wf s
  grew : Grew s0 s

theorem map_splice {α : Type} (mk : α → Value) (l : List α) (i : Nat) (x : α) (h : i < l.length) : splice (l.map mk) i [mk x] = (l.set i x).map mk := by
  rw [splice_set (by simpa using h)]
  simp [List.map_set]

theorem oneCell_cells {v : Value} (h : v.oneCell' = true) : v.cells = #[v] := by cases v <;> first | rfl | cases h

theorem zeroList_one {v : Value} (h : v.oneCell' = true) (n : Nat) : zeroList v.cells (n * 1) = List.replicate n v := by
  unfold zeroList
  rw [oneCell_cells h, Nat.mul_one]
  refine List.ext_getElem (by simp) fun i h1 h2 => ?_
  simp [Nat.mod_one]

section
variable {ro : Nat} {K : Value → St → Prop}
theorem Vc.store {α : Type} {e : TypeId} {mk : α → Value} {s0 s : St} {A : Nat} {l : List α} (h : Vc e mk s0 s A l) (hs : isz P e = some 1) (hw0 : Wf s0) (hro : ro ≤ s0.n) {i : Nat} (hi : i < l.length) {x : α} (h1 : (mk x).oneCell' = true) {ty : TypeId} {K : Value → St → Prop} (hk : ∀ s', Vc e mk s0 s' A (l.set i x) → (∀ B, B ≠ A → s'.at B = s.at B) → s'.n = s.n → K undef s') :
    wop P ro (.store e (.const (.pointer (some ⟨A, i, none⟩))) (.const (mk x))) ty s K := by
  have hn := h.new
  refine store1_rule hs h.here h.wf (by omega) (by simpa using hi) h1 fun s' p => hk s' ⟨?_, h.new, p.wf, p.grew _ hw0 h.grew h.new⟩ p.rest p.n
  rw [p.here, map_splice _ _ _ _ hi]

theorem make_rule {α : Type} {t e : TypeId} {bytes : Nat} {mk : α → Value} {x : α} (hse : sliceElem P t = some e) (hty : tyOk P e 1 bytes (mk x) = true) (h1 : (mk x).oneCell' = true) {s : St} (hw : Wf s) {n : Int} (h0 : 0 ≤ n) (hn : n ≤ 2 ^ 30) (hb : bytes ≤ 100) {ty : TypeId} {K : Value → St → Prop}
    (hk : ∀ A s', Made s A (.cells ((List.replicate n.toNat x).map mk) e false) s' → K (.slice (some ⟨A, 0, none⟩) n.toNat n.toNat) s') : wop P ro (.makeSlice t (.const (.int .i64 n)) (.const (.int .i64 n))) ty s K := by
  obtain ⟨i, hi, hsz, hby, hz, hf, hzs⟩ := tyOk_spec hty
  rw [wop_makeSlice]
  have hle : bytes * n ≤ 100 * 2 ^ 30 := Int.mul_le_mul (by omega) hn h0 (by omega)
  have hc : flat (mk x) = true ∧ 0 ≤ n ∧ n ≤ n ∧ i.bytes * n ≤ 2 ^ 47 ∧ n ≤ 2 ^ 47 ∧ (mk x).cells.size = i.size := ⟨hf, h0, Int.le_refl _, by rw [hby]; omega, by omega, by rw [hsz]; exact hzs⟩
  simp only [amakeSlice, hse, hi, hz]
  rw [if_pos hc, wopt_some, hsz, zeroList_one h1]
  have := hk s.n (s.new (.cells (List.replicate n.toNat (mk x)) e false))
  rw [List.map_replicate] at this
  exact this (.mk' hw _)

theorem sliceElem_un {t e : TypeId} (he : sliceElem P t = some e) : P.underlying t = some (.slice e) := by
  unfold sliceElem at he
  split at he
  · rename_i e' hu; cases he; exact hu
  · cases he

theorem ixc {t e : TypeId} (hse : sliceElem P t = some e) (hs : isz P e = some 1) {A n c : Nat} {i : Int} (h0 : 0 ≤ i) (hi : i < n) : aindexAddr P t (.slice (some ⟨A, 0, none⟩) n c) (.int .i64 i) = some (.pointer (some ⟨A, i.toNat, none⟩)) := by
  simp only [aindexAddr, sliceElem_un hse, hs, Option.bind_some, aplace, h0, hi, and_self, if_true, Nat.mul_one, Nat.zero_add]

theorem max_i64 (a b : Int) (ty : TypeId) (s : St) (K : Value → St → Prop) : wop P ro (.call ⟨.builtin .max, ⟨[.const (.int .i64 a), .const (.int .i64 b)]⟩, #[3, 3]⟩) ty s K = K (.int .i64 (if a < b then b else a)) s := by kernel_rfl

end
/-! ### depths -/
def dInit (n0 : Int) (i : Nat) (D : List Int) : List Int := if (i : Int) < n0 then (D.set i (-1)).set i 0 else D.set i (-1)
def mostM (r : Row) (D : List Int) : List Int → Int → Option Int
  | [], m => some m
  | j :: l, m => if at0 D (r.w j.toNat) < 0 ∧ ¬ (r.k = 1 ∧ j = 2) then none else mostM r D l (if m < at0 D (r.w j.toNat) then at0 D (r.w j.toNat) else m)
def dNext (m : Int) (nx : Row) (k : Nat) (D : List Int) : List Int := if at0 D (nx.w k) < 0 then D.set (nx.w k).toNat (m + 1) else D
def dArith (r : Row) (m : Int) (D : List Int) : List Int := if r.k = 1 ∧ r.qo ≠ 0 ∧ at0 D r.w2 < 0 then D.set r.w2.toNat (m + 1) else D
def dRow (r nx : Row) (m : Int) (D : List Int) : List Int := if r.k = 3 then it (dNext m nx) 4 (dArith r m D) else dArith r m D
def stepD (g : Gp) (i : Nat) (D : List Int) : Option (List Int) := (mostM (rowAt g.rows i) D (rds (rowAt g.rows i)) 0).map fun m => dRow (rowAt g.rows i) (rowAt g.rows (i + 1)) m D
def orderD (g : Gp) : Nat → Option (List Int)
  | 0 => some (it (dInit (g.pub + g.sec)) g.nv.toNat (List.replicate g.nv.toNat 0))
  | i + 1 => (orderD g i).bind (stepD g i)
def orderM (g : Gp) : Option (List Int) := (orderD g g.rows.length).bind fun D => if D.all (fun x => decide (0 ≤ x)) then some D else none

theorem orderD_none {g : Gp} {i : Nat} (h : orderD g i = none) : ∀ {n : Nat}, i ≤ n → orderD g n = none
  | 0, hn => by obtain rfl : i = 0 := by omega
                exact h
  | n + 1, hn => by
    rcases Nat.lt_or_ge i (n + 1) with hlt | hge
    · rw [orderD, orderD_none h (by omega)]; rfl
    · obtain rfl : i = n + 1 := by omega
      exact h

def Dep (N : Nat) (m : Int) (D : List Int) : Prop := D.length = N ∧ ∀ x ∈ D, -1 ≤ x ∧ x ≤ m
theorem Dep.set {N : Nat} {m : Int} {D : List Int} (h : Dep N m D) {i : Nat} {x : Int} (hx : -1 ≤ x ∧ x ≤ m) : Dep N m (D.set i x) := ⟨by rw [List.length_set]; exact h.1, fun y hy => by
  rcases List.mem_or_eq_of_mem_set hy with hy | rfl
  · exact h.2 y hy
  · exact hx⟩
theorem Dep.mono {N : Nat} {m m' : Int} {D : List Int} (h : Dep N m D) (hm : m ≤ m') : Dep N m' D := ⟨h.1, fun x hx => ⟨(h.2 x hx).1, Int.le_trans (h.2 x hx).2 hm⟩⟩
theorem Dep.at0 {N : Nat} {m : Int} {D : List Int} (h : Dep N m D) (hm : 0 ≤ m) (i : Int) : -1 ≤ Go.VE.at0 D i ∧ Go.VE.at0 D i ≤ m := by
  unfold Go.VE.at0
  cases hx : D[i.toNat]? with
  | none => exact ⟨by decide, hm⟩
  | some x => exact h.2 x (List.mem_of_getElem? hx)
theorem Dep.init {N : Nat} {n0 : Int} {D : List Int} (h : Dep N 0 D) (i : Nat) : Dep N 0 (dInit n0 i D) := by
  unfold dInit
  split
  · exact (h.set (by decide)).set (by decide)
  · exact h.set (by decide)
theorem Dep.arith {N : Nat} {i m : Int} {D : List Int} {r : Row} (h : Dep N i D) (hm : -1 ≤ m ∧ m ≤ i) : Dep N (i + 1) (dArith r m D) := by
  unfold dArith
  split
  · exact (h.mono (by omega)).set (by omega)
  · exact h.mono (by omega)
theorem Dep.next {N : Nat} {i m : Int} {D : List Int} {r : Row} {k : Nat} (h : Dep N (i + 1) D) (hm : -1 ≤ m ∧ m ≤ i) : Dep N (i + 1) (dNext m r k D) := by
  unfold dNext
  split
  · exact h.set (by omega)
  · exact h
theorem Dep.nexts {N : Nat} {i m : Int} {D : List Int} {r : Row} (h : Dep N (i + 1) D) (hm : -1 ≤ m ∧ m ≤ i) : ∀ n, Dep N (i + 1) (it (dNext m r) n D)
  | 0 => h
  | n + 1 => (Dep.nexts h hm n).next hm
theorem Dep.inits {N : Nat} {n0 : Int} {D : List Int} (h : Dep N 0 D) : ∀ n, Dep N 0 (it (dInit n0) n D)
  | 0 => h
  | n + 1 => (Dep.inits h n).init n

end Go.VE
/- The reference of the gates: order, Valid. -/
namespace Go.VE
open Go Go.Proofs
set_option maxRecDepth 20000
/-- What order keeps: the program's block, and the depths. -/
structure OrdI (ro : Nat) (g : Gp) (ur : Value) (s0 : St) (G A : Nat) (s : St) (D : List Int) : Prop where
  vc : Vc 3 (.int .i64) s0 s A D
  gat : s.at G = some (.cells (g.cells ur) 34 false)
  len : D.length = g.nv.toNat
  w0 : Wf s0
  ro : ro ≤ s0.n
  rows : RowsS s0 ur g.rows
  ne : G ≠ A

section
variable {ro : Nat} {K : Value → St → Prop} {g : Gp} {ur : Value} {s0 : St} {G A : Nat} {s : St} {D : List Int}
theorem OrdI.rs (h : OrdI ro g ur s0 G A s D) : RowsS s ur g.rows := Sl.grew h.rows h.vc.grew.same
theorem OrdI.gc (h : OrdI ro g ur s0 G A s D) : acells (s.at G) = some (g.cells ur) := acells_some h.gat
theorem OrdI.dc (h : OrdI ro g ur s0 G A s D) : acells (s.at A) = some (D.map (.int .i64)) := acells_some h.vc.here
theorem OrdI.get (h : OrdI ro g ur s0 G A s D) {i : Int} (h0 : 0 ≤ i) (hi : i < g.nv) : (D.map (Value.int .i64))[i.toNat]? = some (.int .i64 (at0 D i)) := by
  have := h.len
  rw [List.getElem?_map, at0_get h0 (by omega)]; rfl
theorem OrdI.store (h : OrdI ro g ur s0 G A s D) {i : Int} (h0 : 0 ≤ i) (hi : i < g.nv) {x : Int} {ty : TypeId} {K : Value → St → Prop} (hk : ∀ s', OrdI ro g ur s0 G A s' (D.set i.toNat x) → (∀ B, B ≠ A → s'.at B = s.at B) → K undef s') :
    wop P ro (.store 3 (.const (.pointer (some ⟨A, i.toNat, none⟩))) (.const (.int .i64 x))) ty s K := by
  have := h.len
  exact h.vc.store isz_3 h.w0 h.ro (by omega) rfl fun s' v r _ => hk s' ⟨v, (r G h.ne).trans h.gat, by rw [List.length_set]; exact h.len, h.w0, h.ro, h.rows, h.ne⟩ r
theorem OrdI.grew (h : OrdI ro g ur s0 G A s D) {s' : St} (hg : Grew s s') : OrdI ro g ur s0 G A s' D :=
  ⟨⟨(hg.same A (St.at_lt h.vc.here)).trans h.vc.here, h.vc.new, h.vc.wf.grew hg, h.vc.grew.trans hg⟩, (hg.same G (St.at_lt h.gat)).trans h.gat, h.len, h.w0, h.ro, h.rows, h.ne⟩

theorem Limits.row {i : Nat} (h : Limits g) (hi : i < g.rows.length) : RowLim g i := h.2.2.2.2.2.2.2.2 i hi
theorem Limits.wire {i : Nat} (h : Limits g) (hi : i < g.rows.length) {k : Nat} (hk : k < 4) : -1 ≤ (rowAt g.rows i).w k ∧ (rowAt g.rows i).w k < g.nv := (h.row hi).1.2.2.2.2.2.1 k hk
theorem Limits.next {i : Nat} (h : Limits g) (hi : i < g.rows.length) (h3 : (rowAt g.rows i).k = 3) : i + 1 < g.rows.length ∧ ∀ k : Nat, k < 4 → 0 ≤ (rowAt g.rows (i + 1)).w k ∧ (rowAt g.rows (i + 1)).w k < g.nv :=
  ⟨((h.row hi).2 h3).1, fun k hk => ⟨((h.row hi).2 h3).2 k hk, (h.wire ((h.row hi).2 h3).1 hk).2⟩⟩
theorem Limits.reads {i : Nat} (h : Limits g) (hi : i < g.rows.length) {j : Int} (hj : j ∈ rds (rowAt g.rows i)) : 0 ≤ (rowAt g.rows i).w j.toNat ∧ (rowAt g.rows i).w j.toNat < g.nv := by
  have h4 := rds_lt _ j hj
  exact ⟨(h.row hi).1.2.2.2.2.2.2 j hj, (h.wire hi (by omega)).2⟩
theorem Limits.nv (h : Limits g) : 0 ≤ g.nv ∧ g.nv ≤ 40000 := ⟨by have := h.2.1; have := h.2.2.2.1; have := h.2.2.2.2.2.1; omega, h.2.2.2.2.2.2.1⟩
theorem rds_2 {r : Row} (h1 : r.k = 1) (hq : r.qo ≠ 0) : (2 : Int) ∈ rds r := by
  unfold rds
  rw [if_pos h1, if_pos hq]
  simp

abbrev slc (A n : Nat) : Value := .slice (some ⟨A, 0, none⟩) n n

theorem ordNext (hL : Limits g) (hI : OrdI ro g ur s0 G A s D) {i : Nat} (hi : i < g.rows.length) {R : Nat} (hR : s.at R = some (.cells (rowAt g.rows i).cells 94 false)) (hRA : R ≠ A) {m : Int} (hm : 0 ≤ m ∧ m ≤ i)
    {τ : Tau} {ds : List Deferred} {Qe : Ex → XK} (h1 : τ 1 = ptr G) (h4 : τ 4 = slc A g.nv.toNat) (h6 : τ 6 = .int .i64 i) (h7 : τ 7 = ptr R) (h9 : τ 9 = .int .i64 m)
    (hk : ∀ τ' al s', U τ' al 1 = ptr G → U τ' al 4 = slc A g.nv.toNat → U τ' al 6 = .int .i64 i → OrdI ro g ur s0 G A s' (if (rowAt g.rows i).k = 3 then it (dNext m (rowAt g.rows (i + 1))) 4 D else D) → Qe .normal τ' al ds s') :
    xp (prims P ro) none 153 k85_1110100 c85_111010010011111 [1, 1, 1, 1, 1, 0, 0, 1] τ [] ds s Qe := by
  have hnv := hL.nv
  have hrl := hL.2.2.2.2.2.2.2.1
  rw [n85_111010010011111]
  unfold v85_111010010011111
  have hRc : acells (s.at R) = some (rowAt g.rows i).cells := acells_some hR
  simp (maxSteps := 10000000) only [wW, Option.bind_some, Option.map_some, decide_eq_true_eq, Bool.not_eq_true', decide_eq_false_iff_not, Bool.not_true, Bool.not_false, ne_eq, if_true, if_false, reduceCtorEq, eq_self, Nat.zero_add, Nat.add_zero, not_false_eq_true, Nat.reduceEqDiff, wop_load, wop_indexAddr, wix0, wix1, wix2, rcAll, gcAll, Option.map_some, Nat.reduceAdd, load1 ap_24, load1 ap_3, load1 ap_4, load1 ap_92, load1 ap_32, loadN ap_94, loadN ap_34, loadN ap_58, fa_94_0, fa_94_1, fa_94_2, fa_94_3, fa_94_4, fa_94_5, fa_94_6, fa_94_7, fa_34_0, fa_34_1, fa_34_2, fa_34_3, fa_34_4, rc0, rc1, rc2, rc3, rc4, rc5, rc6, rc7, rc8, rc9, rc10, gc0, gc1, gc2, gc3, gc4, h7, hRc]
  by_cases h3 : (rowAt g.rows i).k = 3
  · rw [if_pos h3] at hk ⊢
    have hn := hL.next hi h3
    refine wloop l85_11101001001111110100 m85_11101001001111110100 (fun (k : Nat) τ ds' s' => k ≤ 4 ∧ τ 1 = ptr G ∧ τ 4 = slc A g.nv.toNat ∧ τ 6 = .int .i64 i ∧ τ 9 = .int .i64 m ∧ τ 12 = .int .i64 k ∧ ds = ds' ∧ OrdI ro g ur s0 G A s' (it (dNext m (rowAt g.rows (i + 1))) k D)) (fun k => 4 - k) ?_ 0 ⟨by omega, ?_, ?_, ?_, ?_, rfl, rfl, hI⟩
    · clear h1 h4 h6 h7 h9 hI hR hRc
      rintro k τ ds' s' ⟨hk4', h1, h4, h6, h9, h12, rfl, hI⟩
      rw [n85_11101001001111110100]
      unfold v85_11101001001111110100
      by_cases hk4 : k < 4
      · have hx := hn.2 k hk4
        obtain ⟨A2, o2, c2, y1, y2⟩ := hI.rs.ix (rowAt_get hn.1)
        have hiw : IntKind.i64.wrap ((i : Int) + 1) = ((i + 1 : Nat) : Int) := by rw [wrap_i64 (by omega) (by omega)]; rfl
        have hwk := y2.wire hk4
        have hix := ixc se_30 isz_3 (A := A) (n := g.nv.toNat) (c := g.nv.toNat) (i := (rowAt g.rows (i + 1)).w k) hx.1 (by omega)
        have hgt := hI.get hx.1 hx.2
        simp (maxSteps := 10000000) only [wW, Option.bind_some, Option.map_some, decide_eq_true_eq, Bool.not_eq_true', decide_eq_false_iff_not, Bool.not_true, Bool.not_false, ne_eq, if_true, if_false, reduceCtorEq, eq_self, Nat.zero_add, Nat.add_zero, not_false_eq_true, Nat.reduceEqDiff, wop_load, wop_indexAddr, wix0, wix1, wix2, rcAll, gcAll, Option.map_some, Nat.reduceAdd, load1 ap_24, load1 ap_3, load1 ap_4, load1 ap_92, load1 ap_32, loadN ap_94, loadN ap_34, loadN ap_58, fa_94_0, fa_94_1, fa_94_2, fa_94_3, fa_94_4, fa_94_5, fa_94_6, fa_94_7, fa_34_0, fa_34_1, fa_34_2, fa_34_3, fa_34_4, rc0, rc1, rc2, rc3, rc4, rc5, rc6, rc7, rc8, rc9, rc10, gc0, gc1, gc2, gc3, gc4, h1, h4, h6, h9, h12, hI.gc, hiw, y1, y2.blk, wix _ _ hk4, hwk, hix, hI.dc, hgt]
        rw [if_pos (by omega)]
        by_cases hneg : at0 (it (dNext m (rowAt g.rows (i + 1))) k D) ((rowAt g.rows (i + 1)).w k) < 0
        · rw [if_pos hneg, wrap_i64 (n := m + 1) (by omega) (by omega)]
          refine hI.store hx.1 hx.2 fun s2 hI2 _ => ?_
          rw [wrap_i64 (by omega) (by omega)]
          refine ⟨k + 1, by omega, by omega, ?_, ?_, ?_, ?_, ?_, trivial, ?_⟩
          · simp only [U, tset_eq, wW, Option.bind_some, Option.map_some, decide_eq_true_eq, Bool.not_eq_true', decide_eq_false_iff_not, Bool.not_true, Bool.not_false, ne_eq, if_true, if_false, reduceCtorEq, eq_self, Nat.zero_add, Nat.add_zero, not_false_eq_true, Nat.reduceEqDiff, h1]
          · simp only [U, tset_eq, wW, Option.bind_some, Option.map_some, decide_eq_true_eq, Bool.not_eq_true', decide_eq_false_iff_not, Bool.not_true, Bool.not_false, ne_eq, if_true, if_false, reduceCtorEq, eq_self, Nat.zero_add, Nat.add_zero, not_false_eq_true, Nat.reduceEqDiff, h4]
          · simp only [U, tset_eq, wW, Option.bind_some, Option.map_some, decide_eq_true_eq, Bool.not_eq_true', decide_eq_false_iff_not, Bool.not_true, Bool.not_false, ne_eq, if_true, if_false, reduceCtorEq, eq_self, Nat.zero_add, Nat.add_zero, not_false_eq_true, Nat.reduceEqDiff, h6]
          · simp only [U, tset_eq, wW, Option.bind_some, Option.map_some, decide_eq_true_eq, Bool.not_eq_true', decide_eq_false_iff_not, Bool.not_true, Bool.not_false, ne_eq, if_true, if_false, reduceCtorEq, eq_self, Nat.zero_add, Nat.add_zero, not_false_eq_true, Nat.reduceEqDiff, h9]
          · simp only [U, tset_eq, wW, Option.bind_some, Option.map_some, decide_eq_true_eq, Bool.not_eq_true', decide_eq_false_iff_not, Bool.not_true, Bool.not_false, ne_eq, if_true, if_false, reduceCtorEq, eq_self, Nat.zero_add, Nat.add_zero, not_false_eq_true, Nat.reduceEqDiff]; rfl
          · rw [it, dNext, if_pos hneg]
            exact hI2
        · rw [if_neg hneg, wrap_i64 (by omega) (by omega)]
          refine ⟨k + 1, by omega, by omega, ?_, ?_, ?_, ?_, ?_, trivial, ?_⟩
          · simp only [U, tset_eq, wW, Option.bind_some, Option.map_some, decide_eq_true_eq, Bool.not_eq_true', decide_eq_false_iff_not, Bool.not_true, Bool.not_false, ne_eq, if_true, if_false, reduceCtorEq, eq_self, Nat.zero_add, Nat.add_zero, not_false_eq_true, Nat.reduceEqDiff, h1]
          · simp only [U, tset_eq, wW, Option.bind_some, Option.map_some, decide_eq_true_eq, Bool.not_eq_true', decide_eq_false_iff_not, Bool.not_true, Bool.not_false, ne_eq, if_true, if_false, reduceCtorEq, eq_self, Nat.zero_add, Nat.add_zero, not_false_eq_true, Nat.reduceEqDiff, h4]
          · simp only [U, tset_eq, wW, Option.bind_some, Option.map_some, decide_eq_true_eq, Bool.not_eq_true', decide_eq_false_iff_not, Bool.not_true, Bool.not_false, ne_eq, if_true, if_false, reduceCtorEq, eq_self, Nat.zero_add, Nat.add_zero, not_false_eq_true, Nat.reduceEqDiff, h6]
          · simp only [U, tset_eq, wW, Option.bind_some, Option.map_some, decide_eq_true_eq, Bool.not_eq_true', decide_eq_false_iff_not, Bool.not_true, Bool.not_false, ne_eq, if_true, if_false, reduceCtorEq, eq_self, Nat.zero_add, Nat.add_zero, not_false_eq_true, Nat.reduceEqDiff, h9]
          · simp only [U, tset_eq, wW, Option.bind_some, Option.map_some, decide_eq_true_eq, Bool.not_eq_true', decide_eq_false_iff_not, Bool.not_true, Bool.not_false, ne_eq, if_true, if_false, reduceCtorEq, eq_self, Nat.zero_add, Nat.add_zero, not_false_eq_true, Nat.reduceEqDiff]; rfl
          · rw [it, dNext, if_neg hneg]
            exact hI
      · obtain rfl : k = 4 := by omega
        simp (maxSteps := 10000000) only [wW, Option.bind_some, Option.map_some, decide_eq_true_eq, Bool.not_eq_true', decide_eq_false_iff_not, Bool.not_true, Bool.not_false, ne_eq, if_true, if_false, reduceCtorEq, eq_self, Nat.zero_add, Nat.add_zero, not_false_eq_true, Nat.reduceEqDiff, h12]
        rw [if_neg (by omega)]
        refine hk _ [] _ ?_ ?_ ?_ hI
        · simp only [U, tset_eq, wW, Option.bind_some, Option.map_some, decide_eq_true_eq, Bool.not_eq_true', decide_eq_false_iff_not, Bool.not_true, Bool.not_false, ne_eq, if_true, if_false, reduceCtorEq, eq_self, Nat.zero_add, Nat.add_zero, not_false_eq_true, Nat.reduceEqDiff, h1]
        · simp only [U, tset_eq, wW, Option.bind_some, Option.map_some, decide_eq_true_eq, Bool.not_eq_true', decide_eq_false_iff_not, Bool.not_true, Bool.not_false, ne_eq, if_true, if_false, reduceCtorEq, eq_self, Nat.zero_add, Nat.add_zero, not_false_eq_true, Nat.reduceEqDiff, h4]
        · simp only [U, tset_eq, wW, Option.bind_some, Option.map_some, decide_eq_true_eq, Bool.not_eq_true', decide_eq_false_iff_not, Bool.not_true, Bool.not_false, ne_eq, if_true, if_false, reduceCtorEq, eq_self, Nat.zero_add, Nat.add_zero, not_false_eq_true, Nat.reduceEqDiff, h6]
    · simp only [U, tset_eq, wW, Option.bind_some, Option.map_some, decide_eq_true_eq, Bool.not_eq_true', decide_eq_false_iff_not, Bool.not_true, Bool.not_false, ne_eq, if_true, if_false, reduceCtorEq, eq_self, Nat.zero_add, Nat.add_zero, not_false_eq_true, Nat.reduceEqDiff, h1]
    · simp only [U, tset_eq, wW, Option.bind_some, Option.map_some, decide_eq_true_eq, Bool.not_eq_true', decide_eq_false_iff_not, Bool.not_true, Bool.not_false, ne_eq, if_true, if_false, reduceCtorEq, eq_self, Nat.zero_add, Nat.add_zero, not_false_eq_true, Nat.reduceEqDiff, h4]
    · simp only [U, tset_eq, wW, Option.bind_some, Option.map_some, decide_eq_true_eq, Bool.not_eq_true', decide_eq_false_iff_not, Bool.not_true, Bool.not_false, ne_eq, if_true, if_false, reduceCtorEq, eq_self, Nat.zero_add, Nat.add_zero, not_false_eq_true, Nat.reduceEqDiff, h6]
    · simp only [U, tset_eq, wW, Option.bind_some, Option.map_some, decide_eq_true_eq, Bool.not_eq_true', decide_eq_false_iff_not, Bool.not_true, Bool.not_false, ne_eq, if_true, if_false, reduceCtorEq, eq_self, Nat.zero_add, Nat.add_zero, not_false_eq_true, Nat.reduceEqDiff, h9]
  · rw [if_neg h3] at hk ⊢
    refine hk _ _ _ ?_ ?_ ?_ hI
    · simp only [U, tset_eq, wW, Option.bind_some, Option.map_some, decide_eq_true_eq, Bool.not_eq_true', decide_eq_false_iff_not, Bool.not_true, Bool.not_false, ne_eq, if_true, if_false, reduceCtorEq, eq_self, Nat.zero_add, Nat.add_zero, not_false_eq_true, Nat.reduceEqDiff, h1]
    · simp only [U, tset_eq, wW, Option.bind_some, Option.map_some, decide_eq_true_eq, Bool.not_eq_true', decide_eq_false_iff_not, Bool.not_true, Bool.not_false, ne_eq, if_true, if_false, reduceCtorEq, eq_self, Nat.zero_add, Nat.add_zero, not_false_eq_true, Nat.reduceEqDiff, h4]
    · simp only [U, tset_eq, wW, Option.bind_some, Option.map_some, decide_eq_true_eq, Bool.not_eq_true', decide_eq_false_iff_not, Bool.not_true, Bool.not_false, ne_eq, if_true, if_false, reduceCtorEq, eq_self, Nat.zero_add, Nat.add_zero, not_false_eq_true, Nat.reduceEqDiff, h6]

theorem ordArith (hL : Limits g) (hI : OrdI ro g ur s0 G A s D) {i : Nat} (hi : i < g.rows.length) {R : Nat} (hR : s.at R = some (.cells (rowAt g.rows i).cells 94 false)) (hRA : R ≠ A) {m : Int} (hm : 0 ≤ m ∧ m ≤ i)
    {τ : Tau} {ds : List Deferred} {Qe : Ex → XK} (hQ : QOk Qe) (h1 : τ 1 = ptr G) (h4 : τ 4 = slc A g.nv.toNat) (h6 : τ 6 = .int .i64 i) (h7 : τ 7 = ptr R) (h9 : τ 9 = .int .i64 m)
    {b : Bool} (h100 : τ 100 = .bool b) (hb : b = true ↔ (rowAt g.rows i).k = 1 ∧ (rowAt g.rows i).qo ≠ 0 ∧ at0 D (rowAt g.rows i).w2 < 0)
    (hk : ∀ τ' al s', U τ' al 1 = ptr G → U τ' al 4 = slc A g.nv.toNat → U τ' al 6 = .int .i64 i → OrdI ro g ur s0 G A s' (dRow (rowAt g.rows i) (rowAt g.rows (i + 1)) m D) → Qe .normal τ' al ds s') :
    xp (prims P ro) none 153 k85_1110100 c85_1110100100111101 [1, 0, 1, 1, 1, 1, 0, 0, 1] τ [] ds s (sX (prims P ro) none 153 k85_1110100 c85_111010010011111 [1, 1, 1, 1, 1, 0, 0, 1] Qe) := by
  have hnv := hL.nv
  have hrl := hL.2.2.2.2.2.2.2.1
  generalize hX : sX (prims P ro) none 153 k85_1110100 c85_111010010011111 [1, 1, 1, 1, 1, 0, 0, 1] Qe = X
  rw [n85_1110100100111101]
  unfold v85_1110100100111101
  have hRc : acells (s.at R) = some (rowAt g.rows i).cells := acells_some hR
  rw [h100, h4, h7, h9]
  simp (maxSteps := 10000000) only [wW, Option.bind_some, Option.map_some, decide_eq_true_eq, Bool.not_eq_true', decide_eq_false_iff_not, Bool.not_true, Bool.not_false, ne_eq, if_true, if_false, reduceCtorEq, eq_self, Nat.zero_add, Nat.add_zero, not_false_eq_true, Nat.reduceEqDiff, wop_load, wop_indexAddr, wix0, wix1, wix2, rcAll, gcAll, Option.map_some, Nat.reduceAdd, load1 ap_24, load1 ap_3, load1 ap_4, load1 ap_92, load1 ap_32, loadN ap_94, loadN ap_34, loadN ap_58, fa_94_0, fa_94_1, fa_94_2, fa_94_3, fa_94_4, fa_94_5, fa_94_6, fa_94_7, fa_34_0, fa_34_1, fa_34_2, fa_34_3, fa_34_4, rc0, rc1, rc2, rc3, rc4, rc5, rc6, rc7, rc8, rc9, rc10, gc0, gc1, gc2, gc3, gc4, hRc]
  by_cases hbt : b = true
  · rw [if_pos hbt]
    have hc := hb.1 hbt
    have hw2 := hL.reads hi (rds_2 hc.1 hc.2.1)
    have hw2' : 0 ≤ (rowAt g.rows i).w2 ∧ (rowAt g.rows i).w2 < g.nv := hw2
    have hix := ixc se_30 isz_3 (A := A) (n := g.nv.toNat) (c := g.nv.toNat) (i := (rowAt g.rows i).w2) hw2'.1 (by omega)
    simp (maxSteps := 10000000) only [wW, Option.bind_some, Option.map_some, decide_eq_true_eq, Bool.not_eq_true', decide_eq_false_iff_not, Bool.not_true, Bool.not_false, ne_eq, if_true, if_false, reduceCtorEq, eq_self, Nat.zero_add, Nat.add_zero, not_false_eq_true, Nat.reduceEqDiff, wop_load, wop_indexAddr, wix0, wix1, wix2, rcAll, gcAll, Option.map_some, Nat.reduceAdd, load1 ap_24, load1 ap_3, load1 ap_4, load1 ap_92, load1 ap_32, loadN ap_94, loadN ap_34, loadN ap_58, fa_94_0, fa_94_1, fa_94_2, fa_94_3, fa_94_4, fa_94_5, fa_94_6, fa_94_7, fa_34_0, fa_34_1, fa_34_2, fa_34_3, fa_34_4, rc0, rc1, rc2, rc3, rc4, rc5, rc6, rc7, rc8, rc9, rc10, gc0, gc1, gc2, gc3, gc4, hix]
    rw [wrap_i64 (n := m + 1) (by omega) (by omega)]
    refine hI.store hw2'.1 hw2'.2 fun s2 hI2 r2 => ?_
    rw [← hX, sX_n hQ]
    have e : dArith (rowAt g.rows i) m D = D.set (rowAt g.rows i).w2.toNat (m + 1) := by unfold dArith; rw [if_pos hc]
    rw [← e] at hI2
    refine ordNext hL hI2 hi ((r2 R hRA).trans hR) hRA hm ?_ ?_ ?_ ?_ ?_ hk
    · simp only [U, tset_eq, wW, Option.bind_some, Option.map_some, decide_eq_true_eq, Bool.not_eq_true', decide_eq_false_iff_not, Bool.not_true, Bool.not_false, ne_eq, if_true, if_false, reduceCtorEq, eq_self, Nat.zero_add, Nat.add_zero, not_false_eq_true, Nat.reduceEqDiff, h1]
    · simp only [U, tset_eq, wW, Option.bind_some, Option.map_some, decide_eq_true_eq, Bool.not_eq_true', decide_eq_false_iff_not, Bool.not_true, Bool.not_false, ne_eq, if_true, if_false, reduceCtorEq, eq_self, Nat.zero_add, Nat.add_zero, not_false_eq_true, Nat.reduceEqDiff, h4]
    · simp only [U, tset_eq, wW, Option.bind_some, Option.map_some, decide_eq_true_eq, Bool.not_eq_true', decide_eq_false_iff_not, Bool.not_true, Bool.not_false, ne_eq, if_true, if_false, reduceCtorEq, eq_self, Nat.zero_add, Nat.add_zero, not_false_eq_true, Nat.reduceEqDiff, h6]
    · simp only [U, tset_eq, wW, Option.bind_some, Option.map_some, decide_eq_true_eq, Bool.not_eq_true', decide_eq_false_iff_not, Bool.not_true, Bool.not_false, ne_eq, if_true, if_false, reduceCtorEq, eq_self, Nat.zero_add, Nat.add_zero, not_false_eq_true, Nat.reduceEqDiff, h7]
    · simp only [U, tset_eq, wW, Option.bind_some, Option.map_some, decide_eq_true_eq, Bool.not_eq_true', decide_eq_false_iff_not, Bool.not_true, Bool.not_false, ne_eq, if_true, if_false, reduceCtorEq, eq_self, Nat.zero_add, Nat.add_zero, not_false_eq_true, Nat.reduceEqDiff, h9]
  · rw [if_neg hbt]
    have hc := fun h => hbt (hb.2 h)
    rw [← hX, sX_n hQ]
    have e : dArith (rowAt g.rows i) m D = D := by unfold dArith; rw [if_neg hc]
    have hI' := hI
    rw [← e] at hI'
    refine ordNext hL hI' hi hR hRA hm ?_ ?_ ?_ ?_ ?_ hk
    · simp only [U, tset_eq, wW, Option.bind_some, Option.map_some, decide_eq_true_eq, Bool.not_eq_true', decide_eq_false_iff_not, Bool.not_true, Bool.not_false, ne_eq, if_true, if_false, reduceCtorEq, eq_self, Nat.zero_add, Nat.add_zero, not_false_eq_true, Nat.reduceEqDiff, h1]
    · simp only [U, tset_eq, wW, Option.bind_some, Option.map_some, decide_eq_true_eq, Bool.not_eq_true', decide_eq_false_iff_not, Bool.not_true, Bool.not_false, ne_eq, if_true, if_false, reduceCtorEq, eq_self, Nat.zero_add, Nat.add_zero, not_false_eq_true, Nat.reduceEqDiff, h4]
    · simp only [U, tset_eq, wW, Option.bind_some, Option.map_some, decide_eq_true_eq, Bool.not_eq_true', decide_eq_false_iff_not, Bool.not_true, Bool.not_false, ne_eq, if_true, if_false, reduceCtorEq, eq_self, Nat.zero_add, Nat.add_zero, not_false_eq_true, Nat.reduceEqDiff, h6]
    · simp only [U, tset_eq, wW, Option.bind_some, Option.map_some, decide_eq_true_eq, Bool.not_eq_true', decide_eq_false_iff_not, Bool.not_true, Bool.not_false, ne_eq, if_true, if_false, reduceCtorEq, eq_self, Nat.zero_add, Nat.add_zero, not_false_eq_true, Nat.reduceEqDiff, h7]
    · simp only [U, tset_eq, wW, Option.bind_some, Option.map_some, decide_eq_true_eq, Bool.not_eq_true', decide_eq_false_iff_not, Bool.not_true, Bool.not_false, ne_eq, if_true, if_false, reduceCtorEq, eq_self, Nat.zero_add, Nat.add_zero, not_false_eq_true, Nat.reduceEqDiff, h9]

end
end Go.VE
/- The reference of the gates: order, Valid. -/
namespace Go.VE
open Go Go.Proofs
set_option maxRecDepth 20000
section
variable {ro : Nat} {K : Value → St → Prop} {g : Gp} {ur : Value} {s0 : St} {G A : Nat} {s : St} {D : List Int}
theorem ordEnd {τ : Tau} {al : AL} {ds : List Deferred} {Q : Ex → WK} {i : Nat} (hi : i ≤ 8000) (h6 : U τ al 6 = .int .i64 i)
    (hk : ∀ τ', τ' 1 = U τ al 1 → τ' 4 = U τ al 4 → τ' 6 = .int .i64 ((i + 1 : Nat) : Int) → Q .normal τ' ds s) :
    blkX 3 (sX (prims P ro) none 153 k85_1110100 c85_111010011 [1, 1] (lift Q)) .normal τ al ds s := by
  rw [blkX_n, sX_n (.lift _), n85_111010011]
  unfold v85_111010011
  rw [h6]
  simp (maxSteps := 10000000) only [wW, Option.bind_some, Option.map_some, decide_eq_true_eq, Bool.not_eq_true', decide_eq_false_iff_not, Bool.not_true, Bool.not_false, ne_eq, if_true, if_false, reduceCtorEq, eq_self, Nat.zero_add, Nat.add_zero, not_false_eq_true, Nat.reduceEqDiff]
  rw [wrap_i64 (by omega) (by omega)]
  unfold lift
  refine hk _ ?_ ?_ ?_
  · simp only [U, tset_eq, wW, Option.bind_some, Option.map_some, decide_eq_true_eq, Bool.not_eq_true', decide_eq_false_iff_not, Bool.not_true, Bool.not_false, ne_eq, if_true, if_false, reduceCtorEq, eq_self, Nat.zero_add, Nat.add_zero, not_false_eq_true, Nat.reduceEqDiff]
  · simp only [U, tset_eq, wW, Option.bind_some, Option.map_some, decide_eq_true_eq, Bool.not_eq_true', decide_eq_false_iff_not, Bool.not_true, Bool.not_false, ne_eq, if_true, if_false, reduceCtorEq, eq_self, Nat.zero_add, Nat.add_zero, not_false_eq_true, Nat.reduceEqDiff]
  · simp only [U, tset_eq, wW, Option.bind_some, Option.map_some, decide_eq_true_eq, Bool.not_eq_true', decide_eq_false_iff_not, Bool.not_true, Bool.not_false, ne_eq, if_true, if_false, reduceCtorEq, eq_self, Nat.zero_add, Nat.add_zero, not_false_eq_true, Nat.reduceEqDiff]; rfl

theorem wOrder (g : Gp) (hL : Limits g) {s : St} {ur : Value} (hw : Wf s) (hro : ro ≤ s.n) (hr : RowsS s ur g.rows)
    (h0 : orderM g = none → K (.tuple (.mk [.slice none 0 0, .bool false])) s) (h1 : ∀ D v s', orderM g = some D → Grew s s' → Ints s' v D → K (.tuple (.mk [v, .bool true])) s') :
    CallWP P ro 85 [.agg (.mk (g.cells ur))] s K := by
  refine call_wp b85 rfl ?_
  rw [n85]
  unfold v85
  simp (maxSteps := 10000000) only [wW, Option.bind_some, Option.map_some, decide_eq_true_eq, Bool.not_eq_true', decide_eq_false_iff_not, Bool.not_true, Bool.not_false, ne_eq, if_true, if_false, reduceCtorEq, eq_self, Nat.zero_add, Nat.add_zero, not_false_eq_true, Nat.reduceEqDiff]
  refine box_rule hw.ent fun G s1 m1 => ?_
  have e1 := m1.eq
  have n1 := m1.n
  have hn0 : (ent s).n = s.n := rfl
  have hnv := hL.nv
  have hrl := hL.2.2.2.2.2.2.2.1
  have hps := hL.2.1
  have hps2 := hL.2.2.1
  have hps3 := hL.2.2.2.1
  have hps4 := hL.2.2.2.2.1
  have hG1 : s1.at G = some (.cells (g.cells ur) 34 false) := m1.here
  simp (maxSteps := 10000000) only [wW, Option.bind_some, Option.map_some, decide_eq_true_eq, Bool.not_eq_true', decide_eq_false_iff_not, Bool.not_true, Bool.not_false, ne_eq, if_true, if_false, reduceCtorEq, eq_self, Nat.zero_add, Nat.add_zero, not_false_eq_true, Nat.reduceEqDiff, wop_load, wop_indexAddr, wix0, wix1, wix2, rcAll, gcAll, Option.map_some, Nat.reduceAdd, load1 ap_24, load1 ap_3, load1 ap_4, load1 ap_92, load1 ap_32, loadN ap_94, loadN ap_34, loadN ap_58, fa_94_0, fa_94_1, fa_94_2, fa_94_3, fa_94_4, fa_94_5, fa_94_6, fa_94_7, fa_34_0, fa_34_1, fa_34_2, fa_34_3, fa_34_4, rc0, rc1, rc2, rc3, rc4, rc5, rc6, rc7, rc8, rc9, rc10, gc0, gc1, gc2, gc3, gc4, acells_some hG1]
  refine make_rule (mk := Value.int .i64) (x := 0) se_30 ty_3 rfl m1.wf hnv.1 (by omega) (by decide) fun A s2 m2 => ?_
  have e2 := m2.eq
  have n2 := m2.n
  have hlen0 : (List.replicate g.nv.toNat (0 : Int)).length = g.nv.toNat := by simp
  have hI0 : OrdI ro g ur (ent s) G A s2 (List.replicate g.nv.toNat 0) := ⟨⟨m2.here, by omega, m2.wf, m1.grew.trans m2.grew⟩, (m2.grew.same G (by omega)).trans hG1, hlen0, hw.ent, hro, Sl.ent hr, by omega⟩
  have no : ∀ {s' : St}, Grew (ent s) s' → orderM g = none → wfin s K (.tuple (.mk [.slice none 0 0, .bool false])) s' := fun hg hf => fin_flat rfl hg (h0 hf)
  have noR : ∀ {τ : Tau} {al : AL} {s' : St}, Grew (ent s) s' → orderM g = none → U τ al 2 = .slice none 0 0 → U τ al 3 = .bool false → xleave (prims P ro) s Tryd.f85.results.toList K .ret (U τ al) [] [] s' := fun {τ al s'} hg hf h2 h3 => by
    rw [r85]
    simp (maxSteps := 10000000) only [wW, Option.bind_some, Option.map_some, decide_eq_true_eq, Bool.not_eq_true', decide_eq_false_iff_not, Bool.not_true, Bool.not_false, ne_eq, if_true, if_false, reduceCtorEq, eq_self, Nat.zero_add, Nat.add_zero, not_false_eq_true, Nat.reduceEqDiff]
    rw [h2, h3]
    exact no hg hf
  have hlI : ∀ {s : St} {K : Value → St → Prop}, wop P ro (.call ⟨.builtin .len, ⟨[.const (slc A g.nv.toNat)]⟩, #[30]⟩) 3 s K = K (.int .i64 (g.nv.toNat : Nat)) s := fun {s K} => wop_len se_30 _ _ _ _ _ _
  refine wloop l85_110100 m85_110100 (fun (i : Nat) τ ds s' => i ≤ g.nv.toNat ∧ τ 1 = ptr G ∧ τ 4 = slc A g.nv.toNat ∧ τ 5 = .int .i64 i ∧ ds = [] ∧ OrdI ro g ur (ent s) G A s' (it (dInit (g.pub + g.sec)) i (List.replicate g.nv.toNat 0))) (fun i => g.nv.toNat - i) ?_ 0 ⟨by omega, ?_, ?_, ?_, rfl, hI0⟩
  · clear hI0
    rintro i τ ds s' ⟨hi, t1, t4, t5, rfl, hI⟩
    rw [n85_110100]
    unfold v85_110100
    simp (maxSteps := 10000000) only [wW, Option.bind_some, Option.map_some, decide_eq_true_eq, Bool.not_eq_true', decide_eq_false_iff_not, Bool.not_true, Bool.not_false, ne_eq, if_true, if_false, reduceCtorEq, eq_self, Nat.zero_add, Nat.add_zero, not_false_eq_true, Nat.reduceEqDiff, t4, t5, hlI]
    by_cases hlt : i < g.nv.toNat
    · rw [if_pos (by omega)]
      have hx0 : (0 : Int) ≤ (i : Int) := by omega
      have hx1 : (i : Int) < g.nv := by omega
      have hix := ixc se_30 isz_3 (A := A) (n := g.nv.toNat) (c := g.nv.toNat) (i := (i : Int)) hx0 (by omega)
      simp (maxSteps := 10000000) only [wW, Option.bind_some, Option.map_some, decide_eq_true_eq, Bool.not_eq_true', decide_eq_false_iff_not, Bool.not_true, Bool.not_false, ne_eq, if_true, if_false, reduceCtorEq, eq_self, Nat.zero_add, Nat.add_zero, not_false_eq_true, Nat.reduceEqDiff, wop_load, wop_indexAddr, wix0, wix1, wix2, rcAll, gcAll, Option.map_some, Nat.reduceAdd, load1 ap_24, load1 ap_3, load1 ap_4, load1 ap_92, load1 ap_32, loadN ap_94, loadN ap_34, loadN ap_58, fa_94_0, fa_94_1, fa_94_2, fa_94_3, fa_94_4, fa_94_5, fa_94_6, fa_94_7, fa_34_0, fa_34_1, fa_34_2, fa_34_3, fa_34_4, rc0, rc1, rc2, rc3, rc4, rc5, rc6, rc7, rc8, rc9, rc10, gc0, gc1, gc2, gc3, gc4, hix]
      refine hI.store hx0 hx1 fun s3 hI3 _ => ?_
      simp (maxSteps := 10000000) only [wW, Option.bind_some, Option.map_some, decide_eq_true_eq, Bool.not_eq_true', decide_eq_false_iff_not, Bool.not_true, Bool.not_false, ne_eq, if_true, if_false, reduceCtorEq, eq_self, Nat.zero_add, Nat.add_zero, not_false_eq_true, Nat.reduceEqDiff, wop_load, wop_indexAddr, wix0, wix1, wix2, rcAll, gcAll, Option.map_some, Nat.reduceAdd, load1 ap_24, load1 ap_3, load1 ap_4, load1 ap_92, load1 ap_32, loadN ap_94, loadN ap_34, loadN ap_58, fa_94_0, fa_94_1, fa_94_2, fa_94_3, fa_94_4, fa_94_5, fa_94_6, fa_94_7, fa_34_0, fa_34_1, fa_34_2, fa_34_3, fa_34_4, rc0, rc1, rc2, rc3, rc4, rc5, rc6, rc7, rc8, rc9, rc10, gc0, gc1, gc2, gc3, gc4, t1, t4, t5, hI3.gc, hix]
      rw [wrap_i64 (n := g.pub + g.sec) (by omega) (by omega)]
      by_cases hp : (i : Int) < g.pub + g.sec
      · rw [if_pos hp]
        refine hI3.store hx0 hx1 fun s4 hI4 _ => ?_
        rw [wrap_i64 (by omega) (by omega)]
        refine ⟨i + 1, by omega, by omega, ?_, ?_, ?_, trivial, ?_⟩
        · simp only [U, tset_eq, wW, Option.bind_some, Option.map_some, decide_eq_true_eq, Bool.not_eq_true', decide_eq_false_iff_not, Bool.not_true, Bool.not_false, ne_eq, if_true, if_false, reduceCtorEq, eq_self, Nat.zero_add, Nat.add_zero, not_false_eq_true, Nat.reduceEqDiff, t1]
        · simp only [U, tset_eq, wW, Option.bind_some, Option.map_some, decide_eq_true_eq, Bool.not_eq_true', decide_eq_false_iff_not, Bool.not_true, Bool.not_false, ne_eq, if_true, if_false, reduceCtorEq, eq_self, Nat.zero_add, Nat.add_zero, not_false_eq_true, Nat.reduceEqDiff, t4]
        · simp only [U, tset_eq, wW, Option.bind_some, Option.map_some, decide_eq_true_eq, Bool.not_eq_true', decide_eq_false_iff_not, Bool.not_true, Bool.not_false, ne_eq, if_true, if_false, reduceCtorEq, eq_self, Nat.zero_add, Nat.add_zero, not_false_eq_true, Nat.reduceEqDiff]; rfl
        · rw [it, dInit, if_pos hp]
          exact hI4
      · rw [if_neg hp]
        rw [wrap_i64 (by omega) (by omega)]
        refine ⟨i + 1, by omega, by omega, ?_, ?_, ?_, trivial, ?_⟩
        · simp only [U, tset_eq, wW, Option.bind_some, Option.map_some, decide_eq_true_eq, Bool.not_eq_true', decide_eq_false_iff_not, Bool.not_true, Bool.not_false, ne_eq, if_true, if_false, reduceCtorEq, eq_self, Nat.zero_add, Nat.add_zero, not_false_eq_true, Nat.reduceEqDiff, t1]
        · simp only [U, tset_eq, wW, Option.bind_some, Option.map_some, decide_eq_true_eq, Bool.not_eq_true', decide_eq_false_iff_not, Bool.not_true, Bool.not_false, ne_eq, if_true, if_false, reduceCtorEq, eq_self, Nat.zero_add, Nat.add_zero, not_false_eq_true, Nat.reduceEqDiff, t4]
        · simp only [U, tset_eq, wW, Option.bind_some, Option.map_some, decide_eq_true_eq, Bool.not_eq_true', decide_eq_false_iff_not, Bool.not_true, Bool.not_false, ne_eq, if_true, if_false, reduceCtorEq, eq_self, Nat.zero_add, Nat.add_zero, not_false_eq_true, Nat.reduceEqDiff]; rfl
        · rw [it, dInit, if_neg hp]
          exact hI3
    · obtain rfl : i = g.nv.toNat := by omega
      rw [if_neg (by omega)]
      have hd0 : Dep g.nv.toNat 0 (it (dInit (g.pub + g.sec)) g.nv.toNat (List.replicate g.nv.toNat 0)) := Dep.inits ⟨hlen0, fun x hx => by rw [List.eq_of_mem_replicate hx]; decide⟩ _
      refine wloop l85_1110100 m85_1110100 (fun (i : Nat) τ ds s' => i ≤ g.rows.length ∧ τ 1 = ptr G ∧ τ 4 = slc A g.nv.toNat ∧ τ 6 = .int .i64 i ∧ ds = [] ∧ ∃ D, orderD g i = some D ∧ Dep g.nv.toNat i D ∧ OrdI ro g ur (ent s) G A s' D) (fun i => g.rows.length - i) ?_ 0 ⟨by omega, ?_, ?_, ?_, rfl, _, rfl, hd0, hI⟩
      · clear hI t1 t4 t5 hd0 hlt hi
        rintro i τ ds s' ⟨hi, t1, t4, t6, rfl, D, hD, hdep, hI⟩
        rw [n85_1110100]
        unfold v85_1110100
        have hgl : ∀ s' K, wop P ro (.call ⟨.builtin .len, ⟨[.const ur]⟩, #[32]⟩) 3 s' K = K (.int .i64 (g.rows.length : Nat)) s' := fun s' K => Sl.wlen hr se_32 _ K
        by_cases hlt : i < g.rows.length
        · obtain ⟨A5, o5, c5, q1, q2⟩ := hI.rs.ix (rowAt_get hlt)
          simp (maxSteps := 10000000) only [wW, Option.bind_some, Option.map_some, decide_eq_true_eq, Bool.not_eq_true', decide_eq_false_iff_not, Bool.not_true, Bool.not_false, ne_eq, if_true, if_false, reduceCtorEq, eq_self, Nat.zero_add, Nat.add_zero, not_false_eq_true, Nat.reduceEqDiff, wop_load, wop_indexAddr, wix0, wix1, wix2, rcAll, gcAll, Option.map_some, Nat.reduceAdd, load1 ap_24, load1 ap_3, load1 ap_4, load1 ap_92, load1 ap_32, loadN ap_94, loadN ap_34, loadN ap_58, fa_94_0, fa_94_1, fa_94_2, fa_94_3, fa_94_4, fa_94_5, fa_94_6, fa_94_7, fa_34_0, fa_34_1, fa_34_2, fa_34_3, fa_34_4, rc0, rc1, rc2, rc3, rc4, rc5, rc6, rc7, rc8, rc9, rc10, gc0, gc1, gc2, gc3, gc4, t1, t4, t6, hI.gc, hgl, q1, q2.blk, q2.all]
          rw [if_pos (by omega)]
          refine alloc_rule ty_94 hI.vc.wf fun R s3 m3 => ?_
          have e3 := m3.eq
          have n3 := m3.n
          have gn := hI.vc.grew.n
          have hAlt := St.at_lt hI.vc.here
          have hGlt := St.at_lt hI.gat
          refine storeAll_rule isz_94 m3.here (l := (rowAt g.rows i).cells) rfl (by decide) m3.wf (by omega) rfl rfl fun s4 p4 => ?_
          have hI4 : OrdI ro g ur (ent s) G A s4 D := ⟨⟨(p4.rest A (by omega)).trans ((m3.grew.same A hAlt).trans hI.vc.here), hI.vc.new, p4.wf, p4.grew _ hw.ent (hI.vc.grew.trans m3.grew) (by omega)⟩, (p4.rest G (by omega)).trans ((m3.grew.same G hGlt).trans hI.gat), hI.len, hI.w0, hI.ro, hI.rows, hI.ne⟩
          have hR4 : s4.at R = some (.cells (rowAt g.rows i).cells 94 false) := p4.here
          simp (maxSteps := 10000000) only [wW, Option.bind_some, Option.map_some, decide_eq_true_eq, Bool.not_eq_true', decide_eq_false_iff_not, Bool.not_true, Bool.not_false, ne_eq, if_true, if_false, reduceCtorEq, eq_self, Nat.zero_add, Nat.add_zero, not_false_eq_true, Nat.reduceEqDiff, wop_load, wop_indexAddr, wix0, wix1, wix2, rcAll, gcAll, Option.map_some, Nat.reduceAdd, load1 ap_24, load1 ap_3, load1 ap_4, load1 ap_92, load1 ap_32, loadN ap_94, loadN ap_34, loadN ap_58, fa_94_0, fa_94_1, fa_94_2, fa_94_3, fa_94_4, fa_94_5, fa_94_6, fa_94_7, fa_34_0, fa_34_1, fa_34_2, fa_34_3, fa_34_4, rc0, rc1, rc2, rc3, rc4, rc5, rc6, rc7, rc8, rc9, rc10, gc0, gc1, gc2, gc3, gc4, acells_some hR4]
          refine wReads (rowAt g.rows i) p4.wf (by have := hI4.vc.grew.n; omega) fun v s5 g5 hV => ?_
          have hI5 := hI4.grew g5
          have hR5 : s5.at R = some (.cells (rowAt g.rows i).cells 94 false) := (g5.same R (St.at_lt hR4)).trans hR4
          have hRc := acells_some hR5
          have hRA : R ≠ A := by omega
          have hrdl := rds_len (rowAt g.rows i)
          generalize hrr : rowAt g.rows i = r at *
          refine wloop l85_11101001001110100 m85_11101001001110100 (fun (k : Nat) τ ds s' => k ≤ (rds r).length ∧ τ 1 = ptr G ∧ τ 4 = slc A g.nv.toNat ∧ τ 6 = .int .i64 i ∧ τ 7 = ptr R ∧ τ 8 = v ∧ τ 10 = .int .i64 k ∧ ds = [] ∧ s5 = s' ∧ ∃ m, τ 9 = .int .i64 m ∧ 0 ≤ m ∧ m ≤ i ∧ mostM r D ((rds r).drop k) m = mostM r D (rds r) 0) (fun k => (rds r).length - k) ?_ 0 ⟨by omega, ?_, ?_, ?_, ?_, ?_, ?_, rfl, rfl, 0, ?_, by omega, by omega, rfl⟩
          · clear t1 t4 t6 hI hI4
            rintro k τ ds s' ⟨hk, t1, t4, t6, t7, t8, t10, rfl, rfl, m, t9, hm0, hm1, hmost⟩
            have hstep : stepD g i D = (mostM r D (rds r) 0).map fun m => dRow r (rowAt g.rows (i + 1)) m D := by unfold stepD; rw [hrr]
            have hon : orderD g (i + 1) = stepD g i D := by rw [orderD, hD]; rfl
            rw [n85_11101001001110100]
            unfold v85_11101001001110100
            by_cases hlk : k < (rds r).length
            · obtain ⟨A6, o6, c6, z1, z2, z3⟩ := hV.at1 (i := (k : Int)) (x := (rds r)[k]) (by omega) (by rw [Int.toNat_natCast]; exact List.getElem?_eq_getElem hlk)
              have hmem : (rds r)[k] ∈ rds r := List.getElem_mem _
              have hj := rds_lt r _ hmem
              have hjc : (((rds r)[k]).toNat : Int) = (rds r)[k] := by omega
              have hwx := wix R 1 (k := ((rds r)[k]).toNat) (by omega)
              rw [hjc] at hwx
              have hrw := hL.reads hlt (j := (rds r)[k]) (by rw [hrr]; exact hmem)
              rw [hrr] at hrw
              have hix := ixc se_30 isz_3 (A := A) (n := g.nv.toNat) (c := g.nv.toNat) (i := r.w ((rds r)[k]).toNat) hrw.1 (by omega)
              have hgt := hI5.get hrw.1 hrw.2
              simp (maxSteps := 10000000) only [wW, Option.bind_some, Option.map_some, decide_eq_true_eq, Bool.not_eq_true', decide_eq_false_iff_not, Bool.not_true, Bool.not_false, ne_eq, if_true, if_false, reduceCtorEq, eq_self, Nat.zero_add, Nat.add_zero, not_false_eq_true, Nat.reduceEqDiff, wop_load, wop_indexAddr, wix0, wix1, wix2, rcAll, gcAll, Option.map_some, Nat.reduceAdd, load1 ap_24, load1 ap_3, load1 ap_4, load1 ap_92, load1 ap_32, loadN ap_94, loadN ap_34, loadN ap_58, fa_94_0, fa_94_1, fa_94_2, fa_94_3, fa_94_4, fa_94_5, fa_94_6, fa_94_7, fa_34_0, fa_34_1, fa_34_2, fa_34_3, fa_34_4, rc0, rc1, rc2, rc3, rc4, rc5, rc6, rc7, rc8, rc9, rc10, gc0, gc1, gc2, gc3, gc4, t4, t7, t8, t9, t10, hV.wlen se_30, z1, z2, z3, hRc, hwx, rcw r (show ((rds r)[k]).toNat < 4 by omega), hix, hI5.dc, hgt]
              rw [if_pos (by omega)]
              rw [drop_cons hlk, mostM] at hmost
              have hdb := hdep.at0 (by omega) (r.w ((rds r)[k]).toNat)
              have next : ¬ (at0 D (r.w ((rds r)[k]).toNat) < 0 ∧ ¬ (r.k = 1 ∧ (rds r)[k] = 2)) → ∀ (al : AL), U τ al 1 = ptr G → U τ al 4 = slc A g.nv.toNat → U τ al 6 = .int .i64 i → U τ al 7 = ptr R → U τ al 8 = v → U τ al 9 = .int .i64 (if m < at0 D (r.w ((rds r)[k]).toNat) then at0 D (r.w ((rds r)[k]).toNat) else m) → U τ al 10 = .int .i64 ((k + 1 : Nat) : Int) →
                  ∃ y, (rds r).length - y < (rds r).length - k ∧ y ≤ (rds r).length ∧ U τ al 1 = ptr G ∧ U τ al 4 = slc A g.nv.toNat ∧ U τ al 6 = .int .i64 i ∧ U τ al 7 = ptr R ∧ U τ al 8 = v ∧ U τ al 10 = .int .i64 (y : Nat) ∧ True ∧ True ∧ ∃ m, U τ al 9 = .int .i64 m ∧ 0 ≤ m ∧ m ≤ i ∧ mostM r D ((rds r).drop y) m = mostM r D (rds r) 0 := fun hc al a1 a4 a6 a7 a8 a9 a10 => by
                rw [if_neg hc] at hmost
                refine ⟨k + 1, by omega, by omega, a1, a4, a6, a7, a8, a10, trivial, trivial, _, a9, ?_, ?_, hmost⟩
                · split <;> omega
                · split <;> omega
              have bad : (at0 D (r.w ((rds r)[k]).toNat) < 0 ∧ ¬ (r.k = 1 ∧ (rds r)[k] = 2)) → orderM g = none := fun hc => by
                rw [if_pos hc] at hmost
                have : orderD g (i + 1) = none := by rw [hon, hstep, ← hmost]; rfl
                unfold orderM
                rw [orderD_none this (by omega)]; rfl
              have hkw : IntKind.i64.wrap ((k : Int) + 1) = ((k + 1 : Nat) : Int) := by rw [wrap_i64 (by omega) (by omega)]; rfl
              have fin : ∀ {A B C : Prop}, (at0 D (r.w ((rds r)[k]).toNat) < 0 → A) → (¬ at0 D (r.w ((rds r)[k]).toNat) < 0 → B) → (if at0 D (r.w ((rds r)[k]).toNat) < 0 then A else B) := fun {A B C} h1 h2 => by
                split
                · exact h1 (by assumption)
                · exact h2 (by assumption)
              refine fin (C := True) (fun hneg => ?_) (fun hneg => ?_)
              · by_cases k1 : r.k = 1
                · rw [if_pos k1]
                  by_cases j2 : (rds r)[k] = 2
                  · rw [if_neg (by simpa using j2)]
                    simp (maxSteps := 10000000) only [max_i64, hkw, wW, Option.bind_some, Option.map_some, decide_eq_true_eq, Bool.not_eq_true', decide_eq_false_iff_not, Bool.not_true, Bool.not_false, ne_eq, if_true, if_false, reduceCtorEq, eq_self, Nat.zero_add, Nat.add_zero, not_false_eq_true, Nat.reduceEqDiff]
                    refine next (fun h => h.2 ⟨k1, j2⟩) _ ?_ ?_ ?_ ?_ ?_ ?_ ?_ <;> simp only [U, tset_eq, wW, Option.bind_some, Option.map_some, decide_eq_true_eq, Bool.not_eq_true', decide_eq_false_iff_not, Bool.not_true, Bool.not_false, ne_eq, if_true, if_false, reduceCtorEq, eq_self, Nat.zero_add, Nat.add_zero, not_false_eq_true, Nat.reduceEqDiff, t1, t4, t6, t7, t8]
                  · rw [if_pos (by simpa using j2)]
                    exact noR hI5.vc.grew (bad ⟨hneg, fun h => j2 h.2⟩) (by simp only [U, tset_eq, wW, Option.bind_some, Option.map_some, decide_eq_true_eq, Bool.not_eq_true', decide_eq_false_iff_not, Bool.not_true, Bool.not_false, ne_eq, if_true, if_false, reduceCtorEq, eq_self, Nat.zero_add, Nat.add_zero, not_false_eq_true, Nat.reduceEqDiff]) (by simp only [U, tset_eq, wW, Option.bind_some, Option.map_some, decide_eq_true_eq, Bool.not_eq_true', decide_eq_false_iff_not, Bool.not_true, Bool.not_false, ne_eq, if_true, if_false, reduceCtorEq, eq_self, Nat.zero_add, Nat.add_zero, not_false_eq_true, Nat.reduceEqDiff])
                · rw [if_neg k1]
                  exact noR hI5.vc.grew (bad ⟨hneg, fun h => k1 h.1⟩) (by simp only [U, tset_eq, wW, Option.bind_some, Option.map_some, decide_eq_true_eq, Bool.not_eq_true', decide_eq_false_iff_not, Bool.not_true, Bool.not_false, ne_eq, if_true, if_false, reduceCtorEq, eq_self, Nat.zero_add, Nat.add_zero, not_false_eq_true, Nat.reduceEqDiff]) (by simp only [U, tset_eq, wW, Option.bind_some, Option.map_some, decide_eq_true_eq, Bool.not_eq_true', decide_eq_false_iff_not, Bool.not_true, Bool.not_false, ne_eq, if_true, if_false, reduceCtorEq, eq_self, Nat.zero_add, Nat.add_zero, not_false_eq_true, Nat.reduceEqDiff])
              · simp (maxSteps := 10000000) only [max_i64, hkw, wW, Option.bind_some, Option.map_some, decide_eq_true_eq, Bool.not_eq_true', decide_eq_false_iff_not, Bool.not_true, Bool.not_false, ne_eq, if_true, if_false, reduceCtorEq, eq_self, Nat.zero_add, Nat.add_zero, not_false_eq_true, Nat.reduceEqDiff]
                refine next (fun h => hneg h.1) _ ?_ ?_ ?_ ?_ ?_ ?_ ?_ <;> simp only [U, tset_eq, wW, Option.bind_some, Option.map_some, decide_eq_true_eq, Bool.not_eq_true', decide_eq_false_iff_not, Bool.not_true, Bool.not_false, ne_eq, if_true, if_false, reduceCtorEq, eq_self, Nat.zero_add, Nat.add_zero, not_false_eq_true, Nat.reduceEqDiff, t1, t4, t6, t7, t8]
            · obtain rfl : k = (rds r).length := by omega
              simp (maxSteps := 10000000) only [wW, Option.bind_some, Option.map_some, decide_eq_true_eq, Bool.not_eq_true', decide_eq_false_iff_not, Bool.not_true, Bool.not_false, ne_eq, if_true, if_false, reduceCtorEq, eq_self, Nat.zero_add, Nat.add_zero, not_false_eq_true, Nat.reduceEqDiff, t8, t10, hV.wlen se_30]
              rw [if_neg (by omega)]
              rw [List.drop_of_length_le (Nat.le_refl _), mostM] at hmost
              have hD1 : orderD g (i + 1) = some (dRow r (rowAt g.rows (i + 1)) m D) := by rw [hon, hstep, ← hmost]; rfl
              have hdep1 : Dep g.nv.toNat ((i + 1 : Nat) : Int) (dRow r (rowAt g.rows (i + 1)) m D) := by
                have := hdep.arith (r := r) (m := m) ⟨by omega, hm1⟩
                unfold dRow
                split
                · exact Dep.nexts this ⟨by omega, hm1⟩ 4
                · exact this
              have last : ∀ (τ' : Tau) (al : AL) (s' : St), U τ' al 1 = ptr G → U τ' al 4 = slc A g.nv.toNat → U τ' al 6 = .int .i64 i → OrdI ro g ur (ent s) G A s' (dRow (rowAt g.rows i) (rowAt g.rows (i + 1)) m D) → ∀ {Q : Ex → WK}, (∀ τ' s', (∃ y, g.rows.length - y < g.rows.length - i ∧ y ≤ g.rows.length ∧ τ' 1 = ptr G ∧ τ' 4 = slc A g.nv.toNat ∧ τ' 6 = .int .i64 (y : Nat) ∧ ([] : List Deferred) = [] ∧ ∃ D, orderD g y = some D ∧ Dep g.nv.toNat y D ∧ OrdI ro g ur (ent s) G A s' D) → Q .normal τ' [] s') →
                  blkX 3 (sX (prims P ro) none 153 k85_1110100 c85_111010011 [1, 1] (lift Q)) .normal τ' al [] s' := fun τ' al s' a1 a4 a6 hI' {Q} hQ => by
                refine ordEnd (by omega) a6 fun τ2 b1 b4 b6 => hQ τ2 s' ⟨i + 1, by omega, by omega, b1.trans a1, b4.trans a4, b6, rfl, _, hD1, hdep1, ?_⟩
                rw [hrr] at hI'
                exact hI'
              have row : ∀ {b : Bool} {τ' : Tau} {Q : Ex → WK}, τ' 100 = .bool b → (b = true ↔ r.k = 1 ∧ r.qo ≠ 0 ∧ at0 D r.w2 < 0) → τ' 1 = ptr G → τ' 4 = slc A g.nv.toNat → τ' 6 = .int .i64 i → τ' 7 = ptr R → τ' 9 = .int .i64 m →
                  (∀ τ' s', (∃ y, g.rows.length - y < g.rows.length - i ∧ y ≤ g.rows.length ∧ τ' 1 = ptr G ∧ τ' 4 = slc A g.nv.toNat ∧ τ' 6 = .int .i64 (y : Nat) ∧ ([] : List Deferred) = [] ∧ ∃ D, orderD g y = some D ∧ Dep g.nv.toNat y D ∧ OrdI ro g ur (ent s) G A s' D) → Q .normal τ' [] s') →
                  xp (prims P ro) none 153 k85_1110100 c85_1110100100111101 [1, 0, 1, 1, 1, 1, 0, 0, 1] τ' [] [] s5 (sX (prims P ro) none 153 k85_1110100 c85_111010010011111 [1, 1, 1, 1, 1, 0, 0, 1] (blkX 3 (sX (prims P ro) none 153 k85_1110100 c85_111010011 [1, 1] (lift Q)))) := fun {b τ' Q} h100 hb a1 a4 a6 a7 a9 hQ => by
                refine ordArith hL hI5 hlt (by rw [hrr]; exact hR5) hRA ⟨hm0, hm1⟩ ((QOk.lift Q).sX.blk 3) a1 a4 a6 a7 a9 h100 (by rw [hrr]; exact hb) fun τ2 al s2 b1 b4 b6 hI2 => last τ2 al s2 b1 b4 b6 hI2 hQ
              simp (maxSteps := 10000000) only [U, tset_eq, wW, Option.bind_some, Option.map_some, decide_eq_true_eq, Bool.not_eq_true', decide_eq_false_iff_not, Bool.not_true, Bool.not_false, ne_eq, if_true, if_false, reduceCtorEq, eq_self, Nat.zero_add, Nat.add_zero, not_false_eq_true, Nat.reduceEqDiff, wop_load, wop_indexAddr, wix0, wix1, wix2, rcAll, gcAll, Option.map_some, Nat.reduceAdd, load1 ap_24, load1 ap_3, load1 ap_4, load1 ap_92, load1 ap_32, loadN ap_94, loadN ap_34, loadN ap_58, fa_94_0, fa_94_1, fa_94_2, fa_94_3, fa_94_4, fa_94_5, fa_94_6, fa_94_7, fa_34_0, fa_34_1, fa_34_2, fa_34_3, fa_34_4, rc0, rc1, rc2, rc3, rc4, rc5, rc6, rc7, rc8, rc9, rc10, gc0, gc1, gc2, gc3, gc4, t4, t7, hRc]
              by_cases k1 : r.k = 1
              · rw [if_pos k1]
                by_cases kq : r.qo = 0
                · rw [if_neg (by simpa using kq)]
                  refine row (b := false) ?_ ⟨fun h => (by cases h), fun h => absurd kq h.2.1⟩ ?_ ?_ ?_ ?_ ?_ (fun _ _ h => h) <;> simp only [tset_eq, wW, Option.bind_some, Option.map_some, decide_eq_true_eq, Bool.not_eq_true', decide_eq_false_iff_not, Bool.not_true, Bool.not_false, ne_eq, if_true, if_false, reduceCtorEq, eq_self, Nat.zero_add, Nat.add_zero, not_false_eq_true, Nat.reduceEqDiff, t1, t4, t6, t7, t9]
                · rw [if_pos kq]
                  have hw2 : 0 ≤ r.w2 ∧ r.w2 < g.nv := by
                    have := hL.reads hlt (j := 2) (by rw [hrr]; exact rds_2 k1 kq)
                    rw [hrr] at this
                    exact this
                  have hix := ixc se_30 isz_3 (A := A) (n := g.nv.toNat) (c := g.nv.toNat) (i := r.w2) hw2.1 (by omega)
                  have hgt := hI5.get hw2.1 hw2.2
                  rw [hix, wopt_some, load1 ap_3, hI5.dc, Option.bind_some, hgt, wopt_some, wop_int, int_lss keq_i64, wopt_some]
                  refine row (b := decide (at0 D r.w2 < 0)) ?_ ⟨fun h => ⟨k1, kq, by simpa using h⟩, fun h => by simpa using h.2.2⟩ ?_ ?_ ?_ ?_ ?_ (fun _ _ h => h) <;> simp only [tset_eq, wW, Option.bind_some, Option.map_some, decide_eq_true_eq, Bool.not_eq_true', decide_eq_false_iff_not, Bool.not_true, Bool.not_false, ne_eq, if_true, if_false, reduceCtorEq, eq_self, Nat.zero_add, Nat.add_zero, not_false_eq_true, Nat.reduceEqDiff, t1, t4, t6, t7, t9]
              · rw [if_neg k1]
                refine row (b := false) ?_ ⟨fun h => (by cases h), fun h => absurd h.1 k1⟩ ?_ ?_ ?_ ?_ ?_ (fun _ _ h => h) <;> simp only [tset_eq, wW, Option.bind_some, Option.map_some, decide_eq_true_eq, Bool.not_eq_true', decide_eq_false_iff_not, Bool.not_true, Bool.not_false, ne_eq, if_true, if_false, reduceCtorEq, eq_self, Nat.zero_add, Nat.add_zero, not_false_eq_true, Nat.reduceEqDiff, t1, t4, t6, t7, t9]
          · simp only [U, tset_eq, wW, Option.bind_some, Option.map_some, decide_eq_true_eq, Bool.not_eq_true', decide_eq_false_iff_not, Bool.not_true, Bool.not_false, ne_eq, if_true, if_false, reduceCtorEq, eq_self, Nat.zero_add, Nat.add_zero, not_false_eq_true, Nat.reduceEqDiff, t1]
          · simp only [U, tset_eq, wW, Option.bind_some, Option.map_some, decide_eq_true_eq, Bool.not_eq_true', decide_eq_false_iff_not, Bool.not_true, Bool.not_false, ne_eq, if_true, if_false, reduceCtorEq, eq_self, Nat.zero_add, Nat.add_zero, not_false_eq_true, Nat.reduceEqDiff, t4]
          · simp only [U, tset_eq, wW, Option.bind_some, Option.map_some, decide_eq_true_eq, Bool.not_eq_true', decide_eq_false_iff_not, Bool.not_true, Bool.not_false, ne_eq, if_true, if_false, reduceCtorEq, eq_self, Nat.zero_add, Nat.add_zero, not_false_eq_true, Nat.reduceEqDiff, t6]
          · simp only [U, tset_eq, wW, Option.bind_some, Option.map_some, decide_eq_true_eq, Bool.not_eq_true', decide_eq_false_iff_not, Bool.not_true, Bool.not_false, ne_eq, if_true, if_false, reduceCtorEq, eq_self, Nat.zero_add, Nat.add_zero, not_false_eq_true, Nat.reduceEqDiff]
          · simp only [U, tset_eq, wW, Option.bind_some, Option.map_some, decide_eq_true_eq, Bool.not_eq_true', decide_eq_false_iff_not, Bool.not_true, Bool.not_false, ne_eq, if_true, if_false, reduceCtorEq, eq_self, Nat.zero_add, Nat.add_zero, not_false_eq_true, Nat.reduceEqDiff]
          · simp only [U, tset_eq, wW, Option.bind_some, Option.map_some, decide_eq_true_eq, Bool.not_eq_true', decide_eq_false_iff_not, Bool.not_true, Bool.not_false, ne_eq, if_true, if_false, reduceCtorEq, eq_self, Nat.zero_add, Nat.add_zero, not_false_eq_true, Nat.reduceEqDiff]; rfl
          · simp only [U, tset_eq, wW, Option.bind_some, Option.map_some, decide_eq_true_eq, Bool.not_eq_true', decide_eq_false_iff_not, Bool.not_true, Bool.not_false, ne_eq, if_true, if_false, reduceCtorEq, eq_self, Nat.zero_add, Nat.add_zero, not_false_eq_true, Nat.reduceEqDiff]
        · simp (maxSteps := 10000000) only [wW, Option.bind_some, Option.map_some, decide_eq_true_eq, Bool.not_eq_true', decide_eq_false_iff_not, Bool.not_true, Bool.not_false, ne_eq, if_true, if_false, reduceCtorEq, eq_self, Nat.zero_add, Nat.add_zero, not_false_eq_true, Nat.reduceEqDiff, wop_load, wop_indexAddr, wix0, wix1, wix2, rcAll, gcAll, Option.map_some, Nat.reduceAdd, load1 ap_24, load1 ap_3, load1 ap_4, load1 ap_92, load1 ap_32, loadN ap_94, loadN ap_34, loadN ap_58, fa_94_0, fa_94_1, fa_94_2, fa_94_3, fa_94_4, fa_94_5, fa_94_6, fa_94_7, fa_34_0, fa_34_1, fa_34_2, fa_34_3, fa_34_4, rc0, rc1, rc2, rc3, rc4, rc5, rc6, rc7, rc8, rc9, rc10, gc0, gc1, gc2, gc3, gc4, t1, t4, t6, hI.gc, hgl]
          rw [if_neg (by omega)]
          obtain rfl : i = g.rows.length := by omega
          have hgn := hI.vc.grew
          have oM : orderM g = if D.all (fun x => decide (0 ≤ x)) then some D else none := by unfold orderM; rw [hD]; rfl
          have hDl := hI.len
          refine wloop l85_11110100 m85_11110100 (fun (i : Nat) τ ds s2' => i ≤ g.nv.toNat ∧ τ 4 = slc A g.nv.toNat ∧ τ 13 = .int .i64 i ∧ ds = [] ∧ s' = s2' ∧ (D.take i).all (fun x => decide (0 ≤ x)) = true) (fun i => g.nv.toNat - i) ?_ 0 ⟨by omega, ?_, ?_, rfl, rfl, rfl⟩
          · clear t1 t4 t6
            rintro i τ ds s2' ⟨hi, t4, t13, rfl, rfl, hall⟩
            rw [n85_11110100]
            unfold v85_11110100
            simp (maxSteps := 10000000) only [wW, Option.bind_some, Option.map_some, decide_eq_true_eq, Bool.not_eq_true', decide_eq_false_iff_not, Bool.not_true, Bool.not_false, ne_eq, if_true, if_false, reduceCtorEq, eq_self, Nat.zero_add, Nat.add_zero, not_false_eq_true, Nat.reduceEqDiff, t4, t13, hlI]
            by_cases hlt : i < g.nv.toNat
            · rw [if_pos (by omega)]
              have hx0 : (0 : Int) ≤ (i : Int) := by omega
              have hx1 : (i : Int) < g.nv := by omega
              have hix := ixc se_30 isz_3 (A := A) (n := g.nv.toNat) (c := g.nv.toNat) (i := (i : Int)) hx0 (by omega)
              have hg := hI.get hx0 hx1
              simp (maxSteps := 10000000) only [wW, Option.bind_some, Option.map_some, decide_eq_true_eq, Bool.not_eq_true', decide_eq_false_iff_not, Bool.not_true, Bool.not_false, ne_eq, if_true, if_false, reduceCtorEq, eq_self, Nat.zero_add, Nat.add_zero, not_false_eq_true, Nat.reduceEqDiff, wop_load, wop_indexAddr, wix0, wix1, wix2, rcAll, gcAll, Option.map_some, Nat.reduceAdd, load1 ap_24, load1 ap_3, load1 ap_4, load1 ap_92, load1 ap_32, loadN ap_94, loadN ap_34, loadN ap_58, fa_94_0, fa_94_1, fa_94_2, fa_94_3, fa_94_4, fa_94_5, fa_94_6, fa_94_7, fa_34_0, fa_34_1, fa_34_2, fa_34_3, fa_34_4, rc0, rc1, rc2, rc3, rc4, rc5, rc6, rc7, rc8, rc9, rc10, gc0, gc1, gc2, gc3, gc4, hix, hI.dc, hg]
              have hgi : D[i]? = some (at0 D (i : Int)) := by
                have := at0_get (l := D) hx0 (by omega)
                rwa [Int.toNat_natCast] at this
              by_cases hneg : at0 D (i : Int) < 0
              · rw [if_pos hneg]
                refine noR hgn ?_ (by simp only [U, tset_eq, wW, Option.bind_some, Option.map_some, decide_eq_true_eq, Bool.not_eq_true', decide_eq_false_iff_not, Bool.not_true, Bool.not_false, ne_eq, if_true, if_false, reduceCtorEq, eq_self, Nat.zero_add, Nat.add_zero, not_false_eq_true, Nat.reduceEqDiff]) (by simp only [U, tset_eq, wW, Option.bind_some, Option.map_some, decide_eq_true_eq, Bool.not_eq_true', decide_eq_false_iff_not, Bool.not_true, Bool.not_false, ne_eq, if_true, if_false, reduceCtorEq, eq_self, Nat.zero_add, Nat.add_zero, not_false_eq_true, Nat.reduceEqDiff])
                rw [oM, if_neg]
                rw [List.all_eq_true]
                intro h
                have := h _ (List.mem_of_getElem? hgi)
                simp only [decide_eq_true_eq] at this
                omega
              · rw [if_neg hneg, wrap_i64 (by omega) (by omega)]
                refine ⟨i + 1, by omega, by omega, ?_, ?_, trivial, trivial, ?_⟩
                · simp only [U, tset_eq, wW, Option.bind_some, Option.map_some, decide_eq_true_eq, Bool.not_eq_true', decide_eq_false_iff_not, Bool.not_true, Bool.not_false, ne_eq, if_true, if_false, reduceCtorEq, eq_self, Nat.zero_add, Nat.add_zero, not_false_eq_true, Nat.reduceEqDiff, t4]
                · simp only [U, tset_eq, wW, Option.bind_some, Option.map_some, decide_eq_true_eq, Bool.not_eq_true', decide_eq_false_iff_not, Bool.not_true, Bool.not_false, ne_eq, if_true, if_false, reduceCtorEq, eq_self, Nat.zero_add, Nat.add_zero, not_false_eq_true, Nat.reduceEqDiff]; rfl
                · rw [take_succ_eq hgi, List.all_append, hall]
                  simp
                  omega
            · obtain rfl : i = g.nv.toNat := by omega
              rw [if_neg (by omega)]
              rw [List.take_of_length_le (by omega)] at hall
              simp (maxSteps := 10000000) only [U, tset_eq, wW, Option.bind_some, Option.map_some, decide_eq_true_eq, Bool.not_eq_true', decide_eq_false_iff_not, Bool.not_true, Bool.not_false, ne_eq, if_true, if_false, reduceCtorEq, eq_self, Nat.zero_add, Nat.add_zero, not_false_eq_true, Nat.reduceEqDiff, t4]
              refine wfin_new hw hgn rfl fun s9 hg9 _ hat => h1 D _ s9 ?_ hg9 ?_
              · rw [oM, if_pos hall]
              · refine ⟨some ⟨A, 0, none⟩, g.nv.toNat, by rw [hDl], by simp, ⟨by omega, fun h => (by cases h), fun x hx => (by cases hx; exact .inl rfl)⟩, fun _ => ⟨A, 0, none, _, _, _, rfl, rfl, (hat A).trans hI.vc.here, ?_⟩⟩
                rw [List.drop_zero, List.take_of_length_le (by simp)]
          · simp only [U, tset_eq, wW, Option.bind_some, Option.map_some, decide_eq_true_eq, Bool.not_eq_true', decide_eq_false_iff_not, Bool.not_true, Bool.not_false, ne_eq, if_true, if_false, reduceCtorEq, eq_self, Nat.zero_add, Nat.add_zero, not_false_eq_true, Nat.reduceEqDiff, t4]
          · simp only [U, tset_eq, wW, Option.bind_some, Option.map_some, decide_eq_true_eq, Bool.not_eq_true', decide_eq_false_iff_not, Bool.not_true, Bool.not_false, ne_eq, if_true, if_false, reduceCtorEq, eq_self, Nat.zero_add, Nat.add_zero, not_false_eq_true, Nat.reduceEqDiff]; rfl
      · simp only [U, tset_eq, wW, Option.bind_some, Option.map_some, decide_eq_true_eq, Bool.not_eq_true', decide_eq_false_iff_not, Bool.not_true, Bool.not_false, ne_eq, if_true, if_false, reduceCtorEq, eq_self, Nat.zero_add, Nat.add_zero, not_false_eq_true, Nat.reduceEqDiff, t1]
      · simp only [U, tset_eq, wW, Option.bind_some, Option.map_some, decide_eq_true_eq, Bool.not_eq_true', decide_eq_false_iff_not, Bool.not_true, Bool.not_false, ne_eq, if_true, if_false, reduceCtorEq, eq_self, Nat.zero_add, Nat.add_zero, not_false_eq_true, Nat.reduceEqDiff, t4]
      · simp only [U, tset_eq, wW, Option.bind_some, Option.map_some, decide_eq_true_eq, Bool.not_eq_true', decide_eq_false_iff_not, Bool.not_true, Bool.not_false, ne_eq, if_true, if_false, reduceCtorEq, eq_self, Nat.zero_add, Nat.add_zero, not_false_eq_true, Nat.reduceEqDiff]; rfl
  · simp only [U, tset_eq, wW, Option.bind_some, Option.map_some, decide_eq_true_eq, Bool.not_eq_true', decide_eq_false_iff_not, Bool.not_true, Bool.not_false, ne_eq, if_true, if_false, reduceCtorEq, eq_self, Nat.zero_add, Nat.add_zero, not_false_eq_true, Nat.reduceEqDiff]
  · simp only [U, tset_eq, wW, Option.bind_some, Option.map_some, decide_eq_true_eq, Bool.not_eq_true', decide_eq_false_iff_not, Bool.not_true, Bool.not_false, ne_eq, if_true, if_false, reduceCtorEq, eq_self, Nat.zero_add, Nat.add_zero, not_false_eq_true, Nat.reduceEqDiff]
  · simp only [U, tset_eq, wW, Option.bind_some, Option.map_some, decide_eq_true_eq, Bool.not_eq_true', decide_eq_false_iff_not, Bool.not_true, Bool.not_false, ne_eq, if_true, if_false, reduceCtorEq, eq_self, Nat.zero_add, Nat.add_zero, not_false_eq_true, Nat.reduceEqDiff]; rfl

end
end Go.VE
/- The reference of the gates: Valid; a run, its rows. -/
namespace Go.VE
open Go Go.Proofs
set_option maxRecDepth 20000
def validM (g : Gp) : Bool := decide (Limits g) && (orderM g).isSome

section
variable {ro : Nat} {K : Value → St → Prop}
theorem wValid (g : Gp) {s : St} {ur : Value} (hw : Wf s) (hro : ro ≤ s.n) (hr : RowsS s ur g.rows) (hlen : g.rows.length < 2 ^ 60) : CallWP P ro 46 [.agg (.mk (g.cells ur))] s K = K (.bool (validM g)) s := by
  refine callEq (call_wp b46 rfl ?_) K
  rw [n46]
  unfold v46
  simp (maxSteps := 10000000) only [wW, Option.bind_some, Option.map_some, decide_eq_true_eq, Bool.not_eq_true', decide_eq_false_iff_not, Bool.not_true, Bool.not_false, ne_eq, if_true, if_false, reduceCtorEq, eq_self, Nat.zero_add, Nat.add_zero, not_false_eq_true, Nat.reduceEqDiff]
  refine box_rule hw.ent fun G s1 m1 => ?_
  have e1 := m1.eq
  have n1 := m1.n
  have hn0 : (ent s).n = s.n := rfl
  have hG1 : s1.at G = some (.cells (g.cells ur) 34 false) := m1.here
  have hr1 : RowsS s1 ur g.rows := (Sl.ent hr).grew m1.grew.same
  simp (maxSteps := 10000000) only [wW, Option.bind_some, Option.map_some, decide_eq_true_eq, Bool.not_eq_true', decide_eq_false_iff_not, Bool.not_true, Bool.not_false, ne_eq, if_true, if_false, reduceCtorEq, eq_self, Nat.zero_add, Nat.add_zero, not_false_eq_true, Nat.reduceEqDiff, wop_load, wop_indexAddr, wix0, wix1, wix2, rcAll, gcAll, Option.map_some, Nat.reduceAdd, load1 ap_24, load1 ap_3, load1 ap_4, load1 ap_92, load1 ap_32, loadN ap_94, loadN ap_34, loadN ap_58, fa_94_0, fa_94_1, fa_94_2, fa_94_3, fa_94_4, fa_94_5, fa_94_6, fa_94_7, fa_34_0, fa_34_1, fa_34_2, fa_34_3, fa_34_4, rc0, rc1, rc2, rc3, rc4, rc5, rc6, rc7, rc8, rc9, rc10, gc0, gc1, gc2, gc3, gc4, acells_some hG1]
  rw [wLimits g m1.wf (by omega) hr1 hlen]
  unfold validM
  by_cases hL : Limits g
  · rw [decide_eq_true hL]
    simp (maxSteps := 10000000) only [wW, Option.bind_some, Option.map_some, decide_eq_true_eq, Bool.not_eq_true', decide_eq_false_iff_not, Bool.not_true, Bool.not_false, ne_eq, if_true, if_false, reduceCtorEq, eq_self, Nat.zero_add, Nat.add_zero, not_false_eq_true, Nat.reduceEqDiff, wop_load, wop_indexAddr, wix0, wix1, wix2, rcAll, gcAll, Option.map_some, Nat.reduceAdd, load1 ap_24, load1 ap_3, load1 ap_4, load1 ap_92, load1 ap_32, loadN ap_94, loadN ap_34, loadN ap_58, fa_94_0, fa_94_1, fa_94_2, fa_94_3, fa_94_4, fa_94_5, fa_94_6, fa_94_7, fa_34_0, fa_34_1, fa_34_2, fa_34_3, fa_34_4, rc0, rc1, rc2, rc3, rc4, rc5, rc6, rc7, rc8, rc9, rc10, gc0, gc1, gc2, gc3, gc4, acells_some hG1, Bool.true_and]
    refine wOrder g hL m1.wf (by omega) hr1 (fun h => ?_) (fun D v s' h hg _ => ?_)
    · rw [h]
      simp (maxSteps := 10000000) only [wW, Option.bind_some, Option.map_some, decide_eq_true_eq, Bool.not_eq_true', decide_eq_false_iff_not, Bool.not_true, Bool.not_false, ne_eq, if_true, if_false, reduceCtorEq, eq_self, Nat.zero_add, Nat.add_zero, not_false_eq_true, Nat.reduceEqDiff, List.getElem?_cons_zero, List.getElem?_cons_succ]
      exact fin_flat rfl m1.grew ⟨rfl, rfl⟩
    · rw [h]
      simp (maxSteps := 10000000) only [wW, Option.bind_some, Option.map_some, decide_eq_true_eq, Bool.not_eq_true', decide_eq_false_iff_not, Bool.not_true, Bool.not_false, ne_eq, if_true, if_false, reduceCtorEq, eq_self, Nat.zero_add, Nat.add_zero, not_false_eq_true, Nat.reduceEqDiff, List.getElem?_cons_zero, List.getElem?_cons_succ]
      exact fin_flat rfl (m1.grew.trans hg) ⟨rfl, rfl⟩
  · rw [decide_eq_false hL]
    simp (maxSteps := 10000000) only [wW, Option.bind_some, Option.map_some, decide_eq_true_eq, Bool.not_eq_true', decide_eq_false_iff_not, Bool.not_true, Bool.not_false, ne_eq, if_true, if_false, reduceCtorEq, eq_self, Nat.zero_add, Nat.add_zero, not_false_eq_true, Nat.reduceEqDiff]
    exact fin_flat rfl m1.grew ⟨rfl, rfl⟩

end
/-! ### a run -/
def atB (l : List Bool) (i : Int) : Bool := (l[i.toNat]?).getD false
def setV (w x : Int) (c : List Int × List Bool) : List Int × List Bool := (c.1.set w.toNat x, c.2.set w.toNat true)
def runA (f : Int) (r : Row) (c : List Int × List Bool) : List Int × List Bool :=
  if r.k = 1 ∧ r.qo ≠ 0 ∧ atB c.2 r.w2 = false then setV r.w2 (fNeg f (fDiv f (sumM f r c.1) r.qo)) c else c
def runN (l : List Int) (nx : Row) (k : Nat) (c : List Int × List Bool) : List Int × List Bool :=
  if atB c.2 (nx.w k) = false then setV (nx.w k) (at0 l k) c else c
def runB (f : Int) (r nx : Row) (c : List Int × List Bool) : List Int × List Bool :=
  if r.k = 3 then it (runN (roundM f r.rd (wv c.1 r)) nx) 4 c else c
def runR (g : Gp) (i : Nat) (c : List Int × List Bool) : List Int × List Bool := runB g.f (rowAt g.rows i) (rowAt g.rows (i + 1)) (runA g.f (rowAt g.rows i) c)
def inp (pub sec : List Int) (i : Nat) : Int := if i < pub.length then at0 pub i else at0 sec ((i : Int) - pub.length)
def runI (pub sec : List Int) (i : Nat) (c : List Int × List Bool) : List Int × List Bool := setV i (inp pub sec i) c
def run0 (g : Gp) : List Int × List Bool := (List.replicate g.nv.toNat 0, List.replicate g.nv.toNat false)
/-- The values of a run. -/
def runV (g : Gp) (pub sec : List Int) : List Int × List Bool := it (runR g) g.rows.length (it (runI pub sec) (g.pub + g.sec).toNat (run0 g))
/-- Whether the first rows hold. -/
noncomputable def okM (g : Gp) (vals : List Int) : Nat → Bool
  | 0 => true
  | i + 1 => okM g vals i && holdsR g.f (rowAt g.rows i) (rowAt g.rows (i + 1)) vals
/-- What is asked of the arguments of a run. -/
def runOk (g : Gp) (pub sec : List Int) : Prop := validM g = true ∧ (pub.length : Int) = g.pub ∧ (sec.length : Int) = g.sec ∧ below g.f pub = true ∧ below g.f sec = true

/-- What a run keeps. -/
structure RunI (ro : Nat) (g : Gp) (ur : Value) (s0 : St) (G A B : Nat) (s : St) (c : List Int × List Bool) : Prop where
  vv : Vc 24 (.int .u64) s0 s A c.1
  vb : Vc 4 .bool s0 s B c.2
  gat : s.at G = some (.cells (g.cells ur) 34 false)
  l1 : c.1.length = g.nv.toNat
  l2 : c.2.length = g.nv.toNat
  w0 : Wf s0
  ro : ro ≤ s0.n
  rows : RowsS s0 ur g.rows
  ga : G ≠ A
  gb : G ≠ B
  ab : A ≠ B
  nn : ∀ x ∈ c.1, 0 ≤ x

section
variable {ro : Nat} {K : Value → St → Prop} {g : Gp} {ur : Value} {s0 : St} {G A B : Nat} {s : St} {c : List Int × List Bool}
theorem RunI.rs (h : RunI ro g ur s0 G A B s c) : RowsS s ur g.rows := Sl.grew h.rows h.vv.grew.same
theorem RunI.gc (h : RunI ro g ur s0 G A B s c) : acells (s.at G) = some (g.cells ur) := acells_some h.gat
theorem RunI.vc (h : RunI ro g ur s0 G A B s c) : acells (s.at A) = some (c.1.map (.int .u64)) := acells_some h.vv.here
theorem RunI.bc (h : RunI ro g ur s0 G A B s c) : acells (s.at B) = some (c.2.map .bool) := acells_some h.vb.here
theorem RunI.getB (h : RunI ro g ur s0 G A B s c) {i : Int} (h0 : 0 ≤ i) (hi : i < g.nv) : (c.2.map Value.bool)[i.toNat]? = some (.bool (atB c.2 i)) := by
  have := h.l2
  unfold atB
  rw [List.getElem?_map, List.getElem?_eq_getElem (by omega)]; rfl
theorem RunI.grew (h : RunI ro g ur s0 G A B s c) {s' : St} (hg : Grew s s') : RunI ro g ur s0 G A B s' c :=
  ⟨⟨(hg.same A (St.at_lt h.vv.here)).trans h.vv.here, h.vv.new, h.vv.wf.grew hg, h.vv.grew.trans hg⟩, ⟨(hg.same B (St.at_lt h.vb.here)).trans h.vb.here, h.vb.new, h.vv.wf.grew hg, h.vv.grew.trans hg⟩, (hg.same G (St.at_lt h.gat)).trans h.gat, h.l1, h.l2, h.w0, h.ro, h.rows, h.ga, h.gb, h.ab, h.nn⟩
/-- The values as a slice. -/
theorem RunI.sl (h : RunI ro g ur s0 G A B s c) : U64s s (slc A g.nv.toNat) c.1 :=
  ⟨some ⟨A, 0, none⟩, g.nv.toNat, by rw [h.l1], by simp, ⟨by rw [h.l1]; omega, fun h => (by cases h), fun x hx => (by cases hx; exact .inl rfl)⟩, fun _ => ⟨A, 0, none, _, _, _, rfl, rfl, h.vv.here, by rw [List.drop_zero, List.take_of_length_le (by simp)]⟩⟩

/-- A variable is known from now on, and has a value. -/
theorem RunI.storeB (h : RunI ro g ur s0 G A B s c) {i : Int} (h0 : 0 ≤ i) (hi : i < g.nv) {ty : TypeId} {K : Value → St → Prop} (hk : ∀ s', RunI ro g ur s0 G A B s' (c.1, c.2.set i.toNat true) → (∀ C, C ≠ B → s'.at C = s.at C) → K undef s') :
    wop P ro (.store 4 (.const (.pointer (some ⟨B, i.toNat, none⟩))) (.const (.bool true))) ty s K := by
  have := h.l2
  exact h.vb.store (mk := Value.bool) (x := true) isz_4 h.w0 h.ro (by omega) rfl fun s' v r _ => hk s' ⟨⟨(r A h.ab).trans h.vv.here, h.vv.new, v.wf, v.grew⟩, v, (r G h.gb).trans h.gat, h.l1, by rw [List.length_set]; exact h.l2, h.w0, h.ro, h.rows, h.ga, h.gb, h.ab, h.nn⟩ r
theorem RunI.storeV (h : RunI ro g ur s0 G A B s c) {i : Int} (h0 : 0 ≤ i) (hi : i < g.nv) {x : Int} (hx : 0 ≤ x) {ty : TypeId} {K : Value → St → Prop} (hk : ∀ s', RunI ro g ur s0 G A B s' (c.1.set i.toNat x, c.2) → (∀ C, C ≠ A → s'.at C = s.at C) → K undef s') :
    wop P ro (.store 24 (.const (.pointer (some ⟨A, i.toNat, none⟩))) (.const (.int .u64 x))) ty s K := by
  have := h.l1
  exact h.vv.store isz_24 h.w0 h.ro (by omega) rfl fun s' v r _ => hk s' ⟨v, ⟨(r B (Ne.symm h.ab)).trans h.vb.here, h.vb.new, v.wf, v.grew⟩, (r G h.ga).trans h.gat, by rw [List.length_set]; exact h.l1, h.l2, h.w0, h.ro, h.rows, h.ga, h.gb, h.ab, nn_set h.nn hx⟩ r

theorem rds_0 {r : Row} (h1 : r.k = 1) (hq : r.ql ≠ 0 ∨ r.qm ≠ 0) : (0 : Int) ∈ rds r := by
  unfold rds
  rw [if_pos h1, if_pos hq]
  simp
theorem rds_1 {r : Row} (h1 : r.k = 1) (hq : r.qr ≠ 0 ∨ r.qm ≠ 0) : (1 : Int) ∈ rds r := by
  unfold rds
  rw [if_pos h1, if_pos hq]
  simp

theorem Limits.fit (h : Limits g) {i : Nat} (hi : i < g.rows.length) (hn : (rowAt g.rows i).Nn) : RowFit g.nv.toNat (rowAt g.rows i) := by
  have hnv := h.nv
  have key : ∀ {j : Int}, j ∈ rds (rowAt g.rows i) → 0 ≤ (rowAt g.rows i).w j.toNat ∧ (rowAt g.rows i).w j.toNat < g.nv.toNat := fun {j} hj => by
    have := h.reads hi hj
    omega
  refine ⟨hn, fun k1 hq => key (rds_0 k1 hq), fun k1 hq => key (rds_1 k1 hq), fun k1 hq => key (rds_2 k1 hq), fun k2 => ?_, fun k3 => ⟨⟨(h.row hi).1.2.1, (h.row hi).1.2.2.1⟩, fun k hk => ?_⟩⟩
  · refine key (j := 0) ?_
    unfold rds
    rw [if_neg (by omega), if_pos k2]
    simp
  · have : ((k : Nat) : Int) ∈ rds (rowAt g.rows i) := by
      unfold rds
      rw [if_neg (by omega), if_neg (by omega), if_pos k3]
      simp
      omega
    have := key this
    rwa [Int.toNat_natCast] at this

end
end Go.VE
/- The reference of the gates: a run's rows. -/
namespace Go.VE
open Go Go.Proofs
set_option maxRecDepth 20000
section
variable {ro : Nat} {K : Value → St → Prop} {g : Gp} {ur : Value} {s0 : St} {G A B : Nat} {s : St} {c : List Int × List Bool}
theorem runEnd {τ : Tau} {al : AL} {ds : List Deferred} {Q : Ex → WK} {i : Nat} (hi : i ≤ 8000) (h12 : U τ al 12 = .int .i64 i)
    (hk : ∀ τ', τ' 3 = U τ al 3 → τ' 9 = U τ al 9 → τ' 10 = U τ al 10 → τ' 12 = .int .i64 ((i + 1 : Nat) : Int) → Q .normal τ' ds s) :
    blkX 3 (sX (prims P ro) none 192 k13_111110100 c13_11111010011 [1, 1] (lift Q)) .normal τ al ds s := by
  rw [blkX_n, sX_n (.lift _), n13_11111010011]
  unfold v13_11111010011
  rw [h12]
  simp (maxSteps := 10000000) only [wW, Option.bind_some, Option.map_some, decide_eq_true_eq, Bool.not_eq_true', decide_eq_false_iff_not, Bool.not_true, Bool.not_false, ne_eq, if_true, if_false, reduceCtorEq, eq_self, Nat.zero_add, Nat.add_zero, not_false_eq_true, Nat.reduceEqDiff]
  rw [wrap_i64 (by omega) (by omega)]
  unfold lift
  refine hk _ ?_ ?_ ?_ ?_
  · simp only [U, tset_eq, wW, Option.bind_some, Option.map_some, decide_eq_true_eq, Bool.not_eq_true', decide_eq_false_iff_not, Bool.not_true, Bool.not_false, ne_eq, if_true, if_false, reduceCtorEq, eq_self, Nat.zero_add, Nat.add_zero, not_false_eq_true, Nat.reduceEqDiff]
  · simp only [U, tset_eq, wW, Option.bind_some, Option.map_some, decide_eq_true_eq, Bool.not_eq_true', decide_eq_false_iff_not, Bool.not_true, Bool.not_false, ne_eq, if_true, if_false, reduceCtorEq, eq_self, Nat.zero_add, Nat.add_zero, not_false_eq_true, Nat.reduceEqDiff]
  · simp only [U, tset_eq, wW, Option.bind_some, Option.map_some, decide_eq_true_eq, Bool.not_eq_true', decide_eq_false_iff_not, Bool.not_true, Bool.not_false, ne_eq, if_true, if_false, reduceCtorEq, eq_self, Nat.zero_add, Nat.add_zero, not_false_eq_true, Nat.reduceEqDiff]
  · simp only [U, tset_eq, wW, Option.bind_some, Option.map_some, decide_eq_true_eq, Bool.not_eq_true', decide_eq_false_iff_not, Bool.not_true, Bool.not_false, ne_eq, if_true, if_false, reduceCtorEq, eq_self, Nat.zero_add, Nat.add_zero, not_false_eq_true, Nat.reduceEqDiff]; rfl

theorem runNext (hL : Limits g) (hI : RunI ro g ur s0 G A B s c) {i : Nat} (hi : i < g.rows.length) (hfit : RowFit g.nv.toNat (rowAt g.rows i)) {R : Nat} (hR : s.at R = some (.cells (rowAt g.rows i).cells 94 false))
    {τ : Tau} {ds : List Deferred} {Qe : Ex → XK} (h3 : τ 3 = ptr G) (h9 : τ 9 = slc A g.nv.toNat) (h10 : τ 10 = slc B g.nv.toNat) (h12 : τ 12 = .int .i64 i) (h13 : τ 13 = ptr R)
    (hk : ∀ τ' al s', U τ' al 3 = ptr G → U τ' al 9 = slc A g.nv.toNat → U τ' al 10 = slc B g.nv.toNat → U τ' al 12 = .int .i64 i → RunI ro g ur s0 G A B s' (runB g.f (rowAt g.rows i) (rowAt g.rows (i + 1)) c) → Qe .normal τ' al ds s') :
    xp (prims P ro) none 192 k13_111110100 c13_11111010010011 [1, 1, 0, 0, 1] τ [] ds s Qe := by
  have hnv := hL.nv
  have hrl := hL.2.2.2.2.2.2.2.1
  have hv := hL.1
  rw [n13_11111010010011]
  unfold v13_11111010010011
  have hRc : acells (s.at R) = some (rowAt g.rows i).cells := acells_some hR
  rw [h3, h9, h13]
  simp (maxSteps := 10000000) only [wW, Option.bind_some, Option.map_some, decide_eq_true_eq, Bool.not_eq_true', decide_eq_false_iff_not, Bool.not_true, Bool.not_false, ne_eq, if_true, if_false, reduceCtorEq, eq_self, Nat.zero_add, Nat.add_zero, not_false_eq_true, Nat.reduceEqDiff, wop_load, wop_indexAddr, wix0, wix1, wix2, rcAll, gcAll, Option.map_some, Nat.reduceAdd, load1 ap_24, load1 ap_3, load1 ap_4, load1 ap_92, load1 ap_32, loadN ap_94, loadN ap_34, loadN ap_58, fa_94_0, fa_94_1, fa_94_2, fa_94_3, fa_94_4, fa_94_5, fa_94_6, fa_94_7, fa_34_0, fa_34_1, fa_34_2, fa_34_3, fa_34_4, rc0, rc1, rc2, rc3, rc4, rc5, rc6, rc7, rc8, rc9, rc10, gc0, gc1, gc2, gc3, gc4, hRc]
  unfold runB at hk
  by_cases hk3 : (rowAt g.rows i).k = 3
  · rw [if_pos hk3] at hk ⊢
    have hn := hL.next hi hk3
    have hx := hfit.round hk3
    simp (maxSteps := 10000000) only [wW, Option.bind_some, Option.map_some, decide_eq_true_eq, Bool.not_eq_true', decide_eq_false_iff_not, Bool.not_true, Bool.not_false, ne_eq, if_true, if_false, reduceCtorEq, eq_self, Nat.zero_add, Nat.add_zero, not_false_eq_true, Nat.reduceEqDiff, wop_load, wop_indexAddr, wix0, wix1, wix2, rcAll, gcAll, Option.map_some, Nat.reduceAdd, load1 ap_24, load1 ap_3, load1 ap_4, load1 ap_92, load1 ap_32, loadN ap_94, loadN ap_34, loadN ap_58, fa_94_0, fa_94_1, fa_94_2, fa_94_3, fa_94_4, fa_94_5, fa_94_6, fa_94_7, fa_34_0, fa_34_1, fa_34_2, fa_34_3, fa_34_4, rc0, rc1, rc2, rc3, rc4, rc5, rc6, rc7, rc8, rc9, rc10, gc0, gc1, gc2, gc3, gc4, hRc, hI.gc]
    have hgn := hI.vv.grew.n
    have hro := hI.ro
    rw [wRnd g.f hv hx.1 hI.vv.wf (by omega) hI.sl hI.nn (fun k hk4 => by have := hx.2 k hk4; have := hI.l1; omega)]
    have hl2 := roundM_len g.f (rowAt g.rows i).rd (wv c.1 (rowAt g.rows i))
    have hn2 := roundM_nn g.f (rowAt g.rows i).rd (wv c.1 (rowAt g.rows i))
    generalize roundM g.f (rowAt g.rows i).rd (wv c.1 (rowAt g.rows i)) = q at hl2 hn2 hk ⊢
    refine alloc_rule ty_58 hI.vv.wf fun S s4 m4 => ?_
    have e4 := m4.eq
    have n4 := m4.n
    refine storeAll_rule isz_58 m4.here (show (u4 q).length = 4 by rw [u4_len]; exact hl2) (by decide) m4.wf (by omega) rfl (u4_one _) fun s5 p5 => ?_
    have hI4 := hI.grew m4.grew
    have hA4 := St.at_lt hI.vv.here
    have hB4 := St.at_lt hI.vb.here
    have hG4 := St.at_lt hI.gat
    have g5 := p5.grew _ hI.w0 hI4.vv.grew (by omega)
    have hI5 : RunI ro g ur s0 G A B s5 c := ⟨⟨(p5.rest A (by omega)).trans hI4.vv.here, hI.vv.new, p5.wf, g5⟩, ⟨(p5.rest B (by omega)).trans hI4.vb.here, hI.vb.new, p5.wf, g5⟩, (p5.rest G (by omega)).trans hI4.gat, hI.l1, hI.l2, hI.w0, hI.ro, hI.rows, hI.ga, hI.gb, hI.ab, hI.nn⟩
    have hSA : S ≠ A := by omega
    have hSB : S ≠ B := by omega
    refine wloop l13_11111010010011101100 m13_11111010010011101100 (fun (k : Nat) τ ds' s' => k ≤ 4 ∧ τ 3 = ptr G ∧ τ 9 = slc A g.nv.toNat ∧ τ 10 = slc B g.nv.toNat ∧ τ 12 = .int .i64 i ∧ τ 14 = ptr S ∧ τ 15 = .int .i64 k ∧ ds = ds' ∧ RunI ro g ur s0 G A B s' (it (runN q (rowAt g.rows (i + 1))) k c) ∧ s'.at S = some (.cells (u4 q) 58 false)) (fun k => 4 - k) ?_ 0 ⟨by omega, ?_, ?_, ?_, ?_, ?_, rfl, rfl, hI5, p5.here⟩
    · clear h3 h9 h10 h12 h13 hI hR hRc hI4 hI5
      rintro k τ ds' s' ⟨hk4', h3, h9, h10, h12, h14, h15, rfl, hI, hS⟩
      rw [n13_11111010010011101100]
      unfold v13_11111010010011101100
      by_cases hk4 : k < 4
      · have hx := hn.2 k hk4
        obtain ⟨A2, o2, c2, y1, y2⟩ := hI.rs.ix (rowAt_get hn.1)
        have hiw : IntKind.i64.wrap ((i : Int) + 1) = ((i + 1 : Nat) : Int) := by rw [wrap_i64 (by omega) (by omega)]; rfl
        have hwk := y2.wire hk4
        have hixA := ixc se_23 isz_24 (A := A) (n := g.nv.toNat) (c := g.nv.toNat) (i := (rowAt g.rows (i + 1)).w k) hx.1 (by omega)
        have hixB := ixc se_97 isz_4 (A := B) (n := g.nv.toNat) (c := g.nv.toNat) (i := (rowAt g.rows (i + 1)).w k) hx.1 (by omega)
        have hgt := hI.getB hx.1 hx.2
        simp (maxSteps := 10000000) only [wW, Option.bind_some, Option.map_some, decide_eq_true_eq, Bool.not_eq_true', decide_eq_false_iff_not, Bool.not_true, Bool.not_false, ne_eq, if_true, if_false, reduceCtorEq, eq_self, Nat.zero_add, Nat.add_zero, not_false_eq_true, Nat.reduceEqDiff, wop_load, wop_indexAddr, wix0, wix1, wix2, rcAll, gcAll, Option.map_some, Nat.reduceAdd, load1 ap_24, load1 ap_3, load1 ap_4, load1 ap_92, load1 ap_32, loadN ap_94, loadN ap_34, loadN ap_58, fa_94_0, fa_94_1, fa_94_2, fa_94_3, fa_94_4, fa_94_5, fa_94_6, fa_94_7, fa_34_0, fa_34_1, fa_34_2, fa_34_3, fa_34_4, rc0, rc1, rc2, rc3, rc4, rc5, rc6, rc7, rc8, rc9, rc10, gc0, gc1, gc2, gc3, gc4, h3, h9, h10, h12, h14, h15, hI.gc, hiw, y1, y2.blk, wix _ _ hk4, six _ _ hk4, hwk, hixA, hixB, hI.bc, hgt]
        rw [if_pos (by omega)]
        cases hneg : atB (it (runN q (rowAt g.rows (i + 1))) k c).2 ((rowAt g.rows (i + 1)).w k) with
        | false =>
          rw [if_pos rfl]
          refine hI.storeB hx.1 hx.2 fun s2 hI2 r2 => ?_
          have hS2 := (r2 S hSB).trans hS
          rw [acells_some hS2, wopt_some, u4_get (show k < q.length by omega), wopt_some]
          refine hI2.storeV hx.1 hx.2 (at0_nn hn2 _) fun s3 hI3 r3 => ?_
          rw [wrap_i64 (by omega) (by omega)]
          refine ⟨k + 1, by omega, by omega, ?_, ?_, ?_, ?_, ?_, ?_, trivial, ?_, (r3 S hSA).trans hS2⟩
          · simp only [U, tset_eq, wW, Option.bind_some, Option.map_some, decide_eq_true_eq, Bool.not_eq_true', decide_eq_false_iff_not, Bool.not_true, Bool.not_false, ne_eq, if_true, if_false, reduceCtorEq, eq_self, Nat.zero_add, Nat.add_zero, not_false_eq_true, Nat.reduceEqDiff, h3]
          · simp only [U, tset_eq, wW, Option.bind_some, Option.map_some, decide_eq_true_eq, Bool.not_eq_true', decide_eq_false_iff_not, Bool.not_true, Bool.not_false, ne_eq, if_true, if_false, reduceCtorEq, eq_self, Nat.zero_add, Nat.add_zero, not_false_eq_true, Nat.reduceEqDiff, h9]
          · simp only [U, tset_eq, wW, Option.bind_some, Option.map_some, decide_eq_true_eq, Bool.not_eq_true', decide_eq_false_iff_not, Bool.not_true, Bool.not_false, ne_eq, if_true, if_false, reduceCtorEq, eq_self, Nat.zero_add, Nat.add_zero, not_false_eq_true, Nat.reduceEqDiff, h10]
          · simp only [U, tset_eq, wW, Option.bind_some, Option.map_some, decide_eq_true_eq, Bool.not_eq_true', decide_eq_false_iff_not, Bool.not_true, Bool.not_false, ne_eq, if_true, if_false, reduceCtorEq, eq_self, Nat.zero_add, Nat.add_zero, not_false_eq_true, Nat.reduceEqDiff, h12]
          · simp only [U, tset_eq, wW, Option.bind_some, Option.map_some, decide_eq_true_eq, Bool.not_eq_true', decide_eq_false_iff_not, Bool.not_true, Bool.not_false, ne_eq, if_true, if_false, reduceCtorEq, eq_self, Nat.zero_add, Nat.add_zero, not_false_eq_true, Nat.reduceEqDiff, h14]
          · simp only [U, tset_eq, wW, Option.bind_some, Option.map_some, decide_eq_true_eq, Bool.not_eq_true', decide_eq_false_iff_not, Bool.not_true, Bool.not_false, ne_eq, if_true, if_false, reduceCtorEq, eq_self, Nat.zero_add, Nat.add_zero, not_false_eq_true, Nat.reduceEqDiff]; rfl
          · rw [it, runN, if_pos hneg]
            exact hI3
        | true =>
          rw [if_neg (by decide), wrap_i64 (by omega) (by omega)]
          refine ⟨k + 1, by omega, by omega, ?_, ?_, ?_, ?_, ?_, ?_, trivial, ?_, hS⟩
          · simp only [U, tset_eq, wW, Option.bind_some, Option.map_some, decide_eq_true_eq, Bool.not_eq_true', decide_eq_false_iff_not, Bool.not_true, Bool.not_false, ne_eq, if_true, if_false, reduceCtorEq, eq_self, Nat.zero_add, Nat.add_zero, not_false_eq_true, Nat.reduceEqDiff, h3]
          · simp only [U, tset_eq, wW, Option.bind_some, Option.map_some, decide_eq_true_eq, Bool.not_eq_true', decide_eq_false_iff_not, Bool.not_true, Bool.not_false, ne_eq, if_true, if_false, reduceCtorEq, eq_self, Nat.zero_add, Nat.add_zero, not_false_eq_true, Nat.reduceEqDiff, h9]
          · simp only [U, tset_eq, wW, Option.bind_some, Option.map_some, decide_eq_true_eq, Bool.not_eq_true', decide_eq_false_iff_not, Bool.not_true, Bool.not_false, ne_eq, if_true, if_false, reduceCtorEq, eq_self, Nat.zero_add, Nat.add_zero, not_false_eq_true, Nat.reduceEqDiff, h10]
          · simp only [U, tset_eq, wW, Option.bind_some, Option.map_some, decide_eq_true_eq, Bool.not_eq_true', decide_eq_false_iff_not, Bool.not_true, Bool.not_false, ne_eq, if_true, if_false, reduceCtorEq, eq_self, Nat.zero_add, Nat.add_zero, not_false_eq_true, Nat.reduceEqDiff, h12]
          · simp only [U, tset_eq, wW, Option.bind_some, Option.map_some, decide_eq_true_eq, Bool.not_eq_true', decide_eq_false_iff_not, Bool.not_true, Bool.not_false, ne_eq, if_true, if_false, reduceCtorEq, eq_self, Nat.zero_add, Nat.add_zero, not_false_eq_true, Nat.reduceEqDiff, h14]
          · simp only [U, tset_eq, wW, Option.bind_some, Option.map_some, decide_eq_true_eq, Bool.not_eq_true', decide_eq_false_iff_not, Bool.not_true, Bool.not_false, ne_eq, if_true, if_false, reduceCtorEq, eq_self, Nat.zero_add, Nat.add_zero, not_false_eq_true, Nat.reduceEqDiff]; rfl
          · rw [it, runN, if_neg (by rw [hneg]; decide)]
            exact hI
      · obtain rfl : k = 4 := by omega
        simp (maxSteps := 10000000) only [wW, Option.bind_some, Option.map_some, decide_eq_true_eq, Bool.not_eq_true', decide_eq_false_iff_not, Bool.not_true, Bool.not_false, ne_eq, if_true, if_false, reduceCtorEq, eq_self, Nat.zero_add, Nat.add_zero, not_false_eq_true, Nat.reduceEqDiff, h15]
        rw [if_neg (by omega)]
        refine hk _ [] _ ?_ ?_ ?_ ?_ hI
        · simp only [U, tset_eq, wW, Option.bind_some, Option.map_some, decide_eq_true_eq, Bool.not_eq_true', decide_eq_false_iff_not, Bool.not_true, Bool.not_false, ne_eq, if_true, if_false, reduceCtorEq, eq_self, Nat.zero_add, Nat.add_zero, not_false_eq_true, Nat.reduceEqDiff, h3]
        · simp only [U, tset_eq, wW, Option.bind_some, Option.map_some, decide_eq_true_eq, Bool.not_eq_true', decide_eq_false_iff_not, Bool.not_true, Bool.not_false, ne_eq, if_true, if_false, reduceCtorEq, eq_self, Nat.zero_add, Nat.add_zero, not_false_eq_true, Nat.reduceEqDiff, h9]
        · simp only [U, tset_eq, wW, Option.bind_some, Option.map_some, decide_eq_true_eq, Bool.not_eq_true', decide_eq_false_iff_not, Bool.not_true, Bool.not_false, ne_eq, if_true, if_false, reduceCtorEq, eq_self, Nat.zero_add, Nat.add_zero, not_false_eq_true, Nat.reduceEqDiff, h10]
        · simp only [U, tset_eq, wW, Option.bind_some, Option.map_some, decide_eq_true_eq, Bool.not_eq_true', decide_eq_false_iff_not, Bool.not_true, Bool.not_false, ne_eq, if_true, if_false, reduceCtorEq, eq_self, Nat.zero_add, Nat.add_zero, not_false_eq_true, Nat.reduceEqDiff, h12]
    · simp only [U, tset_eq, wW, Option.bind_some, Option.map_some, decide_eq_true_eq, Bool.not_eq_true', decide_eq_false_iff_not, Bool.not_true, Bool.not_false, ne_eq, if_true, if_false, reduceCtorEq, eq_self, Nat.zero_add, Nat.add_zero, not_false_eq_true, Nat.reduceEqDiff, h3]
    · simp only [U, tset_eq, wW, Option.bind_some, Option.map_some, decide_eq_true_eq, Bool.not_eq_true', decide_eq_false_iff_not, Bool.not_true, Bool.not_false, ne_eq, if_true, if_false, reduceCtorEq, eq_self, Nat.zero_add, Nat.add_zero, not_false_eq_true, Nat.reduceEqDiff, h9]
    · simp only [U, tset_eq, wW, Option.bind_some, Option.map_some, decide_eq_true_eq, Bool.not_eq_true', decide_eq_false_iff_not, Bool.not_true, Bool.not_false, ne_eq, if_true, if_false, reduceCtorEq, eq_self, Nat.zero_add, Nat.add_zero, not_false_eq_true, Nat.reduceEqDiff, h10]
    · simp only [U, tset_eq, wW, Option.bind_some, Option.map_some, decide_eq_true_eq, Bool.not_eq_true', decide_eq_false_iff_not, Bool.not_true, Bool.not_false, ne_eq, if_true, if_false, reduceCtorEq, eq_self, Nat.zero_add, Nat.add_zero, not_false_eq_true, Nat.reduceEqDiff, h12]
    · simp only [U, tset_eq, wW, Option.bind_some, Option.map_some, decide_eq_true_eq, Bool.not_eq_true', decide_eq_false_iff_not, Bool.not_true, Bool.not_false, ne_eq, if_true, if_false, reduceCtorEq, eq_self, Nat.zero_add, Nat.add_zero, not_false_eq_true, Nat.reduceEqDiff]
  · rw [if_neg hk3] at hk ⊢
    refine hk _ _ _ ?_ ?_ ?_ ?_ hI
    · simp only [U, tset_eq, wW, Option.bind_some, Option.map_some, decide_eq_true_eq, Bool.not_eq_true', decide_eq_false_iff_not, Bool.not_true, Bool.not_false, ne_eq, if_true, if_false, reduceCtorEq, eq_self, Nat.zero_add, Nat.add_zero, not_false_eq_true, Nat.reduceEqDiff, h3]
    · simp only [U, tset_eq, wW, Option.bind_some, Option.map_some, decide_eq_true_eq, Bool.not_eq_true', decide_eq_false_iff_not, Bool.not_true, Bool.not_false, ne_eq, if_true, if_false, reduceCtorEq, eq_self, Nat.zero_add, Nat.add_zero, not_false_eq_true, Nat.reduceEqDiff, h9]
    · simp only [U, tset_eq, wW, Option.bind_some, Option.map_some, decide_eq_true_eq, Bool.not_eq_true', decide_eq_false_iff_not, Bool.not_true, Bool.not_false, ne_eq, if_true, if_false, reduceCtorEq, eq_self, Nat.zero_add, Nat.add_zero, not_false_eq_true, Nat.reduceEqDiff, h10]
    · simp only [U, tset_eq, wW, Option.bind_some, Option.map_some, decide_eq_true_eq, Bool.not_eq_true', decide_eq_false_iff_not, Bool.not_true, Bool.not_false, ne_eq, if_true, if_false, reduceCtorEq, eq_self, Nat.zero_add, Nat.add_zero, not_false_eq_true, Nat.reduceEqDiff, h12]

theorem runArith (hL : Limits g) (hI : RunI ro g ur s0 G A B s c) {i : Nat} (hi : i < g.rows.length) (hfit : RowFit g.nv.toNat (rowAt g.rows i)) {R : Nat} (hR : s.at R = some (.cells (rowAt g.rows i).cells 94 false)) (hRA : R ≠ A) (hRB : R ≠ B)
    {τ : Tau} {ds : List Deferred} {Qe : Ex → XK} (hQ : QOk Qe) (h3 : τ 3 = ptr G) (h9 : τ 9 = slc A g.nv.toNat) (h10 : τ 10 = slc B g.nv.toNat) (h12 : τ 12 = .int .i64 i) (h13 : τ 13 = ptr R)
    {b : Bool} (h117 : τ 117 = .bool b) (hb : b = true ↔ (rowAt g.rows i).k = 1 ∧ (rowAt g.rows i).qo ≠ 0 ∧ atB c.2 (rowAt g.rows i).w2 = false)
    (hk : ∀ τ' al s', U τ' al 3 = ptr G → U τ' al 9 = slc A g.nv.toNat → U τ' al 10 = slc B g.nv.toNat → U τ' al 12 = .int .i64 i → RunI ro g ur s0 G A B s' (runR g i c) → Qe .normal τ' al ds s') :
    xp (prims P ro) none 192 k13_111110100 c13_111110100100101 [1, 0, 1, 0, 0, 1] τ [] ds s (sX (prims P ro) none 192 k13_111110100 c13_11111010010011 [1, 1, 0, 0, 1] Qe) := by
  have hnv := hL.nv
  generalize hX : sX (prims P ro) none 192 k13_111110100 c13_11111010010011 [1, 1, 0, 0, 1] Qe = X
  rw [n13_111110100100101]
  unfold v13_111110100100101
  have hRc : acells (s.at R) = some (rowAt g.rows i).cells := acells_some hR
  rw [h117, h3, h9, h10, h13]
  simp (maxSteps := 10000000) only [wW, Option.bind_some, Option.map_some, decide_eq_true_eq, Bool.not_eq_true', decide_eq_false_iff_not, Bool.not_true, Bool.not_false, ne_eq, if_true, if_false, reduceCtorEq, eq_self, Nat.zero_add, Nat.add_zero, not_false_eq_true, Nat.reduceEqDiff, wop_load, wop_indexAddr, wix0, wix1, wix2, rcAll, gcAll, Option.map_some, Nat.reduceAdd, load1 ap_24, load1 ap_3, load1 ap_4, load1 ap_92, load1 ap_32, loadN ap_94, loadN ap_34, loadN ap_58, fa_94_0, fa_94_1, fa_94_2, fa_94_3, fa_94_4, fa_94_5, fa_94_6, fa_94_7, fa_34_0, fa_34_1, fa_34_2, fa_34_3, fa_34_4, rc0, rc1, rc2, rc3, rc4, rc5, rc6, rc7, rc8, rc9, rc10, gc0, gc1, gc2, gc3, gc4, hRc]
  by_cases hbt : b = true
  · rw [if_pos hbt]
    have hc := hb.1 hbt
    have hw2 := hL.reads hi (rds_2 hc.1 hc.2.1)
    have hw2' : 0 ≤ (rowAt g.rows i).w2 ∧ (rowAt g.rows i).w2 < g.nv := hw2
    have hixA := ixc se_23 isz_24 (A := A) (n := g.nv.toNat) (c := g.nv.toNat) (i := (rowAt g.rows i).w2) hw2'.1 (by omega)
    have hixB := ixc se_97 isz_4 (A := B) (n := g.nv.toNat) (c := g.nv.toNat) (i := (rowAt g.rows i).w2) hw2'.1 (by omega)
    rw [hixB, wopt_some]
    refine hI.storeB hw2'.1 hw2'.2 fun s2 hI2 r2 => ?_
    have hR2 := (r2 R hRB).trans hR
    simp (maxSteps := 10000000) only [wW, Option.bind_some, Option.map_some, decide_eq_true_eq, Bool.not_eq_true', decide_eq_false_iff_not, Bool.not_true, Bool.not_false, ne_eq, if_true, if_false, reduceCtorEq, eq_self, Nat.zero_add, Nat.add_zero, not_false_eq_true, Nat.reduceEqDiff, wop_load, wop_indexAddr, wix0, wix1, wix2, rcAll, gcAll, Option.map_some, Nat.reduceAdd, load1 ap_24, load1 ap_3, load1 ap_4, load1 ap_92, load1 ap_32, loadN ap_94, loadN ap_34, loadN ap_58, fa_94_0, fa_94_1, fa_94_2, fa_94_3, fa_94_4, fa_94_5, fa_94_6, fa_94_7, fa_34_0, fa_34_1, fa_34_2, fa_34_3, fa_34_4, rc0, rc1, rc2, rc3, rc4, rc5, rc6, rc7, rc8, rc9, rc10, gc0, gc1, gc2, gc3, gc4, acells_some hR2, hI2.gc]
    refine ⟨by simp [veq], by simp [veq], by simp [veq], by simp [veq], rcVeq _, by simp [veq], ?_⟩
    have hgn := hI2.vv.grew.n
    have hro := hI.ro
    have hl1 := hI.l1
    rw [wSum g.f hfit.nn hI2.vv.wf (by omega) hI2.sl hI2.nn (fun hq => by have := hfit.a hc.1 hq; rw [hI2.l1]; exact this) (fun hq => by have := hfit.b hc.1 hq; rw [hI2.l1]; exact this)]
    refine ⟨.refl _, ?_⟩
    have hs0 : 0 ≤ sumM g.f (rowAt g.rows i) c.1 := (fAdd_bounds _ _ _).1
    rw [wrDiv g.f hs0 hfit.nn.qo]
    refine ⟨.refl _, ?_⟩
    have hd0 : 0 ≤ fDiv g.f (sumM g.f (rowAt g.rows i) c.1) (rowAt g.rows i).qo := (fMul_bounds _ _ _).1
    rw [wrNeg g.f hd0]
    refine ⟨.refl _, ?_⟩
    have hn0 : 0 ≤ fNeg g.f (fDiv g.f (sumM g.f (rowAt g.rows i) c.1) (rowAt g.rows i).qo) := (fSub_bounds _ _ _).1
    rw [hixA, wopt_some]
    refine hI2.storeV hw2'.1 hw2'.2 hn0 fun s3 hI3 r3 => ?_
    rw [← hX, sX_n hQ]
    have e : runA g.f (rowAt g.rows i) c = setV (rowAt g.rows i).w2 (fNeg g.f (fDiv g.f (sumM g.f (rowAt g.rows i) c.1) (rowAt g.rows i).qo)) c := by unfold runA; rw [if_pos hc]
    have hI3' : RunI ro g ur s0 G A B s3 (runA g.f (rowAt g.rows i) c) := by rw [e]; exact hI3
    refine runNext hL hI3' hi hfit ((r3 R hRA).trans hR2) ?_ ?_ ?_ ?_ ?_ hk
    · simp only [U, tset_eq, wW, Option.bind_some, Option.map_some, decide_eq_true_eq, Bool.not_eq_true', decide_eq_false_iff_not, Bool.not_true, Bool.not_false, ne_eq, if_true, if_false, reduceCtorEq, eq_self, Nat.zero_add, Nat.add_zero, not_false_eq_true, Nat.reduceEqDiff, h3]
    · simp only [U, tset_eq, wW, Option.bind_some, Option.map_some, decide_eq_true_eq, Bool.not_eq_true', decide_eq_false_iff_not, Bool.not_true, Bool.not_false, ne_eq, if_true, if_false, reduceCtorEq, eq_self, Nat.zero_add, Nat.add_zero, not_false_eq_true, Nat.reduceEqDiff, h9]
    · simp only [U, tset_eq, wW, Option.bind_some, Option.map_some, decide_eq_true_eq, Bool.not_eq_true', decide_eq_false_iff_not, Bool.not_true, Bool.not_false, ne_eq, if_true, if_false, reduceCtorEq, eq_self, Nat.zero_add, Nat.add_zero, not_false_eq_true, Nat.reduceEqDiff, h10]
    · simp only [U, tset_eq, wW, Option.bind_some, Option.map_some, decide_eq_true_eq, Bool.not_eq_true', decide_eq_false_iff_not, Bool.not_true, Bool.not_false, ne_eq, if_true, if_false, reduceCtorEq, eq_self, Nat.zero_add, Nat.add_zero, not_false_eq_true, Nat.reduceEqDiff, h12]
    · simp only [U, tset_eq, wW, Option.bind_some, Option.map_some, decide_eq_true_eq, Bool.not_eq_true', decide_eq_false_iff_not, Bool.not_true, Bool.not_false, ne_eq, if_true, if_false, reduceCtorEq, eq_self, Nat.zero_add, Nat.add_zero, not_false_eq_true, Nat.reduceEqDiff, h13]
  · rw [if_neg hbt]
    have hc := fun h => hbt (hb.2 h)
    rw [← hX, sX_n hQ]
    have e : runA g.f (rowAt g.rows i) c = c := by unfold runA; rw [if_neg hc]
    have hI3' : RunI ro g ur s0 G A B s (runA g.f (rowAt g.rows i) c) := by rw [e]; exact hI
    refine runNext hL hI3' hi hfit hR ?_ ?_ ?_ ?_ ?_ hk
    · simp only [U, tset_eq, wW, Option.bind_some, Option.map_some, decide_eq_true_eq, Bool.not_eq_true', decide_eq_false_iff_not, Bool.not_true, Bool.not_false, ne_eq, if_true, if_false, reduceCtorEq, eq_self, Nat.zero_add, Nat.add_zero, not_false_eq_true, Nat.reduceEqDiff, h3]
    · simp only [U, tset_eq, wW, Option.bind_some, Option.map_some, decide_eq_true_eq, Bool.not_eq_true', decide_eq_false_iff_not, Bool.not_true, Bool.not_false, ne_eq, if_true, if_false, reduceCtorEq, eq_self, Nat.zero_add, Nat.add_zero, not_false_eq_true, Nat.reduceEqDiff, h9]
    · simp only [U, tset_eq, wW, Option.bind_some, Option.map_some, decide_eq_true_eq, Bool.not_eq_true', decide_eq_false_iff_not, Bool.not_true, Bool.not_false, ne_eq, if_true, if_false, reduceCtorEq, eq_self, Nat.zero_add, Nat.add_zero, not_false_eq_true, Nat.reduceEqDiff, h10]
    · simp only [U, tset_eq, wW, Option.bind_some, Option.map_some, decide_eq_true_eq, Bool.not_eq_true', decide_eq_false_iff_not, Bool.not_true, Bool.not_false, ne_eq, if_true, if_false, reduceCtorEq, eq_self, Nat.zero_add, Nat.add_zero, not_false_eq_true, Nat.reduceEqDiff, h12]
    · simp only [U, tset_eq, wW, Option.bind_some, Option.map_some, decide_eq_true_eq, Bool.not_eq_true', decide_eq_false_iff_not, Bool.not_true, Bool.not_false, ne_eq, if_true, if_false, reduceCtorEq, eq_self, Nat.zero_add, Nat.add_zero, not_false_eq_true, Nat.reduceEqDiff, h13]

end
end Go.VE
/- The reference of the gates: Run. -/
namespace Go.VE
open Go Go.Proofs
set_option maxRecDepth 20000
section
variable {ro : Nat} {K : Value → St → Prop}
theorem inp_nn {pub sec : List Int} (hp : ∀ x ∈ pub, 0 ≤ x) (hs : ∀ x ∈ sec, 0 ≤ x) (i : Nat) : 0 ≤ inp pub sec i := by
  unfold inp
  split
  · exact at0_nn hp _
  · exact at0_nn hs _

theorem wRun (g : Gp) (hnn : ∀ r ∈ g.rows, r.Nn) {s : St} {ur pv sv : Value} {pub sec : List Int} (hw : Wf s) (hro : ro ≤ s.n) (hr : RowsS s ur g.rows) (hlen : g.rows.length < 2 ^ 60) (hp : U64s s pv pub) (hs : U64s s sv sec) (hpn : ∀ x ∈ pub, 0 ≤ x) (hsn : ∀ x ∈ sec, 0 ≤ x) (hpl : pub.length < 2 ^ 60) (hsl : sec.length < 2 ^ 60)
    (h0 : ¬ runOk g pub sec → K (.tuple (.mk [.slice none 0 0, .bool false, .int .i64 1])) s)
    (h1 : runOk g pub sec → ∀ v s', Grew s s' → U64s s' v (runV g pub sec).1 → K (.tuple (.mk [v, .bool (okM g (runV g pub sec).1 g.rows.length), .int .i64 0])) s') :
    CallWP P ro 13 [.agg (.mk (g.cells ur)), pv, sv] s K := by
  refine call_wp b13 rfl ?_
  rw [n13]
  unfold v13
  simp (maxSteps := 10000000) only [wW, Option.bind_some, Option.map_some, decide_eq_true_eq, Bool.not_eq_true', decide_eq_false_iff_not, Bool.not_true, Bool.not_false, ne_eq, if_true, if_false, reduceCtorEq, eq_self, Nat.zero_add, Nat.add_zero, not_false_eq_true, Nat.reduceEqDiff]
  refine box_rule hw.ent fun G s1 m1 => ?_
  have e1 := m1.eq
  have n1 := m1.n
  have hn0 : (ent s).n = s.n := rfl
  have hG1 : s1.at G = some (.cells (g.cells ur) 34 false) := m1.here
  have hG := acells_some hG1
  have hr1 : RowsS s1 ur g.rows := (Sl.ent hr).grew m1.grew.same
  have hp1 : U64s s1 pv pub := (Sl.ent hp).grew m1.grew.same
  have hs1 : U64s s1 sv sec := (Sl.ent hs).grew m1.grew.same
  have no : ¬ runOk g pub sec → wfin s K (.tuple (.mk [.slice none 0 0, .bool false, .int .i64 1])) s1 := fun hf => fin_flat rfl m1.grew (h0 hf)
  simp (maxSteps := 10000000) only [wW, Option.bind_some, Option.map_some, decide_eq_true_eq, Bool.not_eq_true', decide_eq_false_iff_not, Bool.not_true, Bool.not_false, ne_eq, if_true, if_false, reduceCtorEq, eq_self, Nat.zero_add, Nat.add_zero, not_false_eq_true, Nat.reduceEqDiff, wop_load, wop_indexAddr, wix0, wix1, wix2, rcAll, gcAll, Option.map_some, Nat.reduceAdd, load1 ap_24, load1 ap_3, load1 ap_4, load1 ap_92, load1 ap_32, loadN ap_94, loadN ap_34, loadN ap_58, fa_94_0, fa_94_1, fa_94_2, fa_94_3, fa_94_4, fa_94_5, fa_94_6, fa_94_7, fa_34_0, fa_34_1, fa_34_2, fa_34_3, fa_34_4, rc0, rc1, rc2, rc3, rc4, rc5, rc6, rc7, rc8, rc9, rc10, gc0, gc1, gc2, gc3, gc4, hG]
  rw [wValid g m1.wf (by omega) hr1 hlen]
  simp (maxSteps := 10000000) only [wW, Option.bind_some, Option.map_some, decide_eq_true_eq, Bool.not_eq_true', decide_eq_false_iff_not, Bool.not_true, Bool.not_false, ne_eq, if_true, if_false, reduceCtorEq, eq_self, Nat.zero_add, Nat.add_zero, not_false_eq_true, Nat.reduceEqDiff, wop_load, wop_indexAddr, wix0, wix1, wix2, rcAll, gcAll, Option.map_some, Nat.reduceAdd, load1 ap_24, load1 ap_3, load1 ap_4, load1 ap_92, load1 ap_32, loadN ap_94, loadN ap_34, loadN ap_58, fa_94_0, fa_94_1, fa_94_2, fa_94_3, fa_94_4, fa_94_5, fa_94_6, fa_94_7, fa_34_0, fa_34_1, fa_34_2, fa_34_3, fa_34_4, rc0, rc1, rc2, rc3, rc4, rc5, rc6, rc7, rc8, rc9, rc10, gc0, gc1, gc2, gc3, gc4, hG, hp1.wlen se_23, hs1.wlen se_23, wBelow g.f hp1 (by omega), wBelow g.f hs1 (by omega)]
  by_cases c1 : validM g = true
  · rw [if_neg (by simp [c1])]
    by_cases c2 : (pub.length : Int) = g.pub
    · rw [if_neg (by simpa using c2)]
      by_cases c3 : (sec.length : Int) = g.sec
      · rw [if_neg (by simpa using c3)]
        by_cases c4 : below g.f pub = true
        · rw [if_neg (by simp [c4])]
          by_cases c5 : below g.f sec = true
          · rw [if_neg (by simp [c5])]
            have hOk : runOk g pub sec := ⟨c1, c2, c3, c4, c5⟩
            have hL : Limits g := by
              unfold validM at c1
              simp only [Bool.and_eq_true, decide_eq_true_eq] at c1
              exact c1.1
            have hnv := hL.nv
            have hrl := hL.2.2.2.2.2.2.2.1
            have hps := hL.2.1
            have hps2 := hL.2.2.1
            have hps3 := hL.2.2.2.1
            have hps4 := hL.2.2.2.2.1
            have hps5 := hL.2.2.2.2.2.1
            refine make_rule (mk := Value.int .u64) (x := 0) se_23 ty_24 rfl m1.wf hnv.1 (by omega) (by decide) fun A s2 m2 => ?_
            have e2 := m2.eq
            have n2 := m2.n
            have hG2 := (m2.grew.same G (by omega)).trans hG1
            rw [acells_some hG2, wopt_some, gc1, wopt_some]
            refine make_rule (mk := Value.bool) (x := false) se_97 ty_4 rfl m2.wf hnv.1 (by omega) (by decide) fun B s3 m3 => ?_
            have e3 := m3.eq
            have n3 := m3.n
            have g3 := (m1.grew.trans m2.grew).trans m3.grew
            have hI0 : RunI ro g ur (ent s) G A B s3 (run0 g) := ⟨⟨(m3.grew.same A (by omega)).trans m2.here, by omega, m3.wf, g3⟩, ⟨m3.here, by omega, m3.wf, g3⟩, (m3.grew.same G (by omega)).trans hG2, by simp [run0], by simp [run0], hw.ent, hro, Sl.ent hr, by omega, by omega, by omega, fun x hx => by
              have : x = 0 := List.eq_of_mem_replicate hx
              omega⟩
            have hpsn : ((g.pub + g.sec).toNat : Int) = g.pub + g.sec := by omega
            refine wloop l13_11110100 m13_11110100 (fun (i : Nat) τ ds s' => i ≤ (g.pub + g.sec).toNat ∧ τ 1 = pv ∧ τ 2 = sv ∧ τ 3 = ptr G ∧ τ 9 = slc A g.nv.toNat ∧ τ 10 = slc B g.nv.toNat ∧ τ 11 = .int .i64 i ∧ ds = [] ∧ RunI ro g ur (ent s) G A B s' (it (runI pub sec) i (run0 g))) (fun i => (g.pub + g.sec).toNat - i) ?_ 0 ⟨by omega, ?_, ?_, ?_, ?_, ?_, ?_, rfl, hI0⟩
            · clear hI0
              rintro i τ ds s' ⟨hi, t1, t2, t3, t9, t10, t11, rfl, hI⟩
              rw [n13_11110100]
              unfold v13_11110100
              simp (maxSteps := 10000000) only [wW, Option.bind_some, Option.map_some, decide_eq_true_eq, Bool.not_eq_true', decide_eq_false_iff_not, Bool.not_true, Bool.not_false, ne_eq, if_true, if_false, reduceCtorEq, eq_self, Nat.zero_add, Nat.add_zero, not_false_eq_true, Nat.reduceEqDiff, wop_load, wop_indexAddr, wix0, wix1, wix2, rcAll, gcAll, Option.map_some, Nat.reduceAdd, load1 ap_24, load1 ap_3, load1 ap_4, load1 ap_92, load1 ap_32, loadN ap_94, loadN ap_34, loadN ap_58, fa_94_0, fa_94_1, fa_94_2, fa_94_3, fa_94_4, fa_94_5, fa_94_6, fa_94_7, fa_34_0, fa_34_1, fa_34_2, fa_34_3, fa_34_4, rc0, rc1, rc2, rc3, rc4, rc5, rc6, rc7, rc8, rc9, rc10, gc0, gc1, gc2, gc3, gc4, t3, t11, hI.gc]
              rw [wrap_i64 (n := g.pub + g.sec) (by omega) (by omega)]
              by_cases hlt : i < (g.pub + g.sec).toNat
              · rw [if_pos (by omega)]
                have hx0 : (0 : Int) ≤ (i : Int) := by omega
                have hx1 : (i : Int) < g.nv := by omega
                have hixA := ixc se_23 isz_24 (A := A) (n := g.nv.toNat) (c := g.nv.toNat) (i := (i : Int)) hx0 (by omega)
                have hixB := ixc se_97 isz_4 (A := B) (n := g.nv.toNat) (c := g.nv.toNat) (i := (i : Int)) hx0 (by omega)
                simp (maxSteps := 10000000) only [wW, Option.bind_some, Option.map_some, decide_eq_true_eq, Bool.not_eq_true', decide_eq_false_iff_not, Bool.not_true, Bool.not_false, ne_eq, if_true, if_false, reduceCtorEq, eq_self, Nat.zero_add, Nat.add_zero, not_false_eq_true, Nat.reduceEqDiff, wop_load, wop_indexAddr, wix0, wix1, wix2, rcAll, gcAll, Option.map_some, Nat.reduceAdd, load1 ap_24, load1 ap_3, load1 ap_4, load1 ap_92, load1 ap_32, loadN ap_94, loadN ap_34, loadN ap_58, fa_94_0, fa_94_1, fa_94_2, fa_94_3, fa_94_4, fa_94_5, fa_94_6, fa_94_7, fa_34_0, fa_34_1, fa_34_2, fa_34_3, fa_34_4, rc0, rc1, rc2, rc3, rc4, rc5, rc6, rc7, rc8, rc9, rc10, gc0, gc1, gc2, gc3, gc4, t10, t11, hixB]
                refine hI.storeB hx0 hx1 fun s4 hI4 r4 => ?_
                simp (maxSteps := 10000000) only [wW, Option.bind_some, Option.map_some, decide_eq_true_eq, Bool.not_eq_true', decide_eq_false_iff_not, Bool.not_true, Bool.not_false, ne_eq, if_true, if_false, reduceCtorEq, eq_self, Nat.zero_add, Nat.add_zero, not_false_eq_true, Nat.reduceEqDiff, wop_load, wop_indexAddr, wix0, wix1, wix2, rcAll, gcAll, Option.map_some, Nat.reduceAdd, load1 ap_24, load1 ap_3, load1 ap_4, load1 ap_92, load1 ap_32, loadN ap_94, loadN ap_34, loadN ap_58, fa_94_0, fa_94_1, fa_94_2, fa_94_3, fa_94_4, fa_94_5, fa_94_6, fa_94_7, fa_34_0, fa_34_1, fa_34_2, fa_34_3, fa_34_4, rc0, rc1, rc2, rc3, rc4, rc5, rc6, rc7, rc8, rc9, rc10, gc0, gc1, gc2, gc3, gc4, t1, t2, t3, t9, t11, hI4.gc, hixA]
                have hIs := fun (x : Int) (s5 : St) (h : RunI ro g ur (ent s) G A B s5 ((it (runI pub sec) i (run0 g)).1.set (i : Int).toNat x, (it (runI pub sec) i (run0 g)).2.set (i : Int).toNat true)) => h
                have hinn := inp_nn hpn hsn i
                by_cases hip : (i : Int) < g.pub
                · rw [if_pos hip]
                  have hin : inp pub sec i = at0 pub i := by unfold inp; rw [if_pos (by omega)]
                  obtain ⟨A5, o5, c5, z1, z2, z3⟩ := U64s.at1 (s := s4) ((Sl.ent hp).grew hI4.vv.grew.same) hx0 (at0_get hx0 (by omega))
                  rw [← hin] at z3
                  simp (maxSteps := 10000000) only [wW, Option.bind_some, Option.map_some, decide_eq_true_eq, Bool.not_eq_true', decide_eq_false_iff_not, Bool.not_true, Bool.not_false, ne_eq, if_true, if_false, reduceCtorEq, eq_self, Nat.zero_add, Nat.add_zero, not_false_eq_true, Nat.reduceEqDiff, wop_load, wop_indexAddr, wix0, wix1, wix2, rcAll, gcAll, Option.map_some, Nat.reduceAdd, load1 ap_24, load1 ap_3, load1 ap_4, load1 ap_92, load1 ap_32, loadN ap_94, loadN ap_34, loadN ap_58, fa_94_0, fa_94_1, fa_94_2, fa_94_3, fa_94_4, fa_94_5, fa_94_6, fa_94_7, fa_34_0, fa_34_1, fa_34_2, fa_34_3, fa_34_4, rc0, rc1, rc2, rc3, rc4, rc5, rc6, rc7, rc8, rc9, rc10, gc0, gc1, gc2, gc3, gc4, z1, z2, z3, hixA]
                  refine hI4.storeV hx0 hx1 hinn fun s5 hI5 _ => ?_
                  rw [wrap_i64 (by omega) (by omega)]
                  refine ⟨i + 1, by omega, by omega, ?_, ?_, ?_, ?_, ?_, ?_, trivial, hI5⟩
                  · simp only [U, tset_eq, wW, Option.bind_some, Option.map_some, decide_eq_true_eq, Bool.not_eq_true', decide_eq_false_iff_not, Bool.not_true, Bool.not_false, ne_eq, if_true, if_false, reduceCtorEq, eq_self, Nat.zero_add, Nat.add_zero, not_false_eq_true, Nat.reduceEqDiff, t1]
                  · simp only [U, tset_eq, wW, Option.bind_some, Option.map_some, decide_eq_true_eq, Bool.not_eq_true', decide_eq_false_iff_not, Bool.not_true, Bool.not_false, ne_eq, if_true, if_false, reduceCtorEq, eq_self, Nat.zero_add, Nat.add_zero, not_false_eq_true, Nat.reduceEqDiff, t2]
                  · simp only [U, tset_eq, wW, Option.bind_some, Option.map_some, decide_eq_true_eq, Bool.not_eq_true', decide_eq_false_iff_not, Bool.not_true, Bool.not_false, ne_eq, if_true, if_false, reduceCtorEq, eq_self, Nat.zero_add, Nat.add_zero, not_false_eq_true, Nat.reduceEqDiff, t3]
                  · simp only [U, tset_eq, wW, Option.bind_some, Option.map_some, decide_eq_true_eq, Bool.not_eq_true', decide_eq_false_iff_not, Bool.not_true, Bool.not_false, ne_eq, if_true, if_false, reduceCtorEq, eq_self, Nat.zero_add, Nat.add_zero, not_false_eq_true, Nat.reduceEqDiff, t9]
                  · simp only [U, tset_eq, wW, Option.bind_some, Option.map_some, decide_eq_true_eq, Bool.not_eq_true', decide_eq_false_iff_not, Bool.not_true, Bool.not_false, ne_eq, if_true, if_false, reduceCtorEq, eq_self, Nat.zero_add, Nat.add_zero, not_false_eq_true, Nat.reduceEqDiff, t10]
                  · simp only [U, tset_eq, wW, Option.bind_some, Option.map_some, decide_eq_true_eq, Bool.not_eq_true', decide_eq_false_iff_not, Bool.not_true, Bool.not_false, ne_eq, if_true, if_false, reduceCtorEq, eq_self, Nat.zero_add, Nat.add_zero, not_false_eq_true, Nat.reduceEqDiff]; rfl
                · rw [if_neg hip, wrap_i64 (n := (i : Int) - g.pub) (by omega) (by omega)]
                  have hin : inp pub sec i = at0 sec ((i : Int) - g.pub) := by unfold inp; rw [if_neg (by omega), c2]
                  obtain ⟨A5, o5, c5, z1, z2, z3⟩ := U64s.at1 (s := s4) (i := (i : Int) - g.pub) ((Sl.ent hs).grew hI4.vv.grew.same) (by omega) (at0_get (by omega) (by omega))
                  rw [← hin] at z3
                  simp (maxSteps := 10000000) only [wW, Option.bind_some, Option.map_some, decide_eq_true_eq, Bool.not_eq_true', decide_eq_false_iff_not, Bool.not_true, Bool.not_false, ne_eq, if_true, if_false, reduceCtorEq, eq_self, Nat.zero_add, Nat.add_zero, not_false_eq_true, Nat.reduceEqDiff, wop_load, wop_indexAddr, wix0, wix1, wix2, rcAll, gcAll, Option.map_some, Nat.reduceAdd, load1 ap_24, load1 ap_3, load1 ap_4, load1 ap_92, load1 ap_32, loadN ap_94, loadN ap_34, loadN ap_58, fa_94_0, fa_94_1, fa_94_2, fa_94_3, fa_94_4, fa_94_5, fa_94_6, fa_94_7, fa_34_0, fa_34_1, fa_34_2, fa_34_3, fa_34_4, rc0, rc1, rc2, rc3, rc4, rc5, rc6, rc7, rc8, rc9, rc10, gc0, gc1, gc2, gc3, gc4, z1, z2, z3, hixA]
                  refine hI4.storeV hx0 hx1 hinn fun s5 hI5 _ => ?_
                  rw [wrap_i64 (by omega) (by omega)]
                  refine ⟨i + 1, by omega, by omega, ?_, ?_, ?_, ?_, ?_, ?_, trivial, hI5⟩
                  · simp only [U, tset_eq, wW, Option.bind_some, Option.map_some, decide_eq_true_eq, Bool.not_eq_true', decide_eq_false_iff_not, Bool.not_true, Bool.not_false, ne_eq, if_true, if_false, reduceCtorEq, eq_self, Nat.zero_add, Nat.add_zero, not_false_eq_true, Nat.reduceEqDiff, t1]
                  · simp only [U, tset_eq, wW, Option.bind_some, Option.map_some, decide_eq_true_eq, Bool.not_eq_true', decide_eq_false_iff_not, Bool.not_true, Bool.not_false, ne_eq, if_true, if_false, reduceCtorEq, eq_self, Nat.zero_add, Nat.add_zero, not_false_eq_true, Nat.reduceEqDiff, t2]
                  · simp only [U, tset_eq, wW, Option.bind_some, Option.map_some, decide_eq_true_eq, Bool.not_eq_true', decide_eq_false_iff_not, Bool.not_true, Bool.not_false, ne_eq, if_true, if_false, reduceCtorEq, eq_self, Nat.zero_add, Nat.add_zero, not_false_eq_true, Nat.reduceEqDiff, t3]
                  · simp only [U, tset_eq, wW, Option.bind_some, Option.map_some, decide_eq_true_eq, Bool.not_eq_true', decide_eq_false_iff_not, Bool.not_true, Bool.not_false, ne_eq, if_true, if_false, reduceCtorEq, eq_self, Nat.zero_add, Nat.add_zero, not_false_eq_true, Nat.reduceEqDiff, t9]
                  · simp only [U, tset_eq, wW, Option.bind_some, Option.map_some, decide_eq_true_eq, Bool.not_eq_true', decide_eq_false_iff_not, Bool.not_true, Bool.not_false, ne_eq, if_true, if_false, reduceCtorEq, eq_self, Nat.zero_add, Nat.add_zero, not_false_eq_true, Nat.reduceEqDiff, t10]
                  · simp only [U, tset_eq, wW, Option.bind_some, Option.map_some, decide_eq_true_eq, Bool.not_eq_true', decide_eq_false_iff_not, Bool.not_true, Bool.not_false, ne_eq, if_true, if_false, reduceCtorEq, eq_self, Nat.zero_add, Nat.add_zero, not_false_eq_true, Nat.reduceEqDiff]; rfl
              · obtain rfl : i = (g.pub + g.sec).toNat := by omega
                rw [if_neg (by omega)]
                refine wloop l13_111110100 m13_111110100 (fun (i : Nat) τ ds s' => i ≤ g.rows.length ∧ τ 3 = ptr G ∧ τ 9 = slc A g.nv.toNat ∧ τ 10 = slc B g.nv.toNat ∧ τ 12 = .int .i64 i ∧ ds = [] ∧ RunI ro g ur (ent s) G A B s' (it (runR g) i (it (runI pub sec) (g.pub + g.sec).toNat (run0 g)))) (fun i => g.rows.length - i) ?_ 0 ⟨by omega, ?_, ?_, ?_, ?_, rfl, hI⟩
                · clear hI t1 t2 t3 t9 t10 t11
                  rintro i τ ds s' ⟨hi, t3, t9, t10, t12, rfl, hI⟩
                  have hgl : ∀ s' K, wop P ro (.call ⟨.builtin .len, ⟨[.const ur]⟩, #[32]⟩) 3 s' K = K (.int .i64 (g.rows.length : Nat)) s' := fun s' K => Sl.wlen hr se_32 _ K
                  rw [n13_111110100]
                  unfold v13_111110100
                  by_cases hlt : i < g.rows.length
                  · obtain ⟨A5, o5, c5, q1, q2⟩ := hI.rs.ix (rowAt_get hlt)
                    simp (maxSteps := 10000000) only [wW, Option.bind_some, Option.map_some, decide_eq_true_eq, Bool.not_eq_true', decide_eq_false_iff_not, Bool.not_true, Bool.not_false, ne_eq, if_true, if_false, reduceCtorEq, eq_self, Nat.zero_add, Nat.add_zero, not_false_eq_true, Nat.reduceEqDiff, wop_load, wop_indexAddr, wix0, wix1, wix2, rcAll, gcAll, Option.map_some, Nat.reduceAdd, load1 ap_24, load1 ap_3, load1 ap_4, load1 ap_92, load1 ap_32, loadN ap_94, loadN ap_34, loadN ap_58, fa_94_0, fa_94_1, fa_94_2, fa_94_3, fa_94_4, fa_94_5, fa_94_6, fa_94_7, fa_34_0, fa_34_1, fa_34_2, fa_34_3, fa_34_4, rc0, rc1, rc2, rc3, rc4, rc5, rc6, rc7, rc8, rc9, rc10, gc0, gc1, gc2, gc3, gc4, t3, t12, hI.gc, hgl, q1, q2.blk, q2.all]
                    rw [if_pos (by omega)]
                    refine alloc_rule ty_94 hI.vv.wf fun R s4 m4 => ?_
                    have e4 := m4.eq
                    have n4 := m4.n
                    have gn := hI.vv.grew.n
                    have hI4 := hI.grew m4.grew
                    have hA4 := St.at_lt hI.vv.here
                    have hB4 := St.at_lt hI.vb.here
                    have hG4 := St.at_lt hI.gat
                    refine storeAll_rule isz_94 m4.here (l := (rowAt g.rows i).cells) rfl (by decide) m4.wf (by omega) rfl rfl fun s5 p5 => ?_
                    have g5 := p5.grew _ hI.w0 hI4.vv.grew (by omega)
                    have hI5 : RunI ro g ur (ent s) G A B s5 (it (runR g) i (it (runI pub sec) (g.pub + g.sec).toNat (run0 g))) := ⟨⟨(p5.rest A (by omega)).trans hI4.vv.here, hI.vv.new, p5.wf, g5⟩, ⟨(p5.rest B (by omega)).trans hI4.vb.here, hI.vb.new, p5.wf, g5⟩, (p5.rest G (by omega)).trans hI4.gat, hI.l1, hI.l2, hI.w0, hI.ro, hI.rows, hI.ga, hI.gb, hI.ab, hI.nn⟩
                    have hR5 : s5.at R = some (.cells (rowAt g.rows i).cells 94 false) := p5.here
                    have hRc := acells_some hR5
                    have hRA : R ≠ A := by omega
                    have hRB : R ≠ B := by omega
                    have hfit := hL.fit hlt (hnn _ (List.mem_of_getElem? (rowAt_get hlt)))
                    generalize hc : it (runR g) i (it (runI pub sec) (g.pub + g.sec).toNat (run0 g)) = c at hI5
                    have row : ∀ {b : Bool} {τ' : Tau} {Q : Ex → WK}, τ' 117 = .bool b → (b = true ↔ (rowAt g.rows i).k = 1 ∧ (rowAt g.rows i).qo ≠ 0 ∧ atB c.2 (rowAt g.rows i).w2 = false) → τ' 3 = ptr G → τ' 9 = slc A g.nv.toNat → τ' 10 = slc B g.nv.toNat → τ' 12 = .int .i64 i → τ' 13 = ptr R →
                        (∀ τ' s', (∃ y, g.rows.length - y < g.rows.length - i ∧ y ≤ g.rows.length ∧ τ' 3 = ptr G ∧ τ' 9 = slc A g.nv.toNat ∧ τ' 10 = slc B g.nv.toNat ∧ τ' 12 = .int .i64 (y : Nat) ∧ ([] : List Deferred) = [] ∧ RunI ro g ur (ent s) G A B s' (it (runR g) y (it (runI pub sec) (g.pub + g.sec).toNat (run0 g)))) → Q .normal τ' [] s') →
                        xp (prims P ro) none 192 k13_111110100 c13_111110100100101 [1, 0, 1, 0, 0, 1] τ' [] [] s5 (sX (prims P ro) none 192 k13_111110100 c13_11111010010011 [1, 1, 0, 0, 1] (blkX 3 (sX (prims P ro) none 192 k13_111110100 c13_11111010011 [1, 1] (lift Q)))) := fun {b τ' Q} h117 hb a3 a9 a10 a12 a13 hQ => by
                      refine runArith hL hI5 hlt hfit hR5 hRA hRB ((QOk.lift Q).sX.blk 3) a3 a9 a10 a12 a13 h117 hb fun τ2 al s2 b3 b9 b10 b12 hI2 => ?_
                      refine runEnd (by omega) b12 fun τ3 d3 d9 d10 d12 => hQ τ3 s2 ⟨i + 1, by omega, by omega, d3.trans b3, d9.trans b9, d10.trans b10, d12, rfl, ?_⟩
                      rw [it, hc]
                      exact hI2
                    simp (maxSteps := 10000000) only [U, tset_eq, wW, Option.bind_some, Option.map_some, decide_eq_true_eq, Bool.not_eq_true', decide_eq_false_iff_not, Bool.not_true, Bool.not_false, ne_eq, if_true, if_false, reduceCtorEq, eq_self, Nat.zero_add, Nat.add_zero, not_false_eq_true, Nat.reduceEqDiff, wop_load, wop_indexAddr, wix0, wix1, wix2, rcAll, gcAll, Option.map_some, Nat.reduceAdd, load1 ap_24, load1 ap_3, load1 ap_4, load1 ap_92, load1 ap_32, loadN ap_94, loadN ap_34, loadN ap_58, fa_94_0, fa_94_1, fa_94_2, fa_94_3, fa_94_4, fa_94_5, fa_94_6, fa_94_7, fa_34_0, fa_34_1, fa_34_2, fa_34_3, fa_34_4, rc0, rc1, rc2, rc3, rc4, rc5, rc6, rc7, rc8, rc9, rc10, gc0, gc1, gc2, gc3, gc4, hRc, t10]
                    by_cases k1 : (rowAt g.rows i).k = 1
                    · rw [if_pos k1]
                      by_cases kq : (rowAt g.rows i).qo = 0
                      · rw [if_neg (by simpa using kq)]
                        refine row (b := false) ?_ ⟨fun h => (by cases h), fun h => absurd kq h.2.1⟩ ?_ ?_ ?_ ?_ ?_ (fun _ _ h => h) <;> simp only [tset_eq, wW, Option.bind_some, Option.map_some, decide_eq_true_eq, Bool.not_eq_true', decide_eq_false_iff_not, Bool.not_true, Bool.not_false, ne_eq, if_true, if_false, reduceCtorEq, eq_self, Nat.zero_add, Nat.add_zero, not_false_eq_true, Nat.reduceEqDiff, t3, t9, t10, t12]
                      · rw [if_pos kq]
                        have hw2 : 0 ≤ (rowAt g.rows i).w2 ∧ (rowAt g.rows i).w2 < g.nv := hL.reads hlt (j := 2) (rds_2 k1 kq)
                        have hixB := ixc se_97 isz_4 (A := B) (n := g.nv.toNat) (c := g.nv.toNat) (i := (rowAt g.rows i).w2) hw2.1 (by omega)
                        have hgt := hI5.getB hw2.1 hw2.2
                        rw [hixB, wopt_some, load1 ap_4, hI5.bc, Option.bind_some, hgt, wopt_some, wop_not]
                        refine row (b := !(atB c.2 (rowAt g.rows i).w2)) ?_ ⟨fun h => ⟨k1, kq, by simpa using h⟩, fun h => by simpa using h.2.2⟩ ?_ ?_ ?_ ?_ ?_ (fun _ _ h => h) <;> simp only [tset_eq, wW, Option.bind_some, Option.map_some, decide_eq_true_eq, Bool.not_eq_true', decide_eq_false_iff_not, Bool.not_true, Bool.not_false, ne_eq, if_true, if_false, reduceCtorEq, eq_self, Nat.zero_add, Nat.add_zero, not_false_eq_true, Nat.reduceEqDiff, t3, t9, t10, t12]
                    · rw [if_neg k1]
                      refine row (b := false) ?_ ⟨fun h => (by cases h), fun h => absurd h.1 k1⟩ ?_ ?_ ?_ ?_ ?_ (fun _ _ h => h) <;> simp only [tset_eq, wW, Option.bind_some, Option.map_some, decide_eq_true_eq, Bool.not_eq_true', decide_eq_false_iff_not, Bool.not_true, Bool.not_false, ne_eq, if_true, if_false, reduceCtorEq, eq_self, Nat.zero_add, Nat.add_zero, not_false_eq_true, Nat.reduceEqDiff, t3, t9, t10, t12]
                  · obtain rfl : i = g.rows.length := by omega
                    simp (maxSteps := 10000000) only [wW, Option.bind_some, Option.map_some, decide_eq_true_eq, Bool.not_eq_true', decide_eq_false_iff_not, Bool.not_true, Bool.not_false, ne_eq, if_true, if_false, reduceCtorEq, eq_self, Nat.zero_add, Nat.add_zero, not_false_eq_true, Nat.reduceEqDiff, wop_load, wop_indexAddr, wix0, wix1, wix2, rcAll, gcAll, Option.map_some, Nat.reduceAdd, load1 ap_24, load1 ap_3, load1 ap_4, load1 ap_92, load1 ap_32, loadN ap_94, loadN ap_34, loadN ap_58, fa_94_0, fa_94_1, fa_94_2, fa_94_3, fa_94_4, fa_94_5, fa_94_6, fa_94_7, fa_34_0, fa_34_1, fa_34_2, fa_34_3, fa_34_4, rc0, rc1, rc2, rc3, rc4, rc5, rc6, rc7, rc8, rc9, rc10, gc0, gc1, gc2, gc3, gc4, t3, t12, hI.gc, hgl]
                    rw [if_neg (by omega)]
                    have hV : it (runR g) g.rows.length (it (runI pub sec) (g.pub + g.sec).toNat (run0 g)) = runV g pub sec := rfl
                    rw [hV] at hI
                    have h1' := h1 hOk
                    generalize runV g pub sec = c at hI h1'
                    refine wloop l13_11111110100 m13_11111110100 (fun (i : Nat) τ ds s2' => i ≤ g.rows.length ∧ τ 3 = ptr G ∧ τ 9 = slc A g.nv.toNat ∧ τ 17 = .bool (okM g c.1 i) ∧ τ 18 = .int .i64 i ∧ ds = [] ∧ s' = s2') (fun i => g.rows.length - i) ?_ 0 ⟨by omega, ?_, ?_, ?_, ?_, rfl, rfl⟩
                    · clear t3 t9 t10 t12
                      rintro i τ ds s2' ⟨hi, t3, t9, t17, t18, rfl, rfl⟩
                      rw [n13_11111110100]
                      unfold v13_11111110100
                      simp (maxSteps := 10000000) only [wW, Option.bind_some, Option.map_some, decide_eq_true_eq, Bool.not_eq_true', decide_eq_false_iff_not, Bool.not_true, Bool.not_false, ne_eq, if_true, if_false, reduceCtorEq, eq_self, Nat.zero_add, Nat.add_zero, not_false_eq_true, Nat.reduceEqDiff, wop_load, wop_indexAddr, wix0, wix1, wix2, rcAll, gcAll, Option.map_some, Nat.reduceAdd, load1 ap_24, load1 ap_3, load1 ap_4, load1 ap_92, load1 ap_32, loadN ap_94, loadN ap_34, loadN ap_58, fa_94_0, fa_94_1, fa_94_2, fa_94_3, fa_94_4, fa_94_5, fa_94_6, fa_94_7, fa_34_0, fa_34_1, fa_34_2, fa_34_3, fa_34_4, rc0, rc1, rc2, rc3, rc4, rc5, rc6, rc7, rc8, rc9, rc10, gc0, gc1, gc2, gc3, gc4, t3, t9, t17, t18, hI.gc, hgl]
                      by_cases hlt : i < g.rows.length
                      · rw [if_pos (by omega)]
                        have hl1 := hI.l1
                        have hfit := hL.fit hlt (hnn _ (List.mem_of_getElem? (rowAt_get hlt)))
                        cases hok : okM g c.1 i with
                        | true =>
                          rw [if_pos rfl, wHolds g hL.1 hI.vv.wf (by have := hI.vv.grew.n; omega) hI.rs hI.sl hI.nn (rowAt_get hlt) hlen (by rw [hl1]; exact hfit) (fun h3 => ⟨(hL.next hlt h3).1, fun k hk4 => by have := (hL.next hlt h3).2 k hk4; rw [nxt_eq]; omega⟩)]
                          simp (maxSteps := 10000000) only [wW, Option.bind_some, Option.map_some, decide_eq_true_eq, Bool.not_eq_true', decide_eq_false_iff_not, Bool.not_true, Bool.not_false, ne_eq, if_true, if_false, reduceCtorEq, eq_self, Nat.zero_add, Nat.add_zero, not_false_eq_true, Nat.reduceEqDiff]
                          rw [wrap_i64 (by omega) (by omega)]
                          refine ⟨i + 1, by omega, by omega, ?_, ?_, ?_, ?_, trivial, trivial⟩
                          · simp only [U, tset_eq, wW, Option.bind_some, Option.map_some, decide_eq_true_eq, Bool.not_eq_true', decide_eq_false_iff_not, Bool.not_true, Bool.not_false, ne_eq, if_true, if_false, reduceCtorEq, eq_self, Nat.zero_add, Nat.add_zero, not_false_eq_true, Nat.reduceEqDiff, t3]
                          · simp only [U, tset_eq, wW, Option.bind_some, Option.map_some, decide_eq_true_eq, Bool.not_eq_true', decide_eq_false_iff_not, Bool.not_true, Bool.not_false, ne_eq, if_true, if_false, reduceCtorEq, eq_self, Nat.zero_add, Nat.add_zero, not_false_eq_true, Nat.reduceEqDiff, t9]
                          · simp only [U, tset_eq, wW, Option.bind_some, Option.map_some, decide_eq_true_eq, Bool.not_eq_true', decide_eq_false_iff_not, Bool.not_true, Bool.not_false, ne_eq, if_true, if_false, reduceCtorEq, eq_self, Nat.zero_add, Nat.add_zero, not_false_eq_true, Nat.reduceEqDiff]
                            rw [okM, hok, Bool.true_and, nxt_eq]
                          · simp only [U, tset_eq, wW, Option.bind_some, Option.map_some, decide_eq_true_eq, Bool.not_eq_true', decide_eq_false_iff_not, Bool.not_true, Bool.not_false, ne_eq, if_true, if_false, reduceCtorEq, eq_self, Nat.zero_add, Nat.add_zero, not_false_eq_true, Nat.reduceEqDiff]; rfl
                        | false =>
                          rw [if_neg (by decide), wrap_i64 (by omega) (by omega)]
                          refine ⟨i + 1, by omega, by omega, ?_, ?_, ?_, ?_, trivial, trivial⟩
                          · simp only [U, tset_eq, wW, Option.bind_some, Option.map_some, decide_eq_true_eq, Bool.not_eq_true', decide_eq_false_iff_not, Bool.not_true, Bool.not_false, ne_eq, if_true, if_false, reduceCtorEq, eq_self, Nat.zero_add, Nat.add_zero, not_false_eq_true, Nat.reduceEqDiff, t3]
                          · simp only [U, tset_eq, wW, Option.bind_some, Option.map_some, decide_eq_true_eq, Bool.not_eq_true', decide_eq_false_iff_not, Bool.not_true, Bool.not_false, ne_eq, if_true, if_false, reduceCtorEq, eq_self, Nat.zero_add, Nat.add_zero, not_false_eq_true, Nat.reduceEqDiff, t9]
                          · simp only [U, tset_eq, wW, Option.bind_some, Option.map_some, decide_eq_true_eq, Bool.not_eq_true', decide_eq_false_iff_not, Bool.not_true, Bool.not_false, ne_eq, if_true, if_false, reduceCtorEq, eq_self, Nat.zero_add, Nat.add_zero, not_false_eq_true, Nat.reduceEqDiff]
                            rw [okM, hok, Bool.false_and]
                          · simp only [U, tset_eq, wW, Option.bind_some, Option.map_some, decide_eq_true_eq, Bool.not_eq_true', decide_eq_false_iff_not, Bool.not_true, Bool.not_false, ne_eq, if_true, if_false, reduceCtorEq, eq_self, Nat.zero_add, Nat.add_zero, not_false_eq_true, Nat.reduceEqDiff]; rfl
                      · obtain rfl : i = g.rows.length := by omega
                        rw [if_neg (by omega)]
                        simp (maxSteps := 10000000) only [U, tset_eq, wW, Option.bind_some, Option.map_some, decide_eq_true_eq, Bool.not_eq_true', decide_eq_false_iff_not, Bool.not_true, Bool.not_false, ne_eq, if_true, if_false, reduceCtorEq, eq_self, Nat.zero_add, Nat.add_zero, not_false_eq_true, Nat.reduceEqDiff, t9, t17]
                        exact wfin_new hw hI.vv.grew rfl fun s9 hg9 _ hat => h1' _ s9 hg9 (Sl.sameAt hI.sl fun C o sp n cc e => hat C)
                    · simp only [U, tset_eq, wW, Option.bind_some, Option.map_some, decide_eq_true_eq, Bool.not_eq_true', decide_eq_false_iff_not, Bool.not_true, Bool.not_false, ne_eq, if_true, if_false, reduceCtorEq, eq_self, Nat.zero_add, Nat.add_zero, not_false_eq_true, Nat.reduceEqDiff, t3]
                    · simp only [U, tset_eq, wW, Option.bind_some, Option.map_some, decide_eq_true_eq, Bool.not_eq_true', decide_eq_false_iff_not, Bool.not_true, Bool.not_false, ne_eq, if_true, if_false, reduceCtorEq, eq_self, Nat.zero_add, Nat.add_zero, not_false_eq_true, Nat.reduceEqDiff, t9]
                    · simp only [U, tset_eq, wW, Option.bind_some, Option.map_some, decide_eq_true_eq, Bool.not_eq_true', decide_eq_false_iff_not, Bool.not_true, Bool.not_false, ne_eq, if_true, if_false, reduceCtorEq, eq_self, Nat.zero_add, Nat.add_zero, not_false_eq_true, Nat.reduceEqDiff]; rfl
                    · simp only [U, tset_eq, wW, Option.bind_some, Option.map_some, decide_eq_true_eq, Bool.not_eq_true', decide_eq_false_iff_not, Bool.not_true, Bool.not_false, ne_eq, if_true, if_false, reduceCtorEq, eq_self, Nat.zero_add, Nat.add_zero, not_false_eq_true, Nat.reduceEqDiff]; rfl
                · simp only [U, tset_eq, wW, Option.bind_some, Option.map_some, decide_eq_true_eq, Bool.not_eq_true', decide_eq_false_iff_not, Bool.not_true, Bool.not_false, ne_eq, if_true, if_false, reduceCtorEq, eq_self, Nat.zero_add, Nat.add_zero, not_false_eq_true, Nat.reduceEqDiff, t3]
                · simp only [U, tset_eq, wW, Option.bind_some, Option.map_some, decide_eq_true_eq, Bool.not_eq_true', decide_eq_false_iff_not, Bool.not_true, Bool.not_false, ne_eq, if_true, if_false, reduceCtorEq, eq_self, Nat.zero_add, Nat.add_zero, not_false_eq_true, Nat.reduceEqDiff, t9]
                · simp only [U, tset_eq, wW, Option.bind_some, Option.map_some, decide_eq_true_eq, Bool.not_eq_true', decide_eq_false_iff_not, Bool.not_true, Bool.not_false, ne_eq, if_true, if_false, reduceCtorEq, eq_self, Nat.zero_add, Nat.add_zero, not_false_eq_true, Nat.reduceEqDiff, t10]
                · simp only [U, tset_eq, wW, Option.bind_some, Option.map_some, decide_eq_true_eq, Bool.not_eq_true', decide_eq_false_iff_not, Bool.not_true, Bool.not_false, ne_eq, if_true, if_false, reduceCtorEq, eq_self, Nat.zero_add, Nat.add_zero, not_false_eq_true, Nat.reduceEqDiff]; rfl
            · simp only [U, tset_eq, wW, Option.bind_some, Option.map_some, decide_eq_true_eq, Bool.not_eq_true', decide_eq_false_iff_not, Bool.not_true, Bool.not_false, ne_eq, if_true, if_false, reduceCtorEq, eq_self, Nat.zero_add, Nat.add_zero, not_false_eq_true, Nat.reduceEqDiff]
            · simp only [U, tset_eq, wW, Option.bind_some, Option.map_some, decide_eq_true_eq, Bool.not_eq_true', decide_eq_false_iff_not, Bool.not_true, Bool.not_false, ne_eq, if_true, if_false, reduceCtorEq, eq_self, Nat.zero_add, Nat.add_zero, not_false_eq_true, Nat.reduceEqDiff]
            · simp only [U, tset_eq, wW, Option.bind_some, Option.map_some, decide_eq_true_eq, Bool.not_eq_true', decide_eq_false_iff_not, Bool.not_true, Bool.not_false, ne_eq, if_true, if_false, reduceCtorEq, eq_self, Nat.zero_add, Nat.add_zero, not_false_eq_true, Nat.reduceEqDiff]
            · simp only [U, tset_eq, wW, Option.bind_some, Option.map_some, decide_eq_true_eq, Bool.not_eq_true', decide_eq_false_iff_not, Bool.not_true, Bool.not_false, ne_eq, if_true, if_false, reduceCtorEq, eq_self, Nat.zero_add, Nat.add_zero, not_false_eq_true, Nat.reduceEqDiff]
            · simp only [U, tset_eq, wW, Option.bind_some, Option.map_some, decide_eq_true_eq, Bool.not_eq_true', decide_eq_false_iff_not, Bool.not_true, Bool.not_false, ne_eq, if_true, if_false, reduceCtorEq, eq_self, Nat.zero_add, Nat.add_zero, not_false_eq_true, Nat.reduceEqDiff]
            · simp only [U, tset_eq, wW, Option.bind_some, Option.map_some, decide_eq_true_eq, Bool.not_eq_true', decide_eq_false_iff_not, Bool.not_true, Bool.not_false, ne_eq, if_true, if_false, reduceCtorEq, eq_self, Nat.zero_add, Nat.add_zero, not_false_eq_true, Nat.reduceEqDiff]; rfl
          · rw [if_pos (by simpa using c5)]
            exact no fun h => c5 h.2.2.2.2
        · rw [if_pos (by simpa using c4)]
          exact no fun h => c4 h.2.2.2.1
      · rw [if_pos (by simpa using c3)]
        exact no fun h => c3 h.2.2.1
    · rw [if_pos (by simpa using c2)]
      exact no fun h => c2 h.2.1
  · rw [if_pos (by simpa using c1)]
    exact no fun h => c1 h.1

end
end Go.VE
/- A range over a function: slices.Backward. -/
namespace Go.VE
open Go Go.Proofs
set_option maxRecDepth 20000
/-- A block of a call's own, that no builder's slice is in. -/
structure Lc (s : St) (B : Nat) (oA : Option Nat) (A : Nat) (o : AO) : Prop where
  here : s.at A = some o
  ne : A ≠ B
  own : oA ≠ some A

theorem Lc.lt {s : St} {B : Nat} {oA : Option Nat} {A : Nat} {o : AO} (h : Lc s B oA A o) : A < s.n := St.at_lt h.here
theorem Lc.mut {s s' : St} {B : Nat} {oA oA' : Option Nat} {A : Nat} {o : AO} (h : Lc s B oA A o) (m : Mut s B oA s' oA') : Lc s' B oA' A o :=
  ⟨(m.same A h.lt h.ne h.own).trans h.here, h.ne, m.own_ne h.lt h.own⟩
theorem Lc.put {s s' : St} {B : Nat} {oA : Option Nat} {A C : Nat} {o o' : AO} (h : Lc s B oA A o) (p : Put s C o' s') (hne : A ≠ C) : Lc s' B oA A o := ⟨(p.rest A hne).trans h.here, h.ne, h.own⟩
theorem Lc.grew {s s' : St} {B : Nat} {oA : Option Nat} {A : Nat} {o : AO} (h : Lc s B oA A o) (g : Grew s s') : Lc s' B oA A o := ⟨(g.same A h.lt).trans h.here, h.ne, h.own⟩
theorem Lc.lo {s : St} {B : Nat} {oA : Option Nat} {A : Nat} {o : AO} {k : Nat} (h : Lc s B oA A o) : Lc { s with lo := k } B oA A o := ⟨h.here, h.ne, h.own⟩

theorem Lc.ent {s : St} {B : Nat} {oA : Option Nat} {A : Nat} {o : AO} (h : Lc s B oA A o) : Lc (Go.VE.ent s) B oA A o := ⟨h.here, h.ne, h.own⟩

/-- A list that stands in a block of others. -/
def OffS (B : Nat) (oA : Option Nat) (n : Nat) (u : Value) : Prop := ∀ A o sp k c, u = .slice (some ⟨A, o, sp⟩) k c → A < n ∧ A ≠ B ∧ oA ≠ some A

theorem OffS.mut {s s' : St} {B : Nat} {oA oA' : Option Nat} {u : Value} {n : Nat} (h : OffS B oA n u) (hn : n ≤ s.n) (m : Mut s B oA s' oA') : OffS B oA' n u := fun A o sp k c e =>
  ⟨(h A o sp k c e).1, (h A o sp k c e).2.1, m.own_ne (by have := (h A o sp k c e).1; omega) (h A o sp k c e).2.2⟩
theorem OffS.sl {s s' : St} {B : Nat} {oA oA' : Option Nat} {u : Value} {n : Nat} (h : OffS B oA n u) (hn : n ≤ s.n) (m : Mut s B oA s' oA') {sz k : Nat} {cs : List Value} (hs : Sl s u sz k cs) : Sl s' u sz k cs :=
  hs.sameAt fun A o sp k c e => m.same A (by have := (h A o sp k c e).1; omega) (h A o sp k c e).2.1 (h A o sp k c e).2.2
theorem OffS.slPut {s s' : St} {B C : Nat} {oA : Option Nat} {u : Value} {n : Nat} {o : AO} (h : OffS B oA n u) (hn : n ≤ C) (p : Put s C o s') {sz k : Nat} {cs : List Value} (hs : Sl s u sz k cs) : Sl s' u sz k cs :=
  hs.sameAt fun A o sp k c e => p.rest A (by have := (h A o sp k c e).1; omega)

section
variable {ro : Nat} {K : Value → St → Prop}
theorem wYield {L : Nat} {r : Lp} {s : St} {K : Value → St → Prop} {args : List Value} (hL : s.at L = some (.loop r)) (hlen : r.params.length = args.length) (h : RoundWP P ro L (setAll r.t r.params args) r.assign r.body s K) :
    xcallv (prims P ro) (.func (.yield L) (.mk []) (.mk [])) args s K := by
  rw [xcallv_eq]
  show wfol P ro K (ayield s L args (s.at L))
  rw [hL]
  simp only [ayield, hlen, Nat.beq_refl, cond_true]
  exact h

/-- slices.Backward's loop: a round for each element, the last one first. -/
theorem wBackward {L C : Nat} {u : Value} {l : List Int} {s : St} (r0 : Lp) (Inv : Nat → St → Prop) (hlen : r0.params.length = 2)
    (hloop : ∀ i s, Inv i s → s.at L = some (.loop r0)) (hC : ∀ i s, Inv i s → ∃ T o, s.at C = some (.cells [u] T o)) (hI : ∀ i s, Inv i s → Ints s u l) (hl : l.length < 2 ^ 60)
    (hLs : L < s.n)
    (hround : ∀ i s' (hi : i < l.length), Inv i s' → RoundWP P ro L (setAll r0.t r0.params [.int .i64 ((l.length - 1 - i : Nat) : Int), .int .i64 (l[l.length - 1 - i])]) r0.assign r0.body s' fun v s2 => v = .bool true ∧ s2.lo ≤ L ∧ Inv (i + 1) s2)
    (h0e : Inv 0 (ent s)) (hk0 : l.length = 0 → K (.tuple (.mk [])) s) (hk : ∀ s', Inv l.length s' → K (.tuple (.mk [])) { s' with lo := min s.lo s'.lo }) :
    CallWP P ro 92 [.func (.yield L) (.mk []) (.mk []), ptr C] s K := by
  refine call_wp b92 rfl ?_
  rw [n92]
  unfold v92
  obtain ⟨T, o, hc⟩ := hC 0 _ h0e
  have hi0 := hI 0 _ h0e
  simp (maxSteps := 10000000) only [wW, Option.bind_some, Option.map_some, decide_eq_true_eq, Bool.not_eq_true', decide_eq_false_iff_not, Bool.not_true, Bool.not_false, ne_eq, if_true, if_false, reduceCtorEq, eq_self, Nat.zero_add, Nat.add_zero, not_false_eq_true, Nat.reduceEqDiff]
  refine load_rule (load_one ap_30 hc rfl) ?_
  rw [hi0.wlen se_30]
  simp (maxSteps := 10000000) only [wW, Option.bind_some, Option.map_some, decide_eq_true_eq, Bool.not_eq_true', decide_eq_false_iff_not, Bool.not_true, Bool.not_false, ne_eq, if_true, if_false, reduceCtorEq, eq_self, Nat.zero_add, Nat.add_zero, not_false_eq_true, Nat.reduceEqDiff]
  rw [wrap_i64 (by omega) (by omega)]
  refine wloop l92_100 m92_100 (fun (i : Nat) τ ds s' => i ≤ l.length ∧ τ 0 = .func (.yield L) (.mk []) (.mk []) ∧ τ 1 = ptr C ∧ τ 3 = .int .i64 ((l.length : Int) - 1 - i) ∧ ds = [] ∧ Inv i s' ∧ (i = 0 → s' = ent s) ∧ (0 < i → s'.lo ≤ L)) (fun i => l.length - i) ?_ 0 ⟨by omega, ?_, ?_, ?_, rfl, h0e, fun _ => rfl, fun h => absurd h (by omega)⟩
  · rintro i τ ds s' ⟨hi, t0, t1, t3, rfl, hInv, hz, hp⟩
    rw [n92_100]
    unfold v92_100
    simp (maxSteps := 10000000) only [wW, Option.bind_some, Option.map_some, decide_eq_true_eq, Bool.not_eq_true', decide_eq_false_iff_not, Bool.not_true, Bool.not_false, ne_eq, if_true, if_false, reduceCtorEq, eq_self, Nat.zero_add, Nat.add_zero, not_false_eq_true, Nat.reduceEqDiff, t0, t1, t3]
    by_cases hlt : i < l.length
    · rw [if_pos (by omega)]
      obtain ⟨T2, o2, hc2⟩ := hC i s' hInv
      refine load_rule (load_one ap_30 hc2 rfl) ?_
      have hix : ((l.length : Int) - 1 - i) = ((l.length - 1 - i : Nat) : Int) := by omega
      have hjl : l.length - 1 - i < l.length := by omega
      obtain ⟨A5, o5, c5, z1, z2, z3⟩ := (hI i s' hInv).at1 (i := ((l.length - 1 - i : Nat) : Int)) (x := l[l.length - 1 - i]) (by omega) (by rw [Int.toNat_natCast]; exact List.getElem?_eq_getElem hjl)
      rw [← hix] at z1
      simp (maxSteps := 10000000) only [wW, Option.bind_some, Option.map_some, decide_eq_true_eq, Bool.not_eq_true', decide_eq_false_iff_not, Bool.not_true, Bool.not_false, ne_eq, if_true, if_false, reduceCtorEq, eq_self, Nat.zero_add, Nat.add_zero, not_false_eq_true, Nat.reduceEqDiff, wop_load, wop_indexAddr, wix0, wix1, wix2, rcAll, gcAll, Option.map_some, Nat.reduceAdd, load1 ap_24, load1 ap_3, load1 ap_4, load1 ap_92, load1 ap_32, loadN ap_94, loadN ap_34, loadN ap_58, fa_94_0, fa_94_1, fa_94_2, fa_94_3, fa_94_4, fa_94_5, fa_94_6, fa_94_7, fa_34_0, fa_34_1, fa_34_2, fa_34_3, fa_34_4, rc0, rc1, rc2, rc3, rc4, rc5, rc6, rc7, rc8, rc9, rc10, gc0, gc1, gc2, gc3, gc4, z1, z2, z3]
      refine wYield (hloop i s' hInv) hlen ?_
      rw [hix]
      obtain ⟨n, v, s2, e, rfl, h2, h3⟩ := hround i s' hlt hInv
      refine ⟨n, _, s2, e, ?_⟩
      simp (maxSteps := 10000000) only [wW, Option.bind_some, Option.map_some, decide_eq_true_eq, Bool.not_eq_true', decide_eq_false_iff_not, Bool.not_true, Bool.not_false, ne_eq, if_true, if_false, reduceCtorEq, eq_self, Nat.zero_add, Nat.add_zero, not_false_eq_true, Nat.reduceEqDiff]
      rw [wrap_i64 (by omega) (by omega)]
      refine ⟨i + 1, by omega, by omega, ?_, ?_, ?_, trivial, h3, fun h => absurd h (by omega), fun _ => h2⟩
      · simp only [U, tset_eq, wW, Option.bind_some, Option.map_some, decide_eq_true_eq, Bool.not_eq_true', decide_eq_false_iff_not, Bool.not_true, Bool.not_false, ne_eq, if_true, if_false, reduceCtorEq, eq_self, Nat.zero_add, Nat.add_zero, not_false_eq_true, Nat.reduceEqDiff, t0]
      · simp only [U, tset_eq, wW, Option.bind_some, Option.map_some, decide_eq_true_eq, Bool.not_eq_true', decide_eq_false_iff_not, Bool.not_true, Bool.not_false, ne_eq, if_true, if_false, reduceCtorEq, eq_self, Nat.zero_add, Nat.add_zero, not_false_eq_true, Nat.reduceEqDiff, t1]
      · simp only [U, tset_eq, wW, Option.bind_some, Option.map_some, decide_eq_true_eq, Bool.not_eq_true', decide_eq_false_iff_not, Bool.not_true, Bool.not_false, ne_eq, if_true, if_false, reduceCtorEq, eq_self, Nat.zero_add, Nat.add_zero, not_false_eq_true, Nat.reduceEqDiff]
        congr 1
        omega
    · obtain rfl : i = l.length := by omega
      rw [if_neg (by omega)]
      by_cases hz0 : l.length = 0
      · rw [hz hz0, wfin_flat (Nat.le_refl _) rfl]
        exact hk0 hz0
      · have hlo2 := hp (by omega)
        rw [wfin_old (by omega)]
        exact hk _ hInv
  · simp only [U, tset_eq, wW, Option.bind_some, Option.map_some, decide_eq_true_eq, Bool.not_eq_true', decide_eq_false_iff_not, Bool.not_true, Bool.not_false, ne_eq, if_true, if_false, reduceCtorEq, eq_self, Nat.zero_add, Nat.add_zero, not_false_eq_true, Nat.reduceEqDiff]
  · simp only [U, tset_eq, wW, Option.bind_some, Option.map_some, decide_eq_true_eq, Bool.not_eq_true', decide_eq_false_iff_not, Bool.not_true, Bool.not_false, ne_eq, if_true, if_false, reduceCtorEq, eq_self, Nat.zero_add, Nat.add_zero, not_false_eq_true, Nat.reduceEqDiff]
  · simp only [U, tset_eq, wW, Option.bind_some, Option.map_some, decide_eq_true_eq, Bool.not_eq_true', decide_eq_false_iff_not, Bool.not_true, Bool.not_false, ne_eq, if_true, if_false, reduceCtorEq, eq_self, Nat.zero_add, Nat.add_zero, not_false_eq_true, Nat.reduceEqDiff]
    congr 1
    omega

/-- slices.Backward hands back its loop over a copy of the slice. -/
theorem wBack {u : Value} {s : St} (hw : Wf s) (hk : ∀ C s', Grew s s' → s.n ≤ C → s'.at C = some (.cells [u] 30 false) → K (.func (.func 92) (.mk []) (.mk [ptr C])) s') (h1 : u.cells.toList = [u]) :
    CallWP P ro 68 [u] s K := by
  refine call_wp b68 rfl ?_
  rw [n68]
  unfold v68
  simp (maxSteps := 10000000) only [wW, Option.bind_some, Option.map_some, decide_eq_true_eq, Bool.not_eq_true', decide_eq_false_iff_not, Bool.not_true, Bool.not_false, ne_eq, if_true, if_false, reduceCtorEq, eq_self, Nat.zero_add, Nat.add_zero, not_false_eq_true, Nat.reduceEqDiff]
  refine box_rule hw.ent fun C s1 m1 => ?_
  have e1 := m1.eq
  have hn0 : (ent s).n = s.n := rfl
  refine wfin_new hw m1.grew rfl fun s' hg hn hat => hk C s' hg (by omega) ?_
  rw [hat C, m1.here, h1]

end
end Go.VE
/- A builder that lives: Pack. -/
namespace Go.VE
open Go Go.Proofs
set_option maxRecDepth 20000
noncomputable def packGo : List Int → Bd × Int → Bd × Int
  | [], c => c
  | b :: r, c => packGo r (mLinear c.1 c.2 b 2 1 0)

theorem packGo_snoc : ∀ (l : List Int) (b : Int) (c : Bd × Int), packGo (l ++ [b]) c = mLinear (packGo l c).1 (packGo l c).2 b 2 1 0
  | [], _, _ => rfl
  | x :: l, b, c => packGo_snoc l b (mLinear c.1 c.2 x 2 1 0)

theorem packGo_le : ∀ (l : List Int) (c : Bd × Int), c.1.Le (packGo l c).1
  | [], _ => .refl _
  | x :: l, c => (mLinear_le c.1 c.2 x 2 1 0).trans (packGo_le l _)

noncomputable def mPack (d : Bd) (bits : List Int) : Bd × Int :=
  if (mready d (kn d bits && nums d [])).2 = true then (mUndo (packGo bits.reverse (mConst d 0)).1 d.rows.length d.nv, (packGo bits.reverse (mConst d 0)).2)
  else ((mready d (kn d bits && nums d [])).1, -1)

theorem rev_take {α : Type} {l : List α} {i : Nat} (h : i < l.length) : l.reverse.take (i + 1) = l.reverse.take i ++ [l[l.length - 1 - i]] := by
  have h1 : i < l.reverse.length := by rw [List.length_reverse]; exact h
  rw [take_succ_eq (List.getElem?_eq_getElem h1), List.getElem_reverse]

theorem WholeAt.putN {s s' : St} {B : Nat} {oA : Option Nat} {n0 A1 A2 A3 A : Nat} {r nv : Int} {o : AO} (h : WholeAt n0 s B oA A1 A2 A3 r nv) (p : Put s A o s') (h1 : A1 ≠ A) (h2 : A2 ≠ A) (h3 : A3 ≠ A) : WholeAt n0 s' B oA A1 A2 A3 r nv := by
  obtain ⟨t1, t2, t3, o1, o2, o3, e1, e2, e3, k1, k2, k3, k4⟩ := h
  exact ⟨t1, t2, t3, o1, o2, o3, (p.rest A1 h1).trans e1, (p.rest A2 h2).trans e2, (p.rest A3 h3).trans e3, k1, k2, k3, k4⟩
theorem WholeAt.lt {s : St} {B : Nat} {oA : Option Nat} {n0 A1 A2 A3 : Nat} {r nv : Int} (h : WholeAt n0 s B oA A1 A2 A3 r nv) : A1 < s.n ∧ A2 < s.n ∧ A3 < s.n := by
  obtain ⟨t1, t2, t3, o1, o2, o3, e1, e2, e3, _⟩ := h
  exact ⟨St.at_lt e1, St.at_lt e2, St.at_lt e3⟩

/-- What is kept while a call on a builder goes on, s0 being where it began. -/
structure Run1 (ro : Nat) (s0 : St) (B : Nat) (oA0 : Option Nat) (s : St) (oA : Option Nat) (d : Bd) : Prop where
  liv : Liv ro s B oA d
  mt : Mut s0 B oA0 s oA
  w0 : Wf s0
  l0 : s0.lo = s0.n
  hB : B < s0.n
  ro : ro ≤ s0.n

theorem Run1.put {ro : Nat} {s0 s s' : St} {B A : Nat} {oA0 oA : Option Nat} {d : Bd} {o : AO} (h : Run1 ro s0 B oA0 s oA d) (p : Put s A o s') (hA : s0.n ≤ A) (hne : oA ≠ some A) : Run1 ro s0 B oA0 s' oA d :=
  ⟨h.liv.put p ⟨by have := h.ro; omega, by have := h.hB; omega, hne⟩, h.mt.put h.w0 p hA, h.w0, h.l0, h.hB, h.ro⟩
theorem Run1.grew {ro : Nat} {s0 s s' : St} {B : Nat} {oA0 oA : Option Nat} {d : Bd} (h : Run1 ro s0 B oA0 s oA d) (g : Grew s s') : Run1 ro s0 B oA0 s' oA d := ⟨h.liv.grew g, h.mt.trans (.ofGrew g), h.w0, h.l0, h.hB, h.ro⟩
theorem Run1.call {ro : Nat} {s0 s s' : St} {B : Nat} {oA0 oA oA' : Option Nat} {d d' : Bd} (h : Run1 ro s0 B oA0 s oA d) (l : Liv ro s' B oA' d') (m : Mut s B oA s' oA') : Run1 ro s0 B oA0 s' oA' d' := ⟨l, h.mt.trans m, h.w0, h.l0, h.hB, h.ro⟩
theorem Run1.fresh {ro : Nat} {s0 s : St} {B : Nat} {oA0 oA : Option Nat} {d : Bd} (h : Run1 ro s0 B oA0 s oA d) {A : Nat} (hA : s.n ≤ A) : A ≠ B ∧ oA ≠ some A := by
  have := h.hB
  have hn := h.mt.n
  refine ⟨by omega, fun e => ?_⟩
  have := (h.liv.hA A e).2.2
  omega
theorem Run1.start {ro : Nat} {s : St} {B : Nat} {oA : Option Nat} {d : Bd} (h : Liv ro s B oA d) : Run1 ro (Go.VE.ent s) B oA (Go.VE.ent s) oA d := ⟨h.ent, .refl _ _ _, h.wf.ent, rfl, h.lt, h.ron⟩
/-- The same inside of a call that began at s1, local parts of the caller being turned as well. -/
structure RunL (ro : Nat) (s0 : St) (B : Nat) (s1 : St) (oA1 : Option Nat) (s : St) (oA : Option Nat) (d : Bd) : Prop where
  liv : Liv ro s B oA d
  n : s1.n ≤ s.n
  same : ∀ C, C < s0.n → C ≠ B → oA1 ≠ some C → s.at C = s1.at C
  own : oA = oA1 ∨ ∃ A, oA = some A ∧ s1.n ≤ A
  chg : s.lo ≤ B ∨ ((∀ C, C < s0.n → s.at C = s1.at C) ∧ oA = oA1 ∧ s0.n ≤ s.lo)
  n0 : s0.n ≤ s1.n
  hB : B < s0.n
  ro : ro ≤ s0.n

theorem RunL.start {ro : Nat} {s0 s : St} {B : Nat} {oA0 oA : Option Nat} {d : Bd} (h : Run1 ro s0 B oA0 s oA d) : RunL ro s0 B s oA (Go.VE.ent s) oA d :=
  ⟨h.liv.ent, Nat.le_refl _, fun _ _ _ _ => rfl, .inl rfl, .inr ⟨fun _ _ => rfl, rfl, h.mt.n⟩, h.mt.n, h.hB, h.ro⟩

theorem RunL.put {ro : Nat} {s0 s1 s s' : St} {B A : Nat} {oA1 oA : Option Nat} {d : Bd} {o : AO} (h : RunL ro s0 B s1 oA1 s oA d) (p : Put s A o s') (hA : s0.n ≤ A) (hne : oA ≠ some A) : RunL ro s0 B s1 oA1 s' oA d := by
  refine ⟨h.liv.put p ⟨by have := h.ro; omega, by have := h.hB; omega, hne⟩, by rw [p.n]; exact h.n, fun C hC hB hx => (p.rest C (by omega)).trans (h.same C hC hB hx), h.own, ?_, h.n0, h.hB, h.ro⟩
  rcases h.chg with hlo | ⟨h1, h2, h3⟩
  · exact .inl (by rw [p.lo]; omega)
  · exact .inr ⟨fun C hC => (p.rest C (by omega)).trans (h1 C hC), h2, by rw [p.lo]; omega⟩

theorem RunL.call {ro : Nat} {s0 s1 s s' : St} {B : Nat} {oA1 oA oA' : Option Nat} {d d' : Bd} (h : RunL ro s0 B s1 oA1 s oA d) (l : Liv ro s' B oA' d') (m : Mut s B oA s' oA') : RunL ro s0 B s1 oA1 s' oA' d' := by
  have hn := h.n
  have hn0 := h.n0
  refine ⟨l, Nat.le_trans h.n m.n, fun C hC hB hx => ?_, ?_, ?_, h.n0, h.hB, h.ro⟩
  · have : oA ≠ some C := by
      rcases h.own with rfl | ⟨A, rfl, hA⟩
      · exact hx
      · intro e; cases e; omega
    rw [m.same C (by omega) hB this, h.same C hC hB hx]
  · rcases m.own with rfl | ⟨A, rfl, hA⟩
    · exact h.own
    · exact .inr ⟨A, rfl, Nat.le_trans h.n hA⟩
  · rcases m.chg with k1 | ⟨k1, rfl⟩
    · exact .inl k1
    · rcases h.chg with h1 | ⟨h1, h2, h3⟩
      · exact .inl (by rw [k1.lo]; exact h1)
      · exact .inr ⟨fun C hC => (k1.same C (by omega)).trans (h1 C hC), h2, by rw [k1.lo]; exact h3⟩

theorem RunL.grew {ro : Nat} {s0 s1 s s' : St} {B : Nat} {oA1 oA : Option Nat} {d : Bd} (h : RunL ro s0 B s1 oA1 s oA d) (g : Grew s s') : RunL ro s0 B s1 oA1 s' oA d := h.call (h.liv.grew g) (.ofGrew g)

theorem RunL.finish {ro : Nat} {s0 s1 s : St} {B : Nat} {oA0 oA1 oA : Option Nat} {d1 d : Bd} (h : RunL ro s0 B s1 oA1 s oA d) (k : Run1 ro s0 B oA0 s1 oA1 d1) : Run1 ro s0 B oA0 { s with lo := min s1.lo s.lo } oA d := by
  have hn := h.n
  have hn0 := h.n0
  have hwl := h.liv.wf.lo
  have hkl := k.liv.wf.lo
  refine ⟨h.liv.lo (by omega), ⟨by show s0.n ≤ s.n; omega, fun C hC hB hx => ?_, ?_, ?_⟩, k.w0, k.l0, k.hB, k.ro⟩
  · show s.at C = s0.at C
    have : oA1 ≠ some C := by
      rcases k.mt.own with rfl | ⟨A, rfl, hA⟩
      · exact hx
      · intro e; cases e; omega
    rw [h.same C hC hB this, k.mt.same C hC hB hx]
  · rcases h.own with rfl | ⟨A, rfl, hA⟩
    · exact k.mt.own
    · exact .inr ⟨A, rfl, by omega⟩
  · rcases k.mt.chg with k1 | ⟨k1, rfl⟩
    · exact .inl (by show min s1.lo s.lo ≤ B; omega)
    · rcases h.chg with h1 | ⟨h1, rfl, h3⟩
      · exact .inl (by show min s1.lo s.lo ≤ B; omega)
      · refine .inr ⟨⟨by show s0.n ≤ s.n; omega, ?_, fun C hC => (h1 C hC).trans (k1.same C hC), fun hl => h.liv.wf.len⟩, rfl⟩
        show min s1.lo s.lo = s0.lo
        rw [k1.lo, k.l0]
        omega

end Go.VE
