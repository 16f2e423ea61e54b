/-
  What the functions compute.
-/
import Derived.Test.YteamclmopokioaaDoorWk1
set_option linter.unusedSimpArgs false
set_option linter.unusedVariables false
/- The reference of the gates: order, Valid. -/
namespace Go.VE
open Go Go.Proofs
set_option maxRecDepth 20000
structure OrdI (ro : Nat) (g : Gp) (ur : Value) (s0 : St) (G A : Nat) (s : St) (D : List Int) : Prop where
  vc : Vc 3 (.int .i64) s0 s A D
  gat : s.at G = some (.cells (g.cells ur) 34 false)
  len : D.length = g.nv.toNat
  w0 : Wf s0
  ro : ro ≤ s0.n
  rows : RowsS s0 ur g.rows
  ne : G ≠ A
section
variable {ro : Nat} {K : Value → St → Prop} {g : Gp} {ur : Value} {s0 : St} {G A : Nat} {s : St} {D : List Int}
theorem OrdI.rs (h : OrdI ro g ur s0 G A s D) : RowsS s ur g.rows := Sl.grew h.rows h.vc.grew.same
theorem OrdI.gc (h : OrdI ro g ur s0 G A s D) : acells (s.at G) = some (g.cells ur) := acells_some h.gat
theorem OrdI.dc (h : OrdI ro g ur s0 G A s D) : acells (s.at A) = some (D.map (.int .i64)) := acells_some h.vc.here
theorem OrdI.get (h : OrdI ro g ur s0 G A s D) {i : Int} (h0 : 0 ≤ i) (hi : i < g.nv) : (D.map (Value.int .i64))[i.toNat]? = some (.int .i64 (at0 D i)) := by
  have := h.len
  rw [List.getElem?_map, at0_get h0 (by omega)]; rfl
theorem OrdI.store (h : OrdI ro g ur s0 G A s D) {i : Int} (h0 : 0 ≤ i) (hi : i < g.nv) {x : Int} {ty : TypeId} {K : Value → St → Prop} (hk : ∀ s', OrdI ro g ur s0 G A s' (D.set i.toNat x) → (∀ B, B ≠ A → s'.at B = s.at B) → K undef s') :
    wop P ro (.store 3 (.const (.pointer (some ⟨A, i.toNat, none⟩))) (.const (.int .i64 x))) ty s K := by
  have := h.len
  exact h.vc.store isz_3 h.w0 h.ro (by omega) rfl fun s' v r _ => hk s' ⟨v, (r G h.ne).trans h.gat, by rw [List.length_set]; exact h.len, h.w0, h.ro, h.rows, h.ne⟩ r
theorem OrdI.grew (h : OrdI ro g ur s0 G A s D) {s' : St} (hg : Grew s s') : OrdI ro g ur s0 G A s' D :=
  ⟨⟨(hg.same A (St.at_lt h.vc.here)).trans h.vc.here, h.vc.new, h.vc.wf.grew hg, h.vc.grew.trans hg⟩, (hg.same G (St.at_lt h.gat)).trans h.gat, h.len, h.w0, h.ro, h.rows, h.ne⟩
theorem Limits.row {i : Nat} (h : Limits g) (hi : i < g.rows.length) : RowLim g i := h.2.2.2.2.2.2.2.2 i hi
theorem Limits.wire {i : Nat} (h : Limits g) (hi : i < g.rows.length) {k : Nat} (hk : k < 4) : -1 ≤ (rowAt g.rows i).w k ∧ (rowAt g.rows i).w k < g.nv := (h.row hi).1.2.2.2.2.2.1 k hk
theorem Limits.next {i : Nat} (h : Limits g) (hi : i < g.rows.length) (h3 : (rowAt g.rows i).k = 3) : i + 1 < g.rows.length ∧ ∀ k : Nat, k < 4 → 0 ≤ (rowAt g.rows (i + 1)).w k ∧ (rowAt g.rows (i + 1)).w k < g.nv :=
  ⟨((h.row hi).2 h3).1, fun k hk => ⟨((h.row hi).2 h3).2 k hk, (h.wire ((h.row hi).2 h3).1 hk).2⟩⟩
theorem Limits.reads {i : Nat} (h : Limits g) (hi : i < g.rows.length) {j : Int} (hj : j ∈ rds (rowAt g.rows i)) : 0 ≤ (rowAt g.rows i).w j.toNat ∧ (rowAt g.rows i).w j.toNat < g.nv := by
  have h4 := rds_lt _ j hj
  exact ⟨(h.row hi).1.2.2.2.2.2.2 j hj, (h.wire hi (by omega)).2⟩
theorem Limits.nv (h : Limits g) : 0 ≤ g.nv ∧ g.nv ≤ 40000 := ⟨by have := h.2.1; have := h.2.2.2.1; have := h.2.2.2.2.2.1; omega, h.2.2.2.2.2.2.1⟩
theorem rds_2 {r : Row} (h1 : r.k = 1) (hq : r.qo ≠ 0) : (2 : Int) ∈ rds r := by
  unfold rds
  rw [if_pos h1, if_pos hq]
  simp
abbrev slc (A n : Nat) : Value := .slice (some ⟨A, 0, none⟩) n n
theorem ordNext (hL : Limits g) (hI : OrdI ro g ur s0 G A s D) {i : Nat} (hi : i < g.rows.length) {R : Nat} (hR : s.at R = some (.cells (rowAt g.rows i).cells 94 false)) (hRA : R ≠ A) {m : Int} (hm : 0 ≤ m ∧ m ≤ i)
    {τ : Tau} {ds : List Deferred} {Qe : Ex → XK} (h1 : τ 1 = ptr G) (h4 : τ 4 = slc A g.nv.toNat) (h6 : τ 6 = .int .i64 i) (h7 : τ 7 = ptr R) (h9 : τ 9 = .int .i64 m)
    (hk : ∀ τ' al s', U τ' al 1 = ptr G → U τ' al 4 = slc A g.nv.toNat → U τ' al 6 = .int .i64 i → OrdI ro g ur s0 G A s' (if (rowAt g.rows i).k = 3 then it (dNext m (rowAt g.rows (i + 1))) 4 D else D) → Qe .normal τ' al ds s') :
    xp (prims P ro) none 153 k85_1110100 c85_111010010011111 [1, 1, 1, 1, 1, 0, 0, 1] τ [] ds s Qe := by
  have hnv := hL.nv
  have hrl := hL.2.2.2.2.2.2.2.1
  rw [n85_111010010011111]
  unfold v85_111010010011111
  have hRc : acells (s.at R) = some (rowAt g.rows i).cells := acells_some hR
  simp (maxSteps := 10000000) only [wW, reduceCtorEq, Nat.reduceEqDiff, wL, Nat.reduceAdd, h7, hRc]
  by_cases h3 : (rowAt g.rows i).k = 3
  · rw [if_pos h3] at hk ⊢
    have hn := hL.next hi h3
    refine wloop l85_11101001001111110100 m85_11101001001111110100 (fun (k : Nat) τ ds' s' => k ≤ 4 ∧ τ 1 = ptr G ∧ τ 4 = slc A g.nv.toNat ∧ τ 6 = .int .i64 i ∧ τ 9 = .int .i64 m ∧ τ 12 = .int .i64 k ∧ ds = ds' ∧ OrdI ro g ur s0 G A s' (it (dNext m (rowAt g.rows (i + 1))) k D)) (fun k => 4 - k) ?_ 0 ⟨by omega, ?_, ?_, ?_, ?_, rfl, rfl, hI⟩
    · clear h1 h4 h6 h7 h9 hI hR hRc
      rintro k τ ds' s' ⟨hk4', h1, h4, h6, h9, h12, rfl, hI⟩
      rw [n85_11101001001111110100]
      unfold v85_11101001001111110100
      by_cases hk4 : k < 4
      · have hx := hn.2 k hk4
        obtain ⟨A2, o2, c2, y1, y2⟩ := hI.rs.ix (rowAt_get hn.1)
        have hiw : IntKind.i64.wrap ((i : Int) + 1) = ((i + 1 : Nat) : Int) := by rw [wrap_i64 (by omega) (by omega)]; rfl
        have hwk := y2.wire hk4
        have hix := ixc se_30 isz_3 (A := A) (n := g.nv.toNat) (c := g.nv.toNat) (i := (rowAt g.rows (i + 1)).w k) hx.1 (by omega)
        have hgt := hI.get hx.1 hx.2
        simp (maxSteps := 10000000) only [wW, reduceCtorEq, Nat.reduceEqDiff, wL, Nat.reduceAdd, h1, h4, h6, h9, h12, hI.gc, hiw, y1, y2.blk, wix _ _ hk4, hwk, hix, hI.dc, hgt]
        rw [if_pos (by omega)]
        by_cases hneg : at0 (it (dNext m (rowAt g.rows (i + 1))) k D) ((rowAt g.rows (i + 1)).w k) < 0
        · rw [if_pos hneg, wrap_i64 (n := m + 1) (by omega) (by omega)]
          refine hI.store hx.1 hx.2 fun s2 hI2 _ => ?_
          rw [wrap_i64 (by omega) (by omega)]
          refine ⟨k + 1, by omega, by omega, ?_, ?_, ?_, ?_, ?_, trivial, ?_⟩
          · simp only [U, tset_eq, wW, reduceCtorEq, Nat.reduceEqDiff, h1]
          · simp only [U, tset_eq, wW, reduceCtorEq, Nat.reduceEqDiff, h4]
          · simp only [U, tset_eq, wW, reduceCtorEq, Nat.reduceEqDiff, h6]
          · simp only [U, tset_eq, wW, reduceCtorEq, Nat.reduceEqDiff, h9]
          · simp only [U, tset_eq, wW, reduceCtorEq, Nat.reduceEqDiff]; rfl
          · rw [it, dNext, if_pos hneg]
            exact hI2
        · rw [if_neg hneg, wrap_i64 (by omega) (by omega)]
          refine ⟨k + 1, by omega, by omega, ?_, ?_, ?_, ?_, ?_, trivial, ?_⟩
          · simp only [U, tset_eq, wW, reduceCtorEq, Nat.reduceEqDiff, h1]
          · simp only [U, tset_eq, wW, reduceCtorEq, Nat.reduceEqDiff, h4]
          · simp only [U, tset_eq, wW, reduceCtorEq, Nat.reduceEqDiff, h6]
          · simp only [U, tset_eq, wW, reduceCtorEq, Nat.reduceEqDiff, h9]
          · simp only [U, tset_eq, wW, reduceCtorEq, Nat.reduceEqDiff]; rfl
          · rw [it, dNext, if_neg hneg]
            exact hI
      · obtain rfl : k = 4 := by omega
        simp (maxSteps := 10000000) only [wW, reduceCtorEq, Nat.reduceEqDiff, h12]
        rw [if_neg (by omega)]
        refine hk _ [] _ ?_ ?_ ?_ hI
        · simp only [U, tset_eq, wW, reduceCtorEq, Nat.reduceEqDiff, h1]
        · simp only [U, tset_eq, wW, reduceCtorEq, Nat.reduceEqDiff, h4]
        · simp only [U, tset_eq, wW, reduceCtorEq, Nat.reduceEqDiff, h6]
    · simp only [U, tset_eq, wW, reduceCtorEq, Nat.reduceEqDiff, h1]
    · simp only [U, tset_eq, wW, reduceCtorEq, Nat.reduceEqDiff, h4]
    · simp only [U, tset_eq, wW, reduceCtorEq, Nat.reduceEqDiff, h6]
    · simp only [U, tset_eq, wW, reduceCtorEq, Nat.reduceEqDiff, h9]
  · rw [if_neg h3] at hk ⊢
    refine hk _ _ _ ?_ ?_ ?_ hI
    · simp only [U, tset_eq, wW, reduceCtorEq, Nat.reduceEqDiff, h1]
    · simp only [U, tset_eq, wW, reduceCtorEq, Nat.reduceEqDiff, h4]
    · simp only [U, tset_eq, wW, reduceCtorEq, Nat.reduceEqDiff, h6]
theorem ordArith (hL : Limits g) (hI : OrdI ro g ur s0 G A s D) {i : Nat} (hi : i < g.rows.length) {R : Nat} (hR : s.at R = some (.cells (rowAt g.rows i).cells 94 false)) (hRA : R ≠ A) {m : Int} (hm : 0 ≤ m ∧ m ≤ i)
    {τ : Tau} {ds : List Deferred} {Qe : Ex → XK} (hQ : QOk Qe) (h1 : τ 1 = ptr G) (h4 : τ 4 = slc A g.nv.toNat) (h6 : τ 6 = .int .i64 i) (h7 : τ 7 = ptr R) (h9 : τ 9 = .int .i64 m)
    {b : Bool} (h100 : τ 100 = .bool b) (hb : b = true ↔ (rowAt g.rows i).k = 1 ∧ (rowAt g.rows i).qo ≠ 0 ∧ at0 D (rowAt g.rows i).w2 < 0)
    (hk : ∀ τ' al s', U τ' al 1 = ptr G → U τ' al 4 = slc A g.nv.toNat → U τ' al 6 = .int .i64 i → OrdI ro g ur s0 G A s' (dRow (rowAt g.rows i) (rowAt g.rows (i + 1)) m D) → Qe .normal τ' al ds s') :
    xp (prims P ro) none 153 k85_1110100 c85_1110100100111101 [1, 0, 1, 1, 1, 1, 0, 0, 1] τ [] ds s (sX (prims P ro) none 153 k85_1110100 c85_111010010011111 [1, 1, 1, 1, 1, 0, 0, 1] Qe) := by
  have hnv := hL.nv
  have hrl := hL.2.2.2.2.2.2.2.1
  generalize hX : sX (prims P ro) none 153 k85_1110100 c85_111010010011111 [1, 1, 1, 1, 1, 0, 0, 1] Qe = X
  rw [n85_1110100100111101]
  unfold v85_1110100100111101
  have hRc : acells (s.at R) = some (rowAt g.rows i).cells := acells_some hR
  rw [h100, h4, h7, h9]
  simp (maxSteps := 10000000) only [wW, reduceCtorEq, Nat.reduceEqDiff, wL, Nat.reduceAdd, hRc]
  by_cases hbt : b = true
  · rw [if_pos hbt]
    have hc := hb.1 hbt
    have hw2 := hL.reads hi (rds_2 hc.1 hc.2.1)
    have hw2' : 0 ≤ (rowAt g.rows i).w2 ∧ (rowAt g.rows i).w2 < g.nv := hw2
    have hix := ixc se_30 isz_3 (A := A) (n := g.nv.toNat) (c := g.nv.toNat) (i := (rowAt g.rows i).w2) hw2'.1 (by omega)
    simp (maxSteps := 10000000) only [wW, reduceCtorEq, Nat.reduceEqDiff, wL, Nat.reduceAdd, hix]
    rw [wrap_i64 (n := m + 1) (by omega) (by omega)]
    refine hI.store hw2'.1 hw2'.2 fun s2 hI2 r2 => ?_
    rw [← hX, sX_n hQ]
    have e : dArith (rowAt g.rows i) m D = D.set (rowAt g.rows i).w2.toNat (m + 1) := by unfold dArith; rw [if_pos hc]
    rw [← e] at hI2
    refine ordNext hL hI2 hi ((r2 R hRA).trans hR) hRA hm ?_ ?_ ?_ ?_ ?_ hk
    · simp only [U, tset_eq, wW, reduceCtorEq, Nat.reduceEqDiff, h1]
    · simp only [U, tset_eq, wW, reduceCtorEq, Nat.reduceEqDiff, h4]
    · simp only [U, tset_eq, wW, reduceCtorEq, Nat.reduceEqDiff, h6]
    · simp only [U, tset_eq, wW, reduceCtorEq, Nat.reduceEqDiff, h7]
    · simp only [U, tset_eq, wW, reduceCtorEq, Nat.reduceEqDiff, h9]
  · rw [if_neg hbt]
    have hc := fun h => hbt (hb.2 h)
    rw [← hX, sX_n hQ]
    have e : dArith (rowAt g.rows i) m D = D := by unfold dArith; rw [if_neg hc]
    have hI' := hI
    rw [← e] at hI'
    refine ordNext hL hI' hi hR hRA hm ?_ ?_ ?_ ?_ ?_ hk
    · simp only [U, tset_eq, wW, reduceCtorEq, Nat.reduceEqDiff, h1]
    · simp only [U, tset_eq, wW, reduceCtorEq, Nat.reduceEqDiff, h4]
    · simp only [U, tset_eq, wW, reduceCtorEq, Nat.reduceEqDiff, h6]
    · simp only [U, tset_eq, wW, reduceCtorEq, Nat.reduceEqDiff, h7]
    · simp only [U, tset_eq, wW, reduceCtorEq, Nat.reduceEqDiff, h9]
end
end Go.VE
/- The reference of the gates: order, Valid. -/
namespace Go.VE
open Go Go.Proofs
set_option maxRecDepth 20000
section
variable {ro : Nat} {K : Value → St → Prop} {g : Gp} {ur : Value} {s0 : St} {G A : Nat} {s : St} {D : List Int}
theorem ordEnd {τ : Tau} {al : AL} {ds : List Deferred} {Q : Ex → WK} {i : Nat} (hi : i ≤ 8000) (h6 : U τ al 6 = .int .i64 i)
    (hk : ∀ τ', τ' 1 = U τ al 1 → τ' 4 = U τ al 4 → τ' 6 = .int .i64 ((i + 1 : Nat) : Int) → Q .normal τ' ds s) :
    blkX 3 (sX (prims P ro) none 153 k85_1110100 c85_111010011 [1, 1] (lift Q)) .normal τ al ds s := by
  rw [blkX_n, sX_n (.lift _), n85_111010011]
  unfold v85_111010011
  rw [h6]
  simp (maxSteps := 10000000) only [wW, reduceCtorEq, Nat.reduceEqDiff]
  rw [wrap_i64 (by omega) (by omega)]
  unfold lift
  refine hk _ ?_ ?_ ?_
  · simp only [U, tset_eq, wW, reduceCtorEq, Nat.reduceEqDiff]
  · simp only [U, tset_eq, wW, reduceCtorEq, Nat.reduceEqDiff]
  · simp only [U, tset_eq, wW, reduceCtorEq, Nat.reduceEqDiff]; rfl
theorem wOrder (g : Gp) (hL : Limits g) {s : St} {ur : Value} (hw : Wf s) (hro : ro ≤ s.n) (hr : RowsS s ur g.rows)
    (h0 : orderM g = none → K (.tuple (.mk [.slice none 0 0, .bool false])) s) (h1 : ∀ D v s', orderM g = some D → Grew s s' → Ints s' v D → K (.tuple (.mk [v, .bool true])) s') :
    CallWP P ro 85 [.agg (.mk (g.cells ur))] s K := by
  refine call_wp b85 rfl ?_
  rw [n85]
  unfold v85
  simp (maxSteps := 10000000) only [wW, reduceCtorEq, Nat.reduceEqDiff]
  refine box_rule hw.ent fun G s1 m1 => ?_
  have e1 := m1.eq
  have n1 := m1.n
  have hn0 : (ent s).n = s.n := rfl
  have hnv := hL.nv
  have hrl := hL.2.2.2.2.2.2.2.1
  have hps := hL.2.1
  have hps2 := hL.2.2.1
  have hps3 := hL.2.2.2.1
  have hps4 := hL.2.2.2.2.1
  have hG1 : s1.at G = some (.cells (g.cells ur) 34 false) := m1.here
  simp (maxSteps := 10000000) only [wW, reduceCtorEq, Nat.reduceEqDiff, wL, Nat.reduceAdd, acells_some hG1]
  refine make_rule (mk := Value.int .i64) (x := 0) se_30 ty_3 rfl m1.wf hnv.1 (by omega) (by decide) fun A s2 m2 => ?_
  have e2 := m2.eq
  have n2 := m2.n
  have hlen0 : (List.replicate g.nv.toNat (0 : Int)).length = g.nv.toNat := by simp
  have hI0 : OrdI ro g ur (ent s) G A s2 (List.replicate g.nv.toNat 0) := ⟨⟨m2.here, by omega, m2.wf, m1.grew.trans m2.grew⟩, (m2.grew.same G (by omega)).trans hG1, hlen0, hw.ent, hro, Sl.ent hr, by omega⟩
  have no : ∀ {s' : St}, Grew (ent s) s' → orderM g = none → wfin s K (.tuple (.mk [.slice none 0 0, .bool false])) s' := fun hg hf => fin_flat rfl hg (h0 hf)
  have noR : ∀ {τ : Tau} {al : AL} {s' : St}, Grew (ent s) s' → orderM g = none → U τ al 2 = .slice none 0 0 → U τ al 3 = .bool false → xleave (prims P ro) s Tryd.f85.results.toList K .ret (U τ al) [] [] s' := fun {τ al s'} hg hf h2 h3 => by
    rw [r85]
    simp (maxSteps := 10000000) only [wW, reduceCtorEq, Nat.reduceEqDiff]
    rw [h2, h3]
    exact no hg hf
  have hlI : ∀ {s : St} {K : Value → St → Prop}, wop P ro (.call ⟨.builtin .len, ⟨[.const (slc A g.nv.toNat)]⟩, #[30]⟩) 3 s K = K (.int .i64 (g.nv.toNat : Nat)) s := fun {s K} => wop_len se_30 _ _ _ _ _ _
  refine wloop l85_110100 m85_110100 (fun (i : Nat) τ ds s' => i ≤ g.nv.toNat ∧ τ 1 = ptr G ∧ τ 4 = slc A g.nv.toNat ∧ τ 5 = .int .i64 i ∧ ds = [] ∧ OrdI ro g ur (ent s) G A s' (it (dInit (g.pub + g.sec)) i (List.replicate g.nv.toNat 0))) (fun i => g.nv.toNat - i) ?_ 0 ⟨by omega, ?_, ?_, ?_, rfl, hI0⟩
  · clear hI0
    rintro i τ ds s' ⟨hi, t1, t4, t5, rfl, hI⟩
    rw [n85_110100]
    unfold v85_110100
    simp (maxSteps := 10000000) only [wW, reduceCtorEq, Nat.reduceEqDiff, t4, t5, hlI]
    by_cases hlt : i < g.nv.toNat
    · rw [if_pos (by omega)]
      have hx0 : (0 : Int) ≤ (i : Int) := by omega
      have hx1 : (i : Int) < g.nv := by omega
      have hix := ixc se_30 isz_3 (A := A) (n := g.nv.toNat) (c := g.nv.toNat) (i := (i : Int)) hx0 (by omega)
      simp (maxSteps := 10000000) only [wW, reduceCtorEq, Nat.reduceEqDiff, wL, Nat.reduceAdd, hix]
      refine hI.store hx0 hx1 fun s3 hI3 _ => ?_
      simp (maxSteps := 10000000) only [wW, reduceCtorEq, Nat.reduceEqDiff, wL, Nat.reduceAdd, t1, t4, t5, hI3.gc, hix]
      rw [wrap_i64 (n := g.pub + g.sec) (by omega) (by omega)]
      by_cases hp : (i : Int) < g.pub + g.sec
      · rw [if_pos hp]
        refine hI3.store hx0 hx1 fun s4 hI4 _ => ?_
        rw [wrap_i64 (by omega) (by omega)]
        refine ⟨i + 1, by omega, by omega, ?_, ?_, ?_, trivial, ?_⟩
        · simp only [U, tset_eq, wW, reduceCtorEq, Nat.reduceEqDiff, t1]
        · simp only [U, tset_eq, wW, reduceCtorEq, Nat.reduceEqDiff, t4]
        · simp only [U, tset_eq, wW, reduceCtorEq, Nat.reduceEqDiff]; rfl
        · rw [it, dInit, if_pos hp]
          exact hI4
      · rw [if_neg hp]
        rw [wrap_i64 (by omega) (by omega)]
        refine ⟨i + 1, by omega, by omega, ?_, ?_, ?_, trivial, ?_⟩
        · simp only [U, tset_eq, wW, reduceCtorEq, Nat.reduceEqDiff, t1]
        · simp only [U, tset_eq, wW, reduceCtorEq, Nat.reduceEqDiff, t4]
        · simp only [U, tset_eq, wW, reduceCtorEq, Nat.reduceEqDiff]; rfl
        · rw [it, dInit, if_neg hp]
          exact hI3
    · obtain rfl : i = g.nv.toNat := by omega
      rw [if_neg (by omega)]
      have hd0 : Dep g.nv.toNat 0 (it (dInit (g.pub + g.sec)) g.nv.toNat (List.replicate g.nv.toNat 0)) := Dep.inits ⟨hlen0, fun x hx => by rw [List.eq_of_mem_replicate hx]; decide⟩ _
      refine wloop l85_1110100 m85_1110100 (fun (i : Nat) τ ds s' => i ≤ g.rows.length ∧ τ 1 = ptr G ∧ τ 4 = slc A g.nv.toNat ∧ τ 6 = .int .i64 i ∧ ds = [] ∧ ∃ D, orderD g i = some D ∧ Dep g.nv.toNat i D ∧ OrdI ro g ur (ent s) G A s' D) (fun i => g.rows.length - i) ?_ 0 ⟨by omega, ?_, ?_, ?_, rfl, _, rfl, hd0, hI⟩
      · clear hI t1 t4 t5 hd0 hlt hi
        rintro i τ ds s' ⟨hi, t1, t4, t6, rfl, D, hD, hdep, hI⟩
        rw [n85_1110100]
        unfold v85_1110100
        have hgl : ∀ s' K, wop P ro (.call ⟨.builtin .len, ⟨[.const ur]⟩, #[32]⟩) 3 s' K = K (.int .i64 (g.rows.length : Nat)) s' := fun s' K => Sl.wlen hr se_32 _ K
        by_cases hlt : i < g.rows.length
        · obtain ⟨A5, o5, c5, q1, q2⟩ := hI.rs.ix (rowAt_get hlt)
          simp (maxSteps := 10000000) only [wW, reduceCtorEq, Nat.reduceEqDiff, wL, Nat.reduceAdd, t1, t4, t6, hI.gc, hgl, q1, q2.blk, q2.all]
          rw [if_pos (by omega)]
          refine alloc_rule ty_94 hI.vc.wf fun R s3 m3 => ?_
          have e3 := m3.eq
          have n3 := m3.n
          have gn := hI.vc.grew.n
          have hAlt := St.at_lt hI.vc.here
          have hGlt := St.at_lt hI.gat
          refine storeAll_rule isz_94 m3.here (l := (rowAt g.rows i).cells) rfl (by decide) m3.wf (by omega) rfl rfl fun s4 p4 => ?_
          have hI4 : OrdI ro g ur (ent s) G A s4 D := ⟨⟨(p4.rest A (by omega)).trans ((m3.grew.same A hAlt).trans hI.vc.here), hI.vc.new, p4.wf, p4.grew _ hw.ent (hI.vc.grew.trans m3.grew) (by omega)⟩, (p4.rest G (by omega)).trans ((m3.grew.same G hGlt).trans hI.gat), hI.len, hI.w0, hI.ro, hI.rows, hI.ne⟩
          have hR4 : s4.at R = some (.cells (rowAt g.rows i).cells 94 false) := p4.here
          simp (maxSteps := 10000000) only [wW, reduceCtorEq, Nat.reduceEqDiff, wL, Nat.reduceAdd, acells_some hR4]
          refine wReads (rowAt g.rows i) p4.wf (by have := hI4.vc.grew.n; omega) fun v s5 g5 hV => ?_
          have hI5 := hI4.grew g5
          have hR5 : s5.at R = some (.cells (rowAt g.rows i).cells 94 false) := (g5.same R (St.at_lt hR4)).trans hR4
          have hRc := acells_some hR5
          have hRA : R ≠ A := by omega
          have hrdl := rds_len (rowAt g.rows i)
          generalize hrr : rowAt g.rows i = r at *
          refine wloop l85_11101001001110100 m85_11101001001110100 (fun (k : Nat) τ ds s' => k ≤ (rds r).length ∧ τ 1 = ptr G ∧ τ 4 = slc A g.nv.toNat ∧ τ 6 = .int .i64 i ∧ τ 7 = ptr R ∧ τ 8 = v ∧ τ 10 = .int .i64 k ∧ ds = [] ∧ s5 = s' ∧ ∃ m, τ 9 = .int .i64 m ∧ 0 ≤ m ∧ m ≤ i ∧ mostM r D ((rds r).drop k) m = mostM r D (rds r) 0) (fun k => (rds r).length - k) ?_ 0 ⟨by omega, ?_, ?_, ?_, ?_, ?_, ?_, rfl, rfl, 0, ?_, by omega, by omega, rfl⟩
          · clear t1 t4 t6 hI hI4
            rintro k τ ds s' ⟨hk, t1, t4, t6, t7, t8, t10, rfl, rfl, m, t9, hm0, hm1, hmost⟩
            have hstep : stepD g i D = (mostM r D (rds r) 0).map fun m => dRow r (rowAt g.rows (i + 1)) m D := by unfold stepD; rw [hrr]
            have hon : orderD g (i + 1) = stepD g i D := by rw [orderD, hD]; rfl
            rw [n85_11101001001110100]
            unfold v85_11101001001110100
            by_cases hlk : k < (rds r).length
            · obtain ⟨A6, o6, c6, z1, z2, z3⟩ := hV.at1 (i := (k : Int)) (x := (rds r)[k]) (by omega) (by rw [Int.toNat_natCast]; exact List.getElem?_eq_getElem hlk)
              have hmem : (rds r)[k] ∈ rds r := List.getElem_mem _
              have hj := rds_lt r _ hmem
              have hjc : (((rds r)[k]).toNat : Int) = (rds r)[k] := by omega
              have hwx := wix R 1 (k := ((rds r)[k]).toNat) (by omega)
              rw [hjc] at hwx
              have hrw := hL.reads hlt (j := (rds r)[k]) (by rw [hrr]; exact hmem)
              rw [hrr] at hrw
              have hix := ixc se_30 isz_3 (A := A) (n := g.nv.toNat) (c := g.nv.toNat) (i := r.w ((rds r)[k]).toNat) hrw.1 (by omega)
              have hgt := hI5.get hrw.1 hrw.2
              simp (maxSteps := 10000000) only [wW, reduceCtorEq, Nat.reduceEqDiff, wL, Nat.reduceAdd, t4, t7, t8, t9, t10, hV.wlen se_30, z1, z2, z3, hRc, hwx, rcw r (show ((rds r)[k]).toNat < 4 by omega), hix, hI5.dc, hgt]
              rw [if_pos (by omega)]
              rw [drop_cons hlk, mostM] at hmost
              have hdb := hdep.at0 (by omega) (r.w ((rds r)[k]).toNat)
              have next : ¬ (at0 D (r.w ((rds r)[k]).toNat) < 0 ∧ ¬ (r.k = 1 ∧ (rds r)[k] = 2)) → ∀ (al : AL), U τ al 1 = ptr G → U τ al 4 = slc A g.nv.toNat → U τ al 6 = .int .i64 i → U τ al 7 = ptr R → U τ al 8 = v → U τ al 9 = .int .i64 (if m < at0 D (r.w ((rds r)[k]).toNat) then at0 D (r.w ((rds r)[k]).toNat) else m) → U τ al 10 = .int .i64 ((k + 1 : Nat) : Int) →
                  ∃ y, (rds r).length - y < (rds r).length - k ∧ y ≤ (rds r).length ∧ U τ al 1 = ptr G ∧ U τ al 4 = slc A g.nv.toNat ∧ U τ al 6 = .int .i64 i ∧ U τ al 7 = ptr R ∧ U τ al 8 = v ∧ U τ al 10 = .int .i64 (y : Nat) ∧ True ∧ True ∧ ∃ m, U τ al 9 = .int .i64 m ∧ 0 ≤ m ∧ m ≤ i ∧ mostM r D ((rds r).drop y) m = mostM r D (rds r) 0 := fun hc al a1 a4 a6 a7 a8 a9 a10 => by
                rw [if_neg hc] at hmost
                refine ⟨k + 1, by omega, by omega, a1, a4, a6, a7, a8, a10, trivial, trivial, _, a9, ?_, ?_, hmost⟩
                · split <;> omega
                · split <;> omega
              have bad : (at0 D (r.w ((rds r)[k]).toNat) < 0 ∧ ¬ (r.k = 1 ∧ (rds r)[k] = 2)) → orderM g = none := fun hc => by
                rw [if_pos hc] at hmost
                have : orderD g (i + 1) = none := by rw [hon, hstep, ← hmost]; rfl
                unfold orderM
                rw [orderD_none this (by omega)]; rfl
              have hkw : IntKind.i64.wrap ((k : Int) + 1) = ((k + 1 : Nat) : Int) := by rw [wrap_i64 (by omega) (by omega)]; rfl
              have fin : ∀ {A B C : Prop}, (at0 D (r.w ((rds r)[k]).toNat) < 0 → A) → (¬ at0 D (r.w ((rds r)[k]).toNat) < 0 → B) → (if at0 D (r.w ((rds r)[k]).toNat) < 0 then A else B) := fun {A B C} h1 h2 => by
                split
                · exact h1 (by assumption)
                · exact h2 (by assumption)
              refine fin (C := True) (fun hneg => ?_) (fun hneg => ?_)
              · by_cases k1 : r.k = 1
                · rw [if_pos k1]
                  by_cases j2 : (rds r)[k] = 2
                  · rw [if_neg (by simpa using j2)]
                    simp (maxSteps := 10000000) only [max_i64, hkw, wW, reduceCtorEq, Nat.reduceEqDiff]
                    refine next (fun h => h.2 ⟨k1, j2⟩) _ ?_ ?_ ?_ ?_ ?_ ?_ ?_ <;> simp only [U, tset_eq, wW, reduceCtorEq, Nat.reduceEqDiff, t1, t4, t6, t7, t8]
                  · rw [if_pos (by simpa using j2)]
                    exact noR hI5.vc.grew (bad ⟨hneg, fun h => j2 h.2⟩) (by simp only [U, tset_eq, wW, reduceCtorEq, Nat.reduceEqDiff]) (by simp only [U, tset_eq, wW, reduceCtorEq, Nat.reduceEqDiff])
                · rw [if_neg k1]
                  exact noR hI5.vc.grew (bad ⟨hneg, fun h => k1 h.1⟩) (by simp only [U, tset_eq, wW, reduceCtorEq, Nat.reduceEqDiff]) (by simp only [U, tset_eq, wW, reduceCtorEq, Nat.reduceEqDiff])
              · simp (maxSteps := 10000000) only [max_i64, hkw, wW, reduceCtorEq, Nat.reduceEqDiff]
                refine next (fun h => hneg h.1) _ ?_ ?_ ?_ ?_ ?_ ?_ ?_ <;> simp only [U, tset_eq, wW, reduceCtorEq, Nat.reduceEqDiff, t1, t4, t6, t7, t8]
            · obtain rfl : k = (rds r).length := by omega
              simp (maxSteps := 10000000) only [wW, reduceCtorEq, Nat.reduceEqDiff, t8, t10, hV.wlen se_30]
              rw [if_neg (by omega)]
              rw [List.drop_of_length_le (Nat.le_refl _), mostM] at hmost
              have hD1 : orderD g (i + 1) = some (dRow r (rowAt g.rows (i + 1)) m D) := by rw [hon, hstep, ← hmost]; rfl
              have hdep1 : Dep g.nv.toNat ((i + 1 : Nat) : Int) (dRow r (rowAt g.rows (i + 1)) m D) := by
                have := hdep.arith (r := r) (m := m) ⟨by omega, hm1⟩
                unfold dRow
                split
                · exact Dep.nexts this ⟨by omega, hm1⟩ 4
                · exact this
              have last : ∀ (τ' : Tau) (al : AL) (s' : St), U τ' al 1 = ptr G → U τ' al 4 = slc A g.nv.toNat → U τ' al 6 = .int .i64 i → OrdI ro g ur (ent s) G A s' (dRow (rowAt g.rows i) (rowAt g.rows (i + 1)) m D) → ∀ {Q : Ex → WK}, (∀ τ' s', (∃ y, g.rows.length - y < g.rows.length - i ∧ y ≤ g.rows.length ∧ τ' 1 = ptr G ∧ τ' 4 = slc A g.nv.toNat ∧ τ' 6 = .int .i64 (y : Nat) ∧ ([] : List Deferred) = [] ∧ ∃ D, orderD g y = some D ∧ Dep g.nv.toNat y D ∧ OrdI ro g ur (ent s) G A s' D) → Q .normal τ' [] s') →
                  blkX 3 (sX (prims P ro) none 153 k85_1110100 c85_111010011 [1, 1] (lift Q)) .normal τ' al [] s' := fun τ' al s' a1 a4 a6 hI' {Q} hQ => by
                refine ordEnd (by omega) a6 fun τ2 b1 b4 b6 => hQ τ2 s' ⟨i + 1, by omega, by omega, b1.trans a1, b4.trans a4, b6, rfl, _, hD1, hdep1, ?_⟩
                rw [hrr] at hI'
                exact hI'
              have row : ∀ {b : Bool} {τ' : Tau} {Q : Ex → WK}, τ' 100 = .bool b → (b = true ↔ r.k = 1 ∧ r.qo ≠ 0 ∧ at0 D r.w2 < 0) → τ' 1 = ptr G → τ' 4 = slc A g.nv.toNat → τ' 6 = .int .i64 i → τ' 7 = ptr R → τ' 9 = .int .i64 m →
                  (∀ τ' s', (∃ y, g.rows.length - y < g.rows.length - i ∧ y ≤ g.rows.length ∧ τ' 1 = ptr G ∧ τ' 4 = slc A g.nv.toNat ∧ τ' 6 = .int .i64 (y : Nat) ∧ ([] : List Deferred) = [] ∧ ∃ D, orderD g y = some D ∧ Dep g.nv.toNat y D ∧ OrdI ro g ur (ent s) G A s' D) → Q .normal τ' [] s') →
                  xp (prims P ro) none 153 k85_1110100 c85_1110100100111101 [1, 0, 1, 1, 1, 1, 0, 0, 1] τ' [] [] s5 (sX (prims P ro) none 153 k85_1110100 c85_111010010011111 [1, 1, 1, 1, 1, 0, 0, 1] (blkX 3 (sX (prims P ro) none 153 k85_1110100 c85_111010011 [1, 1] (lift Q)))) := fun {b τ' Q} h100 hb a1 a4 a6 a7 a9 hQ => by
                refine ordArith hL hI5 hlt (by rw [hrr]; exact hR5) hRA ⟨hm0, hm1⟩ ((QOk.lift Q).sX.blk 3) a1 a4 a6 a7 a9 h100 (by rw [hrr]; exact hb) fun τ2 al s2 b1 b4 b6 hI2 => last τ2 al s2 b1 b4 b6 hI2 hQ
              simp (maxSteps := 10000000) only [U, tset_eq, wW, reduceCtorEq, Nat.reduceEqDiff, wL, Nat.reduceAdd, t4, t7, hRc]
              by_cases k1 : r.k = 1
              · rw [if_pos k1]
                by_cases kq : r.qo = 0
                · rw [if_neg (by simpa using kq)]
                  refine row (b := false) ?_ ⟨fun h => (by cases h), fun h => absurd kq h.2.1⟩ ?_ ?_ ?_ ?_ ?_ (fun _ _ h => h) <;> simp only [tset_eq, wW, reduceCtorEq, Nat.reduceEqDiff, t1, t4, t6, t7, t9]
                · rw [if_pos kq]
                  have hw2 : 0 ≤ r.w2 ∧ r.w2 < g.nv := by
                    have := hL.reads hlt (j := 2) (by rw [hrr]; exact rds_2 k1 kq)
                    rw [hrr] at this
                    exact this
                  have hix := ixc se_30 isz_3 (A := A) (n := g.nv.toNat) (c := g.nv.toNat) (i := r.w2) hw2.1 (by omega)
                  have hgt := hI5.get hw2.1 hw2.2
                  rw [hix, wopt_some, load1 ap_3, hI5.dc, Option.bind_some, hgt, wopt_some, wop_int, int_lss keq_i64, wopt_some]
                  refine row (b := decide (at0 D r.w2 < 0)) ?_ ⟨fun h => ⟨k1, kq, by simpa using h⟩, fun h => by simpa using h.2.2⟩ ?_ ?_ ?_ ?_ ?_ (fun _ _ h => h) <;> simp only [tset_eq, wW, reduceCtorEq, Nat.reduceEqDiff, t1, t4, t6, t7, t9]
              · rw [if_neg k1]
                refine row (b := false) ?_ ⟨fun h => (by cases h), fun h => absurd h.1 k1⟩ ?_ ?_ ?_ ?_ ?_ (fun _ _ h => h) <;> simp only [tset_eq, wW, reduceCtorEq, Nat.reduceEqDiff, t1, t4, t6, t7, t9]
          · simp only [U, tset_eq, wW, reduceCtorEq, Nat.reduceEqDiff, t1]
          · simp only [U, tset_eq, wW, reduceCtorEq, Nat.reduceEqDiff, t4]
          · simp only [U, tset_eq, wW, reduceCtorEq, Nat.reduceEqDiff, t6]
          · simp only [U, tset_eq, wW, reduceCtorEq, Nat.reduceEqDiff]
          · simp only [U, tset_eq, wW, reduceCtorEq, Nat.reduceEqDiff]
          · simp only [U, tset_eq, wW, reduceCtorEq, Nat.reduceEqDiff]; rfl
          · simp only [U, tset_eq, wW, reduceCtorEq, Nat.reduceEqDiff]
        · simp (maxSteps := 10000000) only [wW, reduceCtorEq, Nat.reduceEqDiff, wL, Nat.reduceAdd, t1, t4, t6, hI.gc, hgl]
          rw [if_neg (by omega)]
          obtain rfl : i = g.rows.length := by omega
          have hgn := hI.vc.grew
          have oM : orderM g = if D.all (fun x => decide (0 ≤ x)) then some D else none := by unfold orderM; rw [hD]; rfl
          have hDl := hI.len
          refine wloop l85_11110100 m85_11110100 (fun (i : Nat) τ ds s2' => i ≤ g.nv.toNat ∧ τ 4 = slc A g.nv.toNat ∧ τ 13 = .int .i64 i ∧ ds = [] ∧ s' = s2' ∧ (D.take i).all (fun x => decide (0 ≤ x)) = true) (fun i => g.nv.toNat - i) ?_ 0 ⟨by omega, ?_, ?_, rfl, rfl, rfl⟩
          · clear t1 t4 t6
            rintro i τ ds s2' ⟨hi, t4, t13, rfl, rfl, hall⟩
            rw [n85_11110100]
            unfold v85_11110100
            simp (maxSteps := 10000000) only [wW, reduceCtorEq, Nat.reduceEqDiff, t4, t13, hlI]
            by_cases hlt : i < g.nv.toNat
            · rw [if_pos (by omega)]
              have hx0 : (0 : Int) ≤ (i : Int) := by omega
              have hx1 : (i : Int) < g.nv := by omega
              have hix := ixc se_30 isz_3 (A := A) (n := g.nv.toNat) (c := g.nv.toNat) (i := (i : Int)) hx0 (by omega)
              have hg := hI.get hx0 hx1
              simp (maxSteps := 10000000) only [wW, reduceCtorEq, Nat.reduceEqDiff, wL, Nat.reduceAdd, hix, hI.dc, hg]
              have hgi : D[i]? = some (at0 D (i : Int)) := by
                have := at0_get (l := D) hx0 (by omega)
                rwa [Int.toNat_natCast] at this
              by_cases hneg : at0 D (i : Int) < 0
              · rw [if_pos hneg]
                refine noR hgn ?_ (by simp only [U, tset_eq, wW, reduceCtorEq, Nat.reduceEqDiff]) (by simp only [U, tset_eq, wW, reduceCtorEq, Nat.reduceEqDiff])
                rw [oM, if_neg]
                rw [List.all_eq_true]
                intro h
                have := h _ (List.mem_of_getElem? hgi)
                simp only [decide_eq_true_eq] at this
                omega
              · rw [if_neg hneg, wrap_i64 (by omega) (by omega)]
                refine ⟨i + 1, by omega, by omega, ?_, ?_, trivial, trivial, ?_⟩
                · simp only [U, tset_eq, wW, reduceCtorEq, Nat.reduceEqDiff, t4]
                · simp only [U, tset_eq, wW, reduceCtorEq, Nat.reduceEqDiff]; rfl
                · rw [take_succ_eq hgi, List.all_append, hall]
                  simp
                  omega
            · obtain rfl : i = g.nv.toNat := by omega
              rw [if_neg (by omega)]
              rw [List.take_of_length_le (by omega)] at hall
              simp (maxSteps := 10000000) only [U, tset_eq, wW, reduceCtorEq, Nat.reduceEqDiff, t4]
              refine wfin_new hw hgn rfl fun s9 hg9 _ hat => h1 D _ s9 ?_ hg9 ?_
              · rw [oM, if_pos hall]
              · refine ⟨some ⟨A, 0, none⟩, g.nv.toNat, by rw [hDl], by simp, ⟨by omega, fun h => (by cases h), fun x hx => (by cases hx; exact .inl rfl)⟩, fun _ => ⟨A, 0, none, _, _, _, rfl, rfl, (hat A).trans hI.vc.here, ?_⟩⟩
                rw [List.drop_zero, List.take_of_length_le (by simp)]
          · simp only [U, tset_eq, wW, reduceCtorEq, Nat.reduceEqDiff, t4]
          · simp only [U, tset_eq, wW, reduceCtorEq, Nat.reduceEqDiff]; rfl
      · simp only [U, tset_eq, wW, reduceCtorEq, Nat.reduceEqDiff, t1]
      · simp only [U, tset_eq, wW, reduceCtorEq, Nat.reduceEqDiff, t4]
      · simp only [U, tset_eq, wW, reduceCtorEq, Nat.reduceEqDiff]; rfl
  · simp only [U, tset_eq, wW, reduceCtorEq, Nat.reduceEqDiff]
  · simp only [U, tset_eq, wW, reduceCtorEq, Nat.reduceEqDiff]
  · simp only [U, tset_eq, wW, reduceCtorEq, Nat.reduceEqDiff]; rfl
end
end Go.VE
/- The reference of the gates: Valid; a run, its rows. -/
namespace Go.VE
open Go Go.Proofs
set_option maxRecDepth 20000
def validM (g : Gp) : Bool := decide (Limits g) && (orderM g).isSome
section
variable {ro : Nat} {K : Value → St → Prop}
theorem wValid (g : Gp) {s : St} {ur : Value} (hw : Wf s) (hro : ro ≤ s.n) (hr : RowsS s ur g.rows) (hlen : g.rows.length < 2 ^ 60) : CallWP P ro 46 [.agg (.mk (g.cells ur))] s K = K (.bool (validM g)) s := by
  refine callEq (call_wp b46 rfl ?_) K
  rw [n46]
  unfold v46
  simp (maxSteps := 10000000) only [wW, reduceCtorEq, Nat.reduceEqDiff]
  refine box_rule hw.ent fun G s1 m1 => ?_
  have e1 := m1.eq
  have n1 := m1.n
  have hn0 : (ent s).n = s.n := rfl
  have hG1 : s1.at G = some (.cells (g.cells ur) 34 false) := m1.here
  have hr1 : RowsS s1 ur g.rows := (Sl.ent hr).grew m1.grew.same
  simp (maxSteps := 10000000) only [wW, reduceCtorEq, Nat.reduceEqDiff, wL, Nat.reduceAdd, acells_some hG1]
  rw [wLimits g m1.wf (by omega) hr1 hlen]
  unfold validM
  by_cases hL : Limits g
  · rw [decide_eq_true hL]
    simp (maxSteps := 10000000) only [wW, reduceCtorEq, Nat.reduceEqDiff, wL, Nat.reduceAdd, acells_some hG1, Bool.true_and]
    refine wOrder g hL m1.wf (by omega) hr1 (fun h => ?_) (fun D v s' h hg _ => ?_)
    · rw [h]
      simp (maxSteps := 10000000) only [wW, reduceCtorEq, Nat.reduceEqDiff, List.getElem?_cons_zero, List.getElem?_cons_succ]
      exact fin_flat rfl m1.grew ⟨rfl, rfl⟩
    · rw [h]
      simp (maxSteps := 10000000) only [wW, reduceCtorEq, Nat.reduceEqDiff, List.getElem?_cons_zero, List.getElem?_cons_succ]
      exact fin_flat rfl (m1.grew.trans hg) ⟨rfl, rfl⟩
  · rw [decide_eq_false hL]
    simp (maxSteps := 10000000) only [wW, reduceCtorEq, Nat.reduceEqDiff]
    exact fin_flat rfl m1.grew ⟨rfl, rfl⟩
end
def atB (l : List Bool) (i : Int) : Bool := (l[i.toNat]?).getD false
def setV (w x : Int) (c : List Int × List Bool) : List Int × List Bool := (c.1.set w.toNat x, c.2.set w.toNat true)
def runA (f : Int) (r : Row) (c : List Int × List Bool) : List Int × List Bool :=
  if r.k = 1 ∧ r.qo ≠ 0 ∧ atB c.2 r.w2 = false then setV r.w2 (fNeg f (fDiv f (sumM f r c.1) r.qo)) c else c
def runN (l : List Int) (nx : Row) (k : Nat) (c : List Int × List Bool) : List Int × List Bool :=
  if atB c.2 (nx.w k) = false then setV (nx.w k) (at0 l k) c else c
def runB (f : Int) (r nx : Row) (c : List Int × List Bool) : List Int × List Bool :=
  if r.k = 3 then it (runN (roundM f r.rd (wv c.1 r)) nx) 4 c else c
def runR (g : Gp) (i : Nat) (c : List Int × List Bool) : List Int × List Bool := runB g.f (rowAt g.rows i) (rowAt g.rows (i + 1)) (runA g.f (rowAt g.rows i) c)
def inp (pub sec : List Int) (i : Nat) : Int := if i < pub.length then at0 pub i else at0 sec ((i : Int) - pub.length)
def runI (pub sec : List Int) (i : Nat) (c : List Int × List Bool) : List Int × List Bool := setV i (inp pub sec i) c
def run0 (g : Gp) : List Int × List Bool := (List.replicate g.nv.toNat 0, List.replicate g.nv.toNat false)
def runV (g : Gp) (pub sec : List Int) : List Int × List Bool := it (runR g) g.rows.length (it (runI pub sec) (g.pub + g.sec).toNat (run0 g))
noncomputable def okM (g : Gp) (vals : List Int) : Nat → Bool
  | 0 => true
  | i + 1 => okM g vals i && holdsR g.f (rowAt g.rows i) (rowAt g.rows (i + 1)) vals
def runOk (g : Gp) (pub sec : List Int) : Prop := validM g = true ∧ (pub.length : Int) = g.pub ∧ (sec.length : Int) = g.sec ∧ below g.f pub = true ∧ below g.f sec = true
structure RunI (ro : Nat) (g : Gp) (ur : Value) (s0 : St) (G A B : Nat) (s : St) (c : List Int × List Bool) : Prop where
  vv : Vc 24 (.int .u64) s0 s A c.1
  vb : Vc 4 .bool s0 s B c.2
  gat : s.at G = some (.cells (g.cells ur) 34 false)
  l1 : c.1.length = g.nv.toNat
  l2 : c.2.length = g.nv.toNat
  w0 : Wf s0
  ro : ro ≤ s0.n
  rows : RowsS s0 ur g.rows
  ga : G ≠ A
  gb : G ≠ B
  ab : A ≠ B
  nn : ∀ x ∈ c.1, 0 ≤ x
section
variable {ro : Nat} {K : Value → St → Prop} {g : Gp} {ur : Value} {s0 : St} {G A B : Nat} {s : St} {c : List Int × List Bool}
theorem RunI.rs (h : RunI ro g ur s0 G A B s c) : RowsS s ur g.rows := Sl.grew h.rows h.vv.grew.same
theorem RunI.gc (h : RunI ro g ur s0 G A B s c) : acells (s.at G) = some (g.cells ur) := acells_some h.gat
theorem RunI.vc (h : RunI ro g ur s0 G A B s c) : acells (s.at A) = some (c.1.map (.int .u64)) := acells_some h.vv.here
theorem RunI.bc (h : RunI ro g ur s0 G A B s c) : acells (s.at B) = some (c.2.map .bool) := acells_some h.vb.here
theorem RunI.getB (h : RunI ro g ur s0 G A B s c) {i : Int} (h0 : 0 ≤ i) (hi : i < g.nv) : (c.2.map Value.bool)[i.toNat]? = some (.bool (atB c.2 i)) := by
  have := h.l2
  unfold atB
  rw [List.getElem?_map, List.getElem?_eq_getElem (by omega)]; rfl
theorem RunI.grew (h : RunI ro g ur s0 G A B s c) {s' : St} (hg : Grew s s') : RunI ro g ur s0 G A B s' c :=
  ⟨⟨(hg.same A (St.at_lt h.vv.here)).trans h.vv.here, h.vv.new, h.vv.wf.grew hg, h.vv.grew.trans hg⟩, ⟨(hg.same B (St.at_lt h.vb.here)).trans h.vb.here, h.vb.new, h.vv.wf.grew hg, h.vv.grew.trans hg⟩, (hg.same G (St.at_lt h.gat)).trans h.gat, h.l1, h.l2, h.w0, h.ro, h.rows, h.ga, h.gb, h.ab, h.nn⟩
theorem RunI.sl (h : RunI ro g ur s0 G A B s c) : U64s s (slc A g.nv.toNat) c.1 :=
  ⟨some ⟨A, 0, none⟩, g.nv.toNat, by rw [h.l1], by simp, ⟨by rw [h.l1]; omega, fun h => (by cases h), fun x hx => (by cases hx; exact .inl rfl)⟩, fun _ => ⟨A, 0, none, _, _, _, rfl, rfl, h.vv.here, by rw [List.drop_zero, List.take_of_length_le (by simp)]⟩⟩
theorem RunI.storeB (h : RunI ro g ur s0 G A B s c) {i : Int} (h0 : 0 ≤ i) (hi : i < g.nv) {ty : TypeId} {K : Value → St → Prop} (hk : ∀ s', RunI ro g ur s0 G A B s' (c.1, c.2.set i.toNat true) → (∀ C, C ≠ B → s'.at C = s.at C) → K undef s') :
    wop P ro (.store 4 (.const (.pointer (some ⟨B, i.toNat, none⟩))) (.const (.bool true))) ty s K := by
  have := h.l2
  exact h.vb.store (mk := Value.bool) (x := true) isz_4 h.w0 h.ro (by omega) rfl fun s' v r _ => hk s' ⟨⟨(r A h.ab).trans h.vv.here, h.vv.new, v.wf, v.grew⟩, v, (r G h.gb).trans h.gat, h.l1, by rw [List.length_set]; exact h.l2, h.w0, h.ro, h.rows, h.ga, h.gb, h.ab, h.nn⟩ r
theorem RunI.storeV (h : RunI ro g ur s0 G A B s c) {i : Int} (h0 : 0 ≤ i) (hi : i < g.nv) {x : Int} (hx : 0 ≤ x) {ty : TypeId} {K : Value → St → Prop} (hk : ∀ s', RunI ro g ur s0 G A B s' (c.1.set i.toNat x, c.2) → (∀ C, C ≠ A → s'.at C = s.at C) → K undef s') :
    wop P ro (.store 24 (.const (.pointer (some ⟨A, i.toNat, none⟩))) (.const (.int .u64 x))) ty s K := by
  have := h.l1
  exact h.vv.store isz_24 h.w0 h.ro (by omega) rfl fun s' v r _ => hk s' ⟨v, ⟨(r B (Ne.symm h.ab)).trans h.vb.here, h.vb.new, v.wf, v.grew⟩, (r G h.ga).trans h.gat, by rw [List.length_set]; exact h.l1, h.l2, h.w0, h.ro, h.rows, h.ga, h.gb, h.ab, nn_set h.nn hx⟩ r
theorem rds_0 {r : Row} (h1 : r.k = 1) (hq : r.ql ≠ 0 ∨ r.qm ≠ 0) : (0 : Int) ∈ rds r := by
  unfold rds
  rw [if_pos h1, if_pos hq]
  simp
theorem rds_1 {r : Row} (h1 : r.k = 1) (hq : r.qr ≠ 0 ∨ r.qm ≠ 0) : (1 : Int) ∈ rds r := by
  unfold rds
  rw [if_pos h1, if_pos hq]
  simp
theorem Limits.fit (h : Limits g) {i : Nat} (hi : i < g.rows.length) (hn : (rowAt g.rows i).Nn) : RowFit g.nv.toNat (rowAt g.rows i) := by
  have hnv := h.nv
  have key : ∀ {j : Int}, j ∈ rds (rowAt g.rows i) → 0 ≤ (rowAt g.rows i).w j.toNat ∧ (rowAt g.rows i).w j.toNat < g.nv.toNat := fun {j} hj => by
    have := h.reads hi hj
    omega
  refine ⟨hn, fun k1 hq => key (rds_0 k1 hq), fun k1 hq => key (rds_1 k1 hq), fun k1 hq => key (rds_2 k1 hq), fun k2 => ?_, fun k3 => ⟨⟨(h.row hi).1.2.1, (h.row hi).1.2.2.1⟩, fun k hk => ?_⟩⟩
  · refine key (j := 0) ?_
    unfold rds
    rw [if_neg (by omega), if_pos k2]
    simp
  · have : ((k : Nat) : Int) ∈ rds (rowAt g.rows i) := by
      unfold rds
      rw [if_neg (by omega), if_neg (by omega), if_pos k3]
      simp
      omega
    have := key this
    rwa [Int.toNat_natCast] at this
end
end Go.VE
/- The reference of the gates: a run's rows. -/
namespace Go.VE
open Go Go.Proofs
set_option maxRecDepth 20000
section
variable {ro : Nat} {K : Value → St → Prop} {g : Gp} {ur : Value} {s0 : St} {G A B : Nat} {s : St} {c : List Int × List Bool}
theorem runEnd {τ : Tau} {al : AL} {ds : List Deferred} {Q : Ex → WK} {i : Nat} (hi : i ≤ 8000) (h12 : U τ al 12 = .int .i64 i)
    (hk : ∀ τ', τ' 3 = U τ al 3 → τ' 9 = U τ al 9 → τ' 10 = U τ al 10 → τ' 12 = .int .i64 ((i + 1 : Nat) : Int) → Q .normal τ' ds s) :
    blkX 3 (sX (prims P ro) none 192 k13_111110100 c13_11111010011 [1, 1] (lift Q)) .normal τ al ds s := by
  rw [blkX_n, sX_n (.lift _), n13_11111010011]
  unfold v13_11111010011
  rw [h12]
  simp (maxSteps := 10000000) only [wW, reduceCtorEq, Nat.reduceEqDiff]
  rw [wrap_i64 (by omega) (by omega)]
  unfold lift
  refine hk _ ?_ ?_ ?_ ?_
  · simp only [U, tset_eq, wW, reduceCtorEq, Nat.reduceEqDiff]
  · simp only [U, tset_eq, wW, reduceCtorEq, Nat.reduceEqDiff]
  · simp only [U, tset_eq, wW, reduceCtorEq, Nat.reduceEqDiff]
  · simp only [U, tset_eq, wW, reduceCtorEq, Nat.reduceEqDiff]; rfl
theorem runNext (hL : Limits g) (hI : RunI ro g ur s0 G A B s c) {i : Nat} (hi : i < g.rows.length) (hfit : RowFit g.nv.toNat (rowAt g.rows i)) {R : Nat} (hR : s.at R = some (.cells (rowAt g.rows i).cells 94 false))
    {τ : Tau} {ds : List Deferred} {Qe : Ex → XK} (h3 : τ 3 = ptr G) (h9 : τ 9 = slc A g.nv.toNat) (h10 : τ 10 = slc B g.nv.toNat) (h12 : τ 12 = .int .i64 i) (h13 : τ 13 = ptr R)
    (hk : ∀ τ' al s', U τ' al 3 = ptr G → U τ' al 9 = slc A g.nv.toNat → U τ' al 10 = slc B g.nv.toNat → U τ' al 12 = .int .i64 i → RunI ro g ur s0 G A B s' (runB g.f (rowAt g.rows i) (rowAt g.rows (i + 1)) c) → Qe .normal τ' al ds s') :
    xp (prims P ro) none 192 k13_111110100 c13_11111010010011 [1, 1, 0, 0, 1] τ [] ds s Qe := by
  have hnv := hL.nv
  have hrl := hL.2.2.2.2.2.2.2.1
  have hv := hL.1
  rw [n13_11111010010011]
  unfold v13_11111010010011
  have hRc : acells (s.at R) = some (rowAt g.rows i).cells := acells_some hR
  rw [h3, h9, h13]
  simp (maxSteps := 10000000) only [wW, reduceCtorEq, Nat.reduceEqDiff, wL, Nat.reduceAdd, hRc]
  unfold runB at hk
  by_cases hk3 : (rowAt g.rows i).k = 3
  · rw [if_pos hk3] at hk ⊢
    have hn := hL.next hi hk3
    have hx := hfit.round hk3
    simp (maxSteps := 10000000) only [wW, reduceCtorEq, Nat.reduceEqDiff, wL, Nat.reduceAdd, hRc, hI.gc]
    have hgn := hI.vv.grew.n
    have hro := hI.ro
    rw [wRnd g.f hv hx.1 hI.vv.wf (by omega) hI.sl hI.nn (fun k hk4 => by have := hx.2 k hk4; have := hI.l1; omega)]
    have hl2 := roundM_len g.f (rowAt g.rows i).rd (wv c.1 (rowAt g.rows i))
    have hn2 := roundM_nn g.f (rowAt g.rows i).rd (wv c.1 (rowAt g.rows i))
    generalize roundM g.f (rowAt g.rows i).rd (wv c.1 (rowAt g.rows i)) = q at hl2 hn2 hk ⊢
    refine alloc_rule ty_58 hI.vv.wf fun S s4 m4 => ?_
    have e4 := m4.eq
    have n4 := m4.n
    refine storeAll_rule isz_58 m4.here (show (u4 q).length = 4 by rw [u4_len]; exact hl2) (by decide) m4.wf (by omega) rfl (u4_one _) fun s5 p5 => ?_
    have hI4 := hI.grew m4.grew
    have hA4 := St.at_lt hI.vv.here
    have hB4 := St.at_lt hI.vb.here
    have hG4 := St.at_lt hI.gat
    have g5 := p5.grew _ hI.w0 hI4.vv.grew (by omega)
    have hI5 : RunI ro g ur s0 G A B s5 c := ⟨⟨(p5.rest A (by omega)).trans hI4.vv.here, hI.vv.new, p5.wf, g5⟩, ⟨(p5.rest B (by omega)).trans hI4.vb.here, hI.vb.new, p5.wf, g5⟩, (p5.rest G (by omega)).trans hI4.gat, hI.l1, hI.l2, hI.w0, hI.ro, hI.rows, hI.ga, hI.gb, hI.ab, hI.nn⟩
    have hSA : S ≠ A := by omega
    have hSB : S ≠ B := by omega
    refine wloop l13_11111010010011101100 m13_11111010010011101100 (fun (k : Nat) τ ds' s' => k ≤ 4 ∧ τ 3 = ptr G ∧ τ 9 = slc A g.nv.toNat ∧ τ 10 = slc B g.nv.toNat ∧ τ 12 = .int .i64 i ∧ τ 14 = ptr S ∧ τ 15 = .int .i64 k ∧ ds = ds' ∧ RunI ro g ur s0 G A B s' (it (runN q (rowAt g.rows (i + 1))) k c) ∧ s'.at S = some (.cells (u4 q) 58 false)) (fun k => 4 - k) ?_ 0 ⟨by omega, ?_, ?_, ?_, ?_, ?_, rfl, rfl, hI5, p5.here⟩
    · clear h3 h9 h10 h12 h13 hI hR hRc hI4 hI5
      rintro k τ ds' s' ⟨hk4', h3, h9, h10, h12, h14, h15, rfl, hI, hS⟩
      rw [n13_11111010010011101100]
      unfold v13_11111010010011101100
      by_cases hk4 : k < 4
      · have hx := hn.2 k hk4
        obtain ⟨A2, o2, c2, y1, y2⟩ := hI.rs.ix (rowAt_get hn.1)
        have hiw : IntKind.i64.wrap ((i : Int) + 1) = ((i + 1 : Nat) : Int) := by rw [wrap_i64 (by omega) (by omega)]; rfl
        have hwk := y2.wire hk4
        have hixA := ixc se_23 isz_24 (A := A) (n := g.nv.toNat) (c := g.nv.toNat) (i := (rowAt g.rows (i + 1)).w k) hx.1 (by omega)
        have hixB := ixc se_97 isz_4 (A := B) (n := g.nv.toNat) (c := g.nv.toNat) (i := (rowAt g.rows (i + 1)).w k) hx.1 (by omega)
        have hgt := hI.getB hx.1 hx.2
        simp (maxSteps := 10000000) only [wW, reduceCtorEq, Nat.reduceEqDiff, wL, Nat.reduceAdd, h3, h9, h10, h12, h14, h15, hI.gc, hiw, y1, y2.blk, wix _ _ hk4, six _ _ hk4, hwk, hixA, hixB, hI.bc, hgt]
        rw [if_pos (by omega)]
        cases hneg : atB (it (runN q (rowAt g.rows (i + 1))) k c).2 ((rowAt g.rows (i + 1)).w k) with
        | false =>
          rw [if_pos rfl]
          refine hI.storeB hx.1 hx.2 fun s2 hI2 r2 => ?_
          have hS2 := (r2 S hSB).trans hS
          rw [acells_some hS2, wopt_some, u4_get (show k < q.length by omega), wopt_some]
          refine hI2.storeV hx.1 hx.2 (at0_nn hn2 _) fun s3 hI3 r3 => ?_
          rw [wrap_i64 (by omega) (by omega)]
          refine ⟨k + 1, by omega, by omega, ?_, ?_, ?_, ?_, ?_, ?_, trivial, ?_, (r3 S hSA).trans hS2⟩
          · simp only [U, tset_eq, wW, reduceCtorEq, Nat.reduceEqDiff, h3]
          · simp only [U, tset_eq, wW, reduceCtorEq, Nat.reduceEqDiff, h9]
          · simp only [U, tset_eq, wW, reduceCtorEq, Nat.reduceEqDiff, h10]
          · simp only [U, tset_eq, wW, reduceCtorEq, Nat.reduceEqDiff, h12]
          · simp only [U, tset_eq, wW, reduceCtorEq, Nat.reduceEqDiff, h14]
          · simp only [U, tset_eq, wW, reduceCtorEq, Nat.reduceEqDiff]; rfl
          · rw [it, runN, if_pos hneg]
            exact hI3
        | true =>
          rw [if_neg (by decide), wrap_i64 (by omega) (by omega)]
          refine ⟨k + 1, by omega, by omega, ?_, ?_, ?_, ?_, ?_, ?_, trivial, ?_, hS⟩
          · simp only [U, tset_eq, wW, reduceCtorEq, Nat.reduceEqDiff, h3]
          · simp only [U, tset_eq, wW, reduceCtorEq, Nat.reduceEqDiff, h9]
          · simp only [U, tset_eq, wW, reduceCtorEq, Nat.reduceEqDiff, h10]
          · simp only [U, tset_eq, wW, reduceCtorEq, Nat.reduceEqDiff, h12]
          · simp only [U, tset_eq, wW, reduceCtorEq, Nat.reduceEqDiff, h14]
          · simp only [U, tset_eq, wW, reduceCtorEq, Nat.reduceEqDiff]; rfl
          · rw [it, runN, if_neg (by rw [hneg]; decide)]
            exact hI
      · obtain rfl : k = 4 := by omega
        simp (maxSteps := 10000000) only [wW, reduceCtorEq, Nat.reduceEqDiff, h15]
        rw [if_neg (by omega)]
        refine hk _ [] _ ?_ ?_ ?_ ?_ hI
        · simp only [U, tset_eq, wW, reduceCtorEq, Nat.reduceEqDiff, h3]
        · simp only [U, tset_eq, wW, reduceCtorEq, Nat.reduceEqDiff, h9]
        · simp only [U, tset_eq, wW, reduceCtorEq, Nat.reduceEqDiff, h10]
        · simp only [U, tset_eq, wW, reduceCtorEq, Nat.reduceEqDiff, h12]
    · simp only [U, tset_eq, wW, reduceCtorEq, Nat.reduceEqDiff, h3]
    · simp only [U, tset_eq, wW, reduceCtorEq, Nat.reduceEqDiff, h9]
    · simp only [U, tset_eq, wW, reduceCtorEq, Nat.reduceEqDiff, h10]
    · simp only [U, tset_eq, wW, reduceCtorEq, Nat.reduceEqDiff, h12]
    · simp only [U, tset_eq, wW, reduceCtorEq, Nat.reduceEqDiff]
  · rw [if_neg hk3] at hk ⊢
    refine hk _ _ _ ?_ ?_ ?_ ?_ hI
    · simp only [U, tset_eq, wW, reduceCtorEq, Nat.reduceEqDiff, h3]
    · simp only [U, tset_eq, wW, reduceCtorEq, Nat.reduceEqDiff, h9]
    · simp only [U, tset_eq, wW, reduceCtorEq, Nat.reduceEqDiff, h10]
    · simp only [U, tset_eq, wW, reduceCtorEq, Nat.reduceEqDiff, h12]
theorem runArith (hL : Limits g) (hI : RunI ro g ur s0 G A B s c) {i : Nat} (hi : i < g.rows.length) (hfit : RowFit g.nv.toNat (rowAt g.rows i)) {R : Nat} (hR : s.at R = some (.cells (rowAt g.rows i).cells 94 false)) (hRA : R ≠ A) (hRB : R ≠ B)
    {τ : Tau} {ds : List Deferred} {Qe : Ex → XK} (hQ : QOk Qe) (h3 : τ 3 = ptr G) (h9 : τ 9 = slc A g.nv.toNat) (h10 : τ 10 = slc B g.nv.toNat) (h12 : τ 12 = .int .i64 i) (h13 : τ 13 = ptr R)
    {b : Bool} (h117 : τ 117 = .bool b) (hb : b = true ↔ (rowAt g.rows i).k = 1 ∧ (rowAt g.rows i).qo ≠ 0 ∧ atB c.2 (rowAt g.rows i).w2 = false)
    (hk : ∀ τ' al s', U τ' al 3 = ptr G → U τ' al 9 = slc A g.nv.toNat → U τ' al 10 = slc B g.nv.toNat → U τ' al 12 = .int .i64 i → RunI ro g ur s0 G A B s' (runR g i c) → Qe .normal τ' al ds s') :
    xp (prims P ro) none 192 k13_111110100 c13_111110100100101 [1, 0, 1, 0, 0, 1] τ [] ds s (sX (prims P ro) none 192 k13_111110100 c13_11111010010011 [1, 1, 0, 0, 1] Qe) := by
  have hnv := hL.nv
  generalize hX : sX (prims P ro) none 192 k13_111110100 c13_11111010010011 [1, 1, 0, 0, 1] Qe = X
  rw [n13_111110100100101]
  unfold v13_111110100100101
  have hRc : acells (s.at R) = some (rowAt g.rows i).cells := acells_some hR
  rw [h117, h3, h9, h10, h13]
  simp (maxSteps := 10000000) only [wW, reduceCtorEq, Nat.reduceEqDiff, wL, Nat.reduceAdd, hRc]
  by_cases hbt : b = true
  · rw [if_pos hbt]
    have hc := hb.1 hbt
    have hw2 := hL.reads hi (rds_2 hc.1 hc.2.1)
    have hw2' : 0 ≤ (rowAt g.rows i).w2 ∧ (rowAt g.rows i).w2 < g.nv := hw2
    have hixA := ixc se_23 isz_24 (A := A) (n := g.nv.toNat) (c := g.nv.toNat) (i := (rowAt g.rows i).w2) hw2'.1 (by omega)
    have hixB := ixc se_97 isz_4 (A := B) (n := g.nv.toNat) (c := g.nv.toNat) (i := (rowAt g.rows i).w2) hw2'.1 (by omega)
    rw [hixB, wopt_some]
    refine hI.storeB hw2'.1 hw2'.2 fun s2 hI2 r2 => ?_
    have hR2 := (r2 R hRB).trans hR
    simp (maxSteps := 10000000) only [wW, reduceCtorEq, Nat.reduceEqDiff, wL, Nat.reduceAdd, acells_some hR2, hI2.gc]
    refine ⟨by simp [veq], by simp [veq], by simp [veq], by simp [veq], rcVeq _, by simp [veq], ?_⟩
    have hgn := hI2.vv.grew.n
    have hro := hI.ro
    have hl1 := hI.l1
    rw [wSum g.f hfit.nn hI2.vv.wf (by omega) hI2.sl hI2.nn (fun hq => by have := hfit.a hc.1 hq; rw [hI2.l1]; exact this) (fun hq => by have := hfit.b hc.1 hq; rw [hI2.l1]; exact this)]
    refine ⟨.refl _, ?_⟩
    have hs0 : 0 ≤ sumM g.f (rowAt g.rows i) c.1 := (fAdd_bounds _ _ _).1
    rw [wrDiv g.f hs0 hfit.nn.qo]
    refine ⟨.refl _, ?_⟩
    have hd0 : 0 ≤ fDiv g.f (sumM g.f (rowAt g.rows i) c.1) (rowAt g.rows i).qo := (fMul_bounds _ _ _).1
    rw [wrNeg g.f hd0]
    refine ⟨.refl _, ?_⟩
    have hn0 : 0 ≤ fNeg g.f (fDiv g.f (sumM g.f (rowAt g.rows i) c.1) (rowAt g.rows i).qo) := (fSub_bounds _ _ _).1
    rw [hixA, wopt_some]
    refine hI2.storeV hw2'.1 hw2'.2 hn0 fun s3 hI3 r3 => ?_
    rw [← hX, sX_n hQ]
    have e : runA g.f (rowAt g.rows i) c = setV (rowAt g.rows i).w2 (fNeg g.f (fDiv g.f (sumM g.f (rowAt g.rows i) c.1) (rowAt g.rows i).qo)) c := by unfold runA; rw [if_pos hc]
    have hI3' : RunI ro g ur s0 G A B s3 (runA g.f (rowAt g.rows i) c) := by rw [e]; exact hI3
    refine runNext hL hI3' hi hfit ((r3 R hRA).trans hR2) ?_ ?_ ?_ ?_ ?_ hk
    · simp only [U, tset_eq, wW, reduceCtorEq, Nat.reduceEqDiff, h3]
    · simp only [U, tset_eq, wW, reduceCtorEq, Nat.reduceEqDiff, h9]
    · simp only [U, tset_eq, wW, reduceCtorEq, Nat.reduceEqDiff, h10]
    · simp only [U, tset_eq, wW, reduceCtorEq, Nat.reduceEqDiff, h12]
    · simp only [U, tset_eq, wW, reduceCtorEq, Nat.reduceEqDiff, h13]
  · rw [if_neg hbt]
    have hc := fun h => hbt (hb.2 h)
    rw [← hX, sX_n hQ]
    have e : runA g.f (rowAt g.rows i) c = c := by unfold runA; rw [if_neg hc]
    have hI3' : RunI ro g ur s0 G A B s (runA g.f (rowAt g.rows i) c) := by rw [e]; exact hI
    refine runNext hL hI3' hi hfit hR ?_ ?_ ?_ ?_ ?_ hk
    · simp only [U, tset_eq, wW, reduceCtorEq, Nat.reduceEqDiff, h3]
    · simp only [U, tset_eq, wW, reduceCtorEq, Nat.reduceEqDiff, h9]
    · simp only [U, tset_eq, wW, reduceCtorEq, Nat.reduceEqDiff, h10]
    · simp only [U, tset_eq, wW, reduceCtorEq, Nat.reduceEqDiff, h12]
    · simp only [U, tset_eq, wW, reduceCtorEq, Nat.reduceEqDiff, h13]
end
end Go.VE
/- The reference of the gates: Run. -/
namespace Go.VE
open Go Go.Proofs
set_option maxRecDepth 20000
section
variable {ro : Nat} {K : Value → St → Prop}
theorem inp_nn {pub sec : List Int} (hp : ∀ x ∈ pub, 0 ≤ x) (hs : ∀ x ∈ sec, 0 ≤ x) (i : Nat) : 0 ≤ inp pub sec i := by
  unfold inp
  split
  · exact at0_nn hp _
  · exact at0_nn hs _
theorem wRun (g : Gp) (hnn : ∀ r ∈ g.rows, r.Nn) {s : St} {ur pv sv : Value} {pub sec : List Int} (hw : Wf s) (hro : ro ≤ s.n) (hr : RowsS s ur g.rows) (hlen : g.rows.length < 2 ^ 60) (hp : U64s s pv pub) (hs : U64s s sv sec) (hpn : ∀ x ∈ pub, 0 ≤ x) (hsn : ∀ x ∈ sec, 0 ≤ x) (hpl : pub.length < 2 ^ 60) (hsl : sec.length < 2 ^ 60)
    (h0 : ¬ runOk g pub sec → K (.tuple (.mk [.slice none 0 0, .bool false, .int .i64 1])) s)
    (h1 : runOk g pub sec → ∀ v s', Grew s s' → U64s s' v (runV g pub sec).1 → K (.tuple (.mk [v, .bool (okM g (runV g pub sec).1 g.rows.length), .int .i64 0])) s') :
    CallWP P ro 13 [.agg (.mk (g.cells ur)), pv, sv] s K := by
  refine call_wp b13 rfl ?_
  rw [n13]
  unfold v13
  simp (maxSteps := 10000000) only [wW, reduceCtorEq, Nat.reduceEqDiff]
  refine box_rule hw.ent fun G s1 m1 => ?_
  have e1 := m1.eq
  have n1 := m1.n
  have hn0 : (ent s).n = s.n := rfl
  have hG1 : s1.at G = some (.cells (g.cells ur) 34 false) := m1.here
  have hG := acells_some hG1
  have hr1 : RowsS s1 ur g.rows := (Sl.ent hr).grew m1.grew.same
  have hp1 : U64s s1 pv pub := (Sl.ent hp).grew m1.grew.same
  have hs1 : U64s s1 sv sec := (Sl.ent hs).grew m1.grew.same
  have no : ¬ runOk g pub sec → wfin s K (.tuple (.mk [.slice none 0 0, .bool false, .int .i64 1])) s1 := fun hf => fin_flat rfl m1.grew (h0 hf)
  simp (maxSteps := 10000000) only [wW, reduceCtorEq, Nat.reduceEqDiff, wL, Nat.reduceAdd, hG]
  rw [wValid g m1.wf (by omega) hr1 hlen]
  simp (maxSteps := 10000000) only [wW, reduceCtorEq, Nat.reduceEqDiff, wL, Nat.reduceAdd, hG, hp1.wlen se_23, hs1.wlen se_23, wBelow g.f hp1 (by omega), wBelow g.f hs1 (by omega)]
  by_cases c1 : validM g = true
  · rw [if_neg (by simp [c1])]
    by_cases c2 : (pub.length : Int) = g.pub
    · rw [if_neg (by simpa using c2)]
      by_cases c3 : (sec.length : Int) = g.sec
      · rw [if_neg (by simpa using c3)]
        by_cases c4 : below g.f pub = true
        · rw [if_neg (by simp [c4])]
          by_cases c5 : below g.f sec = true
          · rw [if_neg (by simp [c5])]
            have hOk : runOk g pub sec := ⟨c1, c2, c3, c4, c5⟩
            have hL : Limits g := by
              unfold validM at c1
              simp only [Bool.and_eq_true, decide_eq_true_eq] at c1
              exact c1.1
            have hnv := hL.nv
            have hrl := hL.2.2.2.2.2.2.2.1
            have hps := hL.2.1
            have hps2 := hL.2.2.1
            have hps3 := hL.2.2.2.1
            have hps4 := hL.2.2.2.2.1
            have hps5 := hL.2.2.2.2.2.1
            refine make_rule (mk := Value.int .u64) (x := 0) se_23 ty_24 rfl m1.wf hnv.1 (by omega) (by decide) fun A s2 m2 => ?_
            have e2 := m2.eq
            have n2 := m2.n
            have hG2 := (m2.grew.same G (by omega)).trans hG1
            rw [acells_some hG2, wopt_some, gc1, wopt_some]
            refine make_rule (mk := Value.bool) (x := false) se_97 ty_4 rfl m2.wf hnv.1 (by omega) (by decide) fun B s3 m3 => ?_
            have e3 := m3.eq
            have n3 := m3.n
            have g3 := (m1.grew.trans m2.grew).trans m3.grew
            have hI0 : RunI ro g ur (ent s) G A B s3 (run0 g) := ⟨⟨(m3.grew.same A (by omega)).trans m2.here, by omega, m3.wf, g3⟩, ⟨m3.here, by omega, m3.wf, g3⟩, (m3.grew.same G (by omega)).trans hG2, by simp [run0], by simp [run0], hw.ent, hro, Sl.ent hr, by omega, by omega, by omega, fun x hx => by
              have : x = 0 := List.eq_of_mem_replicate hx
              omega⟩
            have hpsn : ((g.pub + g.sec).toNat : Int) = g.pub + g.sec := by omega
            refine wloop l13_11110100 m13_11110100 (fun (i : Nat) τ ds s' => i ≤ (g.pub + g.sec).toNat ∧ τ 1 = pv ∧ τ 2 = sv ∧ τ 3 = ptr G ∧ τ 9 = slc A g.nv.toNat ∧ τ 10 = slc B g.nv.toNat ∧ τ 11 = .int .i64 i ∧ ds = [] ∧ RunI ro g ur (ent s) G A B s' (it (runI pub sec) i (run0 g))) (fun i => (g.pub + g.sec).toNat - i) ?_ 0 ⟨by omega, ?_, ?_, ?_, ?_, ?_, ?_, rfl, hI0⟩
            · clear hI0
              rintro i τ ds s' ⟨hi, t1, t2, t3, t9, t10, t11, rfl, hI⟩
              rw [n13_11110100]
              unfold v13_11110100
              simp (maxSteps := 10000000) only [wW, reduceCtorEq, Nat.reduceEqDiff, wL, Nat.reduceAdd, t3, t11, hI.gc]
              rw [wrap_i64 (n := g.pub + g.sec) (by omega) (by omega)]
              by_cases hlt : i < (g.pub + g.sec).toNat
              · rw [if_pos (by omega)]
                have hx0 : (0 : Int) ≤ (i : Int) := by omega
                have hx1 : (i : Int) < g.nv := by omega
                have hixA := ixc se_23 isz_24 (A := A) (n := g.nv.toNat) (c := g.nv.toNat) (i := (i : Int)) hx0 (by omega)
                have hixB := ixc se_97 isz_4 (A := B) (n := g.nv.toNat) (c := g.nv.toNat) (i := (i : Int)) hx0 (by omega)
                simp (maxSteps := 10000000) only [wW, reduceCtorEq, Nat.reduceEqDiff, wL, Nat.reduceAdd, t10, t11, hixB]
                refine hI.storeB hx0 hx1 fun s4 hI4 r4 => ?_
                simp (maxSteps := 10000000) only [wW, reduceCtorEq, Nat.reduceEqDiff, wL, Nat.reduceAdd, t1, t2, t3, t9, t11, hI4.gc, hixA]
                have hIs := fun (x : Int) (s5 : St) (h : RunI ro g ur (ent s) G A B s5 ((it (runI pub sec) i (run0 g)).1.set (i : Int).toNat x, (it (runI pub sec) i (run0 g)).2.set (i : Int).toNat true)) => h
                have hinn := inp_nn hpn hsn i
                by_cases hip : (i : Int) < g.pub
                · rw [if_pos hip]
                  have hin : inp pub sec i = at0 pub i := by unfold inp; rw [if_pos (by omega)]
                  obtain ⟨A5, o5, c5, z1, z2, z3⟩ := U64s.at1 (s := s4) ((Sl.ent hp).grew hI4.vv.grew.same) hx0 (at0_get hx0 (by omega))
                  rw [← hin] at z3
                  simp (maxSteps := 10000000) only [wW, reduceCtorEq, Nat.reduceEqDiff, wL, Nat.reduceAdd, z1, z2, z3, hixA]
                  refine hI4.storeV hx0 hx1 hinn fun s5 hI5 _ => ?_
                  rw [wrap_i64 (by omega) (by omega)]
                  refine ⟨i + 1, by omega, by omega, ?_, ?_, ?_, ?_, ?_, ?_, trivial, hI5⟩
                  · simp only [U, tset_eq, wW, reduceCtorEq, Nat.reduceEqDiff, t1]
                  · simp only [U, tset_eq, wW, reduceCtorEq, Nat.reduceEqDiff, t2]
                  · simp only [U, tset_eq, wW, reduceCtorEq, Nat.reduceEqDiff, t3]
                  · simp only [U, tset_eq, wW, reduceCtorEq, Nat.reduceEqDiff, t9]
                  · simp only [U, tset_eq, wW, reduceCtorEq, Nat.reduceEqDiff, t10]
                  · simp only [U, tset_eq, wW, reduceCtorEq, Nat.reduceEqDiff]; rfl
                · rw [if_neg hip, wrap_i64 (n := (i : Int) - g.pub) (by omega) (by omega)]
                  have hin : inp pub sec i = at0 sec ((i : Int) - g.pub) := by unfold inp; rw [if_neg (by omega), c2]
                  obtain ⟨A5, o5, c5, z1, z2, z3⟩ := U64s.at1 (s := s4) (i := (i : Int) - g.pub) ((Sl.ent hs).grew hI4.vv.grew.same) (by omega) (at0_get (by omega) (by omega))
                  rw [← hin] at z3
                  simp (maxSteps := 10000000) only [wW, reduceCtorEq, Nat.reduceEqDiff, wL, Nat.reduceAdd, z1, z2, z3, hixA]
                  refine hI4.storeV hx0 hx1 hinn fun s5 hI5 _ => ?_
                  rw [wrap_i64 (by omega) (by omega)]
                  refine ⟨i + 1, by omega, by omega, ?_, ?_, ?_, ?_, ?_, ?_, trivial, hI5⟩
                  · simp only [U, tset_eq, wW, reduceCtorEq, Nat.reduceEqDiff, t1]
                  · simp only [U, tset_eq, wW, reduceCtorEq, Nat.reduceEqDiff, t2]
                  · simp only [U, tset_eq, wW, reduceCtorEq, Nat.reduceEqDiff, t3]
                  · simp only [U, tset_eq, wW, reduceCtorEq, Nat.reduceEqDiff, t9]
                  · simp only [U, tset_eq, wW, reduceCtorEq, Nat.reduceEqDiff, t10]
                  · simp only [U, tset_eq, wW, reduceCtorEq, Nat.reduceEqDiff]; rfl
              · obtain rfl : i = (g.pub + g.sec).toNat := by omega
                rw [if_neg (by omega)]
                refine wloop l13_111110100 m13_111110100 (fun (i : Nat) τ ds s' => i ≤ g.rows.length ∧ τ 3 = ptr G ∧ τ 9 = slc A g.nv.toNat ∧ τ 10 = slc B g.nv.toNat ∧ τ 12 = .int .i64 i ∧ ds = [] ∧ RunI ro g ur (ent s) G A B s' (it (runR g) i (it (runI pub sec) (g.pub + g.sec).toNat (run0 g)))) (fun i => g.rows.length - i) ?_ 0 ⟨by omega, ?_, ?_, ?_, ?_, rfl, hI⟩
                · clear hI t1 t2 t3 t9 t10 t11
                  rintro i τ ds s' ⟨hi, t3, t9, t10, t12, rfl, hI⟩
                  have hgl : ∀ s' K, wop P ro (.call ⟨.builtin .len, ⟨[.const ur]⟩, #[32]⟩) 3 s' K = K (.int .i64 (g.rows.length : Nat)) s' := fun s' K => Sl.wlen hr se_32 _ K
                  rw [n13_111110100]
                  unfold v13_111110100
                  by_cases hlt : i < g.rows.length
                  · obtain ⟨A5, o5, c5, q1, q2⟩ := hI.rs.ix (rowAt_get hlt)
                    simp (maxSteps := 10000000) only [wW, reduceCtorEq, Nat.reduceEqDiff, wL, Nat.reduceAdd, t3, t12, hI.gc, hgl, q1, q2.blk, q2.all]
                    rw [if_pos (by omega)]
                    refine alloc_rule ty_94 hI.vv.wf fun R s4 m4 => ?_
                    have e4 := m4.eq
                    have n4 := m4.n
                    have gn := hI.vv.grew.n
                    have hI4 := hI.grew m4.grew
                    have hA4 := St.at_lt hI.vv.here
                    have hB4 := St.at_lt hI.vb.here
                    have hG4 := St.at_lt hI.gat
                    refine storeAll_rule isz_94 m4.here (l := (rowAt g.rows i).cells) rfl (by decide) m4.wf (by omega) rfl rfl fun s5 p5 => ?_
                    have g5 := p5.grew _ hI.w0 hI4.vv.grew (by omega)
                    have hI5 : RunI ro g ur (ent s) G A B s5 (it (runR g) i (it (runI pub sec) (g.pub + g.sec).toNat (run0 g))) := ⟨⟨(p5.rest A (by omega)).trans hI4.vv.here, hI.vv.new, p5.wf, g5⟩, ⟨(p5.rest B (by omega)).trans hI4.vb.here, hI.vb.new, p5.wf, g5⟩, (p5.rest G (by omega)).trans hI4.gat, hI.l1, hI.l2, hI.w0, hI.ro, hI.rows, hI.ga, hI.gb, hI.ab, hI.nn⟩
                    have hR5 : s5.at R = some (.cells (rowAt g.rows i).cells 94 false) := p5.here
                    have hRc := acells_some hR5
                    have hRA : R ≠ A := by omega
                    have hRB : R ≠ B := by omega
                    have hfit := hL.fit hlt (hnn _ (List.mem_of_getElem? (rowAt_get hlt)))
                    generalize hc : it (runR g) i (it (runI pub sec) (g.pub + g.sec).toNat (run0 g)) = c at hI5
                    have row : ∀ {b : Bool} {τ' : Tau} {Q : Ex → WK}, τ' 117 = .bool b → (b = true ↔ (rowAt g.rows i).k = 1 ∧ (rowAt g.rows i).qo ≠ 0 ∧ atB c.2 (rowAt g.rows i).w2 = false) → τ' 3 = ptr G → τ' 9 = slc A g.nv.toNat → τ' 10 = slc B g.nv.toNat → τ' 12 = .int .i64 i → τ' 13 = ptr R →
                        (∀ τ' s', (∃ y, g.rows.length - y < g.rows.length - i ∧ y ≤ g.rows.length ∧ τ' 3 = ptr G ∧ τ' 9 = slc A g.nv.toNat ∧ τ' 10 = slc B g.nv.toNat ∧ τ' 12 = .int .i64 (y : Nat) ∧ ([] : List Deferred) = [] ∧ RunI ro g ur (ent s) G A B s' (it (runR g) y (it (runI pub sec) (g.pub + g.sec).toNat (run0 g)))) → Q .normal τ' [] s') →
                        xp (prims P ro) none 192 k13_111110100 c13_111110100100101 [1, 0, 1, 0, 0, 1] τ' [] [] s5 (sX (prims P ro) none 192 k13_111110100 c13_11111010010011 [1, 1, 0, 0, 1] (blkX 3 (sX (prims P ro) none 192 k13_111110100 c13_11111010011 [1, 1] (lift Q)))) := fun {b τ' Q} h117 hb a3 a9 a10 a12 a13 hQ => by
                      refine runArith hL hI5 hlt hfit hR5 hRA hRB ((QOk.lift Q).sX.blk 3) a3 a9 a10 a12 a13 h117 hb fun τ2 al s2 b3 b9 b10 b12 hI2 => ?_
                      refine runEnd (by omega) b12 fun τ3 d3 d9 d10 d12 => hQ τ3 s2 ⟨i + 1, by omega, by omega, d3.trans b3, d9.trans b9, d10.trans b10, d12, rfl, ?_⟩
                      rw [it, hc]
                      exact hI2
                    simp (maxSteps := 10000000) only [U, tset_eq, wW, reduceCtorEq, Nat.reduceEqDiff, wL, Nat.reduceAdd, hRc, t10]
                    by_cases k1 : (rowAt g.rows i).k = 1
                    · rw [if_pos k1]
                      by_cases kq : (rowAt g.rows i).qo = 0
                      · rw [if_neg (by simpa using kq)]
                        refine row (b := false) ?_ ⟨fun h => (by cases h), fun h => absurd kq h.2.1⟩ ?_ ?_ ?_ ?_ ?_ (fun _ _ h => h) <;> simp only [tset_eq, wW, reduceCtorEq, Nat.reduceEqDiff, t3, t9, t10, t12]
                      · rw [if_pos kq]
                        have hw2 : 0 ≤ (rowAt g.rows i).w2 ∧ (rowAt g.rows i).w2 < g.nv := hL.reads hlt (j := 2) (rds_2 k1 kq)
                        have hixB := ixc se_97 isz_4 (A := B) (n := g.nv.toNat) (c := g.nv.toNat) (i := (rowAt g.rows i).w2) hw2.1 (by omega)
                        have hgt := hI5.getB hw2.1 hw2.2
                        rw [hixB, wopt_some, load1 ap_4, hI5.bc, Option.bind_some, hgt, wopt_some, wop_not]
                        refine row (b := !(atB c.2 (rowAt g.rows i).w2)) ?_ ⟨fun h => ⟨k1, kq, by simpa using h⟩, fun h => by simpa using h.2.2⟩ ?_ ?_ ?_ ?_ ?_ (fun _ _ h => h) <;> simp only [tset_eq, wW, reduceCtorEq, Nat.reduceEqDiff, t3, t9, t10, t12]
                    · rw [if_neg k1]
                      refine row (b := false) ?_ ⟨fun h => (by cases h), fun h => absurd h.1 k1⟩ ?_ ?_ ?_ ?_ ?_ (fun _ _ h => h) <;> simp only [tset_eq, wW, reduceCtorEq, Nat.reduceEqDiff, t3, t9, t10, t12]
                  · obtain rfl : i = g.rows.length := by omega
                    simp (maxSteps := 10000000) only [wW, reduceCtorEq, Nat.reduceEqDiff, wL, Nat.reduceAdd, t3, t12, hI.gc, hgl]
                    rw [if_neg (by omega)]
                    have hV : it (runR g) g.rows.length (it (runI pub sec) (g.pub + g.sec).toNat (run0 g)) = runV g pub sec := rfl
                    rw [hV] at hI
                    have h1' := h1 hOk
                    generalize runV g pub sec = c at hI h1'
                    refine wloop l13_11111110100 m13_11111110100 (fun (i : Nat) τ ds s2' => i ≤ g.rows.length ∧ τ 3 = ptr G ∧ τ 9 = slc A g.nv.toNat ∧ τ 17 = .bool (okM g c.1 i) ∧ τ 18 = .int .i64 i ∧ ds = [] ∧ s' = s2') (fun i => g.rows.length - i) ?_ 0 ⟨by omega, ?_, ?_, ?_, ?_, rfl, rfl⟩
                    · clear t3 t9 t10 t12
                      rintro i τ ds s2' ⟨hi, t3, t9, t17, t18, rfl, rfl⟩
                      rw [n13_11111110100]
                      unfold v13_11111110100
                      simp (maxSteps := 10000000) only [wW, reduceCtorEq, Nat.reduceEqDiff, wL, Nat.reduceAdd, t3, t9, t17, t18, hI.gc, hgl]
                      by_cases hlt : i < g.rows.length
                      · rw [if_pos (by omega)]
                        have hl1 := hI.l1
                        have hfit := hL.fit hlt (hnn _ (List.mem_of_getElem? (rowAt_get hlt)))
                        cases hok : okM g c.1 i with
                        | true =>
                          rw [if_pos rfl, wHolds g hL.1 hI.vv.wf (by have := hI.vv.grew.n; omega) hI.rs hI.sl hI.nn (rowAt_get hlt) hlen (by rw [hl1]; exact hfit) (fun h3 => ⟨(hL.next hlt h3).1, fun k hk4 => by have := (hL.next hlt h3).2 k hk4; rw [nxt_eq]; omega⟩)]
                          simp (maxSteps := 10000000) only [wW, reduceCtorEq, Nat.reduceEqDiff]
                          rw [wrap_i64 (by omega) (by omega)]
                          refine ⟨i + 1, by omega, by omega, ?_, ?_, ?_, ?_, trivial, trivial⟩
                          · simp only [U, tset_eq, wW, reduceCtorEq, Nat.reduceEqDiff, t3]
                          · simp only [U, tset_eq, wW, reduceCtorEq, Nat.reduceEqDiff, t9]
                          · simp only [U, tset_eq, wW, reduceCtorEq, Nat.reduceEqDiff]
                            rw [okM, hok, Bool.true_and, nxt_eq]
                          · simp only [U, tset_eq, wW, reduceCtorEq, Nat.reduceEqDiff]; rfl
                        | false =>
                          rw [if_neg (by decide), wrap_i64 (by omega) (by omega)]
                          refine ⟨i + 1, by omega, by omega, ?_, ?_, ?_, ?_, trivial, trivial⟩
                          · simp only [U, tset_eq, wW, reduceCtorEq, Nat.reduceEqDiff, t3]
                          · simp only [U, tset_eq, wW, reduceCtorEq, Nat.reduceEqDiff, t9]
                          · simp only [U, tset_eq, wW, reduceCtorEq, Nat.reduceEqDiff]
                            rw [okM, hok, Bool.false_and]
                          · simp only [U, tset_eq, wW, reduceCtorEq, Nat.reduceEqDiff]; rfl
                      · obtain rfl : i = g.rows.length := by omega
                        rw [if_neg (by omega)]
                        simp (maxSteps := 10000000) only [U, tset_eq, wW, reduceCtorEq, Nat.reduceEqDiff, t9, t17]
                        exact wfin_new hw hI.vv.grew rfl fun s9 hg9 _ hat => h1' _ s9 hg9 (Sl.sameAt hI.sl fun C o sp n cc e => hat C)
                    · simp only [U, tset_eq, wW, reduceCtorEq, Nat.reduceEqDiff, t3]
                    · simp only [U, tset_eq, wW, reduceCtorEq, Nat.reduceEqDiff, t9]
                    · simp only [U, tset_eq, wW, reduceCtorEq, Nat.reduceEqDiff]; rfl
                    · simp only [U, tset_eq, wW, reduceCtorEq, Nat.reduceEqDiff]; rfl
                · simp only [U, tset_eq, wW, reduceCtorEq, Nat.reduceEqDiff, t3]
                · simp only [U, tset_eq, wW, reduceCtorEq, Nat.reduceEqDiff, t9]
                · simp only [U, tset_eq, wW, reduceCtorEq, Nat.reduceEqDiff, t10]
                · simp only [U, tset_eq, wW, reduceCtorEq, Nat.reduceEqDiff]; rfl
            · simp only [U, tset_eq, wW, reduceCtorEq, Nat.reduceEqDiff]
            · simp only [U, tset_eq, wW, reduceCtorEq, Nat.reduceEqDiff]
            · simp only [U, tset_eq, wW, reduceCtorEq, Nat.reduceEqDiff]
            · simp only [U, tset_eq, wW, reduceCtorEq, Nat.reduceEqDiff]
            · simp only [U, tset_eq, wW, reduceCtorEq, Nat.reduceEqDiff]
            · simp only [U, tset_eq, wW, reduceCtorEq, Nat.reduceEqDiff]; rfl
          · rw [if_pos (by simpa using c5)]
            exact no fun h => c5 h.2.2.2.2
        · rw [if_pos (by simpa using c4)]
          exact no fun h => c4 h.2.2.2.1
      · rw [if_pos (by simpa using c3)]
        exact no fun h => c3 h.2.2.1
    · rw [if_pos (by simpa using c2)]
      exact no fun h => c2 h.2.1
  · rw [if_pos (by simpa using c1)]
    exact no fun h => c1 h.1
end
end Go.VE
/- A range over a function: slices.Backward. -/
namespace Go.VE
open Go Go.Proofs
set_option maxRecDepth 20000
structure Lc (s : St) (B : Nat) (oA : Option Nat) (A : Nat) (o : AO) : Prop where
  here : s.at A = some o
  ne : A ≠ B
  own : oA ≠ some A
theorem Lc.lt {s : St} {B : Nat} {oA : Option Nat} {A : Nat} {o : AO} (h : Lc s B oA A o) : A < s.n := St.at_lt h.here
theorem Lc.mut {s s' : St} {B : Nat} {oA oA' : Option Nat} {A : Nat} {o : AO} (h : Lc s B oA A o) (m : Mut s B oA s' oA') : Lc s' B oA' A o :=
  ⟨(m.same A h.lt h.ne h.own).trans h.here, h.ne, m.own_ne h.lt h.own⟩
theorem Lc.put {s s' : St} {B : Nat} {oA : Option Nat} {A C : Nat} {o o' : AO} (h : Lc s B oA A o) (p : Put s C o' s') (hne : A ≠ C) : Lc s' B oA A o := ⟨(p.rest A hne).trans h.here, h.ne, h.own⟩
theorem Lc.grew {s s' : St} {B : Nat} {oA : Option Nat} {A : Nat} {o : AO} (h : Lc s B oA A o) (g : Grew s s') : Lc s' B oA A o := ⟨(g.same A h.lt).trans h.here, h.ne, h.own⟩
theorem Lc.lo {s : St} {B : Nat} {oA : Option Nat} {A : Nat} {o : AO} {k : Nat} (h : Lc s B oA A o) : Lc { s with lo := k } B oA A o := ⟨h.here, h.ne, h.own⟩
theorem Lc.ent {s : St} {B : Nat} {oA : Option Nat} {A : Nat} {o : AO} (h : Lc s B oA A o) : Lc (Go.VE.ent s) B oA A o := ⟨h.here, h.ne, h.own⟩
def OffS (B : Nat) (oA : Option Nat) (n : Nat) (u : Value) : Prop := ∀ A o sp k c, u = .slice (some ⟨A, o, sp⟩) k c → A < n ∧ A ≠ B ∧ oA ≠ some A
theorem OffS.mut {s s' : St} {B : Nat} {oA oA' : Option Nat} {u : Value} {n : Nat} (h : OffS B oA n u) (hn : n ≤ s.n) (m : Mut s B oA s' oA') : OffS B oA' n u := fun A o sp k c e =>
  ⟨(h A o sp k c e).1, (h A o sp k c e).2.1, m.own_ne (by have := (h A o sp k c e).1; omega) (h A o sp k c e).2.2⟩
theorem OffS.sl {s s' : St} {B : Nat} {oA oA' : Option Nat} {u : Value} {n : Nat} (h : OffS B oA n u) (hn : n ≤ s.n) (m : Mut s B oA s' oA') {sz k : Nat} {cs : List Value} (hs : Sl s u sz k cs) : Sl s' u sz k cs :=
  hs.sameAt fun A o sp k c e => m.same A (by have := (h A o sp k c e).1; omega) (h A o sp k c e).2.1 (h A o sp k c e).2.2
theorem OffS.slPut {s s' : St} {B C : Nat} {oA : Option Nat} {u : Value} {n : Nat} {o : AO} (h : OffS B oA n u) (hn : n ≤ C) (p : Put s C o s') {sz k : Nat} {cs : List Value} (hs : Sl s u sz k cs) : Sl s' u sz k cs :=
  hs.sameAt fun A o sp k c e => p.rest A (by have := (h A o sp k c e).1; omega)
section
variable {ro : Nat} {K : Value → St → Prop}
theorem wYield {L : Nat} {r : Lp} {s : St} {K : Value → St → Prop} {args : List Value} (hL : s.at L = some (.loop r)) (hlen : r.params.length = args.length) (h : RoundWP P ro L (setAll r.t r.params args) r.assign r.body s K) :
    xcallv (prims P ro) (.func (.yield L) (.mk []) (.mk [])) args s K := by
  rw [xcallv_eq]
  show wfol P ro K (ayield s L args (s.at L))
  rw [hL]
  simp only [ayield, hlen, Nat.beq_refl, cond_true]
  exact h
theorem wBackward {L C : Nat} {u : Value} {l : List Int} {s : St} (r0 : Lp) (Inv : Nat → St → Prop) (hlen : r0.params.length = 2)
    (hloop : ∀ i s, Inv i s → s.at L = some (.loop r0)) (hC : ∀ i s, Inv i s → ∃ T o, s.at C = some (.cells [u] T o)) (hI : ∀ i s, Inv i s → Ints s u l) (hl : l.length < 2 ^ 60)
    (hLs : L < s.n)
    (hround : ∀ i s' (hi : i < l.length), Inv i s' → RoundWP P ro L (setAll r0.t r0.params [.int .i64 ((l.length - 1 - i : Nat) : Int), .int .i64 (l[l.length - 1 - i])]) r0.assign r0.body s' fun v s2 => v = .bool true ∧ s2.lo ≤ L ∧ Inv (i + 1) s2)
    (h0e : Inv 0 (ent s)) (hk0 : l.length = 0 → K (.tuple (.mk [])) s) (hk : ∀ s', Inv l.length s' → K (.tuple (.mk [])) { s' with lo := min s.lo s'.lo }) :
    CallWP P ro 92 [.func (.yield L) (.mk []) (.mk []), ptr C] s K := by
  refine call_wp b92 rfl ?_
  rw [n92]
  unfold v92
  obtain ⟨T, o, hc⟩ := hC 0 _ h0e
  have hi0 := hI 0 _ h0e
  simp (maxSteps := 10000000) only [wW, reduceCtorEq, Nat.reduceEqDiff]
  refine load_rule (load_one ap_30 hc rfl) ?_
  rw [hi0.wlen se_30]
  simp (maxSteps := 10000000) only [wW, reduceCtorEq, Nat.reduceEqDiff]
  rw [wrap_i64 (by omega) (by omega)]
  refine wloop l92_100 m92_100 (fun (i : Nat) τ ds s' => i ≤ l.length ∧ τ 0 = .func (.yield L) (.mk []) (.mk []) ∧ τ 1 = ptr C ∧ τ 3 = .int .i64 ((l.length : Int) - 1 - i) ∧ ds = [] ∧ Inv i s' ∧ (i = 0 → s' = ent s) ∧ (0 < i → s'.lo ≤ L)) (fun i => l.length - i) ?_ 0 ⟨by omega, ?_, ?_, ?_, rfl, h0e, fun _ => rfl, fun h => absurd h (by omega)⟩
  · rintro i τ ds s' ⟨hi, t0, t1, t3, rfl, hInv, hz, hp⟩
    rw [n92_100]
    unfold v92_100
    simp (maxSteps := 10000000) only [wW, reduceCtorEq, Nat.reduceEqDiff, t0, t1, t3]
    by_cases hlt : i < l.length
    · rw [if_pos (by omega)]
      obtain ⟨T2, o2, hc2⟩ := hC i s' hInv
      refine load_rule (load_one ap_30 hc2 rfl) ?_
      have hix : ((l.length : Int) - 1 - i) = ((l.length - 1 - i : Nat) : Int) := by omega
      have hjl : l.length - 1 - i < l.length := by omega
      obtain ⟨A5, o5, c5, z1, z2, z3⟩ := (hI i s' hInv).at1 (i := ((l.length - 1 - i : Nat) : Int)) (x := l[l.length - 1 - i]) (by omega) (by rw [Int.toNat_natCast]; exact List.getElem?_eq_getElem hjl)
      rw [← hix] at z1
      simp (maxSteps := 10000000) only [wW, reduceCtorEq, Nat.reduceEqDiff, wL, Nat.reduceAdd, z1, z2, z3]
      refine wYield (hloop i s' hInv) hlen ?_
      rw [hix]
      obtain ⟨n, v, s2, e, rfl, h2, h3⟩ := hround i s' hlt hInv
      refine ⟨n, _, s2, e, ?_⟩
      simp (maxSteps := 10000000) only [wW, reduceCtorEq, Nat.reduceEqDiff]
      rw [wrap_i64 (by omega) (by omega)]
      refine ⟨i + 1, by omega, by omega, ?_, ?_, ?_, trivial, h3, fun h => absurd h (by omega), fun _ => h2⟩
      · simp only [U, tset_eq, wW, reduceCtorEq, Nat.reduceEqDiff, t0]
      · simp only [U, tset_eq, wW, reduceCtorEq, Nat.reduceEqDiff, t1]
      · simp only [U, tset_eq, wW, reduceCtorEq, Nat.reduceEqDiff]
        congr 1
        omega
    · obtain rfl : i = l.length := by omega
      rw [if_neg (by omega)]
      by_cases hz0 : l.length = 0
      · rw [hz hz0, wfin_flat (Nat.le_refl _) rfl]
        exact hk0 hz0
      · have hlo2 := hp (by omega)
        rw [wfin_old (by omega)]
        exact hk _ hInv
  · simp only [U, tset_eq, wW, reduceCtorEq, Nat.reduceEqDiff]
  · simp only [U, tset_eq, wW, reduceCtorEq, Nat.reduceEqDiff]
  · simp only [U, tset_eq, wW, reduceCtorEq, Nat.reduceEqDiff]
    congr 1
    omega
theorem wBack {u : Value} {s : St} (hw : Wf s) (hk : ∀ C s', Grew s s' → s.n ≤ C → s'.at C = some (.cells [u] 30 false) → K (.func (.func 92) (.mk []) (.mk [ptr C])) s') (h1 : u.cells.toList = [u]) :
    CallWP P ro 68 [u] s K := by
  refine call_wp b68 rfl ?_
  rw [n68]
  unfold v68
  simp (maxSteps := 10000000) only [wW, reduceCtorEq, Nat.reduceEqDiff]
  refine box_rule hw.ent fun C s1 m1 => ?_
  have e1 := m1.eq
  have hn0 : (ent s).n = s.n := rfl
  refine wfin_new hw m1.grew rfl fun s' hg hn hat => hk C s' hg (by omega) ?_
  rw [hat C, m1.here, h1]
end
end Go.VE
/- A builder that lives: Pack. -/
namespace Go.VE
open Go Go.Proofs
set_option maxRecDepth 20000
noncomputable def packGo : List Int → Bd × Int → Bd × Int
  | [], c => c
  | b :: r, c => packGo r (mLinear c.1 c.2 b 2 1 0)
theorem packGo_snoc : ∀ (l : List Int) (b : Int) (c : Bd × Int), packGo (l ++ [b]) c = mLinear (packGo l c).1 (packGo l c).2 b 2 1 0
  | [], _, _ => rfl
  | x :: l, b, c => packGo_snoc l b (mLinear c.1 c.2 x 2 1 0)
theorem packGo_le : ∀ (l : List Int) (c : Bd × Int), c.1.Le (packGo l c).1
  | [], _ => .refl _
  | x :: l, c => (mLinear_le c.1 c.2 x 2 1 0).trans (packGo_le l _)
noncomputable def mPack (d : Bd) (bits : List Int) : Bd × Int :=
  if (mready d (kn d bits && nums d [])).2 = true then (mUndo (packGo bits.reverse (mConst d 0)).1 d.rows.length d.nv, (packGo bits.reverse (mConst d 0)).2)
  else ((mready d (kn d bits && nums d [])).1, -1)
theorem rev_take {α : Type} {l : List α} {i : Nat} (h : i < l.length) : l.reverse.take (i + 1) = l.reverse.take i ++ [l[l.length - 1 - i]] := by
  have h1 : i < l.reverse.length := by rw [List.length_reverse]; exact h
  rw [take_succ_eq (List.getElem?_eq_getElem h1), List.getElem_reverse]
theorem WholeAt.putN {s s' : St} {B : Nat} {oA : Option Nat} {n0 A1 A2 A3 A : Nat} {r nv : Int} {o : AO} (h : WholeAt n0 s B oA A1 A2 A3 r nv) (p : Put s A o s') (h1 : A1 ≠ A) (h2 : A2 ≠ A) (h3 : A3 ≠ A) : WholeAt n0 s' B oA A1 A2 A3 r nv := by
  obtain ⟨t1, t2, t3, o1, o2, o3, e1, e2, e3, k1, k2, k3, k4⟩ := h
  exact ⟨t1, t2, t3, o1, o2, o3, (p.rest A1 h1).trans e1, (p.rest A2 h2).trans e2, (p.rest A3 h3).trans e3, k1, k2, k3, k4⟩
theorem WholeAt.lt {s : St} {B : Nat} {oA : Option Nat} {n0 A1 A2 A3 : Nat} {r nv : Int} (h : WholeAt n0 s B oA A1 A2 A3 r nv) : A1 < s.n ∧ A2 < s.n ∧ A3 < s.n := by
  obtain ⟨t1, t2, t3, o1, o2, o3, e1, e2, e3, _⟩ := h
  exact ⟨St.at_lt e1, St.at_lt e2, St.at_lt e3⟩
structure Run1 (ro : Nat) (s0 : St) (B : Nat) (oA0 : Option Nat) (s : St) (oA : Option Nat) (d : Bd) : Prop where
  liv : Liv ro s B oA d
  mt : Mut s0 B oA0 s oA
  w0 : Wf s0
  l0 : s0.lo = s0.n
  hB : B < s0.n
  ro : ro ≤ s0.n
theorem Run1.put {ro : Nat} {s0 s s' : St} {B A : Nat} {oA0 oA : Option Nat} {d : Bd} {o : AO} (h : Run1 ro s0 B oA0 s oA d) (p : Put s A o s') (hA : s0.n ≤ A) (hne : oA ≠ some A) : Run1 ro s0 B oA0 s' oA d :=
  ⟨h.liv.put p ⟨by have := h.ro; omega, by have := h.hB; omega, hne⟩, h.mt.put h.w0 p hA, h.w0, h.l0, h.hB, h.ro⟩
theorem Run1.grew {ro : Nat} {s0 s s' : St} {B : Nat} {oA0 oA : Option Nat} {d : Bd} (h : Run1 ro s0 B oA0 s oA d) (g : Grew s s') : Run1 ro s0 B oA0 s' oA d := ⟨h.liv.grew g, h.mt.trans (.ofGrew g), h.w0, h.l0, h.hB, h.ro⟩
theorem Run1.call {ro : Nat} {s0 s s' : St} {B : Nat} {oA0 oA oA' : Option Nat} {d d' : Bd} (h : Run1 ro s0 B oA0 s oA d) (l : Liv ro s' B oA' d') (m : Mut s B oA s' oA') : Run1 ro s0 B oA0 s' oA' d' := ⟨l, h.mt.trans m, h.w0, h.l0, h.hB, h.ro⟩
theorem Run1.fresh {ro : Nat} {s0 s : St} {B : Nat} {oA0 oA : Option Nat} {d : Bd} (h : Run1 ro s0 B oA0 s oA d) {A : Nat} (hA : s.n ≤ A) : A ≠ B ∧ oA ≠ some A := by
  have := h.hB
  have hn := h.mt.n
  refine ⟨by omega, fun e => ?_⟩
  have := (h.liv.hA A e).2.2
  omega
theorem Run1.start {ro : Nat} {s : St} {B : Nat} {oA : Option Nat} {d : Bd} (h : Liv ro s B oA d) : Run1 ro (Go.VE.ent s) B oA (Go.VE.ent s) oA d := ⟨h.ent, .refl _ _ _, h.wf.ent, rfl, h.lt, h.ron⟩
structure RunL (ro : Nat) (s0 : St) (B : Nat) (s1 : St) (oA1 : Option Nat) (s : St) (oA : Option Nat) (d : Bd) : Prop where
  liv : Liv ro s B oA d
  n : s1.n ≤ s.n
  same : ∀ C, C < s0.n → C ≠ B → oA1 ≠ some C → s.at C = s1.at C
  own : oA = oA1 ∨ ∃ A, oA = some A ∧ s1.n ≤ A
  chg : s.lo ≤ B ∨ ((∀ C, C < s0.n → s.at C = s1.at C) ∧ oA = oA1 ∧ s0.n ≤ s.lo)
  n0 : s0.n ≤ s1.n
  hB : B < s0.n
  ro : ro ≤ s0.n
theorem RunL.start {ro : Nat} {s0 s : St} {B : Nat} {oA0 oA : Option Nat} {d : Bd} (h : Run1 ro s0 B oA0 s oA d) : RunL ro s0 B s oA (Go.VE.ent s) oA d :=
  ⟨h.liv.ent, Nat.le_refl _, fun _ _ _ _ => rfl, .inl rfl, .inr ⟨fun _ _ => rfl, rfl, h.mt.n⟩, h.mt.n, h.hB, h.ro⟩
theorem RunL.put {ro : Nat} {s0 s1 s s' : St} {B A : Nat} {oA1 oA : Option Nat} {d : Bd} {o : AO} (h : RunL ro s0 B s1 oA1 s oA d) (p : Put s A o s') (hA : s0.n ≤ A) (hne : oA ≠ some A) : RunL ro s0 B s1 oA1 s' oA d := by
  refine ⟨h.liv.put p ⟨by have := h.ro; omega, by have := h.hB; omega, hne⟩, by rw [p.n]; exact h.n, fun C hC hB hx => (p.rest C (by omega)).trans (h.same C hC hB hx), h.own, ?_, h.n0, h.hB, h.ro⟩
  rcases h.chg with hlo | ⟨h1, h2, h3⟩
  · exact .inl (by rw [p.lo]; omega)
  · exact .inr ⟨fun C hC => (p.rest C (by omega)).trans (h1 C hC), h2, by rw [p.lo]; omega⟩
theorem RunL.call {ro : Nat} {s0 s1 s s' : St} {B : Nat} {oA1 oA oA' : Option Nat} {d d' : Bd} (h : RunL ro s0 B s1 oA1 s oA d) (l : Liv ro s' B oA' d') (m : Mut s B oA s' oA') : RunL ro s0 B s1 oA1 s' oA' d' := by
  have hn := h.n
  have hn0 := h.n0
  refine ⟨l, Nat.le_trans h.n m.n, fun C hC hB hx => ?_, ?_, ?_, h.n0, h.hB, h.ro⟩
  · have : oA ≠ some C := by
      rcases h.own with rfl | ⟨A, rfl, hA⟩
      · exact hx
      · intro e; cases e; omega
    rw [m.same C (by omega) hB this, h.same C hC hB hx]
  · rcases m.own with rfl | ⟨A, rfl, hA⟩
    · exact h.own
    · exact .inr ⟨A, rfl, Nat.le_trans h.n hA⟩
  · rcases m.chg with k1 | ⟨k1, rfl⟩
    · exact .inl k1
    · rcases h.chg with h1 | ⟨h1, h2, h3⟩
      · exact .inl (by rw [k1.lo]; exact h1)
      · exact .inr ⟨fun C hC => (k1.same C (by omega)).trans (h1 C hC), h2, by rw [k1.lo]; exact h3⟩
theorem RunL.grew {ro : Nat} {s0 s1 s s' : St} {B : Nat} {oA1 oA : Option Nat} {d : Bd} (h : RunL ro s0 B s1 oA1 s oA d) (g : Grew s s') : RunL ro s0 B s1 oA1 s' oA d := h.call (h.liv.grew g) (.ofGrew g)
theorem RunL.finish {ro : Nat} {s0 s1 s : St} {B : Nat} {oA0 oA1 oA : Option Nat} {d1 d : Bd} (h : RunL ro s0 B s1 oA1 s oA d) (k : Run1 ro s0 B oA0 s1 oA1 d1) : Run1 ro s0 B oA0 { s with lo := min s1.lo s.lo } oA d := by
  have hn := h.n
  have hn0 := h.n0
  have hwl := h.liv.wf.lo
  have hkl := k.liv.wf.lo
  refine ⟨h.liv.lo (by omega), ⟨by show s0.n ≤ s.n; omega, fun C hC hB hx => ?_, ?_, ?_⟩, k.w0, k.l0, k.hB, k.ro⟩
  · show s.at C = s0.at C
    have : oA1 ≠ some C := by
      rcases k.mt.own with rfl | ⟨A, rfl, hA⟩
      · exact hx
      · intro e; cases e; omega
    rw [h.same C hC hB this, k.mt.same C hC hB hx]
  · rcases h.own with rfl | ⟨A, rfl, hA⟩
    · exact k.mt.own
    · exact .inr ⟨A, rfl, by omega⟩
  · rcases k.mt.chg with k1 | ⟨k1, rfl⟩
    · exact .inl (by show min s1.lo s.lo ≤ B; omega)
    · rcases h.chg with h1 | ⟨h1, rfl, h3⟩
      · exact .inl (by show min s1.lo s.lo ≤ B; omega)
      · refine .inr ⟨⟨by show s0.n ≤ s.n; omega, ?_, fun C hC => (h1 C hC).trans (k1.same C hC), fun hl => h.liv.wf.len⟩, rfl⟩
        show min s1.lo s.lo = s0.lo
        rw [k1.lo, k.l0]
        omega
end Go.VE
/- A builder that lives: Pack. -/
namespace Go.VE
open Go Go.Proofs
set_option maxRecDepth 20000
section
variable {ro : Nat} {s : St} {B : Nat} {oA : Option Nat} {d : Bd} {K : Value → St → Prop}
structure PackI (ro : Nat) (s0 : St) (B : Nat) (s1 : St) (oA1 : Option Nat) (u : Value) (bits : List Int) (X W C D L A1 A2 A3 n0 : Nat) (r0 : Lp) (r nv : Int) (c0 : Bd × Int) (i : Nat) (s : St) (oA : Option Nat) : Prop where
  run : RunL ro s0 B s1 oA1 s oA (packGo (bits.reverse.take i) c0).1
  x : Lc s B oA X (.cells [ptr B] 25 false)
  w : Lc s B oA W (.cells [.int .i64 (packGo (bits.reverse.take i) c0).2] 3 false)
  c : Lc s B oA C (.cells [u] 30 false)
  dd : Lc s B oA D (.defd (some []))
  l : Lc s B oA L (.loop r0)
  ints : Ints s u bits
  off : OffS B oA s0.n u
  who : WholeAt n0 s B oA A1 A2 A3 r nv
theorem lPack (h : Liv ro s B oA d) {u : Value} {bits : List Int} (hu : Ints s u bits) (hlen : bits.length < 2 ^ 60) (hoff : OffS B oA s.n u) (hk : ∀ s' oA', Liv ro s' B oA' (mPack d bits).1 → Mut s B oA s' oA' → K (.int .i64 (mPack d bits).2) s') :
    CallWP P ro 30 [ptr B, u] s K := by
  refine call_wp b30 rfl ?_
  rw [n30]
  unfold v30
  simp (maxSteps := 10000000) only [wW, reduceCtorEq, Nat.reduceEqDiff]
  have r0 := Run1.start h
  refine box_rule h.wf.ent fun X s1 m1 => ?_
  have r1 := r0.grew m1.grew
  have e1 := m1.eq
  have n1 := m1.n
  have hn0 : (Go.VE.ent s).n = s.n := rfl
  have x1 : Lc s1 B oA X (.cells [ptr B] 25 false) := ⟨m1.here, (r0.fresh (A := X) (by omega)).1, (r0.fresh (A := X) (by omega)).2⟩
  have hx1 := acells_some x1.here
  have hu1 : Ints s1 u bits := (Sl.ent hu).grew m1.grew.same
  simp (maxSteps := 10000000) only [wW, reduceCtorEq, Nat.reduceEqDiff, wL, Nat.reduceAdd, load1 ap_25, hx1, List.getElem?_cons_zero]
  refine ⟨by simp [veq], by simp [veq], ?_⟩
  rw [lKnown r1.liv hu1 (by omega)]
  refine ⟨.refl _, ?_⟩
  refine lReady' r1.liv _ (U64s.nil _) (show 0 < 2 ^ 62 by decide) fun s5 h5 m5 => ?_
  have r5 := r1.call h5 m5
  have x5 := x1.mut m5
  have hx5 := acells_some x5.here
  simp (maxSteps := 10000000) only [wW, reduceCtorEq, Nat.reduceEqDiff, wL, Nat.reduceAdd, load1 ap_25, hx5, List.getElem?_cons_zero]
  have hk' := hk
  unfold mPack at hk'
  by_cases hr : (mready d (kn d bits && nums d [])).2 = true
  · rw [if_pos hr] at hk'
    obtain ⟨q1, he, _⟩ := mready_true hr
    rw [hr]
    rw [q1] at h5 r5
    simp (maxSteps := 10000000) only [wW, reduceCtorEq, Nat.reduceEqDiff]
    refine lWhole h5 fun A1 A2 A3 s6 h6 m6 hw6 => ⟨trivial, ?_⟩
    rw [wdefer_fn]
    have r6 := r5.call h6 m6
    have x6 := x5.mut m6
    simp (maxSteps := 10000000) only [wW, reduceCtorEq, Nat.reduceEqDiff, wL, Nat.reduceAdd, load1 ap_25, acells_some x6.here, List.getElem?_cons_zero]
    refine lConst h6 _ fun s7 oA7 h7 m7 => ?_
    have r7 := r6.call h7 m7
    have x7 := x6.mut m7
    have hw7 := hw6.mut m7
    refine alloc_rule ty_3 h7.wf fun W s8 m8 => ?_
    have e8 := m8.eq
    have n8 := m8.n
    have r8 := r7.grew m8.grew
    have hW := r7.fresh (A := W) (by omega)
    have n7 := r7.mt.n
    refine store1_rule isz_3 m8.here r8.liv.wf (by have := r7.ro; omega) (by simp [Value.cells]) rfl fun s9 p9 => ?_
    have x9 := (x7.grew m8.grew).put p9 (by have := x7.lt; omega)
    have hwl := hw7.lt
    have hw9 := (hw7.mut (.ofGrew m8.grew)).putN p9 (by omega) (by omega) (by omega)
    have r9 := r8.put p9 (by omega) hW.2
    have w9 : Lc s9 B oA7 W (.cells [.int .i64 (mConst d 0).2] 3 false) := ⟨p9.here, hW.1, hW.2⟩
    have o7 : OffS B oA7 s.n u := ((hoff.mut (s := s5) (by have := r5.mt.n; omega) m6).mut (by have := r6.mt.n; omega) m7)
    have hu5 : Ints s5 u bits := hoff.sl (by omega) m5 hu1
    have hu6 : Ints s6 u bits := hoff.sl (by have := r5.mt.n; omega) m6 hu5
    have hu7 : Ints s7 u bits := (hoff.mut (s := s5) (by have := r5.mt.n; omega) m6).sl (by have := r6.mt.n; omega) m7 hu6
    have hu9 : Ints s9 u bits := o7.slPut (by omega) p9 (Sl.grew hu7 m8.grew.same)
    have hcells : u.cells.toList = [u] := by
      obtain ⟨a, c, rfl, _⟩ := hu
      rfl
    refine wBack r9.liv.wf (fun C s10 g10 hC10 c10 => ?_) hcells
    have n9 := p9.n
    have r10 := r9.grew g10
    have x10 := x9.grew g10
    have w10 := w9.grew g10
    have hw10 := hw9.mut (.ofGrew g10)
    have hu10 : Ints s10 u bits := Sl.grew hu9 g10.same
    have cC : Lc s10 B oA7 C (.cells [u] 30 false) := ⟨c10, (r9.fresh hC10).1, (r9.fresh hC10).2⟩
    refine wrange (by have := r10.mt.n; have := r10.ro; omega) fun t ht => ?_
    have hD := r10.fresh (A := s10.n) (Nat.le_refl _)
    have g11 : Grew s10 (s10.new (.defd (some []))) := .new _ _
    have r11 := r10.grew g11
    have hL := r11.fresh (A := s10.n + 1) (Nat.le_refl _)
    have g12 : Grew (s10.new (.defd (some []))) ((s10.new (.defd (some []))).new (.loop { state := .ready, pending := none, t := t, params := #[20, 21].toList, assign := c30_11110100, body := c30_11110101, defers := s10.n })) := .new _ _
    generalize hr0 : ({ state := .ready, pending := none, t := t, params := #[20, 21].toList, assign := c30_11110100, body := c30_11110101, defers := s10.n } : Lp) = lp at g12 ⊢
    have hD11 : Lc (s10.new (.defd (some []))) B oA7 s10.n (.defd (some [])) := ⟨at_newest _ _, hD.1, hD.2⟩
    have hL12 : Lc ((s10.new (.defd (some []))).new (.loop lp)) B oA7 (s10.n + 1) (.loop lp) := ⟨at_newest _ _, hL.1, hL.2⟩
    have g1012 := g11.trans g12
    have r12 := r10.grew g1012
    generalize hs12 : (s10.new (.defd (some []))).new (.loop lp) = s12 at *
    have n12 : s12.n = s10.n + 2 := by rw [← hs12]; rfl
    have hlp : lp.state = .ready ∧ lp.pending = none ∧ lp.t = t ∧ lp.params = [20, 21] ∧ lp.assign = c30_11110100 ∧ lp.body = c30_11110101 := by rw [← hr0]; exact ⟨rfl, rfl, rfl, rfl, rfl, rfl⟩
    clear hr0
    have n0s : (Go.VE.ent s).n = s.n := rfl
    have whE : WholeAt s5.n s12 B oA7 A1 A2 A3 d.rows.length d.nv := hw10.mut (.ofGrew g1012)
    have hXW : X ≠ W := by have := x7.lt; omega
    have hCW : C ≠ W := by have := w9.lt; omega
    have nle10 := r10.mt.n
    have xn := x10.lt
    have wn := w10.lt
    have cn := cC.lt
    have aln := hw10.lt
    have hro0 := r10.ro
    have off12 : OffS B oA7 (Go.VE.ent s).n u := o7
    have hu12 : Ints s12 u bits := Sl.grew hu10 g1012.same
    have fin : ∀ sF oF, Run1 ro (Go.VE.ent s) B oA sF oF (packGo bits.reverse (mConst d 0)).1 → Lc sF B oF W (.cells [.int .i64 (packGo bits.reverse (mConst d 0)).2] 3 false) → Lc sF B oF s10.n (.defd (some [])) → Lc sF B oF (s10.n + 1) (.loop lp) → WholeAt s5.n sF B oF A1 A2 A3 d.rows.length d.nv → ∀ {K1 : WK} {Q1 : Ex → WK} {τ ds}, (∀ sG oG, Run1 ro (Go.VE.ent s) B oA sG oG (packGo bits.reverse (mConst d 0)).1 → Lc sG B oG W (.cells [.int .i64 (packGo bits.reverse (mConst d 0)).2] 3 false) → Lc sG B oG s10.n (.defd (some [])) → WholeAt s5.n sG B oG A1 A2 A3 d.rows.length d.nv → K1 τ ds sG) →
        ∃ r ex, sF.at (s10.n + 1) = some (.loop r) ∧ (r.state = .ready ∨ r.state = .done) ∧ pendEx r.pending = some ex ∧ thenW K1 Q1 ex τ ds (sF.put (s10.n + 1) (.loop { r with state := .exhausted })) := fun sF oF rF wF dF lF whF {K1 Q1 τ ds} hK1 => by
      refine ⟨lp, .normal, lF.here, .inl hlp.1, by rw [hlp.2.1]; rfl, ?_⟩
      have p := Put.mk' rF.liv.wf lF.lt (.loop { lp with state := .exhausted })
      exact hK1 _ oF (rF.put p (by omega) lF.own) (wF.put p (by omega)) (dF.put p (by omega)) (whF.putN p (by omega) (by omega) (by omega))
    have fin2 : ∀ sG oG, Run1 ro (Go.VE.ent s) B oA sG oG (packGo bits.reverse (mConst d 0)).1 → Lc sG B oG W (.cells [.int .i64 (packGo bits.reverse (mConst d 0)).2] 3 false) → Lc sG B oG s10.n (.defd (some [])) → WholeAt s5.n sG B oG A1 A2 A3 d.rows.length d.nv →
        wopt (aload P sG 3 (.pointer (some ⟨W, 0, none⟩))) fun v => wdefers P ro [{ target := .collected s10.n, args := #[] }, ⟨.fn (.func 83) (.mk [ptr A1, ptr A2, ptr A3]), (.mk [])⟩] sG fun s16 => wfin s K v s16 := fun sG oG rG wG dG whG => by
      rw [load_one ap_3 wG.here rfl, wopt_some]
      refine ⟨dG.here, by omega, ?_⟩
      have p := Put.mk' rG.liv.wf dG.lt (.defd none)
      have rP := rG.put p (by omega) dG.own
      have wP := whG.putN p (by omega) (by omega) (by omega)
      generalize sG.put s10.n (.defd none) = sP at p rP wP ⊢
      refine lUndo rP.liv wP ((mConst_le d 0).trans (packGo_le bits.reverse (mConst d 0))).rows h.ok.nv fun s8 h8 m8 => ?_
      exact fin_mut h h8 (rP.mt.trans m8) rfl fun s' h' m' => hk' s' _ h' m'
    refine wBackward (u := u) (l := bits) lp (fun i s' => ∃ oA', PackI ro (Go.VE.ent s) B s12 oA7 u bits X W C s10.n (s10.n + 1) A1 A2 A3 s5.n lp d.rows.length d.nv (mConst d 0) i s' oA') (by rw [hlp.2.2.2.1]; rfl) (fun i s' hI => ?_) (fun i s' hI => ?_) (fun i s' hI => ?_) hlen (by omega) (fun i s' hi hI => ?_) ?_ (fun hz => ?_) (fun s' hI => ?_)
    · obtain ⟨o, hI⟩ := hI; exact hI.l.here
    · obtain ⟨o, hI⟩ := hI; exact ⟨_, _, hI.c.here⟩
    · obtain ⟨o, hI⟩ := hI; exact hI.ints
    · obtain ⟨oA1, hI⟩ := hI
      rw [hlp.2.2.1, hlp.2.2.2.1, hlp.2.2.2.2.1, hlp.2.2.2.2.2]
      refine round_wp (N := 27) (Agr.set (Agr.set ht 20 _ (by decide)) 21 _ (by decide)) l30_11110100 l30_11110101 (by omega) ?_
      rw [n30_11110100]
      unfold v30_11110100
      refine ⟨lp, hI.l.here, hlp.1, ?_⟩
      have pb := Put.mk' hI.run.liv.wf hI.l.lt (.loop { lp with state := .busy })
      generalize s'.put (s10.n + 1) (.loop { lp with state := .busy }) = sb at pb ⊢
      have hLs : (Go.VE.ent s).n ≤ s10.n + 1 := by omega
      have rb := hI.run.put pb hLs hI.l.own
      have xb := hI.x.put pb (by omega)
      have wb := hI.w.put pb (by omega)
      have cb := hI.c.put pb (by omega)
      have db := hI.dd.put pb (by omega)
      have ib : Ints sb u bits := hI.off.slPut (by omega) pb hI.ints
      have whb := hI.who.putN pb (by omega) (by omega) (by omega)
      have lb : Lc sb B oA1 (s10.n + 1) (.loop { lp with state := .busy }) := ⟨pb.here, hI.l.ne, hI.l.own⟩
      rw [n30_11110101]
      unfold v30_11110101
      simp (maxSteps := 10000000) only [U, tset_eq, wW, reduceCtorEq, Nat.reduceEqDiff, wL, Nat.reduceAdd, load1 ap_25, acells_some xb.here, acells_some wb.here, List.getElem?_cons_zero]
      have hsn := rb.n
      refine lLinear rb.liv _ _ _ _ _ fun s3 oA3 l3 m3 => ?_
      have r3 := rb.call l3 m3
      have w3 := wb.mut m3
      refine store1_rule isz_3 w3.here r3.liv.wf (by omega) (by simp [Value.cells]) rfl fun s4 p4 => ?_
      have r4 := r3.put p4 (by omega) w3.own
      have l4 := (lb.mut m3).put p4 (by omega)
      refine ⟨_, l4.here, rfl, ?_⟩
      have pf := Put.mk' r4.liv.wf l4.lt (.loop { lp with state := if (jumpOf .normal).isNone = true then .ready else .done, pending := jumpOf .normal })
      show (s4.put (s10.n + 1) (.loop { lp with state := if (jumpOf .normal).isNone = true then .ready else .done, pending := jumpOf .normal })).lo ≤ s10.n + 1 ∧ _
      refine ⟨Nat.min_le_right _ _, oA3, ?_⟩
      have elp : ({ lp with state := if (jumpOf .normal).isNone = true then .ready else .done, pending := jumpOf .normal } : Lp) = lp := by
        obtain ⟨a, b, _⟩ := hlp
        cases lp
        simp only at a b
        subst a b
        rfl
      rw [elp] at pf ⊢
      generalize s4.put (s10.n + 1) (.loop lp) = sf at pf ⊢
      have hgo : packGo (bits.reverse.take (i + 1)) (mConst d 0) = mLinear (packGo (bits.reverse.take i) (mConst d 0)).1 (packGo (bits.reverse.take i) (mConst d 0)).2 bits[bits.length - 1 - i] 2 1 0 := by
        rw [rev_take hi, packGo_snoc]
      have o3 : OffS B oA3 (Go.VE.ent s).n u := hI.off.mut (by omega) m3
      refine ⟨?_, ((xb.mut m3).put p4 (by omega)).put pf (by omega), ?_, ((cb.mut m3).put p4 (by omega)).put pf (by omega), ((db.mut m3).put p4 (by omega)).put pf (by omega), ⟨pf.here, l4.ne, l4.own⟩, ?_, o3, ?_⟩
      · rw [hgo]
        exact r4.put pf hLs l4.own
      · rw [hgo]
        exact (⟨p4.here, w3.ne, w3.own⟩ : Lc s4 B oA3 W _).put pf (by omega)
      · exact o3.slPut (by omega) pf (o3.slPut (by omega) p4 (hI.off.sl (by omega) m3 ib))
      · exact ((whb.mut m3).putN p4 (by omega) (by omega) (by omega)).putN pf (by omega) (by omega) (by omega)
    · exact ⟨oA7, .start r12, (x10.grew g1012).ent, (w10.grew g1012).ent, (cC.grew g1012).ent, (hD11.grew g12).ent, hL12.ent, hu12.ent, o7, whE⟩
    · have hb : bits = [] := List.eq_nil_of_length_eq_zero hz
      subst hb
      refine fin s12 oA7 r12 (w10.grew g1012) (hD11.grew g12) hL12 (hw10.mut (.ofGrew g1012)) fun sG oG a b c e => ?_
      exact fin2 sG oG a b c e
    · obtain ⟨oF, hI⟩ := hI
      have ht : bits.reverse.take bits.length = bits.reverse := List.take_of_length_le (by simp)
      have hrun := hI.run
      have hww := hI.w
      rw [ht] at hrun hww
      exact fin _ oF (hrun.finish r12) hww.lo hI.dd.lo hI.l.lo hI.who fun sG oG a b c e => fin2 sG oG a b c e
  · have hr' : (mready d (kn d bits && nums d [])).2 = false := by simpa using hr
    rw [if_neg hr] at hk'
    rw [hr']
    simp (maxSteps := 10000000) only [wW, reduceCtorEq, Nat.reduceEqDiff]
    exact fin_mut h r5.liv r5.mt rfl fun s' h' m' => hk' s' oA h' m'
end
end Go.VE
/- Parts of slices of ints; Canonical's product. -/
namespace Go.VE
open Go Go.Proofs
set_option maxRecDepth 20000
section
variable {ro : Nat} {s : St} {B : Nat} {oA : Option Nat} {d : Bd} {K : Value → St → Prop}
end
end Go.VE
/- A builder that lives: Canonical. -/
namespace Go.VE
open Go Go.Proofs
set_option maxRecDepth 20000
section
variable {ro : Nat} {s : St} {B : Nat} {oA : Option Nat} {d : Bd} {K : Value → St → Prop}
theorem Mut.keeps {s' : St} {oA' : Option Nat} (m : Mut s B oA s' oA') {l : List (Nat × Rng)} (h : ∀ x ∈ l, ∃ X o, x.2 = .ptr (.pointer (some ⟨X, o, none⟩)) ∧ X < s.n ∧ X ≠ B ∧ oA ≠ some X) : Keeps l s s' := by
  refine ⟨m.n, fun x hx => ?_⟩
  obtain ⟨X, o, e, h1, h2, h3⟩ := h x hx
  obtain ⟨j, g⟩ := x
  simp only at e
  subst e
  intro y z e hz
  cases e
  rw [m.same X h1 h2 h3]
  exact hz
theorem Lc.keeps1 {s' : St} {oA' : Option Nat} {X : Nat} {o : AO} (h : Lc s B oA X o) (m : Mut s B oA s' oA') (i : Nat) : Keeps [(i, .ptr (ptr X))] s s' := m.keeps fun x hx => by
  simp only [List.mem_cons, List.not_mem_nil, or_false] at hx
  subst hx
  exact ⟨X, 0, rfl, h.lt, h.ne, h.own⟩
end
end Go.VE
/- A builder that lives: Gates; lists of the law. -/
namespace Go.VE
open Go Go.Proofs
set_option maxRecDepth 20000
section
variable {ro : Nat} {s : St} {B : Nat} {oA : Option Nat} {d : Bd} {K : Value → St → Prop}
theorem append0_rule {t u e : TypeId} {sz bytes m Z : Nat} {z : Value} {new : List Value} {s : St} {x : Value} (hse : sliceElem P t = some e) (hni : notInt P u = true) (hty : tyOk P e sz bytes z = true) (hsz : 0 < sz) (hby : 0 < bytes) (hx : Sl s x sz m new) (hm : 0 < m) (hw : Wf s) (hlim : (2 * m + 1000) * bytes ≤ 2 ^ 47) {ty : TypeId} {K : Value → St → Prop}
    (hk : ∀ v' s', Own s' v' e sz m new (some s.n) → Made s s.n (.cells new e true) s' → K v' s') : wop P ro (.call ⟨.builtin .append, ⟨[.const (.slice (some ⟨Z, 0, none⟩) 0 0), .const x]⟩, #[t, u]⟩) ty s K := by
  obtain ⟨i, hi, his, hib, hz, hf, hzs⟩ := tyOk_spec hty
  obtain ⟨ha, hfst⟩ := hx.first
  have hnl : new.length = m * sz := hx.len
  rw [wop_append]
  have h0 : afirst s sz 0 (.slice (some ⟨Z, 0, none⟩) 0 0) = some [] := by
    simp only [afirst, Nat.zero_mul]
  have e1 : aappend P ro s #[t, u] [.slice (some ⟨Z, 0, none⟩) 0 0, x] = some (.slice (some ⟨s.n, 0, some 0⟩) (0 + m) (0 + m), s.new (.cells ([] ++ new) e true)) := by
    simp only [aappend, hse, hni, hi, ha, his, hfst, Option.bind_some, aappendTo]
    rw [if_neg (by omega), if_neg (by rw [hib, Nat.zero_add]; omega)]
    simp only [hz, h0, hzs, hf, and_self, if_true, agrow]
  rw [e1]
  simp only [Nat.zero_add, List.nil_append]
  exact hk _ _ ⟨rfl, at_newest _ _, hnl, hm⟩ (.mk' hw _)
theorem slNil (ty : TypeId) (s : St) (K : Value → St → Prop) : wop P ro (.binOp .eql 32 (.const (.slice none 0 0)) (.const (.slice none 0 0)) 32) ty s K = K (.bool true) s := by kernel_rfl
theorem slSome (a : Addr) (n c : Nat) (ty : TypeId) (s : St) (K : Value → St → Prop) : wop P ro (.binOp .eql 32 (.const (.slice (some a) n c)) (.const (.slice none 0 0)) 32) ty s K = K (.bool false) s := by kernel_rfl
theorem wClone {u : Value} {rows : List Row} (hw : Wf s) (ho : Own s u 94 11 rows.length (rowCells rows) oA) (hlen : rows.length ≤ 100000) (hk : ∀ v s', Grew s s' → RowsS s' v rows → (∀ A o sp n c, v = .slice (some ⟨A, o, sp⟩) n c → s.n ≤ A) → K v s') :
    CallWP P ro 45 [u] s K := by
  refine call_wp b45 rfl ?_
  rw [n45]
  unfold v45
  cases oA with
  | none =>
    have hs := ho.sl
    obtain ⟨rfl, hn, hc⟩ := ho
    simp (maxSteps := 10000000) only [wW, reduceCtorEq, Nat.reduceEqDiff, slNil]
    exact fin_flat rfl (.refl _) (hk _ s (.refl _) hs (fun A o sp n c e => by cases e))
  | some A =>
    have hs := ho.sl
    obtain ⟨rfl, hA, hl, hpos⟩ := ho
    simp (maxSteps := 10000000) only [wW, reduceCtorEq, Nat.reduceEqDiff, slSome]
    refine buildSlice_rule se_32 ty_94 hw.ent [] rfl rfl (by decide) (by simp) fun Z s1 m1 => ?_
    refine append0_rule se_32 (by kernel_rfl) ty_94 (by decide) (by decide) (hs.ent.grew m1.grew.same) hpos m1.wf (by omega) fun v s2 o2 m2 => ?_
    have e1 := m1.grew.n
    have hn0 : (Go.VE.ent s).n = s.n := rfl
    exact wfin_sl hw (m1.grew.trans m2.grew) o2.sl fun s' hg hS => hk v s' hg hS fun A' o' sp' n' c' e => by
      obtain ⟨ev, _⟩ := o2
      rw [ev] at e
      cases e
      omega
def Bd.gp (d : Bd) : Gp := ⟨d.f, d.nv, d.pub, d.sec, d.rows⟩
theorem lGates (h : Liv ro s B oA d) (he : d.e = 0) (hk : ∀ v s', Grew s s' → RowsS s' v d.rows → K (.tuple (.mk [.agg (.mk (d.gp.cells v)), .int .i64 0])) s') : CallWP P ro 12 [ptr B] s K := by
  refine call_wp b12 rfl ?_
  rw [n12]
  unfold v12
  simp (maxSteps := 10000000) only [wW, reduceCtorEq, Nat.reduceEqDiff]
  refine alloc_rule ty_34 h.wf.ent fun R s1 m1 => ?_
  have h1 := h.ent.grew m1.grew
  rw [lErr h1]
  simp (maxSteps := 10000000) only [wW, reduceCtorEq, Nat.reduceEqDiff]
  rw [if_neg (by simpa using he)]
  obtain ⟨w, ew1, ew2⟩ := h1.ex
  have ow := ew2.own he
  have hcut : cut (d.cells w) 1 5 = some (d.gp.cells w) := rfl
  simp (maxSteps := 10000000) only [wW, reduceCtorEq, Nat.reduceEqDiff, wL, Nat.reduceAdd, fa_81_1, acells_some ew1, hcut]
  refine alloc_rule ty_34 m1.wf fun G s2 m2 => ?_
  have e1 := m1.eq
  have n1 := m1.n
  have e2 := m2.eq
  have n2 := m2.n
  have hn0 : (Go.VE.ent s).n = s.n := rfl
  have hro := h.ron
  have g2 := m1.grew.trans m2.grew
  have hwone : w.oneCell' = true := by
    obtain ⟨a, c, rfl, _⟩ := ew2.sl
    rfl
  refine storeAll_rule isz_34 m2.here (l := d.gp.cells w) rfl (by decide) m2.wf (by omega) rfl (by simp only [Gp.cells, List.all_cons, hwone]; rfl) fun s3 p3 => ?_
  have g3 := p3.grew _ h.wf.ent g2 (by omega)
  have n3 := p3.n
  have hR3 : s3.at R = _ := (p3.rest R (by omega)).trans ((m2.grew.same R (by omega)).trans m1.here)
  simp (maxSteps := 10000000) only [wW, reduceCtorEq, Nat.reduceEqDiff, wL, Nat.reduceAdd, acells_some p3.here]
  have hAB : ∀ A, oA = some A → A < s.n := fun A e => (h.hA A e).2.2
  have ow3 : Own s3 w 94 11 d.rows.length (rowCells d.rows) oA := ow.same fun A e => (p3.rest A (by have := hAB A e; omega)).trans (m2.grew.same A (by have := hAB A e; omega))
  refine wClone p3.wf ow3 (by have := h.ok.rows; omega) fun v s4 g4 hv hfr => ?_
  have hG4 : s4.at G = _ := (g4.same G (by omega)).trans p3.here
  have w4 := p3.wf.grew g4
  have hvone : v.oneCell' = true := by
    obtain ⟨a, c, rfl, _⟩ := hv
    rfl
  refine store1_rule isz_32 hG4 w4 (by omega) (by simp [Gp.cells]) hvone fun s5 p5 => ?_
  have hsp : splice (d.gp.cells w) 4 [v] = d.gp.cells v := rfl
  have hG5 : s5.at G = some (.cells (d.gp.cells v) 34 false) := by rw [p5.here, hsp]
  simp (maxSteps := 10000000) only [wW, reduceCtorEq, Nat.reduceEqDiff, wL, Nat.reduceAdd, acells_some hG5]
  have n4 := g4.n
  have n5 := p5.n
  have hR5 : s5.at R = _ := (p5.rest R (by omega)).trans ((g4.same R (by omega)).trans hR3)
  refine storeAll_rule isz_34 hR5 (l := d.gp.cells v) rfl (by decide) p5.wf (by omega) rfl (by simp only [Gp.cells, List.all_cons, hvone]; rfl) fun s6 p6 => ?_
  simp (maxSteps := 10000000) only [wW, reduceCtorEq, Nat.reduceEqDiff, wL, Nat.reduceAdd, acells_some p6.here]
  have g4' := g3.trans g4
  have g6 := p6.grew _ h.wf.ent (p5.grew _ h.wf.ent g4' (by omega)) (by omega)
  have hv6 : RowsS s6 v d.rows := hv.sameAt fun A o sp n c e => by
    have := hfr A o sp n c e
    rw [p6.rest A (by omega), p5.rest A (by omega)]
  obtain ⟨a, n, c, rfl⟩ : ∃ a n c, v = .slice a n c := by
    obtain ⟨a, c, e, _⟩ := hv
    exact ⟨a, _, c, e⟩
  cases a with
  | none => exact fin_flat rfl g6 (hk _ s (.refl _) (hv6.flat rfl))
  | some x => exact wfin_new h.wf g6 rfl fun s' hg hn hat => hk _ s' hg (Sl.sameAt hv6 fun A o sp n c e => hat A)
end
end Go.VE
/- CircuitCanonical: what the law's function does. -/
namespace Go.VE
open Go Go.Proofs
set_option maxRecDepth 20000
def bitAt (n : Int) (i : Nat) : Int := n / 2 ^ i % 2
theorem fin_K {si s : St} {K : Value → St → Prop} {v : Value} (h : ∀ s', K v s') : wfin si K v s := by
  unfold wfin afinish
  cases (Nat.ble si.n s.lo && flat' v) with
  | true => exact h _
  | false => exact h _
section
variable {ro : Nat} {s : St} {K : Value → St → Prop}
theorem wLiv : CallWP P ro 15 [] s K = K (.bool true) s := callEq (call_known rfl ⟨rfl, rfl⟩) K
theorem bool_eql (a b : Bool) (ty : TypeId) (s : St) (K : Value → St → Prop) : wop P ro (.binOp .eql 4 (.const (.bool a)) (.const (.bool b)) 4) ty s K = K (.bool (a == b)) s := by
  cases a <;> cases b <;> kernel_rfl
end
end Go.VE
/- CircuitCanonical: what the law's function does. -/
namespace Go.VE
open Go Go.Proofs
set_option maxRecDepth 20000
section
variable {ro : Nat} {s : St} {K : Value → St → Prop}
end
end Go.VE
/- What a program with arithmetic rows computes. -/
namespace Go.VE
open Go Go.Proofs
set_option maxRecDepth 20000
theorem sq_one {p : Int} : ((p - 1) * (p - 1)) % p = 1 % p := by
  have : (p - 1) * (p - 1) = 1 + p * (p - 2) := by
    have h : p * (p - 2) = p * p - p * 2 := Int.mul_sub ..
    rw [h, Int.sub_mul, Int.mul_sub, Int.one_mul]; omega
  rw [this, Int.add_mul_emod_self_left]
theorem pow_even {p : Int} : ∀ k : Nat, (p - 1) ^ (2 * k) % p = 1 % p
  | 0 => by simp
  | k + 1 => by
    rw [show 2 * (k + 1) = 2 * k + 1 + 1 by omega, Int.pow_succ, Int.pow_succ, Int.mul_assoc, Int.mul_emod, pow_even k, sq_one, ← Int.mul_emod, Int.one_mul]
theorem pow_odd {p : Int} (hp : 1 < p) (k : Nat) : (p - 1) ^ (2 * k + 1) % p = p - 1 := by
  rw [Int.pow_succ, Int.mul_emod, pow_even, ← Int.mul_emod, Int.one_mul, Int.emod_eq_of_lt (by omega) (by omega)]
theorem fP_one {f : Int} (h : fV f = true) : 1 < fP f := by rcases fV_cases h with rfl | rfl | rfl | rfl <;> decide
theorem fInv_minus {f : Int} (h : fV f = true) : fInv f (fP f - 1) = fP f - 1 := by
  unfold fInv fPow
  rw [if_pos h]
  rcases fV_cases h with rfl | rfl | rfl | rfl
  · exact pow_odd (p := 97) (by decide) 47
  · exact pow_odd (p := 257) (by decide) 127
  · exact pow_odd (p := 12289) (by decide) 6143
  · exact pow_odd (p := 998244353) (by decide) 499122175
theorem neg_div {f : Int} (h : fV f = true) {s : Int} (h0 : 0 ≤ s) (h1 : s < fP f) : fNeg f (fDiv f s (fP f - 1)) = s := by
  unfold fNeg fDiv fSub fMul
  rw [fInv_minus h]
  simp only [h, if_true]
  rw [Int.sub_emod_emod]
  have : 0 - s * (fP f - 1) = s + fP f * (-s) := by
    rw [Int.mul_sub, Int.mul_one, Int.mul_neg, Int.mul_comm (fP f) s]; omega
  rw [this, Int.add_mul_emod_self_left, Int.emod_eq_of_lt h0 h1]
theorem def_holds {f : Int} (h : fV f = true) {s : Int} : fAdd f s (fMul f (fP f - 1) s) = 0 := by
  unfold fAdd fMul
  simp only [h, if_true]
  rw [Int.add_emod_emod]
  have : s + (fP f - 1) * s = fP f * s := by rw [Int.sub_mul, Int.one_mul]; omega
  rw [this, Int.mul_emod_right]
theorem fAdd_lt {f : Int} (h : fV f = true) (a b : Int) : 0 ≤ fAdd f a b ∧ fAdd f a b < fP f := by
  unfold fAdd
  rw [if_pos h]
  exact mod_bounds (fP_pos h)
theorem at0_app {V W : List Int} {i : Int} (h0 : 0 ≤ i) (h : i < V.length) : at0 (V ++ W) i = at0 V i := by
  unfold at0
  rw [List.getElem?_append_left (by omega)]
theorem at0_last {V W : List Int} {x : Int} : at0 (V ++ x :: W) V.length = x := by
  unfold at0
  rw [Int.toNat_natCast, List.getElem?_append_right (Nat.le_refl _), Nat.sub_self]; rfl
theorem sum_app (f : Int) {r : Row} {V W : List Int} (h0 : r.ql ≠ 0 ∨ r.qm ≠ 0 → 0 ≤ r.w0 ∧ r.w0 < V.length) (h1 : r.qr ≠ 0 ∨ r.qm ≠ 0 → 0 ≤ r.w1 ∧ r.w1 < V.length) : sumM f r (V ++ W) = sumM f r V := by
  have a : sumA r (V ++ W) = sumA r V := by
    unfold sumA
    split
    · rename_i h; exact at0_app (h0 h).1 (h0 h).2
    · rfl
  have b : sumB r (V ++ W) = sumB r V := by
    unfold sumB
    split
    · rename_i h; exact at0_app (h1 h).1 (h1 h).2
    · rfl
  unfold sumM
  rw [a, b]
theorem rowAt_pre {a b : List Row} (h : a <+: b) {i : Nat} (hi : i < a.length) : rowAt b i = rowAt a i := by
  obtain ⟨t, rfl⟩ := h
  unfold rowAt
  rw [List.getElem?_append_left hi]
theorem rowAt_last (a t : List Row) (r : Row) : rowAt (a ++ r :: t) a.length = r := by
  unfold rowAt
  rw [List.getElem?_append_right (Nat.le_refl _), Nat.sub_self]; rfl
theorem set_next {α : Type} (V : List α) (z x : α) {m : Nat} (hm : 0 < m) : (V ++ List.replicate m z).set V.length x = (V ++ [x]) ++ List.replicate (m - 1) z := by
  obtain ⟨k, rfl⟩ : ∃ k, m = k + 1 := ⟨m - 1, by omega⟩
  rw [List.set_append_right _ _ (Nat.le_refl _), Nat.sub_self, List.replicate_succ, List.set_cons_zero]
  simp
structure ArOk (f : Int) (n : Nat) (r : Row) : Prop where
  k : r.k = 1
  rd : r.rd = 0
  q : ∀ q ∈ r.qs, 0 ≤ q ∧ q < fP f
  w : ∀ k : Nat, k < 2 → -1 ≤ r.w k ∧ r.w k < n
  a : r.ql ≠ 0 ∨ r.qm ≠ 0 → 0 ≤ r.w0 ∧ r.w0 < n
  b : r.qr ≠ 0 ∨ r.qm ≠ 0 → 0 ≤ r.w1 ∧ r.w1 < n
  w3 : r.w3 = -1
theorem ArOk.nn {f : Int} {n : Nat} {r : Row} (h : ArOk f n r) : r.Nn := by
  refine ⟨(h.q r.ql ?_).1, (h.q r.qr ?_).1, (h.q r.qm ?_).1, (h.q r.qo ?_).1, (h.q r.qc ?_).1⟩ <;> simp [Row.qs]
theorem ArOk.formed {f : Int} {n : Nat} {r : Row} (h : ArOk f n r) {nv : Int} (hn : (n : Int) ≤ nv) (h2 : -1 ≤ r.w2 ∧ r.w2 < nv) (hq : r.qo ≠ 0 → 0 ≤ r.w2) : Formed f nv r := by
  refine ⟨by rw [h.k]; decide, by rw [h.rd]; decide, by rw [h.rd]; decide, fun _ => h.rd, fun q hq => ⟨(h.q q hq).2, fun hk => absurd h.k hk⟩, fun k hk => ?_, fun j hj => ?_⟩
  · match k, hk with
    | 0, _ => have := h.w 0 (by decide); exact ⟨this.1, by have := this.2; show r.w 0 < nv; omega⟩
    | 1, _ => have := h.w 1 (by decide); exact ⟨this.1, by have := this.2; show r.w 1 < nv; omega⟩
    | 2, _ => exact h2
    | 3, _ =>
      show -1 ≤ r.w3 ∧ r.w3 < nv
      rw [h.w3]
      omega
  · unfold rds at hj
    rw [if_pos h.k] at hj
    simp only [List.mem_append] at hj
    rcases hj with (hj | hj) | hj
    · split at hj
      · rename_i hc
        simp only [List.mem_cons, List.not_mem_nil, or_false] at hj
        subst hj
        exact (h.a hc).1
      · cases hj
    · split at hj
      · rename_i hc
        simp only [List.mem_cons, List.not_mem_nil, or_false] at hj
        subst hj
        exact (h.b hc).1
      · cases hj
    · split at hj
      · rename_i hc
        simp only [List.mem_cons, List.not_mem_nil, or_false] at hj
        subst hj
        exact hq hc
      · cases hj
end Go.VE
/- What a program with arithmetic rows computes: a builder's program. -/
namespace Go.VE
open Go Go.Proofs
set_option maxRecDepth 20000
structure In (xs : List Int) (d : Bd) (g : Gp) : Prop where
  f : g.f = d.f
  pub : g.pub = 0
  sec : g.sec = xs.length
  rows : d.rows <+: g.rows
  nv : d.nv ≤ g.nv
structure Sm (xs : List Int) (d : Bd) (V : List Int) (c : Prop) : Prop where
  e : d.e = 0
  f : fV d.f = true
  pub : d.pub = 0
  sec : d.sec = xs.length
  sl : xs.length ≤ 20000
  len : (V.length : Int) = d.nv
  nv : d.nv ≤ 40000
  inl : xs.length ≤ V.length
  rows : d.rows.length ≤ 8000
  rng : ∀ x ∈ V, 0 ≤ x ∧ x < fP d.f
  inb : ∀ x ∈ xs, 0 ≤ x ∧ x < fP d.f
  lim : ∀ i : Nat, i < d.rows.length → Formed d.f d.nv (rowAt d.rows i) ∧ ((rowAt d.rows i).k = 3 → i + 1 < d.rows.length ∧ ∀ k : Nat, k < 4 → 0 ≤ (rowAt d.rows (i + 1)).w k)
  nn : ∀ r ∈ d.rows, r.Nn
  ord : ∀ g, In xs d g → ∃ D, orderD g d.rows.length = some D ∧ D.length = g.nv.toNat ∧ ∀ i : Nat, i < g.nv.toNat → (0 ≤ at0 D i ↔ i < V.length)
  run : ∀ g, In xs d g → it (runR g) d.rows.length (it (runI [] xs) (g.pub + g.sec).toNat (run0 g)) = (V ++ List.replicate (g.nv.toNat - V.length) 0, List.replicate V.length true ++ List.replicate (g.nv.toNat - V.length) false)
  ok : ∀ g V', In xs d g → V <+: V' → (okM g V' d.rows.length = true ↔ c)
theorem In.mono {xs : List Int} {d d' : Bd} {g : Gp} (h : In xs d' g) (hf : d'.f = d.f) (hr : d.rows <+: d'.rows) (hn : d.nv ≤ d'.nv) : In xs d g := ⟨h.f.trans hf, h.pub, h.sec, hr.trans h.rows, Int.le_trans hn h.nv⟩
theorem Formed.mono {f nv nv' : Int} {r : Row} (h : Formed f nv r) (hn : nv ≤ nv') : Formed f nv' r :=
  ⟨h.1, h.2.1, h.2.2.1, h.2.2.2.1, h.2.2.2.2.1, fun k hk => ⟨(h.2.2.2.2.2.1 k hk).1, Int.lt_of_lt_of_le (h.2.2.2.2.2.1 k hk).2 hn⟩, h.2.2.2.2.2.2⟩
theorem Sm.done {xs V : List Int} {d : Bd} {c : Prop} (h : Sm xs d V c) : runOk d.gp [] xs ∧ (runV d.gp [] xs).1 = V ∧ (okM d.gp (runV d.gp [] xs).1 d.rows.length = true ↔ c) := by
  have hin : In xs d d.gp := ⟨rfl, h.pub, h.sec, List.prefix_refl _, Int.le_refl _⟩
  have hlen := h.len
  have hnv0 : d.gp.nv.toNat = V.length := by show d.nv.toNat = V.length; omega
  have hrun : (runV d.gp [] xs).1 = V := by
    unfold runV
    have := h.run d.gp hin
    rw [hnv0, Nat.sub_self] at this
    have e : it (runR d.gp) d.gp.rows.length (it (runI [] xs) (d.gp.pub + d.gp.sec).toNat (run0 d.gp)) = _ := this
    rw [e]
    simp
  refine ⟨⟨?_, ?_, ?_, rfl, ?_⟩, hrun, ?_⟩
  · unfold validM
    have hL : Limits d.gp := by
      refine ⟨h.f, ?_, ?_, ?_, ?_, ?_, h.nv, h.rows, fun i hi => h.lim i hi⟩
      · show 0 ≤ d.pub; rw [h.pub]; decide
      · show d.pub ≤ 16; rw [h.pub]; decide
      · show 0 ≤ d.sec; rw [h.sec]; omega
      · show d.sec ≤ 20000; rw [h.sec]; have := h.sl; omega
      · show d.pub + d.sec ≤ d.nv; rw [h.pub, h.sec]; have := h.inl; omega
    rw [decide_eq_true hL, Bool.true_and]
    obtain ⟨D, e, hDl, hD⟩ := h.ord d.gp hin
    unfold orderM
    have e' : orderD d.gp d.gp.rows.length = some D := e
    rw [e', Option.bind_some, if_pos]
    · rfl
    · rw [List.all_eq_true]
      intro x hx
      obtain ⟨i, hi, rfl⟩ := List.getElem_of_mem hx
      have := (hD i (by omega)).2 (by omega)
      unfold at0 at this
      rw [Int.toNat_natCast, List.getElem?_eq_getElem hi] at this
      simpa using this
  · show ((0 : Nat) : Int) = d.pub
    rw [h.pub]; rfl
  · exact h.sec.symm
  · unfold below
    rw [List.all_eq_true]
    intro x hx
    have := (h.inb x hx).2
    exact decide_eq_true this
  · rw [hrun]
    exact h.ok d.gp V hin (List.prefix_refl _)
theorem it_runI {xs : List Int} (N : Nat) : ∀ n, n ≤ xs.length → n ≤ N → it (runI [] xs) n (List.replicate N 0, List.replicate N false) = (xs.take n ++ List.replicate (N - n) 0, List.replicate n true ++ List.replicate (N - n) false)
  | 0, _, _ => by simp [it]
  | n + 1, h1, h2 => by
    rw [it, it_runI N n (by omega) (by omega)]
    have hl : (xs.take n).length = n := by rw [List.length_take]; omega
    have hi : xs[n]? = some xs[n] := List.getElem?_eq_getElem (by omega)
    have hinp : inp [] xs n = xs[n] := by
      unfold inp
      rw [if_neg (by simp)]
      unfold at0
      rw [show ((n : Int) - (([] : List Int).length : Nat)).toNat = n by simp, hi]; rfl
    unfold runI setV
    rw [hinp, Int.toNat_natCast]
    have e1 := set_next (xs.take n) 0 xs[n] (m := N - n) (by omega)
    rw [hl] at e1
    have e2 := set_next (List.replicate n true) false true (m := N - n) (by omega)
    rw [List.length_replicate] at e2
    rw [e1, e2, show N - n - 1 = N - (n + 1) by omega, take_succ_eq hi]
    congr 2
    simp [List.replicate_succ']
theorem dInit_it (n0 N : Nat) : ∀ n, n ≤ N → (it (dInit n0) n (List.replicate N 0)).length = N ∧ ∀ i : Nat, i < n → (0 ≤ at0 (it (dInit n0) n (List.replicate N 0)) i ↔ i < n0)
  | 0, _ => ⟨by simp [it], fun i hi => by omega⟩
  | n + 1, h => by
    obtain ⟨ih1, ih2⟩ := dInit_it n0 N n (by omega)
    rw [it]
    have get : ∀ (D : List Int) (x : Int) (i : Nat), D.length = N → at0 (D.set n x) i = if i = n then x else at0 D i := fun D x i hD => by
      unfold at0
      rw [Int.toNat_natCast, List.getElem?_set]
      by_cases hi : i = n
      · subst hi
        rw [if_pos rfl, if_pos (by omega), if_pos rfl]; rfl
      · rw [if_neg (by omega), if_neg hi]
    generalize it (dInit n0) n (List.replicate N 0) = D0 at ih1 ih2 ⊢
    unfold dInit
    by_cases hc : (n : Int) < n0
    · rw [if_pos hc]
      refine ⟨by simp [ih1], fun i hi => ?_⟩
      rw [get _ _ _ (by simp [ih1]), get _ _ _ ih1]
      by_cases hin : i = n
      · subst hin
        rw [if_pos rfl]
        constructor
        · intro; omega
        · intro; omega
      · rw [if_neg hin, if_neg hin]
        exact ih2 i (by omega)
    · rw [if_neg hc]
      refine ⟨by simp [ih1], fun i hi => ?_⟩
      rw [get _ _ _ ih1]
      by_cases hin : i = n
      · subst hin
        rw [if_pos rfl]
        constructor
        · intro; omega
        · intro; omega
      · rw [if_neg hin]
        exact ih2 i (by omega)
theorem Sm.start {xs : List Int} {f : Int} (hf : fV f = true) (hn : xs.length ≤ 20000) (hx : ∀ x ∈ xs, 0 ≤ x ∧ x < fP f) : Sm xs ⟨f, xs.length, 0, xs.length, [], 0⟩ xs True := by
  refine ⟨rfl, hf, rfl, rfl, hn, rfl, by show (xs.length : Int) ≤ 40000; omega, Nat.le_refl _, by show 0 ≤ 8000; omega, hx, hx, fun i hi => absurd hi (by show ¬ i < 0; omega), fun r hr => (by cases hr), fun g hg => ?_, fun g hg => ?_, fun g V' _ _ => ⟨fun _ => trivial, fun _ => rfl⟩⟩
  · have hnv : (xs.length : Int) ≤ g.nv := hg.nv
    have h := dInit_it xs.length g.nv.toNat g.nv.toNat (Nat.le_refl _)
    have e : g.pub + g.sec = (xs.length : Int) := by rw [hg.pub, hg.sec]; omega
    refine ⟨_, by show some _ = some _; rw [e], h.1, h.2⟩
  · have hnv : (xs.length : Int) ≤ g.nv := hg.nv
    have e : (g.pub + g.sec).toNat = xs.length := by rw [hg.pub, hg.sec]; omega
    show it (runI [] xs) (g.pub + g.sec).toNat (run0 g) = _
    rw [e]
    unfold run0
    rw [it_runI g.nv.toNat xs.length (Nat.le_refl _) (by omega), List.take_of_length_le (Nat.le_refl _)]
end Go.VE
/- What a program with arithmetic rows computes: one row more. -/
namespace Go.VE
open Go Go.Proofs
set_option maxRecDepth 20000
theorem mostM_some {r : Row} {D : List Int} : ∀ (l : List Int) {m : Int}, 0 ≤ m → (∀ j ∈ l, 0 ≤ at0 D (r.w j.toNat) ∨ (r.k = 1 ∧ j = 2)) → ∃ m', 0 ≤ m' ∧ mostM r D l m = some m'
  | [], m, hm, _ => ⟨m, hm, rfl⟩
  | j :: l, m, hm, h => by
    rw [mostM]
    have hj := h j (by simp)
    rw [if_neg (by
      rintro ⟨h1, h2⟩
      rcases hj with hj | hj
      · omega
      · exact h2 hj)]
    refine mostM_some l ?_ fun i hi => h i (by simp [hi])
    split <;> omega
theorem at0_set {D : List Int} {n : Nat} {x : Int} (hn : n < D.length) (i : Nat) : at0 (D.set n x) i = if i = n then x else at0 D i := by
  unfold at0
  rw [Int.toNat_natCast, List.getElem?_set]
  by_cases hi : i = n
  · subst hi
    rw [if_pos rfl, if_pos hn, if_pos rfl]; rfl
  · rw [if_neg (by omega), if_neg hi]
theorem ArOk.reads {f : Int} {n : Nat} {r : Row} (h : ArOk f n r) {j : Int} (hj : j ∈ rds r) : (0 ≤ r.w j.toNat ∧ r.w j.toNat < n) ∨ (r.k = 1 ∧ j = 2) := by
  unfold rds at hj
  rw [if_pos h.k] at hj
  simp only [List.mem_append] at hj
  rcases hj with (hj | hj) | hj
  · split at hj
    · rename_i hc
      simp only [List.mem_cons, List.not_mem_nil, or_false] at hj
      subst hj
      exact .inl (h.a hc)
    · cases hj
  · split at hj
    · rename_i hc
      simp only [List.mem_cons, List.not_mem_nil, or_false] at hj
      subst hj
      exact .inl (h.b hc)
    · cases hj
  · split at hj
    · simp only [List.mem_cons, List.not_mem_nil, or_false] at hj
      exact .inr ⟨h.k, hj⟩
    · cases hj
section
variable {xs V : List Int} {d : Bd} {c : Prop}
theorem sumM_bounds {f : Int} (h : fV f = true) (r : Row) (V : List Int) : 0 ≤ sumM f r V ∧ sumM f r V < fP f := fAdd_lt h _ _
theorem pre_last {a b : List Row} {r : Row} (h : a ++ [r] <+: b) : rowAt b a.length = r := by
  obtain ⟨t, rfl⟩ := h
  rw [List.append_assoc]
  exact rowAt_last a t r
theorem Sm.lim1 (h : Sm xs d V c) {r : Row} {nv : Int} (hn : d.nv ≤ nv) (hf : Formed d.f nv r) (hk : r.k ≠ 3) (i : Nat) (hi : i < (d.rows ++ [r]).length) :
    Formed d.f nv (rowAt (d.rows ++ [r]) i) ∧ ((rowAt (d.rows ++ [r]) i).k = 3 → i + 1 < (d.rows ++ [r]).length ∧ ∀ k : Nat, k < 4 → 0 ≤ (rowAt (d.rows ++ [r]) (i + 1)).w k) := by
  rw [List.length_append] at hi ⊢
  simp only [List.length_cons, List.length_nil] at hi ⊢
  rcases Nat.lt_or_ge i d.rows.length with hlt | hge
  · rw [rowAt_pre (List.prefix_append _ _) hlt]
    have hl := h.lim i hlt
    refine ⟨hl.1.mono hn, fun h3 => ?_⟩
    have := hl.2 h3
    rw [rowAt_pre (List.prefix_append _ _) this.1]
    exact ⟨by omega, this.2⟩
  · obtain rfl : i = d.rows.length := by omega
    rw [pre_last (List.prefix_refl _)]
    exact ⟨hf, fun h3 => absurd h3 hk⟩
theorem Sm.row (h : Sm xs d V c) {r : Row} (ha : ArOk d.f V.length r) {g : Gp} (hin : In xs d g) (hr : rowAt g.rows d.rows.length = r) :
    ∃ D m, orderD g d.rows.length = some D ∧ D.length = g.nv.toNat ∧ (∀ i : Nat, i < g.nv.toNat → (0 ≤ at0 D i ↔ i < V.length)) ∧ 0 ≤ m ∧ orderD g (d.rows.length + 1) = some (dArith r m D) := by
  obtain ⟨D, e, hl, hD⟩ := h.ord g hin
  have hnv := hin.nv
  have hlen := h.len
  obtain ⟨m, hm, em⟩ := mostM_some (r := r) (D := D) (rds r) (Int.le_refl 0) fun j hj => by
    rcases ha.reads hj with hw | hw
    · refine .inl ?_
      have := (hD (r.w j.toNat).toNat (by omega)).2 (by omega)
      rwa [Int.toNat_of_nonneg hw.1] at this
    · exact .inr hw
  refine ⟨D, m, e, hl, hD, hm, ?_⟩
  rw [orderD, e, Option.bind_some]
  unfold stepD
  rw [hr, em]
  show some (dRow r _ m D) = _
  unfold dRow
  rw [if_neg (by rw [ha.k]; decide)]
theorem Sm.define (h : Sm xs d V c) {r : Row} (ha : ArOk d.f V.length r) (hq : r.qo = fP d.f - 1) (h2 : r.w2 = d.nv) (hr : d.rows.length < 8000) (hn : d.nv < 40000) : Sm xs (d.add 1 [r]) (V ++ [sumM d.f r V]) c := by
  have hlen := h.len
  have hp := fP_one h.f
  have hq0 : r.qo ≠ 0 := by omega
  have hnn : 0 ≤ d.nv := by omega
  have mono : ∀ {g}, In xs (d.add 1 [r]) g → In xs d g := fun hg => hg.mono rfl (List.prefix_append _ _) (by show d.nv ≤ d.nv + 1; omega)
  have hk3 : r.k ≠ 3 := by rw [ha.k]; decide
  refine ⟨h.e, h.f, h.pub, h.sec, h.sl, ?_, ?_, ?_, ?_, ?_, h.inb, ?_, ?_, fun g hg => ?_, fun g hg => ?_, fun g V' hg hV => ?_⟩
  · show ((V ++ [sumM d.f r V]).length : Int) = d.nv + 1
    rw [List.length_append]; simp only [List.length_cons, List.length_nil]; omega
  · show d.nv + 1 ≤ 40000; omega
  · rw [List.length_append]; have := h.inl; omega
  · show (d.rows ++ [r]).length ≤ 8000
    rw [List.length_append]; simp only [List.length_cons, List.length_nil]; omega
  · intro x hx
    rcases List.mem_append.1 hx with hx | hx
    · exact h.rng x hx
    · simp only [List.mem_cons, List.not_mem_nil, or_false] at hx
      rw [hx]
      exact sumM_bounds h.f r V
  · intro i hi
    refine h.lim1 (r := r) (nv := d.nv + 1) (by omega) (ha.formed (by omega) ⟨by omega, by omega⟩ (fun _ => by omega)) hk3 i hi
  · intro x hx
    rcases List.mem_append.1 hx with hx | hx
    · exact h.nn x hx
    · simp only [List.mem_cons, List.not_mem_nil, or_false] at hx
      rw [hx]
      exact ha.nn
  · have hgn : d.nv + 1 ≤ g.nv := hg.nv
    obtain ⟨D, m, e, hl, hD, hm, e1⟩ := h.row ha (mono hg) (pre_last hg.rows)
    have hw : at0 D r.w2 < 0 := by
      have hq : ¬ 0 ≤ at0 D (V.length : Nat) := fun hh => absurd ((hD V.length (by omega)).1 hh) (Nat.lt_irrefl _)
      rw [h2, ← hlen]
      omega
    have hset : dArith r m D = D.set V.length (m + 1) := by
      unfold dArith
      rw [if_pos ⟨ha.k, hq0, hw⟩, h2, ← hlen, Int.toNat_natCast]
    have hlr : (d.add 1 [r]).rows.length = d.rows.length + 1 := by show (d.rows ++ [r]).length = _; simp
    refine ⟨D.set V.length (m + 1), by rw [hlr, e1, hset], by rw [List.length_set]; exact hl, fun i hi => ?_⟩
    rw [at0_set (by omega), List.length_append]
    simp only [List.length_cons, List.length_nil]
    by_cases hiv : i = V.length
    · rw [if_pos hiv]
      constructor <;> intro <;> omega
    · rw [if_neg hiv, hD i hi]
      omega
  · have hgn : d.nv + 1 ≤ g.nv := hg.nv
    have hlr : (d.add 1 [r]).rows.length = d.rows.length + 1 := by show (d.rows ++ [r]).length = _; simp
    rw [hlr, it, h.run g (mono hg)]
    unfold runR
    rw [pre_last hg.rows]
    have hgf : g.f = d.f := hg.f
    have hB : atB (List.replicate V.length true ++ List.replicate (g.nv.toNat - V.length) false) r.w2 = false := by
      unfold atB
      rw [h2, ← hlen, Int.toNat_natCast, List.getElem?_append_right (by simp)]
      simp only [List.length_replicate, Nat.sub_self]
      rw [List.getElem?_replicate]
      rw [if_pos (by omega)]; rfl
    have hA : runA g.f r (V ++ List.replicate (g.nv.toNat - V.length) 0, List.replicate V.length true ++ List.replicate (g.nv.toNat - V.length) false) = (V ++ [sumM d.f r V] ++ List.replicate (g.nv.toNat - (V ++ [sumM d.f r V]).length) 0, List.replicate (V ++ [sumM d.f r V]).length true ++ List.replicate (g.nv.toNat - (V ++ [sumM d.f r V]).length) false) := by
      unfold runA
      rw [if_pos ⟨ha.k, hq0, hB⟩]
      unfold setV
      simp only
      rw [hgf, sum_app d.f (fun hc => ha.a hc) (fun hc => ha.b hc), hq, neg_div h.f (sumM_bounds h.f r V).1 (sumM_bounds h.f r V).2, h2, ← hlen, Int.toNat_natCast, set_next V 0 _ (by omega)]
      have e2 := set_next (List.replicate V.length true) false true (m := g.nv.toNat - V.length) (by omega)
      rw [List.length_replicate] at e2
      rw [e2, List.length_append]
      simp only [List.length_cons, List.length_nil]
      rw [show g.nv.toNat - V.length - 1 = g.nv.toNat - (V.length + (0 + 1)) by omega]
      congr 2
      simp [List.replicate_succ']
    rw [hA]
    unfold runB
    rw [if_neg hk3]
  · have hlr : (d.add 1 [r]).rows.length = d.rows.length + 1 := by show (d.rows ++ [r]).length = _; simp
    have hgf : g.f = d.f := hg.f
    rw [hlr, okM, pre_last hg.rows, Bool.and_eq_true, h.ok g V' (mono hg) ((List.prefix_append _ _).trans hV)]
    obtain ⟨W, rfl⟩ := hV
    have hh : holdsR g.f r (rowAt g.rows (d.rows.length + 1)) (V ++ [sumM d.f r V] ++ W) = true := by
      unfold holdsR
      rw [if_pos ha.k, if_pos hq0, hgf, hq, List.append_assoc, sum_app d.f (fun hc => ha.a hc) (fun hc => ha.b hc), h2, ← hlen]
      rw [show V ++ ([sumM d.f r V] ++ W) = V ++ sumM d.f r V :: W from rfl, at0_last, def_holds h.f]
      rfl
    rw [hh]
    simp
theorem Sm.ask (h : Sm xs d V c) {r : Row} (ha : ArOk d.f V.length r) (hq : r.qo = 0) (h2 : r.w2 = -1) (hr : d.rows.length < 8000) : Sm xs (d.add 0 [r]) V (c ∧ sumM d.f r V = 0) := by
  have hlen := h.len
  have mono : ∀ {g}, In xs (d.add 0 [r]) g → In xs d g := fun hg => hg.mono rfl (List.prefix_append _ _) (by show d.nv ≤ d.nv + 0; omega)
  have hk3 : r.k ≠ 3 := by rw [ha.k]; decide
  refine ⟨h.e, h.f, h.pub, h.sec, h.sl, ?_, ?_, h.inl, ?_, h.rng, h.inb, ?_, ?_, fun g hg => ?_, fun g hg => ?_, fun g V' hg hV => ?_⟩
  · show (V.length : Int) = d.nv + 0; omega
  · show d.nv + 0 ≤ 40000; have := h.nv; omega
  · show (d.rows ++ [r]).length ≤ 8000
    rw [List.length_append]; simp only [List.length_cons, List.length_nil]; omega
  · intro i hi
    refine h.lim1 (r := r) (nv := d.nv + 0) (by omega) (ha.formed (by omega) ⟨by omega, by omega⟩ (fun hc => absurd hq hc)) hk3 i hi
  · intro x hx
    rcases List.mem_append.1 hx with hx | hx
    · exact h.nn x hx
    · simp only [List.mem_cons, List.not_mem_nil, or_false] at hx
      rw [hx]
      exact ha.nn
  · obtain ⟨D, m, e, hl, hD, hm, e1⟩ := h.row ha (mono hg) (pre_last hg.rows)
    have hset : dArith r m D = D := by
      unfold dArith
      rw [if_neg (fun hc => hc.2.1 hq)]
    have hlr : (d.add 0 [r]).rows.length = d.rows.length + 1 := by show (d.rows ++ [r]).length = _; simp
    exact ⟨D, by rw [hlr, e1, hset], hl, hD⟩
  · have hlr : (d.add 0 [r]).rows.length = d.rows.length + 1 := by show (d.rows ++ [r]).length = _; simp
    rw [hlr, it, h.run g (mono hg)]
    unfold runR
    rw [pre_last hg.rows]
    unfold runA
    rw [if_neg (fun hc => hc.2.1 hq)]
    unfold runB
    rw [if_neg hk3]
  · have hlr : (d.add 0 [r]).rows.length = d.rows.length + 1 := by show (d.rows ++ [r]).length = _; simp
    have hgf : g.f = d.f := hg.f
    rw [hlr, okM, pre_last hg.rows, Bool.and_eq_true, h.ok g V' (mono hg) hV]
    obtain ⟨W, rfl⟩ := hV
    have hh : holdsR g.f r (rowAt g.rows (d.rows.length + 1)) (V ++ W) = decide (sumM d.f r V = 0) := by
      unfold holdsR
      rw [if_pos ha.k, hgf, sum_app d.f (fun hc => ha.a hc) (fun hc => ha.b hc)]
      have hm : (if r.qo ≠ 0 then fAdd d.f (sumM d.f r V) (fMul d.f r.qo (at0 (V ++ W) r.w2)) else sumM d.f r V) = sumM d.f r V := if_neg (fun hc => hc hq)
      simp only [hm]
    rw [hh, decide_eq_true_eq]
end
end Go.VE
/- What a builder's methods mean. -/
namespace Go.VE
open Go Go.Proofs
set_option maxRecDepth 20000
theorem mul_mod2 (a b p : Int) : a * (b % p) % p = a * b % p := by rw [Int.mul_emod, Int.emod_emod, ← Int.mul_emod]
theorem sumM_eq {f : Int} (h : fV f = true) (r : Row) (V : List Int) : sumM f r V = (r.ql * at0 V r.w0 + r.qr * at0 V r.w1 + r.qm * (at0 V r.w0 * at0 V r.w1) + r.qc) % fP f := by
  have a1 : r.ql * sumA r V = r.ql * at0 V r.w0 := by
    unfold sumA
    split
    · rfl
    · rename_i hc
      have : r.ql = 0 := by
        rcases Int.lt_trichotomy r.ql 0 with h | h | h
        · exact absurd (.inl (by omega)) hc
        · exact h
        · exact absurd (.inl (by omega)) hc
      rw [this, Int.zero_mul, Int.zero_mul]
  have b1 : r.qr * sumB r V = r.qr * at0 V r.w1 := by
    unfold sumB
    split
    · rfl
    · rename_i hc
      have : r.qr = 0 := by
        rcases Int.lt_trichotomy r.qr 0 with h | h | h
        · exact absurd (.inl (by omega)) hc
        · exact h
        · exact absurd (.inl (by omega)) hc
      rw [this, Int.zero_mul, Int.zero_mul]
  have c1 : r.qm * (sumA r V * sumB r V) = r.qm * (at0 V r.w0 * at0 V r.w1) := by
    by_cases hq : r.qm = 0
    · rw [hq, Int.zero_mul, Int.zero_mul]
    · unfold sumA sumB
      rw [if_pos (.inr hq), if_pos (.inr hq)]
  unfold sumM fAdd fMul
  simp only [h, if_true]
  rw [a1, b1, mul_mod2, c1]
  simp only [Int.emod_add_emod, Int.add_emod_emod]
section
variable {xs V : List Int} {d : Bd} {c : Prop}
theorem Sm.kn (h : Sm xs d V c) {l : List Int} (hl : ∀ v ∈ l, 0 ≤ v ∧ v < V.length) : kn d l = true := by
  have hlen := h.len
  unfold Go.VE.kn
  rw [Bool.and_eq_true, decide_eq_true_eq, List.all_eq_true]
  refine ⟨h.e, fun v hv => ?_⟩
  have := hl v hv
  unfold isVar
  rw [Bool.and_eq_true, decide_eq_true_eq, decide_eq_true_eq]
  omega
theorem mready_t {d : Bd} (he : d.e = 0) : mready d true = (d, true) := by
  unfold mready
  rw [if_neg (by simpa using he)]
  rfl
theorem mput_ok {d : Bd} (he : d.e = 0) {n : Int} {rows : List Row} (hf : ¬ d.full n rows) : mput d n rows = (d.add n rows, d.nv) := by
  unfold mput
  rw [if_neg (by simpa using he), if_neg hf]
theorem nums_t {d : Bd} {l : List Int} (h : ∀ v ∈ l, v < fP d.f) : nums d l = true := by
  unfold nums
  rw [List.all_eq_true]
  exact fun v hv => decide_eq_true (h v hv)
def rowV (f : Int) (V : List Int) (u v ql qr qm qc : Int) : Int := (ql * at0 V u + qr * at0 V v + qm * (at0 V u * at0 V v) + qc) % fP f
theorem arOk {f : Int} {n : Nat} {u v w ql qr qm qo qc : Int} (hu : -1 ≤ u ∧ u < n) (hv : -1 ≤ v ∧ v < n) (hq : ∀ q ∈ [ql, qr, qm, qo, qc], 0 ≤ q ∧ q < fP f) (ha : ql ≠ 0 ∨ qm ≠ 0 → 0 ≤ u) (hb : qr ≠ 0 ∨ qm ≠ 0 → 0 ≤ v) : ArOk f n (arithRow u v w ql qr qm qo qc) :=
  ⟨rfl, rfl, hq, fun k hk => by
    match k, hk with
    | 0, _ => exact hu
    | 1, _ => exact hv, fun h => ⟨ha h, hu.2⟩, fun h => ⟨hb h, hv.2⟩, rfl⟩
theorem Sm.defRow (h : Sm xs d V c) {u v ql qr qm qc : Int} (hu : -1 ≤ u ∧ u < V.length) (hv : -1 ≤ v ∧ v < V.length) (hq : ∀ q ∈ [ql, qr, qm, qc], 0 ≤ q ∧ q < fP d.f) (ha : ql ≠ 0 ∨ qm ≠ 0 → 0 ≤ u) (hb : qr ≠ 0 ∨ qm ≠ 0 → 0 ≤ v) (hr : d.rows.length < 8000) (hn : d.nv < 40000) :
    mput d 1 [arithRow u v d.nv ql qr qm (fP d.f - 1) qc] = (d.add 1 [arithRow u v d.nv ql qr qm (fP d.f - 1) qc], d.nv) ∧ Sm xs (d.add 1 [arithRow u v d.nv ql qr qm (fP d.f - 1) qc]) (V ++ [rowV d.f V u v ql qr qm qc]) c := by
  have hp := fP_one h.f
  refine ⟨mput_ok h.e (fun hf => ?_), ?_⟩
  · rcases hf with hf | hf
    · simp only [List.length_cons, List.length_nil] at hf; omega
    · omega
  · have hok : ArOk d.f V.length (arithRow u v d.nv ql qr qm (fP d.f - 1) qc) := arOk hu hv (fun q hq' => by
      simp only [List.mem_cons, List.not_mem_nil, or_false] at hq'
      rcases hq' with rfl | rfl | rfl | rfl | rfl
      · exact hq _ (by simp)
      · exact hq _ (by simp)
      · exact hq _ (by simp)
      · omega
      · exact hq _ (by simp)) ha hb
    have := h.define hok rfl rfl hr hn
    rw [sumM_eq h.f] at this
    exact this
theorem Sm.linear (h : Sm xs d V c) {u v x y z : Int} (hu : 0 ≤ u ∧ u < V.length) (hv : 0 ≤ v ∧ v < V.length) (hx : 0 ≤ x ∧ x < fP d.f) (hy : 0 ≤ y ∧ y < fP d.f) (hz : 0 ≤ z ∧ z < fP d.f) (hr : d.rows.length < 8000) (hn : d.nv < 40000) :
    (mLinear d u v x y z).2 = V.length ∧ (mLinear d u v x y z).1.f = d.f ∧ (mLinear d u v x y z).1.rows.length = d.rows.length + 1 ∧ Sm xs (mLinear d u v x y z).1 (V ++ [(x * at0 V u + y * at0 V v + z) % fP d.f]) c := by
  have hp := fP_one h.f
  obtain ⟨e1, e2⟩ := h.defRow (u := u) (v := v) (ql := x) (qr := y) (qm := 0) (qc := z) (by omega) (by omega) (fun q hq => by
    simp only [List.mem_cons, List.not_mem_nil, or_false] at hq
    rcases hq with rfl | rfl | rfl | rfl <;> omega) (fun _ => hu.1) (fun _ => hv.1) hr hn
  have em : mLinear d u v x y z = (d.add 1 [arithRow u v d.nv x y 0 (fP d.f - 1) z], d.nv) := by
    unfold mLinear
    rw [h.kn (l := [u, v]) (by simp; omega), nums_t (by simp; omega), Bool.and_true, mready_t h.e, if_pos rfl, e1]
  rw [em]
  refine ⟨h.len.symm, rfl, by show (d.rows ++ [_]).length = _; simp, ?_⟩
  have : rowV d.f V u v x y 0 z = (x * at0 V u + y * at0 V v + z) % fP d.f := by unfold rowV; rw [Int.zero_mul, Int.add_zero]
  rw [← this]
  exact e2
theorem Sm.mul (h : Sm xs d V c) {u v : Int} (hu : 0 ≤ u ∧ u < V.length) (hv : 0 ≤ v ∧ v < V.length) (hr : d.rows.length < 8000) (hn : d.nv < 40000) :
    (mMul d u v).2 = V.length ∧ (mMul d u v).1.f = d.f ∧ (mMul d u v).1.rows.length = d.rows.length + 1 ∧ Sm xs (mMul d u v).1 (V ++ [at0 V u * at0 V v % fP d.f]) c := by
  have hp := fP_one h.f
  obtain ⟨e1, e2⟩ := h.defRow (u := u) (v := v) (ql := 0) (qr := 0) (qm := 1) (qc := 0) (by omega) (by omega) (fun q hq => by
    simp only [List.mem_cons, List.not_mem_nil, or_false] at hq
    rcases hq with rfl | rfl | rfl | rfl <;> omega) (fun _ => hu.1) (fun _ => hv.1) hr hn
  have em : mMul d u v = (d.add 1 [arithRow u v d.nv 0 0 1 (fP d.f - 1) 0], d.nv) := by
    unfold mMul
    rw [h.kn (l := [u, v]) (by simp; omega), nums_t (by simp), Bool.and_true, mready_t h.e, if_pos rfl, e1]
  rw [em]
  refine ⟨h.len.symm, rfl, by show (d.rows ++ [_]).length = _; simp, ?_⟩
  have : rowV d.f V u v 0 0 1 0 = at0 V u * at0 V v % fP d.f := by unfold rowV; simp
  rw [← this]
  exact e2
theorem Sm.const (h : Sm xs d V c) {x : Int} (hx : 0 ≤ x ∧ x < fP d.f) (hr : d.rows.length < 8000) (hn : d.nv < 40000) :
    (mConst d x).2 = V.length ∧ (mConst d x).1.f = d.f ∧ (mConst d x).1.rows.length = d.rows.length + 1 ∧ Sm xs (mConst d x).1 (V ++ [x]) c := by
  have hp := fP_one h.f
  obtain ⟨e1, e2⟩ := h.defRow (u := -1) (v := -1) (ql := 0) (qr := 0) (qm := 0) (qc := x) (by omega) (by omega) (fun q hq => by
    simp only [List.mem_cons, List.not_mem_nil, or_false] at hq
    rcases hq with rfl | rfl | rfl | rfl <;> omega) (fun hh => by simp at hh) (fun hh => by simp at hh) hr hn
  have em : mConst d x = (d.add 1 [arithRow (-1) (-1) d.nv 0 0 0 (fP d.f - 1) x], d.nv) := by
    unfold mConst
    rw [nums_t (by simp; omega), Bool.and_true, mready_t h.e, if_pos rfl, e1]
  rw [em]
  refine ⟨h.len.symm, rfl, by show (d.rows ++ [_]).length = _; simp, ?_⟩
  have : rowV d.f V (-1) (-1) 0 0 0 x = x := by
    unfold rowV
    simp only [Int.zero_mul, Int.zero_add, Int.add_zero]
    exact Int.emod_eq_of_lt hx.1 hx.2
  have e3 := e2
  rw [this] at e3
  exact e3
theorem Sm.val (h : Sm xs d V c) {u : Int} (hu : 0 ≤ u ∧ u < V.length) : 0 ≤ at0 V u ∧ at0 V u < fP d.f := h.rng _ (List.mem_of_getElem? (at0_get hu.1 hu.2))
theorem Sm.zero (h : Sm xs d V c) {u : Int} (hu : 0 ≤ u ∧ u < V.length) (hr : d.rows.length < 8000) :
    (mZero d u).f = d.f ∧ (mZero d u).rows.length = d.rows.length + 1 ∧ Sm xs (mZero d u) V (c ∧ at0 V u = 0) := by
  have hp := fP_one h.f
  have hnv := h.nv
  have em : mZero d u = d.add 0 [arithRow u (-1) (-1) 1 0 0 0 0] := by
    unfold mZero
    rw [h.kn (l := [u]) (by simp; omega), nums_t (by simp), Bool.and_true, mready_t h.e, if_pos rfl, mput_ok h.e]
    rintro (hf | hf)
    · simp only [List.length_cons, List.length_nil] at hf; omega
    · omega
  have hok : ArOk d.f V.length (arithRow u (-1) (-1) 1 0 0 0 0) := arOk (by omega) (by omega) (fun q hq => by
    simp only [List.mem_cons, List.not_mem_nil, or_false] at hq
    rcases hq with rfl | rfl | rfl | rfl | rfl <;> omega) (fun _ => hu.1) (fun hh => by simp at hh)
  have := h.ask hok rfl rfl hr
  rw [sumM_eq h.f] at this
  rw [em]
  refine ⟨rfl, by show (d.rows ++ [_]).length = _; simp, ?_⟩
  have e : ((arithRow u (-1) (-1) 1 0 0 0 0).ql * at0 V (arithRow u (-1) (-1) 1 0 0 0 0).w0 + (arithRow u (-1) (-1) 1 0 0 0 0).qr * at0 V (arithRow u (-1) (-1) 1 0 0 0 0).w1 + (arithRow u (-1) (-1) 1 0 0 0 0).qm * (at0 V (arithRow u (-1) (-1) 1 0 0 0 0).w0 * at0 V (arithRow u (-1) (-1) 1 0 0 0 0).w1) + (arithRow u (-1) (-1) 1 0 0 0 0).qc) % fP d.f = at0 V u := by
    show (1 * at0 V u + 0 * at0 V (-1) + 0 * (at0 V u * at0 V (-1)) + 0) % fP d.f = at0 V u
    simp only [Int.zero_mul, Int.one_mul, Int.add_zero]
    exact Int.emod_eq_of_lt (h.val hu).1 (h.val hu).2
  rw [e] at this
  exact this
end
end Go.VE
/- What Pack, Canonical mean. -/
namespace Go.VE
open Go Go.Proofs
set_option maxRecDepth 20000
section
variable {xs V : List Int} {d : Bd} {c : Prop}
theorem at0_pre {V W : List Int} (h : V <+: W) {u : Int} (hu : 0 ≤ u ∧ u < V.length) : at0 W u = at0 V u := by
  obtain ⟨t, rfl⟩ := h
  exact at0_app hu.1 hu.2
theorem Sm.packs : ∀ (l : List Int) {d : Bd} {V : List Int} {w : Int} (_ : Sm xs d V c) (_ : 2 < fP d.f) (_ : ∀ b ∈ l, 0 ≤ b ∧ b < V.length) (_ : 0 ≤ w ∧ w < V.length) (_ : d.rows.length + l.length ≤ 8000) (_ : d.nv + l.length ≤ 40000),
    ∃ W, Sm xs (packGo l (d, w)).1 W c ∧ V <+: W ∧ W.length = V.length + l.length ∧ (packGo l (d, w)).1.f = d.f ∧ (packGo l (d, w)).1.rows.length = d.rows.length + l.length ∧ (0 ≤ (packGo l (d, w)).2 ∧ (packGo l (d, w)).2 < W.length) ∧
      at0 W (packGo l (d, w)).2 = l.foldl (fun a b => (2 * a + at0 V b) % fP d.f) (at0 V w)
  | [], d, V, w, h, _, _, hf, _, _ => ⟨V, h, List.prefix_refl _, rfl, rfl, rfl, hf, rfl⟩
  | b :: l, d, V, w, h, h2, hl, hf, hr, hn => by
    simp only [List.length_cons] at hr hn
    have hb := hl b (by simp)
    obtain ⟨e1, e2, e3, h1⟩ := h.linear (x := 2) (y := 1) (z := 0) hf hb (by omega) (by omega) (by omega) (by omega) (by omega)
    have hlen := h.len
    have hlen1 := h1.len
    generalize hval : (2 * at0 V w + 1 * at0 V b + 0) % fP d.f = val at h1 hlen1
    have hval' : (2 * at0 V w + at0 V b) % fP d.f = val := by rw [← hval, Int.one_mul, Int.add_zero]
    have hVl : (V ++ [val]).length = V.length + 1 := by simp
    obtain ⟨W, g1, g2, g3, g4, g5, g6, g7⟩ := Sm.packs l h1 (w := (mLinear d w b 2 1 0).2) (by rw [e2]; exact h2) (fun x hx => by have := hl x (by simp [hx]); rw [hVl]; omega) (by rw [e1, hVl]; omega) (by omega) (by omega)
    rw [packGo]
    have ep : ((mLinear d w b 2 1 0).1, (mLinear d w b 2 1 0).2) = mLinear d w b 2 1 0 := rfl
    rw [ep] at g1 g4 g5 g6 g7
    refine ⟨W, g1, (List.prefix_append _ _).trans g2, by rw [g3, hVl, List.length_cons]; omega, g4.trans e2, by rw [g5, e3, List.length_cons]; omega, g6, ?_⟩
    rw [g7, e1, e2, List.foldl_cons, hval']
    have el : at0 (V ++ [val]) (V.length : Nat) = val := at0_last (W := [])
    rw [el]
    have hfun : ∀ (l' : List Int) (a : Int), (∀ x ∈ l', 0 ≤ x ∧ x < V.length) → l'.foldl (fun a b' => (2 * a + at0 (V ++ [val]) b') % fP d.f) a = l'.foldl (fun a b => (2 * a + at0 V b) % fP d.f) a := by
      intro l'
      induction l' with
      | nil => intro a _; rfl
      | cons x l' ih =>
        intro a hx
        rw [List.foldl_cons, List.foldl_cons, at0_app (hx x (by simp)).1 (hx x (by simp)).2]
        exact ih _ fun y hy => hx y (by simp [hy])
    exact hfun l _ fun x hx => hl x (by simp [hx])
theorem undo_ok {d : Bd} (he : d.e = 0) (r : Nat) (nv : Int) : mUndo d r nv = d := by
  unfold mUndo
  rw [if_neg (by simpa using he)]
theorem Sm.pack (h : Sm xs d V c) (h2 : 2 < fP d.f) {bits : List Int} (hl : ∀ b ∈ bits, 0 ≤ b ∧ b < V.length) (hr : d.rows.length + bits.length < 8000) (hn : d.nv + bits.length < 40000) :
    ∃ W, Sm xs (mPack d bits).1 W c ∧ V <+: W ∧ W.length = V.length + bits.length + 1 ∧ (mPack d bits).1.f = d.f ∧ (mPack d bits).1.rows.length = d.rows.length + bits.length + 1 ∧ (0 ≤ (mPack d bits).2 ∧ (mPack d bits).2 < W.length) ∧
      at0 W (mPack d bits).2 = bits.reverse.foldl (fun a b => (2 * a + at0 V b) % fP d.f) 0 := by
  have hlen := h.len
  obtain ⟨e1, e2, e3, h1⟩ := h.const (x := 0) (by omega) (by omega) (by omega)
  have hlen1 := h1.len
  have hVl : (V ++ [(0 : Int)]).length = V.length + 1 := by simp
  obtain ⟨W, g1, g2, g3, g4, g5, g6, g7⟩ := Sm.packs bits.reverse h1 (w := (mConst d 0).2) (by rw [e2]; exact h2) (fun x hx => by have := hl x (List.mem_reverse.1 hx); rw [hVl]; omega) (by rw [e1, hVl]; omega) (by rw [List.length_reverse]; omega) (by rw [List.length_reverse]; omega)
  have ep : ((mConst d 0).1, (mConst d 0).2) = mConst d 0 := rfl
  rw [ep] at g1 g4 g5 g6 g7
  rw [List.length_reverse] at g3 g5
  have em : mPack d bits = ((packGo bits.reverse (mConst d 0)).1, (packGo bits.reverse (mConst d 0)).2) := by
    unfold mPack
    rw [h.kn hl, nums_t (by simp), Bool.and_true, mready_t h.e, if_pos rfl, undo_ok g1.e]
  rw [em]
  refine ⟨W, g1, (List.prefix_append _ _).trans g2, by rw [g3, hVl]; omega, g4.trans e2, by show (packGo bits.reverse (mConst d 0)).1.rows.length = _; rw [g5, e3]; omega, g6, ?_⟩
  show at0 W (packGo bits.reverse (mConst d 0)).2 = _
  rw [g7, e1, e2]
  have el : at0 (V ++ [(0 : Int)]) (V.length : Nat) = 0 := at0_last (W := [])
  rw [el]
  have hfun : ∀ (l' : List Int) (a : Int), (∀ x ∈ l', 0 ≤ x ∧ x < V.length) → l'.foldl (fun a b' => (2 * a + at0 (V ++ [(0 : Int)]) b') % fP d.f) a = l'.foldl (fun a b => (2 * a + at0 V b) % fP d.f) a := by
    intro l'
    induction l' with
    | nil => intro a _; rfl
    | cons x l' ih =>
      intro a hx
      rw [List.foldl_cons, List.foldl_cons, at0_app (hx x (by simp)).1 (hx x (by simp)).2]
      exact ih _ fun y hy => hx y (by simp [hy])
  exact hfun _ _ fun x hx => hl x (List.mem_reverse.1 hx)
end
end Go.VE
/- CircuitCanonical: the plain law. -/
namespace Go.VE
open Go Go.Proofs
set_option maxRecDepth 20000
end Go.VE
/- CircuitCanonical at every start. -/
namespace Go.VE
open Go Go.Proofs
set_option maxRecDepth 20000
def fieldsB (l : List AO) : Bool :=
  match (l[0]? : Option AO) with
  | some (AO.cells c _ _) => (match c with
    | [a0, a1, a2, a3, .slice x0 n0 c0, a5, a6, a7, a8, .slice x1 n1 c1, a10, a11, a12, a13, .slice x2 n2 c2, a15, a16, a17, a18, .slice x3 n3 c3] =>
      veqL [a0, a1, a2, a3, a5, a6, a7, a8, a10, a11, a12, a13, a15, a16, a17, a18] [.int .u64 97, .int .u64 5, .int .i64 5, .int .i64 5, .int .u64 257, .int .u64 3, .int .i64 8, .int .i64 3, .int .u64 12289, .int .u64 11, .int .i64 12, .int .i64 5, .int .u64 998244353, .int .u64 3, .int .i64 23, .int .i64 3]
    | _ => false)
  | _ => false
theorem fieldsB_spec {l : List AO} (h : fieldsB l = true) {s : St} (hs : ∀ i, i < l.length → s.at i = l[i]?) : FieldsAt s := by
  unfold fieldsB at h
  split at h
  · rename_i c t o h0
    split at h
    · rename_i a0 a1 a2 a3 x0 n0 c0 a5 a6 a7 a8 x1 n1 c1 a10 a11 a12 a13 x2 n2 c2 a15 a16 a17 a18 x3 n3 c3
      have e := veqL_eq _ _ h
      simp only [List.cons.injEq, and_true] at e
      obtain ⟨rfl, rfl, rfl, rfl, rfl, rfl, rfl, rfl, rfl, rfl, rfl, rfl, rfl, rfl, rfl, rfl⟩ := e
      have hl : 0 < l.length := (List.getElem?_eq_some_iff.1 h0).1
      exact ⟨x0, x1, x2, x3, n0, n1, n2, n3, c0, c1, c2, c3, t, o, (hs 0 hl).trans h0⟩
    · cases h
  · cases h
noncomputable def startB (laid : List (String × DataW Unit)) : Bool :=
  match absLaid P 30 laid P.globals.size with
  | some x => lastIn P.globals.size x.1 && fieldsB (absHeap P.globals.size x)
  | none => false
theorem law_runs' {f : Nat} {fid : FuncId} {ts : List TypeId} {laid : List (String × DataW Unit)} (h : startB laid = true)
    (run : ∀ (s : St) (al : List Value), Wf s → FieldsAt s → 0 < s.n → Args P f ts al s → CallWP P s.n fid al s fun v _ => v = .bool true) : LawRuns P 30 f fid ts laid := by
  unfold startB at h
  refine law_runs ?_ fun gs bl hx s al hw _ hs hl ha => ?_
  · split at h
    · rename_i x hx
      rw [hx]
      simp only [Bool.and_eq_true] at h
      exact h.1
    · cases h
  · rw [hx] at h
    simp only [Bool.and_eq_true] at h
    have hF := fieldsB_spec h.2 hs
    exact run s al hw hF hF.lt ha
end Go.VE
/- What Perm means: the rows of eight rounds. -/
namespace Go.VE
open Go Go.Proofs
set_option maxRecDepth 20000
def pst (f : Int) (s : List Int) : Nat → List Int
  | 0 => s
  | i + 1 => roundM f i (pst f s i)
def pnews (f : Int) (s : List Int) : Nat → List Int
  | 0 => []
  | i + 1 => pnews f s i ++ pst f s (i + 1)
theorem pst_len (f : Int) {s : List Int} (hs : s.length = 4) : ∀ i, (pst f s i).length = 4
  | 0 => hs
  | i + 1 => roundM_len _ _ _
theorem pnews_len (f : Int) (s : List Int) : ∀ i, (pnews f s i).length = 4 * i
  | 0 => rfl
  | i + 1 => by rw [pnews, List.length_append, pnews_len f s i]; show 4 * i + (roundM f i (pst f s i)).length = _; rw [roundM_len]; omega
theorem at0_off {A B W : List Int} {k : Nat} (hk : k < B.length) : at0 (A ++ B ++ W) ((A.length : Int) + k) = at0 B k := by
  unfold at0
  rw [show ((A.length : Int) + k).toNat = A.length + k by omega, Int.toNat_natCast, List.append_assoc, List.getElem?_append_right (by omega), show A.length + k - A.length = k by omega, List.getElem?_append_left hk]
theorem roundM_rng {f : Int} (h : fV f = true) (r : Int) (s : List Int) : ∀ x ∈ roundM f r s, 0 ≤ x ∧ x < fP f := by
  have hnn := roundM_nn f r s
  have key : ∀ (S : List Int) (i n : Nat) (t : List Int), (∀ x ∈ t, x < fP f) → ∀ x ∈ it (rnC f S i) n t, x < fP f := fun S i n => by
    induction n with
    | zero => intro t ht; exact ht
    | succ n ih =>
      intro t ht x hx
      rw [it] at hx
      unfold rnC at hx
      rcases List.mem_or_eq_of_mem_set hx with hx | hx
      · exact ih t ht x hx
      · rw [hx]; exact (fAdd_lt h _ _).2
  have key2 : ∀ (S : List Int) (n : Nat) (t : List Int), (∀ x ∈ t, x < fP f) → ∀ x ∈ it (rnD f S) n t, x < fP f := fun S n => by
    induction n with
    | zero => intro t ht; exact ht
    | succ n ih =>
      intro t ht
      rw [it]
      exact key S n 4 _ (ih t ht)
  intro x hx
  refine ⟨hnn x hx, key2 _ 4 [0, 0, 0, 0] (fun y hy => ?_) x hx⟩
  have : y = 0 := by simpa using hy
  have := fP_pos h
  omega
def permRow (nv : Int) (w : W4) (i : Nat) : Row := if i < 8 then roundRow (wiresAt nv w i) i else endRow (wiresAt nv w i)
theorem roundRows_get (nv : Int) (w : W4) : ∀ n i, i < n → (roundRows nv w n)[i]? = some (roundRow (wiresAt nv w i) i)
  | n + 1, i, h => by
    rw [roundRows]
    rcases Nat.lt_or_ge i n with hlt | hge
    · rw [List.getElem?_append_left (by rw [roundRows_len]; exact hlt)]
      exact roundRows_get nv w n i hlt
    · obtain rfl : i = n := by omega
      rw [List.getElem?_append_right (by rw [roundRows_len]; exact Nat.le_refl _), roundRows_len, Nat.sub_self]; rfl
theorem permRows_len (nv : Int) (w : W4) : (permRows nv w).length = 9 := by
  unfold permRows
  rw [List.length_append, roundRows_len]; rfl
theorem permRows_get (nv : Int) (w : W4) {i : Nat} (h : i < 9) : (permRows nv w)[i]? = some (permRow nv w i) := by
  unfold permRows permRow
  rcases Nat.lt_or_ge i 8 with hlt | hge
  · rw [List.getElem?_append_left (by rw [roundRows_len]; exact hlt), if_pos hlt]
    exact roundRows_get nv w 8 i hlt
  · obtain rfl : i = 8 := by omega
    rw [List.getElem?_append_right (by rw [roundRows_len]; exact Nat.le_refl _), roundRows_len, if_neg (by omega)]; rfl
theorem permRow_at {a b : List Row} {nv : Int} {w : W4} (h : a ++ permRows nv w <+: b) {i : Nat} (hi : i < 9) : rowAt b (a.length + i) = permRow nv w i := by
  rw [rowAt_pre h (by rw [List.length_append, permRows_len]; omega)]
  unfold rowAt
  rw [List.getElem?_append_right (by omega), show a.length + i - a.length = i by omega, permRows_get nv w hi]; rfl
theorem permRow_w (nv : Int) (w : W4) (i k : Nat) (hk : k < 4) : (permRow nv w (i + 1)).w k = nv + 4 * i + k := by
  unfold permRow
  have e : ∀ (q : W4) (r : Int), (roundRow q r).w k = (endRow q).w k := fun q r => by
    match k, hk with
    | 0, _ => rfl
    | 1, _ => rfl
    | 2, _ => rfl
    | 3, _ => rfl
  have e2 : (endRow (wiresAt nv w (i + 1))).w k = nv + 4 * i + k := by
    match k, hk with
    | 0, _ => show nv + 4 * (i : Int) = nv + 4 * i + 0; omega
    | 1, _ => rfl
    | 2, _ => rfl
    | 3, _ => rfl
  split
  · rw [e, e2]
  · exact e2
theorem permRow_k {nv : Int} {w : W4} {i : Nat} (h : i < 8) : (permRow nv w i).k = 3 := by unfold permRow; rw [if_pos h]; rfl
theorem permRow_rd {nv : Int} {w : W4} {i : Nat} (h : i < 8) : (permRow nv w i).rd = i := by unfold permRow; rw [if_pos h]; rfl
theorem permRow_k8 {nv : Int} {w : W4} : (permRow nv w 8).k = 0 := by unfold permRow; rw [if_neg (by decide)]; rfl
theorem permRow_wv0 {V W : List Int} {nv : Int} {w : W4} (hw : ∀ v ∈ w.list, 0 ≤ v ∧ v < V.length) : wv (V ++ W) (permRow nv w 0) = w.list.map (at0 V) := by
  unfold permRow
  rw [if_pos (by decide)]
  have e : wv (V ++ W) (roundRow (wiresAt nv w 0) (0 : Nat)) = [at0 (V ++ W) w.a, at0 (V ++ W) w.b, at0 (V ++ W) w.c, at0 (V ++ W) w.d] := rfl
  rw [e]
  have ha := hw w.a (by simp [W4.list])
  have hb := hw w.b (by simp [W4.list])
  have hc := hw w.c (by simp [W4.list])
  have hd := hw w.d (by simp [W4.list])
  rw [at0_app ha.1 ha.2, at0_app hb.1 hb.2, at0_app hc.1 hc.2, at0_app hd.1 hd.2]; rfl
theorem wv_list (X : List Int) (r : Row) {s : List Int} (hs : s.length = 4) (h : ∀ k : Nat, k < 4 → at0 X (r.w k) = at0 s k) : wv X r = s := by
  refine (eq4 (a := wv X r) rfl hs).2 fun k hk => ?_
  rw [wv_get _ _ hk]
  exact h k hk
theorem permRow_wvS {V W : List Int} {f : Int} {s : List Int} (hs : s.length = 4) {w : W4} (i : Nat) : wv (V ++ pnews f s (i + 1) ++ W) (permRow V.length w (i + 1)) = pst f s (i + 1) := by
  refine wv_list _ _ (pst_len f hs _) fun k hk => ?_
  rw [permRow_w _ _ _ _ hk, pnews, ← List.append_assoc]
  have hl : (V ++ pnews f s i).length = V.length + 4 * i := by rw [List.length_append, pnews_len]
  have := at0_off (A := V ++ pnews f s i) (B := pst f s (i + 1)) (W := W) (k := k) (by rw [pst_len f hs]; exact hk)
  rw [hl] at this
  rw [← this]
  congr 1
theorem permRow_wv {V W : List Int} {f : Int} {w : W4} (hw : ∀ v ∈ w.list, 0 ≤ v ∧ v < V.length) : ∀ i, wv (V ++ pnews f (w.list.map (at0 V)) i ++ W) (permRow V.length w i) = pst f (w.list.map (at0 V)) i
  | 0 => by rw [pnews, List.append_nil]; exact permRow_wv0 hw
  | i + 1 => permRow_wvS rfl i
theorem pnews_rng {f : Int} (h : fV f = true) (s : List Int) : ∀ i, ∀ x ∈ pnews f s i, 0 ≤ x ∧ x < fP f
  | 0, x, hx => by cases hx
  | i + 1, x, hx => by
    rw [pnews] at hx
    rcases List.mem_append.1 hx with hx | hx
    · exact pnews_rng h s i x hx
    · exact roundM_rng h _ _ x hx
section
variable {xs V : List Int} {d : Bd} {c : Prop}
theorem atB_ge {n m : Nat} {i : Int} (h : (n : Int) ≤ i) : atB (List.replicate n true ++ List.replicate m false) i = false := by
  unfold atB
  rw [List.getElem?_append_right (by simp; omega), List.getElem?_replicate]
  split <;> rfl
theorem runN_it {X q : List Int} {N : Nat} {nx : Row} (hN : X.length + 4 ≤ N) (hnx : ∀ k : Nat, k < 4 → nx.w k = X.length + k) (hq : q.length = 4) : ∀ k, k ≤ 4 → it (runN q nx) k (X ++ List.replicate (N - X.length) 0, List.replicate X.length true ++ List.replicate (N - X.length) false) = (X ++ q.take k ++ List.replicate (N - X.length - k) 0, List.replicate (X.length + k) true ++ List.replicate (N - X.length - k) false)
  | 0, _ => by simp [it]
  | k + 1, hk => by
    rw [it, runN_it hN hnx hq k (by omega)]
    unfold runN
    have hl : (X ++ q.take k).length = X.length + k := by rw [List.length_append, List.length_take]; omega
    rw [hnx k (by omega)]
    simp only
    rw [if_pos (atB_ge (by omega))]
    unfold setV
    simp only
    rw [show ((X.length : Int) + k).toNat = X.length + k by omega]
    have e1 := set_next (X ++ q.take k) 0 (at0 q k) (m := N - X.length - k) (by omega)
    rw [hl] at e1
    have e2 := set_next (List.replicate (X.length + k) true) false true (m := N - X.length - k) (by omega)
    rw [List.length_replicate] at e2
    have hqk : q.take (k + 1) = q.take k ++ [at0 q k] := by
      have := at0_get (l := q) (i := (k : Int)) (by omega) (by omega)
      rw [Int.toNat_natCast] at this
      exact take_succ_eq this
    rw [e1, e2, hqk, ← List.append_assoc, show N - X.length - k - 1 = N - X.length - (k + 1) by omega]
    congr 2
    rw [show X.length + (k + 1) = X.length + k + 1 by omega, List.replicate_succ']
theorem dNext_it {D : List Int} {m : Int} (hm : 0 ≤ m) {N n : Nat} (hl : D.length = N) (hN : n + 4 ≤ N) {nx : Row} (hnx : ∀ k : Nat, k < 4 → nx.w k = n + k) (hD : ∀ i : Nat, i < N → (0 ≤ at0 D i ↔ i < n)) : ∀ k, k ≤ 4 → (it (dNext m nx) k D).length = N ∧ ∀ i : Nat, i < N → (0 ≤ at0 (it (dNext m nx) k D) i ↔ i < n + k)
  | 0, _ => ⟨hl, hD⟩
  | k + 1, hk => by
    obtain ⟨h1, h2⟩ := dNext_it hm hl hN hnx hD k (by omega)
    rw [it]
    generalize it (dNext m nx) k D = D0 at h1 h2 ⊢
    unfold dNext
    rw [hnx k (by omega)]
    have hneg : at0 D0 ((n : Int) + k) < 0 := by
      have h3 := h2 (n + k) (by omega)
      have : ¬ 0 ≤ at0 D0 ((n + k : Nat) : Int) := fun hh => absurd (h3.1 hh) (by omega)
      have e : ((n + k : Nat) : Int) = (n : Int) + k := rfl
      rw [e] at this
      omega
    rw [if_pos hneg, show ((n : Int) + k).toNat = n + k by omega]
    refine ⟨by rw [List.length_set]; exact h1, fun i hi => ?_⟩
    rw [at0_set (by omega)]
    by_cases hin : i = n + k
    · rw [if_pos hin]
      constructor <;> intro <;> omega
    · rw [if_neg hin, h2 i hi]
      omega
end
end Go.VE
/- What Perm means. -/
namespace Go.VE
open Go Go.Proofs
set_option maxRecDepth 20000
section
variable {xs V : List Int} {d : Bd} {c : Prop}
theorem permRow_formed {f nv : Int} {w : W4} {n : Nat} (hf : fV f = true) (hnv : nv = n) (hw : ∀ v ∈ w.list, 0 ≤ v ∧ v < n) {i : Nat} (hi : i < 9) : Formed f (nv + 32) (permRow nv w i) ∧ ∀ k : Nat, k < 4 → 0 ≤ (permRow nv w i).w k := by
  have hp := fP_one hf
  have hwk : ∀ k : Nat, k < 4 → 0 ≤ (permRow nv w i).w k ∧ (permRow nv w i).w k < nv + 32 := fun k hk => by
    cases i with
    | zero =>
      have e : (permRow nv w 0).w k = w.list.getD k 0 := by
        unfold permRow
        rw [if_pos (by decide)]
        match k, hk with
        | 0, _ => rfl
        | 1, _ => rfl
        | 2, _ => rfl
        | 3, _ => rfl
      have hm : w.list.getD k 0 ∈ w.list := by
        match k, hk with
        | 0, _ => simp [W4.list]
        | 1, _ => simp [W4.list]
        | 2, _ => simp [W4.list]
        | 3, _ => simp [W4.list]
      have := hw _ hm
      rw [e]
      omega
    | succ i =>
      rw [permRow_w _ _ _ _ hk]
      omega
  refine ⟨⟨?_, ?_, ?_, ?_, ?_, fun k hk => ⟨by have := (hwk k hk).1; omega, (hwk k hk).2⟩, fun j hj => ?_⟩, fun k hk => (hwk k hk).1⟩
  · unfold permRow; split
    · exact Int.le_refl 3
    · show (0 : Int) ≤ 3; decide
  · unfold permRow; split
    · show (0 : Int) ≤ i; omega
    · exact Int.le_refl 0
  · unfold permRow; split
    · show (i : Int) ≤ 7; omega
    · show (0 : Int) ≤ 7; decide
  · unfold permRow; split
    · intro h; exact absurd rfl h
    · intro; rfl
  · intro q hq
    have : q = 0 := by
      unfold permRow at hq
      split at hq <;> simpa [Row.qs, roundRow, endRow] using hq
    rw [this]
    exact ⟨by omega, fun _ => rfl⟩
  · have := rds_lt _ j hj
    exact (hwk j.toNat (by omega)).1
theorem permRow_nn {nv : Int} {w : W4} {i : Nat} : (permRow nv w i).Nn := by
  unfold permRow
  split <;> exact ⟨Int.le_refl 0, Int.le_refl 0, Int.le_refl 0, Int.le_refl 0, Int.le_refl 0⟩
theorem rds_00 {r : Row} (h : r.k = 0) : rds r = [] := by
  unfold rds
  rw [if_neg (by omega), if_neg (by omega), if_neg (by omega)]
theorem Sm.permOrd (h : Sm xs d V c) {w : W4} (hw : ∀ v ∈ w.list, 0 ≤ v ∧ v < V.length) {g : Gp} (hin : In xs d g) (hr : d.rows ++ permRows d.nv w <+: g.rows) (hn : d.nv + 32 ≤ g.nv) : ∀ i, i ≤ 8 →
    ∃ D, orderD g (d.rows.length + i) = some D ∧ D.length = g.nv.toNat ∧ ∀ j : Nat, j < g.nv.toNat → (0 ≤ at0 D j ↔ j < V.length + 4 * i)
  | 0, _ => by
    obtain ⟨D, e, hl, hD⟩ := h.ord g hin
    exact ⟨D, e, hl, hD⟩
  | i + 1, hi => by
    obtain ⟨D, e, hl, hD⟩ := h.permOrd hw hin hr hn i (by omega)
    have hlen := h.len
    have hri := permRow_at hr (i := i) (by omega)
    have hri1 := permRow_at hr (i := i + 1) (by omega)
    have hf := permRow_formed (f := d.f) (nv := d.nv) (w := w) (n := V.length) h.f hlen.symm hw (i := i) (by omega)
    have hk := permRow_k (nv := d.nv) (w := w) (i := i) (by omega)
    have hwlt : ∀ k : Nat, k < 4 → (permRow d.nv w i).w k < V.length + 4 * i := fun k hk4 => by
      cases i with
      | zero =>
        have e : (permRow d.nv w 0).w k = w.list.getD k 0 := by
          unfold permRow
          rw [if_pos (by decide)]
          match k, hk4 with
          | 0, _ => rfl
          | 1, _ => rfl
          | 2, _ => rfl
          | 3, _ => rfl
        have hm : w.list.getD k 0 ∈ w.list := by
          match k, hk4 with
          | 0, _ => simp [W4.list]
          | 1, _ => simp [W4.list]
          | 2, _ => simp [W4.list]
          | 3, _ => simp [W4.list]
        have := hw _ hm
        rw [e]
        omega
      | succ i =>
        rw [permRow_w _ _ _ _ hk4]
        omega
    obtain ⟨m, hm, em⟩ := mostM_some (r := permRow d.nv w i) (D := D) (rds (permRow d.nv w i)) (Int.le_refl 0) fun j hj => by
      have hj4 := rds_lt _ j hj
      have h0 := hf.2 j.toNat (by omega)
      have h1 := hwlt j.toNat (by omega)
      refine .inl ?_
      have := (hD ((permRow d.nv w i).w j.toNat).toNat (by omega)).2 (by omega)
      rwa [Int.toNat_of_nonneg h0] at this
    have ed : dArith (permRow d.nv w i) m D = D := by
      unfold dArith
      rw [if_neg (fun hc => by rw [hk] at hc; exact absurd hc.1 (by decide))]
    obtain ⟨q1, q2⟩ := dNext_it (D := D) hm hl (n := V.length + 4 * i) (by omega) (nx := permRow d.nv w (i + 1)) (fun k hk4 => by rw [permRow_w _ _ _ _ hk4]; omega) hD 4 (Nat.le_refl _)
    refine ⟨it (dNext m (permRow d.nv w (i + 1))) 4 D, ?_, q1, fun j hj => by rw [q2 j hj]; omega⟩
    rw [show d.rows.length + (i + 1) = d.rows.length + i + 1 by omega, orderD, e, Option.bind_some]
    unfold stepD
    rw [hri, em]
    show some (dRow _ (rowAt g.rows (d.rows.length + i + 1)) m D) = _
    rw [show d.rows.length + i + 1 = d.rows.length + (i + 1) by omega, hri1]
    unfold dRow
    rw [if_pos hk, ed]
theorem Sm.permRun (h : Sm xs d V c) {w : W4} (hw : ∀ v ∈ w.list, 0 ≤ v ∧ v < V.length) {g : Gp} (hin : In xs d g) (hr : d.rows ++ permRows d.nv w <+: g.rows) (hn : d.nv + 32 ≤ g.nv) : ∀ i, i ≤ 8 →
    it (runR g) (d.rows.length + i) (it (runI [] xs) (g.pub + g.sec).toNat (run0 g)) = (V ++ pnews d.f (w.list.map (at0 V)) i ++ List.replicate (g.nv.toNat - (V.length + 4 * i)) 0, List.replicate (V.length + 4 * i) true ++ List.replicate (g.nv.toNat - (V.length + 4 * i)) false)
  | 0, _ => by
    have := h.run g hin
    rw [pnews, List.append_nil]
    exact this
  | i + 1, hi => by
    have ih := h.permRun hw hin hr hn i (by omega)
    have hlen := h.len
    have hri := permRow_at hr (i := i) (by omega)
    have hri1 := permRow_at hr (i := i + 1) (by omega)
    have hk := permRow_k (nv := d.nv) (w := w) (i := i) (by omega)
    have hrd := permRow_rd (nv := d.nv) (w := w) (i := i) (by omega)
    have hgf : g.f = d.f := hin.f
    rw [show d.rows.length + (i + 1) = d.rows.length + i + 1 by omega, it, ih]
    unfold runR
    rw [hri, show d.rows.length + i + 1 = d.rows.length + (i + 1) by omega, hri1]
    have hXl : (V ++ pnews d.f (w.list.map (at0 V)) i).length = V.length + 4 * i := by rw [List.length_append, pnews_len]
    generalize hX : V ++ pnews d.f (w.list.map (at0 V)) i = X at hXl ⊢
    have ea : ∀ cc, runA g.f (permRow d.nv w i) cc = cc := fun cc => by
      unfold runA
      rw [if_neg (fun hc => by rw [hk] at hc; exact absurd hc.1 (by decide))]
    rw [ea]
    unfold runB
    rw [if_pos hk]
    simp only
    have hwv : wv (X ++ List.replicate (g.nv.toNat - (V.length + 4 * i)) 0) (permRow d.nv w i) = pst d.f (w.list.map (at0 V)) i := by
      rw [← hX, ← hlen]
      exact permRow_wv hw i
    rw [hwv, hrd, hgf]
    have hq4 := roundM_len d.f i (pst d.f (w.list.map (at0 V)) i)
    have e := runN_it (X := X) (q := roundM d.f i (pst d.f (w.list.map (at0 V)) i)) (N := g.nv.toNat) (nx := permRow d.nv w (i + 1)) (by omega) (fun k hk4 => by rw [permRow_w _ _ _ _ hk4]; omega) hq4 4 (Nat.le_refl _)
    rw [hXl] at e
    rw [e, List.take_of_length_le (by omega)]
    rw [pnews, ← List.append_assoc, hX]
    rw [show g.nv.toNat - (V.length + 4 * i) - 4 = g.nv.toNat - (V.length + 4 * (i + 1)) by omega, show V.length + 4 * i + 4 = V.length + 4 * (i + 1) by omega]
    rfl
theorem Sm.permOk (h : Sm xs d V c) {w : W4} (hw : ∀ v ∈ w.list, 0 ≤ v ∧ v < V.length) {g : Gp} (hin : In xs d g) (hr : d.rows ++ permRows d.nv w <+: g.rows) {V' : List Int} (hV : V ++ pnews d.f (w.list.map (at0 V)) 8 <+: V') : ∀ i, i ≤ 8 →
    (okM g V' (d.rows.length + i) = true ↔ c)
  | 0, _ => h.ok g V' hin ((List.prefix_append _ _).trans hV)
  | i + 1, hi => by
    have ih := h.permOk hw hin hr hV i (by omega)
    have hlen := h.len
    have hri := permRow_at hr (i := i) (by omega)
    have hri1 := permRow_at hr (i := i + 1) (by omega)
    have hk := permRow_k (nv := d.nv) (w := w) (i := i) (by omega)
    have hrd := permRow_rd (nv := d.nv) (w := w) (i := i) (by omega)
    have hgf : g.f = d.f := hin.f
    have hpre : ∀ j, j ≤ 8 → ∃ W, V' = V ++ pnews d.f (w.list.map (at0 V)) j ++ W := fun j hj => by
      obtain ⟨W, rfl⟩ := hV
      have hp : ∀ n, j ≤ n → ∃ T, pnews d.f (w.list.map (at0 V)) n = pnews d.f (w.list.map (at0 V)) j ++ T := fun n => by
        induction n with
        | zero => intro hjn; obtain rfl : j = 0 := by omega
                  exact ⟨[], rfl⟩
        | succ n ihn =>
          intro hjn
          rcases Nat.lt_or_ge j (n + 1) with hlt | hge
          · obtain ⟨T, hT⟩ := ihn (by omega)
            exact ⟨T ++ pst d.f (w.list.map (at0 V)) (n + 1), by rw [pnews, hT, List.append_assoc]⟩
          · obtain rfl : j = n + 1 := by omega
            exact ⟨[], (List.append_nil _).symm⟩
      obtain ⟨T, hT⟩ := hp 8 hj
      exact ⟨T ++ W, by rw [hT]; simp only [List.append_assoc]⟩
    rw [show d.rows.length + (i + 1) = d.rows.length + i + 1 by omega, okM, Bool.and_eq_true, ih, hri, show d.rows.length + i + 1 = d.rows.length + (i + 1) by omega, hri1]
    have hh : holdsR g.f (permRow d.nv w i) (permRow d.nv w (i + 1)) V' = true := by
      unfold holdsR
      rw [if_neg (by omega), if_neg (by omega), if_pos hk, hrd, hgf]
      obtain ⟨W1, e1⟩ := hpre i (by omega)
      obtain ⟨W2, e2⟩ := hpre (i + 1) hi
      have a1 : wv V' (permRow d.nv w i) = pst d.f (w.list.map (at0 V)) i := by rw [e1, ← hlen]; exact permRow_wv hw i
      have a2 : wv V' (permRow d.nv w (i + 1)) = pst d.f (w.list.map (at0 V)) (i + 1) := by rw [e2, ← hlen]; exact permRow_wv hw (i + 1)
      rw [a1, a2]
      exact decide_eq_true rfl
    rw [hh]
    simp
theorem Sm.perm (h : Sm xs d V c) {w : W4} (hw : ∀ v ∈ w.list, 0 ≤ v ∧ v < V.length) (hr : d.rows.length + 9 ≤ 8000) (hn : d.nv + 32 ≤ 40000) :
    (mPerm d w).1.f = d.f ∧ (mPerm d w).1.rows.length = d.rows.length + 9 ∧ Sm xs (mPerm d w).1 (V ++ pnews d.f (w.list.map (at0 V)) 8) c ∧
      (∀ v ∈ (mPerm d w).2.list, 0 ≤ v ∧ v < (V ++ pnews d.f (w.list.map (at0 V)) 8).length) ∧ (mPerm d w).2.list.map (at0 (V ++ pnews d.f (w.list.map (at0 V)) 8)) = pst d.f (w.list.map (at0 V)) 8 := by
  have hlen := h.len
  have em : mPerm d w = (d.add 32 (permRows d.nv w), wiresAt d.nv w 8) := by
    unfold mPerm
    have hput : mput d 32 (permRows d.nv w) = (d.add 32 (permRows d.nv w), d.nv) := mput_ok h.e (by
      rintro (hf | hf)
      · rw [permRows_len] at hf; omega
      · omega)
    rw [h.kn hw, nums_t (by simp), Bool.and_true, mready_t h.e, if_pos rfl, hput]
    simp only
    rw [if_neg (by omega)]
  rw [em]
  have hnew : (V ++ pnews d.f (w.list.map (at0 V)) 8).length = V.length + 32 := by rw [List.length_append, pnews_len]
  have hlr : (d.add 32 (permRows d.nv w)).rows.length = d.rows.length + 9 := by show (d.rows ++ permRows d.nv w).length = _; rw [List.length_append, permRows_len]
  have mono : ∀ {g}, In xs (d.add 32 (permRows d.nv w)) g → In xs d g := fun hg => hg.mono rfl (List.prefix_append _ _) (by show d.nv ≤ d.nv + 32; omega)
  have w8 : ∀ k : Nat, k < 4 → (wiresAt d.nv w 8).list.getD k 0 = d.nv + 28 + k := fun k hk => by
    match k, hk with
    | 0, _ => show d.nv + 4 * (7 : Nat) = d.nv + 28 + 0; omega
    | 1, _ => rfl
    | 2, _ => rfl
    | 3, _ => rfl
  refine ⟨rfl, hlr, ⟨h.e, h.f, h.pub, h.sec, h.sl, ?_, ?_, ?_, ?_, ?_, h.inb, ?_, ?_, fun g hg => ?_, fun g hg => ?_, fun g V' hg hV => ?_⟩, ?_, ?_⟩
  · show ((V ++ pnews d.f (w.list.map (at0 V)) 8).length : Int) = d.nv + 32
    rw [hnew]; omega
  · show d.nv + 32 ≤ 40000; omega
  · rw [hnew]; have := h.inl; omega
  · rw [hlr]; omega
  · intro x hx
    rcases List.mem_append.1 hx with hx | hx
    · exact h.rng x hx
    · exact pnews_rng h.f _ 8 x hx
  · intro i hi
    rw [hlr] at hi ⊢
    show Formed d.f (d.nv + 32) (rowAt (d.rows ++ permRows d.nv w) i) ∧ _
    rcases Nat.lt_or_ge i d.rows.length with hlt | hge
    · have hl := h.lim i hlt
      have e1 : rowAt (d.rows ++ permRows d.nv w) i = rowAt d.rows i := rowAt_pre (List.prefix_append _ _) hlt
      show _ ∧ ((rowAt (d.rows ++ permRows d.nv w) i).k = 3 → i + 1 < d.rows.length + 9 ∧ ∀ k : Nat, k < 4 → 0 ≤ (rowAt (d.rows ++ permRows d.nv w) (i + 1)).w k)
      rw [e1]
      refine ⟨hl.1.mono (by omega), fun h3 => ?_⟩
      have := hl.2 h3
      rw [rowAt_pre (List.prefix_append _ _) this.1]
      exact ⟨by omega, this.2⟩
    · obtain ⟨j, rfl⟩ : ∃ j, i = d.rows.length + j := ⟨i - d.rows.length, by omega⟩
      have e1 := permRow_at (List.prefix_refl (d.rows ++ permRows d.nv w)) (i := j) (by omega)
      show _ ∧ ((rowAt (d.rows ++ permRows d.nv w) (d.rows.length + j)).k = 3 → d.rows.length + j + 1 < d.rows.length + 9 ∧ ∀ k : Nat, k < 4 → 0 ≤ (rowAt (d.rows ++ permRows d.nv w) (d.rows.length + j + 1)).w k)
      rw [e1]
      refine ⟨(permRow_formed h.f hlen.symm hw (by omega)).1, fun h3 => ?_⟩
      have hj : j < 8 := by
        rcases Nat.lt_or_ge j 8 with h8 | h8
        · exact h8
        · obtain rfl : j = 8 := by omega
          rw [permRow_k8] at h3
          exact absurd h3 (by decide)
      refine ⟨by omega, fun k hk => ?_⟩
      rw [show d.rows.length + j + 1 = d.rows.length + (j + 1) by omega, permRow_at (List.prefix_refl (d.rows ++ permRows d.nv w)) (by omega)]
      exact (permRow_formed (f := d.f) h.f hlen.symm hw (by omega)).2 k hk
  · intro x hx
    rcases List.mem_append.1 hx with hx | hx
    · exact h.nn x hx
    · obtain ⟨i, hi, rfl⟩ := List.getElem_of_mem hx
      rw [permRows_len] at hi
      have := permRows_get d.nv w hi
      rw [List.getElem?_eq_getElem (by rw [permRows_len]; exact hi)] at this
      rw [Option.some.inj this]
      exact permRow_nn
  · have hgn : d.nv + 32 ≤ g.nv := hg.nv
    obtain ⟨D, e, hl, hD⟩ := h.permOrd hw (mono hg) hg.rows hgn 8 (by decide)
    have hr8 := permRow_at hg.rows (i := 8) (by omega)
    refine ⟨D, ?_, hl, fun i hi => by rw [hD i hi, hnew]⟩
    rw [hlr, show d.rows.length + 9 = d.rows.length + 8 + 1 by omega, orderD, e, Option.bind_some]
    unfold stepD
    rw [hr8, rds_00 permRow_k8]
    show some (dRow (permRow d.nv w 8) _ 0 D) = some D
    unfold dRow dArith
    rw [if_neg (by rw [permRow_k8]; decide), if_neg (fun hc => by rw [permRow_k8] at hc; exact absurd hc.1 (by decide))]
  · have hgn : d.nv + 32 ≤ g.nv := hg.nv
    have e := h.permRun hw (mono hg) hg.rows hgn 8 (by decide)
    have hr8 := permRow_at hg.rows (i := 8) (by omega)
    rw [hlr, show d.rows.length + 9 = d.rows.length + 8 + 1 by omega, it, e, hnew]
    unfold runR
    rw [hr8]
    unfold runA
    rw [if_neg (fun hc => by rw [permRow_k8] at hc; exact absurd hc.1 (by decide))]
    unfold runB
    rw [if_neg (by rw [permRow_k8]; decide)]
  · have hr8 := permRow_at hg.rows (i := 8) (by omega)
    rw [hlr, show d.rows.length + 9 = d.rows.length + 8 + 1 by omega, okM, Bool.and_eq_true, h.permOk hw (mono hg) hg.rows hV 8 (by decide), hr8]
    have hh : holdsR g.f (permRow d.nv w 8) (rowAt g.rows (d.rows.length + 8 + 1)) V' = true := by
      unfold holdsR
      rw [if_neg (by rw [permRow_k8]; decide), if_neg (by rw [permRow_k8]; decide), if_neg (by rw [permRow_k8]; decide)]
    rw [hh]
    simp
  · intro v hv
    rw [hnew]
    have : v = d.nv + 4 * (7 : Nat) ∨ v = d.nv + 4 * (7 : Nat) + 1 ∨ v = d.nv + 4 * (7 : Nat) + 2 ∨ v = d.nv + 4 * (7 : Nat) + 3 := by
      have e : (wiresAt d.nv w 8).list = [d.nv + 4 * (7 : Nat), d.nv + 4 * (7 : Nat) + 1, d.nv + 4 * (7 : Nat) + 2, d.nv + 4 * (7 : Nat) + 3] := rfl
      simpa [e] using hv
    omega
  · have hwv := permRow_wvS (V := V) (W := []) (f := d.f) (s := w.list.map (at0 V)) rfl (w := w) 7
    rw [List.append_nil, hlen] at hwv
    exact hwv
end
end Go.VE
/- The references of the sponge and the channel: Perm, Hash, Draw. -/
namespace Go.VE
open Go Go.Proofs
set_option maxRecDepth 20000
section
variable {ro : Nat} {s : St} {K : Value → St → Prop}
end
end Go.VE
/- The reference of the sponge: Hash. -/
namespace Go.VE
open Go Go.Proofs
set_option maxRecDepth 20000
def hSt1 (f : Int) (s : List Int) (x : Int) : List Int := s.set 0 (fAdd f (at0 s 0) x)
def hSt2 (f : Int) (s : List Int) (y : Int) : List Int := s.set 1 (fAdd f (at0 s 1) y)
def hGo (f : Int) : List Int → List Int → List Int
  | [], s => s
  | [x], s => pst f (hSt1 f s x) 8
  | x :: y :: r, s => hGo f r (pst f (hSt2 f (hSt1 f s x) y) 8)
section
variable {ro : Nat} {s : St} {K : Value → St → Prop}
end
end Go.VE
/- The reference of the channel: Draw, Absorb. -/
namespace Go.VE
open Go Go.Proofs
set_option maxRecDepth 20000
def chan (f : Int) (s : List Int) : List Value := .int .i64 f :: u4 s
theorem chan_len {f : Int} {s : List Int} (h : s.length = 4) : (chan f s).length = 5 := by simp [chan, u4, h]
theorem chan_set {f : Int} {s : List Int} (h : s.length = 4) {k : Nat} (hk : k < 4) (x : Int) : splice (chan f s) (1 + k) [.int .u64 x] = chan f (s.set k x) := by
  obtain ⟨a, b, c, d, rfl⟩ := len4 h
  match k, hk with
  | 0, _ => rfl
  | 1, _ => rfl
  | 2, _ => rfl
  | 3, _ => rfl
theorem chan_put {f : Int} {s q : List Int} (h : s.length = 4) (hq : q.length = 4) : splice (chan f s) 1 (u4 q) = chan f q := by
  obtain ⟨a, b, c, d, rfl⟩ := len4 h
  obtain ⟨a', b', c', d', rfl⟩ := len4 hq
  rfl
structure ChIn (f : Int) (s0 s : St) (A : Nat) (l : List Int) : Prop where
  here : s.at A = some (.cells (chan f l) 65 false)
  new : s0.n ≤ A
  wf : Wf s
  grew : Grew s0 s
  len : l.length = 4
  nn : ∀ x ∈ l, 0 ≤ x
section
variable {ro : Nat} {s : St} {K : Value → St → Prop}
theorem ChIn.set {f : Int} {s0 s : St} {A : Nat} {l : List Int} (h : ChIn f s0 s A l) (hw0 : Wf s0) (hro : ro ≤ s0.n) {o k : Nat} (ho : o = 1 + k) (hk4 : k < 4) {x : Int} (hx : 0 ≤ x) {ty : TypeId} {K : Value → St → Prop} (hk : ∀ s', ChIn f s0 s' A (l.set k x) → (∀ B, B ≠ A → s'.at B = s.at B) → K undef s') :
    wop P ro (.store 24 (.const (.pointer (some ⟨A, o, none⟩))) (.const (.int .u64 x))) ty s K := by
  subst ho
  have hn := h.new
  refine store1_rule isz_24 h.here h.wf (by omega) (by rw [chan_len h.len]; omega) rfl fun s' p => hk s' ⟨?_, h.new, p.wf, p.grew _ hw0 h.grew h.new, by rw [List.length_set]; exact h.len, nn_set h.nn hx⟩ p.rest
  rw [p.here, chan_set h.len hk4]
theorem ChIn.put {f : Int} {s0 s : St} {A : Nat} {l q : List Int} (h : ChIn f s0 s A l) (hw0 : Wf s0) (hro : ro ≤ s0.n) (hq : q.length = 4) (hqn : ∀ x ∈ q, 0 ≤ x) {ty : TypeId} {K : Value → St → Prop} (hk : ∀ s', ChIn f s0 s' A q → (∀ B, B ≠ A → s'.at B = s.at B) → K undef s') :
    wop P ro (.store 58 (.const (.pointer (some ⟨A, 1, none⟩))) (.const (.agg (.mk (u4 q))))) ty s K := by
  have hn := h.new
  refine store_rule isz_58 h.here (show (u4 q).length = 4 by rw [u4_len]; exact hq) (by decide) h.wf (by omega) (by rw [chan_len h.len]; exact Nat.le_refl _) (u4_one _) fun s' p => hk s' ⟨?_, h.new, p.wf, p.grew _ hw0 h.grew h.new, hq, hqn⟩ p.rest
  rw [p.here, chan_put h.len hq]
end
end Go.VE
/- A range over a function: slices.Chunk of a list, by two. -/
namespace Go.VE
open Go Go.Proofs
set_option maxRecDepth 20000
section
variable {ro : Nat} {s : St} {K : Value → St → Prop}
theorem min_i64 (a b : Int) (ty : TypeId) (s : St) (K : Value → St → Prop) : wop P ro (.call ⟨.builtin .min, ⟨[.const (.int .i64 a), .const (.int .i64 b)]⟩, #[3, 3]⟩) ty s K = K (.int .i64 (if b < a then b else a)) s := by kernel_rfl
end
end Go.VE
/- A builder that lives: Hash. -/
namespace Go.VE
open Go Go.Proofs
set_option maxRecDepth 20000
noncomputable def hStep : List Int → Bd × W4 → Bd × W4
  | [x], c => mPerm (mLinear c.1 c.2.a x 1 1 0).1 { c.2 with a := (mLinear c.1 c.2.a x 1 1 0).2 }
  | [x, y], c => mPerm (mLinear (mLinear c.1 c.2.a x 1 1 0).1 c.2.b y 1 1 0).1 { c.2 with a := (mLinear c.1 c.2.a x 1 1 0).2, b := (mLinear (mLinear c.1 c.2.a x 1 1 0).1 c.2.b y 1 1 0).2 }
  | _, c => c
theorem len2 {l : List Int} (h : l.length = 2) : ∃ a b, l = [a, b] := by
  match l, h with
  | [a, b], _ => exact ⟨a, b, rfl⟩
section
variable {ro : Nat} {s : St} {B : Nat} {oA : Option Nat} {d : Bd} {K : Value → St → Prop}
end
end Go.VE
/- A builder that lives: Hash. -/
namespace Go.VE
open Go Go.Proofs
set_option maxRecDepth 20000
def p2c (p : Int × Int) : List Value := [.int .i64 p.1, .int .i64 p.2]
section
variable {ro : Nat} {s : St} {B : Nat} {oA : Option Nat} {d : Bd} {K : Value → St → Prop}
end
end Go.VE
/- What Hash, Absorb, Draw mean. -/
namespace Go.VE
open Go Go.Proofs
set_option maxRecDepth 20000
structure Sw (xs : List Int) (d : Bd) (w : W4) (V : List Int) (c : Prop) (q : List Int) : Prop where
  sm : Sm xs d V c
  wi : ∀ v ∈ w.list, 0 ≤ v ∧ v < V.length
  val : w.list.map (at0 V) = q
section
variable {xs V q : List Int} {d : Bd} {c : Prop} {w : W4}
theorem Sw.perm (h : Sw xs d w V c q) (hr : d.rows.length + 9 ≤ 8000) (hn : d.nv + 32 ≤ 40000) :
    ∃ V', V <+: V' ∧ V'.length = V.length + 32 ∧ Sw xs (mPerm d w).1 (mPerm d w).2 V' c (pst d.f q 8) ∧ (mPerm d w).1.f = d.f ∧ (mPerm d w).1.rows.length = d.rows.length + 9 := by
  obtain ⟨e1, e2, e3, e4, e5⟩ := h.sm.perm h.wi hr hn
  refine ⟨_, List.prefix_append _ _, by rw [List.length_append, pnews_len], ⟨e3, e4, by rw [e5, h.val]⟩, e1, e2⟩
theorem fAdd_v {f : Int} (h : fV f = true) (a b : Int) : fAdd f a b = (a + b) % fP f := by unfold fAdd; rw [if_pos h]
theorem Sw.at (h : Sw xs d w V c q) : q = [at0 V w.a, at0 V w.b, at0 V w.c, at0 V w.d] := h.val.symm
theorem Sw.len (h : Sw xs d w V c q) : q.length = 4 := by rw [h.at]; rfl
theorem Sw.pre (h : Sw xs d w V c q) {V' : List Int} {d' : Bd} {c' : Prop} (hs : Sm xs d' V' c') (hp : V <+: V') : Sw xs d' w V' c' q := by
  have hl := hp.length_le
  refine ⟨hs, fun v hv => by have := h.wi v hv; omega, ?_⟩
  rw [← h.val]
  exact List.map_congr_left fun v hv => at0_pre hp (h.wi v hv)
theorem Sw.setA (h : Sw xs d w V c q) {x : Int} (hx : 0 ≤ x ∧ x < V.length) : Sw xs d { w with a := x } V c (q.set 0 (at0 V x)) := by
  have hw := h.wi
  simp only [W4.list, List.mem_cons, List.not_mem_nil, or_false, forall_eq_or_imp, forall_eq] at hw
  refine ⟨h.sm, ?_, ?_⟩
  · simp only [W4.list, List.mem_cons, List.not_mem_nil, or_false, forall_eq_or_imp, forall_eq]
    exact ⟨hx, hw.2.1, hw.2.2.1, hw.2.2.2⟩
  · rw [h.at]; rfl
theorem Sw.setB (h : Sw xs d w V c q) {x : Int} (hx : 0 ≤ x ∧ x < V.length) : Sw xs d { w with b := x } V c (q.set 1 (at0 V x)) := by
  have hw := h.wi
  simp only [W4.list, List.mem_cons, List.not_mem_nil, or_false, forall_eq_or_imp, forall_eq] at hw
  refine ⟨h.sm, ?_, ?_⟩
  · simp only [W4.list, List.mem_cons, List.not_mem_nil, or_false, forall_eq_or_imp, forall_eq]
    exact ⟨hw.1, hx, hw.2.2.1, hw.2.2.2⟩
  · rw [h.at]; rfl
theorem Sw.addA (h : Sw xs d w V c q) {x : Int} (hx : 0 ≤ x ∧ x < V.length) (hr : d.rows.length < 8000) (hn : d.nv < 40000) :
    ∃ V', V <+: V' ∧ V'.length = V.length + 1 ∧ Sw xs (mLinear d w.a x 1 1 0).1 { w with a := (mLinear d w.a x 1 1 0).2 } V' c (hSt1 d.f q (at0 V x)) ∧ (mLinear d w.a x 1 1 0).1.f = d.f ∧ (mLinear d w.a x 1 1 0).1.rows.length = d.rows.length + 1 := by
  have hp := fP_one h.sm.f
  obtain ⟨e1, e2, e3, e4⟩ := h.sm.linear (u := w.a) (v := x) (x := 1) (y := 1) (z := 0) (h.wi _ (by simp [W4.list])) hx (by omega) (by omega) (by omega) hr hn
  refine ⟨V ++ [(1 * at0 V w.a + 1 * at0 V x + 0) % fP d.f], List.prefix_append _ _, by rw [List.length_append]; rfl, ?_, e2, e3⟩
  have k := (h.pre e4 (List.prefix_append _ _)).setA (x := (mLinear d w.a x 1 1 0).2) (by rw [e1, List.length_append, List.length_singleton]; omega)
  rw [e1] at k ⊢
  have el : at0 (V ++ [(1 * at0 V w.a + 1 * at0 V x + 0) % fP d.f]) (V.length : Nat) = (1 * at0 V w.a + 1 * at0 V x + 0) % fP d.f := at0_last (W := [])
  rw [el] at k
  have ev : hSt1 d.f q (at0 V x) = q.set 0 ((1 * at0 V w.a + 1 * at0 V x + 0) % fP d.f) := by
    unfold hSt1
    rw [fAdd_v h.sm.f, h.at]
    show [_, _, _, _] = [_, _, _, _]
    rw [Int.one_mul, Int.one_mul, Int.add_zero]
    rfl
  rw [ev]
  exact k
theorem Sw.addB (h : Sw xs d w V c q) {x : Int} (hx : 0 ≤ x ∧ x < V.length) (hr : d.rows.length < 8000) (hn : d.nv < 40000) :
    ∃ V', V <+: V' ∧ V'.length = V.length + 1 ∧ Sw xs (mLinear d w.b x 1 1 0).1 { w with b := (mLinear d w.b x 1 1 0).2 } V' c (hSt2 d.f q (at0 V x)) ∧ (mLinear d w.b x 1 1 0).1.f = d.f ∧ (mLinear d w.b x 1 1 0).1.rows.length = d.rows.length + 1 := by
  have hp := fP_one h.sm.f
  obtain ⟨e1, e2, e3, e4⟩ := h.sm.linear (u := w.b) (v := x) (x := 1) (y := 1) (z := 0) (h.wi _ (by simp [W4.list])) hx (by omega) (by omega) (by omega) hr hn
  refine ⟨V ++ [(1 * at0 V w.b + 1 * at0 V x + 0) % fP d.f], List.prefix_append _ _, by rw [List.length_append]; rfl, ?_, e2, e3⟩
  have k := (h.pre e4 (List.prefix_append _ _)).setB (x := (mLinear d w.b x 1 1 0).2) (by rw [e1, List.length_append, List.length_singleton]; omega)
  rw [e1] at k ⊢
  have el : at0 (V ++ [(1 * at0 V w.b + 1 * at0 V x + 0) % fP d.f]) (V.length : Nat) = (1 * at0 V w.b + 1 * at0 V x + 0) % fP d.f := at0_last (W := [])
  rw [el] at k
  have ev : hSt2 d.f q (at0 V x) = q.set 1 ((1 * at0 V w.b + 1 * at0 V x + 0) % fP d.f) := by
    unfold hSt2
    rw [fAdd_v h.sm.f, h.at]
    show [_, _, _, _] = [_, _, _, _]
    rw [Int.one_mul, Int.one_mul, Int.add_zero]
    rfl
  rw [ev]
  exact k
theorem Sw.step (h : Sw xs d w V c q) {l : List Int} (hl : ∀ v ∈ l, 0 ≤ v ∧ v < V.length) (hl1 : l.length = 1 ∨ l.length = 2) (hr : d.rows.length + 11 ≤ 8000) (hn : d.nv + 34 ≤ 40000) :
    ∃ V' q', V <+: V' ∧ V'.length ≤ V.length + 34 ∧ Sw xs (hStep l (d, w)).1 (hStep l (d, w)).2 V' c q' ∧ (hStep l (d, w)).1.f = d.f ∧ (hStep l (d, w)).1.rows.length ≤ d.rows.length + 11 ∧ (l.length = 1 → ∀ r, r = [] → hGo d.f (l.map (at0 V) ++ r) q = hGo d.f r q') ∧ (l.length = 2 → ∀ r, hGo d.f (l.map (at0 V) ++ r) q = hGo d.f r q') := by
  have hlen := h.sm.len
  rcases hl1 with hl1 | hl1
  · obtain ⟨x, rfl⟩ := List.length_eq_one_iff.1 hl1
    obtain ⟨V0, p0, l0, s0, f0, r0⟩ := h.addA (hl x (by simp)) (by omega) (by omega)
    have hl0 := s0.sm.len
    obtain ⟨V2, p2, l2, s2, f2, r2⟩ := s0.perm (by omega) (by omega)
    refine ⟨V2, _, p0.trans p2, by omega, s2, f2.trans f0, Nat.le_trans (Nat.le_of_eq r2) (by omega), fun _ r hr => ?_, fun h => by simp at h⟩
    subst hr
    rw [f0]
    rfl
  · obtain ⟨x, y, rfl⟩ := len2 hl1
    obtain ⟨V0, p0, l0, s0, f0, r0⟩ := h.addA (hl x (by simp)) (by omega) (by omega)
    have hl0 := s0.sm.len
    have hy := hl y (by simp)
    obtain ⟨V1, p1, l1, s1, f1, r1⟩ := s0.addB (x := y) (by omega) (by omega) (by omega)
    have hl1' := s1.sm.len
    obtain ⟨V2, p2, l2, s2, f2, r2⟩ := s1.perm (by omega) (by omega)
    refine ⟨V2, _, p0.trans (p1.trans p2), by omega, s2, f2.trans (f1.trans f0), Nat.le_trans (Nat.le_of_eq r2) (by omega), fun h => by simp at h, fun _ r => ?_⟩
    have e1 : (mLinear (mLinear d w.a x 1 1 0).1 w.b y 1 1 0).1.f = d.f := f1.trans f0
    show _ = hGo d.f r (pst (mLinear (mLinear d w.a x 1 1 0).1 w.b y 1 1 0).1.f (hSt2 (mLinear d w.a x 1 1 0).1.f (hSt1 d.f q (at0 V x)) (at0 V0 y)) 8)
    rw [e1, f0, at0_pre p0 hy]
    rfl
end
end Go.VE
/- What Hash means. -/
namespace Go.VE
open Go Go.Proofs
set_option maxRecDepth 20000
section
variable {xs V q : List Int} {d : Bd} {c : Prop} {w : W4}
end
end Go.VE
/- CircuitHashes: the plain law. -/
namespace Go.VE
open Go Go.Proofs
set_option maxRecDepth 20000
def hsD0 (f : Int) (n : Nat) : Bd := ⟨f, n, 0, n, [], 0⟩
end Go.VE
/- attestorlaw30.values: a builder's program is run. -/
namespace Go.VE
open Go Go.Proofs
set_option maxRecDepth 20000
section
variable {ro : Nat} {s : St} {B : Nat} {oA : Option Nat} {d : Bd} {xs V : List Int} {c : Prop} {K : Value → St → Prop}
theorem fin_slb {si s : St} {v : Value} {n : Nat} {cs : List Value} {b : Bool} (hw : Wf si) (hg : Grew (ent si) s) (hs : Sl s v 1 n cs) (h : ∀ s', Grew si s' → Sl s' v 1 n cs → K (.tuple (.mk [v, .bool b])) s') : wfin si K (.tuple (.mk [v, .bool b])) s := by
  obtain ⟨a, c, e, _⟩ := id hs
  subst e
  cases a with
  | none => exact fin_flat rfl hg (h si (.refl _) (hs.flat rfl))
  | some x => exact wfin_new hw hg rfl fun s' hg' _ hat => h s' hg' (Sl.sameAt hs fun A o sp n c e => hat A)
theorem wValues (h : Liv ro s B oA d) (hs : Sm xs d V c) {u : Value} (hu : U64s s u xs) (hk : ∀ v s' b, (b = true ↔ c) → Grew s s' → U64s s' v V → K (.tuple (.mk [v, .bool b])) s') :
    CallWP P ro 18 [ptr B, u] s K := by
  refine call_wp b18 rfl ?_
  rw [n18]
  unfold v18
  simp (maxSteps := 10000000) only [wW, reduceCtorEq, Nat.reduceEqDiff]
  have hro := h.ron
  have hn0 : (Go.VE.ent s).n = s.n := rfl
  refine lGates h.ent hs.e fun w s4 g4 hw4 => ?_
  simp (maxSteps := 10000000) only [wW, reduceCtorEq, Nat.reduceEqDiff, List.getElem?_cons_zero, List.getElem?_cons_succ]
  refine alloc_rule ty_34 (h.ent.wf.grew g4) fun G s5 m5 => ?_
  have e5 := m5.eq
  have n5 := m5.n
  have g4n := g4.n
  have hwone : w.oneCell' = true := by
    obtain ⟨a, c, rfl, _⟩ := hw4
    rfl
  refine storeAll_rule isz_34 m5.here (l := d.gp.cells w) rfl (by decide) m5.wf (by omega) rfl (by simp only [Gp.cells, List.all_cons, hwone]; rfl) fun s6 p6 => ?_
  simp (maxSteps := 10000000) only [wW, reduceCtorEq, Nat.reduceEqDiff, wL, Nat.reduceAdd, acells_some p6.here]
  have keep : ∀ A, A < s4.n → s6.at A = s4.at A := fun A hA => (p6.rest A (by omega)).trans (m5.grew.same A hA)
  have hw6 : RowsS s6 w d.gp.rows := Sl.grew hw4 keep
  have hIn6 : U64s s6 u xs := Sl.grew (Sl.grew (Sl.ent hu) g4.same) keep
  have n6 := p6.n
  have hrl := h.ok.rows
  have hxl := hs.sl
  obtain ⟨k1, k2, k3⟩ := hs.done
  refine wRun d.gp hs.nn p6.wf (by omega) hw6 (by show d.rows.length < 2 ^ 60; omega) (U64s.nil s6) hIn6 (fun x hx => by cases hx) (fun x hx => (hs.inb x hx).1) (by decide) (by omega) (fun hb => absurd k1 hb) fun _ v7 s7 g7 hv7 => ?_
  have k3' : okM d.gp (runV d.gp [] xs).1 d.gp.rows.length = true ↔ c := k3
  generalize okM d.gp (runV d.gp [] xs).1 d.gp.rows.length = b at k3' ⊢
  rw [k2] at hv7
  simp (maxSteps := 10000000) only [wW, reduceCtorEq, Nat.reduceEqDiff, List.getElem?_cons_zero, List.getElem?_cons_succ]
  have gr : Grew (Go.VE.ent s) s7 := (p6.grew _ h.wf.ent (g4.trans m5.grew) (by omega)).trans g7
  cases b with
  | true =>
    simp (maxSteps := 10000000) only [wW, reduceCtorEq, Nat.reduceEqDiff]
    exact fin_slb h.wf gr hv7 fun s' hg hsl => hk _ s' true k3' hg hsl
  | false =>
    simp (maxSteps := 10000000) only [wW, reduceCtorEq, Nat.reduceEqDiff]
    exact fin_slb h.wf gr hv7 fun s' hg hsl => hk _ s' false k3' hg hsl
end
end Go.VE
/- A builder that lives: Node. -/
namespace Go.VE
open Go Go.Proofs
set_option maxRecDepth 20000
theorem ip2_0' (A : Nat) : aindexAddr P 47 (ptr A) (.int .i64 0) = some (.pointer (some ⟨A, 0, none⟩)) := by kernel_rfl
theorem ip2_1' (A : Nat) : aindexAddr P 47 (ptr A) (.int .i64 1) = some (.pointer (some ⟨A, 1, none⟩)) := by kernel_rfl
theorem build2w (a b : Int) : abuild P 47 (partVals .e [(0, .const (.int .i64 a)), (1, .const (.int .i64 b))]) = some (.agg (.mk (p2c (a, b)))) := by kernel_rfl
theorem Run1.made {ro : Nat} {s0 s s1 : St} {B A : Nat} {oA0 oA : Option Nat} {d : Bd} {o : AO} (h : Run1 ro s0 B oA0 s oA d) (m : Made s A o s1) : Run1 ro s0 B oA0 s1 oA d ∧ Lc s1 B oA A o ∧ A = s.n ∧ s1.n = s.n + 1 := by
  have e := m.eq
  exact ⟨h.grew m.grew, ⟨m.here, (h.fresh (by omega)).1, (h.fresh (by omega)).2⟩, e, m.n⟩
theorem Run1.putL {ro : Nat} {s0 s s1 : St} {B A : Nat} {oA0 oA : Option Nat} {d : Bd} {o o' : AO} (h : Run1 ro s0 B oA0 s oA d) (a : Lc s B oA A o) (hA : s0.n ≤ A) (p : Put s A o' s1) : Run1 ro s0 B oA0 s1 oA d ∧ Lc s1 B oA A o' := ⟨h.put p hA a.own, p.here, a.ne, a.own⟩
section
variable {ro : Nat} {s : St} {B : Nat} {oA : Option Nat} {d : Bd} {K : Value → St → Prop}
end
end Go.VE
/- Slices of pairs; a builder that lives: pairs. -/
namespace Go.VE
open Go Go.Proofs
set_option maxRecDepth 20000
def prc (k : IntKind) (p : Int × Int) : List Value := [.int k p.1, .int k p.2]
def prs (k : IntKind) (l : List (Int × Int)) : List Value := l.flatMap (prc k)
def Prs (k : IntKind) (s : St) (u : Value) (l : List (Int × Int)) : Prop := Sl s u 2 l.length (prs k l)
theorem prs_len (k : IntKind) : ∀ l : List (Int × Int), (prs k l).length = l.length * 2
  | [] => rfl
  | x :: l => by
    have e : prs k (x :: l) = prc k x ++ prs k l := rfl
    rw [e, List.length_append, prs_len k l]
    show 2 + _ = (l.length + 1) * 2
    omega
theorem prs_cut (k : IntKind) : ∀ (l : List (Int × Int)) {i : Nat} {p : Int × Int}, l[i]? = some p → cut (prs k l) (i * 2) 2 = some (prc k p)
  | [], i, p, h => by simp at h
  | x :: l, 0, p, h => by
    simp only [List.getElem?_cons_zero, Option.some.injEq] at h
    subst h
    rw [cut_eq (by rw [prs_len]; simp only [List.length_cons]; omega)]
    rfl
  | x :: l, i + 1, p, h => by
    simp only [List.getElem?_cons_succ] at h
    have ih := prs_cut k l h
    have hl : i < l.length := (List.getElem?_eq_some_iff.1 h).1
    have e : prs k (x :: l) = prc k x ++ prs k l := rfl
    have hx : (prc k x).length = 2 := rfl
    rw [cut_eq (by rw [prs_len]; omega)] at ih
    rw [cut_eq (by rw [prs_len]; simp only [List.length_cons]; omega), e, List.drop_append, List.drop_of_length_le (by omega), List.nil_append, show (i + 1) * 2 - (prc k x).length = i * 2 by omega]
    exact ih
theorem prs_get (k : IntKind) (l : List (Int × Int)) {i : Nat} {p : Int × Int} (h : l[i]? = some p) {j : Nat} (hj : j < 2) : (prs k l)[i * 2 + j]? = (prc k p)[j]? := by
  have hc := prs_cut k l h
  have hl : i < l.length := (List.getElem?_eq_some_iff.1 h).1
  rw [cut_eq (by rw [prs_len]; omega)] at hc
  have := Option.some.inj hc
  rw [← this, List.getElem?_take, if_pos hj, List.getElem?_drop]
theorem Prs.at {k : IntKind} {s : St} {u : Value} {l : List (Int × Int)} (h : Prs k s u l) {t e : TypeId} (hse : sliceElem P t = some e) (hs : isz P e = some 2) {i : Nat} {p : Int × Int} (hp : l[i]? = some p) :
    ∃ A o c, aindexAddr P t u (.int .i64 (i : Int)) = some (.pointer (some ⟨A, o, none⟩)) ∧ acells (s.at A) = some c ∧ cut c o 2 = some (prc k p) ∧ c[o]? = some (.int k p.1) ∧ c[o + 1]? = some (.int k p.2) := by
  have hl : i < l.length := (List.getElem?_eq_some_iff.1 hp).1
  obtain ⟨A, o, h1, h2, h3⟩ := Sl.ix h (by decide) (show (0 : Int) ≤ i by omega) (show (i : Int) < l.length by omega)
  have h0 := h3 0 2 (by decide) (by decide)
  simp only [Nat.add_zero] at h0
  rw [Int.toNat_natCast, prs_cut k l hp] at h0
  cases hc : acells (s.at A) with
  | none => rw [hc] at h0; cases h0
  | some c =>
    rw [hc] at h0
    have a0 := h2 0 (by decide)
    have a1 := h2 1 (by decide)
    rw [hc, Int.toNat_natCast, prs_get k l hp (by decide)] at a0 a1
    exact ⟨A, o, c, h1 hse hs, hc, h0, a0, a1⟩
theorem ld2 {s : St} {A o : Nat} : aload P s 47 (.pointer (some ⟨A, o, none⟩)) = ((acells (s.at A)).bind fun c => cut c o 2).map fun l => .agg l.toArray := loadN ap_47
section
variable {ro : Nat} {s : St} {B : Nat} {oA : Option Nat} {d : Bd} {K : Value → St → Prop}
def isPr (d : Bd) (p : Int × Int) : Bool := kn d [p.1, p.2]
theorem lPairs1 (h : Liv ro s B oA d) {C : Nat} {T : TypeId} {op : Bool} (hC : s.at C = some (.cells [ptr B] T op)) (p : Int × Int) : CallWP P ro 90 [.agg (.mk (prc .i64 p)), ptr C] s K = K (.bool (!isPr d p)) s := by
  refine callEq (call_wp b90 rfl ?_) K
  rw [n90]
  unfold v90
  simp (maxSteps := 10000000) only [wW, reduceCtorEq, Nat.reduceEqDiff]
  refine box_rule h.wf.ent fun A s1 m1 => ?_
  have hC1 : s1.at C = some (.cells [ptr B] T op) := (m1.grew.same C (St.at_lt hC)).trans hC
  refine load_rule (load_one ap_25 hC1 rfl) ⟨by simp [veq], ?_⟩
  refine sliceAll_rule un_47 isz_3 (by decide) ?_
  have hI : Ints s1 (.slice (some ⟨A, 0, none⟩) 2 2) [p.1, p.2] := ⟨some ⟨A, 0, none⟩, 2, rfl, rfl, ⟨Nat.le_refl _, fun h => (by cases h), fun x hx => by cases hx; exact .inl rfl⟩, fun _ => ⟨A, 0, none, _, _, _, rfl, rfl, m1.here, rfl⟩⟩
  rw [lKnown (h.ent.grew m1.grew) hI (show 2 < 2 ^ 62 by decide)]
  simp (maxSteps := 10000000) only [wW, reduceCtorEq, Nat.reduceEqDiff]
  exact fin_flat rfl m1.grew ⟨rfl, rfl⟩
def badP (d : Bd) : List (Int × Int) → Nat → Int
  | [], _ => -1
  | v :: r, j => if isPr d v = true then badP d r (j + 1) else j
theorem badP_all (d : Bd) : ∀ (l : List (Int × Int)) (j : Nat), decide (0 ≤ badP d l j) = !(l.all (isPr d))
  | [], j => by simp [badP]
  | v :: r, j => by
    unfold badP
    by_cases hv : isPr d v = true
    · rw [if_pos hv, badP_all d r (j + 1)]; simp [hv]
    · rw [if_neg hv]; simp [hv]
theorem wIndexP (h : Liv ro s B oA d) {C : Nat} {T : TypeId} {op : Bool} (hC : s.at C = some (.cells [ptr B] T op)) {u : Value} {l : List (Int × Int)} (hu : Prs .i64 s u l) (hlen : l.length < 2 ^ 60) :
    CallWP P ro 102 [u, .func (.func 90) (.mk []) (.mk [ptr C])] s K = K (.int .i64 (badP d l 0)) s := by
  refine callEq (call_wp b102 rfl ?_) K
  rw [n102]
  unfold v102
  simp only [wW, reduceCtorEq, Nat.reduceEqDiff, Sl.wlen hu se_46]
  refine wloop l102_10100 m102_10100 (fun (i : Nat) τ ds s' => τ 0 = u ∧ τ 1 = .func (.func 90) (.mk []) (.mk [ptr C]) ∧ τ 7 = .int .i64 l.length ∧ τ 8 = .int .i64 i ∧ ds = [] ∧ s' = ent s ∧ i ≤ l.length ∧ badP d (l.drop i) i = badP d l 0) (fun i => l.length - i) ?_ 0 ⟨rfl, rfl, rfl, rfl, rfl, rfl, Nat.zero_le _, rfl⟩
  rintro i τ ds s' ⟨h0, h1, h7, h8, rfl, rfl, hi, heq⟩
  rw [n102_10100]
  unfold v102_10100
  simp only [wW, reduceCtorEq, Nat.reduceEqDiff, h0, h1, h7, h8]
  by_cases hlt : (i : Int) < (l.length : Int)
  · have hlt' : i < l.length := by omega
    rw [if_pos hlt]
    obtain ⟨A5, o5, c5, z1, z2, z3, _⟩ := Prs.at hu se_46 isz_47 (List.getElem?_eq_getElem hlt')
    simp only [wW, reduceCtorEq, Nat.reduceEqDiff, wL, Nat.reduceAdd, z1, ld2, z2, z3, List.nil_append, List.cons_append]
    rw [drop_cons hlt', badP] at heq
    show CallWP P ro 90 [.agg (.mk (prc .i64 l[i])), ptr C] (Go.VE.ent s) _
    rw [lPairs1 h.ent (show (Go.VE.ent s).at C = _ from hC)]
    by_cases hv : isPr d l[i] = true
    · rw [if_pos hv] at heq
      simp only [wW, reduceCtorEq, Nat.reduceEqDiff, hv]
      refine ⟨i + 1, by omega, h0, h1, h7, ?_, trivial, trivial, hlt', heq⟩
      show Value.int .i64 (IntKind.i64.wrap ((i : Int) + 1)) = _
      rw [wrap_i64 (by omega) (by omega)]
      rfl
    · rw [if_neg hv] at heq
      simp only [wW, reduceCtorEq, Nat.reduceEqDiff, hv, r102]
      exact fin_flat rfl (.refl _) ⟨by rw [← heq]; rfl, rfl⟩
  · rw [if_neg hlt]
    have : l.drop i = [] := List.drop_eq_nil_of_le (by omega)
    rw [this, badP] at heq
    exact fin_flat rfl (.refl _) ⟨by rw [← heq], rfl⟩
theorem lPairs (h : Liv ro s B oA d) {u : Value} {l : List (Int × Int)} (hu : Prs .i64 s u l) (hlen : l.length < 2 ^ 60) : CallWP P ro 54 [ptr B, u] s K = K (.bool (l.all (isPr d))) s := by
  refine callEq (call_wp b54 rfl ?_) K
  rw [n54]
  unfold v54
  simp only [wW, reduceCtorEq, Nat.reduceEqDiff]
  refine box_rule h.wf.ent fun A s1 m1 => ?_
  have hc : ∀ {K' : Value → St → Prop}, CallWP P ro 89 [u, .func (.func 90) (.mk []) (.mk [ptr A])] s1 K' = K' (.bool (!(l.all (isPr d)))) s1 := fun {K'} => by
    refine callEq (call_wp b89 rfl ?_) K'
    rw [n89]
    unfold v89
    simp only [wW, reduceCtorEq, Nat.reduceEqDiff]
    rw [wIndexP (h.ent.grew m1.grew).ent (show (Go.VE.ent s1).at A = _ from m1.here) (Sl.ent ((Sl.ent hu).grew m1.grew.same)) hlen]
    simp only [wW, reduceCtorEq, Nat.reduceEqDiff, ge_iff_le, badP_all]
    exact fin_flat rfl (.refl _) ⟨rfl, rfl⟩
  rw [hc]
  simp only [wW, reduceCtorEq, Nat.reduceEqDiff, Bool.not_not]
  exact fin_flat rfl m1.grew ⟨rfl, rfl⟩
end
end Go.VE
/- A builder that lives: Climb, a round. -/
namespace Go.VE
open Go Go.Proofs
set_option maxRecDepth 20000
theorem OffS.ix {B : Nat} {oA : Option Nat} {n : Nat} {u : Value} (hoff : OffS B oA n u) (hu : ∃ a k c, u = .slice a k c) {t : TypeId} {i : Int} {A o : Nat} (h : aindexAddr P t u (.int .i64 i) = some (.pointer (some ⟨A, o, none⟩))) : A < n ∧ A ≠ B ∧ oA ≠ some A := by
  obtain ⟨a, k, c, rfl⟩ := hu
  unfold aindexAddr at h
  split at h
  · rename_i hx _; cases hx
  · rename_i elem A' o' sp len c' k' i' _ hx hi
    cases hx
    cases hi
    cases hz : isz P elem with
    | none => rw [hz] at h; cases h
    | some sz =>
      rw [hz, Option.bind_some] at h
      unfold aplace at h
      split at h
      · cases h
        exact hoff _ _ _ _ _ rfl
      · cases h
  · cases h
noncomputable def selA (d : Bd) (x : Int) (p q : Int × Int) : Bd × Int := mSelect d x p.1 q.1
noncomputable def selB (d : Bd) (x : Int) (p q : Int × Int) : Bd × Int := mSelect (selA d x p q).1 x p.2 q.2
noncomputable def sel2 (d : Bd) (x : Int) (p q : Int × Int) : Bd × Int × Int := ((selB d x p q).1, (selA d x p q).2, (selB d x p q).2)
theorem mSelect_le (d : Bd) (x u v : Int) : d.Le (mSelect d x u v).1 := by
  unfold mSelect
  split
  · exact mUndo_le ((mLinear_le _ _ _ _ _ _).trans ((mMul_le _ _ _).trans (mLinear_le _ _ _ _ _ _)))
  · exact mready_le _ _
section
variable {ro : Nat} {s : St} {B : Nat} {oA : Option Nat} {d : Bd} {K : Value → St → Prop}
structure ClI (ro : Nat) (s0 : St) (B : Nat) (oA0 : Option Nat) (u pv : Value) (bits : List Int) (path : List (Int × Int)) (R C A1 A2 A3 n0 : Nat) (r nv : Int) (oR : AO) (s : St) (oA : Option Nat) (d : Bd) (p : Int × Int) : Prop where
  run : Run1 ro s0 B oA0 s oA d
  cc : Lc s B oA C (.cells (p2c p) 47 false)
  rr : Lc s B oA R oR
  who : WholeAt n0 s B oA A1 A2 A3 r nv
  iu : Ints s u bits
  ip : Prs .i64 s pv path
  ou : OffS B oA s0.n u
  op : OffS B oA s0.n pv
theorem ClI.grew {s0 : St} {oA0 : Option Nat} {u pv : Value} {bits : List Int} {path : List (Int × Int)} {R C A1 A2 A3 n0 : Nat} {r nv : Int} {oR : AO} {p : Int × Int} {s' : St} (h : ClI ro s0 B oA0 u pv bits path R C A1 A2 A3 n0 r nv oR s oA d p) (g : Grew s s') : ClI ro s0 B oA0 u pv bits path R C A1 A2 A3 n0 r nv oR s' oA d p :=
  ⟨h.run.grew g, h.cc.grew g, h.rr.grew g, h.who.mut (.ofGrew g), Sl.grew h.iu g.same, Sl.grew h.ip g.same, h.ou, h.op⟩
theorem ClI.call {s0 : St} {oA0 : Option Nat} {u pv : Value} {bits : List Int} {path : List (Int × Int)} {R C A1 A2 A3 n0 : Nat} {r nv : Int} {oR : AO} {p : Int × Int} {s' : St} {oA' : Option Nat} {d' : Bd} (h : ClI ro s0 B oA0 u pv bits path R C A1 A2 A3 n0 r nv oR s oA d p) (l : Liv ro s' B oA' d') (m : Mut s B oA s' oA') : ClI ro s0 B oA0 u pv bits path R C A1 A2 A3 n0 r nv oR s' oA' d' p :=
  ⟨h.run.call l m, h.cc.mut m, h.rr.mut m, h.who.mut m, h.ou.sl h.run.mt.n m h.iu, h.op.sl h.run.mt.n m h.ip, h.ou.mut h.run.mt.n m, h.op.mut h.run.mt.n m⟩
theorem ClI.put {s0 : St} {oA0 : Option Nat} {u pv : Value} {bits : List Int} {path : List (Int × Int)} {R C A1 A2 A3 n0 : Nat} {r nv : Int} {oR : AO} {p : Int × Int} {s' : St} {A : Nat} {o o' : AO} (h : ClI ro s0 B oA0 u pv bits path R C A1 A2 A3 n0 r nv oR s oA d p) (a : Lc s B oA A o) (hA : s0.n ≤ A) (hC : C ≠ A) (hR : R ≠ A) (hw : A1 ≠ A ∧ A2 ≠ A ∧ A3 ≠ A) (q : Put s A o' s') :
    ClI ro s0 B oA0 u pv bits path R C A1 A2 A3 n0 r nv oR s' oA d p ∧ Lc s' B oA A o' :=
  ⟨⟨h.run.put q hA a.own, h.cc.put q hC, h.rr.put q hR, h.who.putN q hw.1 hw.2.1 hw.2.2, h.ou.slPut hA q h.iu, h.op.slPut hA q h.ip, h.ou, h.op⟩, q.here, a.ne, a.own⟩
end
end Go.VE
/- A builder that lives: Climb, from its loop on. -/
namespace Go.VE
open Go Go.Proofs
set_option maxRecDepth 20000
section
variable {ro : Nat} {s : St} {B : Nat} {oA : Option Nat} {d : Bd} {K : Value → St → Prop}
end
end Go.VE
/- A builder that lives: Climb. -/
namespace Go.VE
open Go Go.Proofs
set_option maxRecDepth 20000
theorem mready_false (d : Bd) (b : Bool) : (mready d (false && b)).2 = false := by
  unfold mready
  by_cases he : d.e ≠ 0
  · rw [if_pos he]
  · rw [if_neg he]; rfl
section
variable {ro : Nat} {s : St} {B : Nat} {oA : Option Nat} {d : Bd} {K : Value → St → Prop}
end
end Go.VE
