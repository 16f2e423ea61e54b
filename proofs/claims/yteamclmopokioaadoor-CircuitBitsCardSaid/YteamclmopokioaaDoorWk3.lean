/-
  What the functions compute.
-/
import Derived.Test.YteamclmopokioaaDoorWk2
set_option linter.unusedSimpArgs false
set_option linter.unusedVariables false
/- A builder's Power and Pick, as functions. -/
namespace Go.VE
open Go Go.Proofs
set_option maxRecDepth 20000
noncomputable def powV (bits : List Int) (c : Bd × Int × Int) (j : Nat) : Bd × Int := mLinear c.1 (at0 bits j) (at0 bits j) (fSub c.1.f c.2.2 1) 0 1
noncomputable def powW (bits : List Int) (c : Bd × Int × Int) (j : Nat) : Bd × Int := mMul (powV bits c j).1 c.2.1 (powV bits c j).2
noncomputable def powS (bits : List Int) (c : Bd × Int × Int) (j : Nat) : Bd × Int × Int := ((powW bits c j).1, (powW bits c j).2, fMul (powW bits c j).1.f c.2.2 c.2.2)
noncomputable def powI (bits : List Int) (c0 : Bd × Int × Int) : Nat → Bd × Int × Int
  | 0 => c0
  | j + 1 => powS bits (powI bits c0 j) j
noncomputable def powE (d : Bd) (bits : List Int) (x : Int) : Bd × Int × Int := powI bits ((mConst d 1).1, (mConst d 1).2, x) bits.length
noncomputable def mPower (d : Bd) (bits : List Int) (x : Int) : Bd × Int :=
  if (mready d (kn d bits && nums d [x])).2 = true then (mUndo (powE d bits x).1 d.rows.length d.nv, (powE d bits x).2.1)
  else ((mready d (kn d bits && nums d [x])).1, -1)
theorem powS_le (bits : List Int) (c : Bd × Int × Int) (j : Nat) : c.1.Le (powS bits c j).1 := (mLinear_le _ _ _ _ _ _).trans (mMul_le _ _ _)
theorem powI_le (bits : List Int) (c0 : Bd × Int × Int) : ∀ j, c0.1.Le (powI bits c0 j).1
  | 0 => .refl _
  | j + 1 => (powI_le bits c0 j).trans (powS_le _ _ _)
theorem powE_le (d : Bd) (bits : List Int) (x : Int) : d.Le (powE d bits x).1 := (mConst_le d 1).trans (powI_le bits ((mConst d 1).1, (mConst d 1).2, x) _)
noncomputable def pickS (bit : Int) (l : List (Int × Int)) (c : Bd × List (Int × Int)) (i : Nat) : Bd × List (Int × Int) :=
  ((sel2 c.1 bit (l.getD (2 * i) (0, 0)) (l.getD (2 * i + 1) (0, 0))).1, c.2 ++ [(sel2 c.1 bit (l.getD (2 * i) (0, 0)) (l.getD (2 * i + 1) (0, 0))).2])
noncomputable def pickI (bit : Int) (l : List (Int × Int)) (d : Bd) : Nat → Bd × List (Int × Int)
  | 0 => (d, [])
  | i + 1 => pickS bit l (pickI bit l d i) i
noncomputable def pickO (bits : List Int) (c0 : Bd × List (Int × Int)) : Nat → Bd × List (Int × Int)
  | 0 => c0
  | j + 1 => pickI (at0 bits j) (pickO bits c0 j).2 (pickO bits c0 j).1 ((pickO bits c0 j).2.length / 2)
noncomputable def pickE (d : Bd) (bits : List Int) (l : List (Int × Int)) : Bd × List (Int × Int) := pickO bits (d, l) bits.length
def pickC (d : Bd) (bits : List Int) (l : List (Int × Int)) : Bool := decide (bits.length ≤ 8) && (decide (l.length = 2 ^ (min bits.length 8)) && (kn d bits && l.all (isPr d)))
noncomputable def mPick (d : Bd) (bits : List Int) (l : List (Int × Int)) : Bd × Int × Int :=
  if (mready d (pickC d bits l && nums d [])).2 = true then (mUndo (pickE d bits l).1 d.rows.length d.nv, mPair (pickE d bits l).1 ((pickE d bits l).2.getD 0 (0, 0)).1 ((pickE d bits l).2.getD 0 (0, 0)).2)
  else ((mready d (pickC d bits l && nums d [])).1, (-1, -1))
theorem sel2_le (d : Bd) (x : Int) (p q : Int × Int) : d.Le (sel2 d x p q).1 := (mSelect_le _ _ _ _).trans (mSelect_le _ _ _ _)
theorem pickI_le (bit : Int) (l : List (Int × Int)) (d : Bd) : ∀ i, d.Le (pickI bit l d i).1
  | 0 => .refl _
  | i + 1 => (pickI_le bit l d i).trans (sel2_le _ _ _ _)
theorem pickI_len (bit : Int) (l : List (Int × Int)) (d : Bd) : ∀ i, (pickI bit l d i).2.length = i
  | 0 => rfl
  | i + 1 => by
    show ((pickI bit l d i).2 ++ [_]).length = i + 1
    rw [List.length_append, pickI_len bit l d i]
    rfl
theorem pickO_le (bits : List Int) (c0 : Bd × List (Int × Int)) : ∀ j, c0.1.Le (pickO bits c0 j).1
  | 0 => .refl _
  | j + 1 => (pickO_le bits c0 j).trans (pickI_le _ _ _ _)
theorem pickO_len (bits : List Int) {d : Bd} {l : List (Int × Int)} {n : Nat} (hl : l.length = 2 ^ n) : ∀ j, j ≤ n → (pickO bits (d, l) j).2.length = 2 ^ (n - j)
  | 0, _ => hl
  | j + 1, h => by
    rw [pickO, pickI_len, pickO_len bits hl j (by omega), show n - j = n - (j + 1) + 1 by omega, Nat.pow_succ]
    omega
end Go.VE
/- What Select, Node, Climb mean. -/
namespace Go.VE
open Go Go.Proofs
set_option maxRecDepth 20000
structure Pv (V : List Int) (p q : Int × Int) : Prop where
  r1 : 0 ≤ p.1 ∧ p.1 < V.length
  r2 : 0 ≤ p.2 ∧ p.2 < V.length
  v1 : at0 V p.1 = q.1
  v2 : at0 V p.2 = q.2
theorem Pv.pre {V W : List Int} {p q : Int × Int} (h : Pv V p q) (hp : V <+: W) : Pv W p q := by
  have hl := hp.length_le
  have h1 := h.r1
  have h2 := h.r2
  exact ⟨by omega, by omega, (at0_pre hp h.r1).trans h.v1, (at0_pre hp h.r2).trans h.v2⟩
theorem sel_one {p u v : Int} (h0 : 0 ≤ v) (h1 : v < p) : (1 * u + 1 * (1 * (((p - 1) * u + 1 * v + 0) % p) % p) + 0) % p = v := by
  rw [Int.one_mul, Int.one_mul, Int.one_mul, Int.one_mul, Int.add_zero, Int.add_zero, Int.emod_emod, Int.add_emod_emod]
  have : u + ((p - 1) * u + v) = v + p * u := by rw [Int.sub_mul, Int.one_mul]; omega
  rw [this, Int.add_mul_emod_self_left, Int.emod_eq_of_lt h0 h1]
theorem sel_zero {p u x : Int} (h0 : 0 ≤ u) (h1 : u < p) : (1 * u + 1 * (0 * x % p) + 0) % p = u := by
  rw [Int.zero_mul, Int.zero_emod, Int.mul_zero, Int.add_zero, Int.add_zero, Int.one_mul, Int.emod_eq_of_lt h0 h1]
section
variable {xs V : List Int} {d : Bd} {c : Prop}
theorem Sm.select (h : Sm xs d V c) {x u v : Int} (hx : 0 ≤ x ∧ x < V.length) (hu : 0 ≤ u ∧ u < V.length) (hv : 0 ≤ v ∧ v < V.length) (hb : at0 V x = 0 ∨ at0 V x = 1) (hr : d.rows.length + 3 ≤ 8000) (hn : d.nv + 3 ≤ 40000) :
    ∃ W, Sm xs (mSelect d x u v).1 W c ∧ V <+: W ∧ W.length = V.length + 3 ∧ (mSelect d x u v).1.f = d.f ∧ (mSelect d x u v).1.rows.length = d.rows.length + 3 ∧ (0 ≤ (mSelect d x u v).2 ∧ (mSelect d x u v).2 < W.length) ∧
      at0 W (mSelect d x u v).2 = if at0 V x = 1 then at0 V v else at0 V u := by
  have hp := fP_one h.f
  have hlen := h.len
  obtain ⟨a1, a2, a3, h1⟩ := h.linear (x := fP d.f - 1) (y := 1) (z := 0) hu hv (by omega) (by omega) (by omega) (by omega) (by omega)
  have l1 := h1.len
  have hV1 : (V ++ [((fP d.f - 1) * at0 V u + 1 * at0 V v + 0) % fP d.f]).length = V.length + 1 := by simp
  have g1 : at0 (V ++ [((fP d.f - 1) * at0 V u + 1 * at0 V v + 0) % fP d.f]) (V.length : Nat) = ((fP d.f - 1) * at0 V u + 1 * at0 V v + 0) % fP d.f := at0_last (W := [])
  have k1 : ∀ i : Int, 0 ≤ i ∧ i < V.length → at0 (V ++ [((fP d.f - 1) * at0 V u + 1 * at0 V v + 0) % fP d.f]) i = at0 V i := fun i hi => at0_app hi.1 hi.2
  have p1 : V <+: V ++ [((fP d.f - 1) * at0 V u + 1 * at0 V v + 0) % fP d.f] := List.prefix_append _ _
  generalize hd1 : mLinear d u v (fP d.f - 1) 1 0 = D1 at a1 a2 a3 h1 l1
  generalize V ++ [((fP d.f - 1) * at0 V u + 1 * at0 V v + 0) % fP d.f] = V1 at *
  obtain ⟨b1, b2, b3, h2⟩ := h1.mul (u := x) (v := D1.2) (by omega) (by omega) (by omega) (by omega)
  have l2 := h2.len
  rw [a1, g1, k1 x hx, a2] at h2
  have hV2 : (V1 ++ [at0 V x * (((fP d.f - 1) * at0 V u + 1 * at0 V v + 0) % fP d.f) % fP d.f]).length = V1.length + 1 := by simp
  have g2 : at0 (V1 ++ [at0 V x * (((fP d.f - 1) * at0 V u + 1 * at0 V v + 0) % fP d.f) % fP d.f]) (V1.length : Nat) = at0 V x * (((fP d.f - 1) * at0 V u + 1 * at0 V v + 0) % fP d.f) % fP d.f := at0_last (W := [])
  have p2 : V1 <+: V1 ++ [at0 V x * (((fP d.f - 1) * at0 V u + 1 * at0 V v + 0) % fP d.f) % fP d.f] := List.prefix_append _ _
  rw [← a1] at h2
  generalize hd2 : mMul D1.1 x D1.2 = D2 at b1 b2 b3 h2 l2
  generalize V1 ++ [at0 V x * (((fP d.f - 1) * at0 V u + 1 * at0 V v + 0) % fP d.f) % fP d.f] = V2 at *
  have l2' := h2.len
  obtain ⟨c1, c2, c3, h3⟩ := h2.linear (u := u) (v := D2.2) (x := 1) (y := 1) (z := 0) (by omega) (by omega) (by rw [b2, a2]; omega) (by rw [b2, a2]; omega) (by rw [b2, a2]; omega) (by omega) (by omega)
  rw [b1, g2, at0_pre (p1.trans p2) hu, b2, a2] at h3
  have em : mSelect d x u v = mLinear D2.1 u D2.2 1 1 0 := by
    unfold mSelect
    rw [h.kn (l := [x, u, v]) (by simp; omega), nums_t (by simp), Bool.and_true, mready_t h.e, if_pos rfl, hd1, hd2, undo_ok]
    rw [← b1] at h3
    exact h3.e
  rw [em]
  refine ⟨_, by rw [← b1] at h3; exact h3, (p1.trans p2).trans (List.prefix_append _ _), by rw [List.length_append, List.length_singleton]; omega, by rw [c2, b2, a2], by rw [c3, b3, a3], ?_, ?_⟩
  · rw [c1, List.length_append]; simp only [List.length_cons, List.length_nil]; omega
  · rw [c1]
    have g3 : ∀ z : Int, at0 (V2 ++ [z]) (V2.length : Nat) = z := fun z => at0_last (W := [])
    rw [g3]
    rcases hb with hb | hb
    · rw [hb, if_neg (by decide)]
      exact sel_zero (h.val hu).1 (h.val hu).2
    · rw [hb, if_pos rfl]
      exact sel_one (h.val hv).1 (h.val hv).2
theorem Sm.selp (h : Sm xs d V c) {x : Int} {p q P Q : Int × Int} (hx : 0 ≤ x ∧ x < V.length) (hp : Pv V p P) (hq : Pv V q Q) (hb : at0 V x = 0 ∨ at0 V x = 1) (hr : d.rows.length + 6 ≤ 8000) (hn : d.nv + 6 ≤ 40000) :
    ∃ W, Sm xs (sel2 d x p q).1 W c ∧ V <+: W ∧ W.length = V.length + 6 ∧ (sel2 d x p q).1.f = d.f ∧ (sel2 d x p q).1.rows.length = d.rows.length + 6 ∧ Pv W (sel2 d x p q).2 (if at0 V x = 1 then Q else P) := by
  have hlen := h.len
  obtain ⟨W1, s1, p1, l1, f1, r1, i1, v1⟩ := h.select hx hp.r1 hq.r1 hb (by omega) (by omega)
  have e1 : mSelect d x p.1 q.1 = selA d x p q := rfl
  rw [e1] at s1 f1 r1 i1 v1
  have hlen1 := s1.len
  have hp1 := hp.pre p1
  have hq1 := hq.pre p1
  have hx1 := at0_pre p1 hx
  obtain ⟨W2, s2, p2, l2, f2, r2, i2, v2⟩ := s1.select (x := x) (u := p.2) (v := q.2) (by omega) hp1.r2 hq1.r2 (by rw [hx1]; exact hb) (by omega) (by omega)
  have e2 : mSelect (selA d x p q).1 x p.2 q.2 = selB d x p q := rfl
  rw [e2] at s2 f2 r2 i2 v2
  have hl2 := p2.length_le
  refine ⟨W2, s2, p1.trans p2, by omega, f2.trans f1, by show (selB d x p q).1.rows.length = _; omega, by show 0 ≤ (selA d x p q).2 ∧ (selA d x p q).2 < (W2.length : Int); omega, i2, ?_, ?_⟩
  · show at0 W2 (selA d x p q).2 = _
    rw [at0_pre p2 i1, v1, hp.v1, hq.v1]
    split <;> rfl
  · show at0 W2 (selB d x p q).2 = _
    rw [v2, hx1, hp1.v2, hq1.v2]
    split <;> rfl
end
end Go.VE
/- What Bit, Power, Pick mean. -/
namespace Go.VE
open Go Go.Proofs
set_option maxRecDepth 20000
def bsum (b : Nat → Int) : Nat → Nat
  | 0 => 0
  | j + 1 => bsum b j + if b j = 1 then 2 ^ j else 0
theorem getD_app1 {α : Type} {l r : List α} {z : α} {n : Nat} (h : n < l.length) : (l ++ r).getD n z = l.getD n z := by
  rw [List.getD_eq_getElem?_getD, List.getD_eq_getElem?_getD, List.getElem?_append_left h]
theorem getD_app2 {α : Type} {l r : List α} {z : α} {n : Nat} (h : l.length ≤ n) : (l ++ r).getD n z = r.getD (n - l.length) z := by
  rw [List.getD_eq_getElem?_getD, List.getD_eq_getElem?_getD, List.getElem?_append_right h]
theorem Int.emod_mul_emod' (a b p : Int) : a % p * (b % p) % p = a * b % p := (Int.mul_emod a b p).symm
section
variable {xs V : List Int} {d : Bd} {c : Prop}
theorem Sm.bit (h : Sm xs d V c) {u : Int} (hu : 0 ≤ u ∧ u < V.length) (hr : d.rows.length < 8000) :
    (mBit d u).f = d.f ∧ (mBit d u).rows.length = d.rows.length + 1 ∧ Sm xs (mBit d u) V (c ∧ at0 V u * (at0 V u - 1) % fP d.f = 0) := by
  have hp := fP_one h.f
  have hnv := h.nv
  have em : mBit d u = d.add 0 [arithRow u u (-1) (fP d.f - 1) 0 1 0 0] := by
    unfold mBit
    rw [h.kn (l := [u]) (by simp; omega), nums_t (by simp), Bool.and_true, mready_t h.e, if_pos rfl, mput_ok h.e]
    rintro (hf | hf)
    · simp only [List.length_cons, List.length_nil] at hf; omega
    · omega
  have hok : ArOk d.f V.length (arithRow u u (-1) (fP d.f - 1) 0 1 0 0) := arOk (by omega) (by omega) (fun q hq => by
    simp only [List.mem_cons, List.not_mem_nil, or_false] at hq
    rcases hq with rfl | rfl | rfl | rfl | rfl <;> omega) (fun _ => hu.1) (fun _ => hu.1)
  have := h.ask hok rfl rfl hr
  rw [sumM_eq h.f] at this
  rw [em]
  refine ⟨rfl, by show (d.rows ++ [_]).length = _; simp, ?_⟩
  have e : ((arithRow u u (-1) (fP d.f - 1) 0 1 0 0).ql * at0 V (arithRow u u (-1) (fP d.f - 1) 0 1 0 0).w0 + (arithRow u u (-1) (fP d.f - 1) 0 1 0 0).qr * at0 V (arithRow u u (-1) (fP d.f - 1) 0 1 0 0).w1 + (arithRow u u (-1) (fP d.f - 1) 0 1 0 0).qm * (at0 V (arithRow u u (-1) (fP d.f - 1) 0 1 0 0).w0 * at0 V (arithRow u u (-1) (fP d.f - 1) 0 1 0 0).w1) + (arithRow u u (-1) (fP d.f - 1) 0 1 0 0).qc) % fP d.f = at0 V u * (at0 V u - 1) % fP d.f := by
    show ((fP d.f - 1) * at0 V u + 0 * at0 V u + 1 * (at0 V u * at0 V u) + 0) % fP d.f = _
    have : (fP d.f - 1) * at0 V u + 0 * at0 V u + 1 * (at0 V u * at0 V u) + 0 = at0 V u * (at0 V u - 1) + fP d.f * at0 V u := by
      rw [Int.sub_mul, Int.mul_sub, Int.one_mul, Int.zero_mul, Int.one_mul, Int.mul_one]
      omega
    rw [this, Int.add_mul_emod_self_left]
  rw [e] at this
  exact this
theorem Sm.pows (h : Sm xs d V c) {bits : List Int} {X w0 : Int} (hX : 0 ≤ X ∧ X < fP d.f) (hw : 0 ≤ w0 ∧ w0 < V.length) (hw1 : at0 V w0 = 1)
    (hb : ∀ j : Nat, j < bits.length → 0 ≤ at0 bits j ∧ at0 bits j < V.length ∧ (at0 V (at0 bits j) = 0 ∨ at0 V (at0 bits j) = 1)) : ∀ j, j ≤ bits.length → d.rows.length + 2 * j ≤ 8000 → d.nv + 2 * j ≤ 40000 →
    ∃ W, Sm xs (powI bits (d, w0, X) j).1 W c ∧ V <+: W ∧ W.length = V.length + 2 * j ∧ (powI bits (d, w0, X) j).1.f = d.f ∧ (powI bits (d, w0, X) j).1.rows.length = d.rows.length + 2 * j ∧ (0 ≤ (powI bits (d, w0, X) j).2.1 ∧ (powI bits (d, w0, X) j).2.1 < W.length) ∧
      at0 W (powI bits (d, w0, X) j).2.1 = X ^ (bsum (fun j => at0 V (at0 bits j)) j) % fP d.f ∧ (powI bits (d, w0, X) j).2.2 = X ^ (2 ^ j) % fP d.f
  | 0, _, _, _ => by
    have hp := fP_one h.f
    refine ⟨V, h, List.prefix_refl _, rfl, rfl, rfl, hw, ?_, ?_⟩
    · show at0 V w0 = X ^ 0 % fP d.f
      rw [hw1, Int.pow_zero, Int.emod_eq_of_lt (by omega) hp]
    · show X = X ^ (2 ^ 0) % fP d.f
      rw [Nat.pow_zero, Int.pow_one, Int.emod_eq_of_lt hX.1 hX.2]
  | j + 1, hj, hr, hn => by
    have hp := fP_one h.f
    obtain ⟨W, s1, p1, l1, f1, r1, i1, v1, y1⟩ := h.pows hX hw hw1 hb j (by omega) (by omega) (by omega)
    have hlen := h.len
    have hlen1 := s1.len
    obtain ⟨b0, b1, bv⟩ := hb j (by omega)
    have hxj := at0_pre p1 ⟨b0, b1⟩
    have hstep : powI bits (d, w0, X) (j + 1) = powS bits (powI bits (d, w0, X) j) j := rfl
    rw [hstep, bsum]
    generalize powI bits (d, w0, X) j = C at s1 l1 f1 r1 i1 v1 y1 hlen1 ⊢
    obtain ⟨dc, w, y⟩ := C
    simp only at s1 l1 f1 r1 i1 v1 y1 hlen1
    have hfs : fSub dc.f y 1 = (y - 1) % fP d.f := by unfold fSub; rw [f1, if_pos h.f]
    have hm := Int.emod_nonneg (y - 1) (show fP d.f ≠ 0 by omega)
    have hm2 := Int.emod_lt_of_pos (y - 1) (show 0 < fP d.f by omega)
    obtain ⟨a1, a2, a3, h2⟩ := s1.linear (u := at0 bits j) (v := at0 bits j) (x := fSub dc.f y 1) (y := 0) (z := 1) (by omega) (by omega) (by rw [hfs, f1]; exact ⟨hm, hm2⟩) (by rw [f1]; omega) (by rw [f1]; omega) (by omega) (by omega)
    have e1 : mLinear dc (at0 bits j) (at0 bits j) (fSub dc.f y 1) 0 1 = powV bits (dc, w, y) j := rfl
    rw [e1] at a1 a2 a3 h2
    generalize hval : (fSub dc.f y 1 * at0 W (at0 bits j) + 0 * at0 W (at0 bits j) + 1) % fP dc.f = val at h2
    have hVl : (W ++ [val]).length = W.length + 1 := by simp
    have pp : W <+: W ++ [val] := List.prefix_append _ _
    have hl2 := h2.len
    obtain ⟨c1, c2, c3, h3⟩ := h2.mul (u := w) (v := (powV bits (dc, w, y) j).2) (by omega) (by omega) (by omega) (by omega)
    have e2 : mMul (powV bits (dc, w, y) j).1 w (powV bits (dc, w, y) j).2 = powW bits (dc, w, y) j := rfl
    rw [e2] at c1 c2 c3 h3
    have gv : at0 (W ++ [val]) (powV bits (dc, w, y) j).2 = val := by rw [a1]; exact at0_last (W := [])
    rw [gv, at0_pre pp i1, v1, a2, f1] at h3
    have hVl2 : ∀ z : Int, (W ++ [val] ++ [z]).length = W.length + 2 := fun z => by simp
    refine ⟨_, h3, p1.trans (pp.trans (List.prefix_append _ _)), by rw [hVl2]; omega, c2.trans (a2.trans f1), by show (powW bits (dc, w, y) j).1.rows.length = _; omega, ?_, ?_, ?_⟩
    · show 0 ≤ (powW bits (dc, w, y) j).2 ∧ (powW bits (dc, w, y) j).2 < _
      rw [c1, hVl2, hVl]; omega
    · show at0 _ (powW bits (dc, w, y) j).2 = _
      have g3 : ∀ z : Int, at0 (W ++ [val] ++ [z]) ((W ++ [val]).length : Nat) = z := fun z => at0_last (W := [])
      rw [c1, g3, ← hval, hfs, f1, hxj]
      rcases bv with e | e
      · simp only [e, Int.mul_zero, Int.zero_add]
        rw [if_neg (by decide), Nat.add_zero, Int.emod_eq_of_lt (show (0 : Int) ≤ 1 by decide) hp, Int.mul_one, Int.emod_emod]
      · simp only [e, Int.mul_one, Int.add_zero]
        rw [if_pos trivial, Int.emod_add_emod, show y - 1 + 1 = y by omega, Int.emod_mul_emod', y1, Int.pow_add, Int.mul_emod, Int.emod_emod, ← Int.mul_emod]
    · show fMul (powW bits (dc, w, y) j).1.f y y = _
      unfold fMul
      rw [c2, a2, f1, if_pos h.f, y1, ← Int.mul_emod, ← Int.pow_add, show 2 ^ j + 2 ^ j = 2 ^ (j + 1) by rw [Nat.pow_succ]; omega]
theorem Sm.power (h : Sm xs d V c) {bits : List Int} {X : Int} (hX : 0 ≤ X ∧ X < fP d.f) (hb : ∀ j : Nat, j < bits.length → 0 ≤ at0 bits j ∧ at0 bits j < V.length ∧ (at0 V (at0 bits j) = 0 ∨ at0 V (at0 bits j) = 1)) (hr : d.rows.length + 2 * bits.length + 1 ≤ 8000) (hn : d.nv + 2 * bits.length + 1 ≤ 40000) :
    ∃ W, Sm xs (mPower d bits X).1 W c ∧ V <+: W ∧ W.length = V.length + 2 * bits.length + 1 ∧ (mPower d bits X).1.f = d.f ∧ (mPower d bits X).1.rows.length = d.rows.length + 2 * bits.length + 1 ∧ (0 ≤ (mPower d bits X).2 ∧ (mPower d bits X).2 < W.length) ∧ at0 W (mPower d bits X).2 = X ^ (bsum (fun j => at0 V (at0 bits j)) bits.length) % fP d.f := by
  have hlen := h.len
  have hp := fP_one h.f
  obtain ⟨e1, f1, r1, s1⟩ := h.const (x := 1) (by omega) (by omega) (by omega)
  have hl1 := s1.len
  have pp : V <+: V ++ [(1 : Int)] := List.prefix_append _ _
  have hVl : (V ++ [(1 : Int)]).length = V.length + 1 := by simp
  have g1 : at0 (V ++ [(1 : Int)]) (mConst d 1).2 = 1 := by rw [e1]; exact at0_last (W := [])
  have hb1 : ∀ j : Nat, j < bits.length → at0 (V ++ [(1 : Int)]) (at0 bits j) = at0 V (at0 bits j) := fun j hj => at0_pre pp ⟨(hb j hj).1, (hb j hj).2.1⟩
  obtain ⟨W, s2, p2, l2, f2, r2, i2, v2, y2⟩ := s1.pows (X := X) (w0 := (mConst d 1).2) (bits := bits) (by rw [f1]; exact hX) (by rw [e1, hVl]; omega) g1 (fun j hj => by
    have := hb j hj
    rw [hb1 j hj]
    exact ⟨this.1, by omega, this.2.2⟩) bits.length (Nat.le_refl _) (by omega) (by omega)
  have hs : ∀ n, n ≤ bits.length → bsum (fun j => at0 (V ++ [(1 : Int)]) (at0 bits j)) n = bsum (fun j => at0 V (at0 bits j)) n := by
    intro n
    induction n with
    | zero => intro _; rfl
    | succ n ih => intro hn; rw [bsum, bsum, ih (by omega), hb1 n (by omega)]
  rw [hs _ (Nat.le_refl _), f1] at v2
  have eE : powI bits ((mConst d 1).1, (mConst d 1).2, X) bits.length = powE d bits X := rfl
  rw [eE] at s2 f2 r2 i2 v2
  have hkn : Go.VE.kn d bits = true := h.kn fun v hv => by
    obtain ⟨j, hj, rfl⟩ := List.getElem_of_mem hv
    have := hb j hj
    unfold at0 at this
    rw [Int.toNat_natCast, List.getElem?_eq_getElem hj] at this
    exact ⟨this.1, this.2.1⟩
  have em : mPower d bits X = ((powE d bits X).1, (powE d bits X).2.1) := by
    unfold mPower
    rw [hkn, nums_t (by simp; omega), Bool.and_true, mready_t h.e, if_pos rfl, undo_ok s2.e]
  rw [em]
  exact ⟨W, s2, pp.trans p2, by omega, f2.trans f1, by show (powE d bits X).1.rows.length = _; omega, i2, v2⟩
def PvL (V : List Int) (l Q : List (Int × Int)) : Prop := l.length = Q.length ∧ ∀ j : Nat, j < l.length → Pv V (l.getD j (0, 0)) (Q.getD j (0, 0))
theorem PvL.pre {V W : List Int} {l Q : List (Int × Int)} (h : PvL V l Q) (hp : V <+: W) : PvL W l Q := ⟨h.1, fun j hj => (h.2 j hj).pre hp⟩
def halfV (b : Int) (Q : List (Int × Int)) : Nat → List (Int × Int)
  | 0 => []
  | i + 1 => halfV b Q i ++ [if b = 1 then Q.getD (2 * i + 1) (0, 0) else Q.getD (2 * i) (0, 0)]
def pickV (b : Nat → Int) (Q : List (Int × Int)) : Nat → List (Int × Int)
  | 0 => Q
  | j + 1 => halfV (b j) (pickV b Q j) ((pickV b Q j).length / 2)
theorem halfV_len (b : Int) (Q : List (Int × Int)) : ∀ i, (halfV b Q i).length = i
  | 0 => rfl
  | i + 1 => by rw [halfV, List.length_append, halfV_len b Q i]; rfl
theorem halfV_get (b : Int) (Q : List (Int × Int)) : ∀ n i, i < n → (halfV b Q n).getD i (0, 0) = if b = 1 then Q.getD (2 * i + 1) (0, 0) else Q.getD (2 * i) (0, 0)
  | n + 1, i, h => by
    rw [halfV]
    rcases Nat.lt_or_ge i n with hlt | hge
    · rw [getD_app1 (by rw [halfV_len]; exact hlt)]
      exact halfV_get b Q n i hlt
    · obtain rfl : i = n := by omega
      rw [getD_app2 (by rw [halfV_len]; exact Nat.le_refl _), halfV_len, Nat.sub_self]
      rfl
theorem pickV_len (b : Nat → Int) {Q : List (Int × Int)} {n : Nat} (hl : Q.length = 2 ^ n) : ∀ j, j ≤ n → (pickV b Q j).length = 2 ^ (n - j)
  | 0, _ => hl
  | j + 1, h => by
    rw [pickV, halfV_len, pickV_len b hl j (by omega), show n - j = n - (j + 1) + 1 by omega, Nat.pow_succ]
    omega
theorem pickV_get {b : Nat → Int} {Q : List (Int × Int)} {n : Nat} (hl : Q.length = 2 ^ n) (hb : ∀ j, j < n → b j = 0 ∨ b j = 1) : ∀ j, j ≤ n → ∀ i, i < 2 ^ (n - j) → (pickV b Q j).getD i (0, 0) = Q.getD (i * 2 ^ j + bsum b j) (0, 0)
  | 0, _, i, _ => by rw [pickV, bsum, Nat.pow_zero, Nat.mul_one, Nat.add_zero]
  | j + 1, h, i, hi => by
    have hlj := pickV_len b hl j (by omega)
    have hpw : 2 ^ (n - j) = 2 * 2 ^ (n - (j + 1)) := by rw [show n - j = n - (j + 1) + 1 by omega, Nat.pow_succ]; omega
    rw [pickV, halfV_get _ _ _ _ (by omega), bsum]
    rcases hb j (by omega) with e | e
    · rw [e, if_neg (by decide), if_neg (by decide), pickV_get hl hb j (by omega) (2 * i) (by omega)]
      congr 1
      rw [Nat.pow_succ, Nat.add_zero, Nat.mul_comm 2 i, Nat.mul_assoc, Nat.mul_comm 2 (2 ^ j)]
    · rw [e, if_pos rfl, if_pos rfl, pickV_get hl hb j (by omega) (2 * i + 1) (by omega)]
      congr 1
      rw [Nat.pow_succ, Nat.add_mul, Nat.one_mul, Nat.mul_comm 2 i, Nat.mul_assoc, Nat.mul_comm 2 (2 ^ j)]
      omega
theorem Sm.half (h : Sm xs d V c) {bit : Int} {l Q : List (Int × Int)} (hx : 0 ≤ bit ∧ bit < V.length) (hb : at0 V bit = 0 ∨ at0 V bit = 1) (hq : PvL V l Q) : ∀ i, 2 * i ≤ l.length → d.rows.length + 6 * i ≤ 8000 → d.nv + 6 * i ≤ 40000 →
    ∃ W, Sm xs (pickI bit l d i).1 W c ∧ V <+: W ∧ W.length = V.length + 6 * i ∧ (pickI bit l d i).1.f = d.f ∧ (pickI bit l d i).1.rows.length = d.rows.length + 6 * i ∧ PvL W (pickI bit l d i).2 (halfV (at0 V bit) Q i)
  | 0, _, _, _ => ⟨V, h, List.prefix_refl _, rfl, rfl, rfl, rfl, fun j hj => absurd hj (Nat.not_lt_zero _)⟩
  | i + 1, hi, hr, hn => by
    obtain ⟨W, s1, p1, l1, f1, r1, v1⟩ := h.half hx hb hq i (by omega) (by omega) (by omega)
    have hlen := h.len
    have hlen1 := s1.len
    have hxi := at0_pre p1 hx
    have hl1 := pickI_len bit l d i
    have hstep : pickI bit l d (i + 1) = pickS bit l (pickI bit l d i) i := rfl
    rw [hstep, halfV]
    generalize pickI bit l d i = C at s1 l1 f1 r1 v1 hlen1 hl1 ⊢
    obtain ⟨dc, hf⟩ := C
    simp only at s1 l1 f1 r1 v1 hlen1 hl1
    obtain ⟨W2, s2, p2, l2, f2, r2, v2⟩ := s1.selp (x := bit) (by omega) ((hq.2 (2 * i) (by omega)).pre p1) ((hq.2 (2 * i + 1) (by omega)).pre p1) (by rw [hxi]; exact hb) (by omega) (by omega)
    rw [hxi] at v2
    refine ⟨W2, s2, p1.trans p2, by omega, f2.trans f1, by show (sel2 dc bit _ _).1.rows.length = _; omega, ?_, fun j hj => ?_⟩
    · show (hf ++ [_]).length = _
      rw [List.length_append, List.length_append, v1.1]; rfl
    · have hj' : j < (hf ++ [(sel2 dc bit (l.getD (2 * i) (0, 0)) (l.getD (2 * i + 1) (0, 0))).2]).length := hj
      rw [List.length_append, List.length_singleton] at hj'
      show Pv W2 ((hf ++ [(sel2 dc bit (l.getD (2 * i) (0, 0)) (l.getD (2 * i + 1) (0, 0))).2]).getD j (0, 0)) _
      have hvl := v1.1
      rcases Nat.lt_or_ge j hf.length with hlt | hge
      · rw [getD_app1 hlt, getD_app1 (by omega)]
        exact (v1.2 j hlt).pre p2
      · obtain rfl : j = hf.length := by omega
        rw [getD_app2 (Nat.le_refl _), getD_app2 (by omega), Nat.sub_self, ← hvl, Nat.sub_self]
        exact v2
theorem Sm.picks (h : Sm xs d V c) {bits : List Int} {l Q : List (Int × Int)} {n : Nat} (hl : l.length = 2 ^ n) (hq : PvL V l Q) (hb : ∀ j : Nat, j < n → 0 ≤ at0 bits j ∧ at0 bits j < V.length ∧ (at0 V (at0 bits j) = 0 ∨ at0 V (at0 bits j) = 1)) : ∀ j, j ≤ n → d.rows.length + 6 * (l.length - 2 ^ (n - j)) ≤ 8000 → d.nv + 6 * ((l.length - 2 ^ (n - j) : Nat) : Int) ≤ 40000 →
    ∃ W, Sm xs (pickO bits (d, l) j).1 W c ∧ V <+: W ∧ W.length = V.length + 6 * (l.length - 2 ^ (n - j)) ∧ (pickO bits (d, l) j).1.f = d.f ∧ (pickO bits (d, l) j).1.rows.length = d.rows.length + 6 * (l.length - 2 ^ (n - j)) ∧ PvL W (pickO bits (d, l) j).2 (pickV (fun j => at0 V (at0 bits j)) Q j)
  | 0, _, _, _ => ⟨V, h, List.prefix_refl _, by rw [Nat.sub_zero, hl]; omega, rfl, by rw [Nat.sub_zero, hl, Nat.sub_self]; rfl, hq⟩
  | j + 1, hj, hr, hn => by
    have hpw : 2 ^ (n - j) = 2 * 2 ^ (n - (j + 1)) := by rw [show n - j = n - (j + 1) + 1 by omega, Nat.pow_succ]; omega
    have hle : 2 ^ (n - j) ≤ l.length := by rw [hl]; exact Nat.pow_le_pow_right (by decide) (by omega)
    have hpos : 0 < 2 ^ (n - (j + 1)) := Nat.pow_pos (by decide)
    obtain ⟨W, s1, p1, l1, f1, r1, v1⟩ := h.picks hl hq hb j (by omega) (by omega) (by omega)
    have hlen := h.len
    have hlen1 := s1.len
    obtain ⟨b0, b1, bv⟩ := hb j (by omega)
    have hxj := at0_pre p1 ⟨b0, b1⟩
    have hol := pickO_len bits (d := d) hl j (by omega)
    have hvl := v1.1
    rw [pickO, pickV]
    generalize pickO bits (d, l) j = C at s1 l1 f1 r1 v1 hlen1 hol hvl ⊢
    obtain ⟨dc, lc⟩ := C
    simp only at s1 l1 f1 r1 v1 hlen1 hol hvl ⊢
    obtain ⟨W2, s2, p2, l2, f2, r2, v2⟩ := s1.half (bit := at0 bits j) (by omega) (by rw [hxj]; exact bv) v1 (lc.length / 2) (by omega) (by omega) (by omega)
    rw [hxj] at v2
    rw [← hvl]
    exact ⟨W2, s2, p1.trans p2, by omega, f2.trans f1, by omega, v2⟩
theorem Sm.pick (h : Sm xs d V c) {bits : List Int} {l Q : List (Int × Int)} (hl8 : bits.length ≤ 8) (hl : l.length = 2 ^ bits.length) (hq : PvL V l Q) (hb : ∀ j : Nat, j < bits.length → 0 ≤ at0 bits j ∧ at0 bits j < V.length ∧ (at0 V (at0 bits j) = 0 ∨ at0 V (at0 bits j) = 1)) (hr : d.rows.length + 6 * l.length ≤ 8000) (hn : d.nv + 6 * l.length ≤ 40000) :
    ∃ W, Sm xs (mPick d bits l).1 W c ∧ V <+: W ∧ (mPick d bits l).1.f = d.f ∧ (mPick d bits l).1.rows.length ≤ d.rows.length + 6 * l.length ∧ W.length ≤ V.length + 6 * l.length ∧ Pv W (mPick d bits l).2 (Q.getD (bsum (fun j => at0 V (at0 bits j)) bits.length) (0, 0)) := by
  have hlen := h.len
  obtain ⟨W, s1, p1, l1, f1, r1, v1⟩ := h.picks hl hq hb bits.length (Nat.le_refl _) (by rw [Nat.sub_self, Nat.pow_zero]; omega) (by rw [Nat.sub_self, Nat.pow_zero]; omega)
  have hkn : Go.VE.kn d bits = true := h.kn fun v hv => by
    obtain ⟨j, hj, rfl⟩ := List.getElem_of_mem hv
    have := hb j hj
    unfold at0 at this
    rw [Int.toNat_natCast, List.getElem?_eq_getElem hj] at this
    exact ⟨this.1, this.2.1⟩
  have hC : pickC d bits l = true := by
    unfold pickC
    rw [decide_eq_true hl8, Nat.min_eq_left hl8, decide_eq_true hl, hkn, Bool.true_and, Bool.true_and, Bool.true_and, List.all_eq_true]
    intro p hp
    obtain ⟨j, hj, rfl⟩ := List.getElem_of_mem hp
    have := hq.2 j hj
    rw [List.getD_eq_getElem?_getD, List.getElem?_eq_getElem hj] at this
    exact h.kn (by
      intro v hv
      simp only [List.mem_cons, List.not_mem_nil, or_false] at hv
      rcases hv with rfl | rfl
      · exact this.r1
      · exact this.r2)
  have eE : pickO bits (d, l) bits.length = pickE d bits l := rfl
  have hol := pickO_len bits (d := d) hl bits.length (Nat.le_refl _)
  rw [eE] at s1 f1 r1 v1 hol
  rw [Nat.sub_self, Nat.pow_zero] at hol l1 r1
  have em : mPick d bits l = ((pickE d bits l).1, ((pickE d bits l).2.getD 0 (0, 0))) := by
    unfold mPick mPair
    rw [hC, nums_t (by simp), Bool.and_true, mready_t h.e, if_pos rfl, undo_ok s1.e, if_neg (by simpa using s1.e)]
  rw [em]
  refine ⟨W, s1, p1, f1, by show (pickE d bits l).1.rows.length ≤ _; omega, by omega, ?_⟩
  have := v1.2 0 (by omega)
  have hg := pickV_get (b := fun j => at0 V (at0 bits j)) (Q := Q) (n := bits.length) (by rw [← hq.1]; exact hl) (fun j hj => (hb j hj).2.2) bits.length (Nat.le_refl _) 0 (by rw [Nat.sub_self]; decide)
  rw [hg, Nat.zero_mul, Nat.zero_add] at this
  exact this
end
end Go.VE
/- CircuitClimbs: the plain law. -/
namespace Go.VE
open Go Go.Proofs
set_option maxRecDepth 20000
def mod2 (f : Int) (q : Int × Int) : Int × Int := (q.1 % fP f, q.2 % fP f)
def flat2 (l : List (Int × Int)) : List Int := l.flatMap fun q => [q.1, q.2]
theorem flat2_len : ∀ l : List (Int × Int), (flat2 l).length = 2 * l.length
  | [] => rfl
  | q :: l => by
    show ([q.1, q.2] ++ flat2 l).length = _
    rw [List.length_append, flat2_len l]
    simp only [List.length_cons, List.length_nil]
    omega
theorem flat2_get : ∀ (l : List (Int × Int)) (j : Nat), j < l.length → (flat2 l)[2 * j]? = some (l.getD j (0, 0)).1 ∧ (flat2 l)[2 * j + 1]? = some (l.getD j (0, 0)).2
  | q :: l, 0, _ => ⟨rfl, rfl⟩
  | q :: l, j + 1, h => by
    have := flat2_get l j (by simpa using h)
    exact this
theorem bitAt_two (k : Int) (j : Nat) : bitAt k j = 0 ∨ bitAt k j = 1 := by
  unfold bitAt
  have h1 := Int.emod_nonneg (k / 2 ^ j) (show (2 : Int) ≠ 0 by decide)
  have h2 := Int.emod_lt_of_pos (k / 2 ^ j) (show (0 : Int) < 2 by decide)
  omega
theorem mod2_map_getD (f : Int) : ∀ (l : List (Int × Int)) (j : Nat), (l.map (mod2 f)).getD j (0, 0) = mod2 f (l.getD j (0, 0))
  | [], j => by
    simp only [List.map_nil, List.getD_nil]
    unfold mod2
    rw [Int.zero_emod]
  | q :: l, 0 => rfl
  | q :: l, j + 1 => mod2_map_getD f l j
end Go.VE
/- CircuitBits: the plain law. -/
namespace Go.VE
open Go Go.Proofs
set_option maxRecDepth 20000
def noDiv (n : Nat) : Nat → Nat → Bool
  | 0, lo => n % lo != 0
  | k + 1, lo => noDiv n k lo && noDiv n k (lo + 2 ^ k)
theorem noDiv_ok {n : Nat} : ∀ {k lo : Nat}, noDiv n k lo = true → ∀ d, lo ≤ d → d < lo + 2 ^ k → n % d ≠ 0
  | 0, lo, h, d, h1, h2 => by
    obtain rfl : d = lo := by omega
    simpa [noDiv] using h
  | k + 1, lo, h, d, h1, h2 => by
    rw [noDiv, Bool.and_eq_true] at h
    rw [Nat.pow_succ] at h2
    rcases Nat.lt_or_ge d (lo + 2 ^ k) with h3 | h3
    · exact noDiv_ok h.1 d h1 h3
    · exact noDiv_ok h.2 d h3 (by omega)
theorem p3_noDiv : noDiv 998244353 15 2 = true := by decide +kernel
theorem p3_prime {g : Nat} (hg : g ∣ 998244353) : g = 1 ∨ g = 998244353 := by
  obtain ⟨q, hq⟩ := hg
  have hn := noDiv_ok p3_noDiv
  rcases Nat.lt_or_ge g 2 with h | h
  · have : g ≠ 0 := by rintro rfl; rw [Nat.zero_mul] at hq; omega
    omega
  · rcases Nat.lt_or_ge q 2 with h' | h'
    · have : q ≠ 0 := by rintro rfl; rw [Nat.mul_zero] at hq; omega
      obtain rfl : q = 1 := by omega
      omega
    · exfalso
      rcases Nat.lt_or_ge g 32770 with h1 | h1
      · exact hn g h (by omega) (by rw [hq, Nat.mul_mod_right])
      · rcases Nat.lt_or_ge q 32770 with h2 | h2
        · exact hn q h' (by omega) (by rw [hq, Nat.mul_mod_left])
        · have := Nat.mul_le_mul h1 h2
          omega
theorem bit_iff {a : Int} (h0 : 0 ≤ a) (h1 : a < 998244353) : a * (a - 1) % 998244353 = 0 ↔ a < 2 := by
  constructor
  · intro h
    apply Classical.byContradiction
    intro h2
    obtain ⟨n, rfl⟩ := Int.eq_ofNat_of_zero_le h0
    have e : (n : Int) * ((n : Int) - 1) = ((n * (n - 1) : Nat) : Int) := by
      rw [Int.natCast_mul, Int.natCast_sub (by omega)]; rfl
    rw [e] at h
    have hd : 998244353 ∣ n * (n - 1) := Nat.dvd_of_mod_eq_zero (by omega)
    rcases p3_prime (Nat.gcd_dvd_right n 998244353) with hg | hg
    · have hc : Nat.Coprime 998244353 n := by rw [Nat.coprime_comm]; exact hg
      have := Nat.le_of_dvd (by omega) (hc.dvd_of_dvd_mul_left hd)
      omega
    · have := Nat.le_of_dvd (by omega) (Nat.gcd_dvd_left n 998244353)
      omega
  · intro h
    rcases (show a = 0 ∨ a = 1 by omega) with rfl | rfl <;> rfl
def bt3 (k : Int) : List Int := [bitAt k 0, bitAt k 1, bitAt k 2]
def btXs (k odd : Int) (l : List (Int × Int)) : List Int := bt3 k ++ [odd % fP 3] ++ flat2 (l.map (mod2 3))
def btVars : List (Int × Int) := (List.range 8).map fun (i : Nat) => (4 + 2 * (i : Int), 5 + 2 * (i : Int))
noncomputable def btY : Bd × Int := mPack (hsD0 3 20) [0, 1, 2]
noncomputable def btZ (x : Int) : Bd × Int := mPower btY.1 [0, 1, 2] (x % fP 3)
noncomputable def btQ (x : Int) : Bd × Int × Int := mPick (btZ x).1 [0, 1, 2] btVars
noncomputable def btB (x : Int) : Bd := mBit (mBit (btQ x).1 0) 3
theorem btXs_len (k odd : Int) {l : List (Int × Int)} (h : l.length = 8) : (btXs k odd l).length = 20 := by
  unfold btXs
  rw [List.length_append, flat2_len, List.length_map, h]; rfl
theorem btXs_bit (k odd : Int) (l : List (Int × Int)) {j : Nat} (h : j < 3) : at0 (btXs k odd l) j = bitAt k j := by
  match j, h with
  | 0, _ => rfl
  | 1, _ => rfl
  | 2, _ => rfl
theorem btXs_odd (k odd : Int) (l : List (Int × Int)) : at0 (btXs k odd l) 3 = odd % fP 3 := rfl
theorem btXs_pair (k odd : Int) (l : List (Int × Int)) {j : Nat} (h : j < l.length) : at0 (btXs k odd l) (4 + 2 * (j : Int)) = ((l.map (mod2 3)).getD j (0, 0)).1 ∧ at0 (btXs k odd l) (5 + 2 * (j : Int)) = ((l.map (mod2 3)).getD j (0, 0)).2 := by
  obtain ⟨a, b⟩ := flat2_get (l.map (mod2 3)) j (by rw [List.length_map]; exact h)
  have hl : (bt3 k ++ [odd % fP 3]).length = 4 := rfl
  unfold at0 btXs
  constructor
  · rw [List.getElem?_append_right (by omega), hl, show (4 + 2 * (j : Int)).toNat - 4 = 2 * j by omega, a]; rfl
  · rw [List.getElem?_append_right (by omega), hl, show (5 + 2 * (j : Int)).toNat - 4 = 2 * j + 1 by omega, b]; rfl
theorem btVars_get {j : Nat} (h : j < 8) : btVars.getD j (0, 0) = (4 + 2 * (j : Int), 5 + 2 * (j : Int)) := by
  unfold btVars
  rw [List.getD_eq_getElem?_getD, List.getElem?_map, List.getElem?_range h]; rfl
theorem bsum_k {k : Int} (h0 : 0 ≤ k) (h8 : k < 8) {b : Nat → Int} (hb : ∀ j, j < 3 → b j = bitAt k j) : (bsum b 3 : Int) = k := by
  rw [bsum, bsum, bsum, bsum, hb 0 (by decide), hb 1 (by decide), hb 2 (by decide)]
  rcases (show k = 0 ∨ k = 1 ∨ k = 2 ∨ k = 3 ∨ k = 4 ∨ k = 5 ∨ k = 6 ∨ k = 7 by omega) with rfl | rfl | rfl | rfl | rfl | rfl | rfl | rfl <;> rfl
theorem pack_k {k : Int} (h0 : 0 ≤ k) (h8 : k < 8) {b : Int → Int} (hb : ∀ j : Nat, j < 3 → b j = bitAt k j) : ([0, 1, 2] : List Int).reverse.foldl (fun a c => (2 * a + b c) % fP 3) 0 = k := by
  show (2 * ((2 * ((2 * 0 + b (2 : Nat)) % fP 3) + b (1 : Nat)) % fP 3) + b (0 : Nat)) % fP 3 = k
  rw [hb 0 (by decide), hb 1 (by decide), hb 2 (by decide)]
  rcases (show k = 0 ∨ k = 1 ∨ k = 2 ∨ k = 3 ∨ k = 4 ∨ k = 5 ∨ k = 6 ∨ k = 7 by omega) with rfl | rfl | rfl | rfl | rfl | rfl | rfl | rfl <;> rfl
theorem emod_pow (a p : Int) : ∀ n : Nat, (a % p) ^ n % p = a ^ n % p
  | 0 => by rw [Int.pow_zero, Int.pow_zero]
  | n + 1 => by rw [Int.pow_succ, Int.pow_succ, Int.mul_emod, emod_pow a p n, Int.emod_emod, ← Int.mul_emod]
structure BtOk (k x odd : Int) (l : List (Int × Int)) (V : List Int) : Prop where
  sm : Sm (btXs k odd l) (btQ x).1 V True
  y : 0 ≤ btY.2 ∧ btY.2 < V.length
  z : 0 ≤ (btZ x).2 ∧ (btZ x).2 < V.length
  q : Pv V (btQ x).2 ((l.map (mod2 3)).getD k.toNat (0, 0))
  vy : at0 V btY.2 = k
  vz : at0 V (btZ x).2 = fPow 3 x k
  fin : ∃ c, Sm (btXs k odd l) (btB x) V c ∧ (c ↔ odd % fP 3 < 2)
theorem bt_plain {k x odd : Int} (h0 : 0 ≤ k) (h8 : k < 8) {l : List (Int × Int)} (hl : l.length = 8) : ∃ V, BtOk k x odd l V := by
  have hv : fV 3 = true := by decide
  have hp3 : fP 3 = 998244353 := rfl
  have hm : ∀ y : Int, 0 ≤ y % fP 3 ∧ y % fP 3 < fP 3 := fun y => ⟨Int.emod_nonneg _ (by omega), Int.emod_lt_of_pos _ (by omega)⟩
  have hxl := btXs_len k odd hl
  have hbit : ∀ j, 0 ≤ bitAt k j ∧ bitAt k j < fP 3 := fun j => by rcases bitAt_two k j with e | e <;> rw [e] <;> omega
  have hst := Sm.start (xs := btXs k odd l) (f := 3) hv (by omega) (fun y hy => by
    unfold btXs bt3 at hy
    simp only [List.mem_append, List.mem_cons, List.not_mem_nil, or_false] at hy
    rcases hy with ((rfl | rfl | rfl) | rfl) | hy
    · exact hbit 0
    · exact hbit 1
    · exact hbit 2
    · exact hm _
    · unfold flat2 at hy
      simp only [List.mem_flatMap, List.mem_map, List.mem_cons, List.not_mem_nil, or_false] at hy
      obtain ⟨_, ⟨q, _, rfl⟩, rfl | rfl⟩ := hy
      · exact hm _
      · exact hm _)
  rw [hxl] at hst
  have e0 : (⟨3, ((20 : Nat) : Int), 0, ((20 : Nat) : Int), [], 0⟩ : Bd) = hsD0 3 20 := rfl
  rw [e0] at hst
  have hr0 : (hsD0 3 20).rows.length = 0 := rfl
  have hn0 : (hsD0 3 20).nv = 20 := rfl
  have hf0 : (hsD0 3 20).f = 3 := rfl
  have hb3 : ∀ j : Nat, j < 3 → at0 [0, 1, 2] (j : Int) = (j : Int) := fun j hj => by
    match j, hj with
    | 0, _ => rfl
    | 1, _ => rfl
    | 2, _ => rfl
  obtain ⟨V1, s1, p1, l1, f1, r1, i1, v1⟩ := hst.pack (bits := [0, 1, 2]) (by rw [hf0, hp3]; decide) (fun b hb => by
    simp only [List.mem_cons, List.not_mem_nil, or_false] at hb
    rcases hb with rfl | rfl | rfl <;> omega) (by rw [hr0]; decide) (by rw [hn0]; decide)
  have eY : mPack (hsD0 3 20) [0, 1, 2] = btY := rfl
  rw [eY] at s1 f1 r1 i1 v1
  rw [hf0] at v1 f1
  rw [hr0] at r1
  have h3 : ([0, 1, 2] : List Int).length = 3 := rfl
  rw [h3] at l1 r1
  have hl1 := s1.len
  have kb : ∀ {V : List Int}, btXs k odd l <+: V → ∀ j : Nat, j < 3 → at0 V (j : Int) = bitAt k j := fun {V} hp j hj => by
    rw [at0_pre hp (by omega), btXs_bit k odd l hj]
  have hbb : ∀ {V : List Int}, btXs k odd l <+: V → ∀ j : Nat, j < ([0, 1, 2] : List Int).length → 0 ≤ at0 [0, 1, 2] (j : Int) ∧ at0 [0, 1, 2] (j : Int) < V.length ∧ (at0 V (at0 [0, 1, 2] (j : Int)) = 0 ∨ at0 V (at0 [0, 1, 2] (j : Int)) = 1) := fun {V} hp j hj => by
    have hle := hp.length_le
    have : j < 3 := hj
    rw [hb3 j hj, kb hp j hj]
    exact ⟨by omega, by omega, bitAt_two k j⟩
  obtain ⟨V2, s2, p2, l2, f2, r2, i2, v2⟩ := s1.power (bits := [0, 1, 2]) (X := x % fP 3) (by rw [f1]; exact hm x) (hbb p1) (by rw [r1, h3]; omega) (by rw [h3]; omega)
  have eZ : mPower btY.1 [0, 1, 2] (x % fP 3) = btZ x := rfl
  rw [eZ] at s2 f2 r2 i2 v2
  rw [f1] at v2 f2
  rw [h3] at l2 r2
  have hl2 := s2.len
  have hq : PvL V2 btVars (l.map (mod2 3)) := ⟨by rw [List.length_map, hl]; rfl, fun j hj => by
    have hj8 : j < 8 := hj
    obtain ⟨a, b⟩ := btXs_pair k odd l (j := j) (by omega)
    have hle := (p1.trans p2).length_le
    rw [btVars_get hj8]
    refine ⟨?_, ?_, ?_, ?_⟩
    · show (0 : Int) ≤ 4 + 2 * (j : Int) ∧ 4 + 2 * (j : Int) < _; omega
    · show (0 : Int) ≤ 5 + 2 * (j : Int) ∧ 5 + 2 * (j : Int) < _; omega
    · show at0 V2 (4 + 2 * (j : Int)) = _
      rw [at0_pre (p1.trans p2) (by omega), a]
    · show at0 V2 (5 + 2 * (j : Int)) = _
      rw [at0_pre (p1.trans p2) (by omega), b]⟩
  have hvl : btVars.length = 8 := rfl
  obtain ⟨V3, s3, p3, f3, r3, l3, v3⟩ := s2.pick (bits := [0, 1, 2]) (l := btVars) (by decide) (by decide) hq (hbb (p1.trans p2)) (by rw [hvl]; omega) (by rw [hvl]; omega)
  have eQ : mPick (btZ x).1 [0, 1, 2] btVars = btQ x := rfl
  rw [eQ] at s3 f3 r3 v3
  rw [hvl] at r3 l3
  have hp13 := p1.trans (p2.trans p3)
  have hle3 := hp13.length_le
  have hle2 := p3.length_le
  have hle1 := p2.length_le
  have hsk : ∀ {V : List Int}, btXs k odd l <+: V → ((bsum (fun j => at0 V (at0 [0, 1, 2] (j : Int))) ([0, 1, 2] : List Int).length : Nat) : Int) = k := fun {V} hp => bsum_k h0 h8 fun j hj => by
    show at0 V (at0 [0, 1, 2] (j : Int)) = _
    rw [hb3 j hj]
    exact kb hp j hj
  have hsk3 := hsk (p1.trans p2)
  have hsk2 := hsk p1
  obtain ⟨f4, r4, s4⟩ := s3.bit (u := 0) (by omega) (by omega)
  obtain ⟨f5, r5, s5⟩ := s4.bit (u := 3) (by omega) (by omega)
  have eB : mBit (mBit (btQ x).1 0) 3 = btB x := rfl
  rw [eB] at s5
  refine ⟨V3, s3, by omega, by omega, ?_, ?_, ?_, _, s5, ?_⟩
  · rw [show k.toNat = bsum (fun j => at0 V2 (at0 [0, 1, 2] (j : Int))) ([0, 1, 2] : List Int).length by omega]
    exact v3
  · rw [at0_pre (p2.trans p3) i1, v1]
    exact pack_k h0 h8 fun j hj => btXs_bit k odd l hj
  · rw [at0_pre p3 i2, v2, emod_pow]
    unfold fPow
    rw [if_pos hv, show k.toNat = bsum (fun j => at0 V1 (at0 [0, 1, 2] (j : Int))) ([0, 1, 2] : List Int).length by omega]
  · have e3 : at0 V3 3 = odd % fP 3 := by rw [at0_pre hp13 (by omega), btXs_odd]
    have e00 := kb hp13 0 (by decide)
    have e0' : at0 V3 0 = bitAt k 0 := e00
    have ff : (mBit (btQ x).1 0).f = 3 := f4.trans (f3.trans f2)
    have ff3 : (btQ x).1.f = 3 := f3.trans f2
    rw [ff, ff3, e3, e0', hp3]
    have hb0 : bitAt k 0 * (bitAt k 0 - 1) % 998244353 = 0 := by rcases bitAt_two k 0 with e | e <;> rw [e] <;> rfl
    have ho := hm odd
    rw [hp3] at ho
    rw [bit_iff ho.1 ho.2]
    exact ⟨fun h => h.2, fun h => ⟨⟨trivial, hb0⟩, h⟩⟩
end Go.VE
/- The references of the trees: Node, Proper, All, Climb. -/
namespace Go.VE
open Go Go.Proofs
set_option maxRecDepth 20000
theorem prc_0 (k : IntKind) (p : Int × Int) : (prc k p)[0]? = some (.int k p.1) := rfl
theorem prc_1 (k : IntKind) (p : Int × Int) : (prc k p)[1]? = some (.int k p.2) := rfl
def Nn2 (p : Int × Int) : Prop := 0 ≤ p.1 ∧ 0 ≤ p.2
section
variable {ro : Nat} {s : St} {K : Value → St → Prop}
end
end Go.VE
/- CircuitClimbs: what the law's function does, lists that grow. -/
namespace Go.VE
open Go Go.Proofs
set_option maxRecDepth 20000
def okInt (o : Option Value) (z : Int) : Bool := match o with
  | some (.int .i64 y) => y == z
  | _ => false
theorem okInt_spec {o : Option Value} {z : Int} (h : okInt o z = true) : o = some (.int .i64 z) := by
  unfold okInt at h
  split at h
  · rw [eq_of_beq h]
  · cases h
theorem and16 {k : Int} (hk : 0 ≤ k ∧ k < 16) : abinInt P .and .i64 k .i64 1 = some (.int .i64 (k % 2)) := by
  obtain ⟨m, rfl⟩ := Int.eq_ofNat_of_zero_le hk.1
  have h : ∀ m : Fin 16, okInt (abinInt P .and .i64 (m.val : Int) .i64 1) ((m.val : Int) % 2) = true := by decide +kernel
  exact okInt_spec (h ⟨m, by omega⟩)
theorem prs_append (k : IntKind) (l r : List (Int × Int)) : prs k (l ++ r) = prs k l ++ prs k r := List.flatMap_append
theorem flat2_append (l r : List (Int × Int)) : flat2 (l ++ r) = flat2 l ++ flat2 r := List.flatMap_append
section
variable {ro : Nat} {s : St} {K : Value → St → Prop}
theorem conv_u8_int (a : Int) (ty : TypeId) (s : St) (K : Value → St → Prop) : wop P ro (.convert 5 3 (.const (.int .u8 a))) ty s K = K (.int .i64 (IntKind.i64.wrap a)) s := by kernel_rfl
structure ClA (s0 s : St) (X : Nat) (oX : AO) (v1 v2 v3 : Value) (n1 n2 n3 : Nat) (c1 c2 c3 : List Value) (o1 o2 o3 : Option Nat) : Prop where
  a1 : Ac 24 1 s0 s v1 n1 c1 o1
  a2 : Ac 43 2 s0 s v2 n2 c2 o2
  a3 : Ac 47 2 s0 s v3 n3 c3 o3
  x : s.at X = some oX
  x1 : o1 ≠ some X
  x2 : o2 ≠ some X
  x3 : o3 ≠ some X
  d12 : ∀ A, o1 = some A → o2 ≠ some A
  d13 : ∀ A, o1 = some A → o3 ≠ some A
  d23 : ∀ A, o2 = some A → o3 ≠ some A
theorem Ac.lt {e : TypeId} {sz : Nat} {s0 s : St} {v : Value} {n : Nat} {cs : List Value} {A : Nat} (h : Ac e sz s0 s v n cs (some A)) : A < s.n := h.own.lt
theorem Ac.other {e : TypeId} {sz : Nat} {s0 s s2 : St} {v : Value} {n : Nat} {cs : List Value} {o oB : Option Nat} (h : Ac e sz s0 s v n cs oB) (hw : Wf s2) (hg : Grew s0 s2) (rest : ∀ C, C < s.n → o ≠ some C → s2.at C = s.at C) (hne : ∀ C, oB = some C → o ≠ some C) : Ac e sz s0 s2 v n cs oB :=
  ⟨h.own.same fun A hA => rest A (by subst hA; exact h.lt) (hne A hA), h.fresh, hw, hg⟩
variable {s0 s2 : St} {X A : Nat} {oX : AO} {v v1 v2 v3 : Value} {n n1 n2 n3 : Nat} {c c1 c2 c3 : List Value} {o1 o2 o3 : Option Nat}
theorem ClA.grew (h : ClA s0 s X oX v1 v2 v3 n1 n2 n3 c1 c2 c3 o1 o2 o3) (g : Grew s s2) : ClA s0 s2 X oX v1 v2 v3 n1 n2 n3 c1 c2 c3 o1 o2 o3 :=
  ⟨h.a1.other (h.a1.wf.grew g) (h.a1.grew.trans g) (o := none) (fun C hC _ => g.same C hC) fun C _ e => (by cases e), h.a2.other (h.a1.wf.grew g) (h.a1.grew.trans g) (o := none) (fun C hC _ => g.same C hC) fun C _ e => (by cases e), h.a3.other (h.a1.wf.grew g) (h.a1.grew.trans g) (o := none) (fun C hC _ => g.same C hC) fun C _ e => (by cases e), (g.same X (St.at_lt h.x)).trans h.x, h.x1, h.x2, h.x3, h.d12, h.d13, h.d23⟩
theorem ClA.putN (h : ClA s0 s X oX v1 v2 v3 n1 n2 n3 c1 c2 c3 o1 o2 o3) (hw0 : Wf s0) {D : Nat} (hD : s0.n ≤ D) (hX : D ≠ X) (h1 : o1 ≠ some D) (h2 : o2 ≠ some D) (h3 : o3 ≠ some D) {o : AO} (p : Put s D o s2) : ClA s0 s2 X oX v1 v2 v3 n1 n2 n3 c1 c2 c3 o1 o2 o3 := by
  have g := p.grew s0 hw0 h.a1.grew hD
  have r : ∀ C, C < s.n → (some D) ≠ some C → s2.at C = s.at C := fun C _ hC => p.rest C fun e => hC (by rw [e])
  exact ⟨h.a1.other p.wf g (o := some D) r fun C hC e => (by cases e; exact h1 hC), h.a2.other p.wf g (o := some D) r fun C hC e => (by cases e; exact h2 hC), h.a3.other p.wf g (o := some D) r fun C hC e => (by cases e; exact h3 hC), (p.rest X (Ne.symm hX)).trans h.x, h.x1, h.x2, h.x3, h.d12, h.d13, h.d23⟩
theorem Liv.made' {B : Nat} {oA : Option Nat} {d : Bd} (h : Liv ro s B oA d) {A : Nat} {o : AO} {s1 : St} (m : Made s A o s1) : Liv ro s1 B oA d ∧ Lc s1 B oA A o ∧ s.n ≤ A ∧ s1.n = s.n + 1 := by
  have e := m.eq
  have hB := h.lt
  exact ⟨h.grew m.grew, ⟨m.here, by omega, fun e2 => by have := (h.hA A e2).2.2; omega⟩, by omega, m.n⟩
theorem Liv.putL' {B : Nat} {oA : Option Nat} {d : Bd} (h : Liv ro s B oA d) {A : Nat} {o o' : AO} {s1 : St} (a : Lc s B oA A o) (hA : ro ≤ A) (p : Put s A o' s1) : Liv ro s1 B oA d ∧ Lc s1 B oA A o' := ⟨h.put p ⟨hA, a.ne, a.own⟩, p.here, a.ne, a.own⟩
theorem Ac.offs {e : TypeId} {sz : Nat} (h : Ac e sz s0 s v n c o1) : OffS s.n none s.n v := fun A o sp k c e' => by
  cases o1 with
  | none => obtain ⟨e2, _⟩ := h.own; rw [e2] at e'; cases e'
  | some A' =>
    have hlt := h.own.lt
    obtain ⟨e2, _⟩ := h.own
    rw [e2] at e'
    cases e'
    exact ⟨hlt, by omega, fun e3 => by cases e3⟩
end
end Go.VE
/- A builder that lives: Power. -/
namespace Go.VE
open Go Go.Proofs
set_option maxRecDepth 20000
theorem powI_nn (bits : List Int) {c : Bd × Int × Int} (h : 0 ≤ c.2.2) : ∀ j, 0 ≤ (powI bits c j).2.2
  | 0 => h
  | _ + 1 => (fMul_bounds _ _ _).1
section
variable {ro : Nat} {s : St} {B : Nat} {oA : Option Nat} {d : Bd} {K : Value → St → Prop}
theorem lPower (h : Liv ro s B oA d) {u : Value} {bits : List Int} (hu : Ints s u bits) (hlen : bits.length < 2 ^ 60) (hoff : OffS B oA s.n u) {x : Int} (hx : 0 ≤ x) (hk : ∀ s' oA', Liv ro s' B oA' (mPower d bits x).1 → Mut s B oA s' oA' → K (.int .i64 (mPower d bits x).2) s') :
    CallWP P ro 31 [ptr B, u, .int .u64 x] s K := by
  refine call_wp b31 rfl ?_
  rw [n31]
  unfold v31
  simp (maxSteps := 10000000) only [wW, reduceCtorEq, Nat.reduceEqDiff]
  have r0 := Run1.start h
  have hro := h.ron
  have hn0 : (Go.VE.ent s).n = s.n := rfl
  rw [lKnown r0.liv (Sl.ent hu) (by omega)]
  refine buildSlice_rule se_23 ty_24 h.wf.ent [.int .u64 x] rfl rfl (by decide) (by simp [Value.cells]) fun A0 s1 m1 => ?_
  have hU : U64s s1 (.slice (some ⟨A0, 0, none⟩) 1 1) [x] := m1.sl rfl
  have r1 := r0.grew m1.grew
  have hu1 : Ints s1 u bits := (Sl.ent hu).grew m1.grew.same
  have n1 := m1.n
  refine lReady' r1.liv _ hU (show 1 < 2 ^ 62 by decide) fun s5 h5 m5 => ?_
  have r5 := r1.call h5 m5
  simp (maxSteps := 10000000) only [wW, reduceCtorEq, Nat.reduceEqDiff]
  have hk' := hk
  unfold mPower at hk'
  by_cases hr : (mready d (kn d bits && nums d [x])).2 = true
  · rw [if_pos hr] at hk'
    obtain ⟨q1, he, _⟩ := mready_true hr
    rw [hr, if_neg (by decide)]
    rw [q1] at h5 r5
    have n5 := r5.mt.n
    have hu5 : Ints s5 u bits := hoff.sl (by omega) m5 hu1
    refine lWhole h5 fun A1 A2 A3 s6 h6 m6 hw6 => ⟨trivial, ?_⟩
    rw [wdefer_fn]
    have r6 := r5.call h6 m6
    have n6 := r6.mt.n
    have hu6 : Ints s6 u bits := hoff.sl (by omega) m6 hu5
    have o6 : OffS B oA s.n u := hoff
    refine lConst h6 _ fun s7 oA7 h7 m7 => ?_
    have r7 := r6.call h7 m7
    have hw7 := hw6.mut m7
    have hu7 : Ints s7 u bits := o6.sl (by omega) m7 hu6
    have o7 : OffS B oA7 s.n u := o6.mut (by omega) m7
    rw [Sl.wlen hu se_30]
    have hE : powI bits ((mConst d 1).1, (mConst d 1).2, x) bits.length = powE d bits x := rfl
    have hnn := powI_nn bits (c := ((mConst d 1).1, (mConst d 1).2, x)) hx
    have hst : ∀ j, powI bits ((mConst d 1).1, (mConst d 1).2, x) (j + 1) = powS bits (powI bits ((mConst d 1).1, (mConst d 1).2, x) j) j := fun _ => rfl
    have hz : powI bits ((mConst d 1).1, (mConst d 1).2, x) 0 = ((mConst d 1).1, (mConst d 1).2, x) := rfl
    have hle := powE_le d bits x
    generalize powI bits ((mConst d 1).1, (mConst d 1).2, x) = pI at hE hnn hst hz
    have n7 := r7.mt.n
    refine wloop l31_11110100 m31_11110100 (fun (j : Nat) τ ds s' => j ≤ bits.length ∧ τ 0 = ptr B ∧ τ 1 = u ∧ τ 2 = .int .u64 (pI j).2.2 ∧ τ 7 = .int .i64 (pI j).2.1 ∧ τ 22 = .int .i64 bits.length ∧ τ 23 = .int .i64 j ∧ ds = [⟨.fn (.func 83) (.mk [ptr A1, ptr A2, ptr A3]), (.mk [])⟩] ∧ s7.n ≤ s'.n ∧ ∃ oA', Run1 ro (Go.VE.ent s) B oA s' oA' (pI j).1 ∧ WholeAt s5.n s' B oA' A1 A2 A3 d.rows.length d.nv ∧ Ints s' u bits ∧ OffS B oA' s.n u) (fun j => bits.length - j) ?_ 0 ⟨Nat.zero_le _, ?_, ?_, ?_, ?_, ?_, ?_, rfl, Nat.le_refl _, oA7, ?_, hw7, hu7, o7⟩
    · rintro j τ ds s' ⟨hj, t0, t1, t2, t7, t22, t23, rfl, hns, oA', rj, wj, uj, oj⟩
      rw [n31_11110100]
      unfold v31_11110100
      simp (maxSteps := 10000000) only [wW, reduceCtorEq, Nat.reduceEqDiff, t22, t23]
      by_cases hlt : j < bits.length
      · rw [if_pos (by omega)]
        have hst := hst j
        have hnj := hnn j
        have hbi : bits[j]? = some (at0 bits j) := by
          have h := at0_get (l := bits) (i := ((j : Nat) : Int)) (by omega) (by omega)
          rwa [Int.toNat_natCast] at h
        generalize pI j = c at t2 t7 rj hnj hst
        obtain ⟨dc, w, y⟩ := c
        simp only at t2 t7 rj hnj
        obtain ⟨Au, ou', cu, u1, u2, u3⟩ := uj.at1 (i := ((j : Nat) : Int)) (x := at0 bits j) (by omega) (by rw [Int.toNat_natCast]; exact hbi)
        have hi2 : ∀ z : Int, veq (.int .i64 z) (.int .i64 z) = true := fun z => by simp [veq]
        simp (maxSteps := 10000000) only [wW, reduceCtorEq, Nat.reduceEqDiff, wL, Nat.reduceAdd, t0, t1, t2, t7, u1, u2, u3, hi2, true_and, fa_81_1]
        obtain ⟨uu, hb1, _⟩ := rj.liv.ex
        have gf : (dc.cells uu)[1]? = some (.int .i64 dc.f) := rfl
        rw [acells_some hb1, wopt_some, gf, wopt_some]
        have hnj' := rj.mt.n
        refine ⟨by simp [veq], ?_⟩
        rw [wfSub _ hnj (by decide) rj.liv.wf (by omega) rj.liv.fl]
        refine ⟨.refl _, ?_⟩
        refine lLinear rj.liv _ _ _ _ _ fun sa oa la ma => ?_
        have ea : mLinear dc (at0 bits j) (at0 bits j) (fSub dc.f y 1) 0 1 = powV bits (dc, w, y) j := rfl
        rw [ea] at la ⊢
        have ra := rj.call la ma
        have wa := wj.mut ma
        have ua := oj.sl (by omega) ma uj
        have offa := oj.mut (by omega) ma
        have na := ra.mt.n
        refine lMul ra.liv _ _ fun sb ob lb mb => ?_
        have eb : mMul (powV bits (dc, w, y) j).1 w (powV bits (dc, w, y) j).2 = powW bits (dc, w, y) j := rfl
        rw [eb] at lb ⊢
        have rb := ra.call lb mb
        have wb := wa.mut mb
        have ub := offa.sl (by omega) mb ua
        have offb := offa.mut (by omega) mb
        have nb := rb.mt.n
        have nab := ma.n
        have nbb := mb.n
        obtain ⟨ub', hb2, _⟩ := rb.liv.ex
        have gf2 : ((powW bits (dc, w, y) j).1.cells ub')[1]? = some (.int .i64 (powW bits (dc, w, y) j).1.f) := rfl
        rw [acells_some hb2, wopt_some, gf2, wopt_some, wfMul _ hnj hnj rb.liv.wf (by omega) rb.liv.fl]
        rw [wrap_i64 (by omega) (by omega)]
        refine ⟨j + 1, by omega, by omega, ?_, ?_, ?_, ?_, ?_, ?_, ?_⟩
        · simp only [U, tset_eq, wW, reduceCtorEq, Nat.reduceEqDiff, t0]
        · simp only [U, tset_eq, wW, reduceCtorEq, Nat.reduceEqDiff, t1]
        · rw [hst]
          simp only [U, tset_eq, wW, reduceCtorEq, Nat.reduceEqDiff]; rfl
        · rw [hst]
          simp only [U, tset_eq, wW, reduceCtorEq, Nat.reduceEqDiff]; rfl
        · simp only [U, tset_eq, wW, reduceCtorEq, Nat.reduceEqDiff, t22]
        · simp only [U, tset_eq, wW, reduceCtorEq, Nat.reduceEqDiff]; rfl
        · rw [hst]
          exact ⟨by omega, ob, rb, wb, ub, offb⟩
      · obtain rfl : j = bits.length := by omega
        rw [if_neg (by omega)]
        rw [hE] at rj t7
        simp (maxSteps := 10000000) only [U, tset_eq, wW, reduceCtorEq, Nat.reduceEqDiff, t7]
        refine lUndo rj.liv wj hle.rows h.ok.nv fun s8 h8 m8 => ?_
        exact fin_mut h h8 (rj.mt.trans m8) rfl fun s' h' m' => hk' s' _ h' m'
    · simp only [U, tset_eq, wW, reduceCtorEq, Nat.reduceEqDiff]
    · simp only [U, tset_eq, wW, reduceCtorEq, Nat.reduceEqDiff]
    · simp only [U, tset_eq, wW, reduceCtorEq, Nat.reduceEqDiff, hz]
    · simp only [U, tset_eq, wW, reduceCtorEq, Nat.reduceEqDiff, hz]
    · simp only [U, tset_eq, wW, reduceCtorEq, Nat.reduceEqDiff]
    · simp only [U, tset_eq, wW, reduceCtorEq, Nat.reduceEqDiff]; rfl
    · rw [hz]
      exact r7
  · rw [if_neg hr] at hk'
    have hr' : (mready d (kn d bits && nums d [x])).2 = false := by simpa using hr
    rw [hr', if_pos rfl]
    exact fin_mut h r5.liv r5.mt rfl (fun s' h' m' => hk' s' oA h' m')
end
end Go.VE
/- Parts of slices of any elements; a range over slices.Chunk of a list of pairs, by two. -/
namespace Go.VE
open Go Go.Proofs
set_option maxRecDepth 20000
section
variable {ro : Nat} {s : St} {K : Value → St → Prop}
theorem Sl.from {t e : TypeId} {sz n : Nat} {cs : List Value} {v : Value} (hund : P.underlying t = some (.slice e)) (hs : isz P e = some sz) (hsz : 0 < sz) (h : Sl s v sz n cs) {k : Int} (h0 : 0 ≤ k) (hk : k < n) : ∃ w, Sl s w sz (n - k.toNat) (cs.drop (k.toNat * sz)) ∧ (∀ B oA m, OffS B oA m v → OffS B oA m w) ∧ veq w w = true ∧
    ∀ (ty : TypeId) (s' : St) (K : Value → St → Prop), wop P ro (.slice t (.const v) (some (.const (.int .i64 k))) none none) ty s' K = K w s' := by
  obtain ⟨a, c, rfl, hl, ⟨hc, hnone, hsp⟩, hb⟩ := h
  have hkn : k.toNat < n := by omega
  have hmul : k.toNat * sz ≤ n * sz := Nat.mul_le_mul_right sz (by omega)
  obtain ⟨A, o, m, cells, tt, op, rfl, hm, hA, hcs⟩ := hb (by
    have : 0 < n * sz := Nat.mul_pos (by omega) hsz
    omega)
  have hm2 := hsp _ rfl
  simp only at hm2
  have hlen : (cs.drop (k.toNat * sz)).length = (n - k.toNat) * sz := by rw [List.length_drop, hl, Nat.sub_mul]
  have hhi : abound none n c = some n := rfl
  have hlo : abound (some (.int .i64 k)) 0 n = some k.toNat := by
    simp only [abound]
    rw [if_pos ⟨by omega, by omega⟩]
  have hblk : ∀ sp, mkOk sp = true → (n - k.toNat) * sz ≠ 0 → ∃ A' o' m' cells t op, some (⟨A, o + k.toNat * sz, sp⟩ : Addr) = some ⟨A', o', m'⟩ ∧ mkOk m' = true ∧ s.at A' = some (.cells cells t op) ∧ (cells.drop o').take ((n - k.toNat) * sz) = cs.drop (k.toNat * sz) := fun sp hsp' _ => by
    refine ⟨A, _, sp, cells, tt, op, rfl, hsp', hA, ?_⟩
    rw [← hcs, List.drop_take, List.drop_drop, Nat.sub_mul]
  rcases hm2 with rfl | ⟨rfl, hpos⟩
  · refine ⟨.slice (some ⟨A, o + k.toNat * sz, none⟩) (n - k.toNat) (c - k.toNat), ⟨_, _, rfl, hlen, ⟨by omega, fun h => (by cases h), fun x hx => (by cases hx; exact .inl rfl)⟩, hblk none rfl⟩, fun B oA n hf A' o' sp' n' c' e => ?_, by simp [veq], fun ty s' K => ?_⟩
    · cases e; exact hf A o none _ _ rfl
    · rw [wop_slice]
      have hne : ¬ c = k.toNat := by omega
      simp only [asliceOp, hund, hs, sliceTwo, Option.map_some, Option.map_none, aval, hhi, hlo, Option.bind_some, hne, if_false, wopt_some]
  · refine ⟨.slice (some ⟨A, o + k.toNat * sz, some 0⟩) (n - k.toNat) (c - k.toNat), ⟨_, _, rfl, hlen, ⟨by omega, fun h => (by cases h), fun x hx => (by cases hx; exact .inr ⟨rfl, by omega⟩)⟩, hblk (some 0) rfl⟩, fun B oA n hf A' o' sp' n' c' e => ?_, by simp [veq], fun ty s' K => ?_⟩
    · cases e; exact hf A o _ _ _ rfl
    · rw [wop_slice]
      have hne : k.toNat < c := by omega
      simp only [asliceOp, hund, hs, sliceTwo, Option.map_some, Option.map_none, aval, hhi, hlo, Option.bind_some, hne, if_true, wopt_some]
theorem Sl.mid {t e : TypeId} {sz n : Nat} {cs : List Value} {v : Value} (hund : P.underlying t = some (.slice e)) (hs : isz P e = some sz) (hsz : 0 < sz) (h : Sl s v sz n cs) {a b : Int} (h0 : 0 ≤ a) (hab : a < b) (hb : b ≤ n) : ∃ w, Sl s w sz (b.toNat - a.toNat) ((cs.drop (a.toNat * sz)).take ((b.toNat - a.toNat) * sz)) ∧ (∀ B oA n, OffS B oA n v → OffS B oA n w) ∧ veq w w = true ∧
    ∀ (ty : TypeId) (s' : St) (K : Value → St → Prop), wop P ro (.slice t (.const v) (some (.const (.int .i64 a))) (some (.const (.int .i64 b))) (some (.const (.int .i64 b)))) ty s' K = K w s' := by
  obtain ⟨x, c, rfl, hl, ⟨hc, hnone, hsp⟩, hbk⟩ := h
  obtain ⟨A, o, m, cells, tt, op, rfl, hm, hA, hcs⟩ := hbk (by
    have : 0 < n * sz := Nat.mul_pos (by omega) hsz
    omega)
  have hm2 := hsp _ rfl
  simp only at hm2
  have hmul : b.toNat * sz ≤ n * sz := Nat.mul_le_mul_right sz (by omega)
  have hmul2 : a.toNat * sz ≤ b.toNat * sz := Nat.mul_le_mul_right sz (by omega)
  have htl : ((cs.drop (a.toNat * sz)).take ((b.toNat - a.toNat) * sz)).length = (b.toNat - a.toNat) * sz := by rw [List.length_take, List.length_drop, hl, Nat.sub_mul]; omega
  have hmx : abound (some (.int .i64 b)) 0 c = some b.toNat := by
    simp only [abound]
    rw [if_pos ⟨by omega, by omega⟩]
  have hhi : abound (some (.int .i64 b)) 0 b.toNat = some b.toNat := by
    simp only [abound]
    rw [if_pos ⟨by omega, by omega⟩]
  have hlo : abound (some (.int .i64 a)) 0 b.toNat = some a.toNat := by
    simp only [abound]
    rw [if_pos ⟨by omega, by omega⟩]
  have hne : ¬ b.toNat = a.toNat := by omega
  refine ⟨.slice (some ⟨A, o + a.toNat * sz, none⟩) (b.toNat - a.toNat) (b.toNat - a.toNat), ⟨_, _, rfl, htl, ⟨Nat.le_refl _, fun h => (by cases h), fun x hx => (by cases hx; exact .inl rfl)⟩, fun _ => ⟨A, _, none, cells, tt, op, rfl, rfl, hA, ?_⟩⟩, fun B oA n hf A' o' sp' n' c' e => ?_, by simp [veq], fun ty s' K => ?_⟩
  · rw [← hcs, List.drop_take, List.drop_drop, List.take_take]
    congr 1
    rw [Nat.sub_mul]
    omega
  · cases e; exact hf A o m _ _ rfl
  · rw [wop_slice]
    rcases hm2 with rfl | ⟨rfl, hpos⟩ <;> simp only [asliceOp, hund, hs, sliceThree, Option.map_some, Option.map_none, aval, hmx, hhi, hlo, Option.bind_some, hne, if_false, wopt_some]
theorem prs_drop (k : IntKind) : ∀ (l : List (Int × Int)) (i : Nat), (prs k l).drop (i * 2) = prs k (l.drop i)
  | l, 0 => by rw [Nat.zero_mul, List.drop_zero, List.drop_zero]
  | [], i + 1 => by rw [List.drop_nil]; exact List.drop_nil
  | x :: l, i + 1 => by
    have e : prs k (x :: l) = prc k x ++ prs k l := rfl
    have hx : (prc k x).length = 2 := rfl
    rw [e, List.drop_append, List.drop_of_length_le (by omega), List.nil_append, hx, show (i + 1) * 2 - 2 = i * 2 by omega, prs_drop k l i]; rfl
theorem prs_take (k : IntKind) : ∀ (l : List (Int × Int)) (i : Nat), (prs k l).take (i * 2) = prs k (l.take i)
  | l, 0 => by rw [Nat.zero_mul, List.take_zero, List.take_zero]; rfl
  | [], i + 1 => by rw [List.take_nil]; exact List.take_nil
  | x :: l, i + 1 => by
    have e : prs k (x :: l) = prc k x ++ prs k l := rfl
    have hx : (prc k x).length = 2 := rfl
    rw [e, List.take_append, List.take_of_length_le (by omega), hx, show (i + 1) * 2 - 2 = i * 2 by omega, prs_take k l i]; rfl
theorem wChunkP {L C N : Nat} {u : Value} {l : List (Int × Int)} (r0 : Lp) (Inv : Nat → St → Prop) (hlen : r0.params.length = 1)
    (hloop : ∀ i s, Inv i s → s.at L = some (.loop r0)) (hC : ∀ i s, Inv i s → ∃ T o, s.at C = some (.cells [u] T o)) (hN : ∀ i s, Inv i s → ∃ T o, s.at N = some (.cells [.int .i64 2] T o)) (hI : ∀ i s, Inv i s → Prs .i64 s u l) (hl : l.length < 2 ^ 60) (hev : l.length % 2 = 0) (hne : 0 < l.length)
    (hLs : L < s.n)
    (hround : ∀ i s' w, 2 * i + 1 < l.length → Inv i s' → Prs .i64 s' w [l.getD (2 * i) (0, 0), l.getD (2 * i + 1) (0, 0)] → (∀ B oA n, OffS B oA n u → OffS B oA n w) → RoundWP P ro L (setAll r0.t r0.params [w]) r0.assign r0.body s' fun v s2 => v = .bool true ∧ s2.lo ≤ L ∧ Inv (i + 1) s2)
    (h0e : Inv 0 (ent s)) (hk : ∀ s', Inv (l.length / 2) s' → K (.tuple (.mk [])) { s' with lo := min s.lo s'.lo }) :
    CallWP P ro 94 [.func (.yield L) (.mk []) (.mk []), ptr C, ptr N] s K := by
  refine call_wp b94 rfl ?_
  rw [n94]
  unfold v94
  simp (maxSteps := 10000000) only [wW, reduceCtorEq, Nat.reduceEqDiff]
  refine wloop l94_100 m94_100 (fun (i : Nat) τ ds s' => 2 * i ≤ l.length ∧ τ 0 = .func (.yield L) (.mk []) (.mk []) ∧ τ 1 = ptr C ∧ τ 2 = ptr N ∧ τ 4 = .int .i64 ((2 * i : Nat) : Int) ∧ ds = [] ∧ Inv i s' ∧ (0 < i → s'.lo ≤ L)) (fun i => l.length + 1 - 2 * i) ?_ 0 ⟨by omega, ?_, ?_, ?_, ?_, rfl, h0e, fun h => absurd h (by omega)⟩
  · rintro i τ ds s' ⟨hi, t0, t1, t2, t4, rfl, hInv, hp⟩
    rw [n94_100]
    unfold v94_100
    obtain ⟨T1, o1, hc⟩ := hC i s' hInv
    obtain ⟨T2, o2, hn⟩ := hN i s' hInv
    have hIs := hI i s' hInv
    have hund : P.underlying 46 = some (.slice 47) := un_46
    by_cases hlt : 2 * i < l.length
    · obtain ⟨w1, i1, _, _, q1⟩ := Sl.from (ro := ro) hund isz_47 (by decide) hIs (k := ((2 * i : Nat) : Int)) (by omega) (by omega)
      have hmin : (if (((l.length - ((2 * i : Nat) : Int).toNat : Nat)) : Int) < 2 then ((l.length - ((2 * i : Nat) : Int).toNat : Nat) : Int) else 2) = 2 := by
        rw [Int.toNat_natCast]
        split <;> omega
      obtain ⟨w3, i3, f3, _, q3⟩ := Sl.mid (ro := ro) hund isz_47 (by decide) hIs (a := ((2 * i : Nat) : Int)) (b := ((2 * i : Nat) : Int) + 2) (by omega) (by omega) (by omega)
      have hadd : IntKind.i64.wrap (((2 * i : Nat) : Int) + 2) = ((2 * i : Nat) : Int) + 2 := wrap_i64 (by omega) (by omega)
      simp (maxSteps := 10000000) only [wW, reduceCtorEq, Nat.reduceEqDiff, wL, Nat.reduceAdd, load1 ap_46, t0, t1, t2, t4, acells_some hc, acells_some hn, List.getElem?_cons_zero, hIs.wlen se_46, q1, i1.wlen se_46, min_i64, hmin, hadd, q3]
      rw [if_pos (by omega)]
      have i3' : Prs .i64 s' w3 [l.getD (2 * i) (0, 0), l.getD (2 * i + 1) (0, 0)] := by
        unfold Prs
        rw [show (((2 * i : Nat) : Int) + 2).toNat - ((2 * i : Nat) : Int).toNat = 2 by omega, Int.toNat_natCast, prs_drop, prs_take] at i3
        have e : (l.drop (2 * i)).take 2 = [l.getD (2 * i) (0, 0), l.getD (2 * i + 1) (0, 0)] := by
          rw [drop_cons hlt, drop_cons (show 2 * i + 1 < l.length by omega), List.getD_eq_getElem?_getD, List.getElem?_eq_getElem hlt, List.getD_eq_getElem?_getD, List.getElem?_eq_getElem (show 2 * i + 1 < l.length by omega)]; rfl
        rw [e] at i3
        exact i3
      refine wYield (hloop i s' hInv) hlen ?_
      obtain ⟨n, v, s2, e, rfl, h2, h3⟩ := hround i s' w3 (by omega) hInv i3' f3
      refine ⟨n, _, s2, e, ?_⟩
      obtain ⟨T3, o3, hn2⟩ := hN (i + 1) s2 h3
      simp (maxSteps := 10000000) only [wW, reduceCtorEq, Nat.reduceEqDiff, wL, Nat.reduceAdd, acells_some hn2, List.getElem?_cons_zero]
      rw [wrap_i64 (by omega) (by omega)]
      refine ⟨i + 1, by omega, by omega, ?_, ?_, ?_, ?_, trivial, h3, fun _ => h2⟩
      · simp only [U, tset_eq, wW, reduceCtorEq, Nat.reduceEqDiff, t0]
      · simp only [U, tset_eq, wW, reduceCtorEq, Nat.reduceEqDiff, t1]
      · simp only [U, tset_eq, wW, reduceCtorEq, Nat.reduceEqDiff, t2]
      · simp only [U, tset_eq, wW, reduceCtorEq, Nat.reduceEqDiff]
        congr 1
    · have hie : i = l.length / 2 := by omega
      simp (maxSteps := 10000000) only [wW, reduceCtorEq, Nat.reduceEqDiff, wL, Nat.reduceAdd, load1 ap_46, t1, t4, acells_some hc, List.getElem?_cons_zero, hIs.wlen se_46]
      rw [if_neg (by omega)]
      have hlo2 := hp (by omega)
      rw [wfin_old (by omega)]
      rw [hie] at hInv
      exact hk _ hInv
  · simp only [U, tset_eq, wW, reduceCtorEq, Nat.reduceEqDiff]
  · simp only [U, tset_eq, wW, reduceCtorEq, Nat.reduceEqDiff]
  · simp only [U, tset_eq, wW, reduceCtorEq, Nat.reduceEqDiff]
  · simp only [U, tset_eq, wW, reduceCtorEq, Nat.reduceEqDiff]; rfl
theorem wChunkP0 {u : Value} (hw : Wf s) (h1 : u.cells.toList = [u]) (hk : ∀ C N s', Grew s s' → s.n ≤ C → s.n ≤ N → C ≠ N → s'.at C = some (.cells [u] 46 false) → s'.at N = some (.cells [.int .i64 2] 3 false) → K (.func (.func 94) (.mk []) (.mk [ptr C, ptr N])) s') :
    CallWP P ro 71 [u, .int .i64 2] s K := by
  refine call_wp b71 rfl ?_
  rw [n71]
  unfold v71
  simp (maxSteps := 10000000) only [wW, reduceCtorEq, Nat.reduceEqDiff]
  refine box_rule hw.ent fun C s1 m1 => ?_
  refine box_rule m1.wf fun N s2 m2 => ?_
  have e1 := m1.eq
  have e2 := m2.eq
  have n1 := m1.n
  have hn0 : (ent s).n = s.n := rfl
  refine load_rule (load_one ap_3 m2.here rfl) ?_
  simp (maxSteps := 10000000) only [wW, reduceCtorEq, Nat.reduceEqDiff]
  rw [if_neg (by decide)]
  refine wfin_new hw (m1.grew.trans m2.grew) rfl fun s' hg hn hat => hk C N s' hg (by omega) (by omega) (by omega) ?_ ?_
  · rw [hat C, m2.grew.same C (by omega), m1.here, h1]
  · rw [hat N, m2.here]; rfl
end
end Go.VE
/- A builder that lives: blocks of a call's own, side by side; Pick, a round. -/
namespace Go.VE
open Go Go.Proofs
set_option maxRecDepth 20000
structure Hs (n0 : Nat) (B : Nat) (oA : Option Nat) (s : St) (l : List (Nat × AO)) : Prop where
  at' : ∀ x ∈ l, s.at x.1 = some x.2 ∧ x.1 ≠ B ∧ oA ≠ some x.1 ∧ n0 ≤ x.1
  nd : l.Pairwise fun a b => a.1 ≠ b.1
section
variable {n0 B : Nat} {oA : Option Nat} {s s' : St} {l : List (Nat × AO)} {A : Nat} {o o' : AO}
theorem Hs.nil : Hs n0 B oA s [] := ⟨fun x hx => (by cases hx), .nil⟩
theorem Hs.lc (h : Hs n0 B oA s l) {i : Nat} (hi : l[i]? = some (A, o)) : Lc s B oA A o := by
  obtain ⟨a, b, c, _⟩ := h.at' _ (List.mem_of_getElem? hi)
  exact ⟨a, b, c⟩
theorem Hs.ge (h : Hs n0 B oA s l) {i : Nat} (hi : l[i]? = some (A, o)) : n0 ≤ A := (h.at' _ (List.mem_of_getElem? hi)).2.2.2
theorem Hs.lt (h : Hs n0 B oA s l) {x : Nat × AO} (hx : x ∈ l) : x.1 < s.n := St.at_lt (h.at' x hx).1
theorem Hs.ne (h : Hs n0 B oA s l) {i j A' : Nat} {q : AO} (hi : l[i]? = some (A, o)) (hj : l[j]? = some (A', q)) (hij : i < j) : A ≠ A' := by
  have hl := (List.getElem?_eq_some_iff.1 hj).1
  have e1 := (List.getElem?_eq_some_iff.1 hi).2
  have e2 := (List.getElem?_eq_some_iff.1 hj).2
  have := List.pairwise_iff_getElem.1 h.nd i j (by omega) hl hij
  rw [e1, e2] at this
  exact this
theorem Hs.mut {oA' : Option Nat} (h : Hs n0 B oA s l) (m : Mut s B oA s' oA') : Hs n0 B oA' s' l :=
  ⟨fun x hx => by
    obtain ⟨a, b, c, d⟩ := h.at' x hx
    exact ⟨(m.same _ (St.at_lt a) b c).trans a, b, m.own_ne (St.at_lt a) c, d⟩, h.nd⟩
theorem Hs.grew (h : Hs n0 B oA s l) (g : Grew s s') : Hs n0 B oA s' l := h.mut (.ofGrew g)
theorem Hs.lo {k : Nat} (h : Hs n0 B oA s l) : Hs n0 B oA { s with lo := k } l := ⟨h.at', h.nd⟩
theorem Hs.ent (h : Hs n0 B oA s l) : Hs n0 B oA (Go.VE.ent s) l := ⟨h.at', h.nd⟩
theorem pw_set {α : Type} {R : α → α → Prop} : ∀ {l : List α} {i : Nat} {a b : α}, l[i]? = some a → l.Pairwise R → (∀ x, R x a → R x b) → (∀ x, R a x → R b x) → (l.set i b).Pairwise R
  | x :: l, 0, a, b, hi, h, h1, h2 => by
    simp only [List.getElem?_cons_zero, Option.some.injEq] at hi
    subst hi
    rw [List.set_cons_zero]
    exact List.pairwise_cons.2 ⟨fun y hy => h2 y (List.pairwise_cons.1 h |>.1 y hy), (List.pairwise_cons.1 h).2⟩
  | x :: l, i + 1, a, b, hi, h, h1, h2 => by
    rw [List.getElem?_cons_succ] at hi
    rw [List.set_cons_succ]
    refine List.pairwise_cons.2 ⟨fun y hy => ?_, pw_set hi (List.pairwise_cons.1 h).2 h1 h2⟩
    rcases List.mem_or_eq_of_mem_set hy with hy | rfl
    · exact (List.pairwise_cons.1 h).1 y hy
    · exact h1 x ((List.pairwise_cons.1 h).1 a (List.mem_of_getElem? hi))
theorem Hs.put (h : Hs n0 B oA s l) {i : Nat} (hi : l[i]? = some (A, o)) (p : Put s A o' s') : Hs n0 B oA s' (l.set i (A, o')) := by
  obtain ⟨ha, hb, hc, hd⟩ := h.at' _ (List.mem_of_getElem? hi)
  refine ⟨fun x hx => ?_, pw_set hi h.nd (fun x hx => hx) fun x hx => hx⟩
  by_cases hxA : x.1 = A
  · have hil := (List.getElem?_eq_some_iff.1 hi).1
    have hx' : x = (A, o') := by
      obtain ⟨j, hj, rfl⟩ := List.getElem_of_mem hx
      rw [List.length_set] at hj
      rw [List.getElem_set] at hxA ⊢
      split at hxA
      · rename_i e; rw [if_pos e]
      · rename_i e
        exfalso
        have hj' : l[j]? = some ((l[j]).1, (l[j]).2) := List.getElem?_eq_getElem hj
        rcases Nat.lt_or_ge i j with h1 | h1
        · exact h.ne hi hj' h1 hxA.symm
        · exact h.ne hj' hi (by omega) hxA
    subst hx'
    exact ⟨p.here, hb, hc, hd⟩
  · rcases List.mem_or_eq_of_mem_set hx with hx | rfl
    · obtain ⟨a, b, c, d⟩ := h.at' x hx
      exact ⟨(p.rest _ hxA).trans a, b, c, d⟩
    · exact absurd rfl hxA
theorem Hs.putN (h : Hs n0 B oA s l) (hA : ∀ x ∈ l, x.1 ≠ A) (p : Put s A o' s') : Hs n0 B oA s' l :=
  ⟨fun x hx => by
    obtain ⟨a, b, c, d⟩ := h.at' x hx
    exact ⟨(p.rest _ (hA x hx)).trans a, b, c, d⟩, h.nd⟩
theorem Hs.add (h : Hs n0 B oA s l) (a : Lc s B oA A o) (hn : n0 ≤ A) (hA : ∀ x ∈ l, x.1 ≠ A) : Hs n0 B oA s (l ++ [(A, o)]) :=
  ⟨fun x hx => by
    rcases List.mem_append.1 hx with hx | hx
    · exact h.at' x hx
    · simp only [List.mem_cons, List.not_mem_nil, or_false] at hx
      subst hx
      exact ⟨a.here, a.ne, a.own, hn⟩, List.pairwise_append.2 ⟨h.nd, List.pairwise_singleton _ _, fun x hx y hy => by
    simp only [List.mem_cons, List.not_mem_nil, or_false] at hy
    subst hy
    exact hA x hx⟩⟩
theorem Hs.made (h : Hs n0 B oA s l) (m : Made s A o s') (hB : B < s.n) (hA : ∀ C, oA = some C → C < s.n) (hn : n0 ≤ s.n) : Hs n0 B oA s' (l ++ [(A, o)]) := by
  have e := m.eq
  refine (h.grew m.grew).add ⟨m.here, by omega, fun e2 => by have := hA A e2; omega⟩ (by omega) fun x hx => ?_
  have := h.lt hx
  omega
theorem Hs.sub {l' : List (Nat × AO)} (h : Hs n0 B oA s l) (hs : l'.Sublist l) : Hs n0 B oA s l' := ⟨fun x hx => h.at' x (hs.subset hx), h.nd.sublist hs⟩
theorem Hs.app (h : Hs n0 B oA s l) {oH : Option Nat} (a : App s oH s') (hH : ∀ C, oH = some C → ∀ x ∈ l, x.1 ≠ C) : Hs n0 B oA s' l :=
  ⟨fun x hx => by
    obtain ⟨e, b, c, d⟩ := h.at' x hx
    exact ⟨(a.rest _ (St.at_lt e) fun e2 => hH _ e2 x hx rfl).trans e, b, c, d⟩, h.nd⟩
theorem OffS.app {u : Value} {n : Nat} (h : OffS B oA n u) {oH : Option Nat} (a : App s oH s') (hn : n ≤ s.n) (hH : ∀ C, oH = some C → n ≤ C) {sz k : Nat} {cs : List Value} (hs : Sl s u sz k cs) : Sl s' u sz k cs :=
  hs.sameAt fun A o sp k c e => a.rest A (by have := (h A o sp k c e).1; omega) fun e2 => by have := hH A e2; have := (h A o sp k c e).1; omega
variable {ro : Nat} {d : Bd}
theorem Liv.app (h : Liv ro s B oA d) {oH : Option Nat} (a : App s oH s') (hH : ∀ C, oH = some C → ro ≤ C ∧ C ≠ B ∧ oA ≠ some C) : Liv ro s' B oA d := by
  obtain ⟨u, e1, e2⟩ := h.ex
  have h0 := h.r0
  have hn := a.n
  refine ⟨a.wf, ?_, h.r0, h.hB, fun C hC => ⟨(h.hA C hC).1, (h.hA C hC).2.1, by have := (h.hA C hC).2.2; omega⟩, h.ok, u, (a.rest B (St.at_lt e1) fun e => (hH B e).2.1 rfl).trans e1, e2.same fun C hC => a.rest C (h.hA C hC).2.2 fun e => (hH C e).2.2 hC⟩
  obtain ⟨x0, x1, x2, x3, m0, m1, m2, m3, c0, c1, c2, c3, t, op, hf⟩ := h.fl
  exact ⟨x0, x1, x2, x3, m0, m1, m2, m3, c0, c1, c2, c3, t, op, by rw [a.rest 0 (St.at_lt hf) fun e => by have := (hH 0 e).1; omega]; exact hf⟩
theorem RunL.app {s0 s1 : St} {oA1 oH : Option Nat} (h : RunL ro s0 B s1 oA1 s oA d) (a : App s oH s') (hH : ∀ C, oH = some C → s0.n ≤ C ∧ oA ≠ some C) : RunL ro s0 B s1 oA1 s' oA d := by
  have hn := a.n
  have h0 := h.n0
  have h1 := h.n
  have hB := h.hB
  have hro := h.ro
  refine ⟨h.liv.app a fun C e => ⟨by have := (hH C e).1; omega, by have := (hH C e).1; omega, (hH C e).2⟩, by omega, fun C hC hB hx => (a.rest C (by omega) fun e => by have := (hH C e).1; omega).trans (h.same C hC hB hx), h.own, ?_, h.n0, h.hB, h.ro⟩
  rcases h.chg with hlo | ⟨h2, h3, h4⟩
  · exact .inl (Nat.le_trans a.lo hlo)
  · refine .inr ⟨fun C hC => (a.rest C (by omega) fun e => by have := (hH C e).1; omega).trans (h2 C hC), h3, ?_⟩
    exact a.lo2 _ h4 fun C e => (hH C e).1
end
end Go.VE
/- A builder that lives: Pick, a round. -/
namespace Go.VE
open Go Go.Proofs
set_option maxRecDepth 20000
theorem ip2a (A o : Nat) : aindexAddr P 47 (.pointer (some ⟨A, o, none⟩)) (.int .i64 0) = some (.pointer (some ⟨A, o, none⟩)) := by kernel_rfl
theorem ip2b (A o : Nat) : aindexAddr P 47 (.pointer (some ⟨A, o, none⟩)) (.int .i64 1) = some (.pointer (some ⟨A, o + 1, none⟩)) := by kernel_rfl
theorem Own.veq {s : St} {v : Value} {e : TypeId} {sz n : Nat} {cs : List Value} {oA : Option Nat} (h : Own s v e sz n cs oA) : veq v v = true := by
  cases oA with
  | none => obtain ⟨rfl, _⟩ := h; simp [Go.VE.veq]
  | some A => obtain ⟨rfl, _⟩ := h; simp [Go.VE.veq]
theorem Own.one {s : St} {v : Value} {e : TypeId} {sz n : Nat} {cs : List Value} {oA : Option Nat} (h : Own s v e sz n cs oA) : v.oneCell' = true := by
  cases oA with
  | none => obtain ⟨rfl, _⟩ := h; rfl
  | some A => obtain ⟨rfl, _⟩ := h; rfl
theorem prs_snoc (k : IntKind) (l : List (Int × Int)) (p : Int × Int) : prs k (l ++ [p]) = prs k l ++ prc k p := by
  have e : prs k (l ++ [p]) = prs k l ++ prs k [p] := List.flatMap_append
  rw [e]; simp [prs]
section
variable {ro : Nat} {s : St} {B : Nat} {oA : Option Nat} {d : Bd} {K : Value → St → Prop}
def pkBl (B : Nat) (u v : Value) (bit : Int) (T H C N D L X : Nat) (r0 : Lp) (g : List (Nat × AO)) : List (Nat × AO) :=
  (T, .cells [.int .i64 bit] 3 false) :: (H, .cells [v] 46 false) :: (C, .cells [u] 46 false) :: (N, .cells [.int .i64 2] 3 false) :: (D, .defd (some [])) :: (L, .loop r0) :: (X, .cells [ptr B] 25 false) :: g
structure PickI (ro : Nat) (s0 : St) (B : Nat) (s1 : St) (oA1 : Option Nat) (n1 : Nat) (u : Value) (l : List (Int × Int)) (bit : Int) (T H C N D L X : Nat) (r0 : Lp) (g : List (Nat × AO)) (d0 : Bd) (i : Nat) (s : St) (oA : Option Nat) (v : Value) (oH : Option Nat) : Prop where
  run : RunL ro s0 B s1 oA1 s oA (pickI bit l d0 i).1
  hs : Hs s0.n B oA s (pkBl B u v bit T H C N D L X r0 g)
  own : Own s v 47 2 i (prs .i64 (pickI bit l d0 i).2) oH
  fr : ∀ C', oH = some C' → n1 ≤ C' ∧ oA ≠ some C' ∧ ∀ x ∈ pkBl B u v bit T H C N D L X r0 g, x.1 ≠ C'
  pr : Prs .i64 s u l
  off : OffS B oA n1 u
  hn : s0.n ≤ n1 ∧ n1 ≤ s1.n
theorem pickRound {s0 s1 : St} {oA1 : Option Nat} {n1 : Nat} {u v : Value} {l : List (Int × Int)} {bit : Int} {T H C N D L X : Nat} {lp : Lp} {g : List (Nat × AO)} {d0 : Bd} {i : Nat} {oH : Option Nat} {t : Tr} {τ0 : Tau} (ht : Agr 88 t τ0) (h3 : τ0 3 = ptr X) (h8 : τ0 8 = ptr T) (h9 : τ0 9 = ptr H)
    (hlp : lp.state = .ready ∧ lp.pending = none ∧ lp.t = t ∧ lp.params = [48] ∧ lp.assign = c32_11101001100110100 ∧ lp.body = c32_11101001100110101)
    (hH : n1 ≤ H) (hL : n1 ≤ L) (hl : l.length < 2 ^ 30) (hi : 2 * i + 1 < l.length)
    (hI : PickI ro s0 B s1 oA1 n1 u l bit T H C N D L X lp g d0 i s oA v oH) {w : Value} {p q : Int × Int} (hp : p = l.getD (2 * i) (0, 0)) (hq : q = l.getD (2 * i + 1) (0, 0)) (hw : Prs .i64 s w [p, q]) (hwo : ∀ B oA n, OffS B oA n u → OffS B oA n w) :
    RoundWP P ro L (setAll lp.t lp.params [w]) lp.assign lp.body s fun b s2 => b = .bool true ∧ s2.lo ≤ L ∧ ∃ oA' v' oH', PickI ro s0 B s1 oA1 n1 u l bit T H C N D L X lp g d0 (i + 1) s2 oA' v' oH' := by
  rw [hlp.2.2.1, hlp.2.2.2.1, hlp.2.2.2.2.1, hlp.2.2.2.2.2]
  have hro := hI.run.ro
  have hn0 := hI.run.n0
  have hsn := hI.run.n
  have hn1 := hI.hn
  have hBn := hI.run.hB
  refine round_wp (N := 88) (Agr.set ht 48 _ (by decide)) l32_11101001100110100 l32_11101001100110101 (by omega) ?_
  rw [n32_11101001100110100]
  unfold v32_11101001100110100
  have lL := hI.hs.lc (i := 5) rfl
  refine ⟨lp, lL.here, hlp.1, ?_⟩
  have pb := Put.mk' hI.run.liv.wf lL.lt (.loop { lp with state := .busy })
  generalize s.put L (.loop { lp with state := .busy }) = sb at pb ⊢
  have rb := hI.run.put pb (by omega) lL.own
  have hb : Hs s0.n B oA sb (pkBl B u v bit T H C N D L X { lp with state := .busy } g) := hI.hs.put (i := 5) rfl pb
  have ob : Own sb v 47 2 i (prs .i64 (pickI bit l d0 i).2) oH := hI.own.same fun C' e => pb.rest C' (Ne.symm ((hI.fr C' e).2.2 (L, .loop lp) (by simp [pkBl])))
  have ib : Prs .i64 sb u l := hI.off.slPut hL pb hI.pr
  have wob := hwo _ _ _ hI.off
  have iwb : Prs .i64 sb w [p, q] := wob.slPut hL pb hw
  have frb : ∀ C', oH = some C' → n1 ≤ C' ∧ oA ≠ some C' ∧ ∀ x ∈ pkBl B u v bit T H C N D L X { lp with state := .busy } g, x.1 ≠ C' := fun C' e => by
    obtain ⟨a, b, c⟩ := hI.fr C' e
    refine ⟨a, b, fun x hx => ?_⟩
    by_cases hxL : x.1 = L
    · rw [hxL]; exact c (L, .loop lp) (by simp [pkBl])
    · refine c x ?_
      simp only [pkBl, List.mem_cons] at hx ⊢
      rcases hx with h | h | h | h | h | rfl | h
      · exact .inl h
      · exact .inr (.inl h)
      · exact .inr (.inr (.inl h))
      · exact .inr (.inr (.inr (.inl h)))
      · exact .inr (.inr (.inr (.inr (.inl h))))
      · exact absurd rfl hxL
      · exact .inr (.inr (.inr (.inr (.inr (.inr h)))))
  rw [n32_11101001100110101]
  unfold v32_11101001100110101
  have nb := pb.n
  have lT := hb.lc (i := 0) rfl
  have lH := hb.lc (i := 1) rfl
  have lX := hb.lc (i := 6) rfl
  obtain ⟨Aw, ow, cw, z1, z2, _, z3, z4⟩ := iwb.at se_46 isz_47 (i := 0) (p := p) rfl
  obtain ⟨Ay, oy, cy, y1, y2, _, y3, y4⟩ := iwb.at se_46 isz_47 (i := 1) (p := q) rfl
  have hi2 : ∀ z : Int, veq (.int .i64 z) (.int .i64 z) = true := fun z => by simp [veq]
  have hpv : veq (ptr B) (ptr B) = true := by simp [veq]
  have e0 : ((0 : Nat) : Int) = 0 := rfl
  have e1 : ((1 : Nat) : Int) = 1 := rfl
  rw [e0] at z1
  rw [e1] at y1
  simp (maxSteps := 10000000) only [U, tset_eq, wW, reduceCtorEq, Nat.reduceEqDiff, wL, Nat.reduceAdd, load1 ap_25, h3, h8, h9, acells_some lX.here, acells_some lT.here, List.getElem?_cons_zero, z1, z2, z3, y1, y2, y3, ip2a, ip2b, hi2, hpv, true_and]
  refine lSelect rb.liv _ _ _ fun s3 oA3 l3 m3 => ?_
  have ea : mSelect (pickI bit l d0 i).1 bit p.1 q.1 = selA (pickI bit l d0 i).1 bit p q := rfl
  rw [ea] at l3 ⊢
  have r3 := rb.call l3 m3
  have h3s := hb.mut m3
  have m3n := m3.n
  have key3 : ∀ C', oH = some C' → C' < sb.n ∧ C' ≠ B ∧ oA ≠ some C' := fun C' e => by
    obtain ⟨a, b, _⟩ := frb C' e
    subst e
    exact ⟨ob.lt, by omega, b⟩
  have o3 : Own s3 v 47 2 i (prs .i64 (pickI bit l d0 i).2) oH := ob.same fun C' e => m3.same C' (key3 C' e).1 (key3 C' e).2.1 (key3 C' e).2.2
  have i3 : Prs .i64 s3 u l := hI.off.sl (by omega) m3 ib
  have off3 := hI.off.mut (by omega) m3
  have iw3 : Prs .i64 s3 w [p, q] := wob.sl (by omega) m3 iwb
  have wo3 := wob.mut (by omega) m3
  have lT3 := h3s.lc (i := 0) rfl
  have lH3 := h3s.lc (i := 1) rfl
  have lX3 := h3s.lc (i := 6) rfl
  obtain ⟨Aw3, ow3, cw3, u1, u2, _, u3, u4⟩ := iw3.at se_46 isz_47 (i := 0) (p := p) rfl
  obtain ⟨Ay3, oy3, cy3, x1, x2, _, x3, x4⟩ := iw3.at se_46 isz_47 (i := 1) (p := q) rfl
  rw [e0, z1] at u1
  rw [e1, y1] at x1
  obtain ⟨rfl, rfl⟩ : Aw = Aw3 ∧ ow = ow3 := by
    have := Option.some.inj u1
    simp only [Value.pointer.injEq, Option.some.injEq, Addr.mk.injEq] at this
    exact ⟨this.1, this.2.1⟩
  obtain ⟨rfl, rfl⟩ : Ay = Ay3 ∧ oy = oy3 := by
    have := Option.some.inj x1
    simp only [Value.pointer.injEq, Option.some.injEq, Addr.mk.injEq] at this
    exact ⟨this.1, this.2.1⟩
  simp (maxSteps := 10000000) only [wW, reduceCtorEq, Nat.reduceEqDiff, wL, Nat.reduceAdd, load1 ap_25, load1 ap_46, h3, h8, h9, acells_some lX3.here, acells_some lT3.here, acells_some lH3.here, List.getElem?_cons_zero, u2, u4, x2, x4, ip2a, ip2b, hi2, hpv, o3.veq, true_and]
  refine lSelect r3.liv _ _ _ fun s4 oA4 l4 m4 => ?_
  have eb : mSelect (selA (pickI bit l d0 i).1 bit p q).1 bit p.2 q.2 = selB (pickI bit l d0 i).1 bit p q := rfl
  rw [eb] at l4 ⊢
  have r4 := r3.call l4 m4
  have h4s := h3s.mut m4
  have m4n := m4.n
  have fr3 : ∀ C', oH = some C' → oA3 ≠ some C' := fun C' e => m3.own_ne (key3 C' e).1 (key3 C' e).2.2
  have o4 : Own s4 v 47 2 i (prs .i64 (pickI bit l d0 i).2) oH := o3.same fun C' e => m4.same C' (by have := (key3 C' e).1; omega) (key3 C' e).2.1 (fr3 C' e)
  have fr4 : ∀ C', oH = some C' → oA4 ≠ some C' := fun C' e => m4.own_ne (by have := (key3 C' e).1; omega) (fr3 C' e)
  have i4 : Prs .i64 s4 u l := off3.sl (by omega) m4 i3
  have off4 := off3.mut (by omega) m4
  refine ⟨lH3.keeps1 m4 _, ?_⟩
  rw [build2w, wopt_some]
  have hE : pickI bit l d0 (i + 1) = ((selB (pickI bit l d0 i).1 bit p q).1, (pickI bit l d0 i).2 ++ [((selA (pickI bit l d0 i).1 bit p q).2, (selB (pickI bit l d0 i).1 bit p q).2)]) := by
    subst hp hq
    rfl
  have hil := pickI_len bit l d0 i
  refine buildSlice_rule se_46 ty_47 l4.wf [.agg (.mk (p2c ((selA (pickI bit l d0 i).1 bit p q).2, (selB (pickI bit l d0 i).1 bit p q).2)))] rfl rfl (by decide) (by simp [Value.cells, p2c]) fun Z s5 m5 => ?_
  refine ⟨m5.fresh (by simp [veqL, Go.VE.veq, Value.cells, p2c]), ?_⟩
  have hH5 : ∀ C', oH = some C' → s0.n ≤ C' ∧ oA4 ≠ some C' := fun C' e => ⟨by have := (frb C' e).1; omega, fr4 C' e⟩
  refine append_rule se_46 (by kernel_rfl) ty_47 (by decide) (by decide) (o4.grew m5.grew) (m5.sl (n := 1) (sz := 2) rfl) (by decide) m5.wf (fun C' e => by have := (hH5 C' e).1; omega) (by omega) rfl fun v' s6 o6 a6 => ?_
  have n5 := m5.n
  have n6 := a6.n
  refine ⟨by omega, ?_⟩
  have h5s := h4s.grew m5.grew
  have r5 := r4.grew m5.grew
  have r6 := r5.app a6 hH5
  have hne6 : ∀ C', oH = some C' → ∀ x ∈ pkBl B u v bit T H C N D L X { lp with state := .busy } g, x.1 ≠ C' := fun C' e => (frb C' e).2.2
  have h6s := h5s.app a6 hne6
  have i6 : Prs .i64 s6 u l := off4.app a6 (by omega) (fun C' e => (frb C' e).1) (Sl.grew i4 m5.grew.same)
  have lH6 := h6s.lc (i := 1) rfl
  refine store1_rule isz_46 lH6.here r6.liv.wf (by omega) (by simp) o6.one fun s7 p7 => ?_
  have n7 := p7.n
  refine ⟨by omega, ?_⟩
  have h7s : Hs s0.n B oA4 s7 (pkBl B u v' bit T H C N D L X { lp with state := .busy } g) := h6s.put (i := 1) rfl p7
  have r7 := r6.put p7 (by omega) lH6.own
  have lL7 := h7s.lc (i := 5) rfl
  refine ⟨_, lL7.here, rfl, ?_⟩
  have pf := Put.mk' r7.liv.wf lL7.lt (.loop { lp with state := if (jumpOf .normal).isNone = true then .ready else .done, pending := jumpOf .normal })
  show (s7.put L (.loop { lp with state := if (jumpOf .normal).isNone = true then .ready else .done, pending := jumpOf .normal })).lo ≤ L ∧ _
  refine ⟨Nat.min_le_right _ _, oA4, v', some s5.n, ?_⟩
  have elp : ({ lp with state := if (jumpOf .normal).isNone = true then .ready else .done, pending := jumpOf .normal } : Lp) = lp := by
    obtain ⟨a, b, _⟩ := hlp
    cases lp
    simp only at a b
    subst a b
    rfl
  show PickI ro s0 B s1 oA1 n1 u l bit T H C N D L X lp g d0 (i + 1) (s7.put L (.loop { lp with state := if (jumpOf .normal).isNone = true then .ready else .done, pending := jumpOf .normal })) oA4 v' (some s5.n)
  rw [elp] at pf ⊢
  generalize s7.put L (.loop lp) = sf at pf ⊢
  have hLH : L ≠ H := by
    have := h7s.ne (i := 1) (j := 5) rfl rfl (by decide)
    exact Ne.symm this
  have lt5 : ∀ x ∈ pkBl B u v' bit T H C N D L X lp g, x.1 < s5.n := fun x hx => by
    simp only [pkBl, List.mem_cons] at hx
    have hm : ∀ y : Nat × AO, y ∈ pkBl B u v bit T H C N D L X { lp with state := .busy } g → y.1 < s5.n := fun y hy => h5s.lt hy
    rcases hx with rfl | rfl | rfl | rfl | rfl | rfl | rfl | hx
    · exact (h5s.lc (i := 0) rfl).lt
    · exact (h5s.lc (i := 1) rfl).lt
    · exact (h5s.lc (i := 2) rfl).lt
    · exact (h5s.lc (i := 3) rfl).lt
    · exact (h5s.lc (i := 4) rfl).lt
    · exact (h5s.lc (i := 5) rfl).lt
    · exact (h5s.lc (i := 6) rfl).lt
    · exact hm _ (by simp [pkBl, hx])
  refine ⟨?_, h7s.put (i := 5) rfl pf, ?_, fun C' e => ?_, off4.slPut hL pf (off4.slPut hH p7 i6), off4, hI.hn⟩
  · rw [hE]
    exact r7.put pf (by omega) lL7.own
  · have e6 : Own s7 v' 47 2 (i + 1) (prs .i64 (pickI bit l d0 i).2 ++ p2c ((selA (pickI bit l d0 i).1 bit p q).2, (selB (pickI bit l d0 i).1 bit p q).2)) (some s5.n) := o6.same fun C' e => p7.rest C' (by cases e; have := (h5s.lc (i := 1) rfl).lt; omega)
    rw [hE]
    show Own sf v' 47 2 (i + 1) (prs .i64 ((pickI bit l d0 i).2 ++ [((selA (pickI bit l d0 i).1 bit p q).2, (selB (pickI bit l d0 i).1 bit p q).2)])) (some s5.n)
    rw [prs_snoc]
    exact e6.same fun C' e => pf.rest C' (by cases e; have := (h5s.lc (i := 5) rfl).lt; omega)
  · cases e
    refine ⟨by omega, fun e2 => ?_, fun x hx => by have := lt5 x hx; omega⟩
    have := (l4.hA _ e2).2.2
    omega
end
end Go.VE
/- A builder that lives: Pick, a range; deferred lists that stay empty. -/
namespace Go.VE
open Go Go.Proofs
set_option maxRecDepth 20000
section
variable {ro : Nat} {s : St} {B : Nat} {oA : Option Nat} {d : Bd} {K : Value → St → Prop}
theorem Hs.perm {n0 : Nat} {l l' : List (Nat × AO)} (h : Hs n0 B oA s l) (p : l.Perm l') : Hs n0 B oA s l' := ⟨fun x hx => h.at' x (p.mem_iff.2 hx), (p.pairwise_iff fun h => Ne.symm h).1 h.nd⟩
theorem wcollect {s0 : St} {oA0 : Option Nat} {n0 : Nat} {pre : List (Nat × AO)} {rest : List Deferred} {K : St → Prop} (hn : s0.n ≤ n0) : ∀ (Ds : List Nat) {s : St}, Run1 ro s0 B oA0 s oA d → Hs n0 B oA s (pre ++ Ds.map fun D => (D, .defd (some []))) →
    (∀ s', Run1 ro s0 B oA0 s' oA d → Hs n0 B oA s' pre → wdefers P ro rest s' K) → wdefers P ro (Ds.map (fun D => ⟨.collected D, (.mk [])⟩) ++ rest) s K
  | [], s, r, h, hk => hk s r (by rw [List.map_nil, List.append_nil] at h; exact h)
  | D :: Ds, s, r, h, hk => by
    have hi : (pre ++ (D :: Ds).map fun D => ((D, .defd (some [])) : Nat × AO))[pre.length]? = some (D, .defd (some [])) := by
      rw [List.getElem?_append_right (Nat.le_refl _), Nat.sub_self]; rfl
    have a := h.lc hi
    have g := h.ge hi
    have hro := r.ro
    refine ⟨a.here, by omega, ?_⟩
    have p := Put.mk' r.liv.wf a.lt (.defd none)
    generalize s.put D (.defd none) = s1 at p ⊢
    have h1 := h.put hi p
    have hset : (pre ++ (D :: Ds).map fun D => ((D, .defd (some [])) : Nat × AO)).set pre.length (D, .defd none) = pre ++ (D, .defd none) :: Ds.map fun D => (D, .defd (some [])) := by
      rw [List.set_append_right _ _ (Nat.le_refl _), Nat.sub_self]; rfl
    rw [hset] at h1
    exact wcollect hn Ds (r.put p (by omega) a.own) (h1.sub (List.Sublist.append_left (List.sublist_cons_self _ _) _)) hk
theorem pickRange {s0 : St} {oA0 : Option Nat} {n1 : Nat} {u : Value} {l : List (Int × Int)} {bit : Int} {T H C N X : Nat} {g : List (Nat × AO)} (run : Run1 ro s0 B oA0 s oA d)
    (hs : Hs s0.n B oA s ((T, .cells [.int .i64 bit] 3 false) :: (H, .cells [.slice none 0 0] 46 false) :: (C, .cells [u] 46 false) :: (N, .cells [.int .i64 2] 3 false) :: (X, .cells [ptr B] 25 false) :: g))
    (hH : n1 ≤ H) (hn1 : s0.n ≤ n1 ∧ n1 ≤ s.n) (hu : Prs .i64 s u l) (hoff : OffS B oA n1 u) (hl : l.length < 2 ^ 30) (hev : l.length % 2 = 0) (hl0 : 0 < l.length)
    {τ : Tau} (t3 : τ 3 = ptr X) (t8 : τ 8 = ptr T) (t9 : τ 9 = ptr H) {ds : List Deferred} {K R : WK} {Lk : List (Nat × WK)}
    (hk : ∀ s' oA' v oH, Run1 ro s0 B oA0 s' oA' (pickI bit l d (l.length / 2)).1 → Hs s0.n B oA' s' ((H, .cells [v] 46 false) :: (s.n, .defd (some [])) :: (X, .cells [ptr B] 25 false) :: g) → Own s' v 47 2 (l.length / 2) (prs .i64 (pickI bit l d (l.length / 2)).2) oH → (∀ C', oH = some C' → n1 ≤ C' ∧ oA' ≠ some C') → s.n ≤ s'.n → K τ (⟨.collected s.n, (.mk [])⟩ :: ds) s') :
    WRange P ro 88 none (.func (.func 94) (.mk []) (.mk [ptr C, ptr N])) #[48] c32_11101001100110100 c32_11101001100110101 τ ds s K R Lk := by
  have hro := run.ro
  have hmt := run.mt.n
  have hBn := run.hB
  refine wrange (by omega) fun t ht => ?_
  have hD := run.fresh (A := s.n) (Nat.le_refl _)
  have g11 : Grew s (s.new (.defd (some []))) := .new _ _
  have r11 := run.grew g11
  have hL := r11.fresh (A := s.n + 1) (Nat.le_refl _)
  have g12 : Grew (s.new (.defd (some []))) ((s.new (.defd (some []))).new (.loop { state := .ready, pending := none, t := t, params := #[48].toList, assign := c32_11101001100110100, body := c32_11101001100110101, defers := s.n })) := .new _ _
  generalize hr0 : ({ state := .ready, pending := none, t := t, params := #[48].toList, assign := c32_11101001100110100, body := c32_11101001100110101, defers := s.n } : Lp) = lp at g12 ⊢
  have hD11 : Lc (s.new (.defd (some []))) B oA s.n (.defd (some [])) := ⟨at_newest _ _, hD.1, hD.2⟩
  have hL12 : Lc ((s.new (.defd (some []))).new (.loop lp)) B oA (s.n + 1) (.loop lp) := ⟨at_newest _ _, hL.1, hL.2⟩
  have g1012 := g11.trans g12
  have r12 := run.grew g1012
  generalize hs12 : (s.new (.defd (some []))).new (.loop lp) = s12 at *
  have n12 : s12.n = s.n + 2 := by rw [← hs12]; rfl
  have hlp : lp.state = .ready ∧ lp.pending = none ∧ lp.t = t ∧ lp.params = [48] ∧ lp.assign = c32_11101001100110100 ∧ lp.body = c32_11101001100110101 := by rw [← hr0]; exact ⟨rfl, rfl, rfl, rfl, rfl, rfl⟩
  clear hr0
  have h12 := hs.grew g1012
  have hlt := fun x hx => hs.lt (x := x) hx
  have h13 := (h12.add (hD11.grew g12) hmt fun x hx => by have := hlt x hx; omega).add hL12 (by omega) fun x hx => by
    rcases List.mem_append.1 hx with hx | hx
    · have := hlt x hx; omega
    · simp only [List.mem_cons, List.not_mem_nil, or_false] at hx
      subst hx
      show s.n ≠ s.n + 1
      omega
  have h14 : Hs s0.n B oA s12 (pkBl B u (.slice none 0 0) bit T H C N s.n (s.n + 1) X lp g) := h13.perm (by
    unfold pkBl
    simp only [List.cons_append]
    refine List.Perm.cons _ (List.Perm.cons _ (List.Perm.cons _ (List.Perm.cons _ ?_)))
    rw [List.append_assoc]
    exact (List.perm_append_comm (l₁ := (X, _) :: g) (l₂ := [(s.n, _), (s.n + 1, _)])))
  have hu12 : Prs .i64 s12 u l := Sl.grew hu g1012.same
  refine wChunkP (u := u) (l := l) lp (fun i s' => ∃ oA' v oH, PickI ro s0 B s12 oA n1 u l bit T H C N s.n (s.n + 1) X lp g d i s' oA' v oH) (by rw [hlp.2.2.2.1]; rfl) (fun i s' hI => ?_) (fun i s' hI => ?_) (fun i s' hI => ?_) (fun i s' hI => ?_) (by omega) hev hl0 (by omega) (fun i s' w hi hI hw hwo => ?_) ?_ (fun s' hI => ?_)
  · obtain ⟨o, v, oH, hI⟩ := hI; exact (hI.hs.lc (i := 5) rfl).here
  · obtain ⟨o, v, oH, hI⟩ := hI; exact ⟨_, _, (hI.hs.lc (i := 2) rfl).here⟩
  · obtain ⟨o, v, oH, hI⟩ := hI; exact ⟨_, _, (hI.hs.lc (i := 3) rfl).here⟩
  · obtain ⟨o, v, oH, hI⟩ := hI; exact hI.pr
  · obtain ⟨oA1, v, oH, hI⟩ := hI
    exact pickRound ht t3 t8 t9 hlp hH (by omega) hl hi hI rfl rfl hw hwo
  · refine ⟨oA, .slice none 0 0, none, .start r12, h14.ent, ⟨rfl, rfl, rfl⟩, fun _ e => (by cases e), Sl.ent hu12, hoff, hn1.1, by omega⟩
  · obtain ⟨oF, v, oH, hI⟩ := hI
    have rF := hI.run.finish r12
    have hF := hI.hs.lo (k := min s12.lo s'.lo)
    have aL := hF.lc (i := 5) rfl
    refine ⟨lp, .normal, aL.here, .inl hlp.1, by rw [hlp.2.1]; rfl, ?_⟩
    have p := Put.mk' rF.liv.wf aL.lt (.loop { lp with state := .exhausted })
    have hP := hF.put (i := 5) rfl p
    have rP := rF.put p (by omega) aL.own
    have oP : Own _ v 47 2 (l.length / 2) (prs .i64 (pickI bit l d (l.length / 2)).2) oH := hI.own.same fun C' e => (p.rest C' (Ne.symm ((hI.fr C' e).2.2 (s.n + 1, .loop lp) (by simp [pkBl]))))
    have hn' := hI.run.n
    refine hk _ oF v oH rP (hP.sub ?_) oP (fun C' e => ⟨(hI.fr C' e).1, (hI.fr C' e).2.1⟩) ?_
    · show List.Sublist _ ((T, _) :: (H, _) :: (C, _) :: (N, _) :: (s.n, _) :: (s.n + 1, _) :: (X, _) :: g)
      exact (((((List.Sublist.refl ((X, _) :: g)).cons (s.n + 1, _)).cons_cons (s.n, _)).cons (N, _)).cons (C, _)).cons_cons (H, _) |>.cons (T, _)
    · rw [p.n]
      show s.n ≤ s'.n
      omega
end
end Go.VE
/- A builder that lives: Pick. -/
namespace Go.VE
open Go Go.Proofs
set_option maxRecDepth 20000
section
variable {ro : Nat} {s : St} {B : Nat} {oA : Option Nat} {d : Bd} {K : Value → St → Prop}
theorem WholeAt.hs {m0 n0 A1 A2 A3 : Nat} {r nv : Int} {l : List (Nat × AO)} (h : WholeAt n0 s B oA A1 A2 A3 r nv) (hl : Hs m0 B oA s l) (hm : m0 ≤ n0) (hlt : ∀ x ∈ l, x.1 < n0) :
    ∃ w, Hs m0 B oA s (l ++ w) ∧ ∀ s' oA', Hs m0 B oA' s' w → WholeAt n0 s' B oA' A1 A2 A3 r nv := by
  obtain ⟨t1, t2, t3, o1, o2, o3, h1, h2, h3, k1, k2, k3, k4⟩ := h
  have h12 : A1 ≠ A2 := fun e => by rw [e, h2] at h1; cases h1
  have h13 : A1 ≠ A3 := fun e => by rw [e, h3] at h1; cases h1
  have a1 := hl.add (A := A1) (o := .cells [ptr B] t1 o1) ⟨h1, k1.1, k1.2⟩ (by omega) fun x hx => by have := hlt x hx; omega
  have a2 := a1.add (A := A2) (o := .cells [.int .i64 r] t2 o2) ⟨h2, k2.1, k2.2⟩ (by omega) fun x hx => by
    rcases List.mem_append.1 hx with hx | hx
    · have := hlt x hx; omega
    · simp only [List.mem_cons, List.not_mem_nil, or_false] at hx
      subst hx
      exact h12
  by_cases e : A2 = A3
  · subst e
    rw [h2] at h3
    simp only [Option.some.injEq, AO.cells.injEq, List.cons.injEq, Value.int.injEq, true_and, and_true] at h3
    obtain ⟨rfl, rfl, rfl⟩ := h3
    refine ⟨[(A1, .cells [ptr B] t1 o1), (A2, .cells [.int .i64 r] t2 o2)], by rw [List.append_assoc] at a2; exact a2, fun s' oA' hs => ?_⟩
    have b1 := hs.lc (i := 0) rfl
    have b2 := hs.lc (i := 1) rfl
    exact ⟨_, _, _, _, _, _, b1.here, b2.here, b2.here, ⟨b1.ne, b1.own⟩, ⟨b2.ne, b2.own⟩, ⟨b2.ne, b2.own⟩, k4⟩
  · have a3 := a2.add (A := A3) (o := .cells [.int .i64 nv] t3 o3) ⟨h3, k3.1, k3.2⟩ (by omega) fun x hx => by
      rcases List.mem_append.1 hx with hx | hx
      · rcases List.mem_append.1 hx with hx | hx
        · have := hlt x hx; omega
        · simp only [List.mem_cons, List.not_mem_nil, or_false] at hx
          subst hx
          exact h13
      · simp only [List.mem_cons, List.not_mem_nil, or_false] at hx
        subst hx
        exact e
    refine ⟨[(A1, .cells [ptr B] t1 o1), (A2, .cells [.int .i64 r] t2 o2), (A3, .cells [.int .i64 nv] t3 o3)], by rw [List.append_assoc, List.append_assoc] at a3; exact a3, fun s' oA' hs => ?_⟩
    have b1 := hs.lc (i := 0) rfl
    have b2 := hs.lc (i := 1) rfl
    have b3 := hs.lc (i := 2) rfl
    exact ⟨_, _, _, _, _, _, b1.here, b2.here, b3.here, ⟨b1.ne, b1.own⟩, ⟨b2.ne, b2.own⟩, ⟨b3.ne, b3.own⟩, k4⟩
theorem Prs.cells {k : IntKind} {u : Value} {l : List (Int × Int)} (h : Prs k s u l) : u.cells.toList = [u] := by
  obtain ⟨a, c, rfl, _⟩ := h
  rfl
theorem Own.offs {v : Value} {e : TypeId} {sz n m : Nat} {cs : List Value} {oH : Option Nat} (h : Own s v e sz n cs oH) (hB : ∀ C, oH = some C → C ≠ B ∧ oA ≠ some C) (hm : s.n ≤ m) : OffS B oA m v := fun A o sp k c e' => by
  cases oH with
  | none => obtain ⟨e2, _⟩ := h; rw [e2] at e'; cases e'
  | some A' =>
    have hlt := h.lt
    obtain ⟨e2, _⟩ := h
    rw [e2] at e'
    cases e'
    exact ⟨by omega, hB _ rfl⟩
theorem pickTail {s0 : St} {oA0 : Option Nat} {u pv : Value} {bits : List Int} {l : List (Int × Int)} {R X : Nat} {oR : List Value} (run : Run1 ro s0 B oA0 s oA d) (hs : Hs s0.n B oA s [(X, .cells [ptr B] 25 false), (R, .cells oR 47 false)]) (hoR : oR.length = 2)
    (iu0 : Ints s0 u bits) (ip : Prs .i64 s pv l) (ou0 : OffS B oA0 s0.n u) (op : OffS B oA s.n pv) (hlb : bits.length ≤ 8) (hll : l.length = 2 ^ bits.length)
    {τ0 : Tau} (t1 : τ0 1 = u) (t2 : τ0 2 = pv) (t3 : τ0 3 = ptr X) (t6 : τ0 6 = ptr R) {Q : Ex → XK}
    (hk : ∀ τ' al s' oA' A1 A2 A3 n0 (Ds : List Nat) w, Run1 ro s0 B oA0 s' oA' (pickE d bits l).1 → Hs s0.n B oA' s' (((X, .cells [ptr B] 25 false) :: (R, .cells (p2c (mPair (pickE d bits l).1 ((pickE d bits l).2.getD 0 (0, 0)).1 ((pickE d bits l).2.getD 0 (0, 0)).2)) 47 false) :: w) ++ Ds.map fun D => (D, .defd (some []))) → (∀ s' oA', Hs s0.n B oA' s' w → WholeAt n0 s' B oA' A1 A2 A3 d.rows.length d.nv) → U τ' al 6 = ptr R → Q .ret τ' al (Ds.map (fun D => ⟨.collected D, (.mk [])⟩) ++ [⟨.fn (.func 83) (.mk [ptr A1, ptr A2, ptr A3]), (.mk [])⟩]) s') :
    xp (prims P ro) none 88 k32 c32_11 [1, 1] τ0 [] [] s Q := by
  rw [n32_11]
  unfold v32_11
  rw [t1, t3]
  simp (maxSteps := 10000000) only [wW, reduceCtorEq, Nat.reduceEqDiff]
  have hro := run.ro
  have hmt := run.mt.n
  have hBn := run.hB
  have xl := hs.lc (i := 0) rfl
  refine load_rule (load_one ap_25 xl.here rfl) ?_
  refine lWhole run.liv fun A1 A2 A3 s6 h6 m6 hw6 => ⟨trivial, ?_⟩
  rw [wdefer_fn, iu0.wlen se_30]
  have r6 := run.call h6 m6
  have hs6 := hs.mut m6
  have n6 := m6.n
  obtain ⟨w, hsw, hwho⟩ := hw6.hs hs6 hmt fun x hx => hs.lt hx
  have ip6 : Prs .i64 s6 pv l := op.sl (Nat.le_refl _) m6 ip
  have op6 := op.mut (Nat.le_refl _) m6
  refine wloop l32_1110100 m32_1110100 (fun (j : Nat) τ ds s' => j ≤ bits.length ∧ τ 3 = ptr X ∧ τ 6 = ptr R ∧ τ 40 = u ∧ τ 41 = .int .i64 bits.length ∧ τ 42 = .int .i64 j ∧ ∃ (Ds : List Nat) (oA' : Option Nat), ds = Ds.map (fun D => ⟨.collected D, (.mk [])⟩) ++ [⟨.fn (.func 83) (.mk [ptr A1, ptr A2, ptr A3]), (.mk [])⟩] ∧ Run1 ro s0 B oA0 s' oA' (pickO bits (d, l) j).1 ∧ Hs s0.n B oA' s' (((X, .cells [ptr B] 25 false) :: (R, .cells oR 47 false) :: w) ++ Ds.map fun D => (D, .defd (some []))) ∧ Prs .i64 s' (τ 2) (pickO bits (d, l) j).2 ∧ OffS B oA' s'.n (τ 2)) (fun j => bits.length - j) ?_ 0 ⟨Nat.zero_le _, ?_, ?_, ?_, ?_, ?_, [], oA, rfl, r6, by rw [List.map_nil, List.append_nil]; exact hsw, ?_, ?_⟩
  · clear t1 t2 t3 t6
    rintro j τ ds s' ⟨hj, t3, t6, t40, t41, t42, Ds, oA', rfl, rj, hj', pj, oj⟩
    rw [n32_1110100]
    unfold v32_1110100
    simp (maxSteps := 10000000) only [wW, reduceCtorEq, Nat.reduceEqDiff, t41, t42]
    have hol := pickO_len bits (d := d) hll j hj
    have hmj := rj.mt.n
    have uj : Ints s' u bits := ou0.sl (Nat.le_refl _) rj.mt iu0
    by_cases hlt : j < bits.length
    · rw [if_pos (by omega)]
      have hpw : 2 ^ (bits.length - j) = 2 * 2 ^ (bits.length - (j + 1)) := by rw [show bits.length - j = bits.length - (j + 1) + 1 by omega, Nat.pow_succ]; omega
      have hpos : 0 < 2 ^ (bits.length - (j + 1)) := Nat.pow_pos (by decide)
      have hle8 : 2 ^ (bits.length - j) ≤ 2 ^ 8 := Nat.pow_le_pow_right (by decide) (by omega)
      have hle8' : (2 : Nat) ^ 8 = 256 := rfl
      have hst : pickO bits (d, l) (j + 1) = pickI (at0 bits j) (pickO bits (d, l) j).2 (pickO bits (d, l) j).1 ((pickO bits (d, l) j).2.length / 2) := rfl
      generalize pickO bits (d, l) j = c at rj pj hol hst
      obtain ⟨dc, lc⟩ := c
      simp only at rj pj hol hst
      have hbi : bits[j]? = some (at0 bits j) := by
        have h := at0_get (l := bits) (i := ((j : Nat) : Int)) (by omega) (by omega)
        rwa [Int.toNat_natCast] at h
      obtain ⟨Au, ou', cu, u1, u2, u3⟩ := uj.at1 (i := ((j : Nat) : Int)) (x := at0 bits j) (by omega) (by rw [Int.toNat_natCast]; exact hbi)
      simp (maxSteps := 10000000) only [wW, reduceCtorEq, Nat.reduceEqDiff, wL, Nat.reduceAdd, t40, u1, u2, u3]
      have hAo := rj.liv.hA
      have hBl := rj.liv.lt
      refine alloc_rule ty_3 rj.liv.wf fun T sa ma => ?_
      have hsa := hj'.made ma hBl (fun C e => (hAo C e).2.2) hmj
      have ra := rj.grew ma.grew
      have na := ma.n
      have ea := ma.eq
      have pa : Prs .i64 sa (τ 2) lc := Sl.grew pj ma.grew.same
      have lTa : Lc sa B oA' T (.cells [.int .i64 0] 3 false) := ⟨ma.here, by omega, fun e => by have := (hAo T e).2.2; omega⟩
      refine store1_rule isz_3 lTa.here ra.liv.wf (by omega) (by decide) rfl fun sb pb => ?_
      have nb := pb.n
      have rb := ra.put pb (by omega) lTa.own
      have hba : Hs s0.n B oA' sa ((T, .cells [.int .i64 0] 3 false) :: (((X, .cells [ptr B] 25 false) :: (R, .cells oR 47 false) :: w) ++ Ds.map fun D => (D, .defd (some [])))) := hsa.perm List.perm_append_comm
      have hsb := hba.put (i := 0) rfl pb
      have hbb : Hs s0.n B oA' sb ((T, .cells [.int .i64 (at0 bits j)] 3 false) :: (((X, .cells [ptr B] 25 false) :: (R, .cells oR 47 false) :: w) ++ Ds.map fun D => (D, .defd (some [])))) := hsb
      have pb' : Prs .i64 sb (τ 2) lc := oj.slPut (by omega) pb pa
      refine alloc_rule ty_46 rb.liv.wf fun H sc mc => ?_
      have ec := mc.eq
      have nc := mc.n
      have rc := rb.grew mc.grew
      have hsc := (hbb.made mc rb.liv.lt (fun C e => (rb.liv.hA C e).2.2) (by omega)).perm List.perm_append_comm
      have pc : Prs .i64 sc (τ 2) lc := Sl.grew pb' mc.grew.same
      refine wChunkP0 rc.liv.wf pc.cells fun C N sd gd hC hN hCN cC cN => ?_
      have nd := gd.n
      have rd := rc.grew gd
      have fC := rc.fresh hC
      have fN := rc.fresh hN
      have hltc := fun x hx => hsc.lt (x := x) hx
      have hsd1 := (hsc.grew gd).add (A := C) ⟨cC, fC.1, fC.2⟩ (by omega) fun x hx => by have := hltc x hx; omega
      have hsd2 := hsd1.add (A := N) ⟨cN, fN.1, fN.2⟩ (by omega) fun x hx => by
        rcases List.mem_append.1 hx with hx | hx
        · have := hltc x hx; omega
        · simp only [List.mem_cons, List.not_mem_nil, or_false] at hx
          subst hx
          exact hCN
      have hsd : Hs s0.n B oA' sd ((T, .cells [.int .i64 (at0 bits j)] 3 false) :: (H, .cells [.slice none 0 0] 46 false) :: (C, .cells [τ 2] 46 false) :: (N, .cells [.int .i64 2] 3 false) :: (X, .cells [ptr B] 25 false) :: ((R, .cells oR 47 false) :: (w ++ Ds.map fun D => (D, .defd (some []))))) := hsd2.perm (by
        simp only [List.cons_append, List.nil_append]
        refine List.Perm.trans (List.Perm.swap _ _ _) (List.Perm.cons _ (List.Perm.cons _ ?_))
        refine List.Perm.trans (List.Perm.of_eq ?_) (List.perm_append_comm (l₁ := (X, .cells [ptr B] 25 false) :: (R, .cells oR 47 false) :: (w ++ Ds.map fun D => (D, .defd (some [])))) (l₂ := [(C, .cells [τ 2] 46 false), (N, .cells [.int .i64 2] 3 false)]))
        simp)
      have pd : Prs .i64 sd (τ 2) lc := Sl.grew pc gd.same
      refine pickRange (n1 := s'.n) rd hsd (by omega) ⟨by omega, by omega⟩ pd oj (by omega) (by omega) (by omega) ?_ ?_ ?_ fun se oE v oH re hse ove hfe hne => ?_
      · simp only [U, tset_eq, wW, reduceCtorEq, Nat.reduceEqDiff, t3]
      · simp only [U, tset_eq, wW, reduceCtorEq, Nat.reduceEqDiff]
      · simp only [U, tset_eq, wW, reduceCtorEq, Nat.reduceEqDiff]
      have lH := hse.lc (i := 0) rfl
      rw [← hst] at re ove
      simp (maxSteps := 10000000) only [U, tset_eq, wW, reduceCtorEq, Nat.reduceEqDiff, wL, Nat.reduceAdd, t42, load1 ap_46, acells_some lH.here, List.getElem?_cons_zero]
      rw [wrap_i64 (by omega) (by omega)]
      have hlen' : (pickO bits (d, l) (j + 1)).2.length = lc.length / 2 := by rw [hst, pickI_len]
      refine ⟨j + 1, by omega, by omega, ?_, ?_, ?_, ?_, ?_, sd.n :: Ds, oE, rfl, re, ?_, ?_, ?_⟩
      · simp only [U, tset_eq, wW, reduceCtorEq, Nat.reduceEqDiff, t3]
      · simp only [U, tset_eq, wW, reduceCtorEq, Nat.reduceEqDiff, t6]
      · simp only [U, tset_eq, wW, reduceCtorEq, Nat.reduceEqDiff, t40]
      · simp only [U, tset_eq, wW, reduceCtorEq, Nat.reduceEqDiff, t41]
      · rfl
      · refine (hse.sub (List.sublist_cons_self _ _)).perm ?_
        show List.Perm ((sd.n, AO.defd (some [])) :: (((X, _) :: (R, _) :: w) ++ Ds.map fun D => (D, AO.defd (some [])))) _
        exact List.perm_middle.symm
      · unfold Prs
        rw [hlen']
        exact ove.sl
      · exact ove.offs (fun C' e => ⟨by have := (hfe C' e).1; omega, (hfe C' e).2⟩) (Nat.le_refl _)
    · obtain rfl : j = bits.length := by omega
      rw [if_neg (by omega)]
      rw [Nat.sub_self, Nat.pow_zero] at hol
      have hE : pickO bits (d, l) bits.length = pickE d bits l := rfl
      rw [hE] at rj pj hol
      generalize pickE d bits l = c at rj pj hol hk ⊢
      obtain ⟨dc, lc⟩ := c
      simp only at rj pj hol hk
      have xl := hj'.lc (i := 0) rfl
      have rl := hj'.lc (i := 1) rfl
      obtain ⟨x, rfl⟩ := List.length_eq_one_iff.1 hol
      obtain ⟨A5, o5, c5, z1, z2, _, z3, z4⟩ := pj.at se_46 isz_47 (i := 0) (p := x) rfl
      have e0 : ((0 : Nat) : Int) = 0 := rfl
      rw [e0] at z1
      have hi2 : ∀ z : Int, veq (.int .i64 z) (.int .i64 z) = true := fun z => by simp [veq]
      have hpv : veq (ptr B) (ptr B) = true := by simp [veq]
      simp (maxSteps := 10000000) only [U, tset_eq, wW, reduceCtorEq, Nat.reduceEqDiff, wL, Nat.reduceAdd, t3, t6, load1 ap_25, acells_some xl.here, List.getElem?_cons_zero, z1, z2, z3, z4, ip2a, ip2b, hi2, hpv, true_and]
      rw [lPair rj.liv]
      refine storeAll_rule isz_47 rl.here (l := p2c (mPair dc x.1 x.2)) rfl (by decide) rj.liv.wf (by have := hj'.ge (i := 1) rfl; omega) hoR rfl fun sf pf => ?_
      have hf := hj'.put (i := 1) rfl pf
      refine hk _ _ sf oA' A1 A2 A3 s.n Ds w (rj.put pf (hj'.ge (i := 1) rfl) rl.own) hf hwho ?_
      simp only [U, tset_eq, wW, reduceCtorEq, Nat.reduceEqDiff, t6]
  · simp only [U, tset_eq, wW, reduceCtorEq, Nat.reduceEqDiff, t3]
  · simp only [U, tset_eq, wW, reduceCtorEq, Nat.reduceEqDiff, t6]
  · simp only [U, tset_eq, wW, reduceCtorEq, Nat.reduceEqDiff]
  · simp only [U, tset_eq, wW, reduceCtorEq, Nat.reduceEqDiff]
  · simp only [U, tset_eq, wW, reduceCtorEq, Nat.reduceEqDiff]; rfl
  · simp only [U, tset_eq, wW, reduceCtorEq, Nat.reduceEqDiff, t2]
    exact ip6
  · simp only [U, tset_eq, wW, reduceCtorEq, Nat.reduceEqDiff, t2]
    exact fun A o sp k c e => ⟨by have := (op6 A o sp k c e).1; omega, (op6 A o sp k c e).2⟩
end
end Go.VE
/- A builder that lives: Pick, the method. -/
namespace Go.VE
open Go Go.Proofs
set_option maxRecDepth 20000
def okI9 (o : Option Value) (z : Int) : Bool := match o with
  | some (.int .i64 y) => y == z
  | _ => false
theorem okI9_spec {o : Option Value} {z : Int} (h : okI9 o z = true) : o = some (.int .i64 z) := by
  unfold okI9 at h
  split at h
  · rw [eq_of_beq h]
  · cases h
theorem shl9 {n : Nat} (hn : n ≤ 8) : abinInt P .shl .i64 1 .i64 n = some (.int .i64 ((2 ^ n : Nat) : Int)) := by
  have h : ∀ m : Fin 9, okI9 (abinInt P .shl .i64 1 .i64 (m.val : Int)) ((2 ^ m.val : Nat) : Int) = true := by decide +kernel
  exact okI9_spec (h ⟨n, by omega⟩)
section
variable {ro : Nat} {s : St} {B : Nat} {oA : Option Nat} {d : Bd} {K : Value → St → Prop}
theorem lPick (h : Liv ro s B oA d) {u pv : Value} {bits : List Int} {l : List (Int × Int)} (hu : Ints s u bits) (hp : Prs .i64 s pv l) (hlu : bits.length < 2 ^ 60) (hlp : l.length < 2 ^ 60) (ou : OffS B oA s.n u) (op : OffS B oA s.n pv)
    (hk : ∀ s' oA', Liv ro s' B oA' (mPick d bits l).1 → Mut s B oA s' oA' → K (.agg (.mk (p2c (mPick d bits l).2))) s') :
    CallWP P ro 32 [ptr B, u, pv] s K := by
  refine call_wp b32 rfl ?_
  rw [n32]
  unfold v32
  simp (maxSteps := 10000000) only [wW, reduceCtorEq, Nat.reduceEqDiff]
  have r0 := Run1.start h
  have hro := h.ron
  have hn0 : (Go.VE.ent s).n = s.n := rfl
  refine box_rule h.wf.ent fun X s1 m1 => ?_
  obtain ⟨r1, x1, eX, n1⟩ := r0.made m1
  have x1' : Lc s1 B oA X (.cells [ptr B] 25 false) := x1
  refine alloc_rule ty_47 m1.wf fun R s2 m2 => ?_
  obtain ⟨r2, rr2, eR, n2⟩ := r1.made m2
  have x2 := x1'.grew m2.grew
  have iu2 : Ints s2 u bits := ((Sl.ent hu).grew m1.grew.same).grew m2.grew.same
  have ip2 : Prs .i64 s2 pv l := ((Sl.ent hp).grew m1.grew.same).grew m2.grew.same
  have rr2' : Lc s2 B oA R (.cells [.int .i64 0, .int .i64 0] 47 false) := rr2
  have hk' := hk
  unfold mPick at hk'
  have fail : ∀ {s5 : St}, Liv ro s5 B oA (mready d (pickC d bits l && nums d [])).1 → Mut s2 B oA s5 oA → (mready d (pickC d bits l && nums d [])).2 = false →
      wop P ro (.store 47 (.const (ptr R)) (.const (.agg (.mk (p2c (-1, -1)))))) 0 s5 fun _ s9 => wop P ro (.load 47 (.const (ptr R))) 47 s9 fun v _ => wfin s K v s9 := fun {s5} l5 m5 hr => by
    rw [if_neg (by rw [hr]; decide)] at hk'
    have r5 := r2.call l5 m5
    have rr5 := rr2'.mut m5
    refine storeAll_rule isz_47 rr5.here (l := p2c (-1, -1)) rfl (by decide) r5.liv.wf (by omega) rfl rfl fun s6 p6 => ?_
    obtain ⟨r6, rr6⟩ := r5.putL rr5 (by omega) p6
    refine load_rule (load_all ap_47 rr6.here rfl) ?_
    exact fin_mut h r6.liv r6.mt rfl fun s' h' m' => hk' s' oA h' m'
  have hfalse : pickC d bits l = false → (mready d (pickC d bits l && nums d [])).2 = false := fun e => by rw [e]; exact mready_false _ _
  have hpv : veq (ptr B) (ptr B) = true := by simp [veq]
  refine load_rule (load_one ap_25 x2.here rfl) ⟨hpv, ?_⟩
  rw [iu2.wlen se_30]
  simp (maxSteps := 10000000) only [wW, reduceCtorEq, Nat.reduceEqDiff]
  by_cases h8 : bits.length ≤ 8
  · rw [if_pos (by omega), ip2.wlen se_46, iu2.wlen se_30, min_i64]
    have hmn : (if (8 : Int) < (bits.length : Int) then (8 : Int) else (bits.length : Int)) = ((bits.length : Nat) : Int) := if_neg (by omega)
    rw [hmn]
    simp (maxSteps := 10000000) only [wW, reduceCtorEq, Nat.reduceEqDiff]
    rw [shl9 h8, wopt_some]
    simp (maxSteps := 10000000) only [wW, reduceCtorEq, Nat.reduceEqDiff]
    by_cases hl : l.length = 2 ^ bits.length
    · rw [if_pos (by omega), wop_load, load1 ap_25, acells_some x2.here, Option.bind_some, List.getElem?_cons_zero, wopt_some]
      refine ⟨hpv, ?_⟩
      rw [lKnown r2.liv iu2 (by omega)]
      refine ⟨.refl _, ?_⟩
      cases h1 : kn d bits with
      | false =>
        have hC : pickC d bits l = false := by unfold pickC; rw [h1, Bool.false_and, Bool.and_false, Bool.and_false]
        simp (maxSteps := 10000000) only [wW, reduceCtorEq, Nat.reduceEqDiff]
        refine lReady' r2.liv _ (U64s.nil _) (show 0 < 2 ^ 62 by decide) fun s5 h5 m5 => ?_
        have hf := hfalse hC
        have f2 := @fail s5
        rw [hC] at hf f2
        rw [hf, build2w]
        simp (maxSteps := 10000000) only [wW, reduceCtorEq, Nat.reduceEqDiff]
        exact f2 h5 m5 hf
      | true =>
        simp (maxSteps := 10000000) only [wW, reduceCtorEq, Nat.reduceEqDiff]
        rw [wop_load, load1 ap_25, acells_some x2.here, Option.bind_some, List.getElem?_cons_zero, wopt_some]
        refine ⟨hpv, ?_⟩
        rw [lPairs r2.liv ip2 hlp]
        refine ⟨.refl _, ?_⟩
        have hC : l.all (isPr d) = pickC d bits l := by
          unfold pickC
          rw [h1, decide_eq_true h8, Nat.min_eq_left h8, decide_eq_true hl, Bool.true_and, Bool.true_and, Bool.true_and]
        rw [hC]
        refine lReady' r2.liv _ (U64s.nil _) (show 0 < 2 ^ 62 by decide) fun s5 h5 m5 => ?_
        by_cases hr : (mready d (pickC d bits l && nums d [])).2 = true
        · rw [if_pos hr] at hk'
          obtain ⟨q1, he, hcc⟩ := mready_true hr
          rw [hr]
          rw [q1] at h5
          have r5 := r2.call h5 m5
          have x5 := x2.mut m5
          have rr5 := rr2'.mut m5
          have n5 := r5.mt.n
          simp (maxSteps := 10000000) only [wW, reduceCtorEq, Nat.reduceEqDiff]
          have hs5 : Hs (Go.VE.ent s).n B oA s5 [(X, .cells [ptr B] 25 false), (R, .cells [.int .i64 0, .int .i64 0] 47 false)] :=
            (Hs.nil.add x5 (by omega) fun x hx => (by cases hx)).add rr5 (by omega) fun x hx => by
              simp only [List.nil_append, List.mem_cons, List.not_mem_nil, or_false] at hx
              subst hx
              show X ≠ R
              omega
          refine pickTail r5 hs5 rfl (Sl.ent hu) (op.sl (by omega) m5 ip2) ou (fun A o sp k c e => ⟨by have := (op A o sp k c e).1; omega, (op A o sp k c e).2⟩) h8 hl ?_ ?_ ?_ ?_ fun τ' al s' oA' A1 A2 A3 n0 Ds w r6 hs6 w6 hU => ?_
          · simp only [U, tset_eq, wW, reduceCtorEq, Nat.reduceEqDiff]
          · simp only [U, tset_eq, wW, reduceCtorEq, Nat.reduceEqDiff]
          · simp only [U, tset_eq, wW, reduceCtorEq, Nat.reduceEqDiff]
          · simp only [U, tset_eq, wW, reduceCtorEq, Nat.reduceEqDiff]
          rw [xleave_U, r32]
          rw [xdefers_eq]
          simp only [pr_wop, pr_fin]
          refine wcollect (Nat.le_refl _) Ds r6 hs6 fun s7 r7 hs7 => ?_
          have hw7 := w6 s7 oA' (hs7.sub ((List.sublist_cons_self _ _).trans (List.sublist_cons_self _ _)))
          have rr7 := hs7.lc (i := 1) rfl
          refine lUndo r7.liv hw7 (pickO_le bits (d, l) bits.length).rows h.ok.nv fun s8 h8' m8 => ?_
          rw [hU]
          refine load_rule (load_all ap_47 (rr7.mut m8).here rfl) ?_
          exact fin_mut h h8' (r7.mt.trans m8) rfl fun s' h' m' => hk' s' _ h' m'
        · have hr' : (mready d (pickC d bits l && nums d [])).2 = false := by simpa using hr
          rw [hr', build2w]
          simp (maxSteps := 10000000) only [wW, reduceCtorEq, Nat.reduceEqDiff]
          exact fail h5 m5 hr'
    · have hC : pickC d bits l = false := by unfold pickC; rw [Nat.min_eq_left h8, decide_eq_false hl, Bool.false_and, Bool.and_false]
      rw [if_neg (by omega)]
      refine lReady' r2.liv _ (U64s.nil _) (show 0 < 2 ^ 62 by decide) fun s5 h5 m5 => ?_
      have hf := hfalse hC
      have f2 := @fail s5
      rw [hC] at hf f2
      rw [hf, build2w]
      simp (maxSteps := 10000000) only [wW, reduceCtorEq, Nat.reduceEqDiff]
      exact f2 h5 m5 hf
  · have hC : pickC d bits l = false := by unfold pickC; rw [decide_eq_false h8, Bool.false_and]
    rw [if_neg (by omega)]
    refine lReady' r2.liv _ (U64s.nil _) (show 0 < 2 ^ 62 by decide) fun s5 h5 m5 => ?_
    have hf := hfalse hC
    have f2 := @fail s5
    rw [hC] at hf f2
    rw [hf, build2w]
    simp (maxSteps := 10000000) only [wW, reduceCtorEq, Nat.reduceEqDiff]
    exact f2 h5 m5 hf
end
end Go.VE
/- CircuitBits: what the law's function does, lists that grow. -/
namespace Go.VE
open Go Go.Proofs
set_option maxRecDepth 20000
theorem shr8 {k : Int} {i : Nat} (hk : 0 ≤ k ∧ k < 8) (hi : i < 4) : abinInt P .shr .i64 k .u64 i = some (.int .i64 (k / 2 ^ i)) := by
  obtain ⟨m, rfl⟩ := Int.eq_ofNat_of_zero_le hk.1
  have h : ∀ m : Fin 8, ∀ i : Fin 4, okInt (abinInt P .shr .i64 (m.val : Int) .u64 (i.val : Int)) ((m.val : Int) / 2 ^ i.val) = true := by decide +kernel
  exact okInt_spec (h ⟨m, by omega⟩ ⟨i, hi⟩)
def bmax (a b : Int) : Int := if a < b then b else a
def bmin (a b : Int) : Int := if b < a then b else a
theorem bmax_lt {a b n : Int} (h1 : a < n) (h2 : b < n) : bmax a b < n := by unfold bmax; split <;> assumption
theorem bmin_ge {a b n : Int} (h1 : n ≤ a) (h2 : n ≤ b) : n ≤ bmin a b := by unfold bmin; split <;> assumption
theorem ei8 (X : Nat) {i : Nat} (h : i < 8) : aindexAddr P 70 (ptr X) (.int .i64 i) = some (.pointer (some ⟨X, 2 * i, none⟩)) := by
  rw [ixArr un_70 isz_42]
  unfold aplace
  rw [if_pos (by omega), Int.toNat_natCast, Nat.zero_add, Nat.mul_comm]
theorem eu0 (A o : Nat) : aindexAddr P 42 (.pointer (some ⟨A, o, none⟩)) (.int .i64 0) = some (.pointer (some ⟨A, o, none⟩)) := by kernel_rfl
theorem eu1 (A o : Nat) : aindexAddr P 42 (.pointer (some ⟨A, o, none⟩)) (.int .i64 1) = some (.pointer (some ⟨A, o + 1, none⟩)) := by kernel_rfl
section
variable {ro : Nat} {s : St} {K : Value → St → Prop}
theorem max4 (a b c d : Int) (ty : TypeId) (s : St) (K : Value → St → Prop) : wop P ro (.call ⟨.builtin .max, ⟨[.const (.int .i64 a), .const (.int .i64 b), .const (.int .i64 c), .const (.int .i64 d)]⟩, #[3, 3, 3, 3]⟩) ty s K =
    K (.int .i64 (bmax (bmax (bmax a b) c) d)) s := by kernel_rfl
theorem min4 (a b c d : Int) (ty : TypeId) (s : St) (K : Value → St → Prop) : wop P ro (.call ⟨.builtin .min, ⟨[.const (.int .i64 a), .const (.int .i64 b), .const (.int .i64 c), .const (.int .i64 d)]⟩, #[3, 3, 3, 3]⟩) ty s K =
    K (.int .i64 (bmin (bmin (bmin a b) c) d)) s := by kernel_rfl
theorem append_full {t u e : TypeId} {sz bytes n m : Nat} {z : Value} {cs new : List Value} {A o : Nat} {s : St} {x : Value} (hse : sliceElem P t = some e) (hni : notInt P u = true) (hty : tyOk P e sz bytes z = true) (hsz : 0 < sz) (hby : 0 < bytes) (hv : Sl s (.slice (some ⟨A, o, none⟩) n n) sz n cs) (hx : Sl s x sz m new) (hm : 0 < m) (hw : Wf s)
    (hlim : (2 * (n + m) + 1000) * bytes ≤ 2 ^ 47) (hn : 0 < n) {ty : TypeId} {K : Value → St → Prop}
    (hk : ∀ v' s', Own s' v' e sz (n + m) (cs ++ new) (some s.n) → Grew s s' → s'.n = s.n + 1 → K v' s') : wop P ro (.call ⟨.builtin .append, ⟨[.const (.slice (some ⟨A, o, none⟩) n n), .const x]⟩, #[t, u]⟩) ty s K := by
  obtain ⟨i, hi, his, hib, hz, hf, hzs⟩ := tyOk_spec hty
  obtain ⟨ha, hfst⟩ := hx.first
  have hnl : new.length = m * sz := hx.len
  have hcl : cs.length = n * sz := hv.len
  have hfo := hv.first.2
  rw [wop_append]
  have e1 : aappend P ro s #[t, u] [.slice (some ⟨A, o, none⟩) n n, x] = some (.slice (some ⟨s.n, 0, some 0⟩) (n + m) (n + m), s.new (.cells (cs ++ new) e true)) := by
    simp only [aappend, hse, hni, hi, ha, his, hfst, Option.bind_some, aappendTo]
    rw [if_neg (by omega), if_neg (by rw [hib]; omega)]
    simp only [hz, his, hfo, hzs, hf, and_self, if_true, agrow]
  rw [e1]
  exact hk _ _ ⟨rfl, at_newest _ _, by rw [List.length_append, hcl, hnl, Nat.add_mul], by omega⟩ (.new _ _) rfl
structure BtA (s0 s : St) (X : Nat) (oX : AO) (v1 v3 : Value) (n1 n3 : Nat) (c1 c3 : List Value) (o1 o3 : Option Nat) : Prop where
  l1 : Sl s v1 1 n1 c1
  k1 : Own s v1 24 1 n1 c1 o1 ∨ (o1 = none ∧ 0 < n1 ∧ ∃ A o, v1 = .slice (some ⟨A, o, none⟩) n1 n1)
  b1 : ∀ A o sp k c, v1 = .slice (some ⟨A, o, sp⟩) k c → s0.n ≤ A ∧ A < s.n ∧ A ≠ X ∧ o3 ≠ some A
  f1 : ∀ A, o1 = some A → s0.n ≤ A ∧ A < s.n ∧ A ≠ X ∧ o3 ≠ some A
  a3 : Ac 47 2 s0 s v3 n3 c3 o3
  x : s.at X = some oX
  x3 : o3 ≠ some X
theorem BtA.push3 {s0 : St} {X : Nat} {oX : AO} {v1 v3 : Value} {n1 n3 : Nat} {c1 c3 : List Value} {o1 o3 : Option Nat} (h : BtA s0 s X oX v1 v3 n1 n3 c1 c3 o1 o3) {v : Value} {n : Nat} {c : List Value} {A : Nat} {s2 : St} (a : Ac 47 2 s0 s2 v n c (some A)) (hA : s.n ≤ A) (rest : ∀ C, C < s.n → o3 ≠ some C → s2.at C = s.at C) (hn : s.n ≤ s2.n) : BtA s0 s2 X oX v1 v n1 n c1 c o1 (some A) := by
  have hxl := St.at_lt h.x
  refine ⟨h.l1.sameAt fun C o sp k c e => rest C (h.b1 C o sp k c e).2.1 (h.b1 C o sp k c e).2.2.2, ?_, fun C o sp k c e => ?_, fun C e => ?_, a, (rest X hxl h.x3).trans h.x, fun e => by cases e; omega⟩
  · rcases h.k1 with k | k
    · exact .inl (k.same fun C e => rest C (h.f1 C e).2.1 (h.f1 C e).2.2.2)
    · exact .inr k
  · obtain ⟨a, b, c, d⟩ := h.b1 C o sp k c e
    exact ⟨a, by omega, c, fun e => by cases e; omega⟩
  · obtain ⟨a, b, c, d⟩ := h.f1 C e
    exact ⟨a, by omega, c, fun e => by cases e; omega⟩
theorem BtA.push1 {s0 : St} {X : Nat} {oX : AO} {v1 v3 : Value} {n1 n3 : Nat} {c1 c3 : List Value} {o1 o3 : Option Nat} (h : BtA s0 s X oX v1 v3 n1 n3 c1 c3 o1 o3) (hw0 : Wf s0) (hro : ro ≤ s0.n) (x y : Int) (hlim : (2 * (n1 + 2) + 1000) * 8 ≤ 2 ^ 47) {ty ty' : TypeId} {K : Value → Value → St → Prop}
    (hk : ∀ w v A s2, BtA s0 s2 X oX v v3 (n1 + 2) n3 (c1 ++ [.int .u64 x, .int .u64 y]) c3 (some A) o3 → K w v s2) :
    wop P ro (.buildSlice 23 2 ⟨[(0, .const (.int .u64 x)), (1, .const (.int .u64 y))]⟩) ty s fun w s1 => FreshOk s s1 ∧ wop P ro (.call ⟨.builtin .append, ⟨[.const v1, .const w]⟩, #[23, 23]⟩) ty' s1 (fun v s2 => s1.n ≤ s2.n ∧ K w v s2) := by
  have hxl := St.at_lt h.x
  have hgn := h.a3.grew.n
  refine buildSlice_rule se_23 ty_24 h.a3.wf [.int .u64 x, .int .u64 y] rfl rfl (by decide) (by simp [Value.cells]) fun Z s1 m1 => ?_
  have n1' := m1.n
  have eZ := m1.eq
  refine ⟨m1.fresh (by simp [veqL, veq, Value.cells]), ?_⟩
  have hx : Sl s1 (.slice (some ⟨Z, 0, none⟩) 2 2) 1 2 [.int .u64 x, .int .u64 y] := m1.sl (n := 2) rfl
  have fin : ∀ v' s', Own s' v' 24 1 (n1 + 2) (c1 ++ [.int .u64 x, .int .u64 y]) (some s1.n) → s'.n = s1.n + 1 → Wf s' → Grew s0 s' → (∀ C, C < s1.n → o1 ≠ some C → s'.at C = s1.at C) → s1.n ≤ s'.n ∧ K (.slice (some ⟨Z, 0, none⟩) 2 2) v' s' := fun v' s' o' hn hw hg rest => by
    refine ⟨by omega, hk _ v' s1.n s' ⟨o'.sl, .inl o', fun C o sp k c e => ?_, fun C e => ?_, ⟨h.a3.own.same fun C e => ?_, h.a3.fresh, hw, hg⟩, (rest X (by omega) fun e => (h.f1 X e).2.2.1 rfl).trans ((m1.grew.same X hxl).trans h.x), h.x3⟩⟩
    · obtain ⟨e2, _⟩ := o'
      rw [e2] at e
      cases e
      exact ⟨by omega, by omega, by omega, fun e => by subst e; have := h.a3.lt; omega⟩
    · cases e
      exact ⟨by omega, by omega, by omega, fun e => by subst e; have := h.a3.lt; omega⟩
    · subst e
      have hlt := h.a3.lt
      exact (rest C (by omega) fun e => (h.f1 C e).2.2.2 rfl).trans (m1.grew.same C hlt)
  rcases h.k1 with k | ⟨rfl, hn1, A, o, rfl⟩
  · refine append_rule se_23 (by kernel_rfl) ty_24 (by decide) (by decide) (k.grew m1.grew) hx (by decide) m1.wf (fun C e => by have := (h.f1 C e).1; omega) hlim rfl fun v' s' o' a' => ?_
    exact fin v' s' o' a'.n a'.wf (a'.grew _ hw0 (h.a3.grew.trans m1.grew) fun C e => (h.f1 C e).1) a'.rest
  · refine append_full se_23 (by kernel_rfl) ty_24 (by decide) (by decide) (Sl.grew h.l1 m1.grew.same) hx (by decide) m1.wf hlim hn1 fun v' s' o' g' hn' => ?_
    exact fin v' s' o' hn' (m1.wf.grew g') (h.a3.grew.trans (m1.grew.trans g')) fun C hC _ => g'.same C hC
end
end Go.VE
/- CircuitBits: what the law's function does. -/
namespace Go.VE
open Go Go.Proofs
set_option maxRecDepth 20000
def btIn (k odd : Int) (l : List (Int × Int)) : List Value := (btXs k odd l).map (.int .u64)
theorem btIn_snoc (k odd : Int) (l : List (Int × Int)) (q : Int × Int) : btIn k odd (l ++ [q]) = btIn k odd l ++ [.int .u64 (mod2 3 q).1, .int .u64 (mod2 3 q).2] := by
  unfold btIn btXs
  rw [show (l ++ [q]).map (mod2 3) = l.map (mod2 3) ++ [mod2 3 q] from List.map_append, flat2_append, ← List.append_assoc, List.map_append]; rfl
theorem btVars_take {i : Nat} (h : i < 8) : btVars.take (i + 1) = btVars.take i ++ [(4 + 2 * (i : Int), 5 + 2 * (i : Int))] := by
  match i, h with
  | 0, _ => rfl
  | 1, _ => rfl
  | 2, _ => rfl
  | 3, _ => rfl
  | 4, _ => rfl
  | 5, _ => rfl
  | 6, _ => rfl
  | 7, _ => rfl
section
variable {ro : Nat} {s : St} {K : Value → St → Prop}
theorem wBt {n x odd : Int} {l : List (Int × Int)} (hl : l.length = 8) (hl0 : ∀ q ∈ l, Nn2 q) (hn : 0 ≤ n ∧ n < 256) (hx : 0 ≤ x) (ho : 0 ≤ odd)
    (hw : Wf s) (hF : FieldsAt s) (hro : ro ≤ s.n) (hr0 : 0 < ro) : CallWP P ro 7 [.int .u8 n, .int .u64 x, .agg (.mk (prs .u64 l)), .int .u64 odd] s fun v _ => v = .bool true := by
  refine call_wp b7 rfl ?_
  rw [n7]
  unfold v7
  simp (maxSteps := 10000000) only [wW, reduceCtorEq, Nat.reduceEqDiff]
  refine box_rule hw.ent fun X s1 m1 => ?_
  have e1 := m1.eq
  have n1 := m1.n
  have hn0 : (ent s).n = s.n := rfl
  have hp3 : fP 3 = 998244353 := rfl
  rw [wrP, conv_u8_int, wrap_i64 (by omega) (by omega)]
  simp (maxSteps := 10000000) only [wW, reduceCtorEq, Nat.reduceEqDiff]
  rw [int_rem keq_i64 _ _ (by decide), wopt_some, tmod_nonneg hn.1]
  have hk : 0 ≤ n % 8 ∧ n % 8 < 8 := ⟨Int.emod_nonneg _ (by decide), Int.emod_lt_of_pos _ (by decide)⟩
  generalize n % 8 = k at hk ⊢
  have hkd : ∀ i : Nat, 0 ≤ k / 2 ^ i ∧ k / 2 ^ i < 16 := fun i => ⟨Int.ediv_nonneg hk.1 (Int.pow_nonneg (by decide)), by have := Int.ediv_le_self (2 ^ i) hk.1; omega⟩
  have e1' : (1 : Int) = ((1 : Nat) : Int) := rfl
  have e2' : (2 : Int) = ((2 : Nat) : Int) := rfl
  have hs1 : abinInt P .shr .i64 k .u64 1 = some (.int .i64 (k / 2 ^ 1)) := shr8 hk (i := 1) (by decide)
  have hs2 : abinInt P .shr .i64 k .u64 2 = some (.int .i64 (k / 2 ^ 2)) := shr8 hk (i := 2) (by decide)
  have hb : ∀ i : Nat, k / 2 ^ i % 2 = bitAt k i := fun _ => rfl
  have hb0 : k % 2 = bitAt k 0 := by unfold bitAt; rw [Int.pow_zero, Int.ediv_one]
  have hbr : ∀ i, IntKind.u64.wrap (bitAt k i) = bitAt k i := fun i => by
    rcases bitAt_two k i with e | e <;> rw [e] <;> rfl
  simp (maxSteps := 10000000) only [wW, reduceCtorEq, Nat.reduceEqDiff, and16 (show 0 ≤ k ∧ k < 16 by omega), wopt_some, conv_int_u64, hs1, hs2, and16 (hkd 1), and16 (hkd 2), hb, hb0, hbr]
  rw [int_rem keq_u64 _ _ (by rw [hp3]; decide), wopt_some, tmod_nonneg ho]
  refine buildSlice_rule se_23 ty_24 m1.wf [.int .u64 (bitAt k 0), .int .u64 (bitAt k 1), .int .u64 (bitAt k 2), .int .u64 (odd % fP 3)] rfl rfl (by decide) (by simp [Value.cells]) fun Z s2 m2 => ?_
  have eZ := m2.eq
  have nZ := m2.n
  have hX1 : s2.at X = some (.cells (prs .u64 l) 70 false) := (m2.grew.same X (by omega)).trans m1.here
  have hl1 : Sl s2 (.slice (some ⟨Z, 0, none⟩) 4 4) 1 4 [.int .u64 (bitAt k 0), .int .u64 (bitAt k 1), .int .u64 (bitAt k 2), .int .u64 (odd % fP 3)] := m2.sl (n := 4) rfl
  have hi : ∀ z : Int, veq (.int .u64 z) (.int .u64 z) = true := fun z => by simp [veq]
  refine wloop l7_111110100 m7_111110100 (fun (i : Nat) τ ds s' => i ≤ 8 ∧ τ 1 = .int .u64 x ∧ τ 3 = .int .u64 odd ∧ τ 6 = ptr X ∧ τ 9 = .int .u64 (fP 3) ∧ τ 10 = .int .i64 k ∧ τ 13 = .int .i64 i ∧ ds = [] ∧ ∃ o1 o3, BtA (ent s) s' X (.cells (prs .u64 l) 70 false) (τ 11) (τ 12) (4 + 2 * i) i (btIn k odd (l.take i)) (prs .i64 (btVars.take i)) o1 o3) (fun i => 8 - i) ?_ 0 ⟨by omega, ?_, ?_, ?_, ?_, ?_, ?_, rfl, none, none, ?_⟩
  · rintro i τ ds s' ⟨hi8, t1, t3, t6, t9, t10, t13, rfl, o1, o3, hA⟩
    rw [n7_111110100]
    unfold v7_111110100
    simp (maxSteps := 10000000) only [wW, reduceCtorEq, Nat.reduceEqDiff, t13]
    by_cases hlt : i < 8
    · rw [if_pos (by omega)]
      have hq : l[i]? = some (l.getD i (0, 0)) := by rw [List.getD_eq_getElem?_getD, List.getElem?_eq_getElem (by omega)]; rfl
      have hqn : Nn2 (l.getD i (0, 0)) := hl0 _ (List.mem_of_getElem? hq)
      have hts := take_succ_eq hq
      have g0 := prs_get .u64 l hq (j := 0) (by decide)
      have g1 := prs_get .u64 l hq (j := 1) (by decide)
      generalize l.getD i (0, 0) = q at hq hqn hts g0 g1
      rw [Nat.add_zero, Nat.mul_comm i 2, prc_0] at g0
      rw [Nat.mul_comm i 2, prc_1] at g1
      rw [wrap_i64 (n := 2 * (i : Int)) (by omega) (by omega), wrap_i64 (n := 4 + 2 * (i : Int)) (by omega) (by omega), wrap_i64 (n := 5 + 2 * (i : Int)) (by omega) (by omega), build2w, wopt_some]
      have hgn := hA.a3.grew.n
      refine hA.a3.push se_46 (by kernel_rfl) ty_47 (by decide) (by decide) (by decide) hw.ent hro (x := .agg (.mk (p2c (4 + 2 * (i : Int), 5 + 2 * (i : Int))))) rfl rfl rfl (by omega) fun y1 y2 A3 s3 a3 hA3 rest => ?_
      have hB := hA.push3 a3 hA3 rest (by have := a3.lt; omega)
      clear hA
      have hXc := acells_some hB.x
      simp (maxSteps := 10000000) only [wW, reduceCtorEq, Nat.reduceEqDiff, wL, Nat.reduceAdd, t6, t9, ei8 X hlt, eu0, eu1, hXc, g0, g1, hi, true_and]
      rw [int_rem keq_u64 _ _ (by rw [hp3]; decide), wopt_some, tmod_nonneg hqn.1]
      rw [int_rem keq_u64 _ _ (by rw [hp3]; decide), wopt_some, tmod_nonneg hqn.2]
      refine hB.push1 hw.ent hro _ _ (by omega) fun u1 u2 A1 s4 hC => ?_
      rw [wrap_i64 (by omega) (by omega)]
      refine ⟨i + 1, by omega, by omega, ?_, ?_, ?_, ?_, ?_, ?_, some A1, some A3, ?_⟩
      · simp only [U, tset_eq, wW, reduceCtorEq, Nat.reduceEqDiff, t1]
      · simp only [U, tset_eq, wW, reduceCtorEq, Nat.reduceEqDiff, t3]
      · simp only [U, tset_eq, wW, reduceCtorEq, Nat.reduceEqDiff, t6]
      · simp only [U, tset_eq, wW, reduceCtorEq, Nat.reduceEqDiff, t9]
      · simp only [U, tset_eq, wW, reduceCtorEq, Nat.reduceEqDiff, t10]
      · simp only [U, tset_eq, wW, reduceCtorEq, Nat.reduceEqDiff]; rfl
      · have ec1 : btIn k odd (l.take (i + 1)) = btIn k odd (l.take i) ++ [.int .u64 (mod2 3 q).1, .int .u64 (mod2 3 q).2] := by rw [hts, btIn_snoc]
        have ec3 : prs .i64 (btVars.take (i + 1)) = prs .i64 (btVars.take i) ++ p2c (4 + 2 * (i : Int), 5 + 2 * (i : Int)) := by rw [btVars_take hlt, prs_append]; rfl
        rw [ec1, ec3, show 4 + 2 * (i + 1) = 4 + 2 * i + 2 by omega]
        simp only [U, tset_eq, wW, reduceCtorEq, Nat.reduceEqDiff]
        exact hC
    · obtain rfl : i = 8 := by omega
      rw [if_neg (by omega)]
      have htk : l.take 8 = l := List.take_of_length_le (by omega)
      have hbk : btVars.take 8 = btVars := rfl
      rw [htk, hbk] at hA
      have hgn := hA.a3.grew.n
      have hxl := St.at_lt hA.x
      have hIn : U64s s' (τ 11) (btXs k odd l) := by
        have e := hA.l1
        unfold U64s
        rw [btXs_len k odd hl]
        exact e
      have hVr : Prs .i64 s' (τ 12) btVars := by
        have e := hA.a3.own.sl
        exact e
      have off1 : OffS s'.n none s'.n (τ 11) := fun A o sp kk c e => ⟨(hA.b1 A o sp kk c e).2.1, by have := (hA.b1 A o sp kk c e).2.1; omega, fun e => by cases e⟩
      have off3 := hA.a3.offs
      have hF' : FieldsAt s' := FieldsAt.grew (s := ent s) hF hA.a3.grew
      have hwf := hA.a3.wf
      have hXc := hA.x
      clear hA hl1
      generalize h11 : τ 11 = iv at *
      generalize h12 : τ 12 = vv at *
      simp (maxSteps := 10000000) only [U, tset_eq, wW, reduceCtorEq, Nat.reduceEqDiff, h11, h12, t1, t3, t6, t9, t10, hIn.wlen se_23, btXs_len k odd hl]
      refine lNew 3 0 _ hwf hF' (by omega) hr0 (fun hb => absurd ⟨by decide, by decide, by decide, by decide⟩ hb) fun _ _ _ sa ga la => ?_
      rw [Int.zero_add] at la
      have e0 : (⟨3, ((20 : Nat) : Int), 0, ((20 : Nat) : Int), [], 0⟩ : Bd) = hsD0 3 20 := rfl
      rw [e0] at la
      simp (maxSteps := 10000000) only [wW, reduceCtorEq, Nat.reduceEqDiff, List.getElem?_cons_zero, List.getElem?_cons_succ]
      have gan := ga.n
      have hBl := la.lt
      refine buildSlice_rule se_30 ty_3 la.wf [.int .i64 0, .int .i64 1, .int .i64 2] rfl rfl (by decide) (by simp [Value.cells]) fun A1 sb mb => ?_
      have hI1 : Ints sb (.slice (some ⟨A1, 0, none⟩) 3 3) [0, 1, 2] := mb.sl rfl
      have lb := la.grew mb.grew
      have eb := mb.eq
      have nb := mb.n
      have g1 := ga.trans mb.grew
      have hIn1 : U64s sb iv (btXs k odd l) := Sl.grew hIn g1.same
      have hVr1 : Prs .i64 sb vv btVars := Sl.grew hVr g1.same
      have hX1' := (g1.same X hxl).trans hXc
      refine lPack lb hI1 (by decide) (fun A o sp kk c e => by cases e; exact ⟨by omega, by omega, fun e => by cases e⟩) fun sc oc lc mc => ?_
      have eY : mPack (hsD0 3 20) [0, 1, 2] = btY := rfl
      rw [eY] at lc ⊢
      have nc := mc.n
      have hIn2 := off1.sl (by omega) mc hIn1
      have hVr2 := off3.sl (by omega) mc hVr1
      have off1b := off1.mut (by omega) mc
      have off3b := off3.mut (by omega) mc
      have hX2 : sc.at X = _ := (mc.same X (by omega) (by omega) (fun e => by cases e)).trans hX1'
      have hoc : oc ≠ some X := mc.own_ne (by omega) (fun e => by cases e)
      refine buildSlice_rule se_30 ty_3 lc.wf [.int .i64 0, .int .i64 1, .int .i64 2] rfl rfl (by decide) (by simp [Value.cells]) fun A2 sd md => ?_
      have hI2 : Ints sd (.slice (some ⟨A2, 0, none⟩) 3 3) [0, 1, 2] := md.sl rfl
      have ld := lc.grew md.grew
      have ed := md.eq
      have nd := md.n
      rw [int_rem keq_u64 _ _ (by rw [hp3]; decide), wopt_some, tmod_nonneg hx]
      refine lPower ld hI2 (by decide) (fun A o sp kk c e => by cases e; exact ⟨by omega, by omega, fun e => by have := (lc.hA A2 e).2.2; omega⟩) (Int.emod_nonneg _ (by rw [hp3]; decide)) fun se oe le me => ?_
      have eZ' : mPower btY.1 [0, 1, 2] (x % fP 3) = btZ x := rfl
      rw [eZ'] at le ⊢
      have ne := me.n
      have hIn3 := off1b.sl (by omega) me (Sl.grew hIn2 md.grew.same)
      have hVr3 := off3b.sl (by omega) me (Sl.grew hVr2 md.grew.same)
      have off1c := off1b.mut (by omega) me
      have off3c := off3b.mut (by omega) me
      have hX3 : se.at X = _ := (me.same X (by omega) (by omega) hoc).trans ((md.grew.same X (by omega)).trans hX2)
      have hoe : oe ≠ some X := me.own_ne (by omega) hoc
      refine buildSlice_rule se_30 ty_3 le.wf [.int .i64 0, .int .i64 1, .int .i64 2] rfl rfl (by decide) (by simp [Value.cells]) fun A4 sf mf => ?_
      have hI3 : Ints sf (.slice (some ⟨A4, 0, none⟩) 3 3) [0, 1, 2] := mf.sl rfl
      have lf := le.grew mf.grew
      have ef := mf.eq
      have nf := mf.n
      refine lPick lf hI3 (Sl.grew hVr3 mf.grew.same) (by decide) (by decide) (fun A o sp kk c e => by cases e; exact ⟨by omega, by omega, fun e => by have := (le.hA A4 e).2.2; omega⟩) (fun A o sp kk c e => ⟨by have := (off3c A o sp kk c e).1; omega, (off3c A o sp kk c e).2⟩) fun sg og lg mg => ?_
      have eQ : mPick (btZ x).1 [0, 1, 2] btVars = btQ x := rfl
      rw [eQ] at lg ⊢
      have ng := mg.n
      have hIn4 := off1c.sl (by omega) mg (Sl.grew hIn3 mf.grew.same)
      have off1d := off1c.mut (by omega) mg
      have hX4 : sg.at X = _ := (mg.same X (by omega) (by omega) hoe).trans ((mf.grew.same X (by omega)).trans hX3)
      have hog : og ≠ some X := mg.own_ne (by omega) hoe
      obtain ⟨V, ok⟩ := bt_plain (x := x) (odd := odd) hk.1 hk.2 hl
      obtain ⟨osm, oy, oz, oq, ovy, ovz, c5, osm5, oc5⟩ := ok
      refine alloc_rule ty_47 lg.wf fun C sh mh => ?_
      obtain ⟨lh, hC, nC, nh⟩ := lg.made' mh
      refine storeAll_rule isz_47 hC.here (l := p2c (btQ x).2) rfl (by decide) lh.wf (by omega) rfl rfl fun si pi => ?_
      obtain ⟨li, hCi⟩ := lh.putL' hC (by omega) pi
      have ni := pi.n
      have keep : ∀ A, A < sg.n → si.at A = sg.at A := fun A hA => (pi.rest A (by omega)).trans (mh.grew.same A hA)
      have hIn5 : U64s si iv (btXs k odd l) := Sl.grew hIn4 keep
      have hX5 := (keep X (by omega)).trans hX4
      refine wValues li osm hIn5 fun wv sl b hb gl hvv => ?_
      obtain rfl : b = true := hb.2 trivial
      have gln := gl.n
      have hX6 := (gl.same X (St.at_lt hX5)).trans hX5
      have hC6 : sl.at C = some (.cells (p2c (btQ x).2) 47 false) := (gl.same C (St.at_lt pi.here)).trans pi.here
      have hIn6 : U64s sl iv (btXs k odd l) := Sl.grew hIn5 gl.same
      have ll := li.grew gl
      have g0 : (p2c (btQ x).2)[0]? = some (.int .i64 (btQ x).2.1) := rfl
      have g1 : (p2c (btQ x).2)[1]? = some (.int .i64 (btQ x).2.2) := rfl
      have hi2 : ∀ z : Int, veq (.int .i64 z) (.int .i64 z) = true := fun z => by simp [veq]
      have q1 := oq.r1
      have q2 := oq.r2
      have hv1 := oq.v1
      have hv2 := oq.v2
      have hmin : ¬ bmin (bmin (bmin btY.2 (btZ x).2) (btQ x).2.1) (btQ x).2.2 < 0 := by have := bmin_ge (bmin_ge (bmin_ge oy.1 oz.1) q1.1) q2.1; omega
      have hmax : ¬ bmax (bmax (bmax btY.2 (btZ x).2) (btQ x).2.1) (btQ x).2.2 ≥ (V.length : Int) := by have := bmax_lt (bmax_lt (bmax_lt oy.2 oz.2) q1.2) q2.2; omega
      simp (maxSteps := 10000000) only [wW, reduceCtorEq, Nat.reduceEqDiff, wL, Nat.reduceAdd, List.getElem?_cons_zero, List.getElem?_cons_succ, ip2_0', ip2_1', acells_some hC6, g0, g1, min4]
      rw [if_neg hmin]
      simp (maxSteps := 10000000) only [wW, reduceCtorEq, Nat.reduceEqDiff, wL, Nat.reduceAdd, ip2_0', ip2_1', acells_some hC6, g0, g1, max4, hvv.wlen se_23]
      rw [if_neg hmax]
      obtain ⟨A6, o6, c6, x1, x2, x3⟩ := hvv.at1 oy.1 (at0_get oy.1 oy.2)
      obtain ⟨A7, o7, c7, y1, y2, y3⟩ := hvv.at1 oz.1 (at0_get oz.1 oz.2)
      obtain ⟨A8, o8, c8, z1, z2, z3⟩ := hvv.at1 q1.1 (at0_get q1.1 q1.2)
      obtain ⟨A9, o9, c9, w1, w2, w3⟩ := hvv.at1 q2.1 (at0_get q2.1 q2.2)
      rw [ovy] at x3
      rw [ovz] at y3
      rw [hv1] at z3
      rw [hv2] at w3
      have hqk : l[k.toNat]? = some (l.getD k.toNat (0, 0)) := by rw [List.getD_eq_getElem?_getD, List.getElem?_eq_getElem (by omega)]; rfl
      have hqn : Nn2 (l.getD k.toNat (0, 0)) := hl0 _ (List.mem_of_getElem? hqk)
      have p0 := prs_get .u64 l hqk (j := 0) (by decide)
      have p1 := prs_get .u64 l hqk (j := 1) (by decide)
      rw [mod2_map_getD] at z3 w3
      generalize l.getD k.toNat (0, 0) = q at hqn p0 p1 z3 w3
      rw [Nat.add_zero, Nat.mul_comm _ 2, prc_0] at p0
      rw [Nat.mul_comm _ 2, prc_1] at p1
      have hke : ei8 X (i := k.toNat) (by omega) = ei8 X (i := k.toNat) (by omega) := rfl
      have hkx : aindexAddr P 70 (ptr X) (.int .i64 k) = some (.pointer (some ⟨X, 2 * k.toNat, none⟩)) := by
        have := ei8 X (i := k.toNat) (by omega)
        rwa [Int.toNat_of_nonneg hk.1] at this
      simp (maxSteps := 10000000) only [wW, reduceCtorEq, Nat.reduceEqDiff, wL, Nat.reduceAdd, x1, x2, x3, y1, y2, y3, hi, true_and, conv_int_u64, wrap_u64 (n := k) (by omega) (by omega)]
      rw [wrPow 3 hx k.toNat hk.1 (by omega) rfl]
      refine ⟨.refl _, ?_⟩
      simp (maxSteps := 10000000) only [wW, reduceCtorEq, Nat.reduceEqDiff, wL, Nat.reduceAdd, ip2_0', ip2_1', acells_some hC6, acells_some hX6, g0, g1, z1, z2, z3, w1, w2, w3, hkx, eu0, eu1, p0, p1, hi, hi2, true_and]
      have em1 : (mod2 3 q).1 = q.1 % fP 3 := rfl
      have em2 : (mod2 3 q).2 = q.2 % fP 3 := rfl
      have r1 : abinInt P .rem .u64 q.1 .u64 (fP 3) = some (.int .u64 (q.1 % fP 3)) := by rw [int_rem keq_u64 _ _ (by rw [hp3]; decide), tmod_nonneg hqn.1]
      have r2 : abinInt P .rem .u64 q.2 .u64 (fP 3) = some (.int .u64 (q.2 % fP 3)) := by rw [int_rem keq_u64 _ _ (by rw [hp3]; decide), tmod_nonneg hqn.2]
      have r3 : abinInt P .rem .u64 odd .u64 (fP 3) = some (.int .u64 (odd % fP 3)) := by rw [int_rem keq_u64 _ _ (by rw [hp3]; decide), tmod_nonneg ho]
      simp (maxSteps := 10000000) only [wW, reduceCtorEq, Nat.reduceEqDiff, wL, Nat.reduceAdd, ip2_0', ip2_1', acells_some hC6, acells_some hX6, g0, g1, z1, z2, z3, w1, w2, w3, hkx, eu0, eu1, p0, p1, hi, hi2, true_and, r1, r2, r3, em1, em2, not_true_eq_false]
      refine lBit ll 0 fun sm om lm mm => ?_
      have nm := mm.n
      have offl : OffS s'.n og s'.n iv := off1d
      have hIn7 := offl.sl (by omega) mm hIn6
      have offm := offl.mut (by omega) mm
      refine lBit lm 3 fun sn on ln mn => ?_
      have hIn8 := offm.sl (by omega) mn hIn7
      have eB : mBit (mBit (btQ x).1 0) 3 = btB x := rfl
      rw [eB] at ln
      refine wValues ln osm5 hIn8 fun wv2 so b2 hb2 gl2 hvv2 => ?_
      simp (maxSteps := 10000000) only [wW, reduceCtorEq, Nat.reduceEqDiff, List.getElem?_cons_zero, List.getElem?_cons_succ, bool_eql]
      have hbb : (b2 == decide (odd % fP 3 < 2)) = true := by
        rw [beq_iff_eq, Bool.eq_iff_iff, decide_eq_true_eq, hb2, oc5]
      rw [hbb]
      simp (maxSteps := 10000000) only [wW, reduceCtorEq, Nat.reduceEqDiff, wLiv]
      exact fin_K fun _ => rfl
  · simp only [U, tset_eq, wW, reduceCtorEq, Nat.reduceEqDiff]
  · simp only [U, tset_eq, wW, reduceCtorEq, Nat.reduceEqDiff]
  · simp only [U, tset_eq, wW, reduceCtorEq, Nat.reduceEqDiff]
  · simp only [U, tset_eq, wW, reduceCtorEq, Nat.reduceEqDiff]
  · simp only [U, tset_eq, wW, reduceCtorEq, Nat.reduceEqDiff]
  · simp only [U, tset_eq, wW, reduceCtorEq, Nat.reduceEqDiff]; rfl
  · simp only [U, tset_eq, wW, reduceCtorEq, Nat.reduceEqDiff]
    exact ⟨hl1, .inr ⟨rfl, by decide, _, _, rfl⟩, fun A o sp kk c e => by cases e; exact ⟨by omega, by omega, by omega, fun e => by cases e⟩, fun _ e => (by cases e), .nil m2.wf (m1.grew.trans m2.grew), hX1, fun e => by cases e⟩
end
end Go.VE
/- CircuitBits at every start. -/
namespace Go.VE
open Go Go.Proofs
set_option maxRecDepth 20000
theorem pair_of' {l : List (List Value)} (h : l.length = 2) (hl : ∀ c ∈ l, c.length = 1 ∧ ∃ i, c = [.int .u64 i] ∧ (Lit.int .u64 i).wf = true) : ∃ p : Int × Int, l.flatten = prc .u64 p ∧ Nn2 p := by
  match l, h with
  | [a, b], _ =>
    obtain ⟨_, i, rfl, hi⟩ := hl a (by simp)
    obtain ⟨_, j, rfl, hj⟩ := hl b (by simp)
    exact ⟨(i, j), rfl, (wf_u64 hi).1, (wf_u64 hj).1⟩
theorem pairs_of' : ∀ {l : List (List Value)} (_ : ∀ c ∈ l, ∃ p : Int × Int, c = prc .u64 p ∧ Nn2 p), ∃ L : List (Int × Int), l.flatten = prs .u64 L ∧ L.length = l.length ∧ ∀ q ∈ L, Nn2 q
  | [], _ => ⟨[], rfl, rfl, fun q hq => by cases hq⟩
  | c :: l, h => by
    obtain ⟨p, rfl, hp⟩ := h c (by simp)
    obtain ⟨L, h1, h2, h3⟩ := pairs_of' (l := l) fun c hc => h c (by simp [hc])
    refine ⟨p :: L, ?_, by simp [h2], fun q hq => ?_⟩
    · rw [List.flatten_cons, h1]; rfl
    · rcases List.mem_cons.1 hq with rfl | hq
      · exact hp
      · exact h3 q hq
theorem bt_args {al : List Value} {s : St} (h : Args P 8 [5, 24, 70, 24] al s) : ∃ n x l odd, al = [.int .u8 n, .int .u64 x, .agg (.mk (prs .u64 l)), .int .u64 odd] ∧ (0 ≤ n ∧ n < 256) ∧ 0 ≤ x ∧ l.length = 8 ∧ (∀ q ∈ l, Nn2 q) ∧ 0 ≤ odd := by
  obtain ⟨v1, r1, a1, rfl, hv1, hm1, v2, r2, a2, rfl, hv2, hm2, v3, r3, a3, rfl, hv3, hm3, v4, r4, a4, rfl, hv4, hm4, rfl⟩ := h
  rw [av_5] at hv1
  subst hv1
  rw [av_24] at hv2
  subst hv2
  rw [av_70] at hv3
  subst hv3
  rw [av_24] at hv4
  subst hv4
  rw [me_5] at hm1
  obtain ⟨n, e1, hn⟩ := hm1
  simp only [List.cons.injEq, and_true] at e1
  subst e1
  have hn' : 0 ≤ n ∧ n < 256 := by
    simp only [Lit.wf, Bool.and_eq_true, decide_eq_true_eq] at hn
    have h0 : IntKind.u8.min = 0 := rfl
    have h1 : IntKind.u8.max = 255 := rfl
    omega
  rw [me_24] at hm2
  obtain ⟨x, e2, hx⟩ := hm2
  simp only [List.cons.injEq, and_true] at e2
  subst e2
  rw [me_24] at hm4
  obtain ⟨odd, e4, ho⟩ := hm4
  simp only [List.cons.injEq, and_true] at e4
  subst e4
  rw [me_70] at hm3
  obtain ⟨m, rfl, hm, hml⟩ := hm3
  simp only [me_42, me_24] at hml
  obtain ⟨l, hl, hll, hln⟩ := pairs_of' (l := m) fun c hc => by
    obtain ⟨_, m, rfl, hm, hml⟩ := hml c hc
    exact pair_of' hm hml
  exact ⟨n, x, l, odd, by rw [hl], hn', (wf_u64 hx).1, by omega, hln, (wf_u64 ho).1⟩
theorem bt_runs (laid : List (String × DataW Unit)) (h : startB laid = true) : LawRuns P 30 8 7 [5, 24, 70, 24] laid :=
  law_runs' h fun s al hw hF h0 ha => by
    obtain ⟨n, x, l, odd, rfl, hn, hx, hl, hl0, ho⟩ := bt_args ha
    exact wBt hl hl0 hn hx ho hw hF (Nat.le_refl _) h0
end Go.VE
