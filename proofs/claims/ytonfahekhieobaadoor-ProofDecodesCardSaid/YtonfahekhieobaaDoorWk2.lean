/-
 What the functions compute.
-/
import Derived.Test.YtonfahekhieobaaDoorWk1
set_option linter.unusedSimpArgs false
set_option linter.unusedVariables false
set_option maxRecDepth 20000
namespace Go.VE
open Go Go.Proofs
set_option maxRecDepth 20000
structure PfB where
 rb : Nat
 ob : Nat
 fb : Nat → Nat
inductive OkS (R Q : Nat) : Nat → Nat → Nat → Prop
 | top (k : Nat) (h : k = 1 ∨ k = 2 ∨ k = 3 ∨ k = 4 ∨ k = 6 ∨ k = 7) : OkS R Q k 0 0
 | round (i : Nat) (h : i < R) : OkS R Q 5 0 i
 | row (q i : Nat) (hq : q < Q) (hi : i < 6) : OkS R Q 8 q i
 | path (q i : Nat) (hq : q < Q) (hi : i < 6) : OkS R Q 9 q i
 | leaf (q i : Nat) (hq : q < Q) (hi : i < R) : OkS R Q 10 q i
 | fold (q i : Nat) (hq : q < Q) (hi : i < R) : OkS R Q 11 q i
def Za2 (B : PfB) (k q i : Nat) : Option Nat × Nat :=
 match k with
 | 1 => (none, 0)
 | 2 => (none, 3)
 | 3 => (none, 1)
 | 4 => (none, 2)
 | 5 => (some B.rb, i)
 | 6 => (none, 5)
 | 7 => (none, 6)
 | 8 => (some B.ob, 13 * q + i)
 | 9 => (some B.ob, 13 * q + 6 + i)
 | 10 => (some (B.fb q), 9 * i)
 | _ => (some (B.fb q), 9 * i + 8)
def Zd9 (k : Nat) : Nat := if k = 10 then 8 else 1
def SlV (s : St) (W : Nat → Prop) (sz : Nat) (v : Value) (l : List Int) : Prop :=
 ∃ m, l.length = m * sz ∧ Sl s v sz m (l.map (.int .u64)) ∧ ∀ A o sp k c, v = .slice (some ⟨A, o, sp⟩) k c → A < s.n ∧ ¬ W A
theorem SlV.one {s : St} {W : Nat → Prop} {sz : Nat} {v : Value} {l : List Int} (h : SlV s W sz v l) : v.oneCell' = true ∧ v.cells.toList = [v] := by
 obtain ⟨m, _, ⟨a, c, rfl, _⟩, _⟩ := h
 exact ⟨rfl, rfl⟩
theorem SlV.nil (s : St) (W : Nat → Prop) (sz : Nat) : SlV s W sz (.slice none 0 0) [] := ⟨0, by simp, Sl.nil _ _, fun A o sp k c e => by cases e⟩
theorem Sl.sameAt {s s' : St} {v : Value} {sz n : Nat} {cs : List Value} (h : Sl s v sz n cs) (hs : ∀ A o sp k c, v = .slice (some ⟨A, o, sp⟩) k c → s'.at A = s.at A) : Sl s' v sz n cs := by
 obtain ⟨a, c, hv, hl, hx, hb⟩ := h
 refine ⟨a, c, hv, hl, hx, fun hn => ?_⟩
 obtain ⟨A, o, m, cells, t, op, ha, hm, hA, hc⟩ := hb hn
 exact ⟨A, o, m, cells, t, op, ha, hm, by rw [hs A o m n c (by rw [hv, ha])]; exact hA, hc⟩
theorem SlV.mono {s s' : St} {W : Nat → Prop} {sz : Nat} {v : Value} {l : List Int} (h : SlV s W sz v l) (hn : s.n ≤ s'.n) (hleaf : ∀ A, A < s.n → ¬ W A → s'.at A = s.at A) : SlV s' W sz v l := by
 obtain ⟨m, h1, h2, h3⟩ := h
 exact ⟨m, h1, h2.sameAt fun A o sp k c e => hleaf A (h3 A o sp k c e).1 (h3 A o sp k c e).2, fun A o sp k c e => ⟨Nat.lt_of_lt_of_le (h3 A o sp k c e).1 hn, (h3 A o sp k c e).2⟩⟩
def SlotC (s : St) (W : Nat → Prop) (k : Nat) (c : List Value) (o : Nat) (l : List Int) : Prop :=
 if k = 2 ∨ k = 7 then ∃ x, l = [x] ∧ c[o]? = some (.int .u64 x)
 else if k = 10 then l.length = 8 ∧ ∀ j, j < 8 → c[o + j]? = (l[j]?).map (.int .u64)
 else ∃ v, c[o]? = some v ∧ SlV s W (if k = 6 ∨ k = 8 then 1 else 2) v l
theorem SlotC.mono {s s' : St} {W : Nat → Prop} {k : Nat} {c c' : List Value} {o : Nat} {l : List Int} (h : SlotC s W k c o l) (hn : s.n ≤ s'.n) (hleaf : ∀ A, A < s.n → ¬ W A → s'.at A = s.at A) (hc : ∀ j, j < Zd9 k → c'[o + j]? = c[o + j]?) : SlotC s' W k c' o l := by
 unfold SlotC at h ⊢
 unfold Zd9 at hc
 by_cases h1 : k = 2 ∨ k = 7
 ·rw [if_pos h1] at h ⊢
  obtain ⟨x, e, hx⟩ := h
  have := hc 0 (by split <;> omega)
  exact ⟨x, e, by rw [Nat.add_zero] at this; rw [this]; exact hx⟩
 ·rw [if_neg h1] at h ⊢
  by_cases h2 : k = 10
  ·rw [if_pos h2] at h ⊢ hc
   exact ⟨h.1, fun j hj => (hc j hj).trans (h.2 j hj)⟩
  ·rw [if_neg h2] at h ⊢ hc
   obtain ⟨v, e, hv⟩ := h
   have := hc 0 (by omega)
   exact ⟨v, by rw [Nat.add_zero] at this; rw [this]; exact e, hv.mono hn hleaf⟩
def Zen (s : St) (cs : List Value) : Option Nat → Option (List Value)
 | none => some cs
 | some A => Zbi (s.at A)
structure PfAt (s : St) (W : Nat → Prop) (cs : List Value) (B : PfB) (R Q : Nat) (g : Nat → Nat → Nat → List Int) : Prop where
 cl : cs.length = 8
 c4 : cs[4]? = some (.slice (some ⟨B.rb, 0, none⟩) R R)
 c7 : cs[7]? = some (.slice (some ⟨B.ob, 0, none⟩) Q Q)
 rb : ∃ c, s.at B.rb = some (.cells c 33 false) ∧ c.length = R
 ob : ∃ c, s.at B.ob = some (.cells c 59 false) ∧ c.length = 13 * Q ∧ ∀ j, j < Q → c[13 * j + 12]? = some (.slice (some ⟨B.fb j, 0, none⟩) R R)
 fb : ∀ j, j < Q → ∃ c, s.at (B.fb j) = some (.cells c 114 false) ∧ c.length = 9 * R
 ne : B.rb ≠ B.ob
 nef : ∀ j, j < Q → B.fb j ≠ B.rb ∧ B.fb j ≠ B.ob ∧ ∀ j2, j2 < Q → B.fb j = B.fb j2 → j = j2
 w : W B.rb ∧ W B.ob ∧ ∀ j, j < Q → W (B.fb j)
 sl : ∀ k q i, OkS R Q k q i → ∃ c, Zen s cs (Za2 B k q i).1 = some c ∧ SlotC s W k c (Za2 B k q i).2 (g k q i)
section
variable {s s' : St} {W : Nat → Prop} {cs cs' : List Value} {B : PfB} {R Q : Nat} {g : Nat → Nat → Nat → List Int}
theorem PfAt.grew (h : PfAt s W cs B R Q g) (gr : Grew s s') : PfAt s' W cs B R Q g := by
 have e : ∀ A c T op, s.at A = some (.cells c T op) → s'.at A = some (.cells c T op) := fun A c T op h => (gr.same A (St.at_lt h)).trans h
 obtain ⟨c1, h1, h2⟩ := h.rb
 obtain ⟨c2, h3, h4, h5⟩ := h.ob
 refine ⟨h.cl, h.c4, h.c7, ⟨c1, e _ _ _ _ h1, h2⟩, ⟨c2, e _ _ _ _ h3, h4, h5⟩, fun j hj => ?_, h.ne, h.nef, h.w, fun k q i ok => ?_⟩
 ·obtain ⟨c3, h6, h7⟩ := h.fb j hj
  exact ⟨c3, e _ _ _ _ h6, h7⟩
 ·obtain ⟨c, hc, hs⟩ := h.sl k q i ok
  refine ⟨c, ?_, hs.mono gr.n (fun A hA _ => gr.same A hA) fun _ _ => rfl⟩
  cases hp : (Za2 B k q i).1 with
  | none => rw [hp] at hc; exact hc
  | some A =>
   rw [hp] at hc
   have hc : Zbi (s.at A) = some c := hc
   show Zbi (s'.at A) = some c
   cases hA : s.at A with
   | none => rw [hA] at hc; cases hc
   | some o => rw [gr.same A (St.at_lt hA)]; exact hc
theorem Z4u (h : PfAt s W cs B R Q g) {k q i k' q' i' : Nat} (h1 : OkS R Q k q i) (h2 : OkS R Q k' q' i') (he : (Za2 B k q i).1 = (Za2 B k' q' i').1) (hne : ¬ (k = k' ∧ q = q' ∧ i = i')) :
  (Za2 B k q i).2 + Zd9 k ≤ (Za2 B k' q' i').2 ∨ (Za2 B k' q' i').2 + Zd9 k' ≤ (Za2 B k q i).2 := by
 have n1 := h.ne
 have nf := h.nef
 cases h1 with
 | top k hk =>
  cases h2 with
  | top k' hk' => rcases hk with rfl | rfl | rfl | rfl | rfl | rfl <;> rcases hk' with rfl | rfl | rfl | rfl | rfl | rfl <;> simp [Za2, Zd9] at hne ⊢
  | _ => rcases hk with rfl | rfl | rfl | rfl | rfl | rfl <;> simp [Za2] at he
 | round i hi =>
  cases h2 with
  | top k' hk' => rcases hk' with rfl | rfl | rfl | rfl | rfl | rfl <;> simp [Za2] at he
  | round i' hi' => simp only [Za2, Zd9] at hne ⊢; simp at hne ⊢; omega
  | row q i hq hi => simp [Za2] at he; exact absurd he n1
  | path q i hq hi => simp [Za2] at he; exact absurd he n1
  | leaf _ _ hq hi => simp [Za2] at he; exact absurd he.symm (nf _ hq).1
  | fold _ _ hq hi => simp [Za2] at he; exact absurd he.symm (nf _ hq).1
 | row q i hq hi =>
  cases h2 with
  | top k' hk' => rcases hk' with rfl | rfl | rfl | rfl | rfl | rfl <;> simp [Za2] at he
  | round i' hi' => simp [Za2] at he; exact absurd he.symm n1
  | row q' i' hq' hi' => simp only [Za2, Zd9] at hne ⊢; simp at hne ⊢; omega
  | path q' i' hq' hi' => simp only [Za2, Zd9]; simp; omega
  | leaf q' i' hq' hi' => simp [Za2] at he; exact absurd he.symm (nf q' hq').2.1
  | fold q' i' hq' hi' => simp [Za2] at he; exact absurd he.symm (nf q' hq').2.1
 | path q i hq hi =>
  cases h2 with
  | top k' hk' => rcases hk' with rfl | rfl | rfl | rfl | rfl | rfl <;> simp [Za2] at he
  | round i' hi' => simp [Za2] at he; exact absurd he.symm n1
  | row q' i' hq' hi' => simp only [Za2, Zd9]; simp; omega
  | path q' i' hq' hi' => simp only [Za2, Zd9] at hne ⊢; simp at hne ⊢; omega
  | leaf q' i' hq' hi' => simp [Za2] at he; exact absurd he.symm (nf q' hq').2.1
  | fold q' i' hq' hi' => simp [Za2] at he; exact absurd he.symm (nf q' hq').2.1
 | leaf q i hq hi =>
  cases h2 with
  | top k' hk' => rcases hk' with rfl | rfl | rfl | rfl | rfl | rfl <;> simp [Za2] at he
  | round i' hi' => simp [Za2] at he; exact absurd he (nf q hq).1
  | row q' i' hq' hi' => simp [Za2] at he; exact absurd he (nf q hq).2.1
  | path q' i' hq' hi' => simp [Za2] at he; exact absurd he (nf q hq).2.1
  | leaf q' i' hq' hi' =>
   simp [Za2] at he
   have := (nf q hq).2.2 q' hq' he
   subst this
   simp only [Za2, Zd9] at hne ⊢; simp at hne ⊢; omega
  | fold q' i' hq' hi' =>
   simp [Za2] at he
   have := (nf q hq).2.2 q' hq' he
   subst this
   simp only [Za2, Zd9]; simp; omega
 | fold q i hq hi =>
  cases h2 with
  | top k' hk' => rcases hk' with rfl | rfl | rfl | rfl | rfl | rfl <;> simp [Za2] at he
  | round i' hi' => simp [Za2] at he; exact absurd he (nf q hq).1
  | row q' i' hq' hi' => simp [Za2] at he; exact absurd he (nf q hq).2.1
  | path q' i' hq' hi' => simp [Za2] at he; exact absurd he (nf q hq).2.1
  | leaf q' i' hq' hi' =>
   simp [Za2] at he
   have := (nf q hq).2.2 q' hq' he
   subst this
   simp only [Za2, Zd9]; simp; omega
  | fold q' i' hq' hi' =>
   simp [Za2] at he
   have := (nf q hq).2.2 q' hq' he
   subst this
   simp only [Za2, Zd9] at hne ⊢; simp at hne ⊢; omega
end
theorem Zb5 {c l : List Value} {o j : Nat} (h : o + l.length ≤ c.length) (hj : j < o ∨ o + l.length ≤ j) : (splice c o l)[j]? = c[j]? := by
 unfold splice
 rcases hj with hj | hj
 ·rw [List.getElem?_append_left (by rw [List.length_take]; omega), List.getElem?_take, if_pos hj]
 ·rw [List.getElem?_append_right (by rw [List.length_take]; omega), List.getElem?_append_right (by rw [List.length_take]; omega), List.getElem?_drop, List.length_take]
  congr 1
  omega
theorem Zhh {c l : List Value} {o j : Nat} (h : o + l.length ≤ c.length) (hj : j < l.length) : (splice c o l)[o + j]? = l[j]? := by
 unfold splice
 rw [List.getElem?_append_right (by rw [List.length_take]; omega), List.length_take, Nat.min_eq_left (by omega), Nat.add_sub_cancel_left, List.getElem?_append_left hj]
def updG (g : Nat → Nat → Nat → List Int) (k q i : Nat) (l : List Int) : Nat → Nat → Nat → List Int := fun k' q' i' => if k' = k ∧ q' = q ∧ i' = i then l else g k' q' i'
def SlotW (s : St) (W : Nat → Prop) (k : Nat) (vals : List Value) (l : List Int) : Prop :=
 if k = 2 ∨ k = 7 then ∃ x, l = [x] ∧ vals = [.int .u64 x]
 else if k = 10 then l.length = 8 ∧ vals = l.map (.int .u64)
 else ∃ v, vals = [v] ∧ SlV s W (if k = 6 ∨ k = 8 then 1 else 2) v l
theorem SlotW.len {s : St} {W : Nat → Prop} {k : Nat} {vals : List Value} {l : List Int} (h : SlotW s W k vals l) : vals.length = Zd9 k := by
 unfold SlotW at h
 unfold Zd9
 split at h
 ·obtain ⟨x, _, rfl⟩ := h
  rename_i hk
  rw [if_neg (by omega)]; rfl
 ·split at h
  ·rename_i hk
   rw [if_pos hk, h.2, List.length_map, h.1]
  ·rename_i hk
   obtain ⟨v, rfl, _⟩ := h
   rw [if_neg hk]; rfl
theorem SlotW.one {s : St} {W : Nat → Prop} {k : Nat} {vals : List Value} {l : List Int} (h : SlotW s W k vals l) : vals.all (·.oneCell') = true := by
 unfold SlotW at h
 split at h
 ·obtain ⟨x, _, rfl⟩ := h; rfl
 ·split at h
  ·rw [h.2, List.all_map]
   exact List.all_eq_true.2 fun _ _ => rfl
  ·obtain ⟨v, rfl, hv⟩ := h
   simp [hv.one.1]
theorem SlotW.spl {s : St} {W : Nat → Prop} {k : Nat} {vals : List Value} {l : List Int} (h : SlotW s W k vals l) {c : List Value} {o : Nat} (hf : o + Zd9 k ≤ c.length) : SlotC s W k (splice c o vals) o l := by
 have hl := h.len
 have hin : ∀ j, j < vals.length → (splice c o vals)[o + j]? = vals[j]? := fun j hj => Zhh (by omega) hj
 unfold SlotW at h
 unfold SlotC
 split at h
 ·rename_i hk
  rw [if_pos hk]
  obtain ⟨x, rfl, rfl⟩ := h
  exact ⟨x, rfl, hin 0 (by simp)⟩
 ·rename_i hk
  rw [if_neg hk]
  split at h
  ·rename_i hk2
   rw [if_pos hk2]
   obtain ⟨h1, rfl⟩ := h
   exact ⟨h1, fun j hj => by rw [hin j (by rw [List.length_map]; omega), List.getElem?_map]⟩
  ·rename_i hk2
   rw [if_neg hk2]
   obtain ⟨v, rfl, hv⟩ := h
   exact ⟨v, hin 0 (by simp), hv⟩
section
variable {s s' : St} {W : Nat → Prop} {cs cs' : List Value} {B : PfB} {R Q : Nat} {g : Nat → Nat → Nat → List Int}
theorem PfAt.fit (h : PfAt s W cs B R Q g) {k q i : Nat} (ok : OkS R Q k q i) {c : List Value} (hc : Zen s cs (Za2 B k q i).1 = some c) : (Za2 B k q i).2 + Zd9 k ≤ c.length := by
 obtain ⟨c1, h1, h2⟩ := h.rb
 obtain ⟨c2, h3, h4, _⟩ := h.ob
 have hcl := h.cl
 cases ok with
 | top k hk =>
  rcases hk with rfl | rfl | rfl | rfl | rfl | rfl <;> (simp only [Za2, Zen, Option.some.injEq] at hc; subst hc; simp only [Za2, Zd9]; simp; omega)
 | round i hi =>
  simp only [Za2, Zen, h1, Zbi, Option.some.injEq] at hc
  subst hc; simp only [Za2, Zd9]; simp; omega
 | row q i hq hi =>
  simp only [Za2, Zen, h3, Zbi, Option.some.injEq] at hc
  subst hc; simp only [Za2, Zd9]; simp; omega
 | path q i hq hi =>
  simp only [Za2, Zen, h3, Zbi, Option.some.injEq] at hc
  subst hc; simp only [Za2, Zd9]; simp; omega
 | leaf q i hq hi =>
  obtain ⟨c3, h6, h7⟩ := h.fb q hq
  simp only [Za2, Zen, h6, Zbi, Option.some.injEq] at hc
  subst hc; simp only [Za2, Zd9]; simp; omega
 | fold q i hq hi =>
  obtain ⟨c3, h6, h7⟩ := h.fb q hq
  simp only [Za2, Zen, h6, Zbi, Option.some.injEq] at hc
  subst hc; simp only [Za2, Zd9]; simp; omega
theorem Yab {k q i : Nat} (ok : OkS R Q k q i) (h : (Za2 B k q i).1 = none) : (Za2 B k q i).2 ≠ 4 ∧ (Za2 B k q i).2 ≠ 7 ∧ Zd9 k = 1 := by
 cases ok with
 | top k hk => rcases hk with rfl | rfl | rfl | rfl | rfl | rfl <;> simp [Za2, Zd9]
 | _ => simp [Za2] at h
theorem Yck (h : PfAt s W cs B R Q g) {k q i : Nat} (ok : OkS R Q k q i) (he : (Za2 B k q i).1 = some B.ob) (j : Nat) : (Za2 B k q i).2 ≠ 13 * j + 12 ∧ Zd9 k = 1 := by
 cases ok with
 | top k hk => rcases hk with rfl | rfl | rfl | rfl | rfl | rfl <;> simp [Za2] at he
 | round i hi => simp [Za2] at he; exact absurd he h.ne
 | row q i hq hi => simp only [Za2, Zd9]; simp; omega
 | path q i hq hi => simp only [Za2, Zd9]; simp; omega
 | leaf q i hq hi => simp [Za2] at he; exact absurd he (h.nef q hq).2.1
 | fold q i hq hi => simp [Za2] at he; exact absurd he (h.nef q hq).2.1
theorem Zh4 {k q i : Nat} (ok : OkS R Q k q i) {A : Nat} (he : (Za2 B k q i).1 = some A) : A = B.rb ∨ A = B.ob ∨ ∃ j, j < Q ∧ A = B.fb j := by
 cases ok with
 | top k hk => rcases hk with rfl | rfl | rfl | rfl | rfl | rfl <;> simp [Za2] at he
 | round i hi => simp [Za2] at he; exact .inl he.symm
 | row q i hq hi => simp [Za2] at he; exact .inr (.inl he.symm)
 | path q i hq hi => simp [Za2] at he; exact .inr (.inl he.symm)
 | leaf q i hq hi => simp [Za2] at he; exact .inr (.inr ⟨q, hq, he.symm⟩)
 | fold q i hq hi => simp [Za2] at he; exact .inr (.inr ⟨q, hq, he.symm⟩)
theorem PfAt.blk (h : PfAt s W cs B R Q g) {A : Nat} (hA : A = B.rb ∨ A = B.ob ∨ ∃ j, j < Q ∧ A = B.fb j) : ∃ c T, s.at A = some (.cells c T false) ∧ W A := by
 obtain ⟨c1, h1, _⟩ := h.rb
 obtain ⟨c2, h2, _⟩ := h.ob
 rcases hA with rfl | rfl | ⟨j, hj, rfl⟩
 ·exact ⟨_, _, h1, h.w.1⟩
 ·exact ⟨_, _, h2, h.w.2.1⟩
 ·obtain ⟨c3, h3, _⟩ := h.fb j hj
  exact ⟨_, _, h3, h.w.2.2 j hj⟩
theorem PfAt.set (h : PfAt s W cs B R Q g) {k q i : Nat} (ok : OkS R Q k q i) {vals : List Value} {l : List Int} (hn : s.n ≤ s'.n) (hleaf : ∀ A, A < s.n → ¬ W A → s'.at A = s.at A) (hw : SlotW s' W k vals l)
  (htop : cs' = match (Za2 B k q i).1 with | none => splice cs (Za2 B k q i).2 vals | some _ => cs)
  (hblk : ∀ A, (A = B.rb ∨ A = B.ob ∨ ∃ j, j < Q ∧ A = B.fb j) → ∀ c T, s.at A = some (.cells c T false) → s'.at A = some (.cells (if (Za2 B k q i).1 = some A then splice c (Za2 B k q i).2 vals else c) T false)) :
  PfAt s' W cs' B R Q (updG g k q i l) := by
 have hvl := hw.len
 have hfitT : (Za2 B k q i).1 = none → (Za2 B k q i).2 + vals.length ≤ cs.length := fun e => by
  have := h.fit ok (c := cs) (by rw [e]; rfl)
  omega
 have hfitB : ∀ A c T, (Za2 B k q i).1 = some A → s.at A = some (.cells c T false) → (Za2 B k q i).2 + vals.length ≤ c.length := fun A c T e hA => by
  have := h.fit ok (c := c) (by rw [e]; show Zbi (s.at A) = _; rw [hA]; rfl)
  omega
 have hlen : ∀ A c T, s.at A = some (.cells c T false) → (if (Za2 B k q i).1 = some A then splice c (Za2 B k q i).2 vals else c).length = c.length := fun A c T hA => by
  split
  ·rename_i e
   exact Za0 (hfitB A c T e hA)
  ·rfl
 have hcsl : cs'.length = cs.length := by
  rw [htop]
  split
  ·rename_i e; exact Za0 (hfitT e)
  ·rfl
 have hcsg : ∀ j, j = 4 ∨ j = 7 → cs'[j]? = cs[j]? := fun j hj => by
  rw [htop]
  split
  ·rename_i e
   have := Yab ok e
   exact Zb5 (hfitT e) (by omega)
  ·rfl
 obtain ⟨c1, h1, h2⟩ := h.rb
 obtain ⟨c2, h3, h4, h5⟩ := h.ob
 refine ⟨hcsl.trans h.cl, (hcsg 4 (.inl rfl)).trans h.c4, (hcsg 7 (.inr rfl)).trans h.c7, ⟨_, hblk _ (.inl rfl) _ _ h1, (hlen _ _ _ h1).trans h2⟩, ⟨_, hblk _ (.inr (.inl rfl)) _ _ h3, (hlen _ _ _ h3).trans h4, fun j hj => ?_⟩, fun j hj => ?_, h.ne, h.nef, h.w, fun k' q' i' ok' => ?_⟩
 ·rw [← h5 j hj]
  split
  ·rename_i e
   have := Yck h ok e j
   exact Zb5 (hfitB _ _ _ e h3) (by omega)
  ·rfl
 ·obtain ⟨c3, h6, h7⟩ := h.fb j hj
  exact ⟨_, hblk _ (.inr (.inr ⟨j, hj, rfl⟩)) _ _ h6, (hlen _ _ _ h6).trans h7⟩
 ·by_cases hs : k' = k ∧ q' = q ∧ i' = i
  ·obtain ⟨rfl, rfl, rfl⟩ := hs
   have hu : updG g k' q' i' l k' q' i' = l := by unfold updG; rw [if_pos ⟨rfl, rfl, rfl⟩]
   rw [hu]
   cases hp : (Za2 B k' q' i').1 with
   | none =>
    refine ⟨cs', rfl, ?_⟩
    rw [hp] at htop
    rw [htop]
    exact hw.spl (by rw [← hvl]; exact hfitT hp)
   | some A =>
    obtain ⟨c, T, hA, _⟩ := h.blk (Zh4 ok hp)
    have hA' := hblk A (Zh4 ok hp) c T hA
    rw [if_pos hp] at hA'
    refine ⟨_, show Zbi (s'.at A) = some _ by rw [hA']; rfl, hw.spl (by rw [← hvl]; exact hfitB _ _ _ hp hA)⟩
  ·have hu : updG g k q i l k' q' i' = g k' q' i' := by unfold updG; rw [if_neg hs]
   rw [hu]
   obtain ⟨c, hc, hsl⟩ := h.sl k' q' i' ok'
   have hap := fun he => Z4u h ok ok' he (fun e => hs ⟨e.1.symm, e.2.1.symm, e.2.2.symm⟩)
   cases hp : (Za2 B k' q' i').1 with
   | none =>
    rw [hp] at hc
    simp only [Zen, Option.some.injEq] at hc
    subst hc
    refine ⟨cs', rfl, hsl.mono hn hleaf fun j hj => ?_⟩
    rw [htop]
    split
    ·rename_i e
     have := hap (e.trans hp.symm)
     exact Zb5 (hfitT e) (by omega)
    ·rfl
   | some A =>
    rw [hp] at hc
    obtain ⟨c0, T, hA, _⟩ := h.blk (Zh4 ok' hp)
    have hc0 : c0 = c := by
     have hc' : Zbi (s.at A) = some c := hc
     rw [hA] at hc'
     simpa [Zbi] using hc'
    subst hc0
    have hA' := hblk A (Zh4 ok' hp) c0 T hA
    refine ⟨_, show Zbi (s'.at A) = some _ by rw [hA']; rfl, hsl.mono hn hleaf fun j hj => ?_⟩
    split
    ·rename_i e
     have := hap (e.trans hp.symm)
     exact Zb5 (hfitB _ _ _ e hA) (by omega)
    ·rfl
end
theorem Zdb {ro : Nat} {t e : TypeId} {sz bytes : Nat} {z : Value} (hse : Zbq P t = some e) (hty : tyOk P e sz bytes z = true) {s : St} (hw : Wf s) {l n : Int} (h0 : 0 ≤ l) (hln : l ≤ n) (hn : n ≤ 2 ^ 36) (hb : bytes ≤ 1000) {ty : TypeId} {K : Value → St → Prop}
  (hk : ∀ A s', Made s A (.cells (Zaz z.cells (n.toNat * sz)) e false) s' → K (.slice (some ⟨A, 0, none⟩) l.toNat n.toNat) s') : wop P ro (.makeSlice t (.const (.int .i64 l)) (.const (.int .i64 n))) ty s K := by
 obtain ⟨i, hi, hsz, hby, hz, hf, hzs⟩ := Zep hty
 rw [Zu7]
 have hle : bytes * n ≤ 1000 * 2 ^ 36 := Int.mul_le_mul (by omega) hn (by omega) (by omega)
 have hc : flat z = true ∧ 0 ≤ l ∧ l ≤ n ∧ i.bytes * n ≤ 2 ^ 47 ∧ n ≤ 2 ^ 47 ∧ z.cells.size = i.size := ⟨hf, h0, hln, by rw [hby]; omega, by omega, by rw [hsz]; exact hzs⟩
 simp only [Ze5, hse, hi, hz]
 rw [if_pos hc, Zaa, hsz]
 exact hk _ _ (.mk' hw _)
theorem Zkm (z : Array Value) {n i : Nat} (h : i < n) : (Zaz z n)[i]? = some (z.toList.getD (i % z.toList.length) default) := by
 unfold Zaz
 rw [List.getElem?_map, List.getElem?_range h]
 rfl
abbrev nilS : Value := .slice none 0 0
abbrev z59 : Array Value := (Value.agg (.mk [nilS, nilS, nilS, nilS, nilS, nilS, nilS, nilS, nilS, nilS, nilS, nilS, nilS])).cells
abbrev z114 : Array Value := (Value.agg (.mk [.int .u64 0, .int .u64 0, .int .u64 0, .int .u64 0, .int .u64 0, .int .u64 0, .int .u64 0, .int .u64 0, nilS])).cells
theorem Z6k {n i : Nat} (h : i < n) : (Zaz z59 n)[i]? = some nilS := by
 rw [Zkm _ h]
 have hl : i % 13 < 13 := Nat.mod_lt _ (by decide)
 show some ((List.replicate 13 nilS).getD (i % 13) default) = _
 rw [List.getD_eq_getElem?_getD, List.getElem?_replicate, if_pos hl]
 rfl
theorem Ybs {n i : Nat} (h : i < n) : (Zaz (Value.cells nilS) n)[i]? = some nilS := by
 rw [Zkm _ h]
 have hl : i % 1 = 0 := Nat.mod_one _
 show some (([nilS] : List Value).getD (i % 1) default) = _
 rw [hl]; rfl
theorem Z2r {n i : Nat} (h : i < n) : (Zaz z114 n)[i]? = some (if i % 9 = 8 then nilS else .int .u64 0) := by
 rw [Zkm _ h]
 have hl : i % 9 < 9 := Nat.mod_lt _ (by decide)
 show some ((List.replicate 8 (Value.int .u64 0) ++ [nilS]).getD (i % 9) default) = _
 rw [List.getD_eq_getElem?_getD]
 by_cases h8 : i % 9 = 8
 ·rw [if_pos h8, h8]; rfl
 ·rw [if_neg h8, List.getElem?_append_left (by rw [List.length_replicate]; omega), List.getElem?_replicate, if_pos (by omega)]
  rfl
def g0 (k _q _i : Nat) : List Int := if k = 2 ∨ k = 7 then [0] else if k = 10 then List.replicate 8 0 else []
def Zfz (R Q rb ob : Nat) : List Value := [nilS, nilS, nilS, .int .u64 0, .slice (some ⟨rb, 0, none⟩) R R, nilS, .int .u64 0, .slice (some ⟨ob, 0, none⟩) Q Q]
theorem Ye9 (A n c A' n' c' : Nat) : Zdl P 39 (Zbf .e [(4, .const (.slice (some ⟨A, 0, none⟩) n c)), (7, .const (.slice (some ⟨A', 0, none⟩) n' c'))]) = some (.agg (.mk [nilS, nilS, nilS, .int .u64 0, .slice (some ⟨A, 0, none⟩) n c, nilS, .int .u64 0, .slice (some ⟨A', 0, none⟩) n' c'])) := by kernel_rfl
theorem Z35 {s : St} {W : Nat → Prop} {R Q : Nat} {B : PfB} {oc : List Value} (hW : W B.rb ∧ W B.ob ∧ ∀ j, j < Q → W (B.fb j)) (hne : B.rb ≠ B.ob) (hnef : ∀ j, j < Q → B.fb j ≠ B.rb ∧ B.fb j ≠ B.ob ∧ ∀ j2, j2 < Q → B.fb j = B.fb j2 → j = j2)
  (hr : s.at B.rb = some (.cells (Zaz (Value.cells nilS) (R * 1)) 33 false)) (ho : s.at B.ob = some (.cells oc 59 false)) (hol : oc.length = 13 * Q) (hof : ∀ j, j < Q → oc[13 * j + 12]? = some (.slice (some ⟨B.fb j, 0, none⟩) R R)) (hon : ∀ p, p < 13 * Q → (∀ j, j < Q → p ≠ 13 * j + 12) → oc[p]? = some nilS)
  (hf : ∀ j, j < Q → s.at (B.fb j) = some (.cells (Zaz z114 (R * 9)) 114 false)) : PfAt s W (Zfz R Q B.rb B.ob) B R Q g0 := by
 refine ⟨rfl, rfl, rfl, ⟨_, hr, by rw [Zck]; omega⟩, ⟨oc, ho, hol, hof⟩, fun j hj => ⟨_, hf j hj, by rw [Zck]; omega⟩, hne, hnef, hW, fun k q i ok => ?_⟩
 have hnil : ∀ k, (k ≠ 2 ∧ k ≠ 7 ∧ k ≠ 10) → ∀ {c : List Value} {o : Nat}, c[o]? = some nilS → SlotC s W k c o (g0 k q i) := fun k hk c o h => by
  have e : g0 k q i = [] := by
   unfold g0
   rw [if_neg (by omega), if_neg hk.2.2]
  rw [e]
  unfold SlotC
  rw [if_neg (by omega), if_neg hk.2.2]
  exact ⟨_, h, SlV.nil _ _ _⟩
 cases ok with
 | top k hk =>
  refine ⟨_, show Zen s _ (Za2 B k 0 0).1 = some (Zfz R Q B.rb B.ob) by rcases hk with rfl | rfl | rfl | rfl | rfl | rfl <;> rfl, ?_⟩
  rcases hk with rfl | rfl | rfl | rfl | rfl | rfl
  ·exact hnil _ (by decide) rfl
  ·exact ⟨0, rfl, rfl⟩
  ·exact hnil _ (by decide) rfl
  ·exact hnil _ (by decide) rfl
  ·exact hnil _ (by decide) rfl
  ·exact ⟨0, rfl, rfl⟩
 | round i hi =>
  refine ⟨_, show Zbi (s.at B.rb) = _ by rw [hr]; rfl, hnil _ (by decide) ?_⟩
  exact Ybs (by show i < R * 1; omega)
 | row q i hq hi =>
  refine ⟨_, show Zbi (s.at B.ob) = _ by rw [ho]; rfl, hnil _ (by decide) ?_⟩
  exact hon _ (by show 13 * q + i < _; omega) fun j _ => by show 13 * q + i ≠ _; omega
 | path q i hq hi =>
  refine ⟨_, show Zbi (s.at B.ob) = _ by rw [ho]; rfl, hnil _ (by decide) ?_⟩
  exact hon _ (by show 13 * q + 6 + i < _; omega) fun j _ => by show 13 * q + 6 + i ≠ _; omega
 | leaf q i hq hi =>
  refine ⟨_, show Zbi (s.at (B.fb q)) = _ by rw [hf q hq]; rfl, ?_⟩
  refine ⟨rfl, fun j hj => ?_⟩
  show (Zaz z114 (R * 9))[9 * i + j]? = _
  rw [Z2r (by omega), if_neg (by omega)]
  have : (g0 10 q i)[j]? = some 0 := by
   show (List.replicate 8 (0 : Int))[j]? = _
   rw [List.getElem?_replicate, if_pos hj]
  rw [this]; rfl
 | fold q i hq hi =>
  refine ⟨_, show Zbi (s.at (B.fb q)) = _ by rw [hf q hq]; rfl, hnil _ (by decide) ?_⟩
  show (Zaz z114 (R * 9))[9 * i + 8]? = _
  rw [Z2r (by omega), if_pos (by omega)]
theorem Z25 : ∀ {l : List Value}, veqL l l = true → ∀ v ∈ l, veq v v = true
 | [], _, v, hv => by simp at hv
 | x :: l, h, v, hv => by
  simp only [veqL, Bool.and_eq_true] at h
  rcases List.mem_cons.1 hv with rfl | hv
  ·exact h.1
  ·exact Z25 h.2 v hv
theorem Z65 : ∀ {l : List Value}, (∀ v ∈ l, veq v v = true) → veqL l l = true
 | [], _ => rfl
 | x :: l, h => by
  simp only [veqL, Bool.and_eq_true]
  exact ⟨h x List.mem_cons_self, Z65 fun v hv => h v (List.mem_cons_of_mem _ hv)⟩
theorem Zu2 (z : Array Value) (n : Nat) (h : 0 < z.toList.length ∧ veqL z.toList z.toList = true) : veqL (Zaz z n) (Zaz z n) = true := by
 refine Z65 fun v hv => ?_
 unfold Zaz at hv
 obtain ⟨i, _, rfl⟩ := List.mem_map.1 hv
 have hl := Nat.mod_lt i h.1
 rw [List.getD_eq_getElem?_getD, List.getElem?_eq_getElem hl]
 exact Z25 h.2 _ (List.getElem_mem hl)
structure BlI (s0 : St) (C Pb O r o : Nat) (h : Shp) (R Q m0 i : Nat) (s : St) : Prop where
 wf : Wf s
 gr : Grew s0 s
 sh : s.at C = some (.cells h.cells 23 false)
 pb : s.at Pb = some (.cells (Zfz R Q r o) 39 false)
 out : ∃ c, s.at O = some (.cells c 39 false) ∧ c.length = 8
 rb : s.at r = some (.cells (Zaz (Value.cells nilS) (R * 1)) 33 false)
 m : m0 ≤ s.n
 ex : ∃ (fb : Nat → Nat) (oc : List Value), s.at o = some (.cells oc 59 false) ∧ oc.length = 13 * Q ∧ (∀ j, j < i → oc[13 * j + 12]? = some (.slice (some ⟨fb j, 0, none⟩) R R)) ∧ (∀ p, p < 13 * Q → (∀ j, j < i → p ≠ 13 * j + 12) → oc[p]? = some nilS) ∧
  (∀ j, j < i → s.at (fb j) = some (.cells (Zaz z114 (R * 9)) 114 false) ∧ m0 ≤ fb j ∧ ∀ j2, j2 < i → fb j = fb j2 → j = j2)
section
variable {ro : Nat} {s : St} {K : Value → St → Prop}
theorem Ydx (h : Shp) (hv : shV h = true) (hw : Wf s) (hro : ro ≤ s.n) (hk : ∀ (B : PfB) s', Grew s s' → (s.n ≤ B.rb ∧ s.n ≤ B.ob ∧ ∀ j, j < h.q.toNat → s.n ≤ B.fb j) → (∀ W : Nat → Prop, W B.rb → W B.ob → (∀ j, j < h.q.toNat → W (B.fb j)) → PfAt s' W (Zfz (shR h).toNat h.q.toNat B.rb B.ob) B (shR h).toNat h.q.toNat g0) →
   K (.agg (.mk (Zfz (shR h).toNat h.q.toNat B.rb B.ob))) s') : CallWP P ro 46 [.agg (.mk h.cells)] s K := by
 refine Zas b46 rfl ?_
 rw [n46]
 unfold v46
 simp (maxSteps := 10000000) only [wW, reduceCtorEq, Nat.reduceEqDiff]
 have hv' := hv
 unfold shV inR at hv'
 simp only [Bool.and_eq_true, decide_eq_true_eq] at hv'
 have ha : 1 ≤ h.a ∧ h.a ≤ 13 := by omega
 have hq : 1 ≤ h.q ∧ h.q ≤ 64 := by omega
 have hR : 0 ≤ shR h ∧ shR h ≤ 5 := by unfold shR; omega
 have hveq : veq (.agg (.mk h.cells)) (.agg (.mk h.cells)) = true := by simp [veq, veqA, veqL, Shp.cells]
 have hi2 : ∀ z : Int, veq (.int .i64 z) (.int .i64 z) = true := fun z => by simp [veq]
 have hs2 : ∀ A n c, veq (.slice (some ⟨A, 0, none⟩) n c) (.slice (some ⟨A, 0, none⟩) n c) = true := fun A n c => by simp [veq]
 have zv : ∀ (z : Array Value) (n : Nat), (0 < z.toList.length ∧ veqL z.toList z.toList = true) → veqL (Zaz z n) (Zaz z n) = true := Zu2
 refine Zam hw.ent fun C s1 m1 => ?_
 have e1 := m1.eq
 have n1 := m1.n
 have hn0 : (ent s).n = s.n := rfl
 refine Zai Zh0 m1.wf fun O s2 m2 => ?_
 have e2 := m2.eq
 have n2 := m2.n
 have hC2 : s2.at C = some (.cells h.cells 23 false) := (m2.grew.same C (by omega)).trans m1.here
 rw [Zab, Zah Zc2 hC2 rfl, Zaa]
 refine ⟨hveq, ?_⟩
 simp (maxSteps := 10000000) only [wW, reduceCtorEq, Nat.reduceEqDiff, Zc0, Zab, Zan ap_3, Zac hC2, shc4, Nat.zero_add, hi2, true_and]
 refine Zdb Zr7 Z4o m2.wf (by omega) (Int.le_refl _) (by omega) (by decide) fun ob s3 m3 => ?_
 have e3 := m3.eq
 have n3 := m3.n
 refine ⟨m3.fresh (zv _ _ ⟨by decide, rfl⟩), ?_⟩
 refine Zai Zh0 m3.wf fun Pb s4 m4 => ?_
 have e4 := m4.eq
 have n4 := m4.n
 refine ⟨m4.fresh rfl, ?_⟩
 rw [Zi6 h (by omega) m4.wf]
 refine ⟨.refl _, ?_⟩
 refine Zdb Zvf Yb9 m4.wf (by omega) (Int.le_refl _) (by omega) (by decide) fun rb s5 m5 => ?_
 have e5 := m5.eq
 have n5 := m5.n
 refine ⟨m5.fresh (zv _ _ ⟨by decide, rfl⟩), ?_⟩
 rw [Ye9, Zaa]
 refine Zag Zea ((m5.grew.same Pb (by omega)).trans m4.here) (l := Zfz (shR h).toNat h.q.toNat rb ob) rfl (by decide) m5.wf (by omega) rfl rfl fun s6 p6 => ?_
 have n6 := p6.n
 refine ⟨by omega, ?_⟩
 have hb7 : (Zfz (shR h).toNat h.q.toNat rb ob)[7]? = some (.slice (some ⟨ob, 0, none⟩) h.q.toNat h.q.toNat) := rfl
 simp (maxSteps := 10000000) only [wW, reduceCtorEq, Nat.reduceEqDiff, Zel, Zab, Zan Znt, Zac p6.here, Nat.zero_add, hb7, Zcv Zr7]
 have g05 : Grew (ent s) s5 := m1.grew.trans (m2.grew.trans (m3.grew.trans (m4.grew.trans m5.grew)))
 have g06 : Grew (ent s) s6 := p6.grew _ hw.ent g05 (by omega)
 have hI0 : BlI (ent s) C Pb O rb ob h (shR h).toNat h.q.toNat s6.n 0 s6 := by
  refine ⟨p6.wf, g06, ?_, p6.here, ⟨_, (p6.rest O (by omega)).trans ((m5.grew.same O (by omega)).trans ((m4.grew.same O (by omega)).trans ((m3.grew.same O (by omega)).trans m2.here))), rfl⟩, ?_, Nat.le_refl _, fun _ => 0, Zaz z59 (h.q.toNat * 13), ?_, ?_, fun j hj => absurd hj (by omega), fun p hp _ => ?_, fun j hj => absurd hj (by omega)⟩
  ·exact (p6.rest C (by omega)).trans ((m5.grew.same C (by omega)).trans ((m4.grew.same C (by omega)).trans ((m3.grew.same C (by omega)).trans hC2)))
  ·exact (p6.rest rb (by omega)).trans m5.here
  ·exact (p6.rest ob (by omega)).trans ((m5.grew.same ob (by omega)).trans ((m4.grew.same ob (by omega)).trans m3.here))
  ·rw [Zck]; omega
  ·exact Z6k (by omega)
 refine Zdx Z5q Z5i (fun (i : Nat) τ ds s' => i ≤ h.q.toNat ∧ τ 1 = ptr C ∧ τ 2 = ptr O ∧ τ 3 = ptr Pb ∧ τ 14 = .int .i64 h.q.toNat ∧ τ 15 = .int .i64 i ∧ ds = [] ∧ BlI (ent s) C Pb O rb ob h (shR h).toNat h.q.toNat s6.n i s') (fun i => h.q.toNat - i) ?_ 0 ⟨by omega, ?_, ?_, ?_, ?_, ?_, rfl, hI0⟩
 ·rintro i τ ds s' ⟨hi, t1, t2, t3, t14, t15, rfl, hI⟩
  rw [Z5a]
  unfold Zo3
  simp (maxSteps := 10000000) only [wW, reduceCtorEq, Nat.reduceEqDiff, t1, t2, t3, t14, t15]
  obtain ⟨fb, oc, ho, hol, hof, hon, hfb⟩ := hI.ex
  have him := hI.m
  by_cases hlt : i < h.q.toNat
  ·rw [if_pos (by omega)]
   simp (maxSteps := 10000000) only [wW, reduceCtorEq, Nat.reduceEqDiff, Zel, Zab, Zan Znt, Zac hI.pb, Nat.zero_add, hb7, hs2, true_and]
   rw [Zah Zc2 hI.sh rfl, Zaa]
   refine ⟨hveq, ?_⟩
   rw [Zi6 h (by omega) hI.wf]
   refine ⟨.refl _, ?_⟩
   refine Zdb Z4v Z7b hI.wf (by omega) (Int.le_refl _) (by omega) (by decide) fun F s7 m7 => ?_
   have e7 := m7.eq
   have n7 := m7.n
   refine ⟨m7.fresh (zv _ _ ⟨by decide, rfl⟩), ?_⟩
   have hix : Zal P 37 (.slice (some ⟨ob, 0, none⟩) h.q.toNat h.q.toNat) (.int .i64 (i : Int)) = some (.pointer (some ⟨ob, i * 13, none⟩)) := by
    simp only [Zal, Yb5, Zuq, Option.bind_some, Zes]
    rw [if_pos ⟨by omega, by omega⟩, Int.toNat_natCast, Nat.zero_add]
   rw [Zae, hix, Zaa]
   simp (maxSteps := 10000000) only [wW, reduceCtorEq, Nat.reduceEqDiff, Zd5]
   have ho7 := (m7.grew.same ob (by omega)).trans ho
   refine Zbc Ybj ho7 m7.wf (by omega) (by omega) rfl fun s8 p8 => ?_
   have n8 := p8.n
   refine ⟨by omega, ?_⟩
   rw [Zaj (by omega) (by omega)]
   refine ⟨i + 1, by omega, by omega, ?_, ?_, ?_, ?_, ?_, ?_⟩
   ·exact t1
   ·exact t2
   ·exact t3
   ·exact t14
   ·rfl
   have g8 : ∀ A, A < s'.n → A ≠ ob → s8.at A = s'.at A := fun A hA hne => (p8.rest A hne).trans (m7.grew.same A hA)
   obtain ⟨co, hO, hO8⟩ := hI.out
   have hsl := St.at_lt hI.sh
   have hpl := St.at_lt hI.pb
   have hrl := St.at_lt hI.rb
   have hol2 := St.at_lt hO
   have hll : (splice oc (i * 13 + 12) [.slice (some ⟨F, 0, none⟩) (shR h).toNat (shR h).toNat]).length = oc.length := Za0 (by simp; omega)
   have hout : ∀ p, p ≠ 13 * i + 12 → (splice oc (i * 13 + 12) [.slice (some ⟨F, 0, none⟩) (shR h).toNat (shR h).toNat])[p]? = oc[p]? := fun p hp => Zb5 (by simp; omega) (by simp; omega)
   refine ⟨p8.wf, p8.grew _ hw.ent (hI.gr.trans m7.grew) (by omega), (g8 C hsl (by omega)).trans hI.sh, (g8 Pb hpl (by omega)).trans hI.pb, ⟨co, (g8 O hol2 (by omega)).trans hO, hO8⟩, (g8 rb hrl (by omega)).trans hI.rb, by omega, fun j => if j = i then F else fb j, _, p8.here, hll.trans hol, fun j hj => ?_, fun p hp hnp => ?_, fun j hj => ?_⟩
   ·dsimp only
    by_cases hji : j = i
    ·subst hji
     rw [if_pos rfl]
     have := Zhh (c := oc) (o := j * 13 + 12) (l := [.slice (some ⟨F, 0, none⟩) (shR h).toNat (shR h).toNat]) (j := 0) (by simp; omega) (by simp)
     rw [Nat.add_zero] at this
     rw [show 13 * j + 12 = j * 13 + 12 by omega, this]; rfl
    ·rw [if_neg hji, hout _ (by omega)]
     exact hof j (by omega)
   ·rw [hout p (hnp i (by omega))]
    exact hon p hp fun j hj => hnp j (by omega)
   ·dsimp only
    by_cases hji : j = i
    ·subst hji
     rw [if_pos rfl]
     refine ⟨(p8.rest F (by omega)).trans m7.here, by omega, fun j2 hj2 e => ?_⟩
     by_cases h2 : j2 = j
     ·exact h2.symm
     ·rw [if_neg h2] at e
      have := St.at_lt (hfb j2 (by omega)).1
      omega
    ·rw [if_neg hji]
     have h3 := hfb j (by omega)
     have hlt3 := St.at_lt h3.1
     refine ⟨(g8 _ hlt3 (by omega)).trans h3.1, h3.2.1, fun j2 hj2 e => ?_⟩
     by_cases h2 : j2 = i
     ·rw [if_pos h2] at e
      omega
     ·rw [if_neg h2] at e
      exact h3.2.2 j2 (by omega) e
  ·obtain rfl : i = h.q.toNat := by omega
   rw [if_neg (by omega)]
   simp (maxSteps := 10000000) only [U, Zad, wW, reduceCtorEq, Nat.reduceEqDiff, t2, t3]
   obtain ⟨co, hO, hO8⟩ := hI.out
   have hpl := St.at_lt hI.pb
   have hrl := St.at_lt hI.rb
   have hool := St.at_lt ho
   rw [Zah Zhy hI.pb rfl, Zaa]
   refine Zag Zea hO (l := Zfz (shR h).toNat h.q.toNat rb ob) rfl (by decide) hI.wf (by omega) hO8 rfl fun s8 p8 => ?_
   rw [Zah Zhy p8.here rfl, Zaa]
   have g8 : Grew (ent s) s8 := p8.grew _ hw.ent hI.gr (by omega)
   refine Zci hw g8 rfl fun s9 g9 hn9 hat => ?_
   have h9 : ∀ A, A ≠ O → s9.at A = s'.at A := fun A hA => (hat A).trans (p8.rest A hA)
   refine hk ⟨rb, ob, fb⟩ s9 g9 ⟨by show s.n ≤ rb; omega, by show s.n ≤ ob; omega, fun j hj => by show s.n ≤ fb j; have := (hfb j hj).2.1; omega⟩ fun W w1 w2 w3 => ?_
   refine Z35 (oc := oc) ⟨w1, w2, w3⟩ (by show rb ≠ ob; omega) (fun j hj => ?_) ((h9 rb (by omega)).trans hI.rb) ((h9 ob (by omega)).trans ho) hol hof hon (fun j hj => ?_)
   ·have := (hfb j hj).2.1
    exact ⟨by show fb j ≠ rb; omega, by show fb j ≠ ob; omega, (hfb j hj).2.2⟩
   ·have := (hfb j hj).2.1
    exact (h9 (fb j) (by omega)).trans (hfb j hj).1
 all_goals rfl
 all_goals rfl
end
abbrev fnV (f : Nat) : Value := .func (.func f) (.mk []) (.mk [])
def plC : List Value := [.nilFunc, fnV 75, fnV 76, fnV 77, fnV 78, fnV 79, fnV 80, fnV 81, fnV 82, fnV 83, fnV 84, fnV 85]
theorem Ygg (s : St) : Zdd P s 84 12 [(1, fnV 75), (2, fnV 76), (3, fnV 77), (4, fnV 78), (5, fnV 79), (6, fnV 80), (7, fnV 81), (8, fnV 82), (9, fnV 83), (10, fnV 84), (11, fnV 85)] =
  some (.slice (some ⟨s.n, 0, none⟩) 12 12, s.new (.cells plC 83 false)) := by kernel_rfl
def lstC (k : Nat) (p : Value) : List Value :=
 if k = 6 ∨ k = 8 then [p, .pointer none, .pointer none, .pointer none]
 else if k = 2 ∨ k = 7 then [.pointer none, .pointer none, p, .pointer none]
 else if k = 10 then [.pointer none, .pointer none, .pointer none, p]
 else [.pointer none, p, .pointer none, .pointer none]
abbrev ptrO (A o : Nat) : Value := .pointer (some ⟨A, o, none⟩)
theorem Ye8 (A o : Nat) : Zdl P 82 (Zbf .e [(0, .const (ptrO A o))]) = some (.agg (.mk [ptrO A o, .pointer none, .pointer none, .pointer none])) := by kernel_rfl
theorem Z55 (A o : Nat) : Zdl P 82 (Zbf .e [(1, .const (ptrO A o))]) = some (.agg (.mk [.pointer none, ptrO A o, .pointer none, .pointer none])) := by kernel_rfl
theorem Ye7 (A o : Nat) : Zdl P 82 (Zbf .e [(2, .const (ptrO A o))]) = some (.agg (.mk [.pointer none, .pointer none, ptrO A o, .pointer none])) := by kernel_rfl
theorem Ygk (A o : Nat) : Zdl P 82 (Zbf .e [(3, .const (ptrO A o))]) = some (.agg (.mk [.pointer none, .pointer none, .pointer none, ptrO A o])) := by kernel_rfl
theorem ixOp {ob Q : Nat} {q : Int} (h0 : 0 ≤ q) (h1 : q < Q) : Zal P 37 (.slice (some ⟨ob, 0, none⟩) Q Q) (.int .i64 q) = some (ptrO ob (13 * q.toNat)) := by
 simp only [Zal, Yb5, Zuq, Option.bind_some, Zes]
 rw [if_pos ⟨h0, h1⟩, Nat.zero_add, Nat.mul_comm]
theorem ixRd {rb R : Nat} {i : Int} (h0 : 0 ≤ i) (h1 : i < R) : Zal P 35 (.slice (some ⟨rb, 0, none⟩) R R) (.int .i64 i) = some (ptrO rb i.toNat) := by
 simp only [Zal, Yfr, Zm1, Option.bind_some, Zes]
 rw [if_pos ⟨h0, h1⟩, Nat.zero_add, Nat.mul_one]
theorem ixFl {fb R : Nat} {i : Int} (h0 : 0 ≤ i) (h1 : i < R) : Zal P 57 (.slice (some ⟨fb, 0, none⟩) R R) (.int .i64 i) = some (ptrO fb (9 * i.toNat)) := by
 simp only [Zal, Yfq, Ycy, Option.bind_some, Zes]
 rw [if_pos ⟨h0, h1⟩, Nat.zero_add, Nat.mul_comm]
theorem Ybn (A o : Nat) (a b c d e f : Nat) : Zdl P 110 (Zbf .e [(0, .const (ptrO A (o + a))), (1, .const (ptrO A (o + b))), (2, .const (ptrO A (o + c))), (3, .const (ptrO A (o + d))), (4, .const (ptrO A (o + e))), (5, .const (ptrO A (o + f)))]) = some (.agg (.mk [ptrO A (o + a), ptrO A (o + b), ptrO A (o + c), ptrO A (o + d), ptrO A (o + e), ptrO A (o + f)])) := by kernel_rfl
theorem Yfa (A o : Nat) (a b c d e f : Nat) : Zdl P 111 (Zbf .e [(0, .const (ptrO A (o + a))), (1, .const (ptrO A (o + b))), (2, .const (ptrO A (o + c))), (3, .const (ptrO A (o + d))), (4, .const (ptrO A (o + e))), (5, .const (ptrO A (o + f)))]) = some (.agg (.mk [ptrO A (o + a), ptrO A (o + b), ptrO A (o + c), ptrO A (o + d), ptrO A (o + e), ptrO A (o + f)])) := by kernel_rfl
theorem aix6 {t e : TypeId} (hu : P.underlying t = some (.array 6 e)) (hs : isz P e = some 1) (ha : ∀ c o, Zc1 P e c o = c[o]?) (l : List Value) {i : Int} (h0 : 0 ≤ i) (h1 : i < 6) : Zhz P t (.agg (.mk l)) (.int .i64 i) = l[i.toNat]? := by
 simp only [Zhz, hu, hs, Option.bind_some]
 rw [if_pos ⟨h0, h1⟩, Nat.mul_one, ha]
section
variable {ro : Nat} {s : St} {K : Value → St → Prop}
theorem Zz2 (hw : Wf s) (hk : ∀ A s', Grew s s' → Wf s' → s'.at A = some (.cells plC 83 false) → K (.slice (some ⟨A, 0, none⟩) 12 12) s') : CallWP P ro 48 [] s K := by
 refine Zas b48 rfl ?_
 rw [n48]
 unfold v48
 simp (maxSteps := 10000000) only [wW, reduceCtorEq, Nat.reduceEqDiff]
 rw [Zmu]
 show wopt (Zdd P (ent s) 84 12 [(1, fnV 75), (2, fnV 76), (3, fnV 77), (4, fnV 78), (5, fnV 79), (6, fnV 80), (7, fnV 81), (8, fnV 82), (9, fnV 83), (10, fnV 84), (11, fnV 85)]) _
 rw [Ygg, Zaa]
 have m := Made.mk' hw.ent (.cells plC 83 false)
 refine Zci hw m.grew rfl fun s' g' hn hat => hk _ s' g' (hw.grew g') ?_
 rw [hat]
 exact m.here
theorem wPl1 {Pb : Nat} {x : Prt} (hw : Wf s) (hro : ro ≤ s.n) (hk : ∀ s', Grew s s' → Wf s' → K (.agg (.mk (lstC 1 (ptrO Pb 0)))) s') : CallWP P ro 75 [ptr Pb, .agg (.mk x.cells)] s K := by
 refine Zas b75 rfl ?_
 rw [n75]
 unfold v75
 simp (maxSteps := 10000000) only [wW, reduceCtorEq, Nat.reduceEqDiff]
 refine Zam hw.ent fun C s1 m1 => ?_
 have e1 := m1.eq
 have hn0 : (ent s).n = s.n := rfl
 have n1 := m1.n
 refine Zai Zqp m1.wf fun O s2 m2 => ?_
 have e2 := m2.eq
 simp (maxSteps := 10000000) only [wW, reduceCtorEq, Nat.reduceEqDiff, Zs2, Nat.zero_add]
 rw [Z55, Zaa]
 refine Zag Zlc m2.here (l := lstC 1 (ptrO Pb 0)) rfl (by decide) m2.wf (by omega) rfl rfl fun s3 p3 => ?_
 rw [Zab, Zah Ztj p3.here rfl, Zaa]
 exact Zci hw (p3.grew _ hw.ent (m1.grew.trans m2.grew) (by omega)) rfl fun s' g' hn hat => hk s' g' (hw.grew g')
theorem wPl2 {Pb : Nat} {x : Prt} (hw : Wf s) (hro : ro ≤ s.n) (hk : ∀ s', Grew s s' → Wf s' → K (.agg (.mk (lstC 2 (ptrO Pb 3)))) s') : CallWP P ro 76 [ptr Pb, .agg (.mk x.cells)] s K := by
 refine Zas b76 rfl ?_
 rw [n76]
 unfold v76
 simp (maxSteps := 10000000) only [wW, reduceCtorEq, Nat.reduceEqDiff]
 refine Zam hw.ent fun C s1 m1 => ?_
 have e1 := m1.eq
 have hn0 : (ent s).n = s.n := rfl
 have n1 := m1.n
 refine Zai Zqp m1.wf fun O s2 m2 => ?_
 have e2 := m2.eq
 simp (maxSteps := 10000000) only [wW, reduceCtorEq, Nat.reduceEqDiff, Zwe, Nat.zero_add]
 rw [Ye7, Zaa]
 refine Zag Zlc m2.here (l := lstC 2 (ptrO Pb 3)) rfl (by decide) m2.wf (by omega) rfl rfl fun s3 p3 => ?_
 rw [Zab, Zah Ztj p3.here rfl, Zaa]
 exact Zci hw (p3.grew _ hw.ent (m1.grew.trans m2.grew) (by omega)) rfl fun s' g' hn hat => hk s' g' (hw.grew g')
theorem wPl3 {Pb : Nat} {x : Prt} (hw : Wf s) (hro : ro ≤ s.n) (hk : ∀ s', Grew s s' → Wf s' → K (.agg (.mk (lstC 3 (ptrO Pb 1)))) s') : CallWP P ro 77 [ptr Pb, .agg (.mk x.cells)] s K := by
 refine Zas b77 rfl ?_
 rw [n77]
 unfold v77
 simp (maxSteps := 10000000) only [wW, reduceCtorEq, Nat.reduceEqDiff]
 refine Zam hw.ent fun C s1 m1 => ?_
 have e1 := m1.eq
 have hn0 : (ent s).n = s.n := rfl
 have n1 := m1.n
 refine Zai Zqp m1.wf fun O s2 m2 => ?_
 have e2 := m2.eq
 simp (maxSteps := 10000000) only [wW, reduceCtorEq, Nat.reduceEqDiff, Zwg, Nat.zero_add]
 rw [Z55, Zaa]
 refine Zag Zlc m2.here (l := lstC 3 (ptrO Pb 1)) rfl (by decide) m2.wf (by omega) rfl rfl fun s3 p3 => ?_
 rw [Zab, Zah Ztj p3.here rfl, Zaa]
 exact Zci hw (p3.grew _ hw.ent (m1.grew.trans m2.grew) (by omega)) rfl fun s' g' hn hat => hk s' g' (hw.grew g')
theorem wPl4 {Pb : Nat} {x : Prt} (hw : Wf s) (hro : ro ≤ s.n) (hk : ∀ s', Grew s s' → Wf s' → K (.agg (.mk (lstC 4 (ptrO Pb 2)))) s') : CallWP P ro 78 [ptr Pb, .agg (.mk x.cells)] s K := by
 refine Zas b78 rfl ?_
 rw [n78]
 unfold v78
 simp (maxSteps := 10000000) only [wW, reduceCtorEq, Nat.reduceEqDiff]
 refine Zam hw.ent fun C s1 m1 => ?_
 have e1 := m1.eq
 have hn0 : (ent s).n = s.n := rfl
 have n1 := m1.n
 refine Zai Zqp m1.wf fun O s2 m2 => ?_
 have e2 := m2.eq
 simp (maxSteps := 10000000) only [wW, reduceCtorEq, Nat.reduceEqDiff, Zwf, Nat.zero_add]
 rw [Z55, Zaa]
 refine Zag Zlc m2.here (l := lstC 4 (ptrO Pb 2)) rfl (by decide) m2.wf (by omega) rfl rfl fun s3 p3 => ?_
 rw [Zab, Zah Ztj p3.here rfl, Zaa]
 exact Zci hw (p3.grew _ hw.ent (m1.grew.trans m2.grew) (by omega)) rfl fun s' g' hn hat => hk s' g' (hw.grew g')
theorem wPl6 {Pb : Nat} {x : Prt} (hw : Wf s) (hro : ro ≤ s.n) (hk : ∀ s', Grew s s' → Wf s' → K (.agg (.mk (lstC 6 (ptrO Pb 5)))) s') : CallWP P ro 80 [ptr Pb, .agg (.mk x.cells)] s K := by
 refine Zas b80 rfl ?_
 rw [n80]
 unfold v80
 simp (maxSteps := 10000000) only [wW, reduceCtorEq, Nat.reduceEqDiff]
 refine Zam hw.ent fun C s1 m1 => ?_
 have e1 := m1.eq
 have hn0 : (ent s).n = s.n := rfl
 have n1 := m1.n
 refine Zai Zqp m1.wf fun O s2 m2 => ?_
 have e2 := m2.eq
 simp (maxSteps := 10000000) only [wW, reduceCtorEq, Nat.reduceEqDiff, Zwd, Nat.zero_add]
 rw [Ye8, Zaa]
 refine Zag Zlc m2.here (l := lstC 6 (ptrO Pb 5)) rfl (by decide) m2.wf (by omega) rfl rfl fun s3 p3 => ?_
 rw [Zab, Zah Ztj p3.here rfl, Zaa]
 exact Zci hw (p3.grew _ hw.ent (m1.grew.trans m2.grew) (by omega)) rfl fun s' g' hn hat => hk s' g' (hw.grew g')
theorem wPl7 {Pb : Nat} {x : Prt} (hw : Wf s) (hro : ro ≤ s.n) (hk : ∀ s', Grew s s' → Wf s' → K (.agg (.mk (lstC 7 (ptrO Pb 6)))) s') : CallWP P ro 81 [ptr Pb, .agg (.mk x.cells)] s K := by
 refine Zas b81 rfl ?_
 rw [n81]
 unfold v81
 simp (maxSteps := 10000000) only [wW, reduceCtorEq, Nat.reduceEqDiff]
 refine Zam hw.ent fun C s1 m1 => ?_
 have e1 := m1.eq
 have hn0 : (ent s).n = s.n := rfl
 have n1 := m1.n
 refine Zai Zqp m1.wf fun O s2 m2 => ?_
 have e2 := m2.eq
 simp (maxSteps := 10000000) only [wW, reduceCtorEq, Nat.reduceEqDiff, Zwc, Nat.zero_add]
 rw [Ye7, Zaa]
 refine Zag Zlc m2.here (l := lstC 7 (ptrO Pb 6)) rfl (by decide) m2.wf (by omega) rfl rfl fun s3 p3 => ?_
 rw [Zab, Zah Ztj p3.here rfl, Zaa]
 exact Zci hw (p3.grew _ hw.ent (m1.grew.trans m2.grew) (by omega)) rfl fun s' g' hn hat => hk s' g' (hw.grew g')
variable {W : Nat → Prop} {cs : List Value} {B : PfB} {R Q : Nat} {g : Nat → Nat → Nat → List Int}
theorem wPl5 {Pb : Nat} {x : Prt} (hPb : s.at Pb = some (.cells cs 39 false)) (h : PfAt s W cs B R Q g) (hi : 0 ≤ x.i ∧ x.i < R) (hw : Wf s) (hro : ro ≤ s.n) (hk : ∀ s', Grew s s' → Wf s' → K (.agg (.mk (lstC 5 (ptrO B.rb x.i.toNat)))) s') : CallWP P ro 79 [ptr Pb, .agg (.mk x.cells)] s K := by
 refine Zas b79 rfl ?_
 rw [n79]
 unfold v79
 simp (maxSteps := 10000000) only [wW, reduceCtorEq, Nat.reduceEqDiff]
 refine Zam hw.ent fun C s1 m1 => ?_
 have e1 := m1.eq
 have hn0 : (ent s).n = s.n := rfl
 have n1 := m1.n
 refine Zai Zqp m1.wf fun O s2 m2 => ?_
 have e2 := m2.eq
 have hPl := St.at_lt hPb
 have hP2 : s2.at Pb = some (.cells cs 39 false) := (m2.grew.same Pb (by omega)).trans ((m1.grew.same Pb (by omega)).trans hPb)
 have hC2 : s2.at C = some (.cells x.cells 30 false) := (m2.grew.same C (by omega)).trans m1.here
 have hx2 : x.cells[2]? = some (.int .i64 x.i) := rfl
 have hi2 : veq (.int .i64 x.i) (.int .i64 x.i) = true := by simp [veq]
 have hs2 : veq (.slice (some ⟨B.rb, 0, none⟩) R R) (.slice (some ⟨B.rb, 0, none⟩) R R) = true := by simp [veq]
 simp (maxSteps := 10000000) only [wW, reduceCtorEq, Nat.reduceEqDiff, Zjk, Nat.zero_add, Zab, Zan Zwp, Zac hP2, h.c4, hs2, true_and, Zd2, Zan ap_3, Zac hC2, hx2, hi2, Zae, ixRd hi.1 hi.2]
 rw [Z55, Zaa]
 refine Zag Zlc m2.here (l := lstC 5 (ptrO B.rb x.i.toNat)) rfl (by decide) m2.wf (by omega) rfl rfl fun s3 p3 => ?_
 rw [Zah Ztj p3.here rfl, Zaa]
 exact Zci hw (p3.grew _ hw.ent (m1.grew.trans m2.grew) (by omega)) rfl fun s' g' hn hat => hk s' g' (hw.grew g')
theorem wPl8 {Pb : Nat} {x : Prt} (hPb : s.at Pb = some (.cells cs 39 false)) (h : PfAt s W cs B R Q g) (hq : 0 ≤ x.q ∧ x.q < Q) (hi : 0 ≤ x.i ∧ x.i < 6) (hw : Wf s) (hro : ro ≤ s.n) (hk : ∀ s', Grew s s' → Wf s' → K (.agg (.mk (lstC 8 (ptrO B.ob (13 * x.q.toNat + x.i.toNat))))) s') : CallWP P ro 82 [ptr Pb, .agg (.mk x.cells)] s K := by
 refine Zas b82 rfl ?_
 rw [n82]
 unfold v82
 simp (maxSteps := 10000000) only [wW, reduceCtorEq, Nat.reduceEqDiff]
 refine Zam hw.ent fun C s1 m1 => ?_
 have e1 := m1.eq
 have hn0 : (ent s).n = s.n := rfl
 have n1 := m1.n
 refine Zai Zqp m1.wf fun O s2 m2 => ?_
 have e2 := m2.eq
 have hPl := St.at_lt hPb
 have hP2 : s2.at Pb = some (.cells cs 39 false) := (m2.grew.same Pb (by omega)).trans ((m1.grew.same Pb (by omega)).trans hPb)
 have hC2 : s2.at C = some (.cells x.cells 30 false) := (m2.grew.same C (by omega)).trans m1.here
 have hx1 : x.cells[1]? = some (.int .i64 x.q) := rfl
 have hx2 : x.cells[2]? = some (.int .i64 x.i) := rfl
 have hi2 : ∀ z : Int, veq (.int .i64 z) (.int .i64 z) = true := fun z => by simp [veq]
 have hs2 : veq (.slice (some ⟨B.ob, 0, none⟩) Q Q) (.slice (some ⟨B.ob, 0, none⟩) Q Q) = true := by simp [veq]
 simp (maxSteps := 10000000) only [wW, reduceCtorEq, Nat.reduceEqDiff, Zel, Nat.zero_add, Zab, Zan Znt, Zac hP2, h.c7, hs2, true_and, Zpj, Zd2, Zan ap_3, Zac hC2, hx1, hx2, hi2, Zae, ixOp hq.1 hq.2]
 have hget : Zhz P 110 (.agg (.mk [ptrO B.ob (13 * x.q.toNat + 0), ptrO B.ob (13 * x.q.toNat + 1), ptrO B.ob (13 * x.q.toNat + 2), ptrO B.ob (13 * x.q.toNat + 3), ptrO B.ob (13 * x.q.toNat + 4), ptrO B.ob (13 * x.q.toNat + 5)])) (.int .i64 x.i) = some (ptrO B.ob (13 * x.q.toNat + x.i.toNat)) := by
  rw [aix6 Yd4 Yex Zwn _ hi.1 hi.2]
  obtain ⟨i, hii⟩ : ∃ i : Nat, x.i = i := ⟨x.i.toNat, by omega⟩
  rw [hii, Int.toNat_natCast]
  have : i < 6 := by omega
  match i, this with
  | 0, _ => rfl
  | 1, _ => rfl
  | 2, _ => rfl
  | 3, _ => rfl
  | 4, _ => rfl
  | 5, _ => rfl
 simp (maxSteps := 10000000) only [Z13, Z12, Z11, Z10, Z1z, Z1y, Zaa, wW, reduceCtorEq, Nat.reduceEqDiff, Ybn]
 show wopt (Zdl P 110 (Zbf .e [(0, .const (ptrO B.ob (13 * x.q.toNat + 0))), (1, .const (ptrO B.ob (13 * x.q.toNat + 1))), (2, .const (ptrO B.ob (13 * x.q.toNat + 2))), (3, .const (ptrO B.ob (13 * x.q.toNat + 3))), (4, .const (ptrO B.ob (13 * x.q.toNat + 4))), (5, .const (ptrO B.ob (13 * x.q.toNat + 5)))])) _
 rw [Ybn, Zaa, Zi5, hget, Zaa, Ye8, Zaa]
 refine Zag Zlc m2.here (l := lstC 8 (ptrO B.ob (13 * x.q.toNat + x.i.toNat))) rfl (by decide) m2.wf (by omega) rfl rfl fun s3 p3 => ?_
 rw [Zah Ztj p3.here rfl, Zaa]
 exact Zci hw (p3.grew _ hw.ent (m1.grew.trans m2.grew) (by omega)) rfl fun s' g' hn hat => hk s' g' (hw.grew g')
theorem wPl9 {Pb : Nat} {x : Prt} (hPb : s.at Pb = some (.cells cs 39 false)) (h : PfAt s W cs B R Q g) (hq : 0 ≤ x.q ∧ x.q < Q) (hi : 0 ≤ x.i ∧ x.i < 6) (hw : Wf s) (hro : ro ≤ s.n) (hk : ∀ s', Grew s s' → Wf s' → K (.agg (.mk (lstC 9 (ptrO B.ob (13 * x.q.toNat + 6 + x.i.toNat))))) s') : CallWP P ro 83 [ptr Pb, .agg (.mk x.cells)] s K := by
 refine Zas b83 rfl ?_
 rw [n83]
 unfold v83
 simp (maxSteps := 10000000) only [wW, reduceCtorEq, Nat.reduceEqDiff]
 refine Zam hw.ent fun C s1 m1 => ?_
 have e1 := m1.eq
 have hn0 : (ent s).n = s.n := rfl
 have n1 := m1.n
 refine Zai Zqp m1.wf fun O s2 m2 => ?_
 have e2 := m2.eq
 have hPl := St.at_lt hPb
 have hP2 : s2.at Pb = some (.cells cs 39 false) := (m2.grew.same Pb (by omega)).trans ((m1.grew.same Pb (by omega)).trans hPb)
 have hC2 : s2.at C = some (.cells x.cells 30 false) := (m2.grew.same C (by omega)).trans m1.here
 have hx1 : x.cells[1]? = some (.int .i64 x.q) := rfl
 have hx2 : x.cells[2]? = some (.int .i64 x.i) := rfl
 have hi2 : ∀ z : Int, veq (.int .i64 z) (.int .i64 z) = true := fun z => by simp [veq]
 have hs2 : veq (.slice (some ⟨B.ob, 0, none⟩) Q Q) (.slice (some ⟨B.ob, 0, none⟩) Q Q) = true := by simp [veq]
 simp (maxSteps := 10000000) only [wW, reduceCtorEq, Nat.reduceEqDiff, Zel, Nat.zero_add, Zab, Zan Znt, Zac hP2, h.c7, hs2, true_and, Zpj, Zd2, Zan ap_3, Zac hC2, hx1, hx2, hi2, Zae, ixOp hq.1 hq.2]
 have hget : Zhz P 111 (.agg (.mk [ptrO B.ob (13 * x.q.toNat + 6), ptrO B.ob (13 * x.q.toNat + 7), ptrO B.ob (13 * x.q.toNat + 8), ptrO B.ob (13 * x.q.toNat + 9), ptrO B.ob (13 * x.q.toNat + 10), ptrO B.ob (13 * x.q.toNat + 11)])) (.int .i64 x.i) = some (ptrO B.ob (13 * x.q.toNat + 6 + x.i.toNat)) := by
  rw [aix6 Yd3 Yew Z9g _ hi.1 hi.2]
  obtain ⟨i, hii⟩ : ∃ i : Nat, x.i = i := ⟨x.i.toNat, by omega⟩
  rw [hii, Int.toNat_natCast]
  have : i < 6 := by omega
  match i, this with
  | 0, _ => rfl
  | 1, _ => rfl
  | 2, _ => rfl
  | 3, _ => rfl
  | 4, _ => rfl
  | 5, _ => rfl
 simp (maxSteps := 10000000) only [Z1x, Z1w, Z1v, Z1u, Zwb, Zwa, Zaa, wW, reduceCtorEq, Nat.reduceEqDiff, Yfa]
 rw [hget, Zaa, Z55, Zaa]
 refine Zag Zlc m2.here (l := lstC 9 (ptrO B.ob (13 * x.q.toNat + 6 + x.i.toNat))) rfl (by decide) m2.wf (by omega) rfl rfl fun s3 p3 => ?_
 rw [Zah Ztj p3.here rfl, Zaa]
 exact Zci hw (p3.grew _ hw.ent (m1.grew.trans m2.grew) (by omega)) rfl fun s' g' hn hat => hk s' g' (hw.grew g')
theorem Yfm {Pb : Nat} {x : Prt} (hPb : s.at Pb = some (.cells cs 39 false)) (h : PfAt s W cs B R Q g) (hq : 0 ≤ x.q ∧ x.q < Q) (hi : 0 ≤ x.i ∧ x.i < R) (hw : Wf s) (hro : ro ≤ s.n) (hk : ∀ s', Grew s s' → Wf s' → K (.agg (.mk (lstC 10 (ptrO (B.fb x.q.toNat) (9 * x.i.toNat))))) s') : CallWP P ro 84 [ptr Pb, .agg (.mk x.cells)] s K := by
 refine Zas b84 rfl ?_
 rw [n84]
 unfold v84
 simp (maxSteps := 10000000) only [wW, reduceCtorEq, Nat.reduceEqDiff]
 refine Zam hw.ent fun C s1 m1 => ?_
 have e1 := m1.eq
 have hn0 : (ent s).n = s.n := rfl
 have n1 := m1.n
 refine Zai Zqp m1.wf fun O s2 m2 => ?_
 have e2 := m2.eq
 have hPl := St.at_lt hPb
 have hP2 : s2.at Pb = some (.cells cs 39 false) := (m2.grew.same Pb (by omega)).trans ((m1.grew.same Pb (by omega)).trans hPb)
 have hC2 : s2.at C = some (.cells x.cells 30 false) := (m2.grew.same C (by omega)).trans m1.here
 have hx1 : x.cells[1]? = some (.int .i64 x.q) := rfl
 have hx2 : x.cells[2]? = some (.int .i64 x.i) := rfl
 have hi2 : ∀ z : Int, veq (.int .i64 z) (.int .i64 z) = true := fun z => by simp [veq]
 have hs2 : ∀ A n c, veq (.slice (some ⟨A, 0, none⟩) n c) (.slice (some ⟨A, 0, none⟩) n c) = true := fun A n c => by simp [veq]
 obtain ⟨oc, ho, _, hof⟩ := h.ob
 have hol := St.at_lt ho
 have ho2 : s2.at B.ob = some (.cells oc 59 false) := (m2.grew.same B.ob (by omega)).trans ((m1.grew.same B.ob (by omega)).trans ho)
 simp (maxSteps := 10000000) only [wW, reduceCtorEq, Nat.reduceEqDiff, Zel, Nat.zero_add, Zab, Zan Znt, Zac hP2, h.c7, hs2, true_and, Zpj, Zd2, Zan ap_3, Zac hC2, hx1, hx2, hi2, Zae, ixOp hq.1 hq.2, Zd5, Zan Zwo, Zac ho2, hof x.q.toNat (by omega), ixFl hi.1 hi.2, Zri]
 rw [Ygk, Zaa]
 refine Zag Zlc m2.here (l := lstC 10 (ptrO (B.fb x.q.toNat) (9 * x.i.toNat))) rfl (by decide) m2.wf (by omega) rfl rfl fun s3 p3 => ?_
 rw [Zah Ztj p3.here rfl, Zaa]
 exact Zci hw (p3.grew _ hw.ent (m1.grew.trans m2.grew) (by omega)) rfl fun s' g' hn hat => hk s' g' (hw.grew g')
theorem Yfl {Pb : Nat} {x : Prt} (hPb : s.at Pb = some (.cells cs 39 false)) (h : PfAt s W cs B R Q g) (hq : 0 ≤ x.q ∧ x.q < Q) (hi : 0 ≤ x.i ∧ x.i < R) (hw : Wf s) (hro : ro ≤ s.n) (hk : ∀ s', Grew s s' → Wf s' → K (.agg (.mk (lstC 11 (ptrO (B.fb x.q.toNat) (9 * x.i.toNat + 8))))) s') : CallWP P ro 85 [ptr Pb, .agg (.mk x.cells)] s K := by
 refine Zas b85 rfl ?_
 rw [n85]
 unfold v85
 simp (maxSteps := 10000000) only [wW, reduceCtorEq, Nat.reduceEqDiff]
 refine Zam hw.ent fun C s1 m1 => ?_
 have e1 := m1.eq
 have hn0 : (ent s).n = s.n := rfl
 have n1 := m1.n
 refine Zai Zqp m1.wf fun O s2 m2 => ?_
 have e2 := m2.eq
 have hPl := St.at_lt hPb
 have hP2 : s2.at Pb = some (.cells cs 39 false) := (m2.grew.same Pb (by omega)).trans ((m1.grew.same Pb (by omega)).trans hPb)
 have hC2 : s2.at C = some (.cells x.cells 30 false) := (m2.grew.same C (by omega)).trans m1.here
 have hx1 : x.cells[1]? = some (.int .i64 x.q) := rfl
 have hx2 : x.cells[2]? = some (.int .i64 x.i) := rfl
 have hi2 : ∀ z : Int, veq (.int .i64 z) (.int .i64 z) = true := fun z => by simp [veq]
 have hs2 : ∀ A n c, veq (.slice (some ⟨A, 0, none⟩) n c) (.slice (some ⟨A, 0, none⟩) n c) = true := fun A n c => by simp [veq]
 obtain ⟨oc, ho, _, hof⟩ := h.ob
 have hol := St.at_lt ho
 have ho2 : s2.at B.ob = some (.cells oc 59 false) := (m2.grew.same B.ob (by omega)).trans ((m1.grew.same B.ob (by omega)).trans ho)
 simp (maxSteps := 10000000) only [wW, reduceCtorEq, Nat.reduceEqDiff, Zel, Nat.zero_add, Zab, Zan Znt, Zac hP2, h.c7, hs2, true_and, Zpj, Zd2, Zan ap_3, Zac hC2, hx1, hx2, hi2, Zae, ixOp hq.1 hq.2, Zd5, Zan Zwo, Zac ho2, hof x.q.toNat (by omega), ixFl hi.1 hi.2, Zrh]
 rw [Z55, Zaa]
 refine Zag Zlc m2.here (l := lstC 11 (ptrO (B.fb x.q.toNat) (9 * x.i.toNat + 8))) rfl (by decide) m2.wf (by omega) rfl rfl fun s3 p3 => ?_
 rw [Zah Ztj p3.here rfl, Zaa]
 exact Zci hw (p3.grew _ hw.ent (m1.grew.trans m2.grew) (by omega)) rfl fun s' g' hn hat => hk s' g' (hw.grew g')
end
section
variable {ro : Nat} {s : St} {K : Value → St → Prop}
theorem Yea {v : Value} {l : List Int} (h : U64s s v l) {k : Int} (h0 : 0 ≤ k) (hk : k < l.length) : ∃ w, U64s s w (l.drop k.toNat) ∧ veq w w = true ∧
  ∀ (ty : TypeId) (s' : St) (K : Value → St → Prop), wop P ro (.slice 36 (.const v) (some (.const (.int .i64 k))) none none) ty s' K = K w s' := by
 have hs : isz P 34 = some 1 := Zfm
 have hund : P.underlying 36 = some (.slice 34) := Ydz
 obtain ⟨a, c, rfl, hl, ⟨hc, hnone, hsp⟩, hb⟩ := h
 obtain ⟨A, o, m, cells, t, op, rfl, hm, hA, hcs⟩ := hb (by omega)
 have hm2 := hsp _ rfl
 simp only at hm2
 have hlen : ((l.drop k.toNat).map (Value.int .u64)).length = (l.drop k.toNat).length * 1 := by simp
 have hhi : Zb9 none l.length c = some l.length := rfl
 have hlo : Zb9 (some (.int .i64 k)) 0 l.length = some k.toNat := by
  simp only [Zb9]
  rw [if_pos ⟨by omega, by omega⟩]
 have hblk : ∀ sp, mkOk sp = true → (l.drop k.toNat).length * 1 ≠ 0 → ∃ A' o' m' cells t op, some (⟨A, o + k.toNat * 1, sp⟩ : Addr) = some ⟨A', o', m'⟩ ∧ mkOk m' = true ∧ s.at A' = some (.cells cells t op) ∧ (cells.drop o').take ((l.drop k.toNat).length * 1) = (l.drop k.toNat).map (.int .u64) := fun sp hsp' _ => by
  refine ⟨A, _, sp, cells, t, op, rfl, hsp', hA, ?_⟩
  rw [List.map_drop, ← hcs, List.drop_take, List.drop_drop]
  congr 1
  ·simp
  ·rw [Nat.mul_one]
 rcases hm2 with rfl | ⟨rfl, hpos⟩
 ·refine ⟨.slice (some ⟨A, o + k.toNat * 1, none⟩) (l.length - k.toNat) (c - k.toNat), ⟨_, _, by rw [List.length_drop], hlen, ⟨by rw [List.length_drop]; omega, fun h => (by cases h), fun x hx => (by cases hx; exact .inl rfl)⟩, hblk none rfl⟩, by simp [veq], fun ty s' K => ?_⟩
  rw [Zip]
  have hne : ¬ c = k.toNat := by omega
  simp only [Zbx, hund, hs, Zh5, Option.map_some, Option.map_none, aval, hhi, hlo, Option.bind_some, hne, if_false, Zaa]
 ·refine ⟨.slice (some ⟨A, o + k.toNat * 1, some 0⟩) (l.length - k.toNat) (c - k.toNat), ⟨_, _, by rw [List.length_drop], hlen, ⟨by rw [List.length_drop]; omega, fun h => (by cases h), fun x hx => (by cases hx; exact .inr ⟨rfl, by omega⟩)⟩, hblk (some 0) rfl⟩, by simp [veq], fun ty s' K => ?_⟩
  rw [Zip]
  have hne : k.toNat < c := by omega
  simp only [Zbx, hund, hs, Zh5, Option.map_some, Option.map_none, aval, hhi, hlo, Option.bind_some, hne, if_true, Zaa]
theorem Yf0 {v : Value} {l : List Int} (h : U64s s v l) {i : Nat} (hi : i + 2 ≤ l.length) : ∃ A o cells t op, s.at A = some (.cells cells t op) ∧ cut cells o 2 = some [.int .u64 (l[i]), .int .u64 (l[i + 1])] ∧
  ∀ (ty : TypeId) (s' : St) (K : Value → St → Prop), wop P ro (.slice 36 (.const v) (some (.const (.int .i64 (i : Int)))) (some (.const (.int .i64 ((i : Int) + 2)))) (some (.const (.int .i64 ((i : Int) + 2))))) ty s' K = K (.slice (some ⟨A, o, none⟩) 2 2) s' := by
 have hs : isz P 34 = some 1 := Zfm
 have hund : P.underlying 36 = some (.slice 34) := Ydz
 obtain ⟨x, c, rfl, hl, ⟨hc, hnone, hsp⟩, hbk⟩ := h
 obtain ⟨A, o, m, cells, t, op, rfl, hm, hA, hcs⟩ := hbk (by omega)
 have hm2 := hsp _ rfl
 simp only at hm2
 have hmx : Zb9 (some (.int .i64 ((i : Int) + 2))) 0 c = some (i + 2) := by
  simp only [Zb9]
  rw [if_pos ⟨by omega, by omega⟩]
  rfl
 have hhi : Zb9 (some (.int .i64 ((i : Int) + 2))) 0 (i + 2) = some (i + 2) := by
  simp only [Zb9]
  rw [if_pos ⟨by omega, by omega⟩]
  rfl
 have hlo : Zb9 (some (.int .i64 (i : Int))) 0 (i + 2) = some i := by
  simp only [Zb9]
  rw [if_pos ⟨by omega, by omega⟩]
  rfl
 have hne : ¬ i + 2 = i := by omega
 have hcl : o + l.length ≤ cells.length := by
  have := congrArg List.length hcs
  rw [List.length_take, List.length_drop, List.length_map] at this
  omega
 refine ⟨A, o + i * 1, cells, t, op, hA, ?_, fun ty s' K => ?_⟩
 ·rw [Zj0 (by omega)]
  have e : (cells.drop (o + i * 1)).take 2 = ((l.map (Value.int .u64)).drop i).take 2 := by
   rw [← hcs, List.drop_take, List.drop_drop, List.take_take, Nat.mul_one, Nat.min_eq_left (by omega)]
  rw [e, Ziw (by rw [List.length_map]; omega), Ziw (by rw [List.length_map]; omega), List.getElem_map, List.getElem_map]
  rfl
 ·rw [Zip]
  have e2 : i + 2 - i = 2 := by omega
  rcases hm2 with rfl | ⟨rfl, hpos⟩ <;> simp only [Zbx, hund, hs, Zo9, Option.map_some, Option.map_none, aval, hmx, hhi, hlo, Option.bind_some, hne, if_false, Zaa, e2]
theorem Z92 {L C N : Nat} {u : Value} {l : List Int} (r0 : Lp) (Inv : Nat → St → Prop) (hlen : r0.params.length = 1)
  (hloop : ∀ i s, Inv i s → s.at L = some (.loop r0)) (hC : ∀ i s, Inv i s → ∃ T o, s.at C = some (.cells [u] T o)) (hN : ∀ i s, Inv i s → ∃ T o, s.at N = some (.cells [.int .i64 2] T o)) (hI : ∀ i s, Inv i s → U64s s u l) (hl : l.length < 2 ^ 60) {m : Nat} (hev : l.length = 2 * m)
  (hLs : L < s.n)
  (hround : ∀ i s' A o cells t op (hi : 2 * i + 2 ≤ l.length), Inv i s' → s'.at A = some (.cells cells t op) → cut cells o 2 = some [.int .u64 (l[2 * i]), .int .u64 (l[2 * i + 1])] → Zlx P ro L (setAll r0.t r0.params [.slice (some ⟨A, o, none⟩) 2 2]) r0.assign r0.body s' fun v s2 => v = .bool true ∧ s2.lo ≤ L ∧ Inv (i + 1) s2)
  (h0e : Inv 0 (ent s)) (hk0 : m = 0 → K (.tuple (.mk [])) s) (hk : ∀ s', Inv m s' → K (.tuple (.mk [])) { s' with lo := min s.lo s'.lo }) :
  CallWP P ro 96 [.func (.yield L) (.mk []) (.mk []), ptr C, ptr N] s K := by
 refine Zas b96 rfl ?_
 rw [n96]
 unfold v96
 simp (maxSteps := 10000000) only [wW, reduceCtorEq, Nat.reduceEqDiff]
 refine Zdx Ycv Ycu (fun (i : Nat) τ ds s' => i ≤ m ∧ τ 0 = .func (.yield L) (.mk []) (.mk []) ∧ τ 1 = ptr C ∧ τ 2 = ptr N ∧ τ 4 = .int .i64 ((2 * i : Nat) : Int) ∧ ds = [] ∧ Inv i s' ∧ (i = 0 → s' = ent s) ∧ (0 < i → s'.lo ≤ L)) (fun i => m - i) ?_ 0 ⟨by omega, ?_, ?_, ?_, ?_, rfl, h0e, fun _ => rfl, fun h => absurd h (by omega)⟩
 ·rintro i τ ds s' ⟨hi, t0, t1, t2, t4, rfl, hInv, hz, hp⟩
  rw [Ycs]
  unfold Zz6
  obtain ⟨T1, o1, hc⟩ := hC i s' hInv
  obtain ⟨T2, o2, hn⟩ := hN i s' hInv
  have hIs := hI i s' hInv
  by_cases hlt : i < m
  ·obtain ⟨w1, i1, _, q1⟩ := Yea (ro := ro) hIs (k := ((2 * i : Nat) : Int)) (by omega) (by omega)
   rw [Int.toNat_natCast] at i1
   have hmin : (if ((l.drop (2 * i)).length : Int) < 2 then ((l.drop (2 * i)).length : Int) else 2) = 2 := by
    rw [List.length_drop, if_neg (by omega)]
   obtain ⟨A, o, cells, t, op, hA, hcut, q3⟩ := Yf0 (ro := ro) hIs (i := 2 * i) (by omega)
   have hadd : IntKind.i64.wrap (((2 * i : Nat) : Int) + 2) = ((2 * i : Nat) : Int) + 2 := Zaj (by omega) (by omega)
   simp (maxSteps := 10000000) only [wW, reduceCtorEq, Nat.reduceEqDiff, Zab, Zan Znu, Zan ap_3, t0, t1, t2, t4, Zac hc, Zac hn, List.getElem?_cons_zero, hIs.wlen Zh1, q1, i1.wlen Zh1, Zre, hmin, hadd, q3]
   rw [if_pos (by omega)]
   refine Ya5 (hloop i s' hInv) hlen ?_
   obtain ⟨n, v, s2, e, rfl, h2, h3⟩ := hround i s' A o cells t op (by omega) hInv hA hcut
   refine ⟨n, _, s2, e, ?_⟩
   obtain ⟨T3, o3, hn2⟩ := hN (i + 1) s2 h3
   simp (maxSteps := 10000000) only [wW, reduceCtorEq, Nat.reduceEqDiff, Zan ap_3, Zac hn2, List.getElem?_cons_zero]
   rw [Zaj (by omega) (by omega)]
   refine ⟨i + 1, by omega, by omega, ?_, ?_, ?_, ?_, trivial, h3, fun h => absurd h (by omega), fun _ => h2⟩
   ·simp only [U, Zad, wW, reduceCtorEq, Nat.reduceEqDiff, t0]
   ·simp only [U, Zad, wW, reduceCtorEq, Nat.reduceEqDiff, t1]
   ·simp only [U, Zad, wW, reduceCtorEq, Nat.reduceEqDiff, t2]
   ·simp only [U, Zad, wW, reduceCtorEq, Nat.reduceEqDiff]
    congr 1
  ·obtain rfl : i = m := by omega
   simp (maxSteps := 10000000) only [wW, reduceCtorEq, Nat.reduceEqDiff, Zab, Zan Znu, t1, t4, Zac hc, List.getElem?_cons_zero, hIs.wlen Zh1]
   rw [if_neg (by omega)]
   by_cases hz0 : i = 0
   ·rw [hz (by omega), Zeo (Nat.le_refl _) rfl]
    exact hk0 hz0
   ·have hlo2 := hp (by omega)
    rw [Zh2 (by omega)]
    exact hk _ hInv
 ·simp only [U, Zad, wW, reduceCtorEq, Nat.reduceEqDiff]
 ·simp only [U, Zad, wW, reduceCtorEq, Nat.reduceEqDiff]
 ·simp only [U, Zad, wW, reduceCtorEq, Nat.reduceEqDiff]
 ·simp only [U, Zad, wW, reduceCtorEq, Nat.reduceEqDiff]; rfl
theorem Yb1 {u : Value} (hw : Wf s) (h1 : u.cells.toList = [u]) (hk : ∀ C N s', Grew s s' → s.n ≤ C → s.n ≤ N → C ≠ N → s'.at C = some (.cells [u] 36 false) → s'.at N = some (.cells [.int .i64 2] 3 false) → K (.func (.func 96) (.mk []) (.mk [ptr C, ptr N])) s') :
  CallWP P ro 86 [u, .int .i64 2] s K := by
 refine Zas b86 rfl ?_
 rw [n86]
 unfold v86
 simp (maxSteps := 10000000) only [wW, reduceCtorEq, Nat.reduceEqDiff]
 refine Zam hw.ent fun C s1 m1 => ?_
 refine Zam m1.wf fun N s2 m2 => ?_
 have e1 := m1.eq
 have e2 := m2.eq
 have n1 := m1.n
 have hn0 : (ent s).n = s.n := rfl
 refine Ziv (Zjh ap_3 m2.here rfl) ?_
 simp (maxSteps := 10000000) only [wW, reduceCtorEq, Nat.reduceEqDiff]
 rw [if_neg (by decide)]
 refine Zci hw (m1.grew.trans m2.grew) rfl fun s' hg hn hat => hk C N s' hg (by omega) (by omega) (by omega) ?_ ?_
 ·rw [hat C, m2.grew.same C (by omega), m1.here, h1]
 ·rw [hat N, m2.here]; rfl
end
theorem Keeps.ptr1 {s s' : St} {i A o : Nat} (hn : s.n ≤ s'.n) (h : s'.at A = s.at A) : Keeps [(i, .ptr (ptrO A o))] s s' := by
 refine ⟨hn, fun x hx => ?_⟩
 simp only [List.mem_cons, List.not_mem_nil, or_false] at hx
 subst hx
 intro y z e hz
 cases e
 rw [h]
 exact hz
theorem Ych {c : List Value} {o : Nat} {a b : List Value} (h : o + a.length ≤ c.length) (hab : a.length = b.length) : splice (splice c o a) o b = splice c o b := by
 unfold splice
 have h1 : (c.take o).length = o := by rw [List.length_take]; omega
 rw [List.take_append_of_le_length (by omega), List.take_of_length_le (by omega), List.drop_append, h1, List.drop_of_length_le (by omega), List.nil_append, show o + b.length - o = a.length by omega, List.drop_left, hab]
structure SetR (s : St) (W : Nat → Prop) (A o : Nat) (c : List Value) (T : TypeId) (k : Nat) (l : List Int) (s' : St) : Prop where
 wf : Wf s'
 n : s.n ≤ s'.n
 same : ∀ X, X < s.n → X ≠ A → s'.at X = s.at X
 ex : ∃ vals, s'.at A = some (.cells (splice c o vals) T false) ∧ SlotW s' W k vals l
 gr : ∀ s0, Wf s0 → Grew s0 s → s0.n ≤ A → Grew s0 s'
structure StI (s0 : St) (A o : Nat) (c : List Value) (T : TypeId) (Bx L D C N : Nat) (lp : Lp) (u : Value) (pl : List Value) (l : List Int) (i : Nat) (s : St) : Prop where
 wf : Wf s
 n : s0.n ≤ s.n
 same : ∀ X, X < s0.n → X ≠ A → s.at X = s0.at X
 lo : A ≤ s.lo
 loop : s.at L = some (.loop lp)
 dfr : s.at D = some (.defd (some []))
 bx : s.at Bx = some (.cells pl 82 false)
 hC : s.at C = some (.cells [u] 36 false)
 hN : s.at N = some (.cells [.int .i64 2] 3 false)
 ne : s0.n ≤ Bx ∧ s0.n ≤ C ∧ s0.n ≤ N ∧ s0.n ≤ D ∧ Bx < D ∧ C < D ∧ N < D ∧ L = D + 1
 ex : ∃ v oA, s.at A = some (.cells (splice c o [v]) T false) ∧ Own s v 55 2 i ((l.take (2 * i)).map (.int .u64)) oA ∧ ∀ X, oA = some X → s0.n ≤ X ∧ X ≠ Bx ∧ X ≠ L ∧ X ≠ D ∧ X ≠ C ∧ X ≠ N
section
variable {ro : Nat} {s : St} {K : Value → St → Prop}
theorem pn77 (ty : TypeId) (s : St) (K : Value → St → Prop) : wop P ro (.binOp .neq 77 (.const (.pointer none)) (.const (.pointer none)) 77) ty s K = K (.bool false) s := by kernel_rfl
theorem pn79 (ty : TypeId) (s : St) (K : Value → St → Prop) : wop P ro (.binOp .neq 79 (.const (.pointer none)) (.const (.pointer none)) 79) ty s K = K (.bool false) s := by kernel_rfl
theorem pn80 (ty : TypeId) (s : St) (K : Value → St → Prop) : wop P ro (.binOp .neq 80 (.const (.pointer none)) (.const (.pointer none)) 80) ty s K = K (.bool false) s := by kernel_rfl
theorem ps77 (A o : Nat) (ty : TypeId) (s : St) (K : Value → St → Prop) : wop P ro (.binOp .neq 77 (.const (ptrO A o)) (.const (.pointer none)) 77) ty s K = K (.bool true) s := by kernel_rfl
theorem ps79 (A o : Nat) (ty : TypeId) (s : St) (K : Value → St → Prop) : wop P ro (.binOp .neq 79 (.const (ptrO A o)) (.const (.pointer none)) 79) ty s K = K (.bool true) s := by kernel_rfl
theorem ps80 (A o : Nat) (ty : TypeId) (s : St) (K : Value → St → Prop) : wop P ro (.binOp .neq 80 (.const (ptrO A o)) (.const (.pointer none)) 80) ty s K = K (.bool true) s := by kernel_rfl
theorem Yfj {W : Nat → Prop} {k A o : Nat} {c : List Value} {T : TypeId} {u : Value} {l : List Int} {m : Nat} (hk0 : k = 1 ∨ k = 3 ∨ k = 4 ∨ k = 5 ∨ k = 9 ∨ k = 11) (hA : s.at A = some (.cells c T false)) (hfit : o + 1 ≤ c.length) (hW : W A) (hWlt : ∀ X, W X → X < s.n)
  (hu : U64s s u l) (hub : ∀ X o sp k c, u = .slice (some ⟨X, o, sp⟩) k c → X < s.n ∧ ¬ W X) (hlen : l.length < 2 ^ 30) (hev : l.length = 2 * m) (hw : Wf s) (hro : ro ≤ A) (hk : ∀ s', SetR s W A o c T k l s' → K (.tuple (.mk [])) s') :
  CallWP P ro 49 [.agg (.mk (lstC k (ptrO A o))), u] s K := by
 refine Zas b49 rfl ?_
 rw [n49]
 unfold v49
 have hAl := St.at_lt hA
 have hn0 : (ent s).n = s.n := rfl
 have hl1 : lstC k (ptrO A o) = [.pointer none, ptrO A o, .pointer none, .pointer none] := by
  unfold lstC
  rw [if_neg (by omega), if_neg (by omega), if_neg (by omega)]
 rw [hl1]
 simp (maxSteps := 10000000) only [wW, reduceCtorEq, Nat.reduceEqDiff]
 refine Zam hw.ent fun Bx s1 m1 => ?_
 have e1 := m1.eq
 have n1 := m1.n
 have hB1 : s1.at Bx = some (.cells [.pointer none, ptrO A o, .pointer none, .pointer none] 82 false) := m1.here
 simp (maxSteps := 10000000) only [wW, reduceCtorEq, Nat.reduceEqDiff, Zab, Zlj, Zv9, Zpi, Zv8, Zan Zwn, Zan Z9g, Zan Z6a, Zan Ya1, Zac hB1, pn77, pn79, pn80, Nat.zero_add, List.getElem?_cons_zero, List.getElem?_cons_succ]
 have hAl' : A < s1.n := by omega
 have hA1 : s1.at A = some (.cells c T false) := (m1.grew.same A hAl).trans hA
 refine Zbc Zm1 hA1 m1.wf hro (by omega) rfl fun s2 p2 => ?_
 have n2 := p2.n
 have huc : u.cells.toList = [u] := by obtain ⟨a, cc, rfl, _⟩ := hu; rfl
 refine Yb1 p2.wf huc fun C N s3 g3 hC3 hN3 hCN c3 nn3 => ?_
 have n3 := g3.n
 have w3 := p2.wf.grew g3
 have hCl := St.at_lt c3
 have hNl := St.at_lt nn3
 refine Z2v (by omega) fun t ht => ?_
 have g4 : Grew s3 (s3.new (.defd (some []))) := .new _ _
 generalize hr0 : ({ state := .ready, pending := none, t := t, params := #[10].toList, assign := Zc5, body := Zc4, defers := s3.n } : Lp) = lp
 have g5 : Grew (s3.new (.defd (some []))) ((s3.new (.defd (some []))).new (.loop lp)) := .new _ _
 have hD5 : ((s3.new (.defd (some []))).new (.loop lp)).at s3.n = some (.defd (some [])) := (g5.same s3.n (Nat.lt_succ_self s3.n)).trans (Zdt _ _)
 have hL5 : ((s3.new (.defd (some []))).new (.loop lp)).at (s3.n + 1) = some (.loop lp) := Zdt (s3.new (.defd (some []))) _
 have w5 : Wf ((s3.new (.defd (some []))).new (.loop lp)) := (w3.new _).new _
 have n5 : ((s3.new (.defd (some []))).new (.loop lp)).n = s3.n + 2 := rfl
 have g35 := g4.trans g5
 have hlp : lp.state = .ready ∧ lp.pending = none ∧ lp.t = t ∧ lp.params = [10] ∧ lp.assign = Zc5 ∧ lp.body = Zc4 := by rw [← hr0]; exact ⟨rfl, rfl, rfl, rfl, rfl, rfl⟩
 clear hr0
 generalize (s3.new (.defd (some []))).new (.loop lp) = s5 at *
 have g25 := g3.trans g35
 have elp : ({ lp with state := .ready, pending := none } : Lp) = lp := by
  obtain ⟨a, b, _⟩ := hlp
  cases lp
  simp only at a b
  subst a b
  rfl
 have hold : ∀ X, X < s.n → X ≠ A → s5.at X = s.at X := fun X hX hne => by
  rw [g25.same X (by omega), p2.rest X hne, m1.grew.same X hX]
  rfl
 have hA5 : s5.at A = some (.cells (splice c o [nilS]) T false) := (g25.same A (by omega)).trans p2.here
 have hus : ∀ s', (∀ X, X < s.n → X ≠ A → s'.at X = s.at X) → U64s s' u l := fun s' hs => Sl.sameAt hu fun X o sp k c e => hs X (hub X o sp k c e).1 fun e2 => (hub X o sp k c e).2 (by rw [e2]; exact hW)
 have hI0 : ∀ s6, s6.n = s5.n → (∀ X, s6.at X = s5.at X) → Wf s6 → A ≤ s6.lo → StI s A o c T Bx (s3.n + 1) s3.n C N lp u [.pointer none, ptrO A o, .pointer none, .pointer none] l 0 s6 := fun s6 hn6 hat w6 hlo6 => by
  refine ⟨w6, by omega, fun X hX hne => (hat X).trans (hold X hX hne), hlo6, (hat _).trans hL5, (hat _).trans hD5, (hat _).trans ((g25.same Bx (by omega)).trans ((p2.rest Bx (by omega)).trans hB1)), (hat _).trans ((g35.same C hCl).trans c3), (hat _).trans ((g35.same N hNl).trans nn3), ⟨by omega, by omega, by omega, by omega, by omega, by omega, by omega, rfl⟩, nilS, none, (hat _).trans hA5, ⟨rfl, rfl, by simp⟩, fun X e => by cases e⟩
 refine Z92 (L := s3.n + 1) (C := C) (N := N) (u := u) (l := l) (m := m) lp (fun i s' => StI s A o c T Bx (s3.n + 1) s3.n C N lp u [.pointer none, ptrO A o, .pointer none, .pointer none] l i s') (by rw [hlp.2.2.2.1]; rfl) (fun i s' hI => hI.loop) (fun i s' hI => ⟨_, _, hI.hC⟩) (fun i s' hI => ⟨_, _, hI.hN⟩) (fun i s' hI => hus s' hI.same) (by omega) hev (by omega) (fun i s' A1 o1 cells tt op hi hI hA1 hcut => ?_) ?_ (fun hm0 => ?_) (fun s' hI => ?_)
 ·rw [hlp.2.2.1, hlp.2.2.2.1, hlp.2.2.2.2.1, hlp.2.2.2.2.2]
  obtain ⟨v, oA, hAv, hO, hX⟩ := hI.ex
  have hne := hI.ne
  have hLl := St.at_lt hI.loop
  have hnI := hI.n
  have hBl := St.at_lt hI.bx
  refine Zrb (N := 51) (Agr.set ht 10 _ (by decide)) Zq1 Zq0 (by omega) ?_
  rw [Zqx]
  unfold Zgj
  refine ⟨lp, hI.loop, hlp.1, ?_⟩
  have pb := Put.mk' hI.wf hLl (.loop { lp with state := .busy })
  generalize s'.put (s3.n + 1) (.loop { lp with state := .busy }) = sb at pb ⊢
  have nb := pb.n
  rw [Zqw]
  unfold Zgi
  have hBb := (pb.rest Bx (by omega)).trans hI.bx
  have hAb := (pb.rest A (by omega)).trans hAv
  have hA1l := St.at_lt hA1
  have hA1b : A1 ≠ s3.n + 1 := fun e => by
   rw [e, hI.loop] at hA1
   cases hA1
  have hA1b' := (pb.rest A1 hA1b).trans hA1
  have hvp : veq (ptrO A o) (ptrO A o) = true := by simp [veq]
  have hvv : veq v v = true := by
   cases oA with
   | none => obtain ⟨e, _⟩ := hO; rw [e]; rfl
   | some Y => obtain ⟨e, _⟩ := hO; rw [e]; simp [veq]
  have hvd : veq (.agg (.mk [.int .u64 l[2 * i], .int .u64 l[2 * i + 1]])) (.agg (.mk [.int .u64 l[2 * i], .int .u64 l[2 * i + 1]])) = true := by simp [veq, veqA, veqL]
  have hspl : (splice c o [v])[o]? = some v := by
   have := Zhh (c := c) (o := o) (l := [v]) (j := 0) (by simp; omega) (by simp)
   rw [Nat.add_zero] at this
   rw [this]; rfl
  have har : Zpv P 55 (.slice (some ⟨A1, o1, none⟩) 2 2) = some (ptrO A1 o1) := by
   simp only [Zpv, Ydy]
   rw [if_pos (by omega)]
  simp (maxSteps := 10000000) only [U, Zad, wW, reduceCtorEq, Nat.reduceEqDiff, Zab, Zv9, Zan Z9g, Zan Zfl, Zac hBb, Zac hAb, Nat.zero_add, List.getElem?_cons_zero, List.getElem?_cons_succ, hvp, true_and, hspl, hvv, Z4m, har]
  rw [Zdr Ydf hA1b' hcut, Zaa]
  refine ⟨hvd, ?_⟩
  refine Zb3 Zr8 Z4p pb.wf [.agg (.mk [.int .u64 l[2 * i], .int .u64 l[2 * i + 1]])] rfl rfl (by decide) (fun v hv => by
   simp only [List.mem_cons, List.not_mem_nil, or_false] at hv
   subst hv
   rfl) fun A6 s6 m6 => ?_
  refine ⟨m6.fresh (by simp [veqL, veq, List.flatMap, Value.cells]), ?_⟩
  have e6 := m6.eq
  have n6 := m6.n
  have x6 : Sl s6 (.slice (some ⟨A6, 0, none⟩) 1 1) 2 1 [.int .u64 l[2 * i], .int .u64 l[2 * i + 1]] := m6.sl rfl
  have hO6 : Own s6 v 55 2 i ((l.take (2 * i)).map (.int .u64)) oA := Own.grew (Own.same (s' := sb) hO fun X e => pb.rest X (by have := hX X e; omega)) m6.grew
  refine Zf1 Zr8 (by kernel_rfl) Z4p (by decide) (by decide) hO6 x6 (by decide) m6.wf (fun X e => by have := hX X e; omega) (by omega) rfl fun v7 s7 hO7 ap => ?_
  have n7 := ap.n
  have hB7 : s7.at Bx = s6.at Bx := ap.rest Bx (by omega) (fun e => by have := hX _ e; omega)
  refine ⟨Keeps.ptr1 (by omega) hB7, ?_⟩
  have hA7 : s7.at A = some (.cells (splice c o [v]) T false) := (ap.rest A (by omega) (fun e => by have := hX _ e; omega)).trans ((m6.grew.same A (by omega)).trans hAb)
  have h1v : v7.oneCell' = true := by obtain ⟨e, _⟩ := hO7; rw [e]; rfl
  have hsl : (splice c o [v]).length = c.length := Za0 (by simp; omega)
  refine Zbc Zm1 hA7 ap.wf hro (by omega) h1v fun s8 p8 => ?_
  have n8 := p8.n
  refine ⟨by omega, ?_⟩
  have h8s : splice (splice c o [v]) o [v7] = splice c o [v7] := Ych (by simp; omega) rfl
  have hother : ∀ X, X < s'.n → X ≠ A → X ≠ s3.n + 1 → oA ≠ some X → s8.at X = s'.at X := fun X h1 h2 h3 h4 => by
   rw [p8.rest X h2, ap.rest X (by omega) h4, m6.grew.same X (by omega), pb.rest X h3]
  have hL8 : s8.at (s3.n + 1) = some (.loop { lp with state := .busy }) := by
   rw [p8.rest _ (by omega), ap.rest _ (by omega) (fun e => by have := hX _ e; omega), m6.grew.same _ (by omega)]
   exact pb.here
  refine ⟨_, hL8, rfl, ?_⟩
  show (s8.put (s3.n + 1) (.loop { lp with state := .ready, pending := none })).lo ≤ s3.n + 1 ∧ _
  refine ⟨Nat.min_le_right _ _, ?_⟩
  show StI s A o c T Bx (s3.n + 1) s3.n C N lp u _ l (i + 1) (s8.put (s3.n + 1) (.loop { lp with state := .ready, pending := none }))
  rw [elp]
  have pf := Put.mk' p8.wf (St.at_lt hL8) (.loop lp)
  generalize s8.put (s3.n + 1) (.loop lp) = sf at pf ⊢
  have nf := pf.n
  have hoth : ∀ X, X < s'.n → X ≠ A → X ≠ s3.n + 1 → oA ≠ some X → sf.at X = s'.at X := fun X h1 h2 h3 h4 => (pf.rest X h3).trans (hother X h1 h2 h3 h4)
  have hCl' := St.at_lt hI.hC
  have hNl' := St.at_lt hI.hN
  have hDl' := St.at_lt hI.dfr
  have htk : (l.take (2 * (i + 1))).map (Value.int .u64) = (l.take (2 * i)).map (Value.int .u64) ++ [.int .u64 l[2 * i], .int .u64 l[2 * i + 1]] := by
   rw [show 2 * (i + 1) = 2 * i + 1 + 1 by omega, Zbm (List.getElem?_eq_getElem (show 2 * i + 1 < l.length by omega)), Zbm (List.getElem?_eq_getElem (show 2 * i < l.length by omega)), List.map_append, List.map_append, List.append_assoc]
   rfl
  refine ⟨pf.wf, by omega, fun X h1 h2 => (hoth X (by omega) h2 (by omega) (fun e => by have := hX X e; omega)).trans (hI.same X h1 h2), ?_, pf.here, ?_, ?_, ?_, ?_, hne, v7, some s6.n, ?_, ?_, fun X e => ?_⟩
  ·have h1 := pf.lo
   have h2 := p8.lo
   have h3 := ap.lo2 A (by rw [m6.grew.lo, pb.lo]; have := hI.lo; omega) (fun X e => by have := hX X e; omega)
   omega
  ·exact (hoth s3.n hDl' (by omega) (by omega) (fun e => by have := hX _ e; omega)).trans hI.dfr
  ·exact (hoth Bx hBl (by omega) (by omega) (fun e => by have := hX _ e; omega)).trans hI.bx
  ·exact (hoth C hCl' (by omega) (by omega) (fun e => by have := hX _ e; omega)).trans hI.hC
  ·exact (hoth N hNl' (by omega) (by omega) (fun e => by have := hX _ e; omega)).trans hI.hN
  ·rw [pf.rest A (by omega), p8.here, h8s]
  ·rw [htk]
   refine Own.same (s := s7) hO7 fun X e => ?_
   cases e
   rw [pf.rest _ (by omega), p8.rest _ (by omega)]
  ·cases e
   omega
 ·exact hI0 (ent s5) rfl (fun _ => rfl) w5.ent (by show A ≤ s5.n; omega)
 ·subst hm0
  have hI6 := hI0 s5 rfl (fun _ => rfl) w5 (by have h1 := g25.lo; have h2 := p2.lo; have h3 := m1.grew.lo; have h4 : (ent s).lo = s.n := rfl; omega)
  have hloU : s5.lo ≤ A := by have h1 := g25.lo; have h2 := p2.lo; omega
  obtain ⟨v, oA, hAv, hO, hX⟩ := hI6.ex
  have hne := hI6.ne
  refine ⟨lp, .normal, hI6.loop, .inl hlp.1, by rw [hlp.2.1]; rfl, ?_⟩
  have pe := Put.mk' hI6.wf (St.at_lt hI6.loop) (.loop { lp with state := .exhausted })
  generalize (s5).put (s3.n + 1) (.loop { lp with state := .exhausted }) = se at pe ⊢
  have hDe := (pe.rest s3.n (by omega)).trans hI6.dfr
  have ne := pe.n
  refine ⟨hDe, by omega, ?_⟩
  have pd := Put.mk' pe.wf (St.at_lt hDe) (.defd none)
  generalize se.put s3.n (.defd none) = sd at pd ⊢
  have nd := pd.n
  have hloA := hI6.lo
  have hn6 := hI6.n
  have hpl := pe.lo
  have hdl := pd.lo
  have hat : ∀ X, X ≠ s3.n → X ≠ s3.n + 1 → sd.at X = (s5).at X := fun X h1 h2 => (pd.rest X h1).trans (pe.rest X h2)
  show wfin s K (.tuple (.mk [])) sd
  rw [Zh2 (by omega)]
  rw [List.take_of_length_le (by omega)] at hO
  refine hk _ ⟨⟨by show min s.lo sd.lo ≤ sd.n; have := hw.lo; omega, pd.wf.len⟩, by show s.n ≤ sd.n; omega, fun X hX1 hX2 => (hat X (by omega) (by omega)).trans (hI6.same X hX1 hX2), ⟨[v], (hat A (by omega) (by omega)).trans hAv, ?_⟩, fun s0 h0 g hle => ⟨by show s0.n ≤ sd.n; have := g.n; omega, by show min s.lo sd.lo = s0.lo; have := g.lo; have := h0.lo; omega, fun X hX1 => ?_, fun _ => pd.wf.len⟩⟩
  ·unfold SlotW
   rw [if_neg (by omega), if_neg (by omega), if_neg (by omega)]
   refine ⟨v, rfl, 0, by omega, ?_, fun X o' sp kk cc e => ?_⟩
   ·have hO2 : Own sd v 55 2 0 (l.map (.int .u64)) oA := Own.same hO fun X e => hat X (by have := hX X e; omega) (by have := hX X e; omega)
    exact Sl.sameAt (Own.sl hO2) fun _ _ _ _ _ _ => rfl
   ·cases oA with
    | none =>
     obtain ⟨e1, _⟩ := hO
     rw [e1] at e
     cases e
    | some Y =>
     have hY := hX Y rfl
     have hYl := Own.lt hO
     obtain ⟨e1, _⟩ := hO
     rw [e1] at e
     cases e
     refine ⟨?_, fun hw' => ?_⟩
     ·show _ < sd.n
      omega
     ·have := hWlt _ hw'
      omega
  ·have := g.n
   show sd.at X = s0.at X
   rw [hat X (by omega) (by omega), hI6.same X (by omega) (by omega)]
   exact g.same X hX1
 ·have hloU : min s5.lo s'.lo ≤ A := by have h1 := g25.lo; have h2 := p2.lo; omega
  have hloL : A ≤ min s5.lo s'.lo := by have h1 := g25.lo; have h2 := p2.lo; have h3 := m1.grew.lo; have h4 : (ent s).lo = s.n := rfl; have := hI.lo; omega
  have hI6 : StI s A o c T Bx (s3.n + 1) s3.n C N lp u [.pointer none, ptrO A o, .pointer none, .pointer none] l m ({ s' with lo := min s5.lo s'.lo } : St) := ⟨⟨by show min s5.lo s'.lo ≤ s'.n; have := hI.wf.lo; omega, hI.wf.len⟩, hI.n, hI.same, hloL, hI.loop, hI.dfr, hI.bx, hI.hC, hI.hN, hI.ne, by
   obtain ⟨v, oA, h1, h2, h3⟩ := hI.ex
   exact ⟨v, oA, h1, Own.same h2 (fun _ _ => rfl), h3⟩⟩
  generalize hs6 : ({ s' with lo := min s5.lo s'.lo } : St) = s6 at hI6 ⊢
  have hloU' : s6.lo ≤ A := by rw [← hs6]; exact hloU
  obtain ⟨v, oA, hAv, hO, hX⟩ := hI6.ex
  have hne := hI6.ne
  refine ⟨lp, .normal, hI6.loop, .inl hlp.1, by rw [hlp.2.1]; rfl, ?_⟩
  have pe := Put.mk' hI6.wf (St.at_lt hI6.loop) (.loop { lp with state := .exhausted })
  generalize (s6).put (s3.n + 1) (.loop { lp with state := .exhausted }) = se at pe ⊢
  have hDe := (pe.rest s3.n (by omega)).trans hI6.dfr
  have ne := pe.n
  refine ⟨hDe, by omega, ?_⟩
  have pd := Put.mk' pe.wf (St.at_lt hDe) (.defd none)
  generalize se.put s3.n (.defd none) = sd at pd ⊢
  have nd := pd.n
  have hloA := hI6.lo
  have hn6 := hI6.n
  have hpl := pe.lo
  have hdl := pd.lo
  have hat : ∀ X, X ≠ s3.n → X ≠ s3.n + 1 → sd.at X = (s6).at X := fun X h1 h2 => (pd.rest X h1).trans (pe.rest X h2)
  show wfin s K (.tuple (.mk [])) sd
  rw [Zh2 (by omega)]
  rw [List.take_of_length_le (by omega)] at hO
  refine hk _ ⟨⟨by show min s.lo sd.lo ≤ sd.n; have := hw.lo; omega, pd.wf.len⟩, by show s.n ≤ sd.n; omega, fun X hX1 hX2 => (hat X (by omega) (by omega)).trans (hI6.same X hX1 hX2), ⟨[v], (hat A (by omega) (by omega)).trans hAv, ?_⟩, fun s0 h0 g hle => ⟨by show s0.n ≤ sd.n; have := g.n; omega, by show min s.lo sd.lo = s0.lo; have := g.lo; have := h0.lo; omega, fun X hX1 => ?_, fun _ => pd.wf.len⟩⟩
  ·unfold SlotW
   rw [if_neg (by omega), if_neg (by omega), if_neg (by omega)]
   refine ⟨v, rfl, m, by omega, ?_, fun X o' sp kk cc e => ?_⟩
   ·have hO2 : Own sd v 55 2 m (l.map (.int .u64)) oA := Own.same hO fun X e => hat X (by have := hX X e; omega) (by have := hX X e; omega)
    exact Sl.sameAt (Own.sl hO2) fun _ _ _ _ _ _ => rfl
   ·cases oA with
    | none =>
     obtain ⟨e1, _⟩ := hO
     rw [e1] at e
     cases e
    | some Y =>
     have hY := hX Y rfl
     have hYl := Own.lt hO
     obtain ⟨e1, _⟩ := hO
     rw [e1] at e
     cases e
     refine ⟨?_, fun hw' => ?_⟩
     ·show _ < sd.n
      omega
     ·have := hWlt _ hw'
      omega
  ·have := g.n
   show sd.at X = s0.at X
   rw [hat X (by omega) (by omega), hI6.same X (by omega) (by omega)]
   exact g.same X hX1
end
def Z5l (k : Nat) (l : List Int) : Prop := if k = 2 ∨ k = 7 then l.length = 1 else if k = 10 then l.length = 8 else if k = 6 ∨ k = 8 then True else l.length % 2 = 0
section
variable {ro : Nat} {s : St} {K : Value → St → Prop}
theorem SetR.put {W : Nat → Prop} {k A o : Nat} {c vals : List Value} {T : TypeId} {l : List Int} {s1 s2 : St} (hA : s.at A = some (.cells c T false)) (hw : Wf s) (g1 : Grew (ent s) s1) (p2 : Put s1 A (.cells (splice c o vals) T false) s2) (hS : SlotW ({ s2 with lo := min s.lo s2.lo } : St) W k vals l) :
  SetR s W A o c T k l { s2 with lo := min s.lo s2.lo } := by
 have hAl := St.at_lt hA
 have hn := g1.n
 have hn0 : (ent s).n = s.n := rfl
 have hl : (ent s).lo = s.n := rfl
 have hlo := g1.lo
 have h2 := p2.lo
 have n2 := p2.n
 refine ⟨⟨by show min s.lo s2.lo ≤ s2.n; have := hw.lo; omega, p2.wf.len⟩, by show s.n ≤ s2.n; omega, fun X h1 hne => (p2.rest X hne).trans (g1.same X h1), ⟨vals, p2.here, hS⟩, fun s0 h0 g hle => ⟨by show s0.n ≤ s2.n; have := g.n; omega, by show min s.lo s2.lo = s0.lo; have := g.lo; have := h0.lo; omega, fun X hX => ?_, fun _ => p2.wf.len⟩⟩
 have := g.n
 show s2.at X = s0.at X
 rw [p2.rest X (by omega), g1.same X (by show X < s.n; omega)]
 exact g.same X hX
theorem wSet {W : Nat → Prop} {k A o : Nat} {c : List Value} {T : TypeId} {u : Value} {l : List Int} (hk1 : 1 ≤ k ∧ k ≤ 11) (hA : s.at A = some (.cells c T false)) (hfit : o + Zd9 k ≤ c.length) (hW : W A) (hWlt : ∀ X, W X → X < s.n)
  (hu : U64s s u l) (hub : ∀ X o sp k c, u = .slice (some ⟨X, o, sp⟩) k c → X < s.n ∧ ¬ W X) (hlen : l.length < 2 ^ 30) (hlk : Z5l k l) (hw : Wf s) (hro : ro ≤ A) (hk : ∀ s', SetR s W A o c T k l s' → K (.tuple (.mk [])) s') :
  CallWP P ro 49 [.agg (.mk (lstC k (ptrO A o))), u] s K := by
 unfold Z5l at hlk
 unfold Zd9 at hfit
 by_cases hd : k = 1 ∨ k = 3 ∨ k = 4 ∨ k = 5 ∨ k = 9 ∨ k = 11
 ·rw [if_neg (by omega), if_neg (by omega), if_neg (by omega)] at hlk
  rw [if_neg (by omega)] at hfit
  exact Yfj (m := l.length / 2) hd hA hfit hW hWlt hu hub hlen (by omega) hw hro hk
 have hAl := St.at_lt hA
 have hn0 : (ent s).n = s.n := rfl
 refine Zas b49 rfl ?_
 rw [n49]
 unfold v49
 have huc : u.cells.toList = [u] := by obtain ⟨a, cc, rfl, _⟩ := hu; rfl
 have hu1 : u.oneCell' = true := by obtain ⟨a, cc, rfl, _⟩ := hu; rfl
 by_cases he : k = 6 ∨ k = 8
 ·have hl1 : lstC k (ptrO A o) = [ptrO A o, .pointer none, .pointer none, .pointer none] := by
   unfold lstC
   rw [if_pos he]
  rw [if_neg (by omega)] at hfit
  rw [hl1]
  simp (maxSteps := 10000000) only [wW, reduceCtorEq, Nat.reduceEqDiff]
  refine Zam hw.ent fun Bx s1 m1 => ?_
  have e1 := m1.eq
  have n1 := m1.n
  have hB1 : s1.at Bx = some (.cells [ptrO A o, .pointer none, .pointer none, .pointer none] 82 false) := m1.here
  simp (maxSteps := 10000000) only [wW, reduceCtorEq, Nat.reduceEqDiff, Zab, Zlj, Zan Zwn, Zac hB1, Nat.zero_add, List.getElem?_cons_zero, ps77]
  have hA1 := (m1.grew.same A hAl).trans (show (ent s).at A = _ from hA)
  refine Zbc Z3s hA1 m1.wf hro (by omega) hu1 fun s2 p2 => ?_
  have h1 := p2.lo
  rw [Zh2 (by omega)]
  refine hk _ (SetR.put hA hw m1.grew p2 ?_)
  unfold SlotW
  rw [if_neg (by omega), if_neg (by omega), if_pos he]
  have n2 := p2.n
  refine ⟨u, rfl, l.length, by omega, ?_, fun X o' sp kk cc e => ⟨by show X < s2.n; have := (hub X o' sp kk cc e).1; omega, (hub X o' sp kk cc e).2⟩⟩
  refine Sl.sameAt hu fun X o' sp kk cc e => ?_
  have hX := hub X o' sp kk cc e
  show s2.at X = s.at X
  rw [p2.rest X (fun e2 => hX.2 (by rw [e2]; exact hW))]
  exact m1.grew.same X hX.1
 by_cases ho : k = 2 ∨ k = 7
 ·have hl1 : lstC k (ptrO A o) = [.pointer none, .pointer none, ptrO A o, .pointer none] := by
   unfold lstC
   rw [if_neg he, if_pos ho]
  rw [if_neg (by omega)] at hfit
  rw [if_pos ho] at hlk
  rw [hl1]
  simp (maxSteps := 10000000) only [wW, reduceCtorEq, Nat.reduceEqDiff]
  refine Zam hw.ent fun Bx s1 m1 => ?_
  have e1 := m1.eq
  have n1 := m1.n
  have hB1 : s1.at Bx = some (.cells [.pointer none, .pointer none, ptrO A o, .pointer none] 82 false) := m1.here
  have hvp : veq (ptrO A o) (ptrO A o) = true := by simp [veq]
  obtain ⟨x, rfl⟩ : ∃ x, l = [x] := by
   match l, hlk with
   | [x], _ => exact ⟨x, rfl⟩
  have hu' : U64s s1 u [x] := (Sl.ent hu).grew m1.grew.same
  obtain ⟨A5, o5, q1, q2, _⟩ := Sl.ix hu' (by decide) (show (0 : Int) ≤ 0 by decide) (show (0 : Int) < ([x].length : Int) by simp)
  have q2' := q2 0 (by decide)
  have hld : Za4 P s1 34 (.pointer (some ⟨A5, o5, none⟩)) = some (.int .u64 x) := by
   rw [Zan Zoq]
   exact q2'
  have hvx : veq (.int .u64 x) (.int .u64 x) = true := by simp [veq]
  simp (maxSteps := 10000000) only [wW, reduceCtorEq, Nat.reduceEqDiff, Zab, Zlj, Zpi, Zan Zwn, Zan Z6a, Zac hB1, Nat.zero_add, List.getElem?_cons_zero, List.getElem?_cons_succ, pn77, ps79, hvp, true_and, Zae, q1 Zh1 Zfm, hld, hvx]
  have hA1 := (m1.grew.same A hAl).trans (show (ent s).at A = _ from hA)
  refine Zbc Zfm hA1 m1.wf hro (by omega) rfl fun s2 p2 => ?_
  have h1 := p2.lo
  rw [Zh2 (by omega)]
  refine hk _ (SetR.put hA hw m1.grew p2 ?_)
  unfold SlotW
  rw [if_pos ho]
  exact ⟨x, rfl, rfl⟩
 ·have h10 : k = 10 := by omega
  subst h10
  have hl1 : lstC 10 (ptrO A o) = [.pointer none, .pointer none, .pointer none, ptrO A o] := rfl
  rw [if_pos rfl] at hfit
  rw [if_neg (by omega), if_pos rfl] at hlk
  rw [hl1]
  simp (maxSteps := 10000000) only [wW, reduceCtorEq, Nat.reduceEqDiff]
  refine Zam hw.ent fun Bx s1 m1 => ?_
  have e1 := m1.eq
  have n1 := m1.n
  have hB1 : s1.at Bx = some (.cells [.pointer none, .pointer none, .pointer none, ptrO A o] 82 false) := m1.here
  have hu' : U64s s1 u l := (Sl.ent hu).grew m1.grew.same
  have hA1 := (m1.grew.same A hAl).trans (show (ent s).at A = _ from hA)
  have hsl : Zbx P 112 (.pointer (some ⟨A, o, none⟩)) none none none = some (.slice (some ⟨A, o, none⟩) 8 8) := by
   simp only [Zbx, Z67, Zfm, Zn6, Zb9, Option.bind_some]
   simp
  simp (maxSteps := 10000000) only [wW, reduceCtorEq, Nat.reduceEqDiff, Zab, Zlj, Zpi, Zv8, Zan Zwn, Zan Z6a, Zan Ya1, Zac hB1, Nat.zero_add, List.getElem?_cons_zero, List.getElem?_cons_succ, pn77, pn79, ps80, Zko]
  rw [show Zbx P 112 (.pointer (some ⟨A, o, none⟩)) (Option.map (aval .e) none) (Option.map (aval .e) none) (Option.map (aval .e) none) = some (.slice (some ⟨A, o, none⟩) 8 8) from hsl, Zaa, Z9v]
  obtain ⟨q1, q2⟩ := hu'.first
  have hml : (l.map (Value.int .u64)).length = 8 := by rw [List.length_map]; exact hlk
  have hcp : Zzh P ro s1 #[36, 36] [.slice (some ⟨A, o, none⟩) 8 8, u] = some (goInt (8 : Nat), s1.put A (.cells (splice c o (l.map (.int .u64))) T false)) := by
   have hmin : min l.length 8 = 8 := by omega
   have q2' : Zet s1 1 8 u = some (l.map (.int .u64)) := by rw [← hlk]; exact q2
   simp only [Zzh, Zh1, Zfm, q1, hmin, q2', Option.bind_some]
   rw [Zhw hA1 hro (by omega) (by omega) (by rw [List.all_map]; exact List.all_eq_true.2 fun _ _ => rfl)]
   rfl
  rw [hcp, Zaa]
  have p2 := Put.mk' m1.wf (St.at_lt hA1) (.cells (splice c o (l.map (.int .u64))) T false)
  generalize s1.put A (.cells (splice c o (l.map (.int .u64))) T false) = s2 at p2 ⊢
  have h1 := p2.lo
  show wfin s K (.tuple (.mk [])) s2
  rw [Zh2 (by omega)]
  refine hk _ (SetR.put hA hw m1.grew p2 ?_)
  unfold SlotW
  rw [if_neg (by omega), if_pos rfl]
  exact ⟨hlk, rfl⟩
end
def Bys (s : St) (v : Value) (l : List Int) : Prop := Sl s v 1 l.length (l.map (.int .u8))
def byt (b : List Int) (i : Nat) : Int := (b[i]?).getD 0
def accB (b : List Int) (o : Nat) : Nat → Int
 | 0 => 0
 | i + 1 => accB b o i + byt b (o + i) * 2 ^ (8 * i)
def Znn (b : List Int) (k : Nat) : Int := accB b (4 * k) 4
theorem Zhc {b : List Int} (hb : ∀ x ∈ b, 0 ≤ x ∧ x < 256) (i : Nat) : 0 ≤ byt b i ∧ byt b i < 256 := by
 unfold byt
 cases h : b[i]? with
 | none => simp
 | some x => exact hb x (List.mem_of_getElem? h)
theorem Znw {b : List Int} (hb : ∀ x ∈ b, 0 ≤ x ∧ x < 256) (o : Nat) : ∀ i, 0 ≤ accB b o i ∧ accB b o i < 2 ^ (8 * i)
 | 0 => by simp [accB]
 | i + 1 => by
  have ih := Znw hb o i
  have hx := Zhc hb (o + i)
  have hp : (0 : Int) < 2 ^ (8 * i) := Int.pow_pos (by decide)
  have e : (2 : Int) ^ (8 * (i + 1)) = 256 * 2 ^ (8 * i) := by rw [Nat.mul_succ, Int.pow_add, Int.mul_comm]; rfl
  have h1 : byt b (o + i) * 2 ^ (8 * i) ≤ 255 * 2 ^ (8 * i) := Int.mul_le_mul_of_nonneg_right (by omega) (Int.le_of_lt hp)
  have h2 : 0 ≤ byt b (o + i) * 2 ^ (8 * i) := Int.mul_nonneg hx.1 (Int.le_of_lt hp)
  unfold accB
  rw [e]
  omega
theorem Z3j {a x : Int} {n : Nat} (ha : 0 ≤ a ∧ a < 2 ^ n) (hx : 0 ≤ x) (hs : a + x * 2 ^ n < 2 ^ 64) : Zbj P .or .u64 a .u64 (x * 2 ^ n) = some (.int .u64 (a + x * 2 ^ n)) := by
 rw [Ye1 Zcy]
 have hp : (0 : Int) < 2 ^ n := Int.pow_pos (by decide)
 have hx2 : 0 ≤ x * 2 ^ n := Int.mul_nonneg hx (Int.le_of_lt hp)
 obtain ⟨a', rfl⟩ : ∃ m : Nat, a = m := ⟨a.toNat, by omega⟩
 obtain ⟨x', rfl⟩ : ∃ m : Nat, x = m := ⟨x.toNat, by omega⟩
 have ha2 : a' < 2 ^ n := by exact_mod_cast ha.2
 have hcast : ((x' : Int) * 2 ^ n) = ((2 ^ n * x' : Nat) : Int) := by push_cast; rw [Int.mul_comm]
 have hs2 : 2 ^ n * x' + a' < 2 ^ 64 := by
  rw [hcast] at hs
  exact_mod_cast (by omega : ((2 ^ n * x' : Nat) : Int) + (a' : Int) < 2 ^ 64)
 have hb : (BitVec.ofInt 64 (a' : Int) ||| BitVec.ofInt 64 ((2 ^ n * x' : Nat) : Int)).toNat = 2 ^ n * x' + a' := by
  rw [BitVec.toNat_or, BitVec.ofInt_natCast, BitVec.ofInt_natCast, BitVec.toNat_ofNat, BitVec.toNat_ofNat, Nat.mod_eq_of_lt (by omega), Nat.mod_eq_of_lt (by omega), Nat.or_comm, ← Nat.two_pow_add_eq_or_of_lt ha2]
 rw [hcast]
 have e64 : IntKind.u64.bits = 64 := rfl
 rw [e64, hb]
 congr 2
 rw [Zf3 (by omega) (by exact_mod_cast hs2)]
 push_cast
 omega
section
variable {ro : Nat} {s : St} {K : Value → St → Prop}
theorem Zhs (x : Int) (ty : TypeId) (s : St) (K : Value → St → Prop) : wop P ro (.convert 5 34 (.const (.int .u8 x))) ty s K = K (.int .u64 (IntKind.u64.wrap x)) s := by kernel_rfl
theorem Bys.ix {v : Value} {l : List Int} (h : Bys s v l) {i : Int} (h0 : 0 ≤ i) (hi : i < l.length) : ∃ p, Zal P 32 v (.int .i64 i) = some p ∧ Za4 P s 5 p = some (.int .u8 (byt l i.toNat)) := by
 obtain ⟨A, o, h1, h2, _⟩ := Sl.ix h (by decide) h0 hi
 refine ⟨_, h1 Zr9 Yaq, ?_⟩
 rw [Zan ap_5]
 have := h2 0 (by decide)
 rw [Nat.add_zero, Nat.add_zero, Nat.mul_one] at this
 rw [this, List.getElem?_map]
 unfold byt
 rw [List.getElem?_eq_getElem (show i.toNat < l.length by omega)]
 rfl
theorem subB {v : Value} {l : List Int} (h : Bys s v l) {a b : Nat} (hab : a < b) (hb : b ≤ l.length) : ∃ w, Bys s w ((l.drop a).take (b - a)) ∧
  ∀ (ty : TypeId) (s' : St) (K : Value → St → Prop), wop P ro (.slice 32 (.const v) (some (.const (.int .i64 (a : Int)))) (some (.const (.int .i64 (b : Int)))) none) ty s' K = K w s' := by
 have hs : isz P 5 = some 1 := Yaq
 have hund : P.underlying 32 = some (.slice 5) := Yb6
 obtain ⟨x, c, rfl, hl, ⟨hc, hnone, hsp⟩, hbk⟩ := h
 obtain ⟨A, o, m, cells, t, op, rfl, hm, hA, hcs⟩ := hbk (by omega)
 have hm2 := hsp _ rfl
 simp only at hm2
 have htl : ((l.drop a).take (b - a)).length = b - a := by rw [List.length_take, List.length_drop]; omega
 have hhi : Zb9 (some (.int .i64 (b : Int))) l.length c = some b := by
  simp only [Zb9]
  rw [if_pos ⟨by omega, by omega⟩]
  rfl
 have hlo : Zb9 (some (.int .i64 (a : Int))) 0 b = some a := by
  simp only [Zb9]
  rw [if_pos ⟨by omega, by omega⟩]
  rfl
 have hblk : ∀ sp, mkOk sp = true → (b - a) * 1 ≠ 0 → ∃ A' o' m' cells t op, some (⟨A, o + a * 1, sp⟩ : Addr) = some ⟨A', o', m'⟩ ∧ mkOk m' = true ∧ s.at A' = some (.cells cells t op) ∧ (cells.drop o').take ((b - a) * 1) = ((l.drop a).take (b - a)).map (.int .u8) := fun sp hsp' _ => by
  refine ⟨A, _, sp, cells, t, op, rfl, hsp', hA, ?_⟩
  rw [List.map_take, List.map_drop, ← hcs, List.drop_take, List.drop_drop, List.take_take, Nat.mul_one, Nat.mul_one]
  congr 1
  omega
 rcases hm2 with rfl | ⟨rfl, hpos⟩
 ·refine ⟨.slice (some ⟨A, o + a * 1, none⟩) (b - a) (c - a), ⟨_, _, by rw [htl], by simp, ⟨by rw [htl]; omega, fun h => (by cases h), fun x hx => (by cases hx; exact .inl rfl)⟩, by rw [htl]; exact hblk none rfl⟩, fun ty s' K => ?_⟩
  rw [Zip]
  have hne : ¬ c = a := by omega
  simp only [Zbx, hund, hs, Zh5, Option.map_some, Option.map_none, aval, hhi, hlo, Option.bind_some, hne, if_false, Zaa]
 ·refine ⟨.slice (some ⟨A, o + a * 1, some 0⟩) (b - a) (c - a), ⟨_, _, by rw [htl], by simp, ⟨by rw [htl]; omega, fun h => (by cases h), fun x hx => (by cases hx; exact .inr ⟨rfl, by omega⟩)⟩, by rw [htl]; exact hblk (some 0) rfl⟩, fun ty s' K => ?_⟩
  rw [Zip]
  have hne : a < c := by omega
  simp only [Zbx, hund, hs, Zh5, Option.map_some, Option.map_none, aval, hhi, hlo, Option.bind_some, hne, if_true, Zaa]
structure Kd (τ τ' : Tau) : Prop where
 a1 : τ' 1 = τ 1
 a2 : τ' 2 = τ 2
 a4 : τ' 4 = τ 4
 a7 : τ' 7 = τ 7
 a10 : τ' 10 = τ 10
 a22 : τ' 22 = τ 22
 a23 : τ' 23 = τ 23
 a24 : τ' 24 = τ 24
theorem Kd.refl (τ : Tau) : Kd τ τ := ⟨rfl, rfl, rfl, rfl, rfl, rfl, rfl, rfl⟩
theorem Kd.trans {a b c : Tau} (h : Kd a b) (k : Kd b c) : Kd a c := ⟨k.a1.trans h.a1, k.a2.trans h.a2, k.a4.trans h.a4, k.a7.trans h.a7, k.a10.trans h.a10, k.a22.trans h.a22, k.a23.trans h.a23, k.a24.trans h.a24⟩
structure Ke (τ τ' : Tau) : Prop where
 d : Kd τ τ'
 a8 : τ' 8 = τ 8
 a11 : τ' 11 = τ 11
 a32 : τ' 32 = τ 32
 a33 : τ' 33 = τ 33
theorem Ke.refl (τ : Tau) : Ke τ τ := ⟨.refl _, rfl, rfl, rfl, rfl⟩
theorem Ke.trans {a b c : Tau} (h : Ke a b) (k : Ke b c) : Ke a c := ⟨h.d.trans k.d, k.a8.trans h.a8, k.a11.trans h.a11, k.a32.trans h.a32, k.a33.trans h.a33⟩
theorem Yc8 (b : List Int) {o i : Nat} (hi : i < 4) : byt ((b.drop o).take 4) i = byt b (o + i) := by
 unfold byt
 rw [List.getElem?_take, if_pos hi, List.getElem?_drop]
theorem dcB {b : List Int} {w : Value} {o : Nat} (hb : ∀ x ∈ b, 0 ≤ x ∧ x < 256) (hw4 : Bys s w ((b.drop o).take 4)) (hl : o + 4 ≤ b.length) {τ : Tau} {ds : List Deferred} {Kx kx : WK} {L : List (Nat × WK)} (t47 : τ 47 = w) (t48 : τ 48 = .int .i64 4) (t49 : τ 49 = .int .i64 0) (t12 : τ 12 = .int .u64 0)
  (hk : ∀ τ', Ke τ τ' → τ' 12 = .int .u64 (accB b o 4) → kx τ' ds s) :
  Zf2 P ro 93 none Zba τ ds s Kx ((4, kx) :: L) := by
 refine Zdx Zfj Zfi (fun (i : Nat) τ' ds' s' => i ≤ 4 ∧ Ke τ τ' ∧ τ' 47 = w ∧ τ' 48 = .int .i64 4 ∧ τ' 49 = .int .i64 i ∧ τ' 12 = .int .u64 (accB b o i) ∧ ds' = ds ∧ s' = s) (fun i => 4 - i) ?_ 0 ⟨by omega, .refl _, t47, t48, t49, t12, rfl, rfl⟩
 rintro i τ' ds' s' ⟨hi, ke, a47, a48, a49, a12, rfl, rfl⟩
 rw [Zfh]
 unfold Zcg
 have hwl : ((b.drop o).take 4).length = 4 := by rw [List.length_take, List.length_drop]; omega
 by_cases hlt : i < 4
 ·obtain ⟨p, q1, q2⟩ := hw4.ix (i := (i : Int)) (by omega) (by rw [hwl]; omega)
  rw [Int.toNat_natCast, Yc8 b hlt] at q2
  have hx := Zhc hb (o + i)
  have ha := Znw hb o i
  have hab := Znw hb o (i + 1)
  have hp8 : (2 : Int) ^ (8 * (i + 1)) ≤ 2 ^ 32 := by
   have := Nat.pow_le_pow_right (show 0 < 2 by decide) (show 8 * (i + 1) ≤ 32 by omega)
   exact_mod_cast this
  have hp9 : (0 : Int) < 2 ^ (8 * i) := Int.pow_pos (by decide)
  have hacc : accB b o (i + 1) = accB b o i + byt b (o + i) * 2 ^ (8 * i) := rfl
  have hxn : 0 ≤ byt b (o + i) * 2 ^ (8 * i) := Int.mul_nonneg hx.1 (Int.le_of_lt hp9)
  have hsh : Zbj P .shl .u64 (byt b (o + i)) .i64 (8 * (i : Int)) = some (.int .u64 (byt b (o + i) * 2 ^ (8 * i))) := by
   rw [Zv0 _ _ _ _ (by omega)]
   have e64 : IntKind.u64.bits = 64 := rfl
   rw [e64, show min (8 * (i : Int)).toNat 64 = 8 * i by omega, Zf3 hxn (by omega)]
  simp (maxSteps := 10000000) only [wW, reduceCtorEq, Nat.reduceEqDiff, a47, a48, a49, a12, Zae, q1, Zab, q2, Zhs]
  rw [if_pos (by omega), Zf3 hx.1 (by omega), Zaj (n := 8 * (i : Int)) (by omega) (by omega), hsh, Zaa]
  simp (maxSteps := 10000000) only [wW, reduceCtorEq, Nat.reduceEqDiff]
  rw [Z3j ha hx.1 (by omega), Zaa, ← hacc, Zaj (n := (i : Int) + 1) (by omega) (by omega)]
  refine ⟨i + 1, by omega, by omega, ke.trans ⟨⟨?_, ?_, ?_, ?_, ?_, ?_, ?_, ?_⟩, ?_, ?_, ?_, ?_⟩, ?_, ?_, ?_, ?_, by first | trivial | rfl, by first | trivial | rfl⟩
  all_goals first | rfl | (simp only [U, Zad, wW, reduceCtorEq, Nat.reduceEqDiff]; done) | (simp only [U, Zad, wW, reduceCtorEq, Nat.reduceEqDiff, a47, a48]; done) | (simp only [U, Zad, wW, reduceCtorEq, Nat.reduceEqDiff]; rfl)
 ·obtain rfl : i = 4 := by omega
  simp (maxSteps := 10000000) only [wW, reduceCtorEq, Nat.reduceEqDiff, a48, a49]
  rw [if_neg (by decide)]
  refine hk _ (ke.trans ⟨⟨?_, ?_, ?_, ?_, ?_, ?_, ?_, ?_⟩, ?_, ?_, ?_, ?_⟩) ?_
  all_goals first | rfl | (simp only [U, Zad, wW, reduceCtorEq, Nat.reduceEqDiff]; done) | exact a12
end
def rdE (b : List Int) (p : Int) (k : Nat) : Option (Int × Int) := if (b.length : Int) < 4 * k + 4 then some ((b.length : Int), 5) else if p ≤ Znn b k then some (4 * (k : Int), 2) else none
def Zmm (b : List Int) (k n : Nat) : List Int := (List.range n).map fun j => Znn b (k + j)
theorem Zug (b : List Int) (k n : Nat) : Zmm b k (n + 1) = Zmm b k n ++ [Znn b (k + n)] := by
 unfold Zmm
 rw [List.range_succ, List.map_append]; rfl
theorem Zga (b : List Int) (k n : Nat) : (Zmm b k n).length = n := by unfold Zmm; simp
def Zcu : List Value := [nilS, nilS, nilS, .int .u64 0, nilS, nilS, .int .u64 0, nilS]
theorem bldZ : Zdl P 39 (Zbf .e []) = some (.agg (.mk Zcu)) := by kernel_rfl
theorem Z9f {ro : Nat} {s : St} {A m c : Nat} {cs : List Value} {x : Value} {y : Int} (hA : s.at A = some (.cells cs 34 false)) (hw : Wf s) (hro : ro ≤ A) (hx : Sl s x 1 1 [.int .u64 y]) (hm : m + 1 ≤ c) (hc : cs.length = c) {ty : TypeId} {K : Value → St → Prop}
  (hk : ∀ s', Put s A (.cells (splice cs m [.int .u64 y]) 34 false) s' → K (.slice (some ⟨A, 0, none⟩) (m + 1) c) s') : wop P ro (.call ⟨.builtin .append, ⟨[.const (.slice (some ⟨A, 0, none⟩) m c), .const x]⟩, #[36, 36]⟩) ty s K := by
 obtain ⟨i, hi, his, hib, hz, hf, hzs⟩ := Zep Zvb
 obtain ⟨ha, hfst⟩ := hx.first
 rw [Ziq]
 have e1 : Zd3 P ro s #[36, 36] [.slice (some ⟨A, 0, none⟩) m c, x] = some (.slice (some ⟨A, 0, none⟩) (m + 1) c, s.put A (.cells (splice cs m [.int .u64 y]) 34 false)) := by
  have hni : Zmz P 36 = true := by kernel_rfl
  simp only [Zd3, Zh1, hni, hi, ha, his, hfst, Option.bind_some, Zdv]
  rw [if_pos hm, Nat.zero_add, Nat.mul_one, Zhw hA hro (by simp) (by simp; omega) rfl]
  rfl
 rw [e1]
 exact hk _ (.mk' hw (St.at_lt hA) _)
section
variable {ro : Nat} {K : Value → St → Prop} {h : Shp} {s0 s : St}
structure DnI (s0 sP : St) (C O A : Nat) (h : Shp) (b : List Int) (u : Value) (k0 n r : Nat) (s : St) : Prop where
 wf : Wf s
 g0 : Grew s0 s
 g : Grew sP s
 l : ∃ c, s.at A = some (.cells c 34 false) ∧ c.length = n ∧ c.take r = (Zmm b k0 r).map (.int .u64)
theorem dcN {b : List Int} {u : Value} {C O A k0 n : Nat} {sP : St} (hb : ∀ x ∈ b, 0 ≤ x ∧ x < 256) (hbl : b.length < 2 ^ 40) (hC : sP.at C = some (.cells h.cells 23 false)) (hO : ∃ c, sP.at O = some (.cells c 39 false) ∧ c.length = 8) (hO0 : s0.n ≤ O) (hu : Bys sP u b) (hF : FieldsAt sP) (hwP : Wf sP) (hg0P : Grew s0 sP) (hw0 : Wf s0) (hro0 : ro ≤ s0.n) (hAP : sP.n ≤ A)
  (hkn : 4 * k0 ≤ b.length) (hn : n ≤ 2 ^ 20) (hI : DnI s0 sP C O A h b u k0 n 0 s)
  {τ : Tau} {ds : List Deferred} {Kx kx k4 : WK} {L : List (Nat × WK)} (t1 : τ 1 = u) (t2 : τ 2 = ptr C) (t4 : τ 4 = ptr O) (t8 : τ 8 = .int .i64 (4 * k0)) (t11 : τ 11 = .slice (some ⟨A, 0, none⟩) 0 n) (t32 : τ 32 = .int .i64 n) (t33 : τ 33 = .int .i64 0)
  (hk : ∀ τ' s', Kd τ τ' → τ' 8 = .int .i64 (4 * (k0 + n : Nat)) → τ' 11 = .slice (some ⟨A, 0, none⟩) n n → 4 * (k0 + n) ≤ b.length → (∀ j, k0 ≤ j → j < k0 + n → rdE b (fP h.f) j = none) → DnI s0 sP C O A h b u k0 n n s' → kx τ' ds s')
  (hret : ∀ τ' s' e j, k0 ≤ j → j < k0 + n → (∀ j', k0 ≤ j' → j' < j → rdE b (fP h.f) j' = none) → rdE b (fP h.f) j = some e → τ' 4 = ptr O → τ' 5 = .int .i64 e.1 → τ' 6 = .int .i64 e.2 → Wf s' → Grew s0 s' → s'.at O = some (.cells Zcu 39 false) → Kx τ' ds s') :
  Zf2 P ro 93 none Zb1 τ ds s Kx ((2, kx) :: (4, k4) :: L) := by
 have hCl := St.at_lt hC
 refine Zdx Zkh Zkd (fun (r : Nat) τ' ds' s' => r ≤ n ∧ Kd τ τ' ∧ τ' 8 = .int .i64 (4 * (k0 + r : Nat)) ∧ τ' 11 = .slice (some ⟨A, 0, none⟩) r n ∧ τ' 32 = .int .i64 n ∧ τ' 33 = .int .i64 r ∧ ds' = ds ∧ 4 * (k0 + r) ≤ b.length ∧ (∀ j, k0 ≤ j → j < k0 + r → rdE b (fP h.f) j = none) ∧ DnI s0 sP C O A h b u k0 n r s') (fun r => n - r) ?_ 0 ⟨by omega, .refl _, t8, t11, t32, t33, rfl, by omega, fun j h1 h2 => by omega, hI⟩
 rintro r τ' ds' s' ⟨hr, kd, a8, a11, a32, a33, rfl, hkr, hgood, hI'⟩
 rw [Zj9]
 unfold Zd1
 have a1 := kd.a1.trans t1
 have a2 := kd.a2.trans t2
 have a4 := kd.a4.trans t4
 obtain ⟨lc, hl, hll, hlt'⟩ := hI'.l
 have hus : Bys s' u b := Sl.grew hu hI'.g.same
 have hgn := hI'.g.n
 have hg0n := hg0P.n
 obtain ⟨co, hOc, hO8⟩ := hO
 have hOl := St.at_lt hOc
 have hOs : s'.at O = some (.cells co 39 false) := (hI'.g.same O hOl).trans hOc
 have hCs : s'.at C = some (.cells h.cells 23 false) := (hI'.g.same C hCl).trans hC
 simp (maxSteps := 10000000) only [wW, reduceCtorEq, Nat.reduceEqDiff, a8, a32, a33]
 by_cases hlt : r < n
 ·rw [if_pos (by omega), Zaj (n := 4 * ((k0 + r : Nat) : Int) + 4) (by omega) (by omega)]
  simp (maxSteps := 10000000) only [wW, reduceCtorEq, Nat.reduceEqDiff, a1, Sl.wlen hus Zr9]
  by_cases hsh : (b.length : Int) < 4 * ((k0 + r : Nat) : Int) + 4
  ·rw [if_pos hsh, bldZ, Zaa, a4]
   refine Zag Zea hOs (l := Zcu) rfl (by decide) hI'.wf (by omega) hO8 rfl fun s3 p3 => ?_
   refine hret _ s3 ((b.length : Int), 5) (k0 + r) (by omega) (by omega) hgood (by unfold rdE; rw [if_pos hsh]) ?_ ?_ ?_ p3.wf (p3.grew _ hw0 hI'.g0 hO0) p3.here
   ·simp only [U, Zad, wW, reduceCtorEq, Nat.reduceEqDiff, a4]
   ·simp only [U, Zad, wW, reduceCtorEq, Nat.reduceEqDiff]
   ·simp only [U, Zad, wW, reduceCtorEq, Nat.reduceEqDiff]
  ·rw [if_neg hsh]
   obtain ⟨w, hw, q1⟩ := subB (ro := ro) hus (a := 4 * (k0 + r)) (b := 4 * (k0 + r) + 4) (by omega) (by omega)
   rw [show 4 * (k0 + r) + 4 - 4 * (k0 + r) = 4 by omega] at hw
   have ea : (4 * ((k0 + r : Nat) : Int)) = ((4 * (k0 + r) : Nat) : Int) := by push_cast; rfl
   have eb : (4 * ((k0 + r : Nat) : Int) + 4) = ((4 * (k0 + r) + 4 : Nat) : Int) := by push_cast; rfl
   rw [eb, ea, q1]
   have hwl : ((b.drop (4 * (k0 + r))).take 4).length = 4 := by rw [List.length_take, List.length_drop]; omega
   have hw' := hw
   unfold Bys at hw'
   rw [Sl.wlen hw' Zr9, hwl]
   refine dcB hb (o := 4 * (k0 + r)) hw (by omega) ?_ ?_ ?_ ?_ fun τ2 ke b12 => ?_
   ·simp only [U, Zad, wW, reduceCtorEq, Nat.reduceEqDiff]
   ·simp only [U, Zad, wW, reduceCtorEq, Nat.reduceEqDiff]; rfl
   ·simp only [U, Zad, wW, reduceCtorEq, Nat.reduceEqDiff]
   ·simp only [U, Zad, wW, reduceCtorEq, Nat.reduceEqDiff]
   have c1 : τ2 1 = u := by rw [ke.d.a1]; simp only [U, Zad, wW, reduceCtorEq, Nat.reduceEqDiff, a1]
   have c2 : τ2 2 = ptr C := by rw [ke.d.a2]; simp only [U, Zad, wW, reduceCtorEq, Nat.reduceEqDiff, a2]
   have c4 : τ2 4 = ptr O := by rw [ke.d.a4]; simp only [U, Zad, wW, reduceCtorEq, Nat.reduceEqDiff, a4]
   have c7 : τ2 7 = τ' 7 := by rw [ke.d.a7]; simp only [U, Zad, wW, reduceCtorEq, Nat.reduceEqDiff]
   have c10 : τ2 10 = τ' 10 := by rw [ke.d.a10]; simp only [U, Zad, wW, reduceCtorEq, Nat.reduceEqDiff]
   have c22 : τ2 22 = τ' 22 := by rw [ke.d.a22]; simp only [U, Zad, wW, reduceCtorEq, Nat.reduceEqDiff]
   have c23 : τ2 23 = τ' 23 := by rw [ke.d.a23]; simp only [U, Zad, wW, reduceCtorEq, Nat.reduceEqDiff]
   have c24 : τ2 24 = τ' 24 := by rw [ke.d.a24]; simp only [U, Zad, wW, reduceCtorEq, Nat.reduceEqDiff]
   have c8 : τ2 8 = .int .i64 (4 * (k0 + r : Nat)) := by rw [ke.a8]; simp only [U, Zad, wW, reduceCtorEq, Nat.reduceEqDiff, a8]
   have c11 : τ2 11 = .slice (some ⟨A, 0, none⟩) r n := by rw [ke.a11]; simp only [U, Zad, wW, reduceCtorEq, Nat.reduceEqDiff, a11]
   have c32 : τ2 32 = .int .i64 n := by rw [ke.a32]; simp only [U, Zad, wW, reduceCtorEq, Nat.reduceEqDiff, a32]
   have c33 : τ2 33 = .int .i64 r := by rw [ke.a33]; simp only [U, Zad, wW, reduceCtorEq, Nat.reduceEqDiff, a33]
   have hnum : accB b (4 * (k0 + r)) 4 = Znn b (k0 + r) := rfl
   rw [hnum] at b12
   have hFs : FieldsAt s' := hF.grew hI'.g
   simp (maxSteps := 10000000) only [wW, reduceCtorEq, Nat.reduceEqDiff, c2, Zab, Zdi, Zan ap_3, Zac hCs, shc0, Nat.zero_add]
   rw [wfP h.f hI'.wf (by omega) hFs]
   simp (maxSteps := 10000000) only [wW, reduceCtorEq, Nat.reduceEqDiff, b12]
   by_cases hge : Znn b (k0 + r) ≥ fP h.f
   ·rw [if_pos hge, bldZ, Zaa, c4]
    refine Zag Zea hOs (l := Zcu) rfl (by decide) hI'.wf (by omega) hO8 rfl fun s3 p3 => ?_
    refine hret _ s3 (4 * ((k0 + r : Nat) : Int), 2) (k0 + r) (by omega) (by omega) hgood (by unfold rdE; rw [if_neg hsh, if_pos hge]) ?_ ?_ ?_ p3.wf (p3.grew _ hw0 hI'.g0 hO0) p3.here
    ·simp only [U, Zad, wW, reduceCtorEq, Nat.reduceEqDiff, c4]
    ·simp only [U, Zad, wW, reduceCtorEq, Nat.reduceEqDiff, c8]
    ·simp only [U, Zad, wW, reduceCtorEq, Nat.reduceEqDiff]
   ·rw [if_neg hge]
    refine Zb3 Zh1 Zvb hI'.wf [.int .u64 (Znn b (k0 + r))] rfl rfl (by decide) (fun v hv => by
     simp only [List.mem_cons, List.not_mem_nil, or_false] at hv
     subst hv
     rfl) fun A6 s6 m6 => ?_
    have e6 := m6.eq
    have n6 := m6.n
    have hAs := St.at_lt hl
    have x6 : Sl s6 (.slice (some ⟨A6, 0, none⟩) 1 1) 1 1 [.int .u64 (Znn b (k0 + r))] := m6.sl rfl
    rw [c11]
    refine Z9f ((m6.grew.same A hAs).trans hl) m6.wf (by omega) x6 (by omega) hll fun s7 p7 => ?_
    simp (maxSteps := 10000000) only [wW, reduceCtorEq, Nat.reduceEqDiff, c8, c33]
    rw [Zaj (n := 4 * ((k0 + r : Nat) : Int) + 4) (by omega) (by omega), Zaj (n := (r : Int) + 1) (by omega) (by omega)]
    have hsl : (splice lc r [.int .u64 (Znn b (k0 + r))]).length = lc.length := Za0 (by simp; omega)
    refine ⟨r + 1, by omega, by omega, ⟨?_, ?_, ?_, ?_, ?_, ?_, ?_, ?_⟩, ?_, ?_, ?_, ?_, by first | trivial | rfl, by omega, fun j h1 h2 => ?_, ⟨p7.wf, p7.grew _ hw0 (hI'.g0.trans m6.grew) (by omega), p7.grew _ hwP (hI'.g.trans m6.grew) hAP, _, p7.here, hsl.trans hll, ?_⟩⟩
    ·simp only [U, Zad, wW, reduceCtorEq, Nat.reduceEqDiff, c1, t1]
    ·simp only [U, Zad, wW, reduceCtorEq, Nat.reduceEqDiff, c2, t2]
    ·simp only [U, Zad, wW, reduceCtorEq, Nat.reduceEqDiff, c4, t4]
    ·simp only [U, Zad, wW, reduceCtorEq, Nat.reduceEqDiff, c7, kd.a7]
    ·simp only [U, Zad, wW, reduceCtorEq, Nat.reduceEqDiff, c10, kd.a10]
    ·simp only [U, Zad, wW, reduceCtorEq, Nat.reduceEqDiff, c22, kd.a22]
    ·simp only [U, Zad, wW, reduceCtorEq, Nat.reduceEqDiff, c23, kd.a23]
    ·simp only [U, Zad, wW, reduceCtorEq, Nat.reduceEqDiff, c24, kd.a24]
    ·simp only [U, Zad, wW, reduceCtorEq, Nat.reduceEqDiff]
     congr 1 <;> omega
    ·simp only [U, Zad, wW, reduceCtorEq, Nat.reduceEqDiff]
    ·simp only [U, Zad, wW, reduceCtorEq, Nat.reduceEqDiff, c32]
    ·simp only [U, Zad, wW, reduceCtorEq, Nat.reduceEqDiff]; rfl
    ·by_cases hj : j = k0 + r
     ·subst hj
      unfold rdE
      rw [if_neg hsh, if_neg (by omega)]
     ·exact hgood j h1 (by omega)
    ·rw [Zug, List.map_append, ← hlt']
     unfold splice
     have hl1 : (lc.take r).length = r := by rw [List.length_take]; omega
     rw [← List.append_assoc]
     have hl2 : (lc.take r ++ [Value.int .u64 (Znn b (k0 + r))]).length = r + 1 := by rw [List.length_append, hl1]; rfl
     rw [← hl2, List.take_left]
     rfl
 ·obtain rfl : r = n := by omega
  rw [if_neg (by omega)]
  refine hk _ s' (kd.trans ⟨?_, ?_, ?_, ?_, ?_, ?_, ?_, ?_⟩) ?_ ?_ hkr hgood hI'
  all_goals first | rfl | (simp only [U, Zad, wW, reduceCtorEq, Nat.reduceEqDiff]; done) | (simp only [U, Zad, wW, reduceCtorEq, Nat.reduceEqDiff, a8, a11]; done)
end
def lenN (k n : Nat) : Prop := if k = 2 ∨ k = 7 then n = 1 else if k = 10 then n = 8 else if k = 6 ∨ k = 8 then True else n % 2 = 0
def PrtZ (R Q : Nat) (x : Prt) : Prop := ∃ k q i n : Nat, x = ⟨k, q, i, n⟩ ∧ OkS R Q k q i ∧ n < 2 ^ 20 ∧ lenN k n
theorem Zup {Pr : Prt → Prop} {g : Nat → List Prt → List Prt} : ∀ (n : Nat) {l : List Prt}, (∀ x ∈ l, Pr x) → (∀ i, i < n → ∀ l, (∀ x ∈ l, Pr x) → ∀ x ∈ g i l, Pr x) → ∀ x ∈ it g n l, Pr x
 | 0, _, h, _ => h
 | n + 1, l, h, hg => hg n (by omega) _ (Zup n h fun i hi => hg i (by omega))
theorem Zoh {Pr : Prt → Prop} {l r : List Prt} (h : ∀ x ∈ l, Pr x) (hr : ∀ x ∈ r, Pr x) : ∀ x ∈ l ++ r, Pr x := fun x hx => by
 rcases List.mem_append.1 hx with hx | hx
 ·exact h x hx
 ·exact hr x hx
theorem Znl {h : Shp} (hv : shV h = true) : ∀ x ∈ Zaq h, PrtZ (shR h).toNat h.q.toNat x := by
 unfold shV inR at hv
 simp only [Bool.and_eq_true, decide_eq_true_eq] at hv
 have ha : 1 ≤ h.a ∧ h.a ≤ 13 := by omega
 have hb : 1 ≤ h.b ∧ h.b ≤ 5 := by omega
 have hc : 0 ≤ h.c ∧ h.c ≤ 8 := by omega
 have hR : 0 ≤ shR h ∧ 3 * shR h ≤ h.a ∧ h.a - 3 * shR h ≤ 2 := by unfold shR; omega
 have hC : ∀ n : Int, ∃ c : Nat, shC h n = c ∧ c ≤ 2 ^ 10 := fun n => by
  refine ⟨2 ^ (minI h.c n).toNat, by unfold shC; push_cast; rfl, Nat.pow_le_pow_right (by decide) ?_⟩
  unfold minI
  split <;> omega
 have hPp : ∀ n : Int, 0 ≤ n ∧ n ≤ 100 → ∃ c : Nat, shP h n = c ∧ c ≤ 100 := fun n hn => by
  have := Zky (h := h) (n := n) (by omega) hn
  exact ⟨(shP h n).toNat, by omega, by omega⟩
 have hcol : ∀ i, ∃ c : Nat, Zg3 h i = c ∧ c ≤ 100 := fun i => by
  unfold Zg3
  split
  ·exact ⟨h.u.toNat, by omega, by omega⟩
  ·exact ⟨h.v.toNat, by omega, by omega⟩
  ·exact ⟨h.w.toNat, by omega, by omega⟩
  ·exact ⟨h.x.toNat, by omega, by omega⟩
  ·exact ⟨h.v.toNat, by omega, by omega⟩
  ·exact ⟨h.w.toNat, by omega, by omega⟩
 obtain ⟨c0, hc0, hc0'⟩ := hC (h.a + h.b)
 obtain ⟨p0, hp0, hp0'⟩ := hPp (h.a + h.b) (by omega)
 have one : ∀ {x : Prt}, PrtZ (shR h).toNat h.q.toNat x → ∀ y ∈ [x], PrtZ (shR h).toNat h.q.toNat y := fun hx y hy => by
  simp only [List.mem_cons, List.not_mem_nil, or_false] at hy
  subst hy; exact hx
 have dig : ∀ k, (k = 1 ∨ k = 3 ∨ k = 4 ∨ k = 5 ∨ k = 9 ∨ k = 11) → ∀ m : Nat, lenN k (2 * m) := fun k hk m => by
  unfold lenN
  rw [if_neg (by omega), if_neg (by omega), if_neg (by omega)]
  omega
 have hpre : ∀ x ∈ preA h, PrtZ (shR h).toNat h.q.toNat x := fun x hx => by
  unfold preA at hx
  rw [hc0] at hx
  simp only [List.mem_cons, List.not_mem_nil, or_false] at hx
  rcases hx with rfl | rfl | rfl | rfl
  ·exact ⟨1, 0, 0, 2 * c0, by push_cast; rfl, .top 1 (by omega), by omega, dig 1 (by omega) c0⟩
  ·exact ⟨2, 0, 0, 1, rfl, .top 2 (by omega), by omega, rfl⟩
  ·by_cases hw : h.w = 0
   ·rw [if_pos hw]
    exact ⟨3, 0, 0, 0, rfl, .top 3 (by omega), by omega, dig 3 (by omega) 0⟩
   ·rw [if_neg hw]
    exact ⟨3, 0, 0, 2 * c0, by push_cast; rfl, .top 3 (by omega), by omega, dig 3 (by omega) c0⟩
  ·exact ⟨4, 0, 0, 2 * c0, by push_cast; rfl, .top 4 (by omega), by omega, dig 4 (by omega) c0⟩
 have hmid : ∀ x ∈ midA h, PrtZ (shR h).toNat h.q.toNat x := by
  refine Zoh (Zup _ hpre fun i hi l hl => Zoh hl (one ?_)) fun x hx => ?_
  ·obtain ⟨c, hc, hc'⟩ := hC (shH h i)
   exact ⟨5, 0, i, 2 * c, by rw [hc]; push_cast; rfl, .round i hi, by omega, dig 5 (by omega) c⟩
  ·simp only [List.mem_cons, List.not_mem_nil, or_false] at hx
   have h2 : 2 ^ (h.a - 3 * shR h).toNat ≤ 2 ^ 2 := Nat.pow_le_pow_right (by decide) (by omega)
   rcases hx with rfl | rfl
   ·exact ⟨6, 0, 0, 2 ^ (h.a - 3 * shR h).toNat, by push_cast; rfl, .top 6 (by omega), by omega, trivial⟩
   ·exact ⟨7, 0, 0, 1, rfl, .top 7 (by omega), by omega, rfl⟩
 refine Zup _ hmid fun j hj l hl => ?_
 unfold alQ
 refine Zup _ (Zup _ (Zup _ hl fun i hi l hl => Zoh hl (one ?_)) fun i hi l hl => Zoh hl (one ?_)) fun i hi l hl => Zoh hl fun x hx => ?_
 ·obtain ⟨c, hc, hc'⟩ := hcol i
  exact ⟨8, j, i, c, by rw [hc]; rfl, .row j i hj hi, by omega, trivial⟩
 ·by_cases hz : Zg3 h i = 0
  ·rw [if_pos hz]
   exact ⟨9, j, i, 0, rfl, .path j i hj hi, by omega, dig 9 (by omega) 0⟩
  ·rw [if_neg hz]
   exact ⟨9, j, i, 2 * p0, by rw [hp0]; push_cast; rfl, .path j i hj hi, by omega, dig 9 (by omega) p0⟩
 ·simp only [List.mem_cons, List.not_mem_nil, or_false] at hx
  obtain ⟨p, hp, hp'⟩ := hPp (shH h i) (by unfold shH; omega)
  rcases hx with rfl | rfl
  ·exact ⟨10, j, i, 8, rfl, .leaf j i hj hi, by omega, rfl⟩
  ·exact ⟨11, j, i, 2 * p, by rw [hp]; push_cast; rfl, .fold j i hj hi, by omega, dig 11 (by omega) p⟩
theorem Zk3 {h : Shp} (hv : shV h = true) : ∀ x ∈ Zbe h, PrtZ (shR h).toNat h.q.toNat x := fun x hx => by
 rw [← Zgt hv] at hx
 exact Znl hv x (List.mem_filter.1 hx).1
section
variable {ro : Nat} {s s' : St} {K : Value → St → Prop} {W : Nat → Prop} {cs : List Value} {B : PfB} {R Q : Nat} {g : Nat → Nat → Nat → List Int}
theorem OkS.k1 {k q i : Nat} (ok : OkS R Q k q i) : 1 ≤ k ∧ k ≤ 11 := by
 cases ok with
 | top k hk => omega
 | _ => omega
theorem wPl {Pb k q i n : Nat} (hPb : s.at Pb = some (.cells cs 39 false)) (h : PfAt s W cs B R Q g) (ok : OkS R Q k q i) (hw : Wf s) (hro : ro ≤ s.n) :
  ∃ f, plC[k]? = some (fnV f) ∧ ∀ K : Value → St → Prop, (∀ s', Grew s s' → Wf s' → K (.agg (.mk (lstC k (ptrO ((Za2 B k q i).1.getD Pb) (Za2 B k q i).2)))) s') → CallWP P ro f [ptr Pb, .agg (.mk (Prt.cells ⟨k, q, i, n⟩))] s K := by
 cases ok with
 | top k hk' =>
  rcases hk' with rfl | rfl | rfl | rfl | rfl | rfl
  ·exact ⟨_, rfl, fun K hk => wPl1 hw hro hk⟩
  ·exact ⟨_, rfl, fun K hk => wPl2 hw hro hk⟩
  ·exact ⟨_, rfl, fun K hk => wPl3 hw hro hk⟩
  ·exact ⟨_, rfl, fun K hk => wPl4 hw hro hk⟩
  ·exact ⟨_, rfl, fun K hk => wPl6 hw hro hk⟩
  ·exact ⟨_, rfl, fun K hk => wPl7 hw hro hk⟩
 | round i hi => exact ⟨_, rfl, fun K hk => wPl5 (x := ⟨5, 0, i, n⟩) hPb h ⟨by show (0 : Int) ≤ i; omega, by show (i : Int) < R; omega⟩ hw hro hk⟩
 | row q i hq hi => exact ⟨_, rfl, fun K hk => wPl8 (x := ⟨8, q, i, n⟩) hPb h ⟨by show (0 : Int) ≤ q; omega, by show (q : Int) < Q; omega⟩ ⟨by show (0 : Int) ≤ i; omega, by show (i : Int) < 6; omega⟩ hw hro hk⟩
 | path q i hq hi => exact ⟨_, rfl, fun K hk => wPl9 (x := ⟨9, q, i, n⟩) hPb h ⟨by show (0 : Int) ≤ q; omega, by show (q : Int) < Q; omega⟩ ⟨by show (0 : Int) ≤ i; omega, by show (i : Int) < 6; omega⟩ hw hro hk⟩
 | leaf q i hq hi => exact ⟨_, rfl, fun K hk => Yfm (x := ⟨10, q, i, n⟩) hPb h ⟨by show (0 : Int) ≤ q; omega, by show (q : Int) < Q; omega⟩ ⟨by show (0 : Int) ≤ i; omega, by show (i : Int) < R; omega⟩ hw hro hk⟩
 | fold q i hq hi => exact ⟨_, rfl, fun K hk => Yfl (x := ⟨11, q, i, n⟩) hPb h ⟨by show (0 : Int) ≤ q; omega, by show (q : Int) < Q; omega⟩ ⟨by show (0 : Int) ≤ i; omega, by show (i : Int) < R; omega⟩ hw hro hk⟩
theorem PfAt.place {Pb k q i : Nat} (h : PfAt s W cs B R Q g) (hPb : s.at Pb = some (.cells cs 39 false)) (hWp : W Pb) (ok : OkS R Q k q i) : ∃ c T, s.at ((Za2 B k q i).1.getD Pb) = some (.cells c T false) ∧ (Za2 B k q i).2 + Zd9 k ≤ c.length ∧ W ((Za2 B k q i).1.getD Pb) ∧ Zen s cs (Za2 B k q i).1 = some c := by
 cases hp : (Za2 B k q i).1 with
 | none => exact ⟨cs, _, hPb, h.fit ok (by rw [hp]; rfl), hWp, rfl⟩
 | some A =>
  obtain ⟨c, T, hA, hW⟩ := h.blk (Zh4 ok hp)
  have hc : Zen s cs (Za2 B k q i).1 = some c := by rw [hp]; show Zbi (s.at A) = _; rw [hA]; rfl
  rw [hp] at hc
  exact ⟨c, T, hA, h.fit ok (by rw [hp]; exact hc), hW, hc⟩
theorem PfAt.setR {Pb k q i : Nat} {c : List Value} {T : TypeId} {nums : List Int} (h : PfAt s W cs B R Q g) (hPb : s.at Pb = some (.cells cs 39 false)) (hWp : W Pb) (hne : Pb ≠ B.rb ∧ Pb ≠ B.ob ∧ ∀ j, j < Q → Pb ≠ B.fb j) (ok : OkS R Q k q i)
  (hA : s.at ((Za2 B k q i).1.getD Pb) = some (.cells c T false)) (r : SetR s W ((Za2 B k q i).1.getD Pb) (Za2 B k q i).2 c T k nums s') :
  ∃ cs', s'.at Pb = some (.cells cs' 39 false) ∧ PfAt s' W cs' B R Q (updG g k q i nums) := by
 obtain ⟨vals, hv, hS⟩ := r.ex
 obtain ⟨c0, T0, hA0, hfit, hWA, _⟩ := h.place hPb hWp ok
 have hleaf : ∀ X, X < s.n → ¬ W X → s'.at X = s.at X := fun X h1 h2 => r.same X h1 fun e => h2 (by rw [e]; exact hWA)
 cases hp : (Za2 B k q i).1 with
 | none =>
  rw [hp] at hv hA
  simp only [Option.getD_none] at hv hA
  rw [hPb] at hA
  cases hA
  refine ⟨_, hv, h.set ok r.n hleaf hS (by rw [hp]) fun X hX c T hc => ?_⟩
  have hneX : X ≠ Pb := by
   rcases hX with rfl | rfl | ⟨j, hj, rfl⟩
   ·exact fun e => hne.1 e.symm
   ·exact fun e => hne.2.1 e.symm
   ·exact fun e => hne.2.2 j hj e.symm
  rw [if_neg (by rw [hp]; simp), r.same X (St.at_lt hc) (by rw [hp]; exact hneX)]
  exact hc
 | some A =>
  rw [hp] at hv hA
  simp only [Option.getD_some] at hv hA
  have hAne : Pb ≠ A := by
   rcases Zh4 ok hp with rfl | rfl | ⟨j, hj, rfl⟩
   ·exact hne.1
   ·exact hne.2.1
   ·exact hne.2.2 j hj
  refine ⟨cs, (r.same Pb (St.at_lt hPb) (by rw [hp]; exact hAne)).trans hPb, h.set ok r.n hleaf hS (by rw [hp]) fun X hX c2 T2 hc => ?_⟩
  by_cases hXA : A = X
  ·subst hXA
   rw [if_pos hp]
   rw [hc] at hA
   cases hA
   exact hv
  ·rw [if_neg (by rw [hp]; simpa using hXA), r.same X (St.at_lt hc) (by rw [hp]; exact fun e => hXA e.symm)]
   exact hc
end
theorem Bys.sameAt {s s' : St} {v : Value} {b : List Int} (h : Bys s v b) (hs : b ≠ [] → ∀ A o sp k c, v = .slice (some ⟨A, o, sp⟩) k c → s'.at A = s.at A) : Bys s' v b := by
 cases b with
 | nil =>
  obtain ⟨a, c, hv, hl, hx, _⟩ := h
  exact ⟨a, c, hv, hl, hx, fun hn => absurd rfl hn⟩
 | cons x b => exact Sl.sameAt h (hs (by simp))
def stepG (b : List Int) (kg : Nat × (Nat → Nat → Nat → List Int)) (x : Prt) : Nat × (Nat → Nat → Nat → List Int) := (kg.1 + x.n.toNat, updG kg.2 x.k.toNat x.q.toNat x.i.toNat (Zmm b kg.1 x.n.toNat))
def Zb4 (b : List Int) (l : List Prt) : Nat × (Nat → Nat → Nat → List Int) := l.foldl (stepG b) (0, g0)
theorem Zus (b : List Int) (l : List Prt) (x : Prt) : Zb4 b (l ++ [x]) = stepG b (Zb4 b l) x := by unfold Zb4; rw [List.foldl_append]; rfl
theorem Z3v (b : List Int) : ∀ (l : List Prt) (kg : Nat × (Nat → Nat → Nat → List Int)), kg.1 ≤ (l.foldl (stepG b) kg).1
 | [], _ => Nat.le_refl _
 | x :: l, kg => Nat.le_trans (Nat.le_add_right kg.1 x.n.toNat) (Z3v b l (stepG b kg x))
theorem Zur (b : List Int) (l : List Prt) (i : Nat) : (Zb4 b (l.take i)).1 ≤ (Zb4 b l).1 := by
 have : l = l.take i ++ l.drop i := (List.take_append_drop i l).symm
 conv => rhs; rw [this]
 unfold Zb4
 rw [List.foldl_append]
 exact Z3v b _ _
def errF (b : List Int) (p : Int) : Nat → Nat → Option (Int × Int)
 | 0, _ => none
 | c + 1, k => match rdE b p k with
  | some e => some e
  | none => errF b p c (k + 1)
theorem Zs3 {b : List Int} {p : Int} {e : Int × Int} {j : Nat} : ∀ {c k : Nat}, (∀ j', k ≤ j' → j' < j → rdE b p j' = none) → rdE b p j = some e → k ≤ j → j < k + c → errF b p c k = some e
 | 0, k, _, _, h1, h2 => by omega
 | c + 1, k, hg, he, h1, h2 => by
  unfold errF
  by_cases hj : j = k
  ·subst hj; rw [he]
  ·rw [hg k (Nat.le_refl _) (by omega)]
   exact Zs3 (fun j' a b => hg j' (by omega) b) he (by omega) (by omega)
theorem Zs4 {b : List Int} {p : Int} : ∀ {c k : Nat}, (∀ j, k ≤ j → j < k + c → rdE b p j = none) → errF b p c k = none
 | 0, _, _ => rfl
 | c + 1, k, h => by
  unfold errF
  rw [h k (Nat.le_refl _) (by omega)]
  exact Zs4 fun j a b => h j (by omega) (by omega)
def decE (b : List Int) (p : Int) (N : Nat) : Int × Int :=
 match errF b p N 0 with
 | some e => e
 | none => if (4 * N : Int) < b.length then (4 * (N : Int), 3) else (0, 0)
structure DcI (s0 sL : St) (W : Nat → Prop) (O Pb : Nat) (B : PfB) (R Q : Nat) (b : List Int) (p : Int) (l : List Prt) (i : Nat) (s : St) : Prop where
 wf : Wf s
 g0 : Grew s0 s
 n : sL.n ≤ s.n
 keep : ∀ A, A < sL.n → ¬ W A → s.at A = sL.at A
 pf : ∃ cs, s.at Pb = some (.cells cs 39 false) ∧ PfAt s (fun A => W A ∨ (A = O ∨ A < s0.n)) cs B R Q (Zb4 b (l.take i)).2
 k : 4 * (Zb4 b (l.take i)).1 ≤ b.length
 good : ∀ j, j < (Zb4 b (l.take i)).1 → rdE b p j = none
section
variable {ro : Nat} {K : Value → St → Prop} {h : Shp} {s0 sL : St}
theorem dcP {b : List Int} {u v : Value} {C O Pb : Nat} {W : Nat → Prop} {B : PfB} {R Q : Nat} {l : List Prt} (hb : ∀ x ∈ b, 0 ≤ x ∧ x < 256) (hbl : b.length < 2 ^ 40) (hC : sL.at C = some (.cells h.cells 23 false)) (hCW : ¬ W C) (hO : ∃ c, sL.at O = some (.cells c 39 false) ∧ c.length = 8) (hOW : ¬ W O) (hO0 : s0.n ≤ O)
  (hu : Bys sL u b) (huW : b ≠ [] → ∀ A o sp n c, u = .slice (some ⟨A, o, sp⟩) n c → A < sL.n ∧ ¬ W A) (hF : FieldsAt sL) (hFW : ¬ W 0) (hP : PrsS sL v l) (hPW : ∀ A o sp n c, v = .slice (some ⟨A, o, sp⟩) n c → A < sL.n ∧ ¬ W A) (hl : l.length ≤ 2000) (hok : ∀ x ∈ l, PrtZ R Q x)
  (hWp : W Pb) (hBW : W B.rb ∧ W B.ob ∧ ∀ j, j < Q → W (B.fb j)) (hPbne : Pb ≠ B.rb ∧ Pb ≠ B.ob ∧ ∀ j, j < Q → Pb ≠ B.fb j) (hWL : ∀ A, W A → s0.n ≤ A ∧ A < sL.n) (hw0 : Wf s0) (hro0 : ro ≤ s0.n) (hI : DcI s0 sL W O Pb B R Q b (fP h.f) l 0 sL)
  {τ : Tau} {ds : List Deferred} {Kx kx k2 k4 : WK} (t1 : τ 1 = u) (t2 : τ 2 = ptr C) (t4 : τ 4 = ptr O) (t7 : τ 7 = ptr Pb) (t8 : τ 8 = .int .i64 0) (t22 : τ 22 = v) (t23 : τ 23 = .int .i64 l.length) (t24 : τ 24 = .int .i64 0)
  (hk : ∀ τ' s', τ' 1 = u → τ' 4 = ptr O → τ' 7 = ptr Pb → τ' 8 = .int .i64 (4 * ((Zb4 b l).1 : Nat)) → DcI s0 sL W O Pb B R Q b (fP h.f) l l.length s' → kx τ' ds s')
  (hret : ∀ τ' s' e, errF b (fP h.f) (Zb4 b l).1 0 = some e → τ' 4 = ptr O → τ' 5 = .int .i64 e.1 → τ' 6 = .int .i64 e.2 → Wf s' → Grew s0 s' → s'.at O = some (.cells Zcu 39 false) → Kx τ' ds s') :
  Zf2 P ro 93 none Ze4 τ ds sL Kx [(0, kx), (2, k2), (4, k4)] := by
 refine Zdx Zyj Zyb (fun (i : Nat) τ' ds' s' => i ≤ l.length ∧ τ' 1 = u ∧ τ' 2 = ptr C ∧ τ' 4 = ptr O ∧ τ' 7 = ptr Pb ∧ τ' 8 = .int .i64 (4 * ((Zb4 b (l.take i)).1 : Nat)) ∧ τ' 22 = v ∧ τ' 23 = .int .i64 l.length ∧ τ' 24 = .int .i64 i ∧ ds' = ds ∧ DcI s0 sL W O Pb B R Q b (fP h.f) l i s') (fun i => l.length - i) ?_ 0 ⟨by omega, t1, t2, t4, t7, by rw [t8]; rfl, t22, t23, t24, rfl, hI⟩
 rintro i τ' ds' s' ⟨hi, a1, a2, a4, a7, a8, a22, a23, a24, rfl, hI'⟩
 rw [Zx3]
 unfold Zkt
 simp (maxSteps := 10000000) only [wW, reduceCtorEq, Nat.reduceEqDiff, a22, a23, a24]
 have hIn := hI'.n
 have hOWl : O < sL.n := by obtain ⟨c, hc, _⟩ := hO; exact St.at_lt hc
 have hCl := St.at_lt hC
 by_cases hlt : i < l.length
 ·rw [if_pos (by omega)]
  obtain ⟨k, q, ix, n, hx, ok, hn20, hln⟩ := hok l[i] (List.getElem_mem hlt)
  have hPs : PrsS s' v l := Sl.sameAt hP fun A o sp n c e => hI'.keep A (hPW A o sp n c e).1 (hPW A o sp n c e).2
  obtain ⟨Ax, ox, q1, q2⟩ := hPs.ix hlt
  rw [Zae, q1, Zaa, Zab, q2, Zaa, hx]
  refine Zai Zku hI'.wf fun E s4 m4 => ?_
  have e4 := m4.eq
  have n4 := m4.n
  have hg0 := hI'.g0.n
  refine Zag Zjz m4.here (l := Prt.cells ⟨k, q, ix, n⟩) rfl (by decide) m4.wf (by omega) rfl rfl fun s5 p5 => ?_
  have n5 := p5.n
  have g5 : Grew s' s5 := p5.grew _ hI'.wf m4.grew (by omega)
  have hx3 : (Prt.cells ⟨k, q, ix, n⟩)[3]? = some (.int .i64 n) := rfl
  have hx0 : (Prt.cells ⟨k, q, ix, n⟩)[0]? = some (.int .u8 k) := rfl
  simp (maxSteps := 10000000) only [wW, reduceCtorEq, Nat.reduceEqDiff, Znq, Zab, Zan ap_3, Zac p5.here, Nat.zero_add, hx3]
  refine Zdb Zh1 Zvb p5.wf (by decide) (by omega) (by omega) (by decide) fun A s6 m6 => ?_
  have e6 := m6.eq
  have n6 := m6.n
  have g6 : Grew s' s6 := g5.trans m6.grew
  have hE6 : s6.at E = some (.cells (Prt.cells ⟨k, q, ix, n⟩) 30 false) := (m6.grew.same E (by omega)).trans p5.here
  simp (maxSteps := 10000000) only [wW, reduceCtorEq, Nat.reduceEqDiff, Znq, Zab, Zan ap_3, Zac hE6, Nat.zero_add, hx3]
  have hkeep5 : ∀ X, X < sL.n → ¬ W X → s5.at X = sL.at X := fun X h1 h2 => (g5.same X (by omega)).trans (hI'.keep X h1 h2)
  have hO5 : ∃ c, s5.at O = some (.cells c 39 false) ∧ c.length = 8 := by
   obtain ⟨c, hc, h8⟩ := hO
   exact ⟨c, (hkeep5 O hOWl hOW).trans hc, h8⟩
  have hu5 : Bys s5 u b := Bys.sameAt hu fun b0 X o sp n c e => hkeep5 X (huW b0 X o sp n c e).1 (huW b0 X o sp n c e).2
  have hF5 : FieldsAt s5 := by
   obtain ⟨x0, x1, x2, x3, n0, n1, n2, n3, c0, c1, c2, c3, t, op, hf⟩ := hF
   exact ⟨x0, x1, x2, x3, n0, n1, n2, n3, c0, c1, c2, c3, t, op, (hkeep5 0 (St.at_lt hf) hFW).trans hf⟩
  have hg05 : Grew s0 s5 := hI'.g0.trans g5
  have hDn : DnI s0 s5 C O A h b u (Zb4 b (l.take i)).1 n 0 s6 := ⟨m6.wf, hg05.trans m6.grew, m6.grew, _, m6.here, by rw [Zck]; omega, by simp [Zmm]⟩
  have hst : Zb4 b (l.take (i + 1)) = stepG b (Zb4 b (l.take i)) ⟨k, q, ix, n⟩ := by rw [Zbm (List.getElem?_eq_getElem hlt), Zus, hx]
  have hst1 : (Zb4 b (l.take (i + 1))).1 = (Zb4 b (l.take i)).1 + n := by rw [hst]; rfl
  have hle := Zur b l (i + 1)
  have hk1 := ok.k1
  refine dcN (h := h) (k0 := (Zb4 b (l.take i)).1) (n := n) (A := A) (sP := s5) hb hbl ((hkeep5 C hCl hCW).trans hC) hO5 hO0 hu5 hF5 p5.wf hg05 hw0 hro0 (by omega) hI'.k (Nat.le_of_lt hn20) hDn ?_ ?_ ?_ ?_ ?_ ?_ ?_ (fun τ7 s7 kd b8 b11 hk7 hgood7 hD7 => ?_) (fun τ7 s7 e j hj1 hj2 hjg hje c4 c5 c6 w7 g7 hO7 => ?_)
  ·first | (simp only [U, Zad, wW, reduceCtorEq, Nat.reduceEqDiff, a1, a2, a4, a8] <;> rfl) | rfl
  ·first | (simp only [U, Zad, wW, reduceCtorEq, Nat.reduceEqDiff, a1, a2, a4, a8] <;> rfl) | rfl
  ·first | (simp only [U, Zad, wW, reduceCtorEq, Nat.reduceEqDiff, a1, a2, a4, a8] <;> rfl) | rfl
  ·first | (simp only [U, Zad, wW, reduceCtorEq, Nat.reduceEqDiff, a1, a2, a4, a8] <;> rfl) | rfl
  ·first | (simp only [U, Zad, wW, reduceCtorEq, Nat.reduceEqDiff, a1, a2, a4, a8] <;> rfl) | rfl
  ·first | (simp only [U, Zad, wW, reduceCtorEq, Nat.reduceEqDiff, a1, a2, a4, a8] <;> rfl) | rfl
  ·first | (simp only [U, Zad, wW, reduceCtorEq, Nat.reduceEqDiff, a1, a2, a4, a8] <;> rfl) | rfl
  ·have d1 : τ7 1 = u := by rw [kd.a1]; simp only [U, Zad, wW, reduceCtorEq, Nat.reduceEqDiff, a1]
   have d2 : τ7 2 = ptr C := by rw [kd.a2]; simp only [U, Zad, wW, reduceCtorEq, Nat.reduceEqDiff, a2]
   have d4 : τ7 4 = ptr O := by rw [kd.a4]; simp only [U, Zad, wW, reduceCtorEq, Nat.reduceEqDiff, a4]
   have d7 : τ7 7 = ptr Pb := by rw [kd.a7]; simp only [U, Zad, wW, reduceCtorEq, Nat.reduceEqDiff, a7]
   have d10 : τ7 10 = ptr E := by rw [kd.a10]; simp only [U, Zad, wW, reduceCtorEq, Nat.reduceEqDiff]
   have d22 : τ7 22 = v := by rw [kd.a22]; simp only [U, Zad, wW, reduceCtorEq, Nat.reduceEqDiff, a22]
   have d23 : τ7 23 = .int .i64 l.length := by rw [kd.a23]; simp only [U, Zad, wW, reduceCtorEq, Nat.reduceEqDiff, a23]
   have d24 : τ7 24 = .int .i64 i := by rw [kd.a24]; simp only [U, Zad, wW, reduceCtorEq, Nat.reduceEqDiff, a24]
   have hE7 : s7.at E = some (.cells (Prt.cells ⟨k, q, ix, n⟩) 30 false) := (hD7.g.same E (by omega)).trans p5.here
   have hn7 := hD7.g.n
   have hki : veq (.int .u8 (k : Int)) (.int .u8 (k : Int)) = true := by simp [veq]
   have hxv : veq (.agg (.mk (Prt.cells ⟨k, q, ix, n⟩))) (.agg (.mk (Prt.cells ⟨k, q, ix, n⟩))) = true := by simp [veq, veqA, veqL, Prt.cells]
   simp (maxSteps := 10000000) only [wW, reduceCtorEq, Nat.reduceEqDiff, d7, d10, d24, b11, Zcz, Zab, Zan Zms, Zac hE7, Nat.zero_add, hx0, hki, true_and]
   rw [Zah Ztz hE7 rfl, Zaa]
   refine ⟨hxv, ?_⟩
   refine Zz2 hD7.wf fun Ap s8 g8 w8 hAp => ?_
   refine ⟨g8.keeps, ?_⟩
   have hn8 := g8.n
   have hpix : Zal P 84 (.slice (some ⟨Ap, 0, none⟩) 12 12) (.int .u8 (k : Int)) = some (ptrO Ap k) := by
    simp only [Zal, Yb4, Z8p, Option.bind_some, Zes]
    rw [if_pos ⟨by omega, by omega⟩, Int.toNat_natCast, Nat.mul_one, Nat.zero_add]
   obtain ⟨cs, hPb, hpf⟩ := hI'.pf
   have hPbl := (hWL Pb hWp).2
   have g78 := hD7.g.trans g8
   have g8s := g5.trans g78
   have hPb8 : s8.at Pb = some (.cells cs 39 false) := (g8s.same Pb (by omega)).trans hPb
   have hpf8 := hpf.grew g8s
   obtain ⟨f, hf, hcall⟩ := wPl (ro := ro) (n := n) hPb8 hpf8 ok w8 (by omega)
   have hvf : veq (fnV f) (fnV f) = true := by simp [veq, veqA, veqL]
   rw [Zae, hpix, Zaa, Zan Yde, Zac hAp, Option.bind_some, hf, Zaa]
   refine ⟨hvf, ?_⟩
   show CallWP P ro f [ptr Pb, .agg (.mk (Prt.cells ⟨k, q, ix, n⟩))] s8 _
   refine hcall _ fun s9 g9 w9 => ?_
   have hn9 := g9.n
   have g9s := g8s.trans g9
   have hPb9 : s9.at Pb = some (.cells cs 39 false) := (g9s.same Pb (by omega)).trans hPb
   have hpf9 := hpf.grew g9s
   obtain ⟨c, T, hA9, hfit, hWA2, _⟩ := hpf9.place hPb9 (.inl hWp) ok
   obtain ⟨lc, hlc, hlcl, hlct⟩ := hD7.l
   have hlce : lc = (Zmm b (Zb4 b (l.take i)).1 n).map (.int .u64) := by rw [← hlct, List.take_of_length_le (by omega)]
   have hAl7 := St.at_lt hlc
   have hlc9 := ((g8.trans g9).same A hAl7).trans hlc
   have hu9 : U64s s9 (.slice (some ⟨A, 0, none⟩) n n) (Zmm b (Zb4 b (l.take i)).1 n) := by
    unfold U64s
    rw [Zga]
    exact ⟨_, _, rfl, by rw [List.length_map, Zga]; omega, ⟨Nat.le_refl _, fun h => (by cases h), fun x hx => by cases hx; exact .inl rfl⟩, fun _ => ⟨A, 0, none, _, _, false, rfl, rfl, hlc9, by rw [List.drop_zero, List.take_of_length_le (by omega)]; exact hlce⟩⟩
   have hAW : ¬ (W A ∨ (A = O ∨ A < s0.n)) := fun e => by
    rcases e with e | e
    ·have := hWL A e; omega
    ·omega
   have hWA : W ((Za2 B k q ix).1.getD Pb) := by
    cases hp : (Za2 B k q ix).1 with
    | none => exact hWp
    | some Y =>
     rcases Zh4 ok hp with rfl | rfl | ⟨j, hj, rfl⟩
     ·exact hBW.1
     ·exact hBW.2.1
     ·exact hBW.2.2 j hj
   have hWA' := hWL _ hWA
   refine wSet (W := fun A => W A ∨ (A = O ∨ A < s0.n)) hk1 hA9 hfit hWA2 (fun X hX => by
    rcases hX with hX | hX
    ·have := hWL X hX; omega
    ·omega) hu9 (fun X o' sp n' c' e => by cases e; exact ⟨by omega, hAW⟩) (by rw [Zga]; omega) (by unfold Z5l; rw [Zga]; exact hln) w9 (by omega) fun s10 r => ?_
   obtain ⟨cs', hPb10, hpf10⟩ := hpf9.setR hPb9 (.inl hWp) hPbne ok hA9 r
   have hn10 := r.n
   rw [Zaj (n := (i : Int) + 1) (by omega) (by omega)]
   refine ⟨i + 1, by omega, by omega, ?_, ?_, ?_, ?_, ?_, ?_, ?_, ?_, r.wf, r.gr s0 hw0 (hI'.g0.trans g9s) hWA'.1, by omega, fun X h1 h2 => ?_, ⟨cs', hPb10, ?_⟩, by rw [hst1]; omega, fun j hj => ?_⟩
   ·simp only [U, Zad, wW, reduceCtorEq, Nat.reduceEqDiff, d1]
   ·simp only [U, Zad, wW, reduceCtorEq, Nat.reduceEqDiff, d2]
   ·simp only [U, Zad, wW, reduceCtorEq, Nat.reduceEqDiff, d4]
   ·simp only [U, Zad, wW, reduceCtorEq, Nat.reduceEqDiff, d7]
   ·simp only [U, Zad, wW, reduceCtorEq, Nat.reduceEqDiff, b8, hst1]
   ·simp only [U, Zad, wW, reduceCtorEq, Nat.reduceEqDiff, d22]
   ·simp only [U, Zad, wW, reduceCtorEq, Nat.reduceEqDiff, d23]
   ·simp only [U, Zad, wW, reduceCtorEq, Nat.reduceEqDiff]; rfl
   ·rw [r.same X (by omega) (fun e => h2 (by rw [e]; exact hWA)), g9s.same X (by omega)]
    exact hI'.keep X h1 h2
   ·rw [hst]
    exact hpf10
   ·rw [hst1] at hj
    by_cases hjj : j < (Zb4 b (l.take i)).1
    ·exact hI'.good j hjj
    ·exact hgood7 j (by omega) hj
  ·refine hret τ7 s7 e (Zs3 (fun j' _ h2 => ?_) hje (by omega) (by omega)) c4 c5 c6 w7 g7 hO7
   by_cases hjj : j' < (Zb4 b (l.take i)).1
   ·exact hI'.good j' hjj
   ·exact hjg j' (by omega) h2
 ·obtain rfl : i = l.length := by omega
  rw [if_neg (by omega)]
  rw [List.take_length] at a8
  refine hk _ s' ?_ ?_ ?_ ?_ hI'
  all_goals first | rfl | (simp only [U, Zad, wW, reduceCtorEq, Nat.reduceEqDiff]; done) | (simp only [U, Zad, wW, reduceCtorEq, Nat.reduceEqDiff, a1, a4, a7, a8]; done)
end
theorem Z14 {b : List Int} {p : Int} {e : Int × Int} : ∀ {c k : Nat}, errF b p c k = some e → e.2 ≠ 0
 | 0, k, h => by cases h
 | c + 1, k, h => by
  unfold errF at h
  cases hr : rdE b p k with
  | none => rw [hr] at h; exact Z14 h
  | some e' =>
   rw [hr] at h
   cases h
   unfold rdE at hr
   split at hr
   ·cases hr
    exact (by decide : (5 : Int) ≠ 0)
   ·split at hr
    ·cases hr
     exact (by decide : (2 : Int) ≠ 0)
    ·cases hr
theorem Zuo {g : Nat → List Prt → List Prt} {x : Prt} (hg : ∀ i l, x ∈ l → x ∈ g i l) {l : List Prt} (h : x ∈ l) : ∀ n, x ∈ it g n l
 | 0 => h
 | n + 1 => hg n _ (Zuo hg h n)
theorem Zuc {h : Shp} (hv : shV h = true) : 0 < (Zbe h).length := by
 have h1 : (⟨2, 0, 0, 1⟩ : Prt) ∈ Zaq h := by
  unfold Zaq midA
  refine Zuo (fun i l hl => ?_) (List.mem_append_left _ (Zuo (fun i l hl => List.mem_append_left _ hl) (by simp [preA]) _)) _
  unfold alQ
  exact Zuo (fun i l hl => List.mem_append_left _ hl) (Zuo (fun i l hl => List.mem_append_left _ hl) (Zuo (fun i l hl => List.mem_append_left _ hl) hl _) _) _
 have h2 : (⟨2, 0, 0, 1⟩ : Prt) ∈ Zbe h := by
  rw [← Zgt hv]
  exact List.mem_filter.2 ⟨h1, by decide⟩
 exact List.length_pos_of_mem h2
section
variable {s s' : St} {W : Nat → Prop} {cs : List Value} {B : PfB} {R Q : Nat} {g : Nat → Nat → Nat → List Int}
theorem PfAt.off {X : Nat} (h : PfAt s W cs B R Q g) (hn : s.n ≤ s'.n) (hat : ∀ A, A ≠ X → s'.at A = s.at A) (hX : W X) (h1 : X ≠ B.rb) (h2 : X ≠ B.ob) (h3 : ∀ j, j < Q → X ≠ B.fb j) : PfAt s' W cs B R Q g := by
 obtain ⟨c1, r1, l1⟩ := h.rb
 obtain ⟨c2, r2, l2, f2⟩ := h.ob
 have hl : ∀ A, A < s.n → ¬ W A → s'.at A = s.at A := fun A _ hA => hat A fun e => hA (by rw [e]; exact hX)
 have hb : ∀ A, (A = B.rb ∨ A = B.ob ∨ ∃ j, j < Q ∧ A = B.fb j) → s'.at A = s.at A := fun A hA => hat A fun e => by
  rcases hA with rfl | rfl | ⟨j, hj, rfl⟩
  ·exact h1 e.symm
  ·exact h2 e.symm
  ·exact h3 j hj e.symm
 refine ⟨h.cl, h.c4, h.c7, ⟨c1, (hb _ (.inl rfl)).trans r1, l1⟩, ⟨c2, (hb _ (.inr (.inl rfl))).trans r2, l2, f2⟩, fun j hj => ?_, h.ne, h.nef, h.w, fun k q i ok => ?_⟩
 ·obtain ⟨c3, r3, l3⟩ := h.fb j hj
  exact ⟨c3, (hb _ (.inr (.inr ⟨j, hj, rfl⟩))).trans r3, l3⟩
 ·obtain ⟨c, hc, hs⟩ := h.sl k q i ok
  refine ⟨c, ?_, hs.mono hn hl fun _ _ => rfl⟩
  cases hp : (Za2 B k q i).1 with
  | none => rw [hp] at hc; exact hc
  | some A =>
   rw [hp] at hc
   show Zbi (s'.at A) = some c
   rw [hb A (Zh4 ok hp)]
   exact hc
theorem PfAt.one (h : PfAt s W cs B R Q g) : cs.all (·.oneCell') = true := by
 have get : ∀ i, i < 8 → ∃ v, cs[i]? = some v ∧ v.oneCell' = true := fun i hi => by
  have sv : ∀ k, (k = 1 ∨ k = 3 ∨ k = 4 ∨ k = 6) → ∃ v, cs[(Za2 B k 0 0).2]? = some v ∧ v.oneCell' = true := fun k hk => by
   obtain ⟨c, hc, hs⟩ := h.sl k 0 0 (.top k (by omega))
   have hcs : c = cs := by rcases hk with rfl | rfl | rfl | rfl <;> simpa [Za2, Zen] using hc.symm
   subst hcs
   unfold SlotC at hs
   rw [if_neg (by omega), if_neg (by omega)] at hs
   obtain ⟨v, e, hv⟩ := hs
   exact ⟨v, e, hv.one.1⟩
  have sn : ∀ k, (k = 2 ∨ k = 7) → ∃ v, cs[(Za2 B k 0 0).2]? = some v ∧ v.oneCell' = true := fun k hk => by
   obtain ⟨c, hc, hs⟩ := h.sl k 0 0 (.top k (by omega))
   have hcs : c = cs := by rcases hk with rfl | rfl <;> simpa [Za2, Zen] using hc.symm
   subst hcs
   unfold SlotC at hs
   rw [if_pos hk] at hs
   obtain ⟨x, _, e⟩ := hs
   exact ⟨_, e, rfl⟩
  match i, hi with
  | 0, _ => exact sv 1 (by omega)
  | 1, _ => exact sv 3 (by omega)
  | 2, _ => exact sv 4 (by omega)
  | 3, _ => exact sn 2 (by omega)
  | 4, _ => exact ⟨_, h.c4, rfl⟩
  | 5, _ => exact sv 6 (by omega)
  | 6, _ => exact sn 7 (by omega)
  | 7, _ => exact ⟨_, h.c7, rfl⟩
 refine List.all_eq_true.2 fun v hv => ?_
 obtain ⟨i, hi⟩ := List.getElem?_of_mem hv
 have hlt := (List.getElem?_eq_some_iff.1 hi).1
 obtain ⟨w, hw, h1⟩ := get i (by have := h.cl; omega)
 rw [hw] at hi
 cases hi
 exact h1
end
section
variable {ro : Nat} {s : St} {K : Value → St → Prop}
theorem Z61 (h : Shp) {b : List Int} {u : Value} (hb : ∀ x ∈ b, 0 ≤ x ∧ x < 256) (hbl : b.length < 2 ^ 40) (hu : Bys s u b) (huA : b ≠ [] → ∀ A o sp n c, u = .slice (some ⟨A, o, sp⟩) n c → A < s.n) (hw : Wf s) (hro : ro ≤ s.n) (hF : FieldsAt s)
  (h0 : shV h = false → K (.tuple (.mk [.agg (.mk Zcu), .int .i64 0, .int .i64 1])) s)
  (h1 : shV h = true → (decE b (fP h.f) (Zb4 b (Zbe h)).1).2 ≠ 0 → K (.tuple (.mk [.agg (.mk Zcu), .int .i64 (decE b (fP h.f) (Zb4 b (Zbe h)).1).1, .int .i64 (decE b (fP h.f) (Zb4 b (Zbe h)).1).2])) s)
  (h2 : shV h = true → decE b (fP h.f) (Zb4 b (Zbe h)).1 = (0, 0) → (∀ j, j < (Zb4 b (Zbe h)).1 → rdE b (fP h.f) j = none) → ∀ cs B s' W, Grew s s' → (∀ A, W A → A < s'.n) → (∀ A, A < s.n → W A) → (s.n ≤ B.rb ∧ s.n ≤ B.ob ∧ ∀ j, j < h.q.toNat → s.n ≤ B.fb j) → PfAt s' W cs B (shR h).toNat h.q.toNat (Zb4 b (Zbe h)).2 → K (.tuple (.mk [.agg (.mk cs), .int .i64 0, .int .i64 0])) s') :
  CallWP P ro 17 [.agg (.mk h.cells), u] s K := by
 refine Zas b17 rfl ?_
 rw [n17]
 unfold v17
 simp (maxSteps := 10000000) only [wW, reduceCtorEq, Nat.reduceEqDiff]
 refine Zam hw.ent fun C s1 m1 => ?_
 have e1 := m1.eq
 have n1 := m1.n
 have hn0 : (ent s).n = s.n := rfl
 refine Zai Zh0 m1.wf fun O s2 m2 => ?_
 have e2 := m2.eq
 have n2 := m2.n
 have g2 : Grew (ent s) s2 := m1.grew.trans m2.grew
 have hC2 : s2.at C = some (.cells h.cells 23 false) := (m2.grew.same C (by omega)).trans m1.here
 have hO2 : s2.at O = some (.cells Zcu 39 false) := m2.here
 have hF2 : FieldsAt s2 := FieldsAt.grew (s := ent s) hF g2
 have h0n : 0 < s.n := hF.lt
 rw [Zab, Zah Zc2 hC2 rfl, Zaa, Zz3 h m2.wf (by omega) hF2]
 simp (maxSteps := 10000000) only [wW, reduceCtorEq, Nat.reduceEqDiff]
 cases hv : shV h with
 | false =>
  rw [if_pos rfl, bldZ, Zaa]
  refine Zag Zea hO2 (l := Zcu) rfl (by decide) m2.wf (by omega) rfl rfl fun s3 p3 => ?_
  rw [Zab, Zah Zhy p3.here rfl, Zaa]
  exact Zau rfl (p3.grew _ hw.ent g2 (by omega)) (h0 hv)
 | true =>
  rw [if_neg (by decide), Zab, Zah Zc2 hC2 rfl, Zaa]
  have hv' := hv
  unfold shV inR at hv'
  simp only [Bool.and_eq_true, decide_eq_true_eq] at hv'
  refine Ydx h hv m2.wf (by omega) fun B s3 g3 hB hpf => ?_
  have n3 := g3.n
  have w3 := m2.wf.grew g3
  obtain ⟨b1, b2, b3⟩ := hB
  refine Zai Zh0 w3 fun Pb s4 m4 => ?_
  have e4 := m4.eq
  have n4 := m4.n
  refine Zag Zea m4.here (l := Zfz (shR h).toNat h.q.toNat B.rb B.ob) rfl (by decide) m4.wf (by omega) rfl rfl fun s5 p5 => ?_
  have n5 := p5.n
  have g35 : Grew s3 s5 := p5.grew _ w3 m4.grew (by omega)
  have g05 : Grew (ent s) s5 := g2.trans (g3.trans g35)
  have g25 := g3.trans g35
  have hC5 : s5.at C = some (.cells h.cells 23 false) := (g25.same C (by omega)).trans hC2
  rw [Zab, Zah Zc2 hC5 rfl, Zaa]
  refine Zz4 h p5.wf (by omega) (FieldsAt.grew (s := ent s) hF g05) (fun hf => by rw [hv] at hf; cases hf) fun _ v s6 g6 hP hPA => ?_
  have n6 := g6.n
  have hpos := Zuc hv
  have hlen := Zl4 hv
  rw [Sl.wlen hP Zis]
  have hWdef : ∀ A, (A = Pb ∨ A = B.rb ∨ A = B.ob ∨ ∃ j, j < h.q.toNat ∧ A = B.fb j) → s2.n ≤ A ∧ A < s5.n := fun A hA => by
   have hp := hpf (fun _ => True) trivial trivial (fun _ _ => trivial)
   obtain ⟨c1, r1, _⟩ := hp.rb
   obtain ⟨c2, r2, _⟩ := hp.ob
   have l1 := St.at_lt r1
   have l2 := St.at_lt r2
   rcases hA with rfl | rfl | rfl | ⟨j, hj, rfl⟩
   ·omega
   ·omega
   ·omega
   ·obtain ⟨c3, r3, _⟩ := hp.fb j hj
    have l3 := St.at_lt r3
    have := b3 j hj
    omega
  have hp3 := hpf (fun A => (A = Pb ∨ A = B.rb ∨ A = B.ob ∨ ∃ j, j < h.q.toNat ∧ A = B.fb j) ∨ (A = O ∨ A < (ent s).n)) (.inl (.inr (.inl rfl))) (.inl (.inr (.inr (.inl rfl)))) (fun j hj => .inl (.inr (.inr (.inr ⟨j, hj, rfl⟩))))
  have hp6 := (hp3.grew g35).grew g6
  have hPb6 : s6.at Pb = some (.cells (Zfz (shR h).toNat h.q.toNat B.rb B.ob) 39 false) := (g6.same Pb (by omega)).trans p5.here
  have hPbne : Pb ≠ B.rb ∧ Pb ≠ B.ob ∧ ∀ j, j < h.q.toNat → Pb ≠ B.fb j := by
   obtain ⟨c1, r1, _⟩ := hp3.rb
   obtain ⟨c2, r2, _⟩ := hp3.ob
   have l1 := St.at_lt r1
   have l2 := St.at_lt r2
   refine ⟨by omega, by omega, fun j hj => ?_⟩
   obtain ⟨c3, r3, _⟩ := hp3.fb j hj
   have l3 := St.at_lt r3
   omega
  have g06 : Grew (ent s) s6 := g05.trans g6
  have w6 := p5.wf.grew g6
  have hC6 : s6.at C = some (.cells h.cells 23 false) := (g6.same C (by omega)).trans hC5
  have hO6 : s6.at O = some (.cells Zcu 39 false) := ((g25.trans g6).same O (by omega)).trans hO2
  have hI6 : DcI (ent s) s6 (fun A => A = Pb ∨ A = B.rb ∨ A = B.ob ∨ ∃ j, j < h.q.toNat ∧ A = B.fb j) O Pb B (shR h).toNat h.q.toNat b (fP h.f) (Zbe h) 0 s6 :=
   ⟨w6, g06, Nat.le_refl _, fun _ _ _ => rfl, ⟨_, hPb6, hp6⟩, by show 4 * 0 ≤ _; omega, fun j hj => by have hj : j < 0 := hj; omega⟩
  have zfl : ∀ x y : Int, Zct (.tuple (.mk [.agg (.mk Zcu), .int .i64 x, .int .i64 y])) = true := fun x y => rfl
  refine dcP (h := h) (C := C) (O := O) (Pb := Pb) (B := B) (R := (shR h).toNat) (Q := h.q.toNat) hb hbl hC6 (fun e => by have := hWdef C e; omega) ⟨_, hO6, rfl⟩ (fun e => by have := hWdef O e; omega) (by omega) ((Sl.ent hu).grew g06.same) (fun b0 A o sp n c e => ⟨by have := huA b0 A o sp n c e; omega, fun hA => by have := hWdef A hA; have := huA b0 A o sp n c e; omega⟩) (FieldsAt.grew (s := ent s) hF g06) (fun e => by have := hWdef 0 e; omega) hP (fun A o sp n c e => ⟨?_, fun hA => by have := hWdef A hA; have := hPA A o sp n c e; omega⟩) hlen (Zk3 hv) (.inl rfl) ⟨.inr (.inl rfl), .inr (.inr (.inl rfl)), fun j hj => .inr (.inr (.inr ⟨j, hj, rfl⟩))⟩ hPbne (fun A hA => by have := hWdef A hA; omega) hw.ent hro hI6 ?_ ?_ ?_ ?_ ?_ ?_ ?_ ?_ (fun τ7 s7 c1 c4 c7 c8 hI7 => ?_) (fun τ7 s7 e he c4 c5 c6 w7 g7 hO7 => ?_)
  ·obtain ⟨a, cc, ev, _, _, hbk⟩ := hP
   obtain ⟨A', o', m', cells, t, op, ha, _, hA', _⟩ := hbk (by omega)
   rw [ev, ha] at e
   cases e
   exact St.at_lt hA'
  ·rfl
  ·rfl
  ·rfl
  ·rfl
  ·rfl
  ·rfl
  ·rfl
  ·rfl
  ·have hgood := hI7.good
   have hkk := hI7.k
   rw [List.take_length] at hgood hkk
   obtain ⟨cs, hPb7, hp7⟩ := hI7.pf
   rw [List.take_length] at hp7
   have hn7 := hI7.n
   have hu7 : Bys s7 u b := Bys.sameAt hu fun b0 A o sp n c e => by
    have hA := huA b0 A o sp n c e
    rw [hI7.keep A (by omega) (fun hA' => by have := hWdef A hA'; omega), g06.same A hA]
    rfl
   have hO7 : s7.at O = some (.cells Zcu 39 false) := (hI7.keep O (by omega) (fun e => by have := hWdef O e; omega)).trans hO6
   have hnone := Zs4 (b := b) (p := fP h.f) (c := (Zb4 b (Zbe h)).1) (k := 0) fun j _ hj => hgood j (by omega)
   simp (maxSteps := 10000000) only [wW, reduceCtorEq, Nat.reduceEqDiff, c1, c4, c7, c8, Sl.wlen hu7 Zr9]
   by_cases hlt : (4 * ((Zb4 b (Zbe h)).1 : Int)) < b.length
   ·have hdec : decE b (fP h.f) (Zb4 b (Zbe h)).1 = (4 * ((Zb4 b (Zbe h)).1 : Int), 3) := by
     unfold decE
     rw [hnone]
     simp only
     rw [if_pos hlt]
    rw [if_pos hlt, bldZ, Zaa]
    refine Zag Zea hO7 (l := Zcu) rfl (by decide) hI7.wf (by omega) rfl rfl fun s8 p8 => ?_
    rw [Zab, Zah Zhy p8.here rfl, Zaa]
    have := h1 hv (by rw [hdec]; exact (by decide : (3 : Int) ≠ 0))
    rw [hdec] at this
    exact Zau (zfl _ _) (p8.grew _ hw.ent hI7.g0 (by omega)) this
   ·have hdec : decE b (fP h.f) (Zb4 b (Zbe h)).1 = (0, 0) := by
     unfold decE
     rw [hnone]
     simp only
     rw [if_neg hlt]
    rw [if_neg hlt, Zab, Zah Zhy hPb7 hp7.cl, Zaa]
    have hone : cs.all (·.oneCell') = true := hp7.one
    refine Zag Zea hO7 (l := cs) hp7.cl (by decide) hI7.wf (by omega) rfl hone fun s8 p8 => ?_
    rw [Zab, Zah Zhy p8.here hp7.cl, Zaa]
    have g8 := p8.grew _ hw.ent hI7.g0 (by omega)
    obtain ⟨sB, hsB⟩ : ∃ x, cs[7]? = some (.slice (some x) h.q.toNat h.q.toNat) := ⟨_, hp7.c7⟩
    have hfl : Zct (.tuple (.mk [.agg (.mk cs), .int .i64 0, .int .i64 0])) = false := by
     show (false || (Zch cs && (true && (true && true)))) = false
     have : Zch cs = false := by
      cases hf : Zch cs with
      | false => rfl
      | true => have := Zds hf hsB; cases this
     rw [this]; rfl
    refine Zci hw g8 hfl fun s9 g9 hn9 hat => ?_
    have n8 := p8.n
    refine h2 hv hdec hgood cs B s9 (fun A => (A = Pb ∨ A = B.rb ∨ A = B.ob ∨ ∃ j, j < h.q.toNat ∧ A = B.fb j) ∨ (A = O ∨ A < (ent s).n)) g9 (fun A hA => ?_) (fun A hA => .inr (.inr hA)) ⟨?_, ?_, fun j hj => ?_⟩ ?_
    ·rcases hA with hA | rfl | hA
     ·have := hWdef A hA
      omega
     ·omega
     ·omega
    ·have := hWdef B.rb (.inr (.inl rfl)); omega
    ·have := hWdef B.ob (.inr (.inr (.inl rfl))); omega
    ·have := hWdef (B.fb j) (.inr (.inr (.inr ⟨j, hj, rfl⟩))); omega
    ·refine hp7.off (X := O) (by omega) (fun A hA => (hat A).trans (p8.rest A hA)) (.inr (.inl rfl)) (fun e => ?_) (fun e => ?_) fun j hj e => ?_
     ·have := hWdef B.rb (.inr (.inl rfl)); omega
     ·have := hWdef B.ob (.inr (.inr (.inl rfl))); omega
     ·have := hWdef (B.fb j) (.inr (.inr (.inr ⟨j, hj, rfl⟩))); omega
  ·have hdec : decE b (fP h.f) (Zb4 b (Zbe h)).1 = e := by
    unfold decE
    rw [he]
   rw [r17]
   simp (maxSteps := 10000000) only [wW, reduceCtorEq, Nat.reduceEqDiff, c4, c5, c6]
   rw [Zab, Zah Zhy hO7 rfl, Zaa]
   have := h1 hv (by rw [hdec]; exact Z14 he)
   rw [hdec] at this
   exact Zau (zfl _ _) g7 this
end
theorem Z58 {ro : Nat} {s : St} {A m c n : Nat} {cs : List Value} {x : Value} {ys : List Value} (hA : s.at A = some (.cells cs 34 false)) (hw : Wf s) (hro : ro ≤ A) (hx : Sl s x 1 n ys) (hn : 0 < n) (h1 : ys.all (·.oneCell') = true) (hm : m + n ≤ c) (hc : cs.length = c) {ty : TypeId} {K : Value → St → Prop}
  (hk : ∀ s', Put s A (.cells (splice cs m ys) 34 false) s' → K (.slice (some ⟨A, 0, none⟩) (m + n) c) s') : wop P ro (.call ⟨.builtin .append, ⟨[.const (.slice (some ⟨A, 0, none⟩) m c), .const x]⟩, #[36, 36]⟩) ty s K := by
 obtain ⟨i, hi, his, hib, hz, hf, hzs⟩ := Zep Zvb
 obtain ⟨ha, hfst⟩ := hx.first
 have hyl := hx.len
 rw [Ziq]
 have e1 : Zd3 P ro s #[36, 36] [.slice (some ⟨A, 0, none⟩) m c, x] = some (.slice (some ⟨A, 0, none⟩) (m + n) c, s.put A (.cells (splice cs m ys) 34 false)) := by
  have hni : Zmz P 36 = true := by kernel_rfl
  simp only [Zd3, Zh1, hni, hi, ha, his, hfst, Option.bind_some, Zdv]
  rw [if_pos hm, Nat.zero_add, Nat.mul_one, Zhw hA hro (by omega) (by omega) h1]
  rfl
 rw [e1]
 exact hk _ (.mk' hw (St.at_lt hA) _)
theorem Zkv {c l : List Value} {m : Nat} (h : m + l.length ≤ c.length) : (splice c m l).take (m + l.length) = c.take m ++ l := by
 unfold splice
 have h1 : (c.take m).length = m := by rw [List.length_take]; omega
 rw [← List.append_assoc]
 have h2 : (c.take m ++ l).length = m + l.length := by rw [List.length_append, h1]
 rw [← h2, List.take_left]
def fIs (f : Int) (l : List Int) : Bool := decide (∀ x ∈ l, x < fP f) && fV f
section
variable {ro : Nat} {s : St} {K : Value → St → Prop}
theorem Yf2 (A o : Nat) (ty : TypeId) (s : St) (K : Value → St → Prop) : wop P ro (.slice 112 (.const (ptrO A o)) none none none) ty s K = K (.slice (some ⟨A, o, none⟩) 8 8) s := by
 rw [Zko]
 have hsl : Zbx P 112 (.pointer (some ⟨A, o, none⟩)) none none none = some (.slice (some ⟨A, o, none⟩) 8 8) := by
  simp only [Zbx, Z67, Zfm, Zn6, Zb9, Option.bind_some]
  simp
 rw [show Zbx P 112 (.pointer (some ⟨A, o, none⟩)) (Option.map (aval .e) none) (Option.map (aval .e) none) (Option.map (aval .e) none) = some (.slice (some ⟨A, o, none⟩) 8 8) from hsl, Zaa]
theorem Yf1 (A : Nat) (ty : TypeId) (s : St) (K : Value → St → Prop) : wop P ro (.slice 55 (.const (ptrO A 0)) none none none) ty s K = K (.slice (some ⟨A, 0, none⟩) 2 2) s := by
 rw [Zko]
 have hsl : Zbx P 55 (.pointer (some ⟨A, 0, none⟩)) none none none = some (.slice (some ⟨A, 0, none⟩) 2 2) := by
  simp only [Zbx, Ydy, Zfm, Zn6, Zb9, Option.bind_some]
  simp
 rw [show Zbx P 55 (.pointer (some ⟨A, 0, none⟩)) (Option.map (aval .e) none) (Option.map (aval .e) none) (Option.map (aval .e) none) = some (.slice (some ⟨A, 0, none⟩) 2 2) from hsl, Zaa]
theorem Yfn {W : Nat → Prop} {k A o : Nat} {c : List Value} {l : List Int} (hk0 : k = 1 ∨ k = 3 ∨ k = 4 ∨ k = 5 ∨ k = 9 ∨ k = 11) (hA : Zbi (s.at A) = some c) (hS : SlotC s W k c o l) (hlen : l.length < 2 ^ 20) (hw : Wf s) (hro : ro ≤ s.n) (hk : ∀ v s', Grew s s' → U64s s' v l → K v s') :
  CallWP P ro 57 [.agg (.mk (lstC k (ptrO A o)))] s K := by
 refine Zas b57 rfl ?_
 rw [n57]
 unfold v57
 have hn0 : (ent s).n = s.n := rfl
 have hl1 : lstC k (ptrO A o) = [.pointer none, ptrO A o, .pointer none, .pointer none] := by
  unfold lstC
  rw [if_neg (by omega), if_neg (by omega), if_neg (by omega)]
 rw [hl1]
 unfold SlotC at hS
 rw [if_neg (by omega), if_neg (by omega), if_neg (by omega)] at hS
 obtain ⟨v, hv, m, hm, hvs, _⟩ := hS
 simp (maxSteps := 10000000) only [wW, reduceCtorEq, Nat.reduceEqDiff]
 refine Zam hw.ent fun Bx s1 m1 => ?_
 have e1 := m1.eq
 have n1 := m1.n
 have hB1 : s1.at Bx = some (.cells [.pointer none, ptrO A o, .pointer none, .pointer none] 82 false) := m1.here
 have hAl : A < s.n := by
  cases hc : s.at A with
  | none => rw [hc] at hA; cases hA
  | some x => exact St.at_lt hc
 have hA1 : Zbi (s1.at A) = some c := by rw [m1.grew.same A hAl]; exact hA
 have hv1 : Sl s1 v 2 m (l.map (.int .u64)) := (Sl.ent hvs).grew m1.grew.same
 simp (maxSteps := 10000000) only [wW, reduceCtorEq, Nat.reduceEqDiff, Zab, Zlj, Zv9, Zpi, Zv8, Zan Zwn, Zan Z9g, Zan Z6a, Zan Ya1, Zan Zfl, Zac hB1, hA1, hv, Nat.zero_add, List.getElem?_cons_zero, List.getElem?_cons_succ, pn77, pn79, pn80, Sl.wlen hv1 Zr8]
 rw [Zaj (n := 2 * (m : Int)) (by omega) (by omega)]
 refine Zdb Zh1 Zvb m1.wf (by decide) (by omega) (by omega) (by decide) fun D s2 m2 => ?_
 have e2 := m2.eq
 have n2 := m2.n
 have hB2 := (m2.grew.same Bx (by omega)).trans hB1
 have hA2 : Zbi (s2.at A) = some c := by rw [m2.grew.same A (by omega)]; exact hA1
 have hv2 : Sl s2 v 2 m (l.map (.int .u64)) := hv1.grew m2.grew.same
 simp (maxSteps := 10000000) only [wW, reduceCtorEq, Nat.reduceEqDiff, Zab, Zv9, Zan Z9g, Zan Zfl, Zac hB2, hA2, hv, Nat.zero_add, List.getElem?_cons_zero, List.getElem?_cons_succ, Sl.wlen hv2 Zr8]
 have e2m : (2 * (m : Int)).toNat = 2 * m := by omega
 have g02 : Grew (ent s) s2 := m1.grew.trans m2.grew
 refine Zdx Z05 Z0y (fun (i : Nat) τ ds s' => i ≤ m ∧ τ 41 = v ∧ τ 42 = .int .i64 m ∧ τ 43 = .int .i64 i ∧ τ 3 = .slice (some ⟨D, 0, none⟩) (2 * i) (2 * m) ∧ ds = [] ∧ Wf s' ∧ Grew (ent s) s' ∧ Sl s' v 2 m (l.map (.int .u64)) ∧ ∃ dc, s'.at D = some (.cells dc 34 false) ∧ dc.length = 2 * m ∧ dc.take (2 * i) = (l.take (2 * i)).map (.int .u64)) (fun i => m - i) ?_ 0 ⟨by omega, ?_, ?_, ?_, ?_, rfl, m2.wf, g02, hv2, _, m2.here, by rw [Zck]; omega, by simp⟩
 ·rintro i τ ds s' ⟨hi, t41, t42, t43, t3, rfl, w', g', hv', dc, hD, hDl, hDt⟩
  rw [Z0o]
  unfold Znc
  have hgn := g'.n
  simp (maxSteps := 10000000) only [wW, reduceCtorEq, Nat.reduceEqDiff, t41, t42, t43, t3]
  by_cases hlt : i < m
  ·rw [if_pos (by omega)]
   obtain ⟨A5, o5, q1, _, q3⟩ := Sl.ix hv' (by decide) (show (0 : Int) ≤ i by omega) (show (i : Int) < m by omega)
   have q3' := q3 0 2 (by decide) (by decide)
   rw [Nat.add_zero, Nat.add_zero, Int.toNat_natCast] at q3'
   have hcut : cut (l.map (Value.int .u64)) (i * 2) 2 = some [.int .u64 (l[2 * i]), .int .u64 (l[2 * i + 1])] := by
    rw [Zj0 (by rw [List.length_map]; omega), Ziw (by rw [List.length_map]; omega), Ziw (by rw [List.length_map]; omega), List.getElem_map, List.getElem_map]
    simp only [Nat.mul_comm i 2]
    rfl
   rw [hcut] at q3'
   have hld : Za4 P s' 55 (.pointer (some ⟨A5, o5, none⟩)) = some (.agg (.mk [.int .u64 (l[2 * i]), .int .u64 (l[2 * i + 1])])) := by
    rw [Z8c Ydf, q3']
    rfl
   rw [Zae, q1 Zr8 Z8q, Zaa, Zab, hld, Zaa]
   refine Zai Z4p w' fun E s5 m5 => ?_
   have e5 := m5.eq
   have n5 := m5.n
   have hDl' := St.at_lt hD
   refine Zag Z8q m5.here (l := [.int .u64 (l[2 * i]), .int .u64 (l[2 * i + 1])]) rfl (by decide) m5.wf (by omega) rfl rfl fun s6 p6 => ?_
   have n6 := p6.n
   have g6 : Grew s' s6 := p6.grew _ w' m5.grew (by omega)
   rw [Yf1]
   have hx6 : Sl s6 (.slice (some ⟨E, 0, none⟩) 2 2) 1 2 [.int .u64 (l[2 * i]), .int .u64 (l[2 * i + 1])] := ⟨_, _, rfl, rfl, ⟨Nat.le_refl _, fun h => (by cases h), fun x hx => by cases hx; exact .inl rfl⟩, fun _ => ⟨E, 0, none, _, _, false, rfl, rfl, p6.here, rfl⟩⟩
   refine Z58 ((g6.same D hDl').trans hD) p6.wf (by omega) hx6 (by decide) rfl (by omega) hDl fun s7 p7 => ?_
   rw [Zaj (n := (i : Int) + 1) (by omega) (by omega)]
   have htk : (l.take (2 * (i + 1))).map (Value.int .u64) = (l.take (2 * i)).map (Value.int .u64) ++ [.int .u64 l[2 * i], .int .u64 l[2 * i + 1]] := by
    rw [show 2 * (i + 1) = 2 * i + 1 + 1 by omega, Zbm (List.getElem?_eq_getElem (show 2 * i + 1 < l.length by omega)), Zbm (List.getElem?_eq_getElem (show 2 * i < l.length by omega)), List.map_append, List.map_append, List.append_assoc]
    rfl
   have hDn : D ≠ s'.n := by omega
   have hvD : ∀ A o sp k c, v = .slice (some ⟨A, o, sp⟩) k c → s7.at A = s6.at A := fun A o sp k c e => by
    refine p7.rest A fun e2 => ?_
    subst e2
    obtain ⟨a, cc, ev, _, _, hb⟩ := hvs
    obtain ⟨A', o', m', cells, t, op, ha, _, hA', _⟩ := hb (by omega)
    rw [ev, ha] at e
    cases e
    have := St.at_lt hA'
    omega
   refine ⟨i + 1, by omega, by omega, ?_, ?_, ?_, ?_, by first | trivial | rfl, p7.wf, p7.grew _ hw.ent (g'.trans g6) (by omega), (hv'.grew g6.same).sameAt hvD, _, p7.here, ?_, ?_⟩
   ·simp only [U, Zad, wW, reduceCtorEq, Nat.reduceEqDiff, t41]
   ·simp only [U, Zad, wW, reduceCtorEq, Nat.reduceEqDiff, t42]
   ·simp only [U, Zad, wW, reduceCtorEq, Nat.reduceEqDiff]; rfl
   ·simp only [U, Zad, wW, reduceCtorEq, Nat.reduceEqDiff]
    rfl
   ·rw [Za0 (by simp; omega)]; exact hDl
   ·have := Zkv (c := dc) (l := [.int .u64 l[2 * i], .int .u64 l[2 * i + 1]]) (m := 2 * i) (by simp; omega)
    rw [htk, ← hDt]
    exact this
  ·obtain rfl : i = m := by omega
   rw [if_neg (by omega)]
   simp (maxSteps := 10000000) only [U, Zad, wW, reduceCtorEq, Nat.reduceEqDiff, t3]
   have hdce : dc = l.map (.int .u64) := by
    rw [List.take_of_length_le (by omega), List.take_of_length_le (by omega)] at hDt
    exact hDt
   have hU : Sl s' (.slice (some ⟨D, 0, none⟩) (2 * i) (2 * i)) 1 l.length (l.map (.int .u64)) := by
    rw [show l.length = 2 * i by omega]
    exact ⟨_, _, rfl, by rw [List.length_map]; omega, ⟨Nat.le_refl _, fun h => (by cases h), fun x hx => by cases hx; exact .inl rfl⟩, fun _ => ⟨D, 0, none, _, _, false, rfl, rfl, hD, by rw [List.drop_zero, List.take_of_length_le (by omega)]; exact hdce⟩⟩
   exact Znb hw g' hU fun s9 g9 hs9 => hk _ s9 g9 hs9
 ·simp only [U, Zad, wW, reduceCtorEq, Nat.reduceEqDiff]
 ·simp only [U, Zad, wW, reduceCtorEq, Nat.reduceEqDiff]
 ·simp only [U, Zad, wW, reduceCtorEq, Nat.reduceEqDiff]; rfl
 ·simp only [U, Zad, wW, reduceCtorEq, Nat.reduceEqDiff, e2m]
  rfl
theorem wGet {W : Nat → Prop} {k A o : Nat} {c : List Value} {l : List Int} (hk1 : 1 ≤ k ∧ k ≤ 11) (hA : Zbi (s.at A) = some c) (hfit : o + Zd9 k ≤ c.length) (hS : SlotC s W k c o l) (hlen : l.length < 2 ^ 20) (hw : Wf s) (hro : ro ≤ s.n) (hk : ∀ v s', Grew s s' → U64s s' v l → K v s') :
  CallWP P ro 57 [.agg (.mk (lstC k (ptrO A o)))] s K := by
 by_cases hd : k = 1 ∨ k = 3 ∨ k = 4 ∨ k = 5 ∨ k = 9 ∨ k = 11
 ·exact Yfn hd hA hS hlen hw hro hk
 refine Zas b57 rfl ?_
 rw [n57]
 unfold v57
 have hn0 : (ent s).n = s.n := rfl
 have hAl : A < s.n := by
  cases hc : s.at A with
  | none => rw [hc] at hA; cases hA
  | some x => exact St.at_lt hc
 unfold SlotC at hS
 unfold Zd9 at hfit
 by_cases he : k = 6 ∨ k = 8
 ·have hl1 : lstC k (ptrO A o) = [ptrO A o, .pointer none, .pointer none, .pointer none] := by
   unfold lstC
   rw [if_pos he]
  rw [hl1]
  rw [if_neg (by omega), if_neg (by omega), if_pos he] at hS
  obtain ⟨v, hv, m, hm, hvs, _⟩ := hS
  simp (maxSteps := 10000000) only [wW, reduceCtorEq, Nat.reduceEqDiff]
  refine Zam hw.ent fun Bx s1 m1 => ?_
  have e1 := m1.eq
  have hB1 : s1.at Bx = some (.cells [ptrO A o, .pointer none, .pointer none, .pointer none] 82 false) := m1.here
  have hA1 : Zbi (s1.at A) = some c := by rw [m1.grew.same A hAl]; exact hA
  simp (maxSteps := 10000000) only [wW, reduceCtorEq, Nat.reduceEqDiff, Zab, Zlj, Zan Zwn, Zan Znu, Zac hB1, hA1, hv, Nat.zero_add, List.getElem?_cons_zero, ps77]
  have hU : Sl s1 v 1 l.length (l.map (.int .u64)) := by
   rw [show l.length = m by omega]
   exact (Sl.ent hvs).grew m1.grew.same
  exact Znb hw m1.grew hU fun s9 g9 hs9 => hk _ s9 g9 hs9
 by_cases ho : k = 2 ∨ k = 7
 ·have hl1 : lstC k (ptrO A o) = [.pointer none, .pointer none, ptrO A o, .pointer none] := by
   unfold lstC
   rw [if_neg he, if_pos ho]
  rw [hl1]
  rw [if_pos ho] at hS
  obtain ⟨x, rfl, hx⟩ := hS
  simp (maxSteps := 10000000) only [wW, reduceCtorEq, Nat.reduceEqDiff]
  refine Zam hw.ent fun Bx s1 m1 => ?_
  have e1 := m1.eq
  have hB1 : s1.at Bx = some (.cells [.pointer none, .pointer none, ptrO A o, .pointer none] 82 false) := m1.here
  have hA1 : Zbi (s1.at A) = some c := by rw [m1.grew.same A hAl]; exact hA
  simp (maxSteps := 10000000) only [wW, reduceCtorEq, Nat.reduceEqDiff, Zab, Zlj, Zpi, Zan Zwn, Zan Z6a, Zan Zoq, Zac hB1, hA1, hx, Nat.zero_add, List.getElem?_cons_zero, List.getElem?_cons_succ, pn77, ps79]
  refine Zb3 Zh1 Zvb m1.wf [.int .u64 x] rfl rfl (by decide) (fun v hv => by
   simp only [List.mem_cons, List.not_mem_nil, or_false] at hv
   subst hv
   rfl) fun A6 s6 m6 => ?_
  have hU : Sl s6 (.slice (some ⟨A6, 0, none⟩) 1 1) 1 1 [.int .u64 x] := m6.sl rfl
  exact Znb hw (m1.grew.trans m6.grew) hU fun s9 g9 hs9 => hk _ s9 g9 hs9
 ·have h10 : k = 10 := by omega
  subst h10
  rw [if_pos rfl] at hfit
  have hl1 : lstC 10 (ptrO A o) = [.pointer none, .pointer none, .pointer none, ptrO A o] := rfl
  rw [hl1]
  rw [if_neg (by omega), if_pos rfl] at hS
  obtain ⟨hl8, hget⟩ := hS
  simp (maxSteps := 10000000) only [wW, reduceCtorEq, Nat.reduceEqDiff]
  refine Zam hw.ent fun Bx s1 m1 => ?_
  have e1 := m1.eq
  have hB1 : s1.at Bx = some (.cells [.pointer none, .pointer none, .pointer none, ptrO A o] 82 false) := m1.here
  simp (maxSteps := 10000000) only [wW, reduceCtorEq, Nat.reduceEqDiff, Zab, Zlj, Zpi, Zv8, Zan Zwn, Zan Z6a, Zan Ya1, Zac hB1, Nat.zero_add, List.getElem?_cons_zero, List.getElem?_cons_succ, pn77, pn79, ps80, Yf2]
  have hU : Sl s1 (.slice (some ⟨A, o, none⟩) 8 8) 1 l.length (l.map (.int .u64)) := by
   rw [hl8]
   refine ⟨_, _, rfl, by rw [List.length_map]; omega, ⟨Nat.le_refl _, fun h => (by cases h), fun x hx => by cases hx; exact .inl rfl⟩, fun _ => ?_⟩
   cases hc : s.at A with
   | none => rw [hc] at hA; cases hA
   | some ob =>
    cases ob with
    | cells cc T op =>
     rw [hc] at hA
     simp only [Zbi, Option.some.injEq] at hA
     subst hA
     refine ⟨A, o, none, cc, T, op, rfl, rfl, (m1.grew.same A hAl).trans hc, List.ext_getElem? fun j => ?_⟩
     rw [List.getElem?_take]
     by_cases hj : j < 8
     ·rw [if_pos (by omega), List.getElem?_drop, hget j hj, List.getElem?_map]
     ·rw [if_neg (by omega), List.getElem?_eq_none (by rw [List.length_map]; omega)]
    | _ => rw [hc] at hA; cases hA
  exact Znb hw m1.grew hU fun s9 g9 hs9 => hk _ s9 g9 hs9
theorem wfIs (f : Int) {v : Value} {l : List Int} (hv : U64s s v l) (hlen : l.length < 2 ^ 30) (hw : Wf s) (hro : ro ≤ s.n) (hF : FieldsAt s) : CallWP P ro 58 [.int .i64 f, v] s K = K (.bool (fIs f l)) s := by
 refine Zcl (Zas b58 rfl ?_) K
 rw [n58]
 unfold v58
 have hve : U64s (ent s) v l := Sl.ent hv
 simp (maxSteps := 10000000) only [wW, reduceCtorEq, Nat.reduceEqDiff]
 rw [Sl.wlen hve Zh1]
 refine Zdx Z8j Z77 (fun (i : Nat) τ ds s' => i ≤ l.length ∧ τ 0 = .int .i64 f ∧ τ 7 = v ∧ τ 8 = .int .i64 l.length ∧ τ 9 = .int .i64 i ∧ ds = [] ∧ s' = ent s ∧ ∀ x ∈ l.take i, x < fP f) (fun i => l.length - i) ?_ 0 ⟨by omega, ?_, ?_, ?_, ?_, rfl, rfl, by simp⟩
 ·rintro i τ ds s' ⟨hi, t0, t7, t8, t9, rfl, rfl, hall⟩
  rw [Z72]
  unfold Zry
  simp (maxSteps := 10000000) only [wW, reduceCtorEq, Nat.reduceEqDiff, t0, t7, t8, t9]
  by_cases hlt : i < l.length
  ·rw [if_pos (by omega)]
   obtain ⟨A5, o5, q1, q2, _⟩ := Sl.ix hve (by decide) (show (0 : Int) ≤ i by omega) (show (i : Int) < l.length by omega)
   have q2' := q2 0 (by decide)
   rw [Nat.add_zero, Nat.add_zero, Nat.mul_one, Int.toNat_natCast, List.getElem?_map, List.getElem?_eq_getElem hlt] at q2'
   have hld : Za4 P (ent s) 34 (.pointer (some ⟨A5, o5, none⟩)) = some (.int .u64 l[i]) := by
    rw [Zan Zoq]
    exact q2'
   rw [Zae, q1 Zh1 Zfm, Zaa, Zab, hld, Zaa, wfP f hw.ent hro hF]
   simp (maxSteps := 10000000) only [wW, reduceCtorEq, Nat.reduceEqDiff]
   by_cases hge : l[i] ≥ fP f
   ·rw [if_pos hge]
    show Za5 (Zao P ro) s Tryd.f58.results.toList _ .ret _ [] [] (ent s)
    rw [r58]
    simp (maxSteps := 10000000) only [U, Zad, wW, reduceCtorEq, Nat.reduceEqDiff]
    have hfi : fIs f l = false := by
     unfold fIs
     rw [decide_eq_false (fun h => by have := h _ (List.getElem_mem hlt); omega), Bool.false_and]
    exact Zau rfl (.refl _) ⟨by rw [hfi], rfl⟩
   ·rw [if_neg hge]
    rw [Zaj (by omega) (by omega)]
    refine ⟨i + 1, by omega, by omega, ?_, ?_, ?_, ?_, by first | trivial | rfl, by first | trivial | rfl, fun x hx => ?_⟩
    ·exact t0
    ·exact t7
    ·exact t8
    ·rfl
    ·rw [Zbm (List.getElem?_eq_getElem hlt)] at hx
     rcases List.mem_append.1 hx with h | h
     ·exact hall x h
     ·simp only [List.mem_cons, List.not_mem_nil, or_false] at h
      subst h; omega
  ·obtain rfl : i = l.length := by omega
   rw [if_neg (by omega)]
   rw [List.take_length] at hall
   simp (maxSteps := 10000000) only [U, Zad, wW, reduceCtorEq, Nat.reduceEqDiff, t0]
   rw [Zzy]
   have hfi : fIs f l = fV f := by
    unfold fIs
    rw [decide_eq_true hall, Bool.true_and]
   exact Zau rfl (.refl _) ⟨by rw [hfi], rfl⟩
 ·rfl
 ·rfl
 ·rfl
 ·rfl
end
def gOf (g : Nat → Nat → Nat → List Int) (x : Prt) : List Int := g x.k.toNat x.q.toNat x.i.toNat
def fitX (f : Int) (g : Nat → Nat → Nat → List Int) (x : Prt) : Bool := decide (((gOf g x).length : Int) = x.n) && fIs f (gOf g x)
def Zv7 (h : Shp) (g : Nat → Nat → Nat → List Int) : Bool := (Zaq h).all (fitX h.f g)
section
variable {s s' : St} {W : Nat → Prop} {cs : List Value} {B : PfB} {R Q : Nat} {g : Nat → Nat → Nat → List Int}
theorem PfAt.keep (h : PfAt s W cs B R Q g) (hn : s.n ≤ s'.n) (hs : ∀ X, X < s.n → s'.at X = s.at X) : PfAt s' W cs B R Q g := by
 have e : ∀ A c T op, s.at A = some (.cells c T op) → s'.at A = some (.cells c T op) := fun A c T op h => (hs A (St.at_lt h)).trans h
 obtain ⟨c1, h1, h2⟩ := h.rb
 obtain ⟨c2, h3, h4, h5⟩ := h.ob
 refine ⟨h.cl, h.c4, h.c7, ⟨c1, e _ _ _ _ h1, h2⟩, ⟨c2, e _ _ _ _ h3, h4, h5⟩, fun j hj => ?_, h.ne, h.nef, h.w, fun k q i ok => ?_⟩
 ·obtain ⟨c3, h6, h7⟩ := h.fb j hj
  exact ⟨c3, e _ _ _ _ h6, h7⟩
 ·obtain ⟨c, hc, hS⟩ := h.sl k q i ok
  refine ⟨c, ?_, hS.mono hn (fun A hA _ => hs A hA) fun _ _ => rfl⟩
  cases hp : (Za2 B k q i).1 with
  | none => rw [hp] at hc; exact hc
  | some A =>
   rw [hp] at hc
   have hc : Zbi (s.at A) = some c := hc
   show Zbi (s'.at A) = some c
   cases hA : s.at A with
   | none => rw [hA] at hc; cases hc
   | some o => rw [hs A (St.at_lt hA)]; exact hc
theorem PfAt.at (h : PfAt s W cs B R Q g) {Pb : Nat} (hPb : s.at Pb = some (.cells cs 39 false)) {k q i : Nat} (ok : OkS R Q k q i) : ∃ c, Zbi (s.at ((Za2 B k q i).1.getD Pb)) = some c ∧ (Za2 B k q i).2 + Zd9 k ≤ c.length ∧ SlotC s W k c (Za2 B k q i).2 (g k q i) := by
 obtain ⟨c, hc, hS⟩ := h.sl k q i ok
 refine ⟨c, ?_, h.fit ok hc, hS⟩
 cases hp : (Za2 B k q i).1 with
 | none =>
  rw [hp] at hc
  simp only [Zen, Option.some.injEq] at hc
  subst hc
  exact Zac hPb
 | some A =>
  rw [hp] at hc
  exact hc
end
section
variable {ro : Nat} {s : St} {K : Value → St → Prop} {W : Nat → Prop} {cs : List Value} {B : PfB} {R Q : Nat} {g : Nat → Nat → Nat → List Int} {h : Shp}
theorem Z9z {C : Nat} (hC : s.at C = some (.cells h.cells 23 false)) (hp : PfAt s W cs B R Q g) (hR : (R : Int) = shR h) (ha : 0 ≤ h.a ∧ h.a ≤ 100) (hQ : Q ≤ 100) (hw : Wf s) (hro : ro ≤ s.n) :
  CallWP P ro 55 [.slice (some ⟨B.ob, 0, none⟩) Q Q, .func (.func 56) (.mk []) (.mk [ptr C])] s K = K (.bool false) s := by
 refine Zcl (Zas b55 rfl ?_) K
 rw [n55]
 unfold v55
 simp (maxSteps := 10000000) only [wW, reduceCtorEq, Nat.reduceEqDiff]
 obtain ⟨oc, ho, hol, hof⟩ := hp.ob
 have hidx : ∀ {K : Value → St → Prop}, CallWP P ro 91 [.slice (some ⟨B.ob, 0, none⟩) Q Q, .func (.func 56) (.mk []) (.mk [ptr C])] (ent s) K = K (.int .i64 (-1)) (ent s) := fun {K} => by
  refine Zcl (Zas b91 rfl ?_) K
  rw [n91]
  unfold v91
  simp (maxSteps := 10000000) only [wW, reduceCtorEq, Nat.reduceEqDiff, Zcv Zr7]
  refine Zdx Z8f Z75 (fun (i : Nat) τ ds s' => i ≤ Q ∧ τ 0 = .slice (some ⟨B.ob, 0, none⟩) Q Q ∧ τ 1 = .func (.func 56) (.mk []) (.mk [ptr C]) ∧ τ 7 = .int .i64 Q ∧ τ 8 = .int .i64 i ∧ ds = [] ∧ s' = ent (ent s)) (fun i => Q - i) ?_ 0 ⟨by omega, ?_, ?_, ?_, ?_, rfl, rfl⟩
  ·rintro i τ ds s' ⟨hi, t0, t1, t7, t8, rfl, rfl⟩
   rw [Z7y]
   unfold Zru
   simp (maxSteps := 10000000) only [wW, reduceCtorEq, Nat.reduceEqDiff, t0, t1, t7, t8]
   by_cases hlt : i < Q
   ·rw [if_pos (by omega), Zae, ixOp (by omega) (by omega), Zaa, Int.toNat_natCast]
    have ho' : (ent (ent s)).at B.ob = some (.cells oc 59 false) := ho
    have hcut : cut oc (13 * i) 13 = some ((oc.drop (13 * i)).take 13) := Zj0 (by omega)
    rw [Zab, Zdr Zq7 ho' hcut, Zaa]
    have hC' : (ent (ent s)).at C = some (.cells h.cells 23 false) := hC
    have hweq : Wf (ent (ent s)) := hw.ent.ent
    have hcall : ∀ {K : Value → St → Prop}, CallWP P ro 56 [.agg (.mk ((oc.drop (13 * i)).take 13)), ptr C] (ent (ent s)) K = K (.bool false) (ent (ent s)) := fun {K} => by
     refine Zcl (Zas b56 rfl ?_) K
     rw [n56]
     unfold v56
     simp (maxSteps := 10000000) only [wW, reduceCtorEq, Nat.reduceEqDiff]
     refine Zam hweq.ent fun E s1 m1 => ?_
     have e1 := m1.eq
     have hCl := St.at_lt hC'
     have hE : s1.at E = some (.cells ((oc.drop (13 * i)).take 13) 59 false) := m1.here
     have h12 : ((oc.drop (13 * i)).take 13)[12]? = some (.slice (some ⟨B.fb i, 0, none⟩) R R) := by
      rw [List.getElem?_take, if_pos (by decide), List.getElem?_drop]
      exact hof i hlt
     have hsv : veq (.slice (some ⟨B.fb i, 0, none⟩) R R) (.slice (some ⟨B.fb i, 0, none⟩) R R) = true := by simp [veq]
     have hveq : veq (.agg (.mk h.cells)) (.agg (.mk h.cells)) = true := by simp [veq, veqA, veqL, Shp.cells]
     have hC1 : s1.at C = some (.cells h.cells 23 false) := (m1.grew.same C hCl).trans hC'
     simp (maxSteps := 10000000) only [wW, reduceCtorEq, Nat.reduceEqDiff, Zab, Zd5, Zan Zwo, Zac hE, Nat.zero_add, h12, hsv, true_and, Zcv Z4v]
     rw [Zah Zc2 hC1 rfl, Zaa]
     refine ⟨hveq, ?_⟩
     rw [Zi6 h ha m1.wf]
     refine ⟨.refl _, ?_⟩
     simp (maxSteps := 10000000) only [wW, reduceCtorEq, Nat.reduceEqDiff]
     rw [decide_eq_true hR]
     exact Zau rfl m1.grew ⟨rfl, rfl⟩
    show CallWP P ro 56 [.agg (.mk ((oc.drop (13 * i)).take 13)), ptr C] (ent (ent s)) _
    rw [hcall, Zak]
    rw [Zaj (by omega) (by omega)]
    refine ⟨i + 1, by omega, by omega, ?_, ?_, ?_, ?_, by first | trivial | rfl, by first | trivial | rfl⟩
    ·exact t0
    ·exact t1
    ·exact t7
    ·rfl
   ·obtain rfl : i = Q := by omega
    rw [if_neg (by omega)]
    exact Zau rfl (.refl _) ⟨rfl, rfl⟩
  ·rfl
  ·rfl
  ·rfl
  ·rfl
 rw [hidx]
 simp (maxSteps := 10000000) only [wW, reduceCtorEq, Nat.reduceEqDiff]
 exact Zau rfl (.refl _) ⟨rfl, rfl⟩
end
structure FtJ (s0 : St) (h : Shp) (cs : List Value) (g : Nat → Nat → Nat → List Int) (C E T L D : Nat) (r0 : Lp) (i : Nat) (M : List Nat) (s : St) : Prop where
 wf : Wf s
 n : s0.n ≤ s.n
 same : ∀ A, A < s0.n → s.at A = s0.at A
 lo : s0.n ≤ s.lo
 loop : s.at L = some (.loop r0)
 dfr : s.at D = some (.defd (some []))
 c : s.at C = some (.cells h.cells 23 false)
 e : s.at E = some (.cells cs 39 false)
 t : s.at T = some (.cells [.bool false] 4 false)
 good : ∀ x ∈ (Zaq h).take i, fitX h.f g x = true
 m : M = [L]
structure FtS (s0 : St) (h : Shp) (g : Nat → Nat → Nat → List Int) (T L D : Nat) (r0 : Lp) (s : St) : Prop where
 wf : Wf s
 n : s0.n ≤ s.n
 lo : s0.n ≤ s.lo
 same : ∀ A, A < s0.n → s.at A = s0.at A
 loop : s.at L = some (.loop { r0 with state := .done, pending := some .ret })
 dfr : s.at D = some (.defd (some []))
 t : s.at T = some (.cells [.bool false] 4 false)
 bad : Zv7 h g = false
section
variable {s0 : St} {h : Shp} {cs : List Value} {g : Nat → Nat → Nat → List Int} {C E T L D : Nat} {r0 : Lp}
theorem FtJ.cli : Cli L r0 (FtJ s0 h cs g C E T L D r0) where
 loop := fun h => h.loop
 wf := fun h => h.wf
 lt := fun h A hA => by
  rw [h.m] at hA
  simp only [List.mem_cons, List.not_mem_nil, or_false] at hA
  subst hA
  exact St.at_lt h.loop
 grew := fun h g w => by
  have e : ∀ A o, _ = some o → _ = some o := fun A o he => (g.same A (St.at_lt he)).trans he
  have hn := h.n
  exact ⟨w, Nat.le_trans h.n g.n, fun A hA => (g.same A (by omega)).trans (h.same A hA), by rw [g.lo]; exact h.lo, e _ _ h.loop, e _ _ h.dfr, e _ _ h.c, e _ _ h.e, e _ _ h.t, h.good, h.m⟩
theorem Z1r {i : Nat} (hi : i < (Zaq h).length) (hx : fitX h.f g (Zaq h)[i] = false) : Zv7 h g = false := by
 unfold Zv7
 cases hb : (Zaq h).all (fitX h.f g) with
 | false => rfl
 | true =>
  have := List.all_eq_true.1 hb _ (List.getElem_mem hi)
  rw [hx] at this
  cases this
end
section
variable {ro : Nat} {s : St} {K : Value → St → Prop} {W : Nat → Prop} {cs : List Value} {B : PfB} {Q : Nat} {g : Nat → Nat → Nat → List Int} {h : Shp}
theorem Yc1 {s0 s' : St} {C E T L D : Nat} {lp : Lp} {t : Tr} {τ : Tau} (ht : Agr 53 t τ) (hlp : lp.state = .ready ∧ lp.pending = none ∧ lp.t = t ∧ lp.params = [32] ∧ lp.assign = Ze2 ∧ lp.body = Ze1)
  (t2 : τ 2 = ptr C) (t3 : τ 3 = ptr E) (t4 : τ 4 = ptr T) (hp : PfAt s0 W cs B (shR h).toNat h.q.toNat g) (hv : shV h = true) (hg : ∀ k q i, (g k q i).length < 2 ^ 20) (hF : FieldsAt s0) (hro : ro ≤ s0.n)
  (hne : s0.n ≤ C ∧ s0.n ≤ E ∧ s0.n ≤ T ∧ s0.n ≤ L ∧ s0.n ≤ D ∧ C ≠ L ∧ E ≠ L ∧ T ≠ L ∧ D ≠ L ∧ D ≠ T) {i : Nat} {M : List Nat} (hi : i < (Zaq h).length) (hJ : FtJ s0 h cs g C E T L D lp i M s') :
  Zlx P ro L (setAll lp.t lp.params [.agg (.mk ((Zaq h)[i]).cells)]) lp.assign lp.body s' fun v s2 => (v = .bool true ∧ s2.lo ≤ L ∧ ∃ M', FtJ s0 h cs g C E T L D lp (i + 1) M' s2 ∧ Step M s' M' s2) ∨ (v = .bool false ∧ s2.lo ≤ L ∧ FtS s0 h g T L D lp s2) := by
 rw [hlp.2.2.1, hlp.2.2.2.1, hlp.2.2.2.2.1, hlp.2.2.2.2.2]
 have hLl := St.at_lt hJ.loop
 have hCl := St.at_lt hJ.c
 have hEl := St.at_lt hJ.e
 have hTl := St.at_lt hJ.t
 have hDl := St.at_lt hJ.dfr
 have hJn := hJ.n
 obtain ⟨k, q, ix, n, hx, ok, hn20, hln⟩ := Znl hv (Zaq h)[i] (List.getElem_mem hi)
 have hgx : gOf g (Zaq h)[i] = g k q ix := by rw [hx]; rfl
 refine Zrb (N := 53) (Agr.set ht 32 _ (by decide)) Z1b Z1a (by omega) ?_
 rw [Z0u]
 unfold Zni
 simp (maxSteps := 10000000) only [U, Zad, wW, reduceCtorEq, Nat.reduceEqDiff, hx]
 refine Zai Zku hJ.wf fun E4 s4 m4 => ?_
 have e4 := m4.eq
 have n4 := m4.n
 refine Zag Zjz m4.here (l := Prt.cells ⟨k, q, ix, n⟩) rfl (by decide) m4.wf (by omega) rfl rfl fun s5 p5 => ?_
 have n5 := p5.n
 have g5 : Grew s' s5 := p5.grew _ hJ.wf m4.grew (by omega)
 have hL5 := (g5.same _ hLl).trans hJ.loop
 refine ⟨lp, hL5, hlp.1, ?_⟩
 have pb := Put.mk' p5.wf (St.at_lt hL5) (.loop { lp with state := .busy })
 generalize s5.put L (.loop { lp with state := .busy }) = sb at pb ⊢
 have nb := pb.n
 rw [Z0t]
 unfold Znh
 have hE4 : sb.at E4 = some (.cells (Prt.cells ⟨k, q, ix, n⟩) 30 false) := (pb.rest E4 (by omega)).trans p5.here
 have hCb := (pb.rest C hne.2.2.2.2.2.1).trans ((g5.same C hCl).trans hJ.c)
 have hEb := (pb.rest E hne.2.2.2.2.2.2.1).trans ((g5.same E hEl).trans hJ.e)
 have hTb := (pb.rest T hne.2.2.2.2.2.2.2.1).trans ((g5.same T hTl).trans hJ.t)
 have hDb := (pb.rest D hne.2.2.2.2.2.2.2.2.1).trans ((g5.same D hDl).trans hJ.dfr)
 have hoth : ∀ A, A < s'.n → A ≠ L → sb.at A = s'.at A := fun A h1 h2 => (pb.rest A h2).trans (g5.same A h1)
 have hold : ∀ A, A < s0.n → sb.at A = s0.at A := fun A hA => (hoth A (by omega) (by omega)).trans (hJ.same A hA)
 have hpb : PfAt sb W cs B (shR h).toNat h.q.toNat g := hp.keep (by omega) hold
 have hFb : FieldsAt sb := by
  obtain ⟨x0, x1, x2, x3, n0, n1, n2, n3, c0, c1, c2, c3, t, op, hf⟩ := hF
  exact ⟨x0, x1, x2, x3, n0, n1, n2, n3, c0, c1, c2, c3, t, op, (hold 0 (St.at_lt hf)).trans hf⟩
 have hx0 : (Prt.cells ⟨k, q, ix, n⟩)[0]? = some (.int .u8 k) := rfl
 have hx3 : (Prt.cells ⟨k, q, ix, n⟩)[3]? = some (.int .i64 n) := rfl
 have hki : veq (.int .u8 (k : Int)) (.int .u8 (k : Int)) = true := by simp [veq]
 have hxv : veq (.agg (.mk (Prt.cells ⟨k, q, ix, n⟩))) (.agg (.mk (Prt.cells ⟨k, q, ix, n⟩))) = true := by simp [veq, veqA, veqL, Prt.cells]
 have hvf : ∀ f, veq (fnV f) (fnV f) = true := fun f => by simp [veq, veqA, veqL]
 simp (maxSteps := 10000000) only [U, Zad, wW, reduceCtorEq, Nat.reduceEqDiff, t2, t3, t4, Zcz, Zab, Zan Zms, Zac hE4, Nat.zero_add, hx0, hki, true_and]
 rw [Zah Ztz hE4 rfl, Zaa]
 refine ⟨hxv, ?_⟩
 refine Zz2 pb.wf fun Ap s8 g8 w8 hAp => ?_
 refine ⟨g8.keeps, ?_⟩
 have hn8 := g8.n
 have hk1 := ok.k1
 have hpix : Zal P 84 (.slice (some ⟨Ap, 0, none⟩) 12 12) (.int .u8 (k : Int)) = some (ptrO Ap k) := by
  simp only [Zal, Yb4, Z8p, Option.bind_some, Zes]
  rw [if_pos ⟨by omega, by omega⟩, Int.toNat_natCast, Nat.mul_one, Nat.zero_add]
 have hE8 := (g8.same E (by omega)).trans hEb
 have hp8 := hpb.grew g8
 obtain ⟨f, hf, hcall⟩ := wPl (ro := ro) (n := n) hE8 hp8 ok w8 (by omega)
 rw [Zae, hpix, Zaa, Zan Yde, Zac hAp, Option.bind_some, hf, Zaa]
 refine ⟨hvf f, ?_⟩
 show CallWP P ro f [ptr E, .agg (.mk (Prt.cells ⟨k, q, ix, n⟩))] s8 _
 refine hcall _ fun s9 g9 w9 => ?_
 have hn9 := g9.n
 have g89 := g8.trans g9
 have hE9 := (g89.same E (by omega)).trans hEb
 have hp9 := hpb.grew g89
 obtain ⟨c, hc, hfit, hS⟩ := hp9.at hE9 ok
 refine wGet hk1 hc hfit hS (hg k q ix) w9 (by omega) fun v sx gx hU => ?_
 have wx := w9.grew gx
 have nx := gx.n
 have gbx := g89.trans gx
 have hE4x := (gbx.same E4 (by omega)).trans hE4
 have hCx := (gbx.same C (by omega)).trans hCb
 have hTx := (gbx.same T (by omega)).trans hTb
 have hLx := (gbx.same L (by omega)).trans pb.here
 have hDx := (gbx.same D (by omega)).trans hDb
 have hFx : FieldsAt sx := by
  obtain ⟨x0, x1, x2, x3, n0, n1, n2, n3, c0, c1, c2, c3, t, op, hf⟩ := hFb
  exact ⟨x0, x1, x2, x3, n0, n1, n2, n3, c0, c1, c2, c3, t, op, (gbx.same 0 (St.at_lt hf)).trans hf⟩
 have hlo : sx.lo = min s'.lo L := by rw [gbx.lo, pb.lo, g5.lo]
 have hJlo := hJ.lo
 have hc0 : h.cells[0]? = some (.int .i64 h.f) := rfl
 rw [Sl.wlen hU Zh1]
 simp (maxSteps := 10000000) only [wW, reduceCtorEq, Nat.reduceEqDiff, Znq, Zab, Zan ap_3, Zac hE4x, Nat.zero_add, hx3]
 have hstop : fitX h.f g (Zaq h)[i] = false → ∀ (K : Value → St → Prop), (∀ s2, (s2.lo ≤ L ∧ FtS s0 h g T L D lp s2) → K (.bool false) s2) → wop P ro (.store 4 (.const (ptr T)) (.const (.bool false))) 0 sx fun _ s2 => ∃ r, s2.at L = some (.loop r) ∧ K (.bool false) (s2.put L (.loop { r with state := .done, pending := some .ret })) := fun hbad K hK => by
  refine Zbc Yey hTx wx (by omega) (by simp) rfl fun s6 p6 => ?_
  have n6 := p6.n
  have hL6 := (p6.rest L (fun e => hne.2.2.2.2.2.2.2.1 e.symm)).trans hLx
  refine ⟨_, hL6, hK _ ⟨?_, ?_⟩⟩
  ·show min s6.lo L ≤ L
   exact Nat.min_le_right _ _
  ·have pf := Put.mk' p6.wf (St.at_lt hL6) (.loop { lp with state := .done, pending := some .ret })
   show FtS s0 h g T L D lp (s6.put L (.loop { lp with state := .done, pending := some .ret }))
   generalize s6.put L (.loop { lp with state := .done, pending := some .ret }) = sf at pf ⊢
   have nf := pf.n
   refine ⟨pf.wf, by omega, ?_, fun A hA => ?_, pf.here, ?_, ?_, Z1r hi hbad⟩
   ·rw [pf.lo, p6.lo, hlo]; omega
   ·rw [pf.rest A (by omega), p6.rest A (by omega), gbx.same A (by omega)]
    exact hold A hA
   ·rw [pf.rest D hne.2.2.2.2.2.2.2.2.1, p6.rest D hne.2.2.2.2.2.2.2.2.2]
    exact hDx
   ·rw [pf.rest T hne.2.2.2.2.2.2.2.1]
    exact p6.here
 by_cases hlen : ((g k q ix).length : Int) = n
 ·rw [if_neg (fun h => h hlen)]
  simp (maxSteps := 10000000) only [wW, reduceCtorEq, Nat.reduceEqDiff, Zdi, Zab, Zan ap_3, Zac hCx, Nat.zero_add, hc0]
  show CallWP P ro 58 [.int .i64 h.f, v] sx _
  rw [wfIs h.f hU (by have := hg k q ix; omega) wx (by omega) hFx]
  simp (maxSteps := 10000000) only [wW, reduceCtorEq, Nat.reduceEqDiff]
  by_cases hfi : fIs h.f (g k q ix) = true
  ·rw [hfi]
   simp (maxSteps := 10000000) only [wW, reduceCtorEq, Nat.reduceEqDiff]
   refine ⟨_, hLx, .inl ⟨rfl, ?_, [L], ?_, ?_⟩⟩
   ·show min sx.lo L ≤ L
    exact Nat.min_le_right _ _
   ·have elp : ({ lp with state := .ready, pending := none } : Lp) = lp := by
     obtain ⟨a, b, _⟩ := hlp
     cases lp
     simp only at a b
     subst a b
     rfl
    have pf := Put.mk' wx (St.at_lt hLx) (.loop lp)
    show FtJ s0 h cs g C E T L D lp (i + 1) _ (sx.put L (.loop { lp with state := .ready, pending := none }))
    rw [elp]
    generalize sx.put L (.loop lp) = sf at pf ⊢
    have nf := pf.n
    refine ⟨pf.wf, by omega, fun A hA => ?_, ?_, pf.here, ?_, ?_, ?_, ?_, fun x hx' => ?_, rfl⟩
    ·rw [pf.rest A (by omega), gbx.same A (by omega)]
     exact hold A hA
    ·rw [pf.lo, hlo]; omega
    ·rw [pf.rest D hne.2.2.2.2.2.2.2.2.1]; exact hDx
    ·rw [pf.rest C hne.2.2.2.2.2.1]; exact hCx
    ·rw [pf.rest E hne.2.2.2.2.2.2.1]; exact (gx.same E (by omega)).trans hE9
    ·rw [pf.rest T hne.2.2.2.2.2.2.2.1]; exact hTx
    ·rw [Zbm (List.getElem?_eq_getElem hi)] at hx'
     rcases List.mem_append.1 hx' with h1 | h1
     ·exact hJ.good x h1
     ·simp only [List.mem_cons, List.not_mem_nil, or_false] at h1
      subst h1
      unfold fitX
      rw [hgx, hfi, Bool.and_true]
      have : (Zaq h)[i].n = n := by rw [hx]
      rw [this]
      exact decide_eq_true hlen
   ·have nf : (sx.put L (.loop { lp with state := if (Zgd .normal).isNone = true then .ready else .done, pending := Zgd .normal })).n = sx.n := rfl
    rw [hJ.m]
    refine ⟨by rw [nf]; omega, fun A hA1 hA2 => ?_, fun A hA1 => .inl hA1⟩
    simp only [List.mem_cons, List.not_mem_nil, or_false] at hA2
    rw [Zpo _ _ _ _ (St.at_lt hLx) wx.len, if_neg hA2, gbx.same A (by omega)]
    exact hoth A hA1 hA2
  ·have hfi' : fIs h.f (g k q ix) = false := by simpa using hfi
   rw [hfi']
   simp (maxSteps := 10000000) only [wW, reduceCtorEq, Nat.reduceEqDiff]
   refine hstop ?_ (fun v s2 => (v = .bool true ∧ s2.lo ≤ L ∧ ∃ M', FtJ s0 h cs g C E T L D lp (i + 1) M' s2 ∧ Step M s' M' s2) ∨ (v = .bool false ∧ s2.lo ≤ L ∧ FtS s0 h g T L D lp s2)) fun s2 hs2 => Or.inr ⟨rfl, hs2⟩
   unfold fitX
   rw [hgx, hfi', Bool.and_false]
 ·rw [if_pos hlen]
  refine hstop ?_ (fun v s2 => (v = .bool true ∧ s2.lo ≤ L ∧ ∃ M', FtJ s0 h cs g C E T L D lp (i + 1) M' s2 ∧ Step M s' M' s2) ∨ (v = .bool false ∧ s2.lo ≤ L ∧ FtS s0 h g T L D lp s2)) fun s2 hs2 => Or.inr ⟨rfl, hs2⟩
  unfold fitX
  rw [hgx]
  have : (Zaq h)[i].n = n := by rw [hx]
  rw [this, decide_eq_false hlen, Bool.false_and]
end
end Go.VE
