/-
 What the functions compute.
-/
import Derived.Test.YtonfahekhieobaaDoorWk3
set_option linter.unusedSimpArgs false
set_option linter.unusedVariables false
set_option maxRecDepth 20000
namespace Go.VE
open Go Go.Proofs
set_option maxRecDepth 20000
section
variable {ro : Nat} {s : St} {K : Value → St → Prop}
theorem Zu8 (h : Shp) {b : List Int} {u : Value} (hb : ∀ x ∈ b, 0 ≤ x ∧ x < 256) (hbl : b.length < 2 ^ 40) (hu : Bys s u b) (huA : b ≠ [] → ∀ A o sp n c, u = .slice (some ⟨A, o, sp⟩) n c → A < s.n) (hw : Wf s) (hro : ro ≤ s.n) (h0n : 0 < s.n)
  (h0 : shV h = false → K (.tuple (.mk [.agg (.mk Zcu), .int .i64 0, .int .i64 1])) s)
  (h1 : shV h = true → (decE b (fP h.f) (Zb4 b (Zbe h)).1).2 ≠ 0 → K (.tuple (.mk [.agg (.mk Zcu), .int .i64 (decE b (fP h.f) (Zb4 b (Zbe h)).1).1, .int .i64 (decE b (fP h.f) (Zb4 b (Zbe h)).1).2])) s)
  (h2 : shV h = true → decE b (fP h.f) (Zb4 b (Zbe h)).1 = (0, 0) → (∀ j, j < (Zb4 b (Zbe h)).1 → rdE b (fP h.f) j = none) → ∀ cs B s' W, Grew s s' → (∀ A, W A → A < s'.n) → (∀ A, A < s.n → W A) → (s.n ≤ B.rb ∧ s.n ≤ B.ob ∧ ∀ j, j < h.q.toNat → s.n ≤ B.fb j) → PfAt s' W cs B (shR h).toNat h.q.toNat (Zb4 b (Zbe h)).2 → K (.tuple (.mk [.agg (.mk cs), .int .i64 0, .int .i64 0])) s') :
  CallWP P ro 18 [.agg (.mk h.cells), u] s K := by
 refine Zas b18 rfl ?_
 rw [n18]
 unfold v18
 simp (maxSteps := 10000000) only [wW, reduceCtorEq, Nat.reduceEqDiff]
 refine Zam hw.ent fun C s1 m1 => ?_
 have e1 := m1.eq
 have n1 := m1.n
 have hn0 : (ent s).n = s.n := rfl
 refine Zai Zh0 m1.wf fun O s2 m2 => ?_
 have e2 := m2.eq
 have n2 := m2.n
 have g2 : Grew (ent s) s2 := m1.grew.trans m2.grew
 have hC2 : s2.at C = some (.cells h.cells 23 false) := (m2.grew.same C (by omega)).trans m1.here
 have hO2 : s2.at O = some (.cells Zcu 39 false) := m2.here
 rw [Zab, Zah Zc2 hC2 rfl, Zaa, Z20 h m2.wf]
 simp (maxSteps := 10000000) only [wW, reduceCtorEq, Nat.reduceEqDiff]
 cases hv : shV h with
 | false =>
  rw [if_pos rfl, bldZ, Zaa]
  refine Zag Zea hO2 (l := Zcu) rfl (by decide) m2.wf (by omega) rfl rfl fun s3 p3 => ?_
  rw [Zab, Zah Zhy p3.here rfl, Zaa]
  exact Zau rfl (p3.grew _ hw.ent g2 (by omega)) (h0 hv)
 | true =>
  have hbd := Z3g hv
  have zv : ∀ (z : Array Value) (n : Nat), (0 < z.toList.length ∧ veqL z.toList z.toList = true) → veqL (Zaz z n) (Zaz z n) = true := Zu2
  have vi : ∀ z : Int, veq (.int .i64 z) (.int .i64 z) = true := fun z => by simp [veq]
  rw [if_neg (by decide), Zab, Zah Zc2 hC2 rfl, Zaa]
  refine ⟨Z24 h, ?_⟩
  rw [Zc0, Zaa, Zab, Zan ap_3, Zac hC2, Option.bind_some, Nat.zero_add, shc4, Zaa]
  refine ⟨vi _, ?_⟩
  refine Zdb Zr7 Z4o m2.wf (by omega) (Int.le_refl _) (by omega) (by decide) fun ob s3 m3 => ?_
  have e3 := m3.eq
  have n3 := m3.n
  refine ⟨m3.fresh (zv _ _ ⟨by decide, rfl⟩), ?_⟩
  refine Zai Zh0 m3.wf fun Pb s4 m4 => ?_
  have e4 := m4.eq
  have n4 := m4.n
  refine ⟨m4.fresh rfl, ?_⟩
  rw [Zn3 h hbd.1 m4.wf]
  refine ⟨.refl _, ?_⟩
  refine Zdb Zvf Yb9 m4.wf (by omega) (Int.le_refl _) (by omega) (by decide) fun rb s5 m5 => ?_
  have e5 := m5.eq
  have n5 := m5.n
  refine ⟨m5.fresh (zv _ _ ⟨by decide, rfl⟩), ?_⟩
  rw [Ye9, Zaa]
  refine Zag Zea ((m5.grew.same Pb (by omega)).trans m4.here) (l := Zfz (shR h).toNat h.q.toNat rb ob) rfl (by decide) m5.wf (by omega) rfl rfl fun s6 p6 => ?_
  have n6 := p6.n
  refine ⟨by omega, ?_⟩
  have g05 : Grew (ent s) s5 := g2.trans (m3.grew.trans (m4.grew.trans m5.grew))
  have g06 : Grew (ent s) s6 := p6.grew _ hw.ent g05 (by omega)
  have hI0 : BlI (ent s) C Pb O rb ob h (shR h).toNat h.q.toNat s6.n 0 s6 := by
   refine ⟨p6.wf, g06, ?_, p6.here, ⟨_, (p6.rest O (by omega)).trans ((m5.grew.same O (by omega)).trans ((m4.grew.same O (by omega)).trans ((m3.grew.same O (by omega)).trans hO2))), rfl⟩, ?_, Nat.le_refl _, fun _ => 0, Zaz z59 (h.q.toNat * 13), ?_, ?_, fun j hj => absurd hj (by omega), fun p hp _ => ?_, fun j hj => absurd hj (by omega)⟩
   ·exact (p6.rest C (by omega)).trans ((m5.grew.same C (by omega)).trans ((m4.grew.same C (by omega)).trans ((m3.grew.same C (by omega)).trans hC2)))
   ·exact (p6.rest rb (by omega)).trans m5.here
   ·exact (p6.rest ob (by omega)).trans ((m5.grew.same ob (by omega)).trans ((m4.grew.same ob (by omega)).trans m3.here))
   ·rw [Zck]; omega
   ·exact Z6k (by omega)
  refine Yeg hv hw.ent hro hI0 ⟨by omega, by omega, by omega, by omega, by omega, by omega⟩ ?_ ?_ ?_ fun τ1 sB c1 c2 c4 c7 hBl => ?_
  ·rfl
  ·rfl
  ·rfl
  have c1' : τ1 1 = u := by rw [c1]; rfl
  have c4' : τ1 4 = ptr O := by rw [c4]; rfl
  obtain ⟨fb, oc, hob, hol, hof, hon, hfb⟩ := hBl.ex
  have hmB := hBl.m
  have hgB := hBl.gr.n
  have wB := hBl.wf
  rw [c2, Zab, Zah Zc2 hBl.sh rfl, Zaa]
  refine Yb0 h wB (by omega) (fun hf => by rw [hv] at hf; cases hf) fun _ v s7 g7 hP hPA => ?_
  have n7 := g7.n
  have w7 := wB.grew g7
  have hpos := Zuc hv
  have hlen := Zl4 hv
  have hWB : ∀ A, (A = Pb ∨ A = rb ∨ A = ob ∨ ∃ j, j < h.q.toNat ∧ A = fb j) → s2.n ≤ A ∧ A < sB.n := fun A hA => by
   rcases hA with rfl | rfl | rfl | ⟨j, hj, rfl⟩
   ·omega
   ·omega
   ·omega
   ·obtain ⟨f1, f2, _⟩ := hfb j hj
    have := St.at_lt f1
    omega
  have hpB : PfAt sB (fun A => (A = Pb ∨ A = rb ∨ A = ob ∨ ∃ j, j < h.q.toNat ∧ A = fb j) ∨ (A = O ∨ A < (ent s).n)) (Zfz (shR h).toNat h.q.toNat rb ob) ⟨rb, ob, fb⟩ (shR h).toNat h.q.toNat g0 := by
   refine Z35 (B := ⟨rb, ob, fb⟩) ⟨.inl (.inr (.inl rfl)), .inl (.inr (.inr (.inl rfl))), fun j hj => .inl (.inr (.inr (.inr ⟨j, hj, rfl⟩)))⟩ (by show rb ≠ ob; omega) (fun j hj => ?_) hBl.rb hob hol hof hon (fun j hj => (hfb j hj).1)
   have := (hfb j hj).2.1
   exact ⟨by show fb j ≠ rb; omega, by show fb j ≠ ob; omega, (hfb j hj).2.2⟩
  have hp7 := hpB.grew g7
  have hPb7 := (g7.same Pb (St.at_lt hBl.pb)).trans hBl.pb
  have hC7 := (g7.same C (St.at_lt hBl.sh)).trans hBl.sh
  obtain ⟨co, hOB, hO8⟩ := hBl.out
  have hO7 := (g7.same O (St.at_lt hOB)).trans hOB
  have g07 : Grew (ent s) s7 := hBl.gr.trans g7
  have hPbne : Pb ≠ rb ∧ Pb ≠ ob ∧ ∀ j, j < h.q.toNat → Pb ≠ fb j := ⟨by omega, by omega, fun j hj => by have := (hfb j hj).2.1; omega⟩
  have hI7 : DcI (ent s) s7 (fun A => A = Pb ∨ A = rb ∨ A = ob ∨ ∃ j, j < h.q.toNat ∧ A = fb j) O Pb ⟨rb, ob, fb⟩ (shR h).toNat h.q.toNat b (fP h.f) (Zbe h) 0 s7 :=
   ⟨w7, g07, Nat.le_refl _, fun _ _ _ => rfl, ⟨_, hPb7, hp7⟩, by show 4 * 0 ≤ _; omega, fun j hj => by have hj : j < 0 := hj; omega⟩
  have zfl : ∀ x y : Int, Zct (.tuple (.mk [.agg (.mk Zcu), .int .i64 x, .int .i64 y])) = true := fun x y => rfl
  refine ddP (h := h) (C := C) (O := O) (Pb := Pb) (B := ⟨rb, ob, fb⟩) (R := (shR h).toNat) (Q := h.q.toNat) hb hbl hC7 (fun e => by have := hWB C e; omega) ⟨_, hO7, hO8⟩ (fun e => by have := hWB O e; omega) (by omega) ((Sl.ent hu).grew g07.same) (fun b0 A o sp n c e => ⟨by have := huA b0 A o sp n c e; omega, fun hA => by have := hWB A hA; have := huA b0 A o sp n c e; omega⟩) hP (fun A o sp n c e => ⟨?_, fun hA => by have := hWB A hA; have := hPA A o sp n c e; omega⟩) hlen (Zk3 hv) (by omega) (.inl rfl) ⟨.inr (.inl rfl), .inr (.inr (.inl rfl)), fun j hj => .inr (.inr (.inr ⟨j, hj, rfl⟩))⟩ hPbne (fun A hA => by have := hWB A hA; omega) hw.ent hro hI7 ?_ ?_ ?_ ?_ ?_ ?_ ?_ (fun τ8 s8 d1 d4 d7 d9 hI8 => ?_) (fun τ8 s8 e he d4 d5 d6 w8 g8 hO8' => ?_)
  ·obtain ⟨a, cc, ev, _, _, hbk⟩ := hP
   obtain ⟨A', o', m', cells, t, op, ha, _, hA', _⟩ := hbk (by omega)
   rw [ev, ha] at e
   cases e
   exact St.at_lt hA'
  ·exact c1'
  ·exact c2
  ·exact c4'
  ·exact c7
  ·rfl
  ·rfl
  ·rfl
  ·have hgood := hI8.good
   have hkk := hI8.k
   rw [List.take_length] at hgood hkk
   obtain ⟨cs, hPb8, hp8⟩ := hI8.pf
   rw [List.take_length] at hp8
   have hn8 := hI8.n
   have hu8 : Bys s8 u b := Bys.sameAt hu fun b0 A o sp n c e => by
    have hA := huA b0 A o sp n c e
    rw [hI8.keep A (by omega) (fun hA' => by have := hWB A hA'; omega), g07.same A hA]
    rfl
   have hO8'' : s8.at O = some (.cells co 39 false) := (hI8.keep O (by omega) (fun e => by have := hWB O e; omega)).trans hO7
   have hnone := Zs4 (b := b) (p := fP h.f) (c := (Zb4 b (Zbe h)).1) (k := 0) fun j _ hj => hgood j (by omega)
   simp (maxSteps := 10000000) only [wW, reduceCtorEq, Nat.reduceEqDiff, d1, d4, d7, d9]
   rw [Sl.wlen hu8 Zr9]
   simp (maxSteps := 10000000) only [wW, reduceCtorEq, Nat.reduceEqDiff]
   by_cases hlt : (4 * ((Zb4 b (Zbe h)).1 : Int)) < b.length
   ·have hdec : decE b (fP h.f) (Zb4 b (Zbe h)).1 = (4 * ((Zb4 b (Zbe h)).1 : Int), 3) := by
     unfold decE
     rw [hnone]
     simp only
     rw [if_pos hlt]
    rw [if_pos (by omega), bldZ, Zaa]
    refine Zag Zea hO8'' (l := Zcu) rfl (by decide) hI8.wf (by omega) hO8 rfl fun s9 p9 => ?_
    rw [Zab, Zah Zhy p9.here rfl, Zaa]
    have := h1 hv (by rw [hdec]; exact (by decide : (3 : Int) ≠ 0))
    rw [hdec] at this
    exact Zau (zfl _ _) (p9.grew _ hw.ent hI8.g0 (by omega)) (by
     have e4 : (((4 * (Zb4 b (Zbe h)).1 : Nat) : Int)) = 4 * ((Zb4 b (Zbe h)).1 : Int) := by push_cast; rfl
     rw [e4]
     exact this)
   ·have hdec : decE b (fP h.f) (Zb4 b (Zbe h)).1 = (0, 0) := by
     unfold decE
     rw [hnone]
     simp only
     rw [if_neg hlt]
    rw [if_neg (by omega), Zab, Zah Zhy hPb8 hp8.cl, Zaa]
    have hone : cs.all (·.oneCell') = true := hp8.one
    refine Zag Zea hO8'' (l := cs) hp8.cl (by decide) hI8.wf (by omega) hO8 hone fun s9 p9 => ?_
    rw [Zab, Zah Zhy p9.here hp8.cl, Zaa]
    have g9 := p9.grew _ hw.ent hI8.g0 (by omega)
    obtain ⟨sB', hsB⟩ : ∃ x, cs[7]? = some (.slice (some x) h.q.toNat h.q.toNat) := ⟨_, hp8.c7⟩
    have hfl : Zct (.tuple (.mk [.agg (.mk cs), .int .i64 0, .int .i64 0])) = false := by
     show (false || (Zch cs && (true && (true && true)))) = false
     have : Zch cs = false := by
      cases hf : Zch cs with
      | false => rfl
      | true => have := Zds hf hsB; cases this
     rw [this]; rfl
    refine Zci hw g9 hfl fun s10 g10 hn10 hat => ?_
    have n9 := p9.n
    refine h2 hv hdec hgood cs ⟨rb, ob, fb⟩ s10 (fun A => (A = Pb ∨ A = rb ∨ A = ob ∨ ∃ j, j < h.q.toNat ∧ A = fb j) ∨ (A = O ∨ A < (ent s).n)) g10 (fun A hA => ?_) (fun A hA => .inr (.inr hA)) ⟨by show s.n ≤ rb; omega, by show s.n ≤ ob; omega, fun j hj => by show s.n ≤ fb j; have := (hfb j hj).2.1; omega⟩ ?_
    ·rcases hA with hA | rfl | hA
     ·have := hWB A hA
      omega
     ·omega
     ·omega
    ·refine hp8.off (X := O) (by omega) (fun A hA => (hat A).trans (p9.rest A hA)) (.inr (.inl rfl)) (by show O ≠ rb; omega) (by show O ≠ ob; omega) fun j hj => by show O ≠ fb j; have := (hfb j hj).2.1; omega
  ·have hdec : decE b (fP h.f) (Zb4 b (Zbe h)).1 = e := by
    unfold decE
    rw [he]
   rw [r18]
   simp (maxSteps := 10000000) only [wW, reduceCtorEq, Nat.reduceEqDiff, d4, d5, d6]
   rw [Zab, Zah Zhy hO8' rfl, Zaa]
   have := h1 hv (by rw [hdec]; exact Z14 he)
   rw [hdec] at this
   exact Zau (zfl _ _) g8 this
end
section
variable {ro : Nat} {s : St} {K : Value → St → Prop}
theorem Yf3 {a b : List Int} {i : Nat} (hi : i < a.length) (h : a[i]? ≠ b[i]?) : a ≠ b := fun e => h (by rw [e])
theorem Ye5 {a b : List Int} (hl : a.length = b.length) (h : ∀ j, j < a.length → a[j]? = b[j]?) : a = b := List.ext_getElem? fun j => by
 by_cases hj : j < a.length
 ·exact h j hj
 ·rw [List.getElem?_eq_none (by omega), List.getElem?_eq_none (by omega)]
theorem Z6w {v w : Value} {a b : List Int} (hv : U64s s v a) (hw' : U64s s w b) (ha : a.length < 2 ^ 40) (hb : b.length < 2 ^ 40) : CallWP P ro 52 [v, w] s K = K (.bool (decide (a = b))) s := by
 refine Zcl (Zas b52 rfl ?_) K
 rw [n52]
 unfold v52
 have hve : U64s (ent s) v a := Sl.ent hv
 have hwe : U64s (ent s) w b := Sl.ent hw'
 have hl1 : ∀ (K : Value → St → Prop) ty, wop P ro (.call ⟨.builtin .len, ⟨[.const v]⟩, #[36]⟩) ty (ent s) K = K (.int .i64 a.length) (ent s) := fun K ty => Sl.wlen hve Zh1 ty K
 have hl2 : ∀ (K : Value → St → Prop) ty, wop P ro (.call ⟨.builtin .len, ⟨[.const w]⟩, #[36]⟩) ty (ent s) K = K (.int .i64 b.length) (ent s) := fun K ty => Sl.wlen hwe Zh1 ty K
 simp (maxSteps := 10000000) only [wW, reduceCtorEq, Nat.reduceEqDiff]
 rw [hl1, hl2]
 simp (maxSteps := 10000000) only [wW, reduceCtorEq, Nat.reduceEqDiff]
 by_cases hlen : a.length = b.length
 ·rw [if_neg (by omega)]
  refine Zdx Z5o Z5g (fun (i : Nat) τ ds s' => i ≤ a.length ∧ τ 0 = v ∧ τ 1 = w ∧ τ 5 = .int .i64 i ∧ ds = [] ∧ s' = ent s ∧ ∀ j, j < i → a[j]? = b[j]?) (fun i => a.length - i) ?_ 0 ⟨by omega, ?_, ?_, ?_, rfl, rfl, fun j hj => by omega⟩
  ·rintro i τ ds s' ⟨hi, t0, t1, t5, rfl, rfl, hall⟩
   rw [Z48]
   unfold Zo1
   simp (maxSteps := 10000000) only [wW, reduceCtorEq, Nat.reduceEqDiff, t0, t1, t5]
   rw [hl1]
   simp (maxSteps := 10000000) only [wW, reduceCtorEq, Nat.reduceEqDiff]
   by_cases hlt : i < a.length
   ·rw [if_pos (by omega)]
    have h1 : a[i]? = some a[i] := List.getElem?_eq_getElem hlt
    have h2 : b[i]? = some (b[i]'(by omega)) := List.getElem?_eq_getElem (by omega)
    obtain ⟨A1, o1, i1, l1⟩ := hve.atN h1
    obtain ⟨A2, o2, i2, l2⟩ := hwe.atN h2
    rw [Zae, i1, Zaa, Zab, l1, Zaa, Zae, i2, Zaa, Zab, l2, Zaa]
    simp (maxSteps := 10000000) only [wW, reduceCtorEq, Nat.reduceEqDiff]
    by_cases he : a[i] = b[i]'(by omega)
    ·rw [if_neg (fun h => h he), Zaj (by omega) (by omega)]
     refine ⟨i + 1, by omega, by omega, ?_, ?_, ?_, by first | trivial | rfl, by first | trivial | rfl, fun j hj => ?_⟩
     ·exact t0
     ·exact t1
     ·rfl
     ·by_cases hji : j = i
      ·subst hji
       rw [h1, h2, he]
      ·exact hall j (by omega)
    ·rw [if_pos he]
     show Za5 (Zao P ro) s Tryd.f52.results.toList _ .ret _ [] [] (ent s)
     rw [r52]
     simp (maxSteps := 10000000) only [U, Zad, wW, reduceCtorEq, Nat.reduceEqDiff]
     exact Zau rfl (.refl _) ⟨by rw [decide_eq_false (Yf3 hlt (by rw [h1, h2]; simpa using he))], rfl⟩
   ·obtain rfl : i = a.length := by omega
    rw [if_neg (by omega)]
    exact Zau rfl (.refl _) ⟨by rw [decide_eq_true (Ye5 hlen hall)], rfl⟩
  ·rfl
  ·rfl
  ·rfl
 ·rw [if_pos (by omega)]
  exact Zau rfl (.refl _) ⟨by rw [decide_eq_false (fun e => hlen (by rw [e]))], rfl⟩
theorem Zn2 {v w : Value} {a b : List Int} {m n : Nat} (hv : Sl s v 2 m (a.map (.int .u64))) (hw' : Sl s w 2 n (b.map (.int .u64))) (ha : a.length = m * 2) (hb : b.length = n * 2) (hm : m < 2 ^ 40) (hn : n < 2 ^ 40) : CallWP P ro 51 [v, w] s K = K (.bool (decide (a = b))) s := by
 refine Zcl (Zas b51 rfl ?_) K
 rw [n51]
 unfold v51
 have hve : Sl (ent s) v 2 m (a.map (.int .u64)) := Sl.ent hv
 have hwe : Sl (ent s) w 2 n (b.map (.int .u64)) := Sl.ent hw'
 have hl1 : ∀ (K : Value → St → Prop) ty, wop P ro (.call ⟨.builtin .len, ⟨[.const v]⟩, #[33]⟩) ty (ent s) K = K (.int .i64 m) (ent s) := fun K ty => Sl.wlen hve Zr8 ty K
 have hl2 : ∀ (K : Value → St → Prop) ty, wop P ro (.call ⟨.builtin .len, ⟨[.const w]⟩, #[33]⟩) ty (ent s) K = K (.int .i64 n) (ent s) := fun K ty => Sl.wlen hwe Zr8 ty K
 simp (maxSteps := 10000000) only [wW, reduceCtorEq, Nat.reduceEqDiff]
 rw [hl1, hl2]
 simp (maxSteps := 10000000) only [wW, reduceCtorEq, Nat.reduceEqDiff]
 by_cases hlen : m = n
 ·rw [if_neg (by omega)]
  refine Zdx Z5p Z5h (fun (i : Nat) τ ds s' => i ≤ m ∧ τ 0 = v ∧ τ 1 = w ∧ τ 5 = .int .i64 i ∧ ds = [] ∧ s' = ent s ∧ a.take (i * 2) = b.take (i * 2)) (fun i => m - i) ?_ 0 ⟨by omega, ?_, ?_, ?_, rfl, rfl, by simp⟩
  ·rintro i τ ds s' ⟨hi, t0, t1, t5, rfl, rfl, hall⟩
   rw [Z49]
   unfold Zo2
   simp (maxSteps := 10000000) only [wW, reduceCtorEq, Nat.reduceEqDiff, t0, t1, t5]
   rw [hl1]
   simp (maxSteps := 10000000) only [wW, reduceCtorEq, Nat.reduceEqDiff]
   by_cases hlt : i < m
   ·rw [if_pos (by omega)]
    obtain ⟨p1, i1, l1⟩ := hve.dig ha hlt
    obtain ⟨p2, i2, l2⟩ := hwe.dig hb (i := i) (by omega)
    have x1 : ((a.drop (i * 2)).take 2).length = 2 := by rw [List.length_take, List.length_drop]; omega
    have x2 : ((b.drop (i * 2)).take 2).length = 2 := by rw [List.length_take, List.length_drop]; omega
    rw [Zae, i1, Zaa, Zab, l1, Zaa, Zae, i2, Zaa, Zab, l2, Zaa, Yel _ _ x1 x2]
    simp (maxSteps := 10000000) only [wW, reduceCtorEq, Nat.reduceEqDiff]
    by_cases he : (a.drop (i * 2)).take 2 = (b.drop (i * 2)).take 2
    ·rw [if_neg (fun h => h he), Zaj (by omega) (by omega)]
     refine ⟨i + 1, by omega, by omega, ?_, ?_, ?_, by first | trivial | rfl, by first | trivial | rfl, ?_⟩
     ·exact t0
     ·exact t1
     ·rfl
     ·rw [Nat.succ_mul, List.take_add, List.take_add, hall, he]
    ·rw [if_pos he]
     show Za5 (Zao P ro) s Tryd.f51.results.toList _ .ret _ [] [] (ent s)
     rw [r51]
     simp (maxSteps := 10000000) only [U, Zad, wW, reduceCtorEq, Nat.reduceEqDiff]
     exact Zau rfl (.refl _) ⟨by rw [decide_eq_false (fun e => he (by rw [e]))], rfl⟩
   ·obtain rfl : i = m := by omega
    rw [if_neg (by omega)]
    rw [List.take_of_length_le (by omega), List.take_of_length_le (by omega)] at hall
    exact Zau rfl (.refl _) ⟨by rw [decide_eq_true hall], rfl⟩
  ·rfl
  ·rfl
  ·rfl
 ·rw [if_pos (by omega)]
  exact Zau rfl (.refl _) ⟨by rw [decide_eq_false (fun e => hlen (by rw [e] at ha; omega))], rfl⟩
end
abbrev SlT := Option Addr × Nat × Nat
def sv (t : SlT) : Value := .slice t.1 t.2.1 t.2.2
def L13 (t : Nat → SlT) : List Value := [sv (t 0), sv (t 1), sv (t 2), sv (t 3), sv (t 4), sv (t 5), sv (t 6), sv (t 7), sv (t 8), sv (t 9), sv (t 10), sv (t 11), sv (t 12)]
theorem Zxi (t : SlT) : veq (sv t) (sv t) = true := by simp [sv, veq]
theorem Zpw (t : Nat → SlT) : veq (.agg (.mk (L13 t))) (.agg (.mk (L13 t))) = true := Z26 fun v hv => by
 simp only [L13, List.mem_cons, List.not_mem_nil, or_false] at hv
 rcases hv with rfl | rfl | rfl | rfl | rfl | rfl | rfl | rfl | rfl | rfl | rfl | rfl | rfl <;> exact Zxi _
theorem Ydb (t : Nat → SlT) : Zdl P 120 (Zbf .e [(0, .const (sv (t 0))), (1, .const (sv (t 1))), (2, .const (sv (t 2))), (3, .const (sv (t 3))), (4, .const (sv (t 4))), (5, .const (sv (t 5)))]) = some (.agg (.mk [sv (t 0), sv (t 1), sv (t 2), sv (t 3), sv (t 4), sv (t 5)])) := by kernel_rfl
theorem Ya0 (t : Nat → SlT) : Zdl P 122 (Zbf .e [(0, .const (sv (t 6))), (1, .const (sv (t 7))), (2, .const (sv (t 8))), (3, .const (sv (t 9))), (4, .const (sv (t 10))), (5, .const (sv (t 11)))]) = some (.agg (.mk [sv (t 6), sv (t 7), sv (t 8), sv (t 9), sv (t 10), sv (t 11)])) := by kernel_rfl
section
variable {s : St} {W : Nat → Prop} {B : PfB} {R : Nat} {g : Nat → Nat → Nat → List Int}
theorem opnT {j : Nat} {l : List Value} (hl : l.length = 13) (h8 : ∀ i, i < 6 → ∃ v, l[i]? = some v ∧ SlV s W 1 v (g 8 j i)) (h9 : ∀ i, i < 6 → ∃ v, l[6 + i]? = some v ∧ SlV s W 2 v (g 9 j i)) (h12 : l[12]? = some (.slice (some ⟨B.fb j, 0, none⟩) R R)) :
  ∃ t : Nat → SlT, l = L13 t ∧ (∀ i, i < 6 → SlV s W 1 (sv (t i)) (g 8 j i)) ∧ (∀ i, i < 6 → SlV s W 2 (sv (t (6 + i))) (g 9 j i)) ∧ t 12 = (some ⟨B.fb j, 0, none⟩, R, R) := by
 have hs : ∀ i, i < 13 → ∃ x : SlT, l[i]? = some (sv x) := fun i hi => by
  by_cases h6 : i < 6
  ·obtain ⟨v, e, ⟨m, _, ⟨a, c, rfl, _⟩, _⟩⟩ := h8 i h6
   exact ⟨(a, m, c), e⟩
  ·by_cases h12' : i < 12
   ·obtain ⟨v, e, ⟨m, _, ⟨a, c, rfl, _⟩, _⟩⟩ := h9 (i - 6) (by omega)
    rw [show 6 + (i - 6) = i by omega] at e
    exact ⟨(a, m, c), e⟩
   ·have : i = 12 := by omega
    subst this
    exact ⟨(some ⟨B.fb j, 0, none⟩, R, R), h12⟩
 refine ⟨fun i => if h : i < 13 then Classical.choose (hs i h) else (none, 0, 0), ?_⟩
 have ht : ∀ i (h : i < 13), l[i]? = some (sv (Classical.choose (hs i h))) := fun i h => Classical.choose_spec (hs i h)
 generalize hT : (fun i => if h : i < 13 then Classical.choose (hs i h) else ((none, 0, 0) : SlT)) = t
 have ht' : ∀ i, i < 13 → l[i]? = some (sv (t i)) := fun i h => by
  rw [ht i h, ← hT]
  simp only [h, dif_pos]
 refine ⟨?_, fun i hi => ?_, fun i hi => ?_, ?_⟩
 ·refine List.ext_getElem? fun i => ?_
  by_cases hi : i < 13
  ·rw [ht' i hi]
   match i, hi with
   | 0, _ => rfl
   | 1, _ => rfl
   | 2, _ => rfl
   | 3, _ => rfl
   | 4, _ => rfl
   | 5, _ => rfl
   | 6, _ => rfl
   | 7, _ => rfl
   | 8, _ => rfl
   | 9, _ => rfl
   | 10, _ => rfl
   | 11, _ => rfl
   | 12, _ => rfl
  ·rw [List.getElem?_eq_none (by omega), List.getElem?_eq_none (by simp [L13]; omega)]
 ·obtain ⟨v, e, hv⟩ := h8 i hi
  rw [ht' i (by omega)] at e
  cases e
  exact hv
 ·obtain ⟨v, e, hv⟩ := h9 i hi
  rw [ht' (6 + i) (by omega)] at e
  cases e
  exact hv
 ·have := ht' 12 (by decide)
  rw [h12] at this
  have e : sv (some ⟨B.fb j, 0, none⟩, R, R) = sv (t 12) := by simpa [sv] using this
  have : t 12 = ((t 12).1, (t 12).2.1, (t 12).2.2) := rfl
  rw [this]
  simp only [sv, Value.slice.injEq] at e
  obtain ⟨e1, e2, e3⟩ := e
  rw [← e1, ← e2, ← e3]
end
section
variable {ro : Nat} {s : St} {K : Value → St → Prop}
theorem Zw9 {s' : St} {v : Value} (hw : Wf s) (hg : Grew (ent s) s') (h : ∀ s9, Grew s s9 → K v s9) : wfin s K v s' := by
 cases hf : Zct v with
 | true =>
  rw [Zeo (by rw [hg.lo]; exact Nat.le_refl _) hf]
  exact h s (.refl s)
 | false => exact Zci hw hg hf fun s9 g9 _ _ => h s9 g9
theorem Ydq (t : Nat → SlT) (hw : Wf s) (hro : ro ≤ s.n) (hk : ∀ s', Grew s s' → K (.agg (.mk [sv (t 0), sv (t 1), sv (t 2), sv (t 3), sv (t 4), sv (t 5)])) s') : CallWP P ro 89 [.agg (.mk (L13 t))] s K := by
 refine Zas b89 rfl ?_
 rw [n89]
 unfold v89
 simp (maxSteps := 10000000) only [wW, reduceCtorEq, Nat.reduceEqDiff]
 refine Zam hw.ent fun Bx s1 m1 => ?_
 have e1 := m1.eq
 have n1 := m1.n
 have hn0 : (ent s).n = s.n := rfl
 refine Zai Z3a m1.wf fun T s2 m2 => ?_
 have e2 := m2.eq
 have n2 := m2.n
 have hB2 : s2.at Bx = some (.cells (L13 t) 59 false) := (m2.grew.same Bx (by omega)).trans m1.here
 have h0 : Za4 P s2 36 (.pointer (some ⟨Bx, 0, none⟩)) = some (sv (t 0)) := by rw [Zan Znu, Zac hB2]; rfl
 have h1 : Za4 P s2 36 (.pointer (some ⟨Bx, 1, none⟩)) = some (sv (t 1)) := by rw [Zan Znu, Zac hB2]; rfl
 have h2 : Za4 P s2 36 (.pointer (some ⟨Bx, 2, none⟩)) = some (sv (t 2)) := by rw [Zan Znu, Zac hB2]; rfl
 have h3 : Za4 P s2 36 (.pointer (some ⟨Bx, 3, none⟩)) = some (sv (t 3)) := by rw [Zan Znu, Zac hB2]; rfl
 have h4 : Za4 P s2 36 (.pointer (some ⟨Bx, 4, none⟩)) = some (sv (t 4)) := by rw [Zan Znu, Zac hB2]; rfl
 have h5 : Za4 P s2 36 (.pointer (some ⟨Bx, 5, none⟩)) = some (sv (t 5)) := by rw [Zan Znu, Zac hB2]; rfl
 simp (maxSteps := 10000000) only [wW, reduceCtorEq, Nat.reduceEqDiff, Z13, Z12, Z11, Z10, Z1z, Z1y, Nat.zero_add]
 rw [Zab, h0, Zaa, Zab, h1, Zaa, Zab, h2, Zaa, Zab, h3, Zaa, Zab, h4, Zaa, Zab, h5, Zaa, Ydb, Zaa]
 refine Zag Z1o m2.here (l := [sv (t 0), sv (t 1), sv (t 2), sv (t 3), sv (t 4), sv (t 5)]) rfl (by decide) m2.wf (by omega) rfl rfl fun s3 p3 => ?_
 rw [Zab, Zah Yfe p3.here rfl, Zaa]
 exact Zw9 hw (p3.grew _ hw.ent (m1.grew.trans m2.grew) (by omega)) hk
theorem Ya7 (t : Nat → SlT) (hw : Wf s) (hro : ro ≤ s.n) (hk : ∀ s', Grew s s' → K (.agg (.mk [sv (t 6), sv (t 7), sv (t 8), sv (t 9), sv (t 10), sv (t 11)])) s') : CallWP P ro 90 [.agg (.mk (L13 t))] s K := by
 refine Zas b90 rfl ?_
 rw [n90]
 unfold v90
 simp (maxSteps := 10000000) only [wW, reduceCtorEq, Nat.reduceEqDiff]
 refine Zam hw.ent fun Bx s1 m1 => ?_
 have e1 := m1.eq
 have n1 := m1.n
 have hn0 : (ent s).n = s.n := rfl
 refine Zai Z29 m1.wf fun T s2 m2 => ?_
 have e2 := m2.eq
 have n2 := m2.n
 have hB2 : s2.at Bx = some (.cells (L13 t) 59 false) := (m2.grew.same Bx (by omega)).trans m1.here
 have h0 : Za4 P s2 33 (.pointer (some ⟨Bx, 6, none⟩)) = some (sv (t 6)) := by rw [Zan Zfl, Zac hB2]; rfl
 have h1 : Za4 P s2 33 (.pointer (some ⟨Bx, 7, none⟩)) = some (sv (t 7)) := by rw [Zan Zfl, Zac hB2]; rfl
 have h2 : Za4 P s2 33 (.pointer (some ⟨Bx, 8, none⟩)) = some (sv (t 8)) := by rw [Zan Zfl, Zac hB2]; rfl
 have h3 : Za4 P s2 33 (.pointer (some ⟨Bx, 9, none⟩)) = some (sv (t 9)) := by rw [Zan Zfl, Zac hB2]; rfl
 have h4 : Za4 P s2 33 (.pointer (some ⟨Bx, 10, none⟩)) = some (sv (t 10)) := by rw [Zan Zfl, Zac hB2]; rfl
 have h5 : Za4 P s2 33 (.pointer (some ⟨Bx, 11, none⟩)) = some (sv (t 11)) := by rw [Zan Zfl, Zac hB2]; rfl
 simp (maxSteps := 10000000) only [wW, reduceCtorEq, Nat.reduceEqDiff, Z1x, Z1w, Z1v, Z1u, Zwb, Zwa, Nat.zero_add]
 rw [Zab, h0, Zaa, Zab, h1, Zaa, Zab, h2, Zaa, Zab, h3, Zaa, Zab, h4, Zaa, Zab, h5, Zaa, Ya0, Zaa]
 refine Zag Z1n m2.here (l := [sv (t 6), sv (t 7), sv (t 8), sv (t 9), sv (t 10), sv (t 11)]) rfl (by decide) m2.wf (by omega) rfl rfl fun s3 p3 => ?_
 rw [Zab, Zah Yfd p3.here rfl, Zaa]
 exact Zw9 hw (p3.grew _ hw.ent (m1.grew.trans m2.grew) (by omega)) hk
end
def Zn8 (g g' : Nat → Nat → Nat → List Int) (q i : Nat) : Bool := decide (g 8 q i = g' 8 q i) && decide (g 9 q i = g' 9 q i)
def Zn7 (g g' : Nat → Nat → Nat → List Int) (q i : Nat) : Bool := decide (g 10 q i = g' 10 q i) && decide (g 11 q i = g' 11 q i)
def Zpb (R : Nat) (g g' : Nat → Nat → Nat → List Int) (q : Nat) : Bool := (List.range 6).all (Zn8 g g' q) && (List.range R).all (Zn7 g g' q)
theorem Zi3 {f : Nat → Bool} {n i : Nat} (hi : i < n) (h : f i = false) : (List.range n).all f = false := by
 cases hb : (List.range n).all f with
 | false => rfl
 | true =>
  have := List.all_eq_true.1 hb i (List.mem_range.2 hi)
  rw [h] at this
  cases this
theorem Zid {f : Nat → Bool} {n : Nat} (h : ∀ j, j < n → f j = true) : (List.range n).all f = true := List.all_eq_true.2 fun j hj => h j (List.mem_range.1 hj)
def six (t : Nat → SlT) (a : Nat) : List Value := [sv (t (a + 0)), sv (t (a + 1)), sv (t (a + 2)), sv (t (a + 3)), sv (t (a + 4)), sv (t (a + 5))]
theorem Zve (t : Nat → SlT) (a : Nat) {i : Nat} (hi : i < 6) : (six t a)[i]? = some (sv (t (a + i))) := by
 match i, hi with
 | 0, _ => rfl
 | 1, _ => rfl
 | 2, _ => rfl
 | 3, _ => rfl
 | 4, _ => rfl
 | 5, _ => rfl
section
variable {s : St} {W : Nat → Prop} {cs : List Value} {B : PfB} {R Q : Nat} {g : Nat → Nat → Nat → List Int}
theorem PfAt.fold (h : PfAt s W cs B R Q g) {q i : Nat} (hq : q < Q) (hi : i < R) : ∃ c, s.at (B.fb q) = some (.cells c 114 false) ∧ cut c (9 * i + 0) 8 = some ((g 10 q i).map (.int .u64)) ∧ (g 10 q i).length = 8 ∧ ∃ v, c[9 * i + 8]? = some v ∧ SlV s W 2 v (g 11 q i) := by
 obtain ⟨c, hc, hl⟩ := h.fb q hq
 have hfit : 9 * i + 9 ≤ c.length := by rw [hl]; have := Nat.mul_le_mul_left 9 hi; omega
 obtain ⟨c1, hc1, hS1⟩ := h.sl 10 q i (.leaf q i hq hi)
 obtain ⟨c2, hc2, hS2⟩ := h.sl 11 q i (.fold q i hq hi)
 have hc1 : Zbi (s.at (B.fb q)) = some c1 := hc1
 have hc2 : Zbi (s.at (B.fb q)) = some c2 := hc2
 rw [Zac hc] at hc1 hc2
 cases hc1
 cases hc2
 unfold SlotC at hS1 hS2
 rw [if_neg (by decide), if_pos rfl] at hS1
 rw [if_neg (by decide), if_neg (by decide), if_neg (by decide)] at hS2
 refine ⟨c, hc, ?_, hS1.1, hS2⟩
 rw [Nat.add_zero, Zj0 (by omega)]
 congr 1
 refine List.ext_getElem? fun j => ?_
 rw [List.getElem?_take]
 by_cases hj : j < 8
 ·rw [if_pos hj, List.getElem?_drop, List.getElem?_map]
  exact hS1.2 j hj
 ·rw [if_neg hj, List.getElem?_eq_none (by rw [List.length_map]; omega)]
end
section
variable {ro : Nat} {s : St} {K : Value → St → Prop} {W W' : Nat → Prop} {cs cs' : List Value} {B B' : PfB} {R Q : Nat} {g g' : Nat → Nat → Nat → List Int}
theorem Yeu {A i : Nat} (hi : i < 6) : Zal P 120 (.pointer (some ⟨A, 0, none⟩)) (.int .i64 (i : Int)) = some (.pointer (some ⟨A, i, none⟩)) := by
 simp only [Zal, Yd2, Z3s, Option.bind_some, Zes]
 rw [if_pos ⟨by omega, by omega⟩, Int.toNat_natCast, Nat.mul_one, Nat.zero_add]
theorem Ybi {A i : Nat} (hi : i < 6) : Zal P 122 (.pointer (some ⟨A, 0, none⟩)) (.int .i64 (i : Int)) = some (.pointer (some ⟨A, i, none⟩)) := by
 simp only [Zal, Yd1, Zm1, Option.bind_some, Zes]
 rw [if_pos ⟨by omega, by omega⟩, Int.toNat_natCast, Nat.mul_one, Nat.zero_add]
theorem Ycj {X1 X2 Y1 Y2 q : Nat} {t t' : Nat → SlT} {τ0 : Tau} (h8 : ∀ i, i < 6 → SlV s W 1 (sv (t i)) (g 8 q i)) (h9 : ∀ i, i < 6 → SlV s W 2 (sv (t (6 + i))) (g 9 q i)) (h8' : ∀ i, i < 6 → SlV s W' 1 (sv (t' i)) (g' 8 q i)) (h9' : ∀ i, i < 6 → SlV s W' 2 (sv (t' (6 + i))) (g' 9 q i))
  (hg : ∀ k q i, (g k q i).length < 2 ^ 20) (hg' : ∀ k q i, (g' k q i).length < 2 ^ 20)
  (hX1 : s.at X1 = some (.cells (six t 0) 120 false)) (hX2 : s.at X2 = some (.cells (six t' 0) 120 false)) (hY1 : s.at Y1 = some (.cells (six t 6) 122 false)) (hY2 : s.at Y2 = some (.cells (six t' 6) 122 false))
  {τ : Tau} {ds : List Deferred} {Kx k0 : WK} {L : List (Nat × WK)} (t5 : τ 5 = ptr X1) (t6 : τ 6 = ptr X2) (t7 : τ 7 = ptr Y1) (t8 : τ 8 = ptr Y2) (t9 : τ 9 = .int .i64 0)
  (hk : ∀ τ', τ' 2 = τ 2 → τ' 3 = τ 3 → (List.range 6).all (Zn8 g g' q) = true → k0 τ' ds s) (hret : ∀ τ', τ' 4 = .bool false → (List.range 6).all (Zn8 g g' q) = false → Kx τ' ds s) :
  Zf2 P ro 84 none Zfw τ ds s Kx ((0, k0) :: L) := by
 refine Zdx Z06 Z0z (fun (i : Nat) τ' ds' s' => i ≤ 6 ∧ τ' 2 = τ 2 ∧ τ' 3 = τ 3 ∧ τ' 5 = ptr X1 ∧ τ' 6 = ptr X2 ∧ τ' 7 = ptr Y1 ∧ τ' 8 = ptr Y2 ∧ τ' 9 = .int .i64 i ∧ ds' = ds ∧ s' = s ∧ ∀ j, j < i → Zn8 g g' q j = true) (fun i => 6 - i) ?_ 0 ⟨by omega, rfl, rfl, t5, t6, t7, t8, t9, rfl, rfl, fun j hj => by omega⟩
 rintro i τ' ds' s' ⟨hi, a2, a3, a5, a6, a7, a8, a9, rfl, rfl, hall⟩
 rw [Z0p]
 unfold Znd
 rw [a5, a6, a7, a8, a9]
 simp (maxSteps := 10000000) only [wW, reduceCtorEq, Nat.reduceEqDiff]
 by_cases hlt : i < 6
 ·have l1 : Za4 P s' 36 (.pointer (some ⟨X1, i, none⟩)) = some (sv (t (0 + i))) := by rw [Zan Znu, Zac hX1]; exact Zve t 0 hlt
  have l2 : Za4 P s' 36 (.pointer (some ⟨X2, i, none⟩)) = some (sv (t' (0 + i))) := by rw [Zan Znu, Zac hX2]; exact Zve t' 0 hlt
  have l3 : Za4 P s' 33 (.pointer (some ⟨Y1, i, none⟩)) = some (sv (t (6 + i))) := by rw [Zan Zfl, Zac hY1]; exact Zve t 6 hlt
  have l4 : Za4 P s' 33 (.pointer (some ⟨Y2, i, none⟩)) = some (sv (t' (6 + i))) := by rw [Zan Zfl, Zac hY2]; exact Zve t' 6 hlt
  rw [Nat.zero_add] at l1 l2
  rw [if_pos (by omega), Zae, Yeu hlt, Zaa, Zab, l1, Zaa]
  refine ⟨Zxi _, ?_⟩
  rw [Zae, Yeu hlt, Zaa, Zab, l2, Zaa]
  refine ⟨Zxi _, ?_⟩
  rw [Z6w (h8 i hlt).u64s (h8' i hlt).u64s (by have := hg 8 q i; omega) (by have := hg' 8 q i; omega)]
  simp (maxSteps := 10000000) only [wW, reduceCtorEq, Nat.reduceEqDiff]
  by_cases h1 : g 8 q i = g' 8 q i
  ·rw [if_neg (fun h => h h1), Zae, Ybi hlt, Zaa, Zab, l3, Zaa]
   refine ⟨Zxi _, ?_⟩
   rw [Zae, Ybi hlt, Zaa, Zab, l4, Zaa]
   refine ⟨Zxi _, ?_⟩
   obtain ⟨m1, e1, d1, _⟩ := h9 i hlt
   obtain ⟨m2, e2, d2, _⟩ := h9' i hlt
   have := hg 9 q i
   have := hg' 9 q i
   rw [Zn2 d1 d2 e1 e2 (by omega) (by omega)]
   simp (maxSteps := 10000000) only [wW, reduceCtorEq, Nat.reduceEqDiff]
   by_cases h2 : g 9 q i = g' 9 q i
   ·rw [if_neg (fun h => h h2), Zaj (by omega) (by omega)]
    refine ⟨i + 1, by omega, by omega, ?_, ?_, ?_, ?_, ?_, ?_, ?_, by first | trivial | rfl, by first | trivial | rfl, fun j hj => ?_⟩
    ·exact a2
    ·exact a3
    ·exact a5
    ·exact a6
    ·exact a7
    ·exact a8
    ·rfl
    ·by_cases hji : j = i
     ·subst hji
      unfold Zn8
      rw [h1, h2, decide_eq_true rfl, decide_eq_true rfl]; rfl
     ·exact hall j (by omega)
   ·rw [if_pos h2]
    refine hret _ ?_ (Zi3 hlt (by unfold Zn8; rw [decide_eq_false h2, Bool.and_false]))
    rfl
  ·rw [if_pos h1]
   refine hret _ ?_ (Zi3 hlt (by unfold Zn8; rw [decide_eq_false h1, Bool.false_and]))
   rfl
 ·obtain rfl : i = 6 := by omega
  rw [if_neg (by omega)]
  refine hk _ ?_ ?_ (Zid hall)
  ·exact a2
  ·exact a3
theorem Yci {B1 B2 q : Nat} {t t' : Nat → SlT} (hp : PfAt s W cs B R Q g) (hp' : PfAt s W' cs' B' R Q g') (hq : q < Q) (hR : R < 2 ^ 20) (ht : t 12 = (some ⟨B.fb q, 0, none⟩, R, R)) (ht' : t' 12 = (some ⟨B'.fb q, 0, none⟩, R, R))
  (hg : ∀ k q i, (g k q i).length < 2 ^ 20) (hg' : ∀ k q i, (g' k q i).length < 2 ^ 20) (hB1 : s.at B1 = some (.cells (L13 t) 59 false)) (hB2 : s.at B2 = some (.cells (L13 t') 59 false))
  {τ : Tau} {ds : List Deferred} {Kx k2 : WK} {L : List (Nat × WK)} (t2 : τ 2 = ptr B1) (t3 : τ 3 = ptr B2) (t10 : τ 10 = .int .i64 0)
  (hk : ∀ τ', (List.range R).all (Zn7 g g' q) = true → k2 τ' ds s) (hret : ∀ τ', τ' 4 = .bool false → (List.range R).all (Zn7 g g' q) = false → Kx τ' ds s) :
  Zf2 P ro 84 none Zeh τ ds s Kx ((2, k2) :: L) := by
 refine Zdx Zvv Zvu (fun (i : Nat) τ' ds' s' => i ≤ R ∧ τ' 2 = ptr B1 ∧ τ' 3 = ptr B2 ∧ τ' 10 = .int .i64 i ∧ ds' = ds ∧ s' = s ∧ ∀ j, j < i → Zn7 g g' q j = true) (fun i => R - i) ?_ 0 ⟨by omega, t2, t3, t10, rfl, rfl, fun j hj => by omega⟩
 rintro i τ' ds' s' ⟨hi, a2, a3, a10, rfl, rfl, hall⟩
 rw [Zvq]
 unfold Zi7
 have f1 : Za4 P s' 57 (.pointer (some ⟨B1, 0 + 12, none⟩)) = some (.slice (some ⟨B.fb q, 0, none⟩) R R) := by
  rw [Zan Zwo, Zac hB1]
  show some (sv (t 12)) = _
  rw [ht]; rfl
 have f2 : Za4 P s' 57 (.pointer (some ⟨B2, 0 + 12, none⟩)) = some (.slice (some ⟨B'.fb q, 0, none⟩) R R) := by
  rw [Zan Zwo, Zac hB2]
  show some (sv (t' 12)) = _
  rw [ht']; rfl
 rw [a2, a3, a10]
 simp (maxSteps := 10000000) only [Zcx, Zcn]
 rw [Zaf, Zd5, Zaa, Zab, f1, Zaa, Zcv Z4v, Zax, Zft Zbp, Zaa]
 by_cases hlt : i < R
 ·obtain ⟨c, hc, c8, cl, v, cv, hv⟩ := hp.fold hq hlt
  obtain ⟨c', hc', c8', cl', v', cv', hv'⟩ := hp'.fold hq hlt
  have w1 : veq (.agg (.mk ((g 10 q i).map (.int .u64)))) (.agg (.mk ((g 10 q i).map (.int .u64)))) = true := Z26 fun v hv => by obtain ⟨z, _, rfl⟩ := List.mem_map.1 hv; simp [veq]
  have w2 : veq (.agg (.mk ((g' 10 q i).map (.int .u64)))) (.agg (.mk ((g' 10 q i).map (.int .u64)))) = true := Z26 fun v hv => by obtain ⟨z, _, rfl⟩ := List.mem_map.1 hv; simp [veq]
  have l1 : Za4 P s' 33 (.pointer (some ⟨B.fb q, 9 * i + 8, none⟩)) = some v := by rw [Zan Zfl, Zac hc]; exact cv
  have l2 : Za4 P s' 33 (.pointer (some ⟨B'.fb q, 9 * i + 8, none⟩)) = some v' := by rw [Zan Zfl, Zac hc']; exact cv'
  rw [decide_eq_true (by omega), Zbb, Zaf, Zd5, Zaa, Zab, f1, Zaa]
  refine ⟨Zmk _ _ _ _ _, ?_⟩
  rw [Zae, ixFl (by omega) (by omega), Zaa, Int.toNat_natCast, Zaf, Zri, Zaa, Zab, Zdr Ybp hc c8, Zaa]
  refine ⟨w1, ?_⟩
  rw [Zaf, Zd5, Zaa, Zab, f2, Zaa]
  refine ⟨Zmk _ _ _ _ _, ?_⟩
  rw [Zae, ixFl (by omega) (by omega), Zaa, Int.toNat_natCast, Zaf, Zri, Zaa, Zab, Zdr Ybp hc' c8', Zaa]
  refine ⟨w2, ?_⟩
  rw [Yai _ _ cl cl']
  by_cases h1 : g 10 q i = g' 10 q i
  ·rw [decide_eq_true h1, Bool.not_true, Zak, Zaf, Zd5, Zaa, Zab, f1, Zaa]
   refine ⟨Zmk _ _ _ _ _, ?_⟩
   rw [Zae, ixFl (by omega) (by omega), Zaa, Int.toNat_natCast, Zaf, Zrh, Zaa, Zab, l1, Zaa]
   refine ⟨Zmv hv, ?_⟩
   rw [Zaf, Zd5, Zaa, Zab, f2, Zaa]
   refine ⟨Zmk _ _ _ _ _, ?_⟩
   rw [Zae, ixFl (by omega) (by omega), Zaa, Int.toNat_natCast, Zaf, Zrh, Zaa, Zab, l2, Zaa]
   refine ⟨Zmv hv', ?_⟩
   obtain ⟨m1, e1, d1, _⟩ := hv
   obtain ⟨m2, e2, d2, _⟩ := hv'
   have := hg 11 q i
   have := hg' 11 q i
   rw [Zn2 d1 d2 e1 e2 (by omega) (by omega)]
   simp (maxSteps := 10000000) only [wW, reduceCtorEq, Nat.reduceEqDiff]
   by_cases h2 : g 11 q i = g' 11 q i
   ·rw [if_neg (fun h => h h2), Zaj (by omega) (by omega)]
    refine ⟨i + 1, by omega, by omega, ?_, ?_, ?_, by first | trivial | rfl, by first | trivial | rfl, fun j hj => ?_⟩
    ·exact a2
    ·exact a3
    ·rfl
    ·by_cases hji : j = i
     ·subst hji
      unfold Zn7
      rw [h1, h2, decide_eq_true rfl, decide_eq_true rfl]; rfl
     ·exact hall j (by omega)
   ·rw [if_pos h2]
    refine hret _ ?_ (Zi3 hlt (by unfold Zn7; rw [decide_eq_false h2, Bool.and_false]))
    rfl
  ·rw [decide_eq_false h1, Bool.not_false, Zbb]
   refine hret _ ?_ (Zi3 hlt (by unfold Zn7; rw [decide_eq_false h1, Bool.false_and]))
   rfl
 ·obtain rfl : i = R := by omega
  rw [decide_eq_false (by omega), Zak]
  exact hk _ (Zid hall)
end
section
variable {ro : Nat} {s : St} {K : Value → St → Prop} {W W' : Nat → Prop} {cs cs' : List Value} {B B' : PfB} {R Q : Nat} {g g' : Nat → Nat → Nat → List Int}
theorem Ybz {q : Nat} {t t' : Nat → SlT} (hp : PfAt s W cs B R Q g) (hp' : PfAt s W' cs' B' R Q g') (hq : q < Q) (hR : R < 2 ^ 20) (ht : t 12 = (some ⟨B.fb q, 0, none⟩, R, R)) (ht' : t' 12 = (some ⟨B'.fb q, 0, none⟩, R, R))
  (h8 : ∀ i, i < 6 → SlV s W 1 (sv (t i)) (g 8 q i)) (h9 : ∀ i, i < 6 → SlV s W 2 (sv (t (6 + i))) (g 9 q i)) (h8' : ∀ i, i < 6 → SlV s W' 1 (sv (t' i)) (g' 8 q i)) (h9' : ∀ i, i < 6 → SlV s W' 2 (sv (t' (6 + i))) (g' 9 q i))
  (hg : ∀ k q i, (g k q i).length < 2 ^ 20) (hg' : ∀ k q i, (g' k q i).length < 2 ^ 20) (hw : Wf s) (hro : ro ≤ s.n) : CallWP P ro 53 [.agg (.mk (L13 t)), .agg (.mk (L13 t'))] s K = K (.bool (Zpb R g g' q)) s := by
 refine Zcl (Zas b53 rfl ?_) K
 rw [n53]
 unfold v53
 simp (maxSteps := 10000000) only [wW, reduceCtorEq, Nat.reduceEqDiff]
 have hn0 : (ent s).n = s.n := rfl
 refine Zam hw.ent fun B1 s1 m1 => ?_
 refine Zam m1.wf fun B2 s2 m2 => ?_
 have e1 := m1.eq
 have n1 := m1.n
 have e2 := m2.eq
 have n2 := m2.n
 have hA2 : s2.at B1 = some (.cells (L13 t) 59 false) := (m2.grew.same B1 (by omega)).trans m1.here
 have hB2 : s2.at B2 = some (.cells (L13 t') 59 false) := m2.here
 rw [Zab, Zah Zq7 hA2 rfl, Zaa]
 refine ⟨Zpw t, ?_⟩
 rw [Zab, Zah Zq7 hB2 rfl, Zaa]
 refine ⟨Zpw t', ?_⟩
 refine Zai Z3a m2.wf fun X1 s3 m3 => ?_
 have e3 := m3.eq
 have n3 := m3.n
 refine ⟨m3.fresh rfl, ?_⟩
 refine Zai Z3a m3.wf fun X2 s4 m4 => ?_
 have e4 := m4.eq
 have n4 := m4.n
 refine ⟨m4.fresh rfl, ?_⟩
 refine Ydq t m4.wf (by omega) fun s5 g5 => ?_
 have n5 := g5.n
 have w5 := m4.wf.grew g5
 refine ⟨g5.keeps, ?_⟩
 refine Ydq t' w5 (by omega) fun s6 g6 => ?_
 have n6 := g6.n
 have w6 := w5.grew g6
 refine ⟨g6.keeps, ?_⟩
 have g46 := g5.trans g6
 have hX1 := (g46.same X1 (by omega)).trans ((m4.grew.same X1 (by omega)).trans m3.here)
 refine Zag Z1o hX1 (l := six t 0) rfl (by decide) w6 (by omega) rfl rfl fun s7 p7 => ?_
 have n7 := p7.n
 refine ⟨by omega, ?_⟩
 have hX2 := (p7.rest X2 (by omega)).trans ((g46.same X2 (by omega)).trans m4.here)
 refine Zag Z1o hX2 (l := six t' 0) rfl (by decide) p7.wf (by omega) rfl rfl fun s8 p8 => ?_
 have n8 := p8.n
 refine ⟨by omega, ?_⟩
 have g04 : Grew (ent s) s4 := ((m1.grew.trans m2.grew).trans m3.grew).trans m4.grew
 have g08 : Grew (ent s) s8 := p8.grew _ hw.ent (p7.grew _ hw.ent (g04.trans g46) (by omega)) (by omega)
 have g26 : Grew s2 s6 := (m3.grew.trans m4.grew).trans g46
 have hA8 := (p8.rest B1 (by omega)).trans ((p7.rest B1 (by omega)).trans ((g26.same B1 (by omega)).trans hA2))
 have hB8 := (p8.rest B2 (by omega)).trans ((p7.rest B2 (by omega)).trans ((g26.same B2 (by omega)).trans hB2))
 have hX18 := (p8.rest X1 (by omega)).trans p7.here
 have hX28 := p8.here
 rw [Zab, Zah Zq7 hA8 rfl, Zaa]
 refine ⟨Zpw t, ?_⟩
 rw [Zab, Zah Zq7 hB8 rfl, Zaa]
 refine ⟨Zpw t', ?_⟩
 refine Zai Z29 p8.wf fun Y1 s9 m9 => ?_
 have e9 := m9.eq
 have n9 := m9.n
 refine ⟨m9.fresh rfl, ?_⟩
 refine Zai Z29 m9.wf fun Y2 s10 m10 => ?_
 have e10 := m10.eq
 have n10 := m10.n
 refine ⟨m10.fresh rfl, ?_⟩
 refine Ya7 t m10.wf (by omega) fun s11 g11 => ?_
 have n11 := g11.n
 have w11 := m10.wf.grew g11
 refine ⟨g11.keeps, ?_⟩
 refine Ya7 t' w11 (by omega) fun s12 g12 => ?_
 have n12 := g12.n
 have w12 := w11.grew g12
 refine ⟨g12.keeps, ?_⟩
 have g1012 := g11.trans g12
 have hY1 := (g1012.same Y1 (by omega)).trans ((m10.grew.same Y1 (by omega)).trans m9.here)
 refine Zag Z1n hY1 (l := six t 6) rfl (by decide) w12 (by omega) rfl rfl fun s13 p13 => ?_
 have n13 := p13.n
 refine ⟨by omega, ?_⟩
 have hY2 := (p13.rest Y2 (by omega)).trans ((g1012.same Y2 (by omega)).trans m10.here)
 refine Zag Z1n hY2 (l := six t' 6) rfl (by decide) p13.wf (by omega) rfl rfl fun s14 p14 => ?_
 have n14 := p14.n
 refine ⟨by omega, ?_⟩
 have g812 : Grew s8 s12 := (m9.grew.trans m10.grew).trans g1012
 have g014 : Grew (ent s) s14 := p14.grew _ hw.ent (p13.grew _ hw.ent (g08.trans g812) (by omega)) (by omega)
 have h814 : ∀ X, X < s8.n → s14.at X = s8.at X := fun X hX => (p14.rest X (by omega)).trans ((p13.rest X (by omega)).trans (g812.same X hX))
 have hp14 : PfAt s14 W cs B R Q g := (hp.keep (s' := ent s) (Nat.le_refl _) fun _ _ => rfl).grew g014
 have hp14' : PfAt s14 W' cs' B' R Q g' := (hp'.keep (s' := ent s) (Nat.le_refl _) fun _ _ => rfl).grew g014
 have up : ∀ {W : Nat → Prop} {sz : Nat} {v : Value} {l : List Int}, SlV s W sz v l → SlV s14 W sz v l := fun h => h.mono (by omega) fun A hA _ => g014.same A hA
 refine Ycj (τ0 := Zb2) (fun i hi => up (h8 i hi)) (fun i hi => up (h9 i hi)) (fun i hi => up (h8' i hi)) (fun i hi => up (h9' i hi)) hg hg' ((h814 X1 (by omega)).trans hX18) ((h814 X2 (by omega)).trans hX28) ((p14.rest Y1 (by omega)).trans p13.here) p14.here ?_ ?_ ?_ ?_ ?_ (fun τ1 c2 c3 hall => ?_) (fun τ1 c4 hno => ?_)
 ·rfl
 ·rfl
 ·rfl
 ·rfl
 ·rfl
 ·have c2' : τ1 2 = ptr B1 := by rw [c2]; rfl
  have c3' : τ1 3 = ptr B2 := by rw [c3]; rfl
  have hA14 := (h814 B1 (by omega)).trans hA8
  have hB14 := (h814 B2 (by omega)).trans hB8
  have f1 : Za4 P s14 57 (.pointer (some ⟨B1, 0 + 12, none⟩)) = some (.slice (some ⟨B.fb q, 0, none⟩) R R) := by
   rw [Zan Zwo, Zac hA14]
   show some (sv (t 12)) = _
   rw [ht]; rfl
  have f2 : Za4 P s14 57 (.pointer (some ⟨B2, 0 + 12, none⟩)) = some (.slice (some ⟨B'.fb q, 0, none⟩) R R) := by
   rw [Zan Zwo, Zac hB14]
   show some (sv (t' 12)) = _
   rw [ht']; rfl
  rw [c2', c3', Zd5, Zaa, Zab, f1, Zaa, Zcv Z4v, Zd5, Zaa, Zab, f2, Zaa, Zcv Z4v]
  simp (maxSteps := 10000000) only [wW, reduceCtorEq, Nat.reduceEqDiff]
  rw [if_neg (fun h => h trivial)]
  refine Yci hp14 hp14' hq hR ht ht' hg hg' hA14 hB14 ?_ ?_ ?_ (fun τ2 hall2 => ?_) (fun τ2 c4 hno => ?_)
  ·exact c2'
  ·exact c3'
  ·rfl
  ·simp (maxSteps := 10000000) only [wW, reduceCtorEq, Nat.reduceEqDiff]
   exact Zau rfl g014 ⟨by unfold Zpb; rw [hall, hall2]; rfl, rfl⟩
  ·show Za5 (Zao P ro) s Tryd.f53.results.toList _ .ret _ [] [] s14
   rw [r53]
   simp (maxSteps := 10000000) only [U, Zad, wW, reduceCtorEq, Nat.reduceEqDiff, c4]
   exact Zau rfl g014 ⟨by unfold Zpb; rw [hno, Bool.and_false], rfl⟩
 ·show Za5 (Zao P ro) s Tryd.f53.results.toList _ .ret _ [] [] s14
  rw [r53]
  simp (maxSteps := 10000000) only [U, Zad, wW, reduceCtorEq, Nat.reduceEqDiff, c4]
  exact Zau rfl g014 ⟨by unfold Zpb; rw [hno, Bool.false_and], rfl⟩
end
def Zua (g g' : Nat → Nat → Nat → List Int) (i : Nat) : Bool := decide (g 5 0 i = g' 5 0 i)
def Zhi (g g' : Nat → Nat → Nat → List Int) (k : Nat) : Bool := decide (g k 0 0 = g' k 0 0)
def Zsa (R Q : Nat) (g g' : Nat → Nat → Nat → List Int) : Bool := Zhi g g' 2 && Zhi g g' 7 && Zhi g g' 1 && Zhi g g' 3 && Zhi g g' 4 && Zhi g g' 6 && (List.range R).all (Zua g g') && (List.range Q).all (Zpb R g g')
section
variable {s : St} {W : Nat → Prop} {cs : List Value} {B : PfB} {R Q : Nat} {g : Nat → Nat → Nat → List Int}
theorem PfAt.opT (h : PfAt s W cs B R Q g) {q : Nat} (hq : q < Q) : ∃ oc t, s.at B.ob = some (.cells oc 59 false) ∧ cut oc (13 * q) 13 = some (L13 t) ∧ (∀ i, i < 6 → SlV s W 1 (sv (t i)) (g 8 q i)) ∧ (∀ i, i < 6 → SlV s W 2 (sv (t (6 + i))) (g 9 q i)) ∧ t 12 = (some ⟨B.fb q, 0, none⟩, R, R) := by
 obtain ⟨oc, l, h1, h2, h3, _, h8, h9, h12⟩ := h.opn hq
 obtain ⟨t, rfl, a, b, c⟩ := opnT h3 h8 h9 h12
 exact ⟨oc, t, h1, h2, a, b, c⟩
theorem PfAt.rd (h : PfAt s W cs B R Q g) {i : Nat} (hi : i < R) : ∃ rc v, s.at B.rb = some (.cells rc 33 false) ∧ rc[i]? = some v ∧ SlV s W 2 v (g 5 0 i) := by
 obtain ⟨rc, h1, _⟩ := h.rb
 obtain ⟨c, hc, hS⟩ := h.sl 5 0 i (.round i hi)
 have hc : Zbi (s.at B.rb) = some c := hc
 rw [Zac h1] at hc
 cases hc
 unfold SlotC at hS
 rw [if_neg (by decide), if_neg (by decide), if_neg (by decide)] at hS
 obtain ⟨v, e, hv⟩ := hS
 exact ⟨rc, v, h1, e, hv⟩
end
section
variable {ro : Nat} {s : St} {K : Value → St → Prop} {W W' : Nat → Prop} {cs cs' : List Value} {B B' : PfB} {R Q : Nat} {g g' : Nat → Nat → Nat → List Int}
theorem Ycm {Z1 Z2 : Nat} (hp : PfAt s W cs B R Q g) (hp' : PfAt s W' cs' B' R Q g') (hR : R < 2 ^ 20) (hg : ∀ k q i, (g k q i).length < 2 ^ 20) (hg' : ∀ k q i, (g' k q i).length < 2 ^ 20) (hZ1 : s.at Z1 = some (.cells cs 39 false)) (hZ2 : s.at Z2 = some (.cells cs' 39 false))
  {τ : Tau} {ds : List Deferred} {Kx k0 : WK} {L : List (Nat × WK)} (t2 : τ 2 = ptr Z1) (t3 : τ 3 = ptr Z2) (t5 : τ 5 = .int .i64 0)
  (hk : ∀ τ', τ' 2 = ptr Z1 → τ' 3 = ptr Z2 → (List.range R).all (Zua g g') = true → k0 τ' ds s) (hret : ∀ τ', τ' 4 = .bool false → (List.range R).all (Zua g g') = false → Kx τ' ds s) :
  Zf2 P ro 107 none Zha τ ds s Kx ((0, k0) :: L) := by
 refine Zdx Zun Zuk (fun (i : Nat) τ' ds' s' => i ≤ R ∧ τ' 2 = ptr Z1 ∧ τ' 3 = ptr Z2 ∧ τ' 5 = .int .i64 i ∧ ds' = ds ∧ s' = s ∧ ∀ j, j < i → Zua g g' j = true) (fun i => R - i) ?_ 0 ⟨by omega, t2, t3, t5, rfl, rfl, fun j hj => by omega⟩
 rintro i τ' ds' s' ⟨hi, a2, a3, a5, rfl, rfl, hall⟩
 rw [Zui]
 unfold Zlz
 have f1 : Za4 P s' 35 (.pointer (some ⟨Z1, 0 + 4, none⟩)) = some (.slice (some ⟨B.rb, 0, none⟩) R R) := by rw [Zan Zwp, Zac hZ1]; exact hp.c4
 have f2 : Za4 P s' 35 (.pointer (some ⟨Z2, 0 + 4, none⟩)) = some (.slice (some ⟨B'.rb, 0, none⟩) R R) := by rw [Zan Zwp, Zac hZ2]; exact hp'.c4
 rw [a2, a3, a5]
 simp (maxSteps := 10000000) only [Zcx, Zcn]
 rw [Zaf, Zjk, Zaa, Zab, f1, Zaa, Zcv Zvf, Zax, Zft Zbp, Zaa]
 by_cases hlt : i < R
 ·obtain ⟨rc, v, hc, e1, hv⟩ := hp.rd hlt
  obtain ⟨rc', v', hc', e2, hv'⟩ := hp'.rd hlt
  have l1 : Za4 P s' 33 (ptrO B.rb i) = some v := by rw [show ptrO B.rb i = .pointer (some ⟨B.rb, i, none⟩) from rfl, Zan Zfl, Zac hc]; exact e1
  have l2 : Za4 P s' 33 (ptrO B'.rb i) = some v' := by rw [show ptrO B'.rb i = .pointer (some ⟨B'.rb, i, none⟩) from rfl, Zan Zfl, Zac hc']; exact e2
  rw [decide_eq_true (by omega), Zbb, Zaf, Zjk, Zaa, Zab, f1, Zaa]
  refine ⟨Zmk _ _ _ _ _, ?_⟩
  rw [Zae, ixRd (by omega) (by omega), Zaa, Int.toNat_natCast, Zab, l1, Zaa]
  refine ⟨Zmv hv, ?_⟩
  rw [Zaf, Zjk, Zaa, Zab, f2, Zaa]
  refine ⟨Zmk _ _ _ _ _, ?_⟩
  rw [Zae, ixRd (by omega) (by omega), Zaa, Int.toNat_natCast, Zab, l2, Zaa]
  refine ⟨Zmv hv', ?_⟩
  obtain ⟨m1, x1, d1, _⟩ := hv
  obtain ⟨m2, x2, d2, _⟩ := hv'
  have := hg 5 0 i
  have := hg' 5 0 i
  rw [Zn2 d1 d2 x1 x2 (by omega) (by omega)]
  simp (maxSteps := 10000000) only [wW, reduceCtorEq, Nat.reduceEqDiff]
  by_cases h1 : g 5 0 i = g' 5 0 i
  ·rw [if_neg (fun h => h h1), Zaj (by omega) (by omega)]
   refine ⟨i + 1, by omega, by omega, ?_, ?_, ?_, by first | trivial | rfl, by first | trivial | rfl, fun j hj => ?_⟩
   ·exact a2
   ·exact a3
   ·rfl
   ·by_cases hji : j = i
    ·subst hji
     exact decide_eq_true h1
    ·exact hall j (by omega)
  ·rw [if_pos h1]
   refine hret _ ?_ (Zi3 hlt (decide_eq_false h1))
   rfl
 ·obtain rfl : i = R := by omega
  rw [decide_eq_false (by omega), Zak]
  refine hk _ ?_ ?_ (Zid hall)
  ·exact a2
  ·exact a3
theorem Ycl {Z1 Z2 : Nat} (hp : PfAt s W cs B R Q g) (hp' : PfAt s W' cs' B' R Q g') (hR : R < 2 ^ 20) (hQ : Q < 2 ^ 20) (hg : ∀ k q i, (g k q i).length < 2 ^ 20) (hg' : ∀ k q i, (g' k q i).length < 2 ^ 20) (hw : Wf s) (hro : ro ≤ s.n) (hZ1 : s.at Z1 = some (.cells cs 39 false)) (hZ2 : s.at Z2 = some (.cells cs' 39 false))
  {τ : Tau} {ds : List Deferred} {Kx k2 : WK} {L : List (Nat × WK)} (t2 : τ 2 = ptr Z1) (t3 : τ 3 = ptr Z2) (t6 : τ 6 = .int .i64 0)
  (hk : ∀ τ', (List.range Q).all (Zpb R g g') = true → k2 τ' ds s) (hret : ∀ τ', τ' 4 = .bool false → (List.range Q).all (Zpb R g g') = false → Kx τ' ds s) :
  Zf2 P ro 107 none Zfx τ ds s Kx ((2, k2) :: L) := by
 refine Zdx Zsr Zso (fun (i : Nat) τ' ds' s' => i ≤ Q ∧ τ' 2 = ptr Z1 ∧ τ' 3 = ptr Z2 ∧ τ' 6 = .int .i64 i ∧ ds' = ds ∧ s' = s ∧ ∀ j, j < i → Zpb R g g' j = true) (fun i => Q - i) ?_ 0 ⟨by omega, t2, t3, t6, rfl, rfl, fun j hj => by omega⟩
 rintro i τ' ds' s' ⟨hi, a2, a3, a6, rfl, rfl, hall⟩
 rw [Zsj]
 unfold Zi8
 have f1 : Za4 P s' 37 (.pointer (some ⟨Z1, 0 + 7, none⟩)) = some (.slice (some ⟨B.ob, 0, none⟩) Q Q) := by rw [Zan Znt, Zac hZ1]; exact hp.c7
 have f2 : Za4 P s' 37 (.pointer (some ⟨Z2, 0 + 7, none⟩)) = some (.slice (some ⟨B'.ob, 0, none⟩) Q Q) := by rw [Zan Znt, Zac hZ2]; exact hp'.c7
 rw [a2, a3, a6]
 simp (maxSteps := 10000000) only [Zcx, Zcn]
 rw [Zaf, Zel, Zaa, Zab, f1, Zaa, Zcv Zr7, Zax, Zft Zbp, Zaa]
 by_cases hlt : i < Q
 ·obtain ⟨oc, t, ho, hcut, h8, h9, ht⟩ := hp.opT hlt
  obtain ⟨oc', t', ho', hcut', h8', h9', ht'⟩ := hp'.opT hlt
  rw [decide_eq_true (by omega), Zbb, Zaf, Zel, Zaa, Zab, f1, Zaa]
  refine ⟨Zmk _ _ _ _ _, ?_⟩
  rw [Zae, ixOp (by omega) (by omega), Zaa, Int.toNat_natCast, Zab, Zdr Zq7 ho hcut, Zaa]
  refine ⟨Zpw t, ?_⟩
  rw [Zaf, Zel, Zaa, Zab, f2, Zaa]
  refine ⟨Zmk _ _ _ _ _, ?_⟩
  rw [Zae, ixOp (by omega) (by omega), Zaa, Int.toNat_natCast, Zab, Zdr Zq7 ho' hcut', Zaa]
  refine ⟨Zpw t', ?_⟩
  show CallWP P ro 53 [.agg (.mk (L13 t)), .agg (.mk (L13 t'))] s' _
  rw [Ybz hp hp' hlt hR ht ht' h8 h9 h8' h9' hg hg' hw hro]
  simp (maxSteps := 10000000) only [wW, reduceCtorEq, Nat.reduceEqDiff]
  by_cases h1 : Zpb R g g' i = true
  ·rw [h1, if_neg (by decide), Zaj (by omega) (by omega)]
   refine ⟨i + 1, by omega, by omega, ?_, ?_, ?_, by first | trivial | rfl, by first | trivial | rfl, fun j hj => ?_⟩
   ·exact a2
   ·exact a3
   ·rfl
   ·by_cases hji : j = i
    ·subst hji
     exact h1
    ·exact hall j (by omega)
  ·have h1' : Zpb R g g' i = false := by simpa using h1
   rw [h1', if_pos rfl]
   refine hret _ ?_ (Zi3 hlt h1')
   rfl
 ·obtain rfl : i = Q := by omega
  rw [decide_eq_false (by omega), Zak]
  exact hk _ (Zid hall)
end
section
variable {ro : Nat} {s : St} {K : Value → St → Prop} {W W' : Nat → Prop} {cs cs' : List Value} {B B' : PfB} {R Q : Nat} {g g' : Nat → Nat → Nat → List Int}
theorem Yby (hp : PfAt s W cs B R Q g) (hp' : PfAt s W' cs' B' R Q g') (hR : R < 2 ^ 20) (hQ : Q < 2 ^ 20) (hg : ∀ k q i, (g k q i).length < 2 ^ 20) (hg' : ∀ k q i, (g' k q i).length < 2 ^ 20) (hw : Wf s) (hro : ro ≤ s.n) :
  CallWP P ro 19 [.agg (.mk cs), .agg (.mk cs')] s K = K (.bool (Zsa R Q g g')) s := by
 refine Zcl (Zas b19 rfl ?_) K
 rw [n19]
 unfold v19
 simp (maxSteps := 10000000) only [wW, reduceCtorEq, Nat.reduceEqDiff]
 have hn0 : (ent s).n = s.n := rfl
 refine Zam hw.ent fun Z1 s1 m1 => ?_
 refine Zam m1.wf fun Z2 s2 m2 => ?_
 have e1 := m1.eq
 have n1 := m1.n
 have e2 := m2.eq
 have n2 := m2.n
 have g02 : Grew (ent s) s2 := m1.grew.trans m2.grew
 simp (maxSteps := 10000000) only [Zs2, Zwg, Zwf, Zwe, Zjk, Zwd, Zwc, Zel, Zaa, Nat.zero_add]
 have hA2 : s2.at Z1 = some (.cells cs 39 false) := (m2.grew.same Z1 (by omega)).trans m1.here
 have hB2 : s2.at Z2 = some (.cells cs' 39 false) := m2.here
 have hp2 : PfAt s2 W cs B R Q g := (hp.keep (s' := ent s) (Nat.le_refl _) fun _ _ => rfl).grew g02
 have hp2' : PfAt s2 W' cs' B' R Q g' := (hp'.keep (s' := ent s) (Nat.le_refl _) fun _ _ => rfl).grew g02
 obtain ⟨v0, v1, v2, v5, x3, x6, hcs, hV0, hV1, hV2, hX3, hV5, hX6⟩ := hp2.list
 obtain ⟨v0', v1', v2', v5', x3', x6', hcs', hV0', hV1', hV2', hX3', hV5', hX6'⟩ := hp2'.list
 have l3 : Za4 P s2 34 (.pointer (some ⟨Z1, 3, none⟩)) = some (.int .u64 x3) := by rw [Zan Zoq, Zac hA2, hcs]; rfl
 have l3' : Za4 P s2 34 (.pointer (some ⟨Z2, 3, none⟩)) = some (.int .u64 x3') := by rw [Zan Zoq, Zac hB2, hcs']; rfl
 have l6 : Za4 P s2 34 (.pointer (some ⟨Z1, 6, none⟩)) = some (.int .u64 x6) := by rw [Zan Zoq, Zac hA2, hcs]; rfl
 have l6' : Za4 P s2 34 (.pointer (some ⟨Z2, 6, none⟩)) = some (.int .u64 x6') := by rw [Zan Zoq, Zac hB2, hcs']; rfl
 have l4 : Za4 P s2 35 (.pointer (some ⟨Z1, 4, none⟩)) = some (.slice (some ⟨B.rb, 0, none⟩) R R) := by rw [Zan Zwp, Zac hA2, hcs]; rfl
 have l4' : Za4 P s2 35 (.pointer (some ⟨Z2, 4, none⟩)) = some (.slice (some ⟨B'.rb, 0, none⟩) R R) := by rw [Zan Zwp, Zac hB2, hcs']; rfl
 have l7 : Za4 P s2 37 (.pointer (some ⟨Z1, 7, none⟩)) = some (.slice (some ⟨B.ob, 0, none⟩) Q Q) := by rw [Zan Znt, Zac hA2, hcs]; rfl
 have l7' : Za4 P s2 37 (.pointer (some ⟨Z2, 7, none⟩)) = some (.slice (some ⟨B'.ob, 0, none⟩) Q Q) := by rw [Zan Znt, Zac hB2, hcs']; rfl
 have l0 : Za4 P s2 33 (.pointer (some ⟨Z1, 0, none⟩)) = some v0 := by rw [Zan Zfl, Zac hA2, hcs]; rfl
 have l0' : Za4 P s2 33 (.pointer (some ⟨Z2, 0, none⟩)) = some v0' := by rw [Zan Zfl, Zac hB2, hcs']; rfl
 have l1 : Za4 P s2 33 (.pointer (some ⟨Z1, 1, none⟩)) = some v1 := by rw [Zan Zfl, Zac hA2, hcs]; rfl
 have l1' : Za4 P s2 33 (.pointer (some ⟨Z2, 1, none⟩)) = some v1' := by rw [Zan Zfl, Zac hB2, hcs']; rfl
 have l2 : Za4 P s2 33 (.pointer (some ⟨Z1, 2, none⟩)) = some v2 := by rw [Zan Zfl, Zac hA2, hcs]; rfl
 have l2' : Za4 P s2 33 (.pointer (some ⟨Z2, 2, none⟩)) = some v2' := by rw [Zan Zfl, Zac hB2, hcs']; rfl
 have l5 : Za4 P s2 36 (.pointer (some ⟨Z1, 5, none⟩)) = some v5 := by rw [Zan Znu, Zac hA2, hcs]; rfl
 have l5' : Za4 P s2 36 (.pointer (some ⟨Z2, 5, none⟩)) = some v5' := by rw [Zan Znu, Zac hB2, hcs']; rfl
 have hT2 : Zhi g g' 2 = decide (x3 = x3') := by unfold Zhi; rw [hX3, hX3']; simp
 have hT7 : Zhi g g' 7 = decide (x6 = x6') := by unfold Zhi; rw [hX6, hX6']; simp
 rw [Zab, l3, Zaa, Zab, l3', Zaa]
 simp (maxSteps := 10000000) only [wW, reduceCtorEq, Nat.reduceEqDiff]
 by_cases h2 : x3 = x3'
 case neg =>
  rw [if_pos h2]
  have hno : Zhi g g' 2 = false := by rw [hT2]; exact decide_eq_false h2
  exact Zau rfl g02 ⟨by unfold Zsa; rw [hno]; simp, rfl⟩
 rw [if_neg (fun h => h h2)]
 rw [Zab, l6, Zaa, Zab, l6', Zaa]
 simp (maxSteps := 10000000) only [wW, reduceCtorEq, Nat.reduceEqDiff]
 by_cases h7 : x6 = x6'
 case neg =>
  rw [if_pos h7]
  have hno : Zhi g g' 7 = false := by rw [hT7]; exact decide_eq_false h7
  exact Zau rfl g02 ⟨by unfold Zsa; rw [hno]; simp, rfl⟩
 rw [if_neg (fun h => h h7), Zab, l4, Zaa, Zcv Zvf, Zab, l4', Zaa, Zcv Zvf]
 simp (maxSteps := 10000000) only [wW, reduceCtorEq, Nat.reduceEqDiff]
 rw [if_neg (fun h => h trivial), Zab, l7, Zaa, Zcv Zr7, Zab, l7', Zaa, Zcv Zr7]
 simp (maxSteps := 10000000) only [wW, reduceCtorEq, Nat.reduceEqDiff]
 rw [if_neg (fun h => h trivial)]
 obtain ⟨mm0, x0l, d0, _⟩ := hV0
 obtain ⟨mm0', x0l', d0', _⟩ := hV0'
 have b0 := hg 1 0 0
 have b0' := hg' 1 0 0
 rw [Zab, l0, Zaa, Zab, l0', Zaa, Zn2 d0 d0' x0l x0l' (by omega) (by omega)]
 simp (maxSteps := 10000000) only [wW, reduceCtorEq, Nat.reduceEqDiff]
 by_cases k1 : g 1 0 0 = g' 1 0 0
 case neg =>
  rw [if_pos k1]
  have hno : Zhi g g' 1 = false := decide_eq_false k1
  exact Zau rfl g02 ⟨by unfold Zsa; rw [hno]; simp, rfl⟩
 rw [if_neg (fun h => h k1)]
 obtain ⟨mm1, x1l, d1, _⟩ := hV1
 obtain ⟨mm1', x1l', d1', _⟩ := hV1'
 have b1 := hg 3 0 0
 have b1' := hg' 3 0 0
 rw [Zab, l1, Zaa, Zab, l1', Zaa, Zn2 d1 d1' x1l x1l' (by omega) (by omega)]
 simp (maxSteps := 10000000) only [wW, reduceCtorEq, Nat.reduceEqDiff]
 by_cases k3 : g 3 0 0 = g' 3 0 0
 case neg =>
  rw [if_pos k3]
  have hno : Zhi g g' 3 = false := decide_eq_false k3
  exact Zau rfl g02 ⟨by unfold Zsa; rw [hno]; simp, rfl⟩
 rw [if_neg (fun h => h k3)]
 obtain ⟨mm2, x2l, d2, _⟩ := hV2
 obtain ⟨mm2', x2l', d2', _⟩ := hV2'
 have b2 := hg 4 0 0
 have b2' := hg' 4 0 0
 rw [Zab, l2, Zaa, Zab, l2', Zaa, Zn2 d2 d2' x2l x2l' (by omega) (by omega)]
 simp (maxSteps := 10000000) only [wW, reduceCtorEq, Nat.reduceEqDiff]
 by_cases k4 : g 4 0 0 = g' 4 0 0
 case neg =>
  rw [if_pos k4]
  have hno : Zhi g g' 4 = false := decide_eq_false k4
  exact Zau rfl g02 ⟨by unfold Zsa; rw [hno]; simp, rfl⟩
 rw [if_neg (fun h => h k4)]
 rw [Zab, l5, Zaa, Zab, l5', Zaa, Z6w hV5.u64s hV5'.u64s (by have := hg 6 0 0; omega) (by have := hg' 6 0 0; omega)]
 simp (maxSteps := 10000000) only [wW, reduceCtorEq, Nat.reduceEqDiff]
 by_cases k6 : g 6 0 0 = g' 6 0 0
 case neg =>
  rw [if_pos k6]
  have hno : Zhi g g' 6 = false := decide_eq_false k6
  exact Zau rfl g02 ⟨by unfold Zsa; rw [hno]; simp, rfl⟩
 rw [if_neg (fun h => h k6)]
 have t2 : Zhi g g' 2 = true := by rw [hT2]; exact decide_eq_true h2
 have t7 : Zhi g g' 7 = true := by rw [hT7]; exact decide_eq_true h7
 have t1 : Zhi g g' 1 = true := decide_eq_true k1
 have t3 : Zhi g g' 3 = true := decide_eq_true k3
 have t4 : Zhi g g' 4 = true := decide_eq_true k4
 have t6 : Zhi g g' 6 = true := decide_eq_true k6
 have hall : Zsa R Q g g' = ((List.range R).all (Zua g g') && (List.range Q).all (Zpb R g g')) := by
  unfold Zsa
  rw [t2, t7, t1, t3, t4, t6]
  simp
 refine Ycm hp2 hp2' hR hg hg' hA2 hB2 ?_ ?_ ?_ (fun τ1 c2 c3 hr => ?_) (fun τ1 c4 hno => ?_)
 ·rfl
 ·rfl
 ·rfl
 ·refine Ycl hp2 hp2' hR hQ hg hg' m2.wf (by omega) hA2 hB2 ?_ ?_ ?_ (fun τ2 ho => ?_) (fun τ2 c4 hno => ?_)
  ·exact c2
  ·exact c3
  ·rfl
  ·simp (maxSteps := 10000000) only [wW, reduceCtorEq, Nat.reduceEqDiff]
   exact Zau rfl g02 ⟨by rw [hall, hr, ho]; rfl, rfl⟩
  ·show Za5 (Zao P ro) s Tryd.f19.results.toList _ .ret _ [] [] s2
   rw [r19]
   simp (maxSteps := 10000000) only [U, Zad, wW, reduceCtorEq, Nat.reduceEqDiff, c4]
   exact Zau rfl g02 ⟨by rw [hall, hno, Bool.and_false], rfl⟩
 ·show Za5 (Zao P ro) s Tryd.f19.results.toList _ .ret _ [] [] s2
  rw [r19]
  simp (maxSteps := 10000000) only [U, Zad, wW, reduceCtorEq, Nat.reduceEqDiff, c4]
  exact Zau rfl g02 ⟨by rw [hall, hno, Bool.false_and], rfl⟩
theorem Ya6 (hw : Wf s) (hro : ro ≤ s.n) : CallWP P ro 19 [.agg (.mk Zcu), .agg (.mk Zcu)] s K = K (.bool true) s := by
 refine Zcl (Zas b19 rfl ?_) K
 rw [n19]
 unfold v19
 simp (maxSteps := 10000000) only [wW, reduceCtorEq, Nat.reduceEqDiff]
 have hn0 : (ent s).n = s.n := rfl
 refine Zam hw.ent fun Z1 s1 m1 => ?_
 refine Zam m1.wf fun Z2 s2 m2 => ?_
 have e1 := m1.eq
 have n1 := m1.n
 have e2 := m2.eq
 have n2 := m2.n
 have g02 : Grew (ent s) s2 := m1.grew.trans m2.grew
 simp (maxSteps := 10000000) only [Zs2, Zwg, Zwf, Zwe, Zjk, Zwd, Zwc, Zel, Zaa, Nat.zero_add]
 have hA2 : s2.at Z1 = some (.cells Zcu 39 false) := (m2.grew.same Z1 (by omega)).trans m1.here
 have hB2 : s2.at Z2 = some (.cells Zcu 39 false) := m2.here
 have l3 : Za4 P s2 34 (.pointer (some ⟨Z1, 3, none⟩)) = some (.int .u64 0) := by rw [Zan Zoq, Zac hA2]; rfl
 have l3' : Za4 P s2 34 (.pointer (some ⟨Z2, 3, none⟩)) = some (.int .u64 0) := by rw [Zan Zoq, Zac hB2]; rfl
 have l6 : Za4 P s2 34 (.pointer (some ⟨Z1, 6, none⟩)) = some (.int .u64 0) := by rw [Zan Zoq, Zac hA2]; rfl
 have l6' : Za4 P s2 34 (.pointer (some ⟨Z2, 6, none⟩)) = some (.int .u64 0) := by rw [Zan Zoq, Zac hB2]; rfl
 have l4 : Za4 P s2 35 (.pointer (some ⟨Z1, 4, none⟩)) = some (.slice none 0 0) := by rw [Zan Zwp, Zac hA2]; rfl
 have l4' : Za4 P s2 35 (.pointer (some ⟨Z2, 4, none⟩)) = some (.slice none 0 0) := by rw [Zan Zwp, Zac hB2]; rfl
 have l7 : Za4 P s2 37 (.pointer (some ⟨Z1, 7, none⟩)) = some (.slice none 0 0) := by rw [Zan Znt, Zac hA2]; rfl
 have l7' : Za4 P s2 37 (.pointer (some ⟨Z2, 7, none⟩)) = some (.slice none 0 0) := by rw [Zan Znt, Zac hB2]; rfl
 have l0 : Za4 P s2 33 (.pointer (some ⟨Z1, 0, none⟩)) = some (.slice none 0 0) := by rw [Zan Zfl, Zac hA2]; rfl
 have l0' : Za4 P s2 33 (.pointer (some ⟨Z2, 0, none⟩)) = some (.slice none 0 0) := by rw [Zan Zfl, Zac hB2]; rfl
 have l1 : Za4 P s2 33 (.pointer (some ⟨Z1, 1, none⟩)) = some (.slice none 0 0) := by rw [Zan Zfl, Zac hA2]; rfl
 have l1' : Za4 P s2 33 (.pointer (some ⟨Z2, 1, none⟩)) = some (.slice none 0 0) := by rw [Zan Zfl, Zac hB2]; rfl
 have l2 : Za4 P s2 33 (.pointer (some ⟨Z1, 2, none⟩)) = some (.slice none 0 0) := by rw [Zan Zfl, Zac hA2]; rfl
 have l2' : Za4 P s2 33 (.pointer (some ⟨Z2, 2, none⟩)) = some (.slice none 0 0) := by rw [Zan Zfl, Zac hB2]; rfl
 have l5 : Za4 P s2 36 (.pointer (some ⟨Z1, 5, none⟩)) = some (.slice none 0 0) := by rw [Zan Znu, Zac hA2]; rfl
 have l5' : Za4 P s2 36 (.pointer (some ⟨Z2, 5, none⟩)) = some (.slice none 0 0) := by rw [Zan Znu, Zac hB2]; rfl
 have hN : ∀ sz, Sl s2 (.slice none 0 0) sz 0 (([] : List Int).map (.int .u64)) := fun sz => Sl.nil _ _
 rw [Zab, l3, Zaa, Zab, l3', Zaa]
 simp (maxSteps := 10000000) only [wW, reduceCtorEq, Nat.reduceEqDiff]
 rw [if_neg (fun h => h trivial), Zab, l6, Zaa, Zab, l6', Zaa]
 simp (maxSteps := 10000000) only [wW, reduceCtorEq, Nat.reduceEqDiff]
 rw [if_neg (fun h => h trivial), Zab, l4, Zaa, Zcv Zvf, Zab, l4', Zaa, Zcv Zvf]
 simp (maxSteps := 10000000) only [wW, reduceCtorEq, Nat.reduceEqDiff]
 rw [if_neg (fun h => h trivial), Zab, l7, Zaa, Zcv Zr7, Zab, l7', Zaa, Zcv Zr7]
 simp (maxSteps := 10000000) only [wW, reduceCtorEq, Nat.reduceEqDiff]
 rw [if_neg (fun h => h trivial)]
 rw [Zab, l0, Zaa, Zab, l0', Zaa, Zn2 (hN 2) (hN 2) rfl rfl (by decide) (by decide)]
 simp (maxSteps := 10000000) only [wW, reduceCtorEq, Nat.reduceEqDiff]
 rw [if_neg (fun h => h trivial)]
 rw [Zab, l1, Zaa, Zab, l1', Zaa, Zn2 (hN 2) (hN 2) rfl rfl (by decide) (by decide)]
 simp (maxSteps := 10000000) only [wW, reduceCtorEq, Nat.reduceEqDiff]
 rw [if_neg (fun h => h trivial)]
 rw [Zab, l2, Zaa, Zab, l2', Zaa, Zn2 (hN 2) (hN 2) rfl rfl (by decide) (by decide)]
 simp (maxSteps := 10000000) only [wW, reduceCtorEq, Nat.reduceEqDiff]
 rw [if_neg (fun h => h trivial)]
 rw [Zab, l5, Zaa, Zab, l5', Zaa, Z6w (a := []) (b := []) (hN 1) (hN 1) (by decide) (by decide)]
 simp (maxSteps := 10000000) only [wW, reduceCtorEq, Nat.reduceEqDiff]
 rw [if_neg (fun h => h trivial)]
 refine Zdx Zun Zuk (fun (i : Nat) τ ds s' => i = 0 ∧ τ 2 = ptr Z1 ∧ τ 3 = ptr Z2 ∧ τ 5 = .int .i64 0 ∧ ds = [] ∧ s' = s2) (fun i => i) ?_ 0 ⟨rfl, ?_, ?_, ?_, rfl, rfl⟩
 ·rintro i τ ds s' ⟨rfl, a2, a3, a5, rfl, rfl⟩
  rw [Zui]
  unfold Zlz
  rw [a2, a3, a5]
  simp (maxSteps := 10000000) only [Zcx, Zcn]
  rw [Zaf, Zjk, Zaa, Zab, l4, Zaa, Zcv Zvf, Zax, Zft Zbp, Zaa, decide_eq_false (by decide), Zak]
  refine Zdx Zsr Zso (fun (i : Nat) τ ds s9 => i = 0 ∧ τ 2 = ptr Z1 ∧ τ 3 = ptr Z2 ∧ τ 6 = .int .i64 0 ∧ ds = [] ∧ s9 = s') (fun i => i) ?_ 0 ⟨rfl, ?_, ?_, ?_, rfl, rfl⟩
  ·rintro i τ ds s9 ⟨rfl, a2, a3, a6, rfl, rfl⟩
   rw [Zsj]
   unfold Zi8
   rw [a2, a3, a6]
   simp (maxSteps := 10000000) only [Zcx, Zcn]
   rw [Zaf, Zel, Zaa, Zab, l7, Zaa, Zcv Zr7, Zax, Zft Zbp, Zaa, decide_eq_false (by decide), Zak]
   simp (maxSteps := 10000000) only [wW, reduceCtorEq, Nat.reduceEqDiff]
   exact Zau rfl g02 ⟨rfl, rfl⟩
  ·exact a2
  ·exact a3
  ·rfl
 ·rfl
 ·rfl
 ·rfl
end
theorem Z4x (R Q : Nat) (g : Nat → Nat → Nat → List Int) : Zsa R Q g g = true := by
 unfold Zsa Zhi
 have h1 : (List.range R).all (Zua g g) = true := Zid fun j _ => decide_eq_true rfl
 have h2 : (List.range Q).all (Zpb R g g) = true := Zid fun j _ => by
  unfold Zpb
  have a : (List.range 6).all (Zn8 g g j) = true := Zid fun i _ => by unfold Zn8; simp
  have b : (List.range R).all (Zn7 g g j) = true := Zid fun i _ => by unfold Zn7; simp
  rw [a, b]; rfl
 rw [h1, h2]
 simp
section
variable {ro : Nat} {s : St} {h : Shp}
theorem Z90 (h : Shp) {b : List Int} {u : Value} (hb : ∀ x ∈ b, 0 ≤ x ∧ x < 256) (hu : Bys s u b) (hw : Wf s) (hro : ro ≤ s.n) (hF : FieldsAt s) : CallWP P ro 4 [.agg (.mk h.cells), u] s fun v _ => v = .bool true := by
 refine Zas b4 rfl ?_
 rw [n4]
 unfold v4
 simp (maxSteps := 10000000) only [wW, reduceCtorEq, Nat.reduceEqDiff]
 refine Zam hw.ent fun C s1 m1 => ?_
 have e1 := m1.eq
 have n1 := m1.n
 have hn0 : (ent s).n = s.n := rfl
 have hC1 : s1.at C = some (.cells h.cells 23 false) := m1.here
 have hF1 : FieldsAt s1 := FieldsAt.grew (s := ent s) hF m1.grew
 have hu1 : Bys s1 u b := (Sl.ent hu).grew m1.grew.same
 have h0n : 0 < s.n := hF.lt
 have huA : ∀ {s2 : St}, Grew s1 s2 → b ≠ [] → ∀ A o sp n c, u = .slice (some ⟨A, o, sp⟩) n c → A < s2.n := fun {s2} g hb0 A o sp n c e => by
  have g1 := g.n
  obtain ⟨a, cc, ev, _, _, hbk⟩ := hu1
  have : 0 < b.length := List.length_pos_iff.2 hb0
  obtain ⟨A', o', m', cells, t, op, ha, _, hA', _⟩ := hbk (by omega)
  rw [ev, ha] at e
  cases e
  exact Nat.lt_of_lt_of_le (St.at_lt hA') g1
 rw [Sl.wlen hu1 Zr9]
 simp (maxSteps := 10000000) only [wW, reduceCtorEq, Nat.reduceEqDiff]
 by_cases hbig : (b.length : Int) > 600000
 ·rw [if_pos hbig, Z22 m1.wf (by omega) hF1]
  exact Yar fun _ => rfl
 rw [if_neg hbig]
 have hbl2 : b.length < 2 ^ 40 := by omega
 rw [Zab, Zah Zc2 hC1 rfl, Zaa]
 refine Z61 h hb hbl2 hu1 (huA (.refl _)) m1.wf (by omega) hF1 (fun hv => ?_) (fun hv he => ?_) (fun hv hd hgood cs B s2 W g2 _ hW hWB hp => ?_)
 ·simp (maxSteps := 10000000) only [wW, reduceCtorEq, Nat.reduceEqDiff, List.getElem?_cons_zero, List.getElem?_cons_succ]
  refine Zai Zh0 m1.wf fun Z1 s2 m2 => ?_
  have e2 := m2.eq
  have n2 := m2.n
  refine Zag Zea m2.here (l := Zcu) rfl (by decide) m2.wf (by omega) rfl rfl fun s3 p3 => ?_
  have n3 := p3.n
  have g3 : Grew s1 s3 := p3.grew _ m1.wf m2.grew (by omega)
  have hC3 := (g3.same C (by omega)).trans hC1
  rw [Zab, Zah Zc2 hC3 rfl, Zaa]
  refine Zu8 h hb hbl2 (Sl.grew hu1 g3.same) (huA g3) p3.wf (by omega) (by omega) (fun _ => ?_) (fun h => by rw [hv] at h; cases h) (fun h => by rw [hv] at h; cases h)
  simp (maxSteps := 10000000) only [wW, reduceCtorEq, Nat.reduceEqDiff, List.getElem?_cons_zero, List.getElem?_cons_succ]
  refine Zai Zh0 p3.wf fun Z2 s4 m4 => ?_
  have e4 := m4.eq
  have n4 := m4.n
  refine Zag Zea m4.here (l := Zcu) rfl (by decide) m4.wf (by omega) rfl rfl fun s5 p5 => ?_
  have n5 := p5.n
  have hZ1 := (p5.rest Z1 (by omega)).trans ((m4.grew.same Z1 (by omega)).trans p3.here)
  have g5 : Grew s1 s5 := p5.grew _ m1.wf (g3.trans m4.grew) (by omega)
  rw [Zab, Zah Zhy hZ1 rfl, Zaa, Zab, Zah Zhy p5.here rfl, Zaa, Ya6 p5.wf (by omega)]
  simp (maxSteps := 10000000) only [wW, reduceCtorEq, Nat.reduceEqDiff]
  rw [Z22 p5.wf (by omega) (hF1.grew g5)]
  exact Yar fun _ => rfl
 ·simp (maxSteps := 10000000) only [wW, reduceCtorEq, Nat.reduceEqDiff, List.getElem?_cons_zero, List.getElem?_cons_succ]
  refine Zai Zh0 m1.wf fun Z1 s2 m2 => ?_
  have e2 := m2.eq
  have n2 := m2.n
  refine Zag Zea m2.here (l := Zcu) rfl (by decide) m2.wf (by omega) rfl rfl fun s3 p3 => ?_
  have n3 := p3.n
  have g3 : Grew s1 s3 := p3.grew _ m1.wf m2.grew (by omega)
  have hC3 := (g3.same C (by omega)).trans hC1
  rw [Zab, Zah Zc2 hC3 rfl, Zaa]
  refine Zu8 h hb hbl2 (Sl.grew hu1 g3.same) (huA g3) p3.wf (by omega) (by omega) (fun h => by rw [hv] at h; cases h) (fun _ _ => ?_) (fun _ hd => absurd (by rw [hd]) he)
  simp (maxSteps := 10000000) only [wW, reduceCtorEq, Nat.reduceEqDiff, List.getElem?_cons_zero, List.getElem?_cons_succ]
  refine Zai Zh0 p3.wf fun Z2 s4 m4 => ?_
  have e4 := m4.eq
  have n4 := m4.n
  refine Zag Zea m4.here (l := Zcu) rfl (by decide) m4.wf (by omega) rfl rfl fun s5 p5 => ?_
  have n5 := p5.n
  have hZ1 := (p5.rest Z1 (by omega)).trans ((m4.grew.same Z1 (by omega)).trans p3.here)
  have g5 : Grew s1 s5 := p5.grew _ m1.wf (g3.trans m4.grew) (by omega)
  rw [Zab, Zah Zhy hZ1 rfl, Zaa, Zab, Zah Zhy p5.here rfl, Zaa, Ya6 p5.wf (by omega)]
  simp (maxSteps := 10000000) only [wW, reduceCtorEq, Nat.reduceEqDiff]
  rw [Z22 p5.wf (by omega) (hF1.grew g5)]
  exact Yar fun _ => rfl
 ·have n2 := g2.n
  have w2 := m1.wf.grew g2
  simp (maxSteps := 10000000) only [wW, reduceCtorEq, Nat.reduceEqDiff, List.getElem?_cons_zero, List.getElem?_cons_succ]
  refine Zai Zh0 w2 fun Z1 s3 m3 => ?_
  have e3 := m3.eq
  have n3 := m3.n
  refine Zag Zea m3.here (l := cs) hp.cl (by decide) m3.wf (by omega) rfl hp.one fun s4 p4 => ?_
  have n4 := p4.n
  have g24 : Grew s2 s4 := p4.grew _ w2 m3.grew (by omega)
  have g4 := g2.trans g24
  have hC4 := (g4.same C (by omega)).trans hC1
  rw [Zab, Zah Zc2 hC4 rfl, Zaa]
  refine Zu8 h hb hbl2 (Sl.grew hu1 g4.same) (huA g4) p4.wf (by omega) (by omega) (fun h => by rw [hv] at h; cases h) (fun _ he => absurd (by rw [hd]) he) (fun _ _ _ cs' B' s5 W' g5 _ hW' hWB' hp' => ?_)
  have n5 := g5.n
  have w5 := p4.wf.grew g5
  simp (maxSteps := 10000000) only [wW, reduceCtorEq, Nat.reduceEqDiff, List.getElem?_cons_zero, List.getElem?_cons_succ]
  refine Zai Zh0 w5 fun Z2 s6 m6 => ?_
  have e6 := m6.eq
  have n6 := m6.n
  refine Zag Zea m6.here (l := cs') hp'.cl (by decide) m6.wf (by omega) rfl hp'.one fun s7 p7 => ?_
  have n7 := p7.n
  have g57 : Grew s5 s7 := p7.grew _ w5 m6.grew (by omega)
  have g47 := g5.trans g57
  have g7 := g4.trans g47
  have hZ1 := (g47.same Z1 (by omega)).trans p4.here
  have hp7 := (hp.grew g24).grew g47
  have hp7' := hp'.grew g57
  have hbd := Z3g hv
  rw [Zab, Zah Zhy hZ1 hp.cl, Zaa, Zab, Zah Zhy p7.here hp'.cl, Zaa, Yby hp7 hp7' (by omega) (by omega) (Zv3 hv _) (Zv3 hv _) p7.wf (by omega), Z4x]
  simp (maxSteps := 10000000) only [wW, reduceCtorEq, Nat.reduceEqDiff]
  rw [Z22 p7.wf (by omega) (hF1.grew g7)]
  exact Yar fun _ => rfl
end
theorem Z69 : ∀ {l : List (List Value)} (_ : ∀ c ∈ l, ∃ i, c = [.int .u8 i] ∧ (Lit.int .u8 i).wf = true), ∃ V : List Int, l.flatten = V.map (.int .u8) ∧ V.length = l.length ∧ ∀ x ∈ V, 0 ≤ x ∧ x < 256
 | [], _ => ⟨[], rfl, rfl, fun x hx => by cases hx⟩
 | c :: l, h => by
  obtain ⟨V, h1, h2, h3⟩ := Z69 (l := l) fun c hc => h c (List.mem_cons_of_mem _ hc)
  obtain ⟨i, rfl, hi⟩ := h c List.mem_cons_self
  refine ⟨i :: V, by rw [List.flatten_cons, h1]; rfl, by simp [h2], fun x hx => ?_⟩
  rcases List.mem_cons.1 hx with rfl | hx
  ·simp [Lit.wf, IntKind.min, IntKind.max, IntKind.signed, IntKind.bits] at hi
   omega
  ·exact h3 x hx
theorem Yc9 {n : Nat} {a : List Value} {s : St} (h : Mean P (n + 2) 32 a s) : ∃ (u : Value) (l : List Int), a = [u] ∧ Bys s u l ∧ (∀ x ∈ l, 0 ≤ x ∧ x < 256) ∧ l.length ≤ maxLen := by
 rw [Yf4] at h
 obtain ⟨u, l, rfl, hlen, hs, hl⟩ := h
 simp only [me_5] at hl
 obtain ⟨V, hV, hn, hVw⟩ := Z69 fun c hc => (hl c hc).2
 refine ⟨u, V, rfl, ?_, hVw, by rw [hn]; exact hlen⟩
 unfold Bys
 rw [hn, ← hV]
 exact hs
theorem Yco {al : List Value} {s : St} (h : Args P 8 [23, 32] al s) : ∃ (h : Shp) (u : Value) (b : List Int), al = [.agg (.mk h.cells), u] ∧ Bys s u b ∧ (∀ x ∈ b, 0 ≤ x ∧ x < 256) ∧ b.length ≤ maxLen := by
 obtain ⟨v1, r1, a1, rfl, hv1, hm1, v2, r2, a2, rfl, hv2, hm2, rfl⟩ := h
 rw [Ygo] at hv1
 subst hv1
 obtain ⟨h, rfl⟩ := Yac hm1
 obtain ⟨u, b, rfl, h1, h2, h3⟩ := Yc9 hm2
 rw [Ygn] at hv2
 cases hv2
 exact ⟨h, _, b, rfl, h1, h2, h3⟩
theorem pd_runs (laid : List (String × DataW Unit)) (h : Z7j laid = true) : LawRuns P 30 8 4 [23, 32] laid :=
 Z8e h fun s al hw hF h0 ha => by
  obtain ⟨h, u, b, rfl, h1, h2, h3⟩ := Yco ha
  exact Z90 h h2 h1 hw (Nat.le_refl _) hF
end Go.VE
