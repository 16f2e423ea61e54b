/-
  The evaluator: rounds, ranges over functions, code; what a region that draws its order is checked for.
-/
import Derived.Test.YtedoeeeomfgjnaaDoorVe2
import Derived.TacticsIn
import Derived.OrdersIn
set_option linter.unusedSimpArgs false
set_option linter.unusedVariables false
/- Rounds, one operation, operations in a list. -/
namespace Go.VE
open Go Go.RowKit
theorem run_getLoop {P : Program} {w : World} {b : Nat} {r : Loop} (h : w.heap[b]? = some (.loop r)) : (Instr.getLoop b).run P w = .ok r w := by
  simp only [Instr.getLoop, getObj, Sem.run_bind, Sem.run, h, Result.andThen_ok]
  rfl
theorem run_setObj {P : Program} {w : World} {b : Nat} {r : Loop} (h : w.heap[b]? = some (.loop r)) (o : Obj) : (setObj b o).run P w = .ok () (setO w b o) := by simp [setObj, Sem.run, setO, h]
theorem run_beginRound {P : Program} {w : World} {b : Nat} {r : Loop} (h : w.heap[b]? = some (.loop r)) (hr : r.state = .ready) :
    (Instr.beginRound b).run P w = .ok () (setO w b (.loop { r with state := .busy })) := by
  simp only [Instr.beginRound, Sem.run_bind, run_getLoop h, Result.andThen_ok, run_setObj h, hr]
  rfl
theorem run_endRound {P : Program} {w : World} {b : Nat} {r : Loop} (h : w.heap[b]? = some (.loop r)) (j : Option Code) :
    (Instr.endRound b j).run P w = .ok (.bool j.isNone) (setO w b (.loop { r with state := if j.isNone then .ready else .done, pending := j })) := by
  simp only [Instr.endRound, Sem.run_bind, run_getLoop h, Result.andThen_ok, run_setObj h]
  rfl
theorem run_endLoop {P : Program} {w : World} {b : Nat} {r : Loop} (h : w.heap[b]? = some (.loop r)) (hr : r.state = .ready ∨ r.state = .done) :
    (Instr.endLoop b).run P w = .ok r.pending (setO w b (.loop { r with state := .exhausted })) := by
  have : (r.state == LoopState.busy) = false := by rcases hr with h | h <;> rw [h] <;> rfl
  simp only [Instr.endLoop, Sem.run_bind, run_getLoop h, Result.andThen_ok, this, Bool.false_eq_true, if_false, Sem.run_pure, run_setObj h]
theorem Rel.putLoop [Memo] {C : Cx} {ρ : Rho} {s : St} {w : World} (h : Rel C ρ s w) {A b : Nat} {x : Nat × Nat} (hA : ρ A = some (b, x)) (hro : C.ro ≤ A) {r : Lp} (hs : s.at A = some (.loop r)) (st : LoopState) (pd : Option Code) :
    ∃ r' : Loop, w.heap[b]? = some (.loop r') ∧ r'.state = r.state ∧ r'.pending = r.pending ∧ (C.okc r.assign = true ∧ C.okc r.body = true) ∧
      Rel C ρ (s.put A (.loop { r with state := st, pending := pd })) (setO w b (.loop { r' with state := st, pending := pd })) := by
  obtain ⟨r', h1, h2, h3⟩ := h.obj A b x _ hA hs
  exact ⟨r', h1, h2.state, h2.pending, h3, h.putObj (o2 := .loop { r with state := st, pending := pd }) hA hro hs (by simp)
    ⟨_, setO_same _ (h.lt A b x hA), ⟨rfl, rfl, h2.tmps, h2.params, h2.assign, h2.body, h2.defers⟩, h3⟩⟩
theorem Fen.inR {F : Fence} {rnd : Option Nat} {ρ : Rho} (h : Fen F rnd ρ) (b : Nat) : F.inRound b = Fence.wide.inRound b := by
  cases rnd with
  | none => rw [show F = Fence.wide from h]
  | some l => obtain ⟨b', x, h1, rfl⟩ := h; rfl
section
variable [Memo] {C : Cx} {E : Ev}
theorem around_sound (hE : SoundE C E) {l : Nat} {t : Tr} {assign body : Code} {s s' : St} {v : Value} (e : around C.ro E l t assign body s = some (v, s')) (hl : s.h.length = s.n) :
    Kept s s' ∧ ∀ (_ : okCode C.P assign = true) (_ : okCode C.P body = true) (ρ : Rho) (b : Nat) (x : Nat × Nat) (f : FuncId) (tmps : Array Value) (w : World) (F : Fence), (∀ b, F.inRound b = Fence.wide.inRound b) → ρ l = some (b, x) → Rel C ρ s w → Glob C s → TR ρ t tmps →
      RoundIn F 0 C.P b f tmps assign body w fun e w' => ∃ v', e = .returned v' ∧ ∃ ρ', Ext s.n ρ ρ' ∧ Rel C ρ' s' w' ∧ VR ρ' v v' := by
  unfold around at e
  split at e
  case h_2 => cases e
  case h_1 fr s1 he =>
    obtain ⟨⟨hr1, hk1⟩, hs1⟩ := hE _ _ _ _ _ _ he hl
    cases hat : s1.at l with
    | none => rw [hat] at e; cases e
    | some o =>
      rw [hat] at e
      cases o with
      | cells _ _ _ => cases e
      | dead => cases e
      | defd _ => cases e
      | map _ _ => cases e
      | iter _ _ _ _ => cases e
      | loop r =>
        unfold around2 at e
        simp only at e
        split at e
        case h_2 => cases e
        case h_1 hst =>
          obtain ⟨hro, e⟩ := bif_some e
          have hro := Nat.le_of_ble_eq_true hro
          unfold around3 at e
          split at e
          case h_2 => cases e
          case h_1 ex fr2 s3 he2 =>
            have hk2 : Kept s1 (s1.put l (.loop { r with state := .busy })) := .put hk1.len (St.at_lt hat) _
            obtain ⟨⟨hr2, hk3⟩, hs2⟩ := hE _ _ _ _ _ _ he2 hk2.len
            cases hat3 : s3.at l with
            | none => rw [hat3] at e; cases e
            | some o3 =>
              rw [hat3] at e
              cases o3 with
              | cells _ _ _ => cases e
              | dead => cases e
              | defd _ => cases e
              | map _ _ => cases e
              | iter _ _ _ _ => cases e
              | loop r3 =>
                simp only at e
                obtain ⟨_, e⟩ := bif_some e
                cases e
                have hk4 : Kept s3 (s3.put l (.loop { r3 with state := if (jumpOf ex).isNone then .ready else .done, pending := jumpOf ex })) := .put hk3.len (St.at_lt hat3) _
                refine ⟨((hk1.trans hk2).trans hk3).trans hk4, fun ha hb ρ b x f tmps w F hF hA h hg ht => ?_⟩
                have hfn : F.fn f := by
                  have : (F.inRound b).fn f = (Fence.wide.inRound b).fn f := by rw [hF b]
                  exact this.mpr trivial
                refine roundIn_of_wpIn hfn ?_
                rw [hF b]
                refine wpIn_mono (hs1 ha ρ { tmps := tmps, defers := [] } w (Fence.wide.inRound b) ⟨b, x, hA, rfl⟩ h hg ⟨ht, trivial⟩).1 fun e1 a1 w1 hq => ?_
                obtain ⟨rfl, ρ1, hx1, hrel1, hfr1⟩ := hq
                have hA1 : ρ1 l = some (b, x) := h.sub hx1 _ _ hA
                obtain ⟨r', hblk, hst', hpd', _, hrel2⟩ := hrel1.putLoop hA1 hro hat .busy r.pending
                refine ⟨_, run_beginRound hblk (hst'.trans hst), ?_⟩
                rw [hpd'.symm] at hrel2
                have hrel2' : Rel C ρ1 (s1.put l (.loop { r with state := .busy })) (setO w1 b (.loop { r' with state := .busy })) := by
                  rw [hpd'] at hrel2; exact hpd' ▸ hrel2
                refine wpIn_mono (hs2 hb ρ1 a1 _ (Fence.wide.inRound b) (hr1 ▸ ⟨b, x, hA1, rfl⟩) hrel2' ((hg.kept hk1).kept hk2) hfr1).1 fun e2 a2 w2 hq2 => ?_
                obtain ⟨rfl, ρ2, hx2, hrel3, hfr2⟩ := hq2
                have hA2 : ρ2 l = some (b, x) := hrel2'.sub hx2 _ _ hA1
                obtain ⟨r3', hblk3, hst3, hpd3, _, hrel4⟩ := hrel3.putLoop hA2 hro hat3 (if (jumpOf ex).isNone then .ready else .done) (jumpOf ex)
                have hend := run_endRound (P := C.P) hblk3 (jumpOf ex)
                have hx : Ext s.n ρ ρ2 := hx1.trans hx2 (hk1.trans hk2).n
                cases ex with
                | normal => exact ⟨_, _, hend, _, rfl, ρ2, hx, hrel4, .flat _ rfl⟩
                | ret => exact ⟨_, _, hend, _, rfl, ρ2, hx, hrel4, .flat _ rfl⟩
                | exit id => exact ⟨_, _, hend, _, rfl, ρ2, hx, hrel4, .flat _ rfl⟩
end
theorem aop_defer {P : Program} {ro : Nat} {t : Tr} {o : Oper} {c : Call} {s s' : St} {r : AR} (hop : o.op = .defer c) (e : aop P ro t o s = some (r, s')) : ∃ d, r = .dfr d := by
  unfold aop at e
  rw [hop] at e
  simp only [adeferOp] at e
  split at e
  · split at e
    · cases e; exact ⟨_, rfl⟩
    · cases e
  · cases e
section
variable [Memo] {C : Cx} {E : Ev}
theorem acall_callable {f : FuncId} {args : List Value} {s s' : St} {v : Value} (e : acall C.P C.ro E f args s = some (v, s')) : Callable C.P f := by
  rcases acall_some e with ⟨hm, rfl⟩ | e
  · exact (mlook_sound (C := C) hm).2.1
  unfold acall0 acall1 at e
  split at e
  case h_2 => cases e
  case h_1 fn fr s1 hb =>
    obtain ⟨hf, hok, c, hc, _⟩ := abody_some hb
    exact okFunc.callable hok hf (by rw [hc]; rfl)
end
theorem putV_some {fr fr' : Fr} {dst : Option Tmp} {x : Option (Value × St)} {s' : St} (e : putV fr dst x = some (fr', s')) : ∃ v, x = some (v, s') ∧ fr' = fr.put dst v := by
  unfold putV at e
  split at e
  · cases e; exact ⟨_, rfl, rfl⟩
  · cases e
theorem Fr.put_rnd (fr : Fr) (dst : Option Tmp) (v : Value) : (fr.put dst v).rnd = fr.rnd := by cases dst <;> rfl
section
variable [Memo] {C : Cx} {E : Ev}
theorem step_sound (hE : SoundE C E) (hC : ∀ c, C.okc c = true → okCode C.P c = true) {o : Oper} {fr fr' : Fr} {s s' : St} (e : astep C.P C.ro E o fr s = some (fr', s')) (hl : s.h.length = s.n) :
    (fr'.rnd = fr.rnd ∧ Kept s s') ∧ ∀ (_ : okOp C.P o.op = true) (ρ : Rho) (a : Act) (w : World) (F : Fence) (next : Act → World → Prop) (Q : Exit → Act → World → Prop), Fen F fr.rnd ρ → Rel C ρ s w → Glob C s → FR ρ fr a →
      (∀ ρ' a' w', Ext s.n ρ ρ' → Rel C ρ' s' w' → FR ρ' fr' a' → next a' w') → o.wpIn F 0 C.P a w next Q := by
  unfold astep at e
  cases hop : aop C.P C.ro fr.t o s with
  | none => rw [hop] at e; cases e
  | some rs =>
    obtain ⟨r, s1⟩ := rs
    rw [hop] at e
    have hk1 := aop_kept hl hop
    have hcall : ∀ k as, r = .enter k as → Callable C.P k := fun k as hr => by
      subst hr
      simp only [afollow] at e
      obtain ⟨v, hv, _⟩ := putV_some e
      exact acall_callable hv
    have key : ∀ (_ : okOp C.P o.op = true) (ρ : Rho) (a : Act) (w : World), Rel C ρ s w → Glob C s → FR ρ fr a → Does C s.n ρ w (execOp a.eval o) r s1 := fun ho ρ a w h hg hfr =>
      aop_sound h hg (fun x hx => aval_sound h hfr.t x hx) ho hop hcall
    have about : ∀ (ρ : Rho) (F : Fence) (a : Act) (w : World), Fen F fr.rnd ρ → ∀ f, o.about C.P w a.eval = some f → F.fn f := fun ρ F a w hF f _ => hF.fn f
    have sem : ∀ (ρ : Rho) (F : Fence) (a : Act), Fen F fr.rnd ρ → o.semAt F.round a.eval = execOp a.eval o := fun ρ F a hF => by
      by_cases hd : ∃ c, o.op = .defer c
      · obtain ⟨c, hc⟩ := hd
        obtain ⟨d, rfl⟩ := aop_defer hc hop
        cases hrn : fr.rnd with
        | none => rw [hrn] at hF; rw [show F = Fence.wide from hF]; rfl
        | some l => simp only [afollow, adeferTo, hrn] at e; cases e
      · exact Oper.semAt_eq _ _ _ fun c hc => hd ⟨c, hc⟩
    cases r with
    | val v =>
      simp only [afollow, Option.some.injEq, Prod.mk.injEq] at e
      obtain ⟨rfl, rfl⟩ := e
      refine ⟨⟨Fr.put_rnd _ _ _, hk1⟩, fun ho ρ a w F next Q hF h hg hfr K => ⟨about ρ F a w hF, ?_⟩⟩
      rw [sem ρ F a hF]
      obtain ⟨n, ρ', w', hrun, hx, hrel, hn⟩ := key ho ρ a w h hg hfr
      rw [hrun]
      cases n <;> simp only [NR] at hn <;> try exact hn.elim
      exact K ρ' _ w' hx hrel ((hfr.mono (h.sub hx)).put _ hn)
    | skip =>
      simp only [afollow, Option.some.injEq, Prod.mk.injEq] at e
      obtain ⟨rfl, rfl⟩ := e
      refine ⟨⟨Fr.put_rnd _ _ _, hk1⟩, fun ho ρ a w F next Q hF h hg hfr K => ⟨about ρ F a w hF, ?_⟩⟩
      rw [sem ρ F a hF]
      obtain ⟨n, ρ', w', hrun, hx, hrel, hn⟩ := key ho ρ a w h hg hfr
      rw [hrun]
      cases n <;> simp only [NR] at hn <;> try exact hn.elim
      exact K ρ' _ w' hx hrel ((hfr.mono (h.sub hx)).put _ .undef)
    | enter f args =>
      simp only [afollow] at e
      obtain ⟨v, hv, rfl⟩ := putV_some e
      obtain ⟨hk2, hcs⟩ := call_sound hE hv hk1.len
      refine ⟨⟨Fr.put_rnd _ _ _, hk1.trans hk2⟩, fun ho ρ a w F next Q hF h hg hfr K => ⟨about ρ F a w hF, ?_⟩⟩
      rw [sem ρ F a hF]
      obtain ⟨n, ρ', w', hrun, hx, hrel, hn⟩ := key ho ρ a w h hg hfr
      rw [hrun]
      cases n <;> simp only [NR] at hn <;> try exact hn.elim
      rename_i f' args'
      obtain ⟨rfl, hargs⟩ := hn
      refine ⟨hF.depth, ?_⟩
      have hcw := hcs ρ' _ w' hrel (hg.kept hk1) hargs
      have hcF : CallsIn F 0 C.P f' args' w' _ := ⟨hF.fn f', fun cs hr => by
        obtain ⟨e1, w1, fr1, hR, hc1, h1, h2⟩ := hcw.2 cs (room_wide _)
        exact ⟨e1, w1, fr1, hR, (by
          have : Machine.fenced C.P F = Machine.fenced C.P Fence.wide := by
            cases hrn : fr.rnd with
            | none => rw [hrn] at hF; rw [show F = Fence.wide from hF]
            | some l => rw [hrn] at hF; obtain ⟨b, x, _, rfl⟩ := hF; rfl
          rw [this]; exact hc1), h1, h2⟩⟩
      refine CallsIn.mono hcF fun e1 w1 hq => ?_
      obtain ⟨v', rfl, ρ2, hx2, hrel2, hv2⟩ := hq
      exact K ρ2 _ w1 (hx.trans hx2 hk1.n) hrel2 ((hfr.mono ((h.sub hx).trans (hrel.sub hx2))).put _ hv2)
    | round l t assign body =>
      simp only [afollow] at e
      obtain ⟨v, hv, rfl⟩ := putV_some e
      obtain ⟨hk2, hcs⟩ := around_sound hE hv hk1.len
      refine ⟨⟨Fr.put_rnd _ _ _, hk1.trans hk2⟩, fun ho ρ a w F next Q hF h hg hfr K => ⟨about ρ F a w hF, ?_⟩⟩
      rw [sem ρ F a hF]
      obtain ⟨n, ρ', w', hrun, hx, hrel, hn⟩ := key ho ρ a w h hg hfr
      rw [hrun]
      cases n <;> simp only [NR] at hn <;> try exact hn.elim
      rename_i b f' tmps assign' body'
      obtain ⟨⟨x, hA⟩, ht, ⟨rfl, rfl⟩, hoa, hob⟩ := hn
      refine ⟨hF.depth, RoundIn.mono (hcs (hC _ hoa) (hC _ hob) ρ' b x f' tmps w' F hF.inR hA hrel (hg.kept hk1) ht) fun e1 w1 hq => ?_⟩
      obtain ⟨v', rfl, ρ2, hx2, hrel2, hv2⟩ := hq
      exact K ρ2 _ w1 (hx.trans hx2 hk1.n) hrel2 ((hfr.mono ((h.sub hx).trans (hrel.sub hx2))).put _ hv2)
    | dfr d =>
      simp only [afollow, adeferTo] at e
      cases hrn : fr.rnd with
      | some l => rw [hrn] at e; cases e
      | none =>
        rw [hrn] at e
        cases e
        refine ⟨⟨Fr.put_rnd _ _ _, hk1⟩, fun ho ρ a w F next Q hF h hg hfr K => ⟨about ρ F a w (by rw [hrn]; exact hF), ?_⟩⟩
        rw [sem ρ F a (by rw [hrn]; exact hF)]
        obtain ⟨n, ρ', w', hrun, hx, hrel, hn⟩ := key ho ρ a w h hg hfr
        rw [hrun]
        cases n <;> simp only [NR] at hn <;> try exact hn.elim
        have hfr' := hfr.mono (h.sub hx)
        rename_i d'
        have hf2 : FR ρ' { t := fr.t, ds := d :: fr.ds, rnd := none } { a with defers := d' :: a.defers } := ⟨hfr'.t, hn, hfr'.ds⟩
        exact K ρ' _ w' hx hrel (hf2.put _ .undef)
end
end Go.VE
/- Regions in their own order; control. -/
namespace Go.VE
open Go Go.RowKit
theorem VR.bool_back {ρ : Rho} {v : Value} {b : Bool} (h : VR ρ v (.bool b)) : v = .bool b := by
  cases h with
  | flat _ _ => rfl
  | any _ _ _ hb => exact absurd rfl (hb b)
theorem awanted_eq {ρ : Rho} {ops : Array Oper} {o : Oper} {t : Tr} {tmps : Array Value} (h : TR ρ t tmps) : awanted ops.toList o t = Region.wanted o (yielded ops tmps) := by
  unfold awanted Region.wanted
  cases o.guard with
  | none => rfl
  | some p =>
    obtain ⟨j, want⟩ := p
    simp only [yielded, Array.getElem?_toList]
    cases ops[j]? with
    | none => rfl
    | some g =>
      cases hd : g.dst with
      | none => simp [hd]
      | some d =>
        simp only [Option.bind_some, hd]
        have hv := h.get d
        cases hg : tmps[d]? with
        | none =>
          have hu : tmps.getD d undef = undef := by simp [Array.getD_eq_getD_getElem?, hg]
          rw [hu] at hv
          have : t.get d = undef := by
            have hh := h.has d
            have hlt : ¬ d < tmps.size := by
              intro hlt; simp [hlt] at hg
            exact Tr.get_of_not_has t d (by rw [hh]; simpa using hlt)
          rw [this]; rfl
        | some v' =>
          have hu : tmps.getD d undef = v' := by simp [Array.getD_eq_getD_getElem?, hg]
          rw [hu] at hv
          generalize t.get d = u at hv
          cases hv <;> first | rfl | skip
          case flat hf =>
            cases v' <;> first | rfl | skip
          case any hb =>
            cases v' <;> first | rfl | exact absurd rfl (hb _)
section
variable [Memo] {C : Cx} {E : Ev}
theorem ops_sound (hE : SoundE C E) (hC : ∀ c, C.okc c = true → okCode C.P c = true) (all : Array Oper) : ∀ (l : List Oper) {fr fr' : Fr} {s s' : St}, aops C.P C.ro E all.toList l fr s = some (fr', s') → s.h.length = s.n →
    (fr'.rnd = fr.rnd ∧ Kept s s') ∧ ∀ (_ : l.all (okOper C.P) = true) (ρ : Rho) (a : Act) (w : World) (F : Fence) (Q : Exit → Act → World → Prop), Fen F fr.rnd ρ → Rel C ρ s w → Glob C s → FR ρ fr a →
      (∀ ρ' a' w', Ext s.n ρ ρ' → Rel C ρ' s' w' → FR ρ' fr' a' → Q .normal a' w') → wpListIn F 0 C.P all Q l a w
  | [], fr, fr', s, s', e, hl => by
    simp only [aops_nil, Option.some.injEq, Prod.mk.injEq] at e
    obtain ⟨rfl, rfl⟩ := e
    exact ⟨⟨rfl, .refl hl⟩, fun _ ρ a w F Q hF h hg hfr K => K ρ a w (Ext.refl _ _) h hfr⟩
  | o :: r, fr, fr', s, s', e, hl => by
    simp only [aops_cons] at e
    cases hw : awanted all.toList o fr.t with
    | true =>
      rw [hw] at e
      simp only [cond_true] at e
      split at e
      case h_2 => cases e
      case h_1 fr1 s1 he =>
        obtain ⟨⟨hr1, hk1⟩, hs1⟩ := step_sound hE hC he hl
        obtain ⟨⟨hr2, hk2⟩, ih⟩ := ops_sound hE hC all r e hk1.len
        refine ⟨⟨hr2.trans hr1, hk1.trans hk2⟩, fun hok ρ a w F Q hF h hg hfr K => ?_⟩
        simp only [List.all_cons, Bool.and_eq_true] at hok
        unfold wpListIn
        rw [if_pos (by rw [← awanted_eq hfr.t]; exact hw)]
        refine hs1 hok.1 ρ a w F _ Q hF h hg hfr fun ρ1 a1 w1 hx1 hrel1 hfr1 => ?_
        exact ih hok.2 ρ1 a1 w1 F Q (hr1 ▸ hF.mono (h.sub hx1)) hrel1 (hg.kept hk1) hfr1 fun ρ2 a2 w2 hx2 hrel2 hfr2 => K ρ2 a2 w2 (hx1.trans hx2 hk1.n) hrel2 hfr2
    | false =>
      rw [hw] at e
      simp only [cond_false] at e
      obtain ⟨⟨hr2, hk2⟩, ih⟩ := ops_sound hE hC all r e hl
      refine ⟨⟨hr2.trans (Fr.put_rnd _ _ _), hk2⟩, fun hok ρ a w F Q hF h hg hfr K => ?_⟩
      simp only [List.all_cons, Bool.and_eq_true] at hok
      unfold wpListIn
      rw [if_neg (by rw [← awanted_eq hfr.t, hw]; simp)]
      refine ⟨fun f _ => hF.fn f, ih hok.2 ρ _ w F Q (by rw [Fr.put_rnd]; exact hF) h hg (hfr.put _ .undef) K⟩
def SoundD [Memo] (C : Cx) (E : Ev) : Prop :=
  ∀ ops fr s fr' s', aregion C.P C.ro E ops true fr s = some (fr', s') → s.h.length = s.n →
    (fr'.rnd = fr.rnd ∧ Kept s s') ∧ (drawOk ops = true → ops.toList.all (okOper C.P) = true → ∀ (ρ : Rho) (a : Act) (w : World) (F : Fence) (id : Nat), Fen F fr.rnd ρ → Rel C ρ s w → Glob C s → FR ρ fr a →
      (Code.region id ops true).wpIn F 0 C.P (Post C s.n ρ .normal fr' s') a w)
def noGoto (Q : Exit → Act → World → Prop) : Exit → Act → World → Prop
  | .goto _, _, _ => False
  | e, a, w => Q e a w
end
theorem wpIn_scope {F : Fence} {n : Nat} {P : Program} {c : Code} {Q : Exit → Act → World → Prop} {a : Act} {w : World} (h : c.wpIn F n P (noGoto Q) a w) : (Code.scope c).wpIn F n P Q a w := by
  intro b k cs hro hb hr
  have st : step P (lone (b.atR a (.code (.scope c) :: k)) cs w) = .next (lone (b.atR a (.code c :: .inScope c :: k)) cs w) :=
    step_lone_go (by simp [stepG, stepG.exec, Frame.atR])
  have st2 : ∀ a w, step P (lone (b.atR a (.inScope c :: k)) cs w) = .next (lone (b.atR a k) cs w) := fun a w =>
    step_lone_go (by simp [stepG, stepG.exec, Frame.atR])
  have h0 : (lone (b.atR a (.code (.scope c) :: k)) cs w).fenced P F := fenced_calm hb hr rfl
  obtain ⟨e, a₁, w₁, hq, harr⟩ := h b (.inScope c :: k) cs hro hb hr
  cases e with
  | normal => exact ⟨.normal, a₁, w₁, hq, .head h0 st (StepsIn.trans harr (.one (fenced_calm hb hr rfl) (st2 _ _)))⟩
  | exit id =>
    have hx : exitTo id (.inScope c :: k) = exitTo id k := by simp [exitTo]
    exact ⟨.exit id, a₁, w₁, hq, fun k' hk => .head h0 st (harr.1 k' (by rw [hx]; exact hk)),
      fun hr' hk => let ⟨k₁, h1, h2⟩ := harr.2 hr' (by rw [hx]; exact hk); ⟨k₁, h1, .head h0 st h2⟩⟩
  | goto l => exact hq.elim
  | ret => exact ⟨_, a₁, w₁, hq, .of_steps (.one h0 st) harr⟩
  | panic ch => exact ⟨_, a₁, w₁, hq, .of_steps (.one h0 st) harr⟩
  | outgrown => exact ⟨_, a₁, w₁, hq, .of_steps (.one h0 st) harr⟩
theorem Wp.of {F : Fence} {P : Program} {c : Code} {Q : Exit → Act → World → Prop} {a : Act} {w : World} (h : c.wpIn F 0 P Q a w) (hc : ∀ body, c ≠ .loop body) : Wp F P c Q a w :=
  ⟨h, fun body e => absurd e (hc body)⟩
theorem Post.trans [Memo] {C : Cx} {n0 n1 : Nat} {ρ ρ1 : Rho} {ex : Ex} {fr : Fr} {s : St} {e : Exit} {a : Act} {w : World} (hx : Ext n0 ρ ρ1) (hn : n0 ≤ n1) (h : Post C n1 ρ1 ex fr s e a w) : Post C n0 ρ ex fr s e a w := by
  obtain ⟨h1, ρ2, h2, h3, h4⟩ := h
  exact ⟨h1, ρ2, hx.trans h2 hn, h3, h4⟩
theorem loop_of {F : Fence} {P : Program} {c : Code} {Q : Exit → Act → World → Prop} {a : Act} {w : World} (h : LoopFrom F P c Q a w) : Wp F P (.loop c) Q a w := by
  refine ⟨fun b k cs hro hb hr => ?_, fun body e => by injection e with e; subst e; exact h⟩
  obtain ⟨e, a', w', hq, harr⟩ := h b k cs hro hb hr
  exact ⟨e, a', w', hq, .of_steps (.one (fenced_calm hb hr rfl) stepR_loop) harr⟩
theorem loop_step {F : Fence} {P : Program} {c : Code} {Q : Exit → Act → World → Prop} {a : Act} {w : World} (h : c.wpIn F 0 P (Exit.then (LoopFrom F P c Q) Q) a w) : LoopFrom F P c Q a w := by
  intro b k cs hro hb hr
  obtain ⟨e, a₁, w₁, hq, harr⟩ := h b (.inLoop c :: k) cs hro hb hr
  cases e with
  | normal =>
    obtain ⟨e₂, a₂, w₂, hq₂, harr₂⟩ := hq b k cs hro hb hr
    exact ⟨e₂, a₂, w₂, hq₂, .of_steps (StepsIn.trans harr (.one (fenced_calm hb hr rfl) stepR_inLoop)) harr₂⟩
  | exit id => exact ⟨_, a₁, w₁, hq, .pass (x := .inLoop c) rfl (fun _ _ => .inl (by simp)) harr⟩
  | goto l => exact ⟨_, a₁, w₁, hq, .pass (x := .inLoop c) rfl (fun _ _ => .inl (by simp)) harr⟩
  | ret => exact ⟨_, a₁, w₁, hq, .pass (x := .inLoop c) rfl (fun _ _ => .inl (by simp)) harr⟩
  | panic ch => exact ⟨_, a₁, w₁, hq, .pass (x := .inLoop c) rfl (fun _ _ => .inl (by simp)) harr⟩
  | outgrown => exact ⟨_, a₁, w₁, hq, .pass (x := .inLoop c) rfl (fun _ _ => .inl (by simp)) harr⟩
end Go.VE
/- A range over a function; code. -/
namespace Go.VE
open Go Go.RowKit
theorem pend_wp {F : Fence} {P : Program} {Q : Exit → Act → World → Prop} {a : Act} {w : World} {p : Option Code} {ex : Ex} : pendEx p = some ex → Q (toExit ex) a w →
    (match p with
      | none => Q .normal a w
      | some c => c.wpIn F 0 P Q a w) := by
  intro h hq
  unfold pendEx at h
  split at h
  · cases h; exact hq
  · cases h; exact wpIn_ret hq
  · cases h; exact wpIn_exit hq
  · cases h
theorem arange3_some {ro l : Nat} {fr fr' : Fr} {s s' : St} {o : Option AO} {ex : Ex} (e : arange3 ro l fr s o = some (ex, fr', s')) :
    ∃ r, o = some (.loop r) ∧ (r.state = .ready ∨ r.state = .done) ∧ pendEx r.pending = some ex ∧ ro ≤ l ∧ fr' = fr ∧ s' = s.put l (.loop { r with state := .exhausted }) := by
  unfold arange3 at e
  split at e
  case h_2 => cases e
  case h_1 r =>
    split at e
    case h_3 => cases e
    case h_1 h1 h2 =>
      obtain ⟨hro, e⟩ := bif_some e
      cases e
      exact ⟨r, rfl, .inl h1, h2, Nat.le_of_ble_eq_true hro, rfl, rfl⟩
    case h_2 h1 h2 =>
      obtain ⟨hro, e⟩ := bif_some e
      cases e
      exact ⟨r, rfl, .inr h1, h2, Nat.le_of_ble_eq_true hro, rfl, rfl⟩
section
variable [Memo] {C : Cx} {E : Ev}
theorem arange1_sound (hE : SoundE C E) {l : Nat} {fr fr' : Fr} {s s' : St} {gv : Value} {ex : Ex} (e : arange1 C.P C.ro E l fr s gv = some (ex, fr', s')) (hl : s.h.length = s.n) :
    (fr' = fr ∧ Kept s s') ∧ ∀ (ρ : Rho) (b : Nat) (x : Nat × Nat) (a0 a : Act) (w : World) (F : Fence) (g : Operand) (Q : Exit → Act → World → Prop), Fen F fr.rnd ρ → ρ l = some (b, x) → Rel C ρ s w → Glob C s → FR ρ fr a → VR ρ gv (a0.eval g) → (∀ e a w, Post C s.n ρ ex fr' s' e a w → Q e a w) →
      ∃ d f args, (resolve a0.eval (rangeCall g b) 0).run C.P w = .ok d w ∧ (invoke d.target d.args).run C.P w = .ok (.enter f args) w ∧
        CallsIn F 0 C.P f args w (rangePost F 0 C.P b Q a) := by
  unfold arange1 at e
  split at e
  case h_2 => cases e
  case h_1 k first cap =>
    unfold arange2 at e
    split at e
    case h_2 => cases e
    case h_1 v s1 hcall =>
      obtain ⟨r, hat, hst, hpd, hro, rfl, rfl⟩ := arange3_some e
      obtain ⟨hk1, hcs⟩ := call_sound hE hcall hl
      have hk2 : Kept s1 (s1.put l (.loop { r with state := .exhausted })) := .put hk1.len (St.at_lt hat) _
      refine ⟨⟨rfl, hk1.trans hk2⟩, fun ρ b x a0 a w F g Q hF hA h hg hfr hv hQ => ?_⟩
      obtain ⟨as', cs', hge, h1, h2⟩ := hv.func_real
      have hcal := acall_callable hcall
      refine ⟨{ target := .fn (.func k) cs', args := as' ++ #[.func (.yield b) #[] #[]] }, k, (as' ++ #[.func (.yield b) #[] #[]]) ++ cs', ?_, ?_, ?_⟩
      · simp only [resolve, hge, Deferred.ofValue]
        have : Array.map a0.eval #[Operand.const (Value.func (Fn.yield b) #[] #[])] = #[.func (.yield b) #[] #[]] := by simp [Act.eval]
        rw [this]; rfl
      · simp only [invoke]
        exact run_callFunc hcal _ w
      · have hargs : LR ρ (first.toList ++ (Value.func (.yield l) (.mk []) (.mk []) :: cap.toList)) ((as' ++ #[Value.func (.yield b) #[] #[]]) ++ cs').toList := by
          simp only [Array.toList_append, List.append_assoc]
          exact h1.append (LR.cons (VR.yield hA) h2)
        have hcw := hcs ρ _ w h hg hargs
        have hcF : CallsIn F 0 C.P k ((as' ++ #[Value.func (.yield b) #[] #[]]) ++ cs') w _ := ⟨hF.fn k, fun cs hr => by
          obtain ⟨e1, w1, fr1, hR, hc1, h1, h2⟩ := hcw.2 cs (room_wide _)
          exact ⟨e1, w1, fr1, hR, (by
            have : Machine.fenced C.P F = Machine.fenced C.P Fence.wide := by
              cases hrn : fr'.rnd with
              | none => rw [hrn] at hF; rw [show F = Fence.wide from hF]
              | some l => rw [hrn] at hF; obtain ⟨b, x, _, rfl⟩ := hF; rfl
            rw [this]; exact hc1), h1, h2⟩⟩
        refine CallsIn.mono hcF fun e1 w1 hq => ?_
        obtain ⟨v', rfl, ρ1, hx1, hrel1, _⟩ := hq
        have hA1 : ρ1 l = some (b, x) := h.sub hx1 _ _ hA
        obtain ⟨r', hblk, hst', hpd', _, hrel2⟩ := hrel1.putLoop hA1 hro hat .exhausted r.pending
        refine ⟨r'.pending, _, run_endLoop hblk (by rw [hst']; exact hst), ?_⟩
        rw [hpd']
        exact pend_wp hpd (hQ _ _ _ ⟨rfl, ρ1, hx1, hrel2, hfr.mono (h.sub hx1)⟩)
end
theorem run_enterLoop {P : Program} (w : World) (fn : FuncId) (tmps : Array Value) (ps : Array Tmp) (assign body : Code) : (Instr.enterLoop fn tmps ps assign body none).run P w =
    .ok ((w.alloc (.deferred (some []))).heap.size, [{ target := .collected w.heap.size, args := #[] }]) ((w.alloc (.deferred (some []))).alloc (.loop { state := .ready, pending := none, fn, tmps, params := ps, assign, body, defers := w.heap.size })) := by
  simp [Instr.enterLoop, newObj, Sem.run]
theorem run_enterIn {P : Program} {w : World} {b : Nat} {r : Loop} (h : w.heap[b]? = some (.loop r)) (fn : FuncId) (tmps : Array Value) (ps : Array Tmp) (assign body : Code) : (Instr.enterLoop fn tmps ps assign body (some b)).run P w =
    .ok (w.heap.size, []) (w.alloc (.loop { state := .ready, pending := none, fn, tmps, params := ps, assign, body, defers := r.defers })) := by
  simp [Instr.enterLoop, newObj, Sem.run, run_getLoop h]
section
variable [Memo] {C : Cx} {E : Ev}
theorem arange_sound (hE : SoundE C E) (hC : ∀ c, okCode C.P c = true → C.okc c = true) {gv : Value} {ps : Array Tmp} {assign body : Code} {fr fr' : Fr} {s s' : St} {ex : Ex} (e : arange C.P C.ro E gv ps assign body fr s = some (ex, fr', s')) (hl : s.h.length = s.n) :
    (fr'.rnd = fr.rnd ∧ Kept s s') ∧ (okCode C.P assign = true → okCode C.P body = true → ∀ (ρ : Rho) (a : Act) (w : World) (F : Fence) (g : Operand), Fen F fr.rnd ρ → Rel C ρ s w → Glob C s → FR ρ fr a → VR ρ gv (a.eval g) →
      (Code.rangeFunc g ps assign body).wpIn F 0 C.P (Post C s.n ρ ex fr' s') a w) := by
  unfold arange at e
  split at e
  case h_1 hrn =>
    have hk0 : Kept s ((s.new (.defd (some []))).new (.loop { state := .ready, pending := none, t := fr.t, params := ps.toList, assign := assign, body := body, defers := s.n })) := (Kept.new hl _).trans (Kept.new (Kept.new hl _).len _)
    obtain ⟨⟨rfl, hk1⟩, hs⟩ := arange1_sound hE e hk0.len
    refine ⟨⟨rfl, hk0.trans hk1⟩, fun hoa hob ρ a w F g hF h hg hfr hv => ?_⟩
    rw [hrn] at hF
    have hFw : F = Fence.wide := hF
    refine wpIn_rangeFunc fun fn _ => ?_
    have hr1 : Rel C (upd ρ s.n (w.heap.size, 0, 0)) (s.new (.defd (some []))) (w.alloc (.deferred (some []))) := h.new _ _ 0 (heap_alloc_self _ _) hg
    have hsub1 := h.sub_new (w.heap.size, 0, 0)
    have hg1 : C.P.globals.size ≤ (s.new (.defd (some []))).n := hg.kept (Kept.new hl _)
    let r' : Loop := { state := .ready, pending := none, fn := fn, tmps := a.tmps, params := ps, assign := assign, body := body, defers := w.heap.size }
    have hr2 := hr1.new (.loop { state := .ready, pending := none, t := fr.t, params := ps.toList, assign := assign, body := body, defers := s.n }) (.loop r') 0
      ⟨r', heap_alloc_self _ _, ⟨rfl, rfl, hfr.t.mono (hsub1.trans (hr1.sub_new _)), rfl, rfl, rfl, ⟨(0, 0), by
        rw [upd_other (by simp [St.new]), upd_same]⟩⟩, hC _ hoa, hC _ hob⟩ hg1
    have hsub2 := hsub1.trans (hr1.sub_new ((w.alloc (.deferred (some []))).heap.size, 0, 0))
    have hfr2 : FR (upd (upd ρ s.n (w.heap.size, 0, 0)) (s.new (.defd (some []))).n ((w.alloc (.deferred (some []))).heap.size, 0, 0)) { fr with ds := { target := .collected s.n, args := #[] } :: fr.ds } { a with defers := { target := .collected w.heap.size, args := #[] } :: a.defers } :=
      ⟨hfr.t.mono hsub2, ⟨(0, 0), by rw [upd_other (by simp [St.new]), upd_same]⟩, hfr.ds.mono hsub2⟩
    obtain ⟨d, f, args, h1, h2, h3⟩ := hs _ (w.alloc (.deferred (some []))).heap.size (0, 0) a _ _ F g (Post C s.n ρ ex { fr with ds := { target := .collected s.n, args := #[] } :: fr.ds } s') (by simp only [hrn]; exact hF) (upd_same _ _ _) hr2 (hg.kept hk0) hfr2 (hv.mono hsub2)
      fun e a w hq => hq.trans ((ext_new ρ s.n _).trans (ext_new _ _ _) (by simp [St.new])) hk0.n
    refine ⟨(w.alloc (.deferred (some []))).heap.size, [{ target := .collected w.heap.size, args := #[] }], _, d, _, f, args, _, ?_, h1, fun f' _ => by rw [hFw]; trivial, h2, (show Fen F none ρ from hF).depth, h3⟩
    rw [hFw]
    exact run_enterLoop _ _ _ _ _ _
  case h_2 l0 hrn =>
    unfold arangeIn at e
    split at e
    case h_2 => cases e
    case h_1 r0 hat =>
      have hk0 : Kept s (s.new (.loop { state := .ready, pending := none, t := fr.t, params := ps.toList, assign := assign, body := body, defers := r0.defers })) := Kept.new hl _
      obtain ⟨⟨rfl, hk1⟩, hs⟩ := arange1_sound hE e hk0.len
      refine ⟨⟨rfl, hk0.trans hk1⟩, fun hoa hob ρ a w F g hF h hg hfr hv => ?_⟩
      rw [hrn] at hF
      obtain ⟨b0, x0, hA0, rfl⟩ := hF
      obtain ⟨r0', hblk0, hr0, _⟩ := h.obj l0 b0 x0 _ hA0 hat
      refine wpIn_rangeFunc fun fn _ => ?_
      obtain ⟨xd, hd⟩ := hr0.defers
      let r' : Loop := { state := .ready, pending := none, fn := fn, tmps := a.tmps, params := ps, assign := assign, body := body, defers := r0'.defers }
      have hsub := h.sub_new (w.heap.size, 0, 0)
      have hr2 := h.new (.loop { state := .ready, pending := none, t := fr'.t, params := ps.toList, assign := assign, body := body, defers := r0.defers }) (.loop r') 0
        ⟨r', heap_alloc_self _ _, ⟨rfl, rfl, hfr.t.mono hsub, rfl, rfl, rfl, ⟨xd, hsub _ _ hd⟩⟩, hC _ hoa, hC _ hob⟩ hg
      obtain ⟨d, f, args, h1, h2, h3⟩ := hs _ w.heap.size (0, 0) a a _ (Fence.wide.inRound b0) g (Post C s.n ρ ex fr' s') (by rw [hrn]; exact ⟨b0, x0, hsub _ _ hA0, rfl⟩) (upd_same _ _ _) hr2 (hg.kept hk0) (hfr.mono hsub) (hv.mono hsub)
        fun e a w hq => hq.trans (ext_new ρ s.n _) hk0.n
      refine ⟨w.heap.size, [], _, d, _, f, args, _, ?_, h1, fun f' _ => trivial, h2, (show Fen (Fence.wide.inRound b0) (some l0) ρ from ⟨b0, x0, hA0, rfl⟩).depth, h3⟩
      exact run_enterIn hblk0 _ _ _ _ _
end
end Go.VE
/- Code. -/
namespace Go.VE
open Go Go.RowKit
theorem thenE_some {k : Fr → St → Option (Ex × Fr × St)} {r : Option (Ex × Fr × St)} {ex : Ex} {fr' : Fr} {s' : St} (e : thenE k r = some (ex, fr', s')) :
    (∃ fr1 s1, r = some (.normal, fr1, s1) ∧ k fr1 s1 = some (ex, fr', s')) ∨ (r = some (ex, fr', s') ∧ ex ≠ .normal) := by
  unfold thenE at e
  split at e
  · exact .inl ⟨_, _, rfl, e⟩
  · rename_i h
    exact .inr ⟨e, fun hx => by subst hx; exact h _ _ e⟩
theorem blockE_some {id : Nat} {r : Option (Ex × Fr × St)} {ex : Ex} {fr' : Fr} {s' : St} (e : blockE id r = some (ex, fr', s')) :
    (r = some (.exit id, fr', s') ∧ ex = .normal) ∨ (r = some (ex, fr', s') ∧ ex ≠ .exit id) := by
  unfold blockE at e
  split at e
  · rename_i id' fr s
    by_cases h : id' = id
    · subst h
      have hb : Nat.beq id' id' = true := Nat.beq_refl id'
      rw [hb] at e
      cases e
      exact .inl ⟨rfl, rfl⟩
    · have : Nat.beq id' id = false := by
        cases hb : Nat.beq id' id with
        | true => exact absurd (Nat.eq_of_beq_eq_true hb) h
        | false => rfl
      rw [this] at e
      cases e
      exact .inr ⟨rfl, fun hx => by injection hx with hx; exact h hx⟩
  · rename_i h
    exact .inr ⟨e, fun hx => by subst hx; exact h _ _ _ e⟩
theorem then_of {N : Act → World → Prop} {Q : Exit → Act → World → Prop} {ex : Ex} {a : Act} {w : World} (h : ex ≠ .normal) (q : Q (toExit ex) a w) : Exit.then N Q (toExit ex) a w := by
  cases ex with
  | normal => exact absurd rfl h
  | ret => exact q
  | exit id => exact q
section
variable [Memo] {C : Cx} {E : Ev}
end
theorem mapHead_some {ro : Nat} {c : Code} {fr : Fr} {s : St} {x : ML} (e : mapHead ro c fr s = some x) : ∃ id ops o, c = .seq (.region id ops false) x.rest ∧ ops.toList = o :: x.os ∧ x.all = ops.toList ∧ o.op = .next x.it false ∧ o.guard = none ∧ o.dst = x.d ∧
    ro ≤ x.I ∧ s.at x.I = some (.iter x.m x.since [] x.since) ∧ s.at x.m = some (.map x.es x.since) ∧ ∀ e ∈ x.es, e.born < x.since := by
  unfold mapHead at e
  split at e
  case h_2 => cases e
  case h_1 id ops rest =>
    cases hops : ops.toList with
    | nil => rw [hops] at e; cases e
    | cons o os =>
      rw [hops] at e
      simp only [mapHead0] at e
      split at e
      case h_2 => cases e
      case h_1 it hop hgd =>
        split at e
        case h_2 => cases e
        case h_1 I _ =>
          unfold mapHead1 at e
          split at e
          case h_2 => cases e
          case h_1 m since last hs =>
            obtain ⟨hro, e⟩ := bif_some e
            unfold mapHead2 at e
            split at e
            case h_2 => cases e
            case h_1 es clock hm =>
              obtain ⟨hb, e⟩ := bif_some e
              cases e
              simp only [Bool.and_eq_true] at hb
              obtain ⟨⟨h1, h2⟩, h3⟩ := hb
              have h1 := Nat.eq_of_beq_eq_true h1
              have h2 := Nat.eq_of_beq_eq_true h2
              subst h1; subst h2
              exact ⟨id, ops, o, rfl, hops, hops.symm, hop, hgd, rfl, Nat.le_of_ble_eq_true hro, hs, hm, fun e he => by
                have := List.all_eq_true.1 h3 e he
                rw [Nat.blt_eq] at this; exact this⟩
theorem vmerge1_some {ρ : Rho} {v u z v' : Value} (e : vmerge1 v u = some z) (h : VR ρ v v' ∨ VR ρ u v') : VR ρ z v' := by
  unfold vmerge1 at e
  cases hq : veq v u with
  | true =>
    rw [hq] at e
    cases e
    rcases h with h | h
    · exact h
    · rw [veq_eq _ _ hq]; exact h
  | false =>
    rw [hq] at e
    obtain ⟨hb, e⟩ := bif_some e
    cases e
    simp only [Bool.and_eq_true, anyOk] at hb
    have key : ∀ y, y.oneCell' = true → notB y = true → VR ρ y v' → VR ρ (.chan (some 0)) v' := fun y h1 h2 hy => by
      refine .any 0 v' (by rw [hy.oneCell]; exact h1) fun b hb => ?_
      subst hb
      rw [hy.bool_back] at h2
      cases h2
    rcases h with h | h
    · exact key _ hb.1.1 hb.1.2 h
    · exact key _ hb.2.1 hb.2.2 h
theorem mergeL_some {ρ : Rho} : ∀ {a b l v' : List Value}, mergeL a b = some l → (LR ρ a v' ∨ LR ρ b v') → LR ρ l v'
  | [], [], l, v', e, h => by
    cases e
    rcases h with h | h <;> exact h
  | a :: r, b :: m, l, v', e, h => by
    simp only [mergeL] at e
    obtain ⟨x, hx, e1⟩ := bind_some e
    obtain ⟨y, hy, rfl⟩ := Option.map_eq_some_iff.1 e1
    rcases h with h | h
    · obtain ⟨u, us, rfl, h1, h2⟩ := h.cons_inv
      exact LR.cons (vmerge1_some hx (.inl h1)) (mergeL_some hy (.inl h2))
    · obtain ⟨u, us, rfl, h1, h2⟩ := h.cons_inv
      exact LR.cons (vmerge1_some hx (.inr h1)) (mergeL_some hy (.inr h2))
  | [], _ :: _, _, _, e, _ => by cases e
  | _ :: _, [], _, _, e, _ => by cases e
theorem vmerge_some {ρ : Rho} {v u z v' : Value} (e : vmerge v u = some z) (h : VR ρ v v' ∨ VR ρ u v') : VR ρ z v' := by
  unfold vmerge at e
  split at e
  · obtain ⟨l, hl, rfl⟩ := Option.map_eq_some_iff.1 e
    rcases h with h | h
    · obtain ⟨l', rfl, hl'⟩ := h.tuple_inv
      exact VR.tupleL (mergeL_some hl (.inl hl'))
    · obtain ⟨l', rfl, hl'⟩ := h.tuple_inv
      exact VR.tupleL (mergeL_some hl (.inr hl'))
  · exact vmerge1_some e h
theorem Tr.merge_some {ρ : Rho} : ∀ {t u z : Tr}, Tr.merge t u = some z → (∀ i, z.has i = t.has i ∧ z.has i = u.has i) ∧ ∀ i v', (VR ρ (t.get i) v' ∨ VR ρ (u.get i) v') → VR ρ (z.get i) v'
  | .e, .e, z, h0 => by
    cases h0
    exact ⟨fun _ => ⟨rfl, rfl⟩, fun i v' h => by rcases h with h | h <;> exact h⟩
  | .nd v a b, .nd v2 a2 b2, z, h0 => by
    simp only [Tr.merge] at h0
    obtain ⟨y, hy, h01⟩ := bind_some h0
    obtain ⟨x, hx, h02⟩ := bind_some h01
    obtain ⟨w, hw, rfl⟩ := Option.map_eq_some_iff.1 h02
    obtain ⟨h1, h2⟩ := Tr.merge_some (ρ := ρ) hx
    obtain ⟨h3, h4⟩ := Tr.merge_some (ρ := ρ) hw
    refine ⟨fun i => ?_, fun i v' h => ?_⟩
    · cases i with
      | zero => exact ⟨rfl, rfl⟩
      | succ i => simp only [Tr.has]; cases Nat.beq (i % 2) 0; (exact h3 _); (exact h1 _)
    · cases i with
      | zero => exact vmerge_some hy h
      | succ i =>
        simp only [Tr.get_s] at h ⊢
        cases hb : Nat.beq (i % 2) 0 with
        | true => rw [hb] at h; exact h2 _ _ h
        | false => rw [hb] at h; exact h4 _ _ h
  | .e, .nd _ _ _, z, h0 => by cases h0
  | .nd _ _ _, .e, z, h0 => by cases h0
section
variable [Memo] {C : Cx} {E : Ev}
def FrLe (fr fr' : Fr) : Prop := fr'.rnd = fr.rnd ∧ (fr.ds = [] → fr'.ds = []) ∧ ∀ ρ a, fr.ds = [] → FR ρ fr a → FR ρ fr' a
end
theorem FrLe.refl (fr : Fr) : FrLe fr fr := ⟨rfl, id, fun _ _ _ h => h⟩
theorem sameEx_eq {a b : Ex} (h : sameEx a b = true) : a = b := by
  unfold sameEx at h
  split at h
  · rfl
  · rw [Nat.eq_of_beq_eq_true h]
  · cases h
theorem mall_some : ∀ {l : List (Option (Ex × Fr))} {ex : Ex} {fr : Fr} {rnd : Option Nat}, mall l = some (ex, fr) → (∀ x ∈ l, ∀ ex1 fr1, x = some (ex1, fr1) → fr1.rnd = rnd ∧ fr1.ds = []) →
    (fr.rnd = rnd ∧ fr.ds = []) ∧ ∀ x ∈ l, ∃ fr1, x = some (ex, fr1) ∧ ∀ ρ a, FR ρ fr1 a → FR ρ fr a
  | [], _, _, _, e, _ => by cases e
  | [r], ex, fr, rnd, e, hc => by
    simp only [mall] at e
    subst e
    exact ⟨hc (some (ex, fr)) (by simp) ex fr rfl, fun x hx => by simp at hx; subst hx; exact ⟨fr, rfl, fun _ _ h => h⟩⟩
  | r :: r2 :: rs, ex, fr, rnd, e, hc => by
    simp only [mall] at e
    unfold merge2 at e
    split at e
    case h_2 => cases e
    case h_1 ex1 fr1 ex2 fr2 hm =>
      obtain ⟨hs, e2⟩ := bif_some e
      obtain ⟨t, ht, e3⟩ := Option.map_eq_some_iff.1 e2
      clear e e2
      obtain rfl := sameEx_eq hs
      cases e3
      obtain ⟨⟨k1, k2⟩, k3⟩ := mall_some (rnd := rnd) hm (fun x hx => hc x (by simp at hx ⊢; exact .inr hx))
      obtain ⟨c1, c2⟩ := hc (some (ex, fr1)) (by simp) ex fr1 rfl
      have dl : ∀ {ρ : Rho} {d : List Deferred}, DL ρ [] d → DL ρ fr1.ds d := fun h => by rw [c2]; exact h
      refine ⟨⟨c1, c2⟩, fun x hx => ?_⟩
      rcases List.mem_cons.1 hx with rfl | hx
      · exact ⟨fr1, rfl, fun ρ a h => ⟨⟨fun i => by rw [((Tr.merge_some (ρ := ρ) ht).1 i).1]; exact h.t.has i, fun i => (Tr.merge_some ht).2 i _ (.inl (h.t.get i))⟩, h.ds⟩⟩
      · obtain ⟨fr3, rfl, h3⟩ := k3 x hx
        refine ⟨fr3, rfl, fun ρ a h => ?_⟩
        have h4 := h3 ρ a h
        exact ⟨⟨fun i => by rw [((Tr.merge_some (ρ := ρ) ht).1 i).2]; exact h4.t.has i, fun i => (Tr.merge_some ht).2 i _ (.inr (h4.t.get i))⟩, dl (by have := h4.ds; rw [k2] at this; exact this)⟩
theorem MR.filter {ρ : Rho} {p : Nat → Bool} {l l' : List MapEntry} (h : MR ρ l l') : MR ρ (l.filter fun e => p e.born) (l'.filter fun e => p e.born) := by
  induction h with
  | nil => exact .nil
  | cons h _ ih =>
    simp only [List.filter_cons]
    rw [h.born]
    split
    · exact .cons h ih
    · exact ih
theorem MR.nth {ρ : Rho} {l l' : List MapEntry} (h : MR ρ l l') : ∀ {i : Nat} {e' : MapEntry}, l'[i]? = some e' → ∃ e, l[i]? = some e ∧ ER ρ e e' := by
  induction h with
  | nil => intro i e hi; simp at hi
  | cons h _ ih =>
    intro i e hi
    cases i with
    | zero => simp at hi; subst hi; exact ⟨_, rfl, h⟩
    | succ i => exact ih (by simpa using hi)
theorem run_setIter {P : Program} {w : World} {b : Nat} {m : Option Nat} {a c : Nat} {q : Array Nat} (h : w.heap[b]? = some (.mapIter m a q c)) (o : Obj) : (setObj b o).run P w = .ok () (setO w b o) := by simp [setObj, Sem.run, setO, h]
theorem run_next {P : Program} {w : World} {b m : Nat} {since : Nat} {seen : List Nat} {es : Array MapEntry} (hb : w.heap[b]? = some (.mapIter (some m) since seen.toArray since)) (hm : w.heap[m]? = some (.map es since)) (hlt : ∀ e ∈ es.toList, e.born < since) (ty : TypeId) :
    ∃ w1, (w1 = w ∨ w1 = w.drew) ∧ ((es.toList.filter (fun e => !seen.contains e.born) = [] ∧ (Instr.next (.pointer (some ⟨b, 0, none⟩)) false ty).run P w = .ok (.tuple #[.bool false]) w1) ∨
      ∃ (i : Nat) (e : MapEntry), (es.toList.filter (fun e => !seen.contains e.born))[i]? = some e ∧ (Instr.next (.pointer (some ⟨b, 0, none⟩)) false ty).run P w = .ok (.tuple #[.bool true, e.key, e.val]) (setO w1 b (.mapIter (some m) since (seen ++ [e.born]).toArray since))) := by
  have hg1 : (getObj b).run P w = .ok (.mapIter (some m) since seen.toArray since) w := by simp [getObj, Sem.run, hb]
  have hg2 := run_getMap (P := P) hm
  have hcond : (!seen.toArray.isEmpty && !es.isEmpty && es.all (fun e => decide (e.born ≥ since))) = false := by
    cases hes : es.toList with
    | nil =>
      have : es = #[] := by apply Array.ext'; exact hes
      subst this
      simp
    | cons e l =>
      have h1 := hlt e (by rw [hes]; simp)
      have : es.all (fun e => decide (e.born ≥ since)) = false := by
        rw [← Array.all_toList, hes]
        simp only [List.all_cons, Bool.and_eq_false_imp, decide_eq_true_eq]
        intro h; omega
      rw [this]; simp
  generalize hL : es.filter (fun e => !seen.toArray.contains e.born) = left
  have hLl : es.toList.filter (fun e => !seen.contains e.born) = left.toList := by
    rw [← hL, Array.toList_filter]
    congr 1
    funext e
    simp
  have hall : ∀ e ∈ left.toList, e.born < since := fun e he => by
    rw [← hLl] at he
    exact hlt e (List.mem_filter.1 he).1
  have hold : left.filter (fun e => decide (e.born < since)) = left := by
    apply Array.ext'
    rw [Array.toList_filter, List.filter_eq_self.2]
    intro e he
    simpa using hall e he
  have hnew : left.filter (fun e => decide (e.born ≥ since)) = #[] := by
    apply Array.ext'
    rw [Array.toList_filter, List.filter_eq_nil_iff.2]
    intro e he
    have := hall e he
    simp; omega
  rw [hLl]
  have hrun : (Instr.next (.pointer (some ⟨b, 0, none⟩)) false ty).run P w = (do
      match ((if left.isEmpty then #[none] else #[]) ++ (left ++ #[]).map some)[← choose (.mapNext ((if left.isEmpty then #[none] else #[]) ++ (left ++ #[]).map some).size)]? with
      | some (some e) =>
        setObj b (.mapIter (some m) since (seen.toArray.push e.born) since)
        pure (.tuple #[.bool true, e.key, e.val])
      | some none => pure (.tuple #[.bool false])
      | none => stuck "Next: no such candidate" : Sem Value).run P w := by
    unfold Instr.next
    simp only [Sem.run_bind, hg1, Result.andThen_ok, hg2, hcond, Bool.false_eq_true, if_false, hL, hold, hnew]
    rfl
  rw [hrun]
  cases hl : left.toList with
  | nil =>
    have hle : left = #[] := by apply Array.ext'; exact hl
    subst hle
    refine ⟨w, .inl rfl, .inl ⟨rfl, ?_⟩⟩
    simp [Question.forced]
  | cons e0 l0 =>
    have hne : left.isEmpty = false := by
      cases h : left.isEmpty with
      | false => rfl
      | true => simp at h; subst h; simp at hl
    rw [← hl]
    have hcand : ((if left.isEmpty then #[none] else #[]) ++ (left ++ #[]).map some) = left.map some := by rw [hne]; simp
    rw [hcand]
    have hsz : 0 < left.size := by rw [← Array.length_toList, hl]; simp
    have fin : ∀ (i : Nat) (w1 : World), i < left.size → (w1 = w ∨ w1 = w.drew) → ∃ e, left.toList[i]? = some e ∧ ((match (left.map some)[i]? with
        | some (some e) => do
          setObj b (.mapIter (some m) since (seen.toArray.push e.born) since)
          pure (.tuple #[.bool true, e.key, e.val])
        | some none => pure (.tuple #[.bool false])
        | none => stuck "Next: no such candidate" : Sem Value)).run P w1 = .ok (.tuple #[.bool true, e.key, e.val]) (setO w1 b (.mapIter (some m) since (seen ++ [e.born]).toArray since)) := fun i w1 hi hw => by
      have hb1 : w1.heap[b]? = some (.mapIter (some m) since seen.toArray since) := by rcases hw with rfl | rfl <;> exact hb
      have hge : left[i]? = some left[i] := Array.getElem?_eq_getElem hi
      refine ⟨left[i], by rw [Array.getElem?_toList]; exact hge, ?_⟩
      simp [hge, run_setIter hb1]
    by_cases hf : (Question.mapNext (left.map some).size).forced = true
    · obtain ⟨e, h1, h2⟩ := fin 0 w hsz (.inl rfl)
      refine ⟨w, .inl rfl, .inr ⟨0, e, h1, ?_⟩⟩
      simp only [Sem.run_bind, run_choose, hf, if_true, Result.andThen_ok]
      exact h2
    · have hi : (Question.mapNext (left.map some).size).cut (w.tape w.drawn (Question.mapNext (left.map some).size)) < left.size := by
        simp only [Question.cut, Array.size_map]
        exact Nat.mod_lt _ hsz
      obtain ⟨e, h1, h2⟩ := fin _ w.drew hi (.inr rfl)
      refine ⟨w.drew, .inr rfl, .inr ⟨_, e, h1, ?_⟩⟩
      simp only [Sem.run_bind, run_choose, hf]
      exact h2
theorem sI_at {x : ML} {s : St} {seen : List Nat} (hl : s.h.length = s.n) (hI : x.I < s.n) (A : Nat) : (sI x s seen).at A = if A = x.I then some (.iter x.m x.since seen x.since) else s.at A := by
  have : (sI x s seen).at A = (s.put x.I (.iter x.m x.since seen x.since)).at A := rfl
  rw [this, St.at_put s hl _ _ _ hI]
section
variable [Memo] {C : Cx} {E : Ev}
theorem next_wp {x : ML} {s : St} {seen : List Nat} {ρ : Rho} {w : World} {a : Act} {fr : Fr} {F : Fence} {o : Oper} (hl : s.h.length = s.n) (hro : C.ro ≤ x.I) (hsI : s.at x.I = some (.iter x.m x.since [] x.since)) (hsm : s.at x.m = some (.map x.es x.since))
    (hborn : ∀ e ∈ x.es, e.born < x.since) (ho : o.op = .next x.it false) (hok : okX C.P x.it = true) (hF : Fen F fr.rnd ρ) (h : Rel C ρ (sI x s seen) w) (hfr : FR ρ fr a) (hit : isIt (aval fr.t x.it) x.I = true) {K : Act → World → Prop} {Q : Exit → Act → World → Prop}
    (k0 : leftOf x.es seen = [] → ∀ w1, Rel C ρ (sI x s seen) w1 → K (a.put o.dst (.tuple #[.bool false])) w1)
    (k1 : ∀ e ∈ leftOf x.es seen, ∀ k' v' w1, Rel C ρ (sI x s (seen ++ [e.born])) w1 → VR ρ (nextVal (some e)) (.tuple #[.bool true, k', v']) → K (a.put o.dst (.tuple #[.bool true, k', v'])) w1) :
    o.wpIn F 0 C.P a w K Q := by
  have hIn := St.at_lt hsI
  have hne : x.m ≠ x.I := fun e => by rw [e, hsI] at hsm; cases hsm
  have hv := aval_sound h hfr.t x.it hok
  have hp : aval fr.t x.it = .pointer (some ⟨x.I, 0, none⟩) := by
    unfold isIt at hit
    split at hit
    · rename_i A I hq
      rw [Nat.eq_of_beq_eq_true hit] at hq
      exact hq
    · cases hit
  rw [hp] at hv
  obtain ⟨b, y, hI, hb⟩ := hv.ptr_inv
  have hy := h.sh x.I b y hro hI
  rw [hy, Nat.add_zero] at hb
  have h1 : (sI x s seen).at x.I = some (.iter x.m x.since seen x.since) := by rw [sI_at hl hIn, if_pos rfl]
  have h2 : (sI x s seen).at x.m = some (.map x.es x.since) := by rw [sI_at hl hIn, if_neg hne]; exact hsm
  obtain ⟨m', ym, hm, hblk⟩ := h.obj x.I b y _ hI h1
  obtain ⟨es', hblk2, hmr⟩ := h.obj x.m m' ym _ hm h2
  have hb' : ∀ e ∈ es'.toList, e.born < x.since := fun e he => by
    obtain ⟨i, hi⟩ := List.getElem?_of_mem he
    obtain ⟨e0, h3, h4⟩ := hmr.nth hi
    rw [h4.born]
    exact hborn e0 (List.mem_of_getElem? h3)
  have hmf := hmr.filter (p := fun b => !seen.contains b)
  obtain ⟨w1, hw1, hr⟩ := run_next (P := C.P) hblk hblk2 hb' o.type
  have hrel1 : Rel C ρ (sI x s seen) w1 := by
    rcases hw1 with rfl | rfl
    · exact h
    · exact h.drew
  refine ⟨fun f _ => hF.fn f, ?_⟩
  have hnd : ∀ c, o.op ≠ .defer c := fun c hc => by rw [ho] at hc; cases hc
  rw [Oper.semAt_eq _ _ _ hnd]
  have hexec : execOp a.eval o = (do pure (.value (← Instr.next (a.eval x.it) false o.type))) := by simp [execOp, ho]
  rw [hexec, hb]
  rcases hr with ⟨hnil, hrun⟩ | ⟨i, e', hi, hrun⟩
  · have hnil' : leftOf x.es seen = [] := by
      have := hmf.len
      rw [hnil] at this
      exact List.eq_nil_of_length_eq_zero this.symm
    have := k0 hnil' w1 hrel1
    simp only [Sem.run_bind, hrun, Result.andThen_ok, Sem.run_pure]
    exact this
  · obtain ⟨e, he, her⟩ := hmf.nth hi
    have hlt := hrel1.lt _ _ _ hI
    have hrel2 : Rel C ρ (sI x s (seen ++ [e.born])) (setO w1 b (.mapIter (some m') x.since (seen ++ [e'.born]).toArray x.since)) := by
      have := hrel1.putObj (o2 := .iter x.m x.since (seen ++ [e.born]) x.since) hI hro h1 (by simp) ⟨m', ym, hm, by rw [← her.born]; exact setO_same _ hlt⟩
      refine (this.more (s0 := sI x s (seen ++ [e.born])) (Nat.le_refl _) (by simp [sI, St.put, hl]) fun A hA => ?_)
      have e1 : ((sI x s seen).put x.I (.iter x.m x.since (seen ++ [e.born]) x.since)).at A = if A = x.I then some (.iter x.m x.since (seen ++ [e.born]) x.since) else (sI x s seen).at A := St.at_put _ (by simp [sI, St.put, hl]) _ _ _ hIn
      rw [e1, sI_at hl hIn]
      by_cases hA2 : A = x.I
      · rw [if_pos hA2, if_pos hA2]
      · rw [if_neg hA2, if_neg hA2, sI_at hl hIn, if_neg hA2]
    have := k1 e (List.mem_of_getElem? he) e'.key e'.val _ hrel2 (VR.tupleL (LR.cons (.flat _ rfl) (LR.cons (by rw [her.key]; exact .flat _ her.kf) (LR.cons her.val LR.nil))))
    simp only [Sem.run_bind, hrun, Result.andThen_ok, Sem.run_pure]
    exact this
end
theorem mchk_some {n : Nat} {r : Option (Ex × Fr × St)} {ex : Ex} {fr : Fr} (e : mchk n r = some (ex, fr)) : ∃ s1, r = some (ex, fr, s1) ∧ s1.n = n ∧ n ≤ s1.lo ∧ fr.ds = [] := by
  unfold mchk at e
  split at e
  case h_2 => cases e
  case h_1 ex1 fr1 s1 =>
    obtain ⟨hb, e⟩ := bif_some e
    cases e
    simp only [Bool.and_eq_true] at hb
    exact ⟨s1, rfl, Nat.eq_of_beq_eq_true hb.1.1, Nat.le_of_ble_eq_true hb.1.2, by simpa using hb.2⟩
theorem normalOf_some {r : Option (Fr × St)} {ex : Ex} {fr : Fr} {s : St} (e : normalOf r = some (ex, fr, s)) : ex = .normal ∧ r = some (fr, s) := by
  unfold normalOf at e
  split at e
  · cases e; exact ⟨rfl, rfl⟩
  · cases e
section
variable [Memo] {C : Cx} {E : Ev}
theorem mrun_sound (hE : SoundE C E) (hC1 : ∀ c, C.okc c = true → okCode C.P c = true) {x : ML} {s : St} {ops : Array Oper} {seen : List Nat} {en : Option MapEntry} {fr frr : Fr} {ex : Ex} (hall : x.all = ops.toList) (hl : s.h.length = s.n)
    (e : mrun C.P C.ro E x s seen en fr = some (ex, frr)) : (frr.rnd = fr.rnd ∧ frr.ds = []) ∧ (x.os.all (okOper C.P) = true → okCode C.P x.rest = true → ∀ (ρ : Rho) (a : Act) (w : World) (F : Fence) (QQ : Exit → Act → World → Prop),
      Fen F fr.rnd ρ → Rel C ρ (sI x s seen) w → Glob C s → FR ρ (fr.put x.d (nextVal en)) a → (∀ a' w', Rel C ρ (sI x s seen) w' → FR ρ frr a' → QQ (toExit ex) a' w') →
        wpListIn F 0 C.P ops (Exit.then (x.rest.wpIn F 0 C.P QQ) QQ) x.os a w) := by
  unfold mrun at e
  obtain ⟨s2, e, hn, hlo, hds⟩ := mchk_some e
  have hl0 : (sI x s seen).h.length = (sI x s seen).n := by simp [sI, St.put, hl]
  rcases thenE_some e with ⟨fr1, s1, he1, he2⟩ | ⟨he, hne⟩
  · obtain ⟨_, he1⟩ := normalOf_some he1
    rw [hall] at he1
    obtain ⟨⟨hr1, hk1⟩, hs1⟩ := ops_sound hE hC1 ops _ he1 hl0
    obtain ⟨⟨hr2, hk2⟩, hs2⟩ := hE _ _ _ _ _ _ he2 hk1.len
    refine ⟨⟨hr2.trans (hr1.trans (Fr.put_rnd _ _ _)), hds⟩, fun hok1 hok2 ρ a w F QQ hF h hg hfr hQ => ?_⟩
    refine hs1 hok1 ρ a w F _ (by rw [Fr.put_rnd]; exact hF) h hg hfr fun ρ1 a1 w1 hx1 hrel1 hfr1 => ?_
    show x.rest.wpIn F 0 C.P QQ a1 w1
    refine wpIn_mono (hs2 hok2 ρ1 a1 w1 F (by rw [hr1, Fr.put_rnd]; exact hF.mono (h.sub hx1)) hrel1 (Nat.le_trans hg hk1.n) hfr1).1 fun e2 a2 w2 hq => ?_
    obtain ⟨rfl, ρ2, hx2, hrel2, hfr2⟩ := hq
    have hρ : ρ2 = ρ := by
      funext A
      by_cases hA : A < s.n
      · exact (hx2 A (Nat.lt_of_lt_of_le hA hk1.n)).trans (hx1 A hA)
      · have h1 : ρ A = none := by
          cases hp : ρ A with
          | none => rfl
          | some p => exact absurd (h.dom A p hp) hA
        have h2 : ρ2 A = none := by
          cases hp : ρ2 A with
          | none => rfl
          | some p => exact absurd (hn ▸ hrel2.dom A p hp) hA
        rw [h1, h2]
    subst hρ
    refine hQ a2 w2 (hrel2.more (by rw [hn]; exact Nat.le_refl _) hl0 fun A hA => ?_) hfr2
    rw [hn] at hA
    exact ((hk1.trans hk2).same A hA (Nat.lt_of_lt_of_le hA hlo)).symm
  · obtain ⟨h, _⟩ := normalOf_some he
    exact absurd h hne
theorem mtree_sound (hE : SoundE C E) (hC1 : ∀ c, C.okc c = true → okCode C.P c = true) {x : ML} {s : St} {id : Nat} {ops : Array Oper} {o : Oper} (hops : ops.toList = o :: x.os) (hall : x.all = ops.toList) (hl : s.h.length = s.n) (hro : C.ro ≤ x.I)
    (hsI : s.at x.I = some (.iter x.m x.since [] x.since)) (hsm : s.at x.m = some (.map x.es x.since)) (hborn : ∀ e ∈ x.es, e.born < x.since) (ho : o.op = .next x.it false) (hgd : o.guard = none) (hdst : o.dst = x.d) :
    ∀ (f : Nat) (seen : List Nat) (fr : Fr) (ex : Ex) (frO : Fr), mtree C.P C.ro E x s f seen fr = some (ex, frO) → (frO.rnd = fr.rnd ∧ frO.ds = []) ∧ (okCode C.P (.seq (.region id ops false) x.rest) = true → ∀ (ρ : Rho) (a : Act) (w : World) (F : Fence),
      Fen F fr.rnd ρ → Rel C ρ (sI x s seen) w → Glob C s → FR ρ fr a → LoopFrom F C.P (.seq (.region id ops false) x.rest) (Post C s.n ρ ex frO (s.put x.I .dead)) a w) := by
  have hIn := St.at_lt hsI
  intro f
  induction f with
  | zero => intro seen fr ex frO e; cases e
  | succ f ih =>
    intro seen fr ex frO e
    simp only [mtree] at e
    obtain ⟨hit, e⟩ := bif_some e
    -- the parts of the body
    have parts : okCode C.P (.seq (.region id ops false) x.rest) = true → okX C.P x.it = true ∧ x.os.all (okOper C.P) = true ∧ okCode C.P x.rest = true := fun hok => by
      simp only [okCode, Bool.and_eq_true] at hok
      obtain ⟨⟨h1, _⟩, h2⟩ := hok
      rw [hops] at h1
      simp only [List.all_cons, Bool.and_eq_true] at h1
      refine ⟨?_, h1.2, h2⟩
      have := h1.1
      simp only [okOper, ho, okOp] at this
      exact this
    have start : ∀ {ρ : Rho} {a : Act} {w : World} {F : Fence} {QF : Exit → Act → World → Prop},
        o.wpIn F 0 C.P a w (fun a w => wpListIn F 0 C.P ops (Exit.then (x.rest.wpIn F 0 C.P (Exit.then (LoopFrom F C.P (.seq (.region id ops false) x.rest) QF) QF)) (Exit.then (LoopFrom F C.P (.seq (.region id ops false) x.rest) QF) QF)) x.os a w)
          (Exit.then (x.rest.wpIn F 0 C.P (Exit.then (LoopFrom F C.P (.seq (.region id ops false) x.rest) QF) QF)) (Exit.then (LoopFrom F C.P (.seq (.region id ops false) x.rest) QF) QF)) →
        LoopFrom F C.P (.seq (.region id ops false) x.rest) QF a w := fun {ρ a w F QF} h => by
      refine loop_step (wpIn_seq (wpIn_region_list ?_))
      rw [hops]
      unfold wpListIn
      rw [if_pos (by unfold Region.wanted; rw [hgd])]
      exact h
    have dead : ∀ {ρ : Rho} {w : World} {seen : List Nat}, Rel C ρ (sI x s seen) w → Rel C ρ (s.put x.I .dead) w := fun {ρ w seen} h => by
      refine (h.putDead (A := x.I) hIn).more (Nat.le_refl _) (by simp [St.put, hl]) fun A hA => ?_
      have e1 : ((sI x s seen).put x.I .dead).at A = if A = x.I then some .dead else (sI x s seen).at A := St.at_put _ (by simp [sI, St.put, hl]) _ _ _ hIn
      rw [St.at_put s hl _ _ _ hIn, e1, sI_at hl hIn]
      by_cases hA2 : A = x.I
      · rw [if_pos hA2, if_pos hA2]
      · rw [if_neg hA2, if_neg hA2, if_neg hA2]
    split at e
    case h_1 hnil =>
      unfold mleaf at e
      split at e
      case h_1 => cases e
      case h_2 hnn =>
        obtain ⟨hp, hs⟩ := mrun_sound hE hC1 hall hl e
        refine ⟨hp, fun hok ρ a w F hF h hg hfr => start (ρ := ρ) ?_⟩
        obtain ⟨h1, h2, h3⟩ := parts hok
        refine next_wp hl hro hsI hsm hborn ho h1 hF h hfr hit (fun _ w1 hrel1 => ?_) fun e he => by rw [hnil] at he; cases he
        refine hs h2 h3 ρ _ w1 F _ hF hrel1 hg (hdst ▸ hfr.put o.dst (.flat _ rfl)) fun a' w' hrel' hfr' => ?_
        exact then_of (fun hx => by subst hx; exact hnn _ e) ⟨rfl, ρ, Ext.refl _ _, dead hrel', hfr'⟩
    case h_2 e0 l0 hleft =>
      have each : ∀ en ex1 fr1, mnext (mtree C.P C.ro E x s f (seen ++ [en.born])) (mrun C.P C.ro E x s (seen ++ [en.born]) (some en) fr) = some (ex1, fr1) → fr1.rnd = fr.rnd ∧ fr1.ds = [] := fun en ex1 fr1 h => by
        unfold mnext at h
        split at h
        · rename_i fr2 hm
          obtain ⟨⟨hp1, hp2⟩, _⟩ := mrun_sound hE hC1 hall hl hm
          obtain ⟨⟨hq1, hq2⟩, _⟩ := ih _ _ _ _ h
          exact ⟨hq1.trans hp1, hq2⟩
        · exact (mrun_sound hE hC1 hall hl h).1
      obtain ⟨hp, hm⟩ := mall_some (rnd := fr.rnd) e fun y hy ex1 fr1 hy1 => by
        obtain ⟨en, _, rfl⟩ := List.mem_map.1 hy
        exact each en ex1 fr1 hy1
      refine ⟨hp, fun hok ρ a w F hF h hg hfr => start (ρ := ρ) ?_⟩
      obtain ⟨h1, h2, h3⟩ := parts hok
      refine next_wp hl hro hsI hsm hborn ho h1 hF h hfr hit (fun hnil => by rw [hleft] at hnil; cases hnil) fun en hen k' v' w1 hrel1 hv => ?_
      obtain ⟨fr1, hmn, hle⟩ := hm _ (List.mem_map.2 ⟨en, by rw [← hleft]; exact hen, rfl⟩)
      have hfr1 : FR ρ (fr.put x.d (nextVal (some en))) (a.put o.dst (.tuple #[.bool true, k', v'])) := hdst ▸ hfr.put o.dst hv
      unfold mnext at hmn
      split at hmn
      · rename_i fr2 hmr
        obtain ⟨⟨hp1, _⟩, hs⟩ := mrun_sound hE hC1 hall hl hmr
        refine hs h2 h3 ρ _ w1 F _ hF hrel1 hg hfr1 fun a' w' hrel' hfr' => ?_
        show LoopFrom F C.P _ _ a' w'
        have := (ih _ _ _ _ hmn).2 hok ρ a' w' F (hp1 ▸ hF) hrel' hg hfr'
        intro b k cs hro' hb hr
        obtain ⟨e2, a2, w2, ⟨hq1, ρ2, hq2, hq3, hq4⟩, harr⟩ := this b k cs hro' hb hr
        exact ⟨e2, a2, w2, ⟨hq1, ρ2, hq2, hq3, hle _ _ hq4⟩, harr⟩
      · rename_i hnn
        obtain ⟨_, hs⟩ := mrun_sound hE hC1 hall hl hmn
        refine hs h2 h3 ρ _ w1 F _ hF hrel1 hg hfr1 fun a' w' hrel' hfr' => ?_
        exact then_of (fun hx => by subst hx; exact hnn _ hmn) ⟨rfl, ρ, Ext.refl _ _, dead hrel', hle _ _ hfr'⟩
theorem code_sound (hE : SoundE C E) (hD : SoundD C E) (hC : ∀ c, C.okc c = okCode C.P c) : SoundE C (acode C.P C.ro E) := by
  have hC1 : ∀ c, C.okc c = true → okCode C.P c = true := fun c h => (hC c) ▸ h
  have hC2 : ∀ c, okCode C.P c = true → C.okc c = true := fun c h => (hC c).trans h
  intro c fr s ex fr' s' e hl
  cases c with
  | skip =>
    cases e
    exact ⟨⟨rfl, .refl hl⟩, fun _ ρ a w F hF h hg hfr => Wp.of (wpIn_skip ⟨rfl, ρ, Ext.refl _ _, h, hfr⟩) (by simp)⟩
  | label l =>
    cases e
    exact ⟨⟨rfl, .refl hl⟩, fun _ ρ a w F hF h hg hfr => Wp.of (wpIn_label ⟨rfl, ρ, Ext.refl _ _, h, hfr⟩) (by simp)⟩
  | goto l => cases e
  | refuse r => cases e
  | exit id =>
    cases e
    exact ⟨⟨rfl, .refl hl⟩, fun _ ρ a w F hF h hg hfr => Wp.of (wpIn_exit ⟨rfl, ρ, Ext.refl _ _, h, hfr⟩) (by simp)⟩
  | ret =>
    cases e
    exact ⟨⟨rfl, .refl hl⟩, fun _ ρ a w F hF h hg hfr => Wp.of (wpIn_ret ⟨rfl, ρ, Ext.refl _ _, h, hfr⟩) (by simp)⟩
  | region id ops draw =>
    simp only [acode, normalOf] at e
    split at e
    case h_2 => cases e
    case h_1 fr1 s1 he =>
      cases e
      cases draw with
      | false =>
        obtain ⟨hk, hs⟩ := ops_sound hE hC1 ops _ he hl
        refine ⟨hk, fun hok ρ a w F hF h hg hfr => Wp.of (wpIn_region_list (hs ?_ ρ a w F _ hF h hg hfr fun ρ' a' w' hx hrel hfr' => ⟨rfl, ρ', hx, hrel, hfr'⟩)) (by simp)⟩
        simp only [okCode, Bool.and_eq_true] at hok
        exact hok.1
      | true =>
        obtain ⟨hk, hs⟩ := hD ops fr s _ _ he hl
        refine ⟨hk, fun hok ρ a w F hF h hg hfr => Wp.of ?_ (by simp)⟩
        simp only [okCode, Bool.and_eq_true, Bool.not_true, Bool.false_or] at hok
        exact hs hok.2 hok.1 ρ a w F id hF h hg hfr
  | seq x y =>
    simp only [acode] at e
    rcases thenE_some e with ⟨fr1, s1, he1, he2⟩ | ⟨he, hne⟩
    · obtain ⟨⟨hr1, hk1⟩, hs1⟩ := hE _ _ _ _ _ _ he1 hl
      obtain ⟨⟨hr2, hk2⟩, hs2⟩ := hE _ _ _ _ _ _ he2 hk1.len
      refine ⟨⟨hr2.trans hr1, hk1.trans hk2⟩, fun hok ρ a w F hF h hg hfr => Wp.of (wpIn_seq ?_) (by simp)⟩
      simp only [okCode, Bool.and_eq_true] at hok
      refine wpIn_mono (hs1 hok.1 ρ a w F hF h hg hfr).1 fun e1 a1 w1 hq => ?_
      obtain ⟨rfl, ρ1, hx1, hrel1, hfr1⟩ := hq
      exact wpIn_mono (hs2 hok.2 ρ1 a1 w1 F (hr1 ▸ hF.mono (h.sub hx1)) hrel1 (hg.kept hk1) hfr1).1 fun e2 a2 w2 hq2 => hq2.trans hx1 hk1.n
    · obtain ⟨⟨hr1, hk1⟩, hs1⟩ := hE _ _ _ _ _ _ he hl
      refine ⟨⟨hr1, hk1⟩, fun hok ρ a w F hF h hg hfr => Wp.of (wpIn_seq ?_) (by simp)⟩
      simp only [okCode, Bool.and_eq_true] at hok
      refine wpIn_mono (hs1 hok.1 ρ a w F hF h hg hfr).1 fun e1 a1 w1 hq => ?_
      obtain ⟨rfl, hq⟩ := hq
      exact then_of hne ⟨rfl, hq⟩
  | cond x p q =>
    simp only [acode] at e
    generalize hv : aval fr.t x = v at e
    unfold condE at e
    split at e
    case h_1 =>
      obtain ⟨hk, hs⟩ := hE _ _ _ _ _ _ e hl
      refine ⟨hk, fun hok ρ a w F hF h hg hfr => Wp.of ?_ (by simp)⟩
      simp only [okCode, Bool.and_eq_true] at hok
      have hx := aval_sound h hfr.t x hok.1
      rw [hv] at hx
      exact wpIn_cond_true hx.bool_inv (hs hok.2.1 ρ a w F hF h hg hfr).1
    case h_2 =>
      obtain ⟨hk, hs⟩ := hE _ _ _ _ _ _ e hl
      refine ⟨hk, fun hok ρ a w F hF h hg hfr => Wp.of ?_ (by simp)⟩
      simp only [okCode, Bool.and_eq_true] at hok
      have hx := aval_sound h hfr.t x hok.1
      rw [hv] at hx
      exact wpIn_cond_false hx.bool_inv (hs hok.2.2 ρ a w F hF h hg hfr).1
    case h_3 => cases e
  | block id x =>
    simp only [acode] at e
    rcases blockE_some e with ⟨he, rfl⟩ | ⟨he, hne⟩
    · obtain ⟨hk, hs⟩ := hE _ _ _ _ _ _ he hl
      refine ⟨hk, fun hok ρ a w F hF h hg hfr => Wp.of (wpIn_block ?_) (by simp)⟩
      refine wpIn_mono (hs hok ρ a w F hF h hg hfr).1 fun e1 a1 w1 hq => ?_
      obtain ⟨rfl, hq⟩ := hq
      simp only [toExit, Exit.inBlock, if_true]
      exact ⟨rfl, hq⟩
    · obtain ⟨hk, hs⟩ := hE _ _ _ _ _ _ he hl
      refine ⟨hk, fun hok ρ a w F hF h hg hfr => Wp.of (wpIn_block ?_) (by simp)⟩
      refine wpIn_mono (hs hok ρ a w F hF h hg hfr).1 fun e1 a1 w1 hq => ?_
      obtain ⟨rfl, hq⟩ := hq
      cases ex with
      | normal => exact ⟨rfl, hq⟩
      | ret => exact ⟨rfl, hq⟩
      | exit id' =>
        have : ¬ id' = id := fun h => hne (by rw [h])
        simp only [toExit, Exit.inBlock, if_neg this]
        exact ⟨rfl, hq⟩
  | loop x =>
    simp only [acode] at e
    unfold aloop at e
    split at e
    case h_1 ml hml =>
      obtain ⟨r, hr, e⟩ := Option.map_eq_some_iff.1 e
      obtain ⟨ex1, frO⟩ := r
      cases e
      obtain ⟨id, ops, o, rfl, hops, hall, ho, hgd, hdst, hro, hsI, hsm, hborn⟩ := mapHead_some hml
      have hIn := St.at_lt hsI
      obtain ⟨⟨hp1, _⟩, hs⟩ := mtree_sound (id := id) hE hC1 hops hall hl hro hsI hsm hborn ho hgd hdst _ _ _ _ _ hr
      refine ⟨⟨hp1, .put hl hIn _⟩, fun hok ρ a w F hF h hg hfr => loop_of (hs hok ρ a w F hF ?_ hg hfr)⟩
      refine h.more (Nat.le_refl _) (by simp [sI, St.put, hl]) fun A _ => ?_
      rw [sI_at hl hIn]
      by_cases hA2 : A = ml.I
      · rw [if_pos hA2, hA2, hsI]
      · rw [if_neg hA2]
    case h_2 =>
    rcases thenE_some e with ⟨fr1, s1, he1, he2⟩ | ⟨he, hne⟩
    · obtain ⟨⟨hr1, hk1⟩, hs1⟩ := hE _ _ _ _ _ _ he1 hl
      obtain ⟨⟨hr2, hk2⟩, hs2⟩ := hE _ _ _ _ _ _ he2 hk1.len
      refine ⟨⟨hr2.trans hr1, hk1.trans hk2⟩, fun hok ρ a w F hF h hg hfr => loop_of (loop_step ?_)⟩
      refine wpIn_mono (hs1 hok ρ a w F hF h hg hfr).1 fun e1 a1 w1 hq => ?_
      obtain ⟨rfl, ρ1, hx1, hrel1, hfr1⟩ := hq
      intro b k cs hro hb hr
      obtain ⟨e2, a2, w2, hq2, harr⟩ := (hs2 hok ρ1 a1 w1 F (hr1 ▸ hF.mono (h.sub hx1)) hrel1 (hg.kept hk1) hfr1).2 x rfl b k cs hro hb hr
      exact ⟨e2, a2, w2, hq2.trans hx1 hk1.n, harr⟩
    · obtain ⟨⟨hr1, hk1⟩, hs1⟩ := hE _ _ _ _ _ _ he hl
      refine ⟨⟨hr1, hk1⟩, fun hok ρ a w F hF h hg hfr => loop_of (loop_step ?_)⟩
      refine wpIn_mono (hs1 hok ρ a w F hF h hg hfr).1 fun e1 a1 w1 hq => ?_
      obtain ⟨rfl, hq⟩ := hq
      exact then_of hne ⟨rfl, hq⟩
  | rangeFunc g ps assign body =>
    simp only [acode] at e
    obtain ⟨hk, hs⟩ := arange_sound hE hC2 e hl
    refine ⟨hk, fun hok ρ a w F hF h hg hfr => Wp.of ?_ (by simp)⟩
    simp only [okCode, Bool.and_eq_true] at hok
    exact hs hok.2.1 hok.2.2 ρ a w F g hF h hg hfr (aval_sound h hfr.t g hok.1)
  | scope x =>
    obtain ⟨hk, hs⟩ := hE _ _ _ _ _ _ e hl
    refine ⟨hk, fun hok ρ a w F hF h hg hfr => Wp.of (wpIn_scope ?_) (by simp)⟩
    refine wpIn_mono (hs hok ρ a w F hF h hg hfr).1 fun e1 a1 w1 hq => ?_
    obtain ⟨rfl, hq⟩ := hq
    cases ex <;> exact ⟨rfl, hq⟩
end
end Go.VE
/- What an operation's answer depends on. -/
namespace Go.VE
open Go Go.RowKit
theorem avals_congr {t t2 : Tr} : ∀ (l : List Operand), (∀ x ∈ l, aval t2 x = aval t x) → avals t2 l = avals t l
  | [], _ => rfl
  | x :: r, h => by simp only [avals]; rw [h x (by simp), avals_congr r fun y hy => h y (by simp [hy])]
theorem partVals_congr {t t2 : Tr} : ∀ (l : List (Nat × Operand)), (∀ p ∈ l, aval t2 p.2 = aval t p.2) → partVals t2 l = partVals t l
  | [], _ => rfl
  | (i, x) :: r, h => by simp only [partVals]; rw [h (i, x) (by simp), partVals_congr r fun y hy => h y (by simp [hy])]
theorem opt_congr {t t2 : Tr} (x : Option Operand) (h : ∀ y, x = some y → aval t2 y = aval t y) : x.map (aval t2) = x.map (aval t) := by
  cases x with
  | none => rfl
  | some y => simp [h y rfl]
theorem flatO_congr {t t2 : Tr} (x : Option Operand) (h : ∀ y, x = some y → aval t2 y = aval t y) : flatO t2 x = flatO t x := by
  cases x with
  | none => rfl
  | some y => simp [flatO, h y rfl]
theorem aop_congr {P : Program} {ro : Nat} {t t2 : Tr} {o : Oper} {s : St} (h : ∀ x ∈ o.op.operands, aval t2 x = aval t x) : aop P ro t2 o s = aop P ro t o s := by
  have hp : (∀ cs b, o.op ≠ .select cs b) → apure P t2 o = apure P t o := fun hs => by unfold apure; rw [execOp_congr o hs h]
  unfold aop
  cases hop : o.op <;> rw [hop] at h hp <;> simp only [Op.operands] at h
  case move x => simp only [h x (by simp)]
  case assign x => simp only [h x (by simp)]
  case pick c a b => simp only [h c (by simp), h a (by simp), h b (by simp)]
  case box e x => simp only [h x (by simp)]
  case build ty ps => simp only [partVals_congr ps.toList fun p hp => h p.2 (by simp; exact ⟨p.1, by simpa using hp⟩)]
  case buildSlice ty n ps => simp only [partVals_congr ps.toList fun p hp => h p.2 (by simp; exact ⟨p.1, by simpa using hp⟩)]
  case load ty a => simp only [h a (by simp)]
  case store ty a x => simp only [h a (by simp), h x (by simp)]
  case nilCheck x => simp only [h x (by simp)]
  case binOp op ty x y z => simp only [h x (by simp), h y (by simp), abin, hp (by simp)]
  case unOp op ty x => simp only [h x (by simp), anot, aun, hp (by simp)]
  case convert a b x => simp only [h x (by simp), aconv, aun, hp (by simp)]
  case makeFunc fn a c => simp only [amk, avals_congr a.toList fun x hx => h x (by simp; exact .inl (by simpa using hx)), avals_congr c.toList fun x hx => h x (by simp; exact .inr (by simpa using hx))]
  case makeSlice ty l c => simp only [h l (by simp), h c (by simp)]
  case slice ty x lo hi mx =>
    have h1 : ∀ y, lo = some y → aval t2 y = aval t y := fun y hy => h y (by subst hy; simp)
    have h2 : ∀ y, hi = some y → aval t2 y = aval t y := fun y hy => h y (by subst hy; simp)
    have h3 : ∀ y, mx = some y → aval t2 y = aval t y := fun y hy => h y (by subst hy; simp)
    simp only [h x (by simp), asl, flatO_congr lo h1, flatO_congr hi h2, flatO_congr mx h3, opt_congr lo h1, opt_congr hi h2, opt_congr mx h3, hp (by simp)]
  case fieldAddr ty x f => simp only [h x (by simp)]
  case field ty x f => simp only [h x (by simp)]
  case indexAddr ty x i => simp only [h x (by simp), h i (by simp)]
  case insert ty m k v => simp only [h m (by simp), h k (by simp), h v (by simp)]
  case mapUpdate ty m k v => simp only [h m (by simp), h k (by simp), h v (by simp)]
  case lookup ty x i ok => simp only [h x (by simp), h i (by simp)]
  case range ty x => simp only [h x (by simp)]
  case entry x => simp only [h x (by simp)]
  case sliceToArrayPointer ty x => simp only [h x (by simp)]
  case index ty x i => simp only [h x (by simp), h i (by simp), aix, hp (by simp)]
  case extract x i => simp only [h x (by simp)]
  case call c =>
    have ha : avals t2 c.args.toList = avals t c.args.toList := avals_congr _ fun x hx => h x (by simp [Call.operands]; exact .inr (by simpa using hx))
    simp only [acallOp]
    cases hc : c.callee with
    | builtin b => simp only [abuiltin, ha, hp (by simp), alenOp]
    | value f => simp only [ha, h f (by simp [Call.operands, hc])]
    | invoke r m => rfl
  case defer c =>
    simp only [adeferOp]
    cases hc : c.callee with
    | builtin b => rfl
    | value f =>
      have ha : c.args.map (aval t2) = c.args.map (aval t) := Array.map_congr_left fun x hx => h x (by simp [Call.operands, hx])
      simp only [h f (by simp [Call.operands, hc]), ha]
    | invoke r m => rfl
def Free (f : St → Option (AR × St)) : Prop := ∀ s r s', f s = some (r, s') → s' = s ∧ (∃ v, r = .val v) ∧ ∀ s2, f s2 = some (r, s2)
theorem free_with (x : Option Value) : Free fun s => withSt s x := fun s r s' h => by
  obtain ⟨v, rfl, rfl, rfl⟩ := withSt_some h
  exact ⟨rfl, ⟨v, rfl⟩, fun _ => rfl⟩
theorem free_none : Free fun _ => none := fun s r s' h => by cases h
theorem free_val (v : Value) : Free fun s => some (.val v, s) := fun s r s' h => by cases h; exact ⟨rfl, ⟨v, rfl⟩, fun _ => rfl⟩
theorem apure_val {P : Program} {t : Tr} {o : Oper} {r : AR} (h : apure P t o = some r) : ∃ v, r = .val v := by
  unfold apure at h
  split at h
  · unfold purely at h
    obtain ⟨_, h⟩ := bif_some h
    cases h; exact ⟨_, rfl⟩
  · cases h
theorem free_res (P : Program) (t : Tr) (o : Oper) : Free fun s => resSt s (apure P t o) := fun s r s' h => by
  obtain ⟨h1, rfl⟩ := resSt_some h
  obtain ⟨v, rfl⟩ := apure_val h1
  exact ⟨rfl, ⟨v, rfl⟩, fun s2 => by simp only [h1]; rfl⟩
theorem Free.bif {f g : St → Option (AR × St)} (b : Bool) (hf : Free f) (hg : Free g) : Free fun s => bif b then f s else g s := by
  cases b
  · exact hg
  · exact hf
theorem aop_free {P : Program} {ro : Nat} {t : Tr} {o : Oper} (hk : kindOf o = .pure) : Free fun s => aop P ro t o s := by
  unfold kindOf at hk
  split at hk
  case h_1 => cases hg : o.guard.isNone <;> rw [hg] at hk <;> cases hk
  case h_2 =>
  cases hop : o.op <;> simp only [hop, okind] at hk <;> (try cases hk) <;> simp only [aop, hop]
  case move x => exact free_val _
  case assign x => exact free_val _
  case pick c a b =>
    simp only [apick]
    generalize aval t c = v
    split
    · exact free_val _
    · exact free_val _
    · exact free_none
  case build => exact free_with _
  case nilCheck x =>
    generalize aval t x = v
    unfold anilCheck
    split
    · exact free_val _
    · exact free_val _
    · exact free_none
  case binOp op ty x y z =>
    unfold abin
    split
    · exact free_with _
    · exact Free.bif _ (free_res _ _ _) (free_with _)
  case unOp op ty x =>
    unfold anot
    split
    · exact free_val _
    · exact Free.bif _ (free_res _ _ _) free_none
  case makeFunc => exact Free.bif _ (free_val _) free_none
  case slice => exact Free.bif _ (Free.bif _ (free_res _ _ _) free_none) (free_with _)
  case fieldAddr => exact free_with _
  case field => exact free_with _
  case indexAddr => exact free_with _
  case sliceToArrayPointer => exact free_with _
  case index ty x i =>
    unfold aix
    split
    · exact free_with _
    · exact Free.bif _ (free_res _ _ _) free_none
  case extract x i =>
    unfold aextract
    split
    · exact free_with _
    · exact free_none
  case call c =>
    unfold acallOp
    split at hk <;> (try cases hk) <;> rename_i hc <;> simp only [hc, abuiltin]
    · unfold alenOp
      split
      · split
        · exact free_val _
        · exact Free.bif _ (free_res _ _ _) free_none
      · exact Free.bif _ (free_res _ _ _) free_none
    · unfold acapOp
      split
      · split
        · exact Free.bif _ (free_val _) free_none
        · exact free_none
      · exact free_none
    · exact Free.bif _ (free_res _ _ _) free_none
    · exact Free.bif _ (free_res _ _ _) free_none
theorem aun_some {P : Program} {t : Tr} {o : Oper} {s s' : St} {x : Value} {r : AR} (e : aun P t o s x = some (r, s')) : s' = s ∧ (∃ v, r = .val v) ∧ ∀ s2, aun P t o s2 x = some (r, s2) := by
  unfold aun at e ⊢
  cases hf : flat' x with
  | false => rw [hf] at e; cases e
  | true =>
    rw [hf] at e
    simp only [cond_true] at e ⊢
    obtain ⟨h1, h2⟩ := resSt_some e
    refine ⟨h2, apure_val h1, fun s2 => ?_⟩
    rw [h1]; rfl
theorem aop_load_val {P : Program} {ro : Nat} {t : Tr} {o : Oper} {s s' : St} {r : AR} (hk : kindOf o = .load) (e : aop P ro t o s = some (r, s')) : ∃ v, r = .val v := by
  unfold kindOf at hk
  split at hk
  case h_1 => cases hg : o.guard.isNone <;> rw [hg] at hk <;> cases hk
  case h_2 =>
  cases hop : o.op <;> simp only [hop, okind] at hk <;> (try cases hk) <;> simp only [aop, hop] at e
  case load ty a =>
    obtain ⟨v, _, rfl, rfl⟩ := withSt_some e
    exact ⟨v, rfl⟩
  case lookup ty x i ok =>
    obtain ⟨v, _, rfl, rfl⟩ := withSt_some e
    exact ⟨v, rfl⟩
  case convert src dst x =>
    unfold aconv at e
    split at e
    · split at e
      · obtain ⟨_, e⟩ := bif_some e
        obtain ⟨v, _, rfl, rfl⟩ := withSt_some e
        exact ⟨v, rfl⟩
      · cases e
    · split at e
      · unfold newBytes at e
        split at e
        · cases e; exact ⟨_, rfl⟩
        · cases e
      · exact (aun_some e).2.1
    · exact (aun_some e).2.1
  case call c => split at hk <;> cases hk
theorem aop_load {P : Program} {ro : Nat} {t : Tr} {o : Oper} {s s' : St} {r : AR} (hk : kindOf o = .load) (e : aop P ro t o s = some (r, s')) (hn : s'.n = s.n) : s' = s ∧ ∃ v, r = .val v := by
  unfold kindOf at hk
  split at hk
  case h_1 => cases hg : o.guard.isNone <;> rw [hg] at hk <;> cases hk
  case h_2 =>
  cases hop : o.op <;> simp only [hop, okind] at hk <;> (try cases hk) <;> simp only [aop, hop] at e
  case load ty a =>
    obtain ⟨v, _, rfl, rfl⟩ := withSt_some e
    exact ⟨rfl, v, rfl⟩
  case lookup ty x i ok =>
    obtain ⟨v, _, rfl, rfl⟩ := withSt_some e
    exact ⟨rfl, v, rfl⟩
  case convert src dst x =>
    unfold aconv at e
    split at e
    · split at e
      · obtain ⟨_, e⟩ := bif_some e
        obtain ⟨v, _, rfl, rfl⟩ := withSt_some e
        exact ⟨rfl, v, rfl⟩
      · cases e
    · split at e
      · unfold newBytes at e
        split at e
        · cases e; simp [St.new] at hn
        · cases e
      · exact ⟨(aun_some e).1, (aun_some e).2.1⟩
    · exact ⟨(aun_some e).1, (aun_some e).2.1⟩
  case call c => split at hk <;> cases hk
def ND (x : Option (AR × St)) : Prop := ∀ d s', x ≠ some (.dfr d, s')
theorem nd_none : ND none := fun _ _ h => by cases h
theorem nd_with (s : St) (x : Option Value) : ND (withSt s x) := fun d s' h => by obtain ⟨v, _, h, _⟩ := withSt_some h; cases h
theorem nd_valSt (x : Option (Value × St)) : ND (valSt x) := fun d s' h => by obtain ⟨v, _, h⟩ := valSt_some h; cases h
theorem nd_val (v : Value) (s : St) : ND (some (.val v, s)) := fun d s' h => by cases h
theorem nd_skip (x : Option St) : ND (skipSt x) := fun d s' h => by cases x <;> cases h
theorem nd_res (P : Program) (t : Tr) (o : Oper) (s : St) : ND (resSt s (apure P t o)) := fun d s' h => by
  obtain ⟨h1, _⟩ := resSt_some h
  obtain ⟨v, h2⟩ := apure_val h1
  cases h2
theorem ND.bif {f g : Option (AR × St)} (b : Bool) (hf : ND f) (hg : ND g) : ND (bif b then f else g) := by
  cases b
  · exact hg
  · exact hf
theorem aop_nd {P : Program} {ro : Nat} {t : Tr} {o : Oper} {s : St} (hd : isDefer o.op = false) : ND (aop P ro t o s) := by
  unfold aop
  split <;> first | exact nd_with _ _ | exact nd_valSt _ | exact nd_val _ _ | exact nd_skip _ | exact nd_none | skip
  · unfold apick; split <;> first | exact nd_val _ _ | exact nd_none
  · unfold aalloc
    split
    · split
      · exact ND.bif _ (nd_val _ _) nd_none
      · exact nd_none
    · exact nd_none
  · unfold anilCheck; split <;> first | exact nd_val _ _ | exact nd_none
  · unfold abin; split
    · exact nd_with _ _
    · exact ND.bif _ (nd_res _ _ _ _) (nd_with _ _)
  · unfold anot; split
    · exact nd_val _ _
    · exact ND.bif _ (nd_res _ _ _ _) nd_none
  · unfold aconv
    split
    · split
      · exact ND.bif _ (nd_with _ _) nd_none
      · exact nd_none
    · split
      · unfold newBytes
        split
        · exact nd_val _ _
        · exact nd_none
      · exact ND.bif _ (nd_res _ _ _ _) nd_none
    · exact ND.bif _ (nd_res _ _ _ _) nd_none
  · exact ND.bif _ (nd_val _ _) nd_none
  · exact ND.bif _ (ND.bif _ (nd_res _ _ _ _) nd_none) (nd_with _ _)
  · unfold aix; split
    · exact nd_with _ _
    · exact ND.bif _ (nd_res _ _ _ _) nd_none
  · unfold amakeMap; split
    · exact nd_val _ _
    · exact nd_none
  · unfold arangeMap; split
    · split
      · exact nd_val _ _
      · exact nd_none
    · exact nd_none
  · unfold aextract; split
    · exact nd_with _ _
    · exact nd_none
  · unfold acallOp; split
    · unfold abuiltin; split <;> first | exact nd_valSt _ | exact nd_none | exact ND.bif _ (nd_res _ _ _ _) nd_none | skip
      · unfold alenOp; split
        · split
          · exact nd_val _ _
          · exact ND.bif _ (nd_res _ _ _ _) nd_none
        · exact ND.bif _ (nd_res _ _ _ _) nd_none
      · unfold acapOp; split
        · split
          · exact ND.bif _ (nd_val _ _) nd_none
          · exact nd_none
        · exact nd_none
    · unfold acallee; split
      · intro d s' h; cases h
      · unfold ayield; split
        · exact ND.bif _ (fun d s' h => by cases h) nd_none
        · exact nd_none
      · exact nd_none
    · exact nd_none
  · rename_i hop; rw [hop] at hd; cases hd
theorem astep_congr [Memo] {P : Program} {ro : Nat} {E : Ev} {o : Oper} (hd : isDefer o.op = false) {fr fr' : Fr} {s s' : St} (e : astep P ro E o fr s = some (fr', s')) :
    ∃ v, fr' = fr.put o.dst v ∧ ∀ fr2 : Fr, (∀ x ∈ o.op.operands, aval fr2.t x = aval fr.t x) → astep P ro E o fr2 s = some (fr2.put o.dst v, s') := by
  unfold astep at e
  cases hop : aop P ro fr.t o s with
  | none => rw [hop] at e; cases e
  | some rs =>
    obtain ⟨r, s1⟩ := rs
    rw [hop] at e
    have key : ∀ fr2 : Fr, (∀ x ∈ o.op.operands, aval fr2.t x = aval fr.t x) → astep P ro E o fr2 s = afollow P ro E o.dst fr2 (some (r, s1)) := fun fr2 h => by
      unfold astep; rw [aop_congr h, hop]
    cases r with
    | val v => cases e; exact ⟨v, rfl, fun fr2 h => key fr2 h⟩
    | skip => cases e; exact ⟨undef, rfl, fun fr2 h => key fr2 h⟩
    | enter f args =>
      simp only [afollow] at e key
      obtain ⟨v, hv, rfl⟩ := putV_some e
      exact ⟨v, rfl, fun fr2 h => by rw [key fr2 h, hv]; rfl⟩
    | round l t a b =>
      simp only [afollow] at e key
      obtain ⟨v, hv, rfl⟩ := putV_some e
      exact ⟨v, rfl, fun fr2 h => by rw [key fr2 h, hv]; rfl⟩
    | dfr d =>
      exact absurd hop (aop_nd hd d s1)
end Go.VE
/- A region that draws its order: what its checks say. -/
namespace Go.VE
open Go Go.RowKit
theorem nthN_eq : ∀ (l : List Nat) (i : Nat), nthN l i = l.getD i 0
  | [], _ => rfl
  | _ :: _, 0 => rfl
  | _ :: r, i + 1 => by simp only [nthN, nthN_eq r i]; simp
theorem maskOf_bit {ms : List Nat} {i : Nat} : ∀ {es : List Edge}, (maskOf ms es).testBit i = true → ∃ e ∈ es, Region.binds .any e = true ∧ (i = e.on ∨ (nthN ms e.on).testBit i = true)
  | [], h => by simp [maskOf] at h
  | e :: r, h => by
    simp only [maskOf] at h
    cases hb : Region.binds .any e with
    | true =>
      rw [hb] at h
      simp only [cond_true, Nat.testBit_or, Bool.or_eq_true] at h
      rcases h with (h | h) | h
      · exact ⟨e, by simp, hb, .inr h⟩
      · rw [Nat.one_shiftLeft, Nat.testBit_two_pow] at h
        exact ⟨e, by simp, hb, .inl (by simpa using h : e.on = i).symm⟩
      · obtain ⟨e', h1, h2⟩ := maskOf_bit h
        exact ⟨e', by simp [h1], h2⟩
    | false =>
      rw [hb] at h
      obtain ⟨e', h1, h2⟩ := maskOf_bit h
      exact ⟨e', by simp [h1], h2⟩
theorem masksGo_spec : ∀ (l : List Oper) (ms : List Nat), ∃ r, masksGo l ms = ms ++ r ∧ r.length = l.length ∧ ∀ q o, l[q]? = some o → r.getD q 0 = maskOf ((ms ++ r).take (ms.length + q)) o.after.toList
  | [], ms => ⟨[], by simp [masksGo], rfl, fun q o h => by simp at h⟩
  | o :: l, ms => by
    obtain ⟨r, h1, h2, h3⟩ := masksGo_spec l (ms ++ [maskOf ms o.after.toList])
    refine ⟨maskOf ms o.after.toList :: r, by simp [masksGo, h1], by simp [h2], fun q o' h => ?_⟩
    cases q with
    | zero =>
      simp only [List.getElem?_cons_zero, Option.some.injEq] at h
      subst h
      simp
    | succ q =>
      simp only [List.getElem?_cons_succ] at h
      have := h3 q o' h
      simp only [List.getD_cons_succ]
      rw [this]
      simp only [List.append_assoc, List.singleton_append, List.length_append, List.length_cons, List.length_nil]
      congr 2
      omega
theorem masks_eq {l : List Oper} {j : Nat} {o : Oper} (h : l[j]? = some o) : nthN (masks l) j = maskOf ((masks l).take j) o.after.toList := by
  obtain ⟨r, h1, h2, h3⟩ := masksGo_spec l []
  have := h3 j o h
  simp only [List.nil_append, List.length_nil, Nat.zero_add] at h1 this
  rw [nthN_eq]
  unfold masks
  rw [h1]
  exact this
theorem nthN_take {l : List Nat} {j k i : Nat} (h : (nthN (l.take j) k).testBit i = true) : k < j ∧ (nthN l k).testBit i = true := by
  rw [nthN_eq, List.getD_eq_getElem?_getD] at h
  by_cases hk : k < j
  · rw [List.getElem?_take_of_lt hk] at h
    rw [nthN_eq, List.getD_eq_getElem?_getD]
    exact ⟨hk, h⟩
  · rw [List.getElem?_take_eq_none (by omega)] at h
    simp at h
def Closed (l : List Oper) (In : Nat → Prop) : Prop := ∀ j o, In j → l[j]? = some o → ∀ e ∈ o.after.toList, Region.binds .any e = true → In e.on
theorem closed_mask {l : List Oper} {In : Nat → Prop} (hC : Closed l In) : ∀ (j : Nat) (o : Oper), l[j]? = some o → (∀ e ∈ o.after.toList, Region.binds .any e = true → In e.on) → ∀ i, (nthN (masks l) j).testBit i = true → In i := by
  intro j
  induction j using Nat.strongRecOn with
  | _ j ih =>
    intro o ho he i hb
    rw [masks_eq ho] at hb
    obtain ⟨e, h1, h2, h3⟩ := maskOf_bit hb
    rcases h3 with rfl | h3
    · exact he e h1 h2
    · obtain ⟨hlt, h4⟩ := nthN_take h3
      have hj : j < l.length := (List.getElem?_eq_some_iff.1 ho).1
      have ho' : l[e.on]? = some (l[e.on]'(by omega)) := List.getElem?_eq_getElem (by omega)
      exact ih e.on hlt _ ho' (hC _ _ (he e h1 h2) ho') i h4
theorem opersOk_spec {all : List Oper} {ms : List Nat} : ∀ (l : List Oper) (j : Nat), opersOk all ms l j = true → ∀ q o, l[q]? = some o → operOk all ms (j + q) o = true
  | [], _, _, q, o, h => by simp at h
  | o' :: r, j, e, q, o, h => by
    simp only [opersOk, Bool.and_eq_true] at e
    cases q with
    | zero => simp only [List.getElem?_cons_zero, Option.some.injEq] at h; subst h; exact e.1
    | succ q =>
      simp only [List.getElem?_cons_succ] at h
      have := opersOk_spec r (j + 1) e.2 q o h
      rw [show j + (q + 1) = j + 1 + q by omega]; exact this
theorem edges_lt {j : Nat} {es : List Edge} (h : edgesOk j es = true) {e : Edge} (he : e ∈ es) (hb : Region.binds .any e = true) : e.on < j := by
  unfold edgesOk at h
  have := List.all_eq_true.1 h e he
  rw [hb] at this
  simpa using this
theorem writersIn_spec {ms : List Nat} {j t : Nat} : ∀ (l : List Oper) (i : Nat), writersIn ms j t l i = true → ∀ q o, l[q]? = some o → o.dst = some t →
    (nthN ms j).testBit (i + q) = true ∨ (i + q = j ∨ (nthN ms (i + q)).testBit j = true)
  | [], _, _, q, o, h, _ => by simp at h
  | o' :: r, i, e, q, o, h, hd => by
    simp only [writersIn, Bool.and_eq_true] at e
    cases q with
    | zero =>
      simp only [List.getElem?_cons_zero, Option.some.injEq] at h; subst h
      rw [hd] at e
      simp only [Nat.beq_refl, cond_true, Bool.or_eq_true] at e
      rcases e.1 with h1 | h2 | h2
      · exact .inl h1
      · exact .inr (.inl (Nat.eq_of_beq_eq_true h2))
      · exact .inr (.inr h2)
    | succ q =>
      simp only [List.getElem?_cons_succ] at h
      have := writersIn_spec r (i + 1) e.2 q o h hd
      rw [show i + (q + 1) = i + 1 + q by omega]; exact this
theorem dstNe_spec {o q : Oper} (h : dstNe o q = true) {d : Tmp} (h1 : o.dst = some d) (h2 : q.dst = some d) : False := by
  unfold dstNe at h
  rw [h1, h2] at h
  simp [Nat.beq_refl] at h
theorem dstApart_spec : ∀ (l : List Oper), dstApart l = true → ∀ (i j : Nat) (o q : Oper) (d : Tmp), i < j → l[i]? = some o → l[j]? = some q → o.dst = some d → q.dst ≠ some d
  | [], _, i, j, o, q, d, _, h, _, _ => by simp at h
  | x :: r, e, i, j, o, q, d, hij, h1, h2, hd => by
    simp only [dstApart, Bool.and_eq_true] at e
    cases j with
    | zero => omega
    | succ j =>
      simp only [List.getElem?_cons_succ] at h2
      cases i with
      | zero =>
        simp only [List.getElem?_cons_zero, Option.some.injEq] at h1; subst h1
        intro hq
        exact dstNe_spec (List.all_eq_true.1 e.1 q (List.mem_of_getElem? h2)) hd hq
      | succ i =>
        simp only [List.getElem?_cons_succ] at h1
        exact dstApart_spec r e.2 i j o q d (by omega) h1 h2 hd
theorem dst_unique {l : List Oper} (h : dstApart l = true) {i j : Nat} {o q : Oper} {d : Tmp} (h1 : l[i]? = some o) (h2 : l[j]? = some q) (hd : o.dst = some d) (hd' : q.dst = some d) : i = j := by
  rcases Nat.lt_trichotomy i j with h3 | h3 | h3
  · exact absurd hd' (dstApart_spec l h i j o q d h3 h1 h2 hd)
  · exact h3
  · exact absurd hd (dstApart_spec l h j i q o d h3 h2 h1 hd')
theorem subset_spec {a b i : Nat} (h : subset a b = true) (hi : a.testBit i = true) : b.testBit i = true := by
  unfold subset at h
  have h := Nat.eq_of_beq_eq_true h
  have : (a &&& b).testBit i = true := by rw [h]; exact hi
  rw [Nat.testBit_and, Bool.and_eq_true] at this
  exact this.2
theorem bit_or {d i x : Nat} : (d ||| (1 <<< i)).testBit x = true ↔ d.testBit x = true ∨ x = i := by
  rw [Nat.testBit_or, Bool.or_eq_true, Nat.one_shiftLeft, Nat.testBit_two_pow]
  simp only [decide_eq_true_eq]
  constructor
  · rintro (h | h)
    · exact .inl h
    · exact .inr h.symm
  · rintro (h | h)
    · exact .inl h
    · exact .inr h.symm
theorem orderOk_spec {ms : List Nat} {n : Nat} : ∀ (l : List (Nat × Oper)) (d : Nat), orderOk ms n l d = true →
    (∀ i, i < n → d.testBit i = true ∨ ∃ x ∈ l, x.1 = i) ∧ (∀ pre x post, l = pre ++ x :: post → ∀ i, (nthN ms x.1).testBit i = true → d.testBit i = true ∨ ∃ y ∈ pre, y.1 = i) ∧
      l.Pairwise (fun x y => x.1 ≠ y.1) ∧ ∀ x ∈ l, d.testBit x.1 = false
  | [], d, h => by
    simp only [orderOk] at h
    have h := Nat.eq_of_beq_eq_true h
    subst h
    refine ⟨fun i hi => .inl (by rw [Nat.testBit_two_pow_sub_one]; simpa using hi), fun pre x post h => ?_, List.Pairwise.nil, fun x hx => by cases hx⟩
    cases pre <;> cases h
  | (j, o) :: r, d, h => by
    simp only [orderOk, Bool.and_eq_true, Bool.not_eq_true'] at h
    obtain ⟨h1, h2, h3⟩ := h
    obtain ⟨c1, c2, c3, c4⟩ := orderOk_spec r _ h3
    have hn : ∀ x ∈ r, d.testBit x.1 = false ∧ x.1 ≠ j := fun x hx => by
      have := c4 x hx
      constructor
      · cases hb : d.testBit x.1 with
        | false => rfl
        | true =>
          have h9 : (d ||| (1 <<< j)).testBit x.1 = true := bit_or.2 (.inl hb)
          rw [this] at h9; cases h9
      · intro hj
        have h9 : (d ||| (1 <<< j)).testBit x.1 = true := bit_or.2 (.inr hj)
        rw [this] at h9; cases h9
    refine ⟨fun i hi => ?_, fun pre x post hl i hb => ?_, List.pairwise_cons.2 ⟨fun y hy => fun he => (hn y hy).2 he.symm, c3⟩, fun x hx => ?_⟩
    · rcases c1 i hi with h4 | ⟨x, hx, rfl⟩
      · rcases bit_or.1 h4 with h5 | h5
        · exact .inl h5
        · exact .inr ⟨(j, o), by simp, h5.symm⟩
      · exact .inr ⟨x, by simp [hx], rfl⟩
    · cases pre with
      | nil =>
        simp only [List.nil_append, List.cons.injEq] at hl
        obtain ⟨rfl, rfl⟩ := hl
        exact .inl (subset_spec h1 hb)
      | cons y pre =>
        simp only [List.cons_append, List.cons.injEq] at hl
        obtain ⟨rfl, hl⟩ := hl
        rcases c2 pre x post hl i hb with h4 | ⟨y, hy, rfl⟩
        · rcases bit_or.1 h4 with h5 | h5
          · exact .inl h5
          · exact .inr ⟨(j, o), by simp, h5.symm⟩
        · exact .inr ⟨y, by simp [hy], rfl⟩
    · rcases List.mem_cons.1 hx with rfl | hx
      · exact h2
      · exact (hn x hx).1
theorem sched1_mem {ms : List Nat} : ∀ (l : List (Nat × Oper)) (d : Nat) (p : List (Nat × Oper)) (d' : Nat) (q : List (Nat × Oper)), sched1 ms l d = (p, d', q) → (∀ x ∈ p, x ∈ l) ∧ ∀ x ∈ q, x ∈ l
  | [], d, p, d', q, h => by
    cases h
    exact ⟨fun x hx => hx, fun x hx => hx⟩
  | (i, o) :: r, d, p, d', q, h => by
    simp only [sched1] at h
    cases hb : (!isAct o && subset (nthN ms i) d) with
    | true =>
      rw [hb] at h
      simp only [cond_true] at h
      generalize hr : sched1 ms r (d ||| (1 <<< i)) = y at h
      obtain ⟨p1, d1, q1⟩ := y
      obtain ⟨h1, h2⟩ := sched1_mem r _ _ _ _ hr
      cases h
      exact ⟨fun x hx => by
        rcases List.mem_cons.1 hx with rfl | hx
        · simp
        · simp [h1 x hx], fun x hx => by simp [h2 x hx]⟩
    | false =>
      rw [hb] at h
      simp only [cond_false] at h
      generalize hr : sched1 ms r d = y at h
      obtain ⟨p1, d1, q1⟩ := y
      obtain ⟨h1, h2⟩ := sched1_mem r _ _ _ _ hr
      cases h
      exact ⟨fun x hx => by simp [h1 x hx], fun x hx => by
        rcases List.mem_cons.1 hx with rfl | hx
        · simp
        · simp [h2 x hx]⟩
theorem takeAct_mem {ms : List Nat} {d : Nat} : ∀ (l : List (Nat × Oper)) (x : Nat × Oper) (q : List (Nat × Oper)), takeAct ms d l = some (x, q) → x ∈ l ∧ ∀ y ∈ q, y ∈ l
  | [], x, q, h => by cases h
  | a :: r, x, q, h => by
    simp only [takeAct] at h
    cases hb : (isAct a.2 && subset (nthN ms a.1) d) with
    | true =>
      rw [hb] at h
      cases h
      exact ⟨by simp, fun y hy => by simp [hy]⟩
    | false =>
      rw [hb] at h
      simp only [cond_false] at h
      cases hr : takeAct ms d r with
      | none => rw [hr] at h; cases h
      | some y =>
        obtain ⟨y1, q1⟩ := y
        rw [hr] at h
        cases h
        obtain ⟨h1, h2⟩ := takeAct_mem r _ _ hr
        exact ⟨by simp [h1], fun y hy => by
          rcases List.mem_cons.1 hy with rfl | hy
          · simp
          · simp [h2 y hy]⟩
theorem sched_mem {ms : List Nat} : ∀ (f : Nat) (l : List (Nat × Oper)) (d : Nat), ∀ x ∈ sched ms f l d, x ∈ l
  | 0, _, _, x, h => by cases h
  | f + 1, l, d, x, h => by
    simp only [sched] at h
    generalize hr : sched1 ms l d = y at h
    obtain ⟨p, d', q⟩ := y
    obtain ⟨h1, h2⟩ := sched1_mem _ _ _ _ _ hr
    simp only at h
    rcases List.mem_append.1 h with h | h
    · exact h1 x h
    · cases ht : takeAct ms d' q with
      | none => rw [ht] at h; cases h
      | some z =>
        obtain ⟨z1, q1⟩ := z
        rw [ht] at h
        obtain ⟨h3, h4⟩ := takeAct_mem _ _ _ ht
        simp only at h
        rcases List.mem_cons.1 h with rfl | h
        · exact h2 _ h3
        · exact h2 _ (h4 _ (sched_mem f q1 _ x h))
theorem indexed_mem : ∀ (l : List Oper) (i : Nat) (x : Nat × Oper), x ∈ indexed l i → i ≤ x.1 ∧ l[x.1 - i]? = some x.2
  | [], _, x, h => by cases h
  | o :: r, i, x, h => by
    simp only [indexed] at h
    rcases List.mem_cons.1 h with rfl | h
    · exact ⟨Nat.le_refl _, by simp⟩
    · obtain ⟨h1, h2⟩ := indexed_mem r (i + 1) x h
      refine ⟨by omega, ?_⟩
      rw [show x.1 - i = (x.1 - (i + 1)) + 1 by omega, List.getElem?_cons_succ]
      exact h2
theorem orderOf_mem {l : List Oper} {x : Nat × Oper} (h : x ∈ orderOf l) : l[x.1]? = some x.2 := by
  have := (indexed_mem l 0 x (sched_mem _ _ _ _ h)).2
  simpa using this
def actIdx : List (Nat × Oper) → List Nat
  | [] => []
  | (i, o) :: r => bif isAct o then i :: actIdx r else actIdx r
theorem actIdx_get : ∀ (l : List (Nat × Oper)) (q a : Nat), (actIdx l)[q]? = some a → ∃ o, (a, o) ∈ l ∧ isAct o = true
  | [], q, a, h => by simp [actIdx] at h
  | (i, o) :: r, q, a, h => by
    have rest : ∀ q', (actIdx r)[q']? = some a → ∃ o', (a, o') ∈ (i, o) :: r ∧ isAct o' = true := fun q' h' => by
      obtain ⟨o', h2, h3⟩ := actIdx_get r q' a h'
      exact ⟨o', by simp [h2], h3⟩
    simp only [actIdx] at h
    cases ha : isAct o with
    | false => rw [ha] at h; exact rest q h
    | true =>
      rw [ha] at h
      cases q with
      | zero =>
        simp only [cond_true, List.getElem?_cons_zero, Option.some.injEq] at h
        subst h
        exact ⟨o, by simp, ha⟩
      | succ q => exact rest q (by simpa using h)
theorem actIdx_inj : ∀ (l : List (Nat × Oper)), l.Pairwise (fun x y => x.1 ≠ y.1) → ∀ (q q' a : Nat), (actIdx l)[q]? = some a → (actIdx l)[q']? = some a → q = q'
  | [], _, q, q', a, h, _ => by simp [actIdx] at h
  | (i, o) :: r, hp, q, q', a, h1, h2 => by
    obtain ⟨hp1, hp2⟩ := List.pairwise_cons.1 hp
    simp only [actIdx] at h1 h2
    cases ha : isAct o with
    | false => rw [ha] at h1 h2; exact actIdx_inj r hp2 q q' a h1 h2
    | true =>
      rw [ha] at h1 h2
      have no : ∀ k, (actIdx r)[k]? = some i → False := fun k hk => by
        obtain ⟨o', h3, _⟩ := actIdx_get r k i hk
        exact hp1 _ h3 rfl
      cases q with
      | zero =>
        cases q' with
        | zero => rfl
        | succ q' =>
          simp only [cond_true, List.getElem?_cons_zero, List.getElem?_cons_succ, Option.some.injEq] at h1 h2
          subst h1
          exact absurd h2 (no q')
      | succ q =>
        cases q' with
        | zero =>
          simp only [cond_true, List.getElem?_cons_zero, List.getElem?_cons_succ, Option.some.injEq] at h1 h2
          subst h2
          exact absurd h1 (no q)
        | succ q' =>
          simp only [cond_true, List.getElem?_cons_succ] at h1 h2
          rw [actIdx_inj r hp2 q q' a h1 h2]
theorem actsOk_spec {ms : List Nat} : ∀ (l : List (Nat × Oper)) (prev : Option Nat), actsOk ms l prev = true →
    (∀ a, (actIdx l)[0]? = some a → prevIn (nthN ms a) prev = true) ∧ ∀ q a b, (actIdx l)[q]? = some a → (actIdx l)[q + 1]? = some b → (nthN ms b).testBit a = true
  | [], _, _ => ⟨fun a h => by simp [actIdx] at h, fun q a b h => by simp [actIdx] at h⟩
  | (i, o) :: r, prev, e => by
    simp only [actsOk] at e
    simp only [actIdx]
    cases ha : isAct o with
    | false =>
      rw [ha] at e
      exact actsOk_spec r prev e
    | true =>
      rw [ha] at e
      simp only [cond_true, Bool.and_eq_true] at e ⊢
      obtain ⟨h1, h2⟩ := actsOk_spec r (some i) e.2
      refine ⟨fun a h => ?_, fun q a b h h' => ?_⟩
      · simp only [List.getElem?_cons_zero, Option.some.injEq] at h
        subst h; exact e.1
      · simp only [List.getElem?_cons_succ] at h'
        cases q with
        | zero =>
          simp only [List.getElem?_cons_zero, Option.some.injEq] at h
          subst h
          exact h1 b h'
        | succ q =>
          simp only [List.getElem?_cons_succ] at h
          exact h2 q a b h h'
def stK : List (Nat × St × St) → St → Nat → St
  | [], last, _ => last
  | (_, s, _) :: _, _, 0 => s
  | _ :: r, last, k + 1 => stK r last k
theorem stK_last : ∀ (snaps : List (Nat × St × St)) (last : St) (k : Nat), snaps.length ≤ k → stK snaps last k = last
  | [], _, _, _ => rfl
  | _ :: r, last, 0, h => by simp at h
  | _ :: r, last, k + 1, h => stK_last r last k (by simpa using h)
theorem stK_get : ∀ (snaps : List (Nat × St × St)) (last : St) (k a : Nat) (s s1 : St), snaps[k]? = some (a, s, s1) → stK snaps last k = s
  | [], _, k, a, s, s1, h => by simp at h
  | x :: r, last, 0, a, s, s1, h => by simp only [List.getElem?_cons_zero, Option.some.injEq] at h; subst h; rfl
  | x :: r, last, k + 1, a, s, s1, h => by simp only [List.getElem?_cons_succ] at h; exact stK_get r last k a s s1 h
theorem admits_spec {ms : List Nat} {j : Nat} {f : St → Bool} {last : St} : ∀ (snaps : List (Nat × St × St)) (pm : Nat), admits ms j f last pm snaps = true → ∀ k, k ≤ snaps.length →
    (k = 0 → pm.testBit j = false) → (∀ a, 0 < k → (snaps.map (·.1))[k - 1]? = some a → (nthN ms a).testBit j = false) → (∀ a, (snaps.map (·.1))[k]? = some a → (nthN ms j).testBit a = false) → f (stK snaps last k) = true
  | [], pm, h, k, hk, h0, _, _ => by
    have : k = 0 := by simpa using hk
    subst this
    simp only [admits, h0 rfl, Bool.false_or] at h
    exact h
  | (a, s, s1) :: r, pm, h, k, hk, h0, h1, h2 => by
    simp only [admits, Bool.and_eq_true] at h
    cases k with
    | zero =>
      have := h.1
      rw [h0 rfl, h2 a (by simp)] at this
      simp only [Bool.false_or] at this
      exact this
    | succ k =>
      refine admits_spec r (nthN ms a) h.2 k (by simpa using hk) (fun hk0 => ?_) (fun b hb hb' => ?_) fun b hb => ?_
      · subst hk0
        exact h1 a (by omega) (by simp)
      · refine h1 b (by omega) ?_
        cases k with
        | zero => omega
        | succ k => simpa using hb'
      · exact h2 b (by simpa using hb)
theorem clearOf_spec {p : Nat} : ∀ (l : List (Nat × St × St)), clearOf p l = true → ∀ x ∈ l, p < x.2.1.n ∨ x.2.2.n ≤ p
  | [], _, x, h => by cases h
  | (a, s, s1) :: r, h, x, hx => by
    simp only [clearOf, Bool.and_eq_true, Bool.or_eq_true] at h
    rcases List.mem_cons.1 hx with rfl | hx
    · rcases h.1 with h1 | h1
      · left; rw [Nat.blt_eq] at h1; exact h1
      · exact .inr (Nat.le_of_ble_eq_true h1)
    · exact clearOf_spec r h.2 x hx
theorem freshApart_spec : ∀ (l : List (Nat × Nat × AO)), freshApart l = true → ∀ x ∈ l, ∀ y ∈ l, x.1 ≠ y.1 → x.2.1 ≠ y.2.1
  | [], _, x, h, _, _, _ => by cases h
  | (j, p, o) :: r, h, x, hx, y, hy, hne => by
    simp only [freshApart, Bool.and_eq_true, List.all_eq_true, Bool.not_eq_true'] at h
    rcases List.mem_cons.1 hx with rfl | hx
    · rcases List.mem_cons.1 hy with rfl | hy
      · exact absurd rfl hne
      · intro he
        have := h.1 y hy
        simp only at he
        rw [he] at this
        simp [Nat.beq_refl] at this
    · rcases List.mem_cons.1 hy with rfl | hy
      · intro he
        have := h.1 x hx
        simp only at he
        rw [he] at this
        simp [Nat.beq_refl] at this
      · exact freshApart_spec r h.2 x hx y hy hne
theorem chkFresh_spec {ms : List Nat} {n0 : Nat} {snaps : List (Nat × St × St)} {last : St} : ∀ (l : List (Nat × Nat × AO)), chkFresh ms n0 snaps last l = true → ∀ j p ob, (j, p, ob) ∈ l →
    n0 ≤ p ∧ p < last.n ∧ clearOf p snaps = true ∧ admits ms j (fun s => sameAO ob (s.at p)) last 0 snaps = true
  | [], _, j, p, ob, h => by cases h
  | (j', p', ob') :: r, h, j, p, ob, hx => by
    simp only [chkFresh, Bool.and_eq_true] at h
    obtain ⟨⟨h1, h2, h3, h4⟩, h5⟩ := h
    rcases List.mem_cons.1 hx with hx | hx
    · cases hx
      refine ⟨Nat.le_of_ble_eq_true h1, ?_, h3, h4⟩
      rw [Nat.blt_eq] at h2; exact h2
    · exact chkFresh_spec r h5 j p ob hx
theorem chkLoads_spec {P : Program} {ro : Nat} {all : List Oper} {ms : List Nat} {t : Tr} {snaps : List (Nat × St × St)} {last : St} : ∀ (l : List (Nat × Oper × Tr)), chkLoads P ro all ms t snaps last l = true → ∀ j o u, (j, o, u) ∈ l → chkLoad P ro all ms t snaps last j o u = true
  | [], _, j, o, u, h => by simp at h
  | (j', o', u') :: r, e, j, o, u, h => by
    simp only [chkLoads, Bool.and_eq_true] at e
    rcases List.mem_cons.1 h with h | h
    · cases h; exact e.1
    · exact chkLoads_spec r e.2 j o u h
end Go.VE
