/-
  What the functions compute.
-/
import Derived.Test.YtedoeeeomfgjnaaDoorFn1
set_option linter.unusedSimpArgs false
set_option linter.unusedVariables false
/- Chapter 20: what is known of the library's functions. -/
namespace Go.VE
open Go Go.Proofs Go.RowKit
theorem wW : type_of% (And.intro @pr_wop <| And.intro @pr_call <| And.intro @pr_wcall <| And.intro @pr_wdefer <| And.intro @pr_defers <| And.intro @pr_loop <| And.intro @pr_range <| And.intro @pr_fin <| And.intro @pr_hold <| And.intro @xdefers_eq <| And.intro @xcallv_fn <| And.intro @wopt_some <| And.intro @wopt_none <| And.intro @wopt_map <| And.intro @wopt_bind <| And.intro @wopt_ite <| And.intro @wdec_true <| And.intro @wdec_false <| And.intro @wdec_bool <| And.intro @wop_fieldAddr <| And.intro @wop_field <| And.intro @wop_index_agg <| And.intro @wop_build <| And.intro @wop_nilCheck <| And.intro @wop_int <| And.intro @wop_not <| And.intro @wop_extract <| And.intro (fun {P : Program} => @int_add P _ keq_i64) <| And.intro (fun {P : Program} => @int_sub P _ keq_i64) <| And.intro (fun {P : Program} => @int_mul P _ keq_i64) <| And.intro (fun {P : Program} => @int_add P _ keq_u64) <| And.intro (fun {P : Program} => @int_sub P _ keq_u64) <| And.intro (fun {P : Program} => @int_mul P _ keq_u64) <| And.intro (fun {P : Program} => @int_eql P _ keq_i64) <| And.intro (fun {P : Program} => @int_eql P _ keq_u64) <| And.intro (fun {P : Program} => @int_eql P _ keq_u8) <| And.intro (fun {P : Program} => @int_eql P _ keq_u32) <| And.intro (fun {P : Program} => @int_neq P _ keq_i64) <| And.intro (fun {P : Program} => @int_neq P _ keq_u64) <| And.intro (fun {P : Program} => @int_neq P _ keq_u8) <| And.intro (fun {P : Program} => @int_neq P _ keq_u32) <| And.intro (fun {P : Program} => @int_lss P _ keq_i64) <| And.intro (fun {P : Program} => @int_lss P _ keq_u64) <| And.intro (fun {P : Program} => @int_lss P _ keq_u8) <| And.intro (fun {P : Program} => @int_lss P _ keq_u32) <| And.intro (fun {P : Program} => @int_leq P _ keq_i64) <| And.intro (fun {P : Program} => @int_leq P _ keq_u64) <| And.intro (fun {P : Program} => @int_leq P _ keq_u8) <| And.intro (fun {P : Program} => @int_leq P _ keq_u32) <| And.intro (fun {P : Program} => @int_gtr P _ keq_i64) <| And.intro (fun {P : Program} => @int_gtr P _ keq_u64) <| And.intro (fun {P : Program} => @int_gtr P _ keq_u8) <| And.intro (fun {P : Program} => @int_gtr P _ keq_u32) <| And.intro (fun {P : Program} => @int_geq P _ keq_i64) <| And.intro (fun {P : Program} => @int_geq P _ keq_u64) <| And.intro (fun {P : Program} => @int_geq P _ keq_u8) <| And.intro (fun {P : Program} => @int_geq P _ keq_u32) <| And.intro (fun {P : Program} => @int_rem P _ keq_i64) <| And.intro (fun {P : Program} => @int_rem P _ keq_u64) <| And.intro (fun {P : Program} => @int_rem P _ keq_u8) <| And.intro (fun {P : Program} => @int_quo P _ keq_u64) <| And.intro (fun {P : Program} => @int_quo P _ keq_i64) <| And.intro @n_new <| And.intro @lo_new <| And.intro @n_ent <| And.intro @lo_ent <| And.intro @at_ent <| And.intro @thenW_normal <| And.intro @thenW_ret <| And.intro @thenW_exit <| And.intro @outs_ret <| And.intro @outs_exit <| And.intro @kOf_cons <| And.intro @wdefers_nil <| And.intro @Option.bind_some.{0,0} <| And.intro @Option.map_some.{0,0} <| And.intro @decide_eq_true_eq <| And.intro @Bool.not_eq_true' <| And.intro @decide_eq_false_iff_not <| And.intro @Bool.not_true <| And.intro @Bool.not_false <| And.intro @ne_eq.{1} <| And.intro @if_true.{1} <| And.intro @if_false.{1} <| And.intro @eq_self.{1} <| And.intro @Nat.zero_add <| And.intro @Nat.add_zero <| @not_false_eq_true) := And.intro @pr_wop <| And.intro @pr_call <| And.intro @pr_wcall <| And.intro @pr_wdefer <| And.intro @pr_defers <| And.intro @pr_loop <| And.intro @pr_range <| And.intro @pr_fin <| And.intro @pr_hold <| And.intro @xdefers_eq <| And.intro @xcallv_fn <| And.intro @wopt_some <| And.intro @wopt_none <| And.intro @wopt_map <| And.intro @wopt_bind <| And.intro @wopt_ite <| And.intro @wdec_true <| And.intro @wdec_false <| And.intro @wdec_bool <| And.intro @wop_fieldAddr <| And.intro @wop_field <| And.intro @wop_index_agg <| And.intro @wop_build <| And.intro @wop_nilCheck <| And.intro @wop_int <| And.intro @wop_not <| And.intro @wop_extract <| And.intro (fun {P : Program} => @int_add P _ keq_i64) <| And.intro (fun {P : Program} => @int_sub P _ keq_i64) <| And.intro (fun {P : Program} => @int_mul P _ keq_i64) <| And.intro (fun {P : Program} => @int_add P _ keq_u64) <| And.intro (fun {P : Program} => @int_sub P _ keq_u64) <| And.intro (fun {P : Program} => @int_mul P _ keq_u64) <| And.intro (fun {P : Program} => @int_eql P _ keq_i64) <| And.intro (fun {P : Program} => @int_eql P _ keq_u64) <| And.intro (fun {P : Program} => @int_eql P _ keq_u8) <| And.intro (fun {P : Program} => @int_eql P _ keq_u32) <| And.intro (fun {P : Program} => @int_neq P _ keq_i64) <| And.intro (fun {P : Program} => @int_neq P _ keq_u64) <| And.intro (fun {P : Program} => @int_neq P _ keq_u8) <| And.intro (fun {P : Program} => @int_neq P _ keq_u32) <| And.intro (fun {P : Program} => @int_lss P _ keq_i64) <| And.intro (fun {P : Program} => @int_lss P _ keq_u64) <| And.intro (fun {P : Program} => @int_lss P _ keq_u8) <| And.intro (fun {P : Program} => @int_lss P _ keq_u32) <| And.intro (fun {P : Program} => @int_leq P _ keq_i64) <| And.intro (fun {P : Program} => @int_leq P _ keq_u64) <| And.intro (fun {P : Program} => @int_leq P _ keq_u8) <| And.intro (fun {P : Program} => @int_leq P _ keq_u32) <| And.intro (fun {P : Program} => @int_gtr P _ keq_i64) <| And.intro (fun {P : Program} => @int_gtr P _ keq_u64) <| And.intro (fun {P : Program} => @int_gtr P _ keq_u8) <| And.intro (fun {P : Program} => @int_gtr P _ keq_u32) <| And.intro (fun {P : Program} => @int_geq P _ keq_i64) <| And.intro (fun {P : Program} => @int_geq P _ keq_u64) <| And.intro (fun {P : Program} => @int_geq P _ keq_u8) <| And.intro (fun {P : Program} => @int_geq P _ keq_u32) <| And.intro (fun {P : Program} => @int_rem P _ keq_i64) <| And.intro (fun {P : Program} => @int_rem P _ keq_u64) <| And.intro (fun {P : Program} => @int_rem P _ keq_u8) <| And.intro (fun {P : Program} => @int_quo P _ keq_u64) <| And.intro (fun {P : Program} => @int_quo P _ keq_i64) <| And.intro @n_new <| And.intro @lo_new <| And.intro @n_ent <| And.intro @lo_ent <| And.intro @at_ent <| And.intro @thenW_normal <| And.intro @thenW_ret <| And.intro @thenW_exit <| And.intro @outs_ret <| And.intro @outs_exit <| And.intro @kOf_cons <| And.intro @wdefers_nil <| And.intro @Option.bind_some.{0,0} <| And.intro @Option.map_some.{0,0} <| And.intro @decide_eq_true_eq <| And.intro @Bool.not_eq_true' <| And.intro @decide_eq_false_iff_not <| And.intro @Bool.not_true <| And.intro @Bool.not_false <| And.intro @ne_eq.{1} <| And.intro @if_true.{1} <| And.intro @if_false.{1} <| And.intro @eq_self.{1} <| And.intro @Nat.zero_add <| And.intro @Nat.add_zero <| @not_false_eq_true
def strsOf : List Value → Option (List ByteArray)
  | [] => some []
  | .string b :: r => (strsOf r).map (b :: ·)
  | _ => none
theorem strsOf_spec : ∀ {cs : List Value} {xs : List ByteArray}, strsOf cs = some xs → cs = xs.map .string
  | [], xs, h => by cases h; rfl
  | .string b :: r, xs, h => by
    have h' : (strsOf r).map (b :: ·) = some xs := h
    cases hr : strsOf r with
    | none => rw [hr] at h'; cases h'
    | some ys => rw [hr] at h'; cases h'; rw [strsOf_spec hr]; rfl
theorem strsOf_map : ∀ (xs : List ByteArray), strsOf (xs.map .string) = some xs
  | [] => rfl
  | x :: r => by
    show (strsOf (r.map .string)).map (x :: ·) = _
    rw [strsOf_map r]; rfl
def lookCl : List Value → Option Value
  | [.string b] => if b.size ≤ 281474976710656 then some (.string b) else none
  | _ => none
def lookPu : List Value → Option Value
  | [.string b, x, y] => if (veq x (.int .i64 10) && veq y (.int .i64 64)) = true ∧ b.size ≤ 9223372036854775806 then (match Lib.parseUintB 64 b.data.toList with
    | .ok u => some (.tuple (.mk [.int .u64 u, .nilIface]))
    | _ => none) else none
  | _ => none
def joinB (xs : List ByteArray) (sep : ByteArray) : ByteArray := ⟨(Lib.join (xs.map (·.data.toList)) sep.data.toList).toArray⟩
def lookJ (cs : List Value) : List Value → Option Value
  | [.string sep] => match strsOf cs with
    | some xs => if xs.length ≤ 140737488355328 ∧ (Lib.join (xs.map (·.data.toList)) sep.data.toList).length ≤ 140737488355328 then some (.string (joinB xs sep)) else none
    | none => none
  | _ => none
noncomputable instance known20 : Memo := ⟨fun f args => bif Nat.beq f 50 then lookCl args else bif Nat.beq f 45 then lookPu args else none, fun f => Nat.beq f 22, fun _ cs r => lookJ cs r⟩
theorem known20_ok (base : Nat) (w0 : World) : MemoOk P base w0 := by
  refine ⟨fun f args v e => ?_, fun f cs r v hs e => ?_⟩
  · have e' : (bif Nat.beq f 50 then lookCl args else bif Nat.beq f 45 then lookPu args else none) = some v := e
    cases h1 : Nat.beq f 50 with
    | true =>
      rw [h1] at e'
      have := Nat.eq_of_beq_eq_true h1
      subst this
      simp only [cond_true] at e'
      unfold lookCl at e'
      split at e'
      · rename_i b
        split at e'
        · rename_i hb
          cases e'
          exact ⟨rfl, rfl, ⟨_, Tryd.func50, by kernel_rfl, by kernel_rfl⟩, fun W _ => Tryd.stringslite_Clone b W hb⟩
        · cases e'
      · cases e'
    | false =>
      rw [h1] at e'
      simp only [cond_false] at e'
      cases h2 : Nat.beq f 45 with
      | false => rw [h2] at e'; cases e'
      | true =>
        rw [h2] at e'
        have := Nat.eq_of_beq_eq_true h2
        subst this
        simp only [cond_true] at e'
        unfold lookPu at e'
        split at e'
        · rename_i b x y
          split at e'
          · rename_i hb
            split at e'
            · rename_i u hu
              cases e'
              have hxy := hb.1
              simp only [Bool.and_eq_true] at hxy
              obtain rfl := veq_eq _ _ hxy.1
              obtain rfl := veq_eq _ _ hxy.2
              refine ⟨rfl, rfl, ⟨_, Tryd.func45, by kernel_rfl, by kernel_rfl⟩, fun W _ => (Tryd.strconv_ParseUint_10_at64_ok b hb.2 u hu W).mono fun e W' hq => ⟨hq.1, ?_⟩⟩
              rcases hq.2 with rfl | rfl
              · exact .refl _ _
              · exact Lib.bytesWorld_below _ _ _
            · cases e'
          · cases e'
        · cases e'
  · have hf : Nat.beq f 22 = true := hs
    have := Nat.eq_of_beq_eq_true hf
    subst this
    have e' : lookJ cs r = some v := e
    unfold lookJ at e'
    split at e'
    · rename_i sep
      split at e'
      · rename_i xs hx
        split at e'
        · rename_i hb
          cases e'
          obtain rfl := strsOf_spec hx
          refine ⟨flatL_of fun i v hi => ?_, rfl, rfl, ⟨_, Tryd.func22, by kernel_rfl, by kernel_rfl⟩, fun W _ a n c hn hc => ?_⟩
          · rw [List.getElem?_map] at hi
            obtain ⟨b, _, rfl⟩ := Option.map_eq_some_iff.1 hi
            rfl
          · rw [List.length_map] at hn
            subst hn
            cases xs with
            | nil =>
              refine (Tryd.strings_Join_none a c sep W).mono fun e W' hq => ⟨hq.1, ?_⟩
              rw [hq.2]
              exact .refl _ _
            | cons x r =>
              obtain ⟨b, o, rfl, hlt, hnc, hcl⟩ := hc (by simp)
              exact Tryd.strings_Join b o c (x :: r) sep W (fun j y hj => hcl j _ (by rw [List.getElem?_map, hj]; rfl)) hlt hb.1 hnc hb.2
        · cases e'
      · cases e'
    · cases e'
end Go.VE
/- Chapter 20: ends of walks, texts. -/
namespace Go.VE
open Go Go.Proofs
set_option maxRecDepth 20000
abbrev ptr (B : Nat) : Value := .pointer (some ⟨B, 0, none⟩)
theorem take_succ_eq {α : Type} {l : List α} {i : Nat} {a : α} (h : l[i]? = some a) : l.take (i + 1) = l.take i ++ [a] := by
  rw [List.take_add_one, h]; rfl
theorem xleave_U [Memo] {P : Program} {ro : Nat} {s0 : St} {rs : List ResultVar} {K : Value → St → Prop} {τ : Tau} {l : AL} {ds : List Deferred} {s : St} : xleave (prims P ro) s0 rs K .ret τ l ds s = xleave (prims P ro) s0 rs K .ret (U τ l) [] ds s := by
  simp only [xleave, xresL_eq, U]
theorem fin_flat {si s : St} {K : Value → St → Prop} {v : Value} (hf : flat' v = true) (hg : Grew (ent si) s) (h : K v si) : wfin si K v s := by
  rw [wfin_flat (by rw [hg.lo]; exact Nat.le_refl _) hf]; exact h
def QOk (Q : Ex → XK) : Prop := ∃ Q' : Ex → WK, ∀ ex τ l ds s, Q ex τ l ds s = Q' ex (U τ l) ds s
theorem QOk.leave [Memo] {P : Program} {ro : Nat} {s0 : St} {rs : List ResultVar} {K : Value → St → Prop} : QOk (xleave (prims P ro) s0 rs K) := ⟨wleave P ro s0 rs K, fun ex τ l ds s => by
  cases ex with
  | exit id => rfl
  | _ => simp only [xleave, wleave, xresL_eq, xdefers_eq, pr_fin]⟩
theorem QOk.blk {Q : Ex → XK} (h : QOk Q) (id : Nat) : QOk (blkX id Q) := by
  obtain ⟨Q', h⟩ := h
  refine ⟨blkW id Q', fun ex τ l ds s => ?_⟩
  cases ex with
  | exit j =>
    simp only [blkX, blkW]
    cases Nat.beq j id
    · exact h _ _ _ _ _
    · exact h _ _ _ _ _
  | _ => exact h _ _ _ _ _
theorem QOk.sX [Memo] {P : Program} {ro : Nat} {rnd : Option Nat} {N : Nat} {cuts : List (List Nat)} {b : Code} {p : List Nat} {Q : Ex → XK} (h : QOk Q) : QOk (sX (prims P ro) rnd N cuts b p Q) := by
  obtain ⟨Q', h⟩ := h
  refine ⟨thenW (fun τ ds s => wp P ro N rnd b τ ds s Q') Q', fun ex τ l ds s => ?_⟩
  cases ex with
  | normal =>
    simp only [Go.VE.sX, thenX, thenW]
    cases cutAt cuts p with
    | true => exact xp_eq rnd N cuts b h
    | false => exact xp_eq rnd N cuts b h
  | _ => exact h _ _ _ _ _
theorem blkX_n (id : Nat) (Q : Ex → XK) : blkX id Q .normal = Q .normal := rfl
theorem blkX_r (id : Nat) (Q : Ex → XK) : blkX id Q .ret = Q .ret := rfl
theorem sX_r {I : Prims} {rnd : Option Nat} {N : Nat} {cuts : List (List Nat)} {b : Code} {p : List Nat} {Q : Ex → XK} : sX I rnd N cuts b p Q .ret = Q .ret := rfl
theorem sX_n [Memo] {P : Program} {ro : Nat} {rnd : Option Nat} {N : Nat} {cuts : List (List Nat)} {b : Code} {p : List Nat} {Q : Ex → XK} (h : QOk Q) {τ : Tau} {l : AL} {ds : List Deferred} {s : St} : sX (prims P ro) rnd N cuts b p Q .normal τ l ds s = xp (prims P ro) rnd N cuts b p (U τ l) [] ds s Q := by
  obtain ⟨Q', h⟩ := h
  simp only [Go.VE.sX, thenX]
  have e : xp (prims P ro) rnd N cuts b p τ l ds s Q = xp (prims P ro) rnd N cuts b p (U τ l) [] ds s Q := by
    rw [xp_eq rnd N cuts b h, xp_eq rnd N cuts b h]; rfl
  cases cutAt cuts p with
  | true => rfl
  | false => exact e
theorem rp_bind {α β : Type} (P : Program) (f : α → Sem β) : ∀ (m : Sem α), runPure P (m >>= f) = (runPure P m).bind fun a => runPure P (f a)
  | .pure a => rfl
  | .program k => by
    show runPure P (Sem.bind (k P) f) = _
    exact rp_bind P f (k P)
  | .mark x k => by
    show runPure P (Sem.bind k f) = _
    exact rp_bind P f k
  | .load .. => rfl
  | .store .. => rfl
  | .new .. => rfl
  | .shape .. => rfl
  | .freeze .. => rfl
  | .frozen .. => rfl
  | .getObj .. => rfl
  | .setObj .. => rfl
  | .choose .. => rfl
  | .sys .. => rfl
  | .halt .. => rfl
theorem rp_und {P : Program} {t : TypeId} {d : TypeDesc} (h : P.underlying t = some d) : runPure P (underlying t) = some d := by
  show runPure P (match P.underlying t with | some d => pure d | none => stuck "no such type") = _
  rw [h]; rfl
theorem rp_program (P : Program) : runPure P (program : Sem Program) = some P := rfl
theorem fin_K {si s : St} {K : Value → St → Prop} {v : Value} (h : ∀ s', K v s') : wfin si K v s := by
  unfold wfin afinish
  cases (Nat.ble si.n s.lo && flat' v) with
  | true => exact h _
  | false => exact h _
abbrev tx (l : List UInt8) : Value := .string (ByteArray.mk (Array.mk l))
section
variable {ro : Nat} {s : St} {K : Value → St → Prop}
theorem unT : P.underlying 9 = some .string := by kernel_rfl
theorem len_tx (l : List UInt8) (ty : TypeId) : wop P ro (.call ⟨.builtin .len, ⟨[.const (tx l)]⟩, #[9]⟩) ty s K = K (.int .i64 l.length) s := by kernel_rfl
theorem wop_pure1 {o : Op} {v : Value} {ty : TypeId} (h : runPure P (execOp (aval .e) (mkO o ty)) = some (.value v)) (hf : flat' v = true) : apure P .e (mkO o ty) = some (.val v) := by
  unfold apure
  rw [h]
  simp only [purely, hf, cond_true]
theorem rp_ix (b : ByteArray) (i : Int) : runPure P (Instr.index 9 (.string b) (.int .i64 i)) = runPure P (match (if 0 ≤ i then b[i.toNat]? else none) with
    | some x => (pure (.int .u8 x.toNat) : Sem Value)
    | none => boundsPanic .i64 i b.size .index) := by
  unfold Instr.index
  rw [rp_bind]
  show (some (IntKind.i64, i)).bind _ = _
  simp only [Option.bind_some]
  rw [rp_bind, rp_und unT]
  rfl
theorem getTx {l : List UInt8} {i : Nat} {b : UInt8} (h : l[i]? = some b) : (ByteArray.mk (Array.mk l))[i]? = some b := by
  have hlt : i < l.length := (List.getElem?_eq_some_iff.1 h).1
  have hb : i < (ByteArray.mk (Array.mk l)).size := hlt
  rw [getElem?_pos (ByteArray.mk (Array.mk l)) i hb]
  rw [List.getElem?_eq_getElem hlt] at h
  cases h
  rfl
theorem ix_tx {l : List UInt8} {i : Nat} {b : UInt8} (h : l[i]? = some b) (ty : TypeId) : wop P ro (.index 9 (.const (tx l)) (.const (.int .i64 (i : Int)))) ty s K = K (.int .u8 b.toNat) s := by
  have e : runPure P (execOp (aval .e) (mkO (.index 9 (.const (tx l)) (.const (.int .i64 (i : Int)))) ty)) = some (Next.value (.int .u8 b.toNat)) := by
    show runPure P (Instr.index 9 (tx l) (.int .i64 (i : Int)) >>= fun v => pure (Next.value v)) = _
    rw [rp_bind, rp_ix, if_pos (by omega), Int.toNat_natCast, getTx h]
    rfl
  have e2 := wop_pure1 e rfl
  show wfol P ro K (aun P .e (mkO (.index 9 (.const (tx l)) (.const (.int .i64 (i : Int)))) ty) s (tx l)) = _
  unfold aun
  rw [e2]
  rfl
theorem bnd_ok {i : Int} {y : Nat} {c : BoundsCode} (h : 0 ≤ i ∧ i ≤ y) : runPure P (Instr.sliceBound (.int .i64 i) y c) = some i.toNat := by
  unfold Instr.sliceBound
  rw [rp_bind]
  show (some (IntKind.i64, i)).bind _ = _
  simp only [Option.bind_some, h, and_self, if_true]
  rfl
theorem extract_tx (l : List UInt8) (a b : Nat) : (ByteArray.mk (Array.mk l)).extract a b = ByteArray.mk (Array.mk ((l.drop a).take (b - a))) := by
  apply ByteArray.ext
  rw [ByteArray.data_extract]
  apply Array.ext'
  simp [List.take_drop, List.extract]
theorem sl_tx {l : List UInt8} {lo hi : Option Operand} {a b : Nat} {ty : TypeId} (hb : b ≤ l.length) (hab : a ≤ b)
    (h1 : hi.map (aval .e) = some (.int .i64 (b : Int)) ∨ (hi = none ∧ b = l.length)) (h2 : lo.map (aval .e) = some (.int .i64 (a : Int)) ∨ (lo = none ∧ a = 0)) :
    wop P ro (.slice 9 (.const (tx l)) lo hi none) ty s K = K (tx ((l.drop a).take (b - a))) s := by
  have e : runPure P (execOp (aval .e) (mkO (.slice 9 (.const (tx l)) lo hi none) ty)) = some (Next.value (tx ((l.drop a).take (b - a)))) := by
    show runPure P (Instr.slice 9 (tx l) (lo.map (aval .e)) (hi.map (aval .e)) none >>= fun v => pure (Next.value v)) = _
    rw [rp_bind]
    have e3 : runPure P (Instr.slice 9 (tx l) (lo.map (aval .e)) (hi.map (aval .e)) none) = some (tx ((l.drop a).take (b - a))) := by
      unfold Instr.slice
      rw [rp_bind, rp_und unT]
      simp only [Option.bind_some, Option.isSome_none, Bool.false_eq_true, if_false]
      rw [rp_bind]
      have hs : (ByteArray.mk (Array.mk l)).size = l.length := rfl
      have e4 : runPure P (Instr.sliceBounds false (ByteArray.mk (Array.mk l)).size (ByteArray.mk (Array.mk l)).size (lo.map (aval .e)) (hi.map (aval .e)) none) = some (a, b, l.length) := by
        unfold Instr.sliceBounds
        rw [hs, rp_bind]
        show (some l.length).bind _ = _
        simp only [Option.bind_some]
        rcases h1 with h1 | ⟨rfl, rfl⟩
        · rw [h1]
          simp only
          rw [rp_bind, bnd_ok ⟨by omega, by omega⟩]
          simp only [Option.bind_some, Int.toNat_natCast]
          rcases h2 with h2 | ⟨rfl, rfl⟩
          · rw [h2]
            simp only
            rw [rp_bind, bnd_ok ⟨by omega, by omega⟩]
            rfl
          · rfl
        · simp only [Option.map_none]
          rw [rp_bind]
          show (some l.length).bind _ = _
          simp only [Option.bind_some]
          rcases h2 with h2 | ⟨rfl, rfl⟩
          · rw [h2]
            simp only
            rw [rp_bind, bnd_ok ⟨by omega, by omega⟩]
            rfl
          · rfl
      rw [e4]
      simp only [Option.bind_some]
      rw [extract_tx]
      rfl
    rw [e3]
    rfl
  have e2 := wop_pure1 e rfl
  have hlo : flatO .e lo = true := by
    rcases h2 with h2 | ⟨rfl, rfl⟩
    · cases lo with
      | none => cases h2
      | some x =>
        have : aval .e x = .int .i64 (a : Int) := by simpa using h2
        simp only [flatO, Option.all_some, this]; rfl
    · rfl
  have hhi : flatO .e hi = true := by
    rcases h1 with h1 | ⟨rfl, rfl⟩
    · cases hi with
      | none => cases h1
      | some x =>
        have : aval .e x = .int .i64 (b : Int) := by simpa using h1
        simp only [flatO, Option.all_some, this]; rfl
    · rfl
  show wfol P ro K (asl P .e (mkO (.slice 9 (.const (tx l)) lo hi none) ty) s 9 (tx l) lo hi none) = _
  have hx : flat' (tx l) = true := rfl
  have hn : flatO .e none = true := rfl
  simp only [asl, hx, hlo, hhi, hn, Bool.and_self, cond_true, e2]
  rfl
theorem hi_tx {l : List UInt8} {k : Nat} (hk : k ≤ l.length) (ty : TypeId) : wop P ro (.slice 9 (.const (tx l)) none (some (.const (.int .i64 (k : Int)))) none) ty s K = K (tx (l.take k)) s := by
  rw [sl_tx (a := 0) (b := k) hk (Nat.zero_le _) (.inl rfl) (.inr ⟨rfl, rfl⟩), List.drop_zero, Nat.sub_zero]
theorem lo_tx {l : List UInt8} {k : Nat} (hk : k ≤ l.length) (ty : TypeId) : wop P ro (.slice 9 (.const (tx l)) (some (.const (.int .i64 (k : Int)))) none none) ty s K = K (tx (l.drop k)) s := by
  rw [sl_tx (a := k) (b := l.length) (Nat.le_refl _) hk (.inr ⟨rfl, rfl⟩) (.inl rfl), List.take_of_length_le (by rw [List.length_drop]; omega)]
theorem bin_tx {op : BinOp} {a b : List UInt8} {v : Value} {r ty : TypeId} (h : runPure P (execOp (aval .e) (mkO (.binOp op 9 (.const (tx a)) (.const (tx b)) r) ty)) = some (.value v)) (hf : flat' v = true) :
    wop P ro (.binOp op 9 (.const (tx a)) (.const (tx b)) r) ty s K = K v s := by
  have e2 := wop_pure1 h hf
  show wfol P ro K (abin P .e (mkO (.binOp op 9 (.const (tx a)) (.const (tx b)) r) ty) s op 9 (tx a) (tx b)) = _
  have hx : ∀ l, flat' (tx l) = true := fun _ => rfl
  simp only [abin, hx, Bool.and_self, cond_true, e2]
  rfl
theorem tx_beq (a b : List UInt8) : (a == b) = decide (a = b) := by
  by_cases h : a = b
  · subst h; rw [beq_self_eq_true, decide_eq_true rfl]
  · rw [decide_eq_false h]
    exact beq_false_of_ne h
theorem toL_tx (a : List UInt8) : (ByteArray.mk (Array.mk a)).toList = a := ByteArray.toList_eq _
theorem eql_tx (a b : List UInt8) (r ty : TypeId) : wop P ro (.binOp .eql 9 (.const (tx a)) (.const (tx b)) r) ty s K = K (.bool (decide (a = b))) s := by
  have h : runPure P (execOp (aval .e) (mkO (.binOp .eql 9 (.const (tx a)) (.const (tx b)) r) ty)) = some (.value (.bool ((ByteArray.mk (Array.mk a)).toList == (ByteArray.mk (Array.mk b)).toList))) := rfl
  rw [toL_tx, toL_tx, tx_beq] at h
  exact bin_tx h rfl
theorem neq_tx (a b : List UInt8) (r ty : TypeId) : wop P ro (.binOp .neq 9 (.const (tx a)) (.const (tx b)) r) ty s K = K (.bool (!decide (a = b))) s := by
  have h : runPure P (execOp (aval .e) (mkO (.binOp .neq 9 (.const (tx a)) (.const (tx b)) r) ty)) = some (.value (.bool (!((ByteArray.mk (Array.mk a)).toList == (ByteArray.mk (Array.mk b)).toList)))) := rfl
  rw [toL_tx, toL_tx, tx_beq] at h
  exact bin_tx h rfl
end
end Go.VE
/- Chapter 20: classes of bytes, run, idle. -/
namespace Go.VE
open Go Go.Proofs
set_option maxRecDepth 20000
def letN (n : Int) : Bool := (decide (97 ≤ n) && decide (n ≤ 122)) || (decide (65 ≤ n) && decide (n ≤ 90))
def digN (n : Int) : Bool := decide (48 ≤ n) && decide (n ≤ 57)
def insN (n : Int) : Bool := letN n || (digN n || decide (n = 95))
def blaN (n : Int) : Bool := decide (n = 32) || (decide (n = 9) || (decide (n = 13) || decide (n = 10)))
def nlfN (n : Int) : Bool := !decide (n = 10)
abbrev bz (b : UInt8) : Int := (b.toNat : Int)
section
variable {ro : Nat}
def ClsOk (ro : Nat) (F : FuncId) (p : Int → Bool) : Prop := ∀ (n : Int) (s : St) (K : Value → St → Prop), CallWP P ro F [.int .u8 n] s K = K (.bool (p n)) s
theorem fin_B {si s : St} {K : Value → St → Prop} {a b : Bool} (hg : Grew (ent si) s) (e : a = b) (h : K (.bool b) si) : wfin si K (.bool a) s := by
  subst e
  exact fin_flat rfl hg h
theorem wgLetter : ClsOk ro 41 letN := fun n s K => by
  refine callEq (call_wp b41 rfl ?_) K
  rw [n41]
  unfold v41
  simp (maxSteps := 10000000) only [wW, reduceCtorEq, Nat.reduceEqDiff]
  by_cases h1 : n ≥ 97 <;> by_cases h2 : n ≤ 122 <;> by_cases h3 : n ≥ 65 <;> by_cases h4 : n ≤ 90 <;> simp only [h1, h2, h3, h4, if_true, if_false, decide_true, decide_false]
  all_goals exact fin_B (.refl _) (by unfold letN; simp; omega) ⟨rfl, rfl⟩
theorem wgDigit : ClsOk ro 44 digN := fun n s K => by
  refine callEq (call_wp b44 rfl ?_) K
  rw [n44]
  unfold v44
  simp (maxSteps := 10000000) only [wW, reduceCtorEq, Nat.reduceEqDiff]
  by_cases h1 : n ≥ 48 <;> by_cases h2 : n ≤ 57 <;> simp only [h1, h2, if_true, if_false, decide_true, decide_false]
  all_goals exact fin_B (.refl _) (by unfold digN; simp; omega) ⟨rfl, rfl⟩
theorem wgInside : ClsOk ro 42 insN := fun n s K => by
  refine callEq (call_wp b42 rfl ?_) K
  rw [n42]
  unfold v42
  simp (maxSteps := 10000000) only [wW, reduceCtorEq, Nat.reduceEqDiff, wgLetter n, wgDigit n]
  cases h1 : letN n <;> cases h2 : digN n <;> simp only [if_true, if_false, Bool.false_eq_true]
  all_goals exact fin_B (.refl _) (by unfold insN; rw [h1]; try rw [h2]
                                      simp) ⟨rfl, rfl⟩
theorem wgBlank : ClsOk ro 38 blaN := fun n s K => by
  refine callEq (call_wp b38 rfl ?_) K
  rw [n38]
  unfold v38
  simp (maxSteps := 10000000) only [wW, reduceCtorEq, Nat.reduceEqDiff]
  by_cases h1 : n = 32
  · rw [if_pos h1]
    exact fin_B (.refl _) (by unfold blaN; simp [h1]) ⟨rfl, rfl⟩
  rw [if_neg h1]
  by_cases h2 : n = 9
  · rw [if_pos h2]
    exact fin_B (.refl _) (by unfold blaN; simp [h2]) ⟨rfl, rfl⟩
  rw [if_neg h2]
  by_cases h3 : n = 13
  · rw [if_pos h3]
    exact fin_B (.refl _) (by unfold blaN; simp [h3]) ⟨rfl, rfl⟩
  rw [if_neg h3]
  exact fin_B (.refl _) (by unfold blaN; simp [h1, h2, h3]) ⟨rfl, rfl⟩
theorem wgNlf : ClsOk ro 40 nlfN := fun n s K => by
  refine callEq (call_wp b40 rfl ?_) K
  rw [n40]
  unfold v40
  simp (maxSteps := 10000000) only [wW, reduceCtorEq, Nat.reduceEqDiff]
  exact fin_B (.refl _) rfl ⟨rfl, rfl⟩
variable {s : St} {K : Value → St → Prop}
theorem takeWhile_all {α : Type} {p : α → Bool} : ∀ {l : List α}, (∀ x ∈ l, p x = true) → l.takeWhile p = l
  | [], _ => rfl
  | x :: l, h => by
    rw [List.takeWhile_cons, if_pos (h x List.mem_cons_self), takeWhile_all fun y hy => h y (List.mem_cons_of_mem _ hy)]
theorem takeWhile_at {α : Type} {p : α → Bool} : ∀ {l : List α} {i : Nat} {x : α}, (∀ j y, j < i → l[j]? = some y → p y = true) → l[i]? = some x → p x = false → l.takeWhile p = l.take i
  | [], i, x, _, hx, _ => by cases hx
  | y :: l, 0, x, _, hx, hp => by
    have : y = x := by simpa using hx
    subst this
    rw [List.takeWhile_cons, hp]; rfl
  | y :: l, i + 1, x, h, hx, hp => by
    rw [List.takeWhile_cons, if_pos (h 0 y (by omega) rfl), List.take_succ_cons, takeWhile_at (i := i) (fun j z hj hz => h (j + 1) z (by omega) (by simpa using hz)) (by simpa using hx) hp]
theorem wRun {F : FuncId} {p : Int → Bool} (hF : ClsOk ro F p) (l : List UInt8) (hl : l.length < 2 ^ 63) : CallWP P ro 37 [tx l, .func (.func F) (.mk []) (.mk [])] s K = K (tx (l.takeWhile fun b => p (bz b))) s := by
  refine callEq (call_wp b37 rfl ?_) K
  rw [n37]
  unfold v37
  simp (maxSteps := 10000000) only [wW, reduceCtorEq, Nat.reduceEqDiff, len_tx]
  refine wloop l37_10100 m37_10100 (fun (i : Nat) τ ds s' => i ≤ l.length ∧ τ 0 = tx l ∧ τ 1 = .func (.func F) (.mk []) (.mk []) ∧ τ 7 = .int .i64 l.length ∧ τ 8 = .int .i64 i ∧ ds = [] ∧ s' = ent s ∧ ∀ (j : Nat) (y : UInt8), j < i → l[j]? = some y → p (bz y) = true) (fun i => l.length - i) ?_ 0 ⟨Nat.zero_le _, ?_, ?_, ?_, ?_, rfl, rfl, fun j y (h : j < 0) => absurd h (Nat.not_lt_zero j)⟩
  · rintro i τ ds s' ⟨hi, t0, t1, t7, t8, rfl, rfl, hall⟩
    rw [n37_10100]
    unfold v37_10100
    simp (maxSteps := 10000000) only [wW, reduceCtorEq, Nat.reduceEqDiff, t0, t1, t7, t8]
    by_cases hlt : i < l.length
    · have hget : l[i]? = some l[i] := List.getElem?_eq_getElem hlt
      rw [if_pos (by omega), ix_tx hget]
      simp (maxSteps := 10000000) only [wW, reduceCtorEq, Nat.reduceEqDiff, List.nil_append, List.append_nil, hF _]
      cases hp : p (bz l[i]) with
      | false =>
        simp only [Bool.not_false, if_true]
        rw [hi_tx hi]
        simp (maxSteps := 10000000) only [wW, reduceCtorEq, Nat.reduceEqDiff, r37]
        refine fin_flat rfl (.refl _) ⟨?_, rfl⟩
        rw [takeWhile_at hall hget hp]
        rfl
      | true =>
        simp only [Bool.not_true, Bool.false_eq_true, if_false]
        rw [wrap_i64 (by omega) (by omega)]
        refine ⟨i + 1, by omega, by omega, ?_, ?_, ?_, ?_, trivial, trivial, fun j y hj hy => ?_⟩
        · simp only [U, tset_eq, wW, reduceCtorEq, Nat.reduceEqDiff, t0]
        · simp only [U, tset_eq, wW, reduceCtorEq, Nat.reduceEqDiff, t1]
        · simp only [U, tset_eq, wW, reduceCtorEq, Nat.reduceEqDiff, t7]
        · simp only [U, tset_eq, wW, reduceCtorEq, Nat.reduceEqDiff]; rfl
        · by_cases e : j = i
          · subst e
            rw [hget] at hy
            cases hy
            exact hp
          · exact hall j y (by omega) hy
    · rw [if_neg (by omega)]
      refine fin_flat (by simp only [U, tset_eq, wW, reduceCtorEq, Nat.reduceEqDiff, t0]; rfl) (.refl _) ⟨?_, rfl⟩
      simp only [U, tset_eq, wW, reduceCtorEq, Nat.reduceEqDiff, t0]
      rw [takeWhile_all (l := l) fun x hx => ?_]
      obtain ⟨j, hj⟩ := List.getElem?_of_mem hx
      have hjl : j < l.length := (List.getElem?_eq_some_iff.1 hj).1
      exact hall j x (by omega) hj
  · simp only [U, tset_eq, wW, reduceCtorEq, Nat.reduceEqDiff]
  · simp only [U, tset_eq, wW, reduceCtorEq, Nat.reduceEqDiff]
  · simp only [U, tset_eq, wW, reduceCtorEq, Nat.reduceEqDiff]
  · simp only [U, tset_eq, wW, reduceCtorEq, Nat.reduceEqDiff]; rfl
theorem wHasPrefix (l m : List UInt8) (hl : l.length < 2 ^ 63) (hm : m.length < 2 ^ 63) : CallWP P ro 39 [tx l, tx m] s K = K (.bool (decide (l.take m.length = m))) s := by
  refine callEq (call_wp b39 rfl ?_) K
  rw [n39]
  unfold v39
  have h2 : ∀ (s : St) (K : Value → St → Prop), CallWP P ro 49 [tx l, tx m] s K = K (.bool (decide (l.take m.length = m))) s := fun s K => by
    refine callEq (call_wp b49 rfl ?_) K
    rw [n49]
    unfold v49
    simp (maxSteps := 10000000) only [wW, reduceCtorEq, Nat.reduceEqDiff, len_tx]
    by_cases h : m.length ≤ l.length
    · rw [if_pos (by omega), hi_tx h, eql_tx]
      exact fin_B (.refl _) rfl ⟨rfl, rfl⟩
    · rw [if_neg (by omega)]
      refine fin_B (.refl _) ?_ ⟨rfl, rfl⟩
      rw [decide_eq_false]
      intro e
      have := congrArg List.length e
      rw [List.length_take] at this
      omega
  simp (maxSteps := 10000000) only [wW, reduceCtorEq, Nat.reduceEqDiff, h2]
  exact fin_B (.refl _) rfl ⟨rfl, rfl⟩
def rest : Bool → List UInt8 → List UInt8
  | _, [] => []
  | false, c :: l => if blaN (bz c) then rest false l else if c = 35 then rest true l else c :: l
  | true, c :: l => if nlfN (bz c) then rest true l else rest false l
theorem rest_len : ∀ (b : Bool) (l : List UInt8), (rest b l).length ≤ l.length
  | _, [] => by simp [rest]
  | false, c :: l => by
    unfold rest
    have h1 := rest_len false l
    have h2 := rest_len true l
    split
    · simp; omega
    · split
      · simp; omega
      · exact Nat.le_refl _
  | true, c :: l => by
    unfold rest
    have h1 := rest_len false l
    have h2 := rest_len true l
    split <;> simp <;> omega
theorem rest_drop : ∀ (b : Bool) (l : List UInt8), ∃ k, k ≤ l.length ∧ rest b l = l.drop k
  | _, [] => ⟨0, Nat.le_refl _, rfl⟩
  | false, c :: l => by
    unfold rest
    split
    · obtain ⟨k, h1, h2⟩ := rest_drop false l
      exact ⟨k + 1, by simp; omega, by rw [h2]; rfl⟩
    · split
      · obtain ⟨k, h1, h2⟩ := rest_drop true l
        exact ⟨k + 1, by simp; omega, by rw [h2]; rfl⟩
      · exact ⟨0, Nat.zero_le _, rfl⟩
  | true, c :: l => by
    unfold rest
    split
    · obtain ⟨k, h1, h2⟩ := rest_drop true l
      exact ⟨k + 1, by simp; omega, by rw [h2]; rfl⟩
    · obtain ⟨k, h1, h2⟩ := rest_drop false l
      exact ⟨k + 1, by simp; omega, by rw [h2]; rfl⟩
theorem drop_tw {α : Type} {p : α → Bool} : ∀ (l : List α), l.drop (l.takeWhile p).length = l.dropWhile p
  | [] => rfl
  | x :: l => by
    rw [List.takeWhile_cons, List.dropWhile_cons]
    split
    · rw [List.length_cons, List.drop_succ_cons, drop_tw l]
    · rfl
theorem tw_len {α : Type} {p : α → Bool} (l : List α) : (l.takeWhile p).length ≤ l.length := (List.takeWhile_sublist p).length_le
theorem dw_len {α : Type} {p : α → Bool} (l : List α) : (l.dropWhile p).length ≤ l.length := (List.dropWhile_sublist p).length_le
theorem rest_bl : ∀ (l : List UInt8), rest false l = rest false (l.dropWhile fun b => blaN (bz b))
  | [] => rfl
  | c :: l => by
    rw [List.dropWhile_cons]
    split
    · rename_i h
      rw [← rest_bl l, rest, if_pos h]
    · rfl
theorem rest_rm : ∀ (l : List UInt8), rest true l = rest false (l.dropWhile fun b => nlfN (bz b))
  | [] => rfl
  | c :: l => by
    rw [List.dropWhile_cons]
    split
    · rename_i h
      rw [← rest_rm l, rest, if_pos h]
    · rename_i h
      have hc : nlfN (bz c) = false := by simpa using h
      show (if nlfN (bz c) then rest true l else rest false l) = (if blaN (bz c) then rest false l else if c = 35 then rest true l else c :: l)
      rw [if_neg (by rw [hc]; decide), if_pos]
      unfold nlfN at hc
      unfold blaN
      have h10 : bz c = 10 := by simpa using hc
      rw [h10]; rfl
theorem dw_head {α : Type} {p : α → Bool} : ∀ {l : List α} {x : α} {r : List α}, l.dropWhile p = x :: r → p x = false
  | [], _, _, h => by cases h
  | y :: l, x, r, h => by
    rw [List.dropWhile_cons] at h
    split at h
    · exact dw_head h
    · rename_i hp
      cases h
      simpa using hp
theorem wIdle (l : List UInt8) (hl : l.length < 2 ^ 63) : CallWP P ro 25 [tx l] s K = K (.int .i64 ((l.length - (rest false l).length : Nat) : Int)) s := by
  refine callEq (call_wp b25 rfl ?_) K
  rw [n25]
  unfold v25
  simp (maxSteps := 10000000) only [wW, reduceCtorEq, Nat.reduceEqDiff]
  refine wloop l25_1100 m25_1100 (fun (r : List UInt8) τ ds s' => r.length ≤ l.length ∧ rest false r = rest false l ∧ τ 0 = tx l ∧ τ 3 = tx r ∧ ds = [] ∧ s' = ent s) (fun r => r.length) ?_ l ⟨Nat.le_refl _, rfl, ?_, ?_, rfl, rfl⟩
  · rintro r τ ds s' ⟨hr, he, t0, t3, rfl, rfl⟩
    rw [n25_1100]
    unfold v25_1100
    have hd := dw_len (p := fun b => blaN (bz b)) r
    have hb := rest_bl r
    simp (maxSteps := 10000000) only [wW, reduceCtorEq, Nat.reduceEqDiff, t0, t3, wRun wgBlank r (by omega), len_tx]
    rw [lo_tx (tw_len r), drop_tw, wHasPrefix _ [35] (by omega) (by decide)]
    simp (maxSteps := 10000000) only [wW, reduceCtorEq, Nat.reduceEqDiff, len_tx]
    generalize hR : (r.dropWhile fun b => blaN (bz b)) = R at hd hb ⊢
    cases R with
    | nil =>
      rw [if_pos (by simp)]
      simp (maxSteps := 10000000) only [wW, reduceCtorEq, Nat.reduceEqDiff, r25]
      refine fin_flat rfl (.refl _) ⟨?_, rfl⟩
      simp only [U, tset_eq, wW, reduceCtorEq, Nat.reduceEqDiff]
      rw [wrap_i64 (by simp <;> omega) (by simp <;> omega), ← he, hb]
      simp [rest]
    | cons c R =>
      have hc := dw_head hR
      by_cases h35 : c = 35
      · subst h35
        rw [if_neg (by simp), wRun wgNlf _ (by omega)]
        simp (maxSteps := 10000000) only [wW, reduceCtorEq, Nat.reduceEqDiff, len_tx]
        rw [lo_tx (tw_len _), drop_tw]
        have hd2 := dw_len (p := fun b => nlfN (bz b)) (35 :: R)
        have hc2 : nlfN (bz 35) = true := rfl
        have e1 : ((35 :: R).dropWhile fun b => nlfN (bz b)) = R.dropWhile fun b => nlfN (bz b) := by rw [List.dropWhile_cons, if_pos hc2]
        have hd3 := dw_len (p := fun b => nlfN (bz b)) R
        rw [e1]
        refine ⟨R.dropWhile fun b => nlfN (bz b), ?_, ?_, ?_, ?_, ?_, by first | trivial | rfl, by first | trivial | rfl⟩
        · rw [List.length_cons] at hd; omega
        · rw [List.length_cons] at hd; omega
        · rw [← he, hb, ← rest_rm]
          have : blaN (bz 35) = false := rfl
          rw [rest, if_neg (by rw [this]; decide), if_pos rfl]
        · simp only [U, tset_eq, wW, reduceCtorEq, Nat.reduceEqDiff, t0]
        · simp only [U, tset_eq, wW, reduceCtorEq, Nat.reduceEqDiff]
      · rw [if_pos (by simp [h35])]
        simp (maxSteps := 10000000) only [wW, reduceCtorEq, Nat.reduceEqDiff, r25]
        refine fin_flat rfl (.refl _) ⟨?_, rfl⟩
        simp only [U, tset_eq, wW, reduceCtorEq, Nat.reduceEqDiff]
        have e2 : rest false (c :: R) = c :: R := by rw [rest, if_neg (by rw [hc]; decide), if_neg h35]
        rw [wrap_i64 (by omega) (by omega), ← he, hb, e2]
        congr 1
        omega
  · simp only [U, tset_eq, wW, reduceCtorEq, Nat.reduceEqDiff]
  · simp only [U, tset_eq, wW, reduceCtorEq, Nat.reduceEqDiff]
end
end Go.VE
/- Chapter 20: signs, first. -/
namespace Go.VE
open Go Go.Proofs
set_option maxRecDepth 20000
def sigKeys : List (List UInt8) := [[43], [45], [42], [61], [61, 61], [46, 46], [44], [59], [40], [41], [91], [93], [123], [125]]
def sigEs (l : List (List UInt8)) (n : Nat) : List MapEntry := (l.take n).zipIdx.map fun x => { key := tx x.1, val := .bool true, born := x.2 }
theorem same_tx (a b : List UInt8) : Instr.sameNow .string (tx a) (tx b) = some (decide (a = b)) := by
  have h : Instr.sameNow .string (tx a) (tx b) = some ((Array.mk a) == (Array.mk b)) := rfl
  rw [h]
  congr 1
  rw [Bool.eq_iff_iff, beq_iff_eq, decide_eq_true_eq]
  constructor
  · intro e; simpa using e
  · rintro rfl; rfl
theorem find_tx (k : List UInt8) : ∀ (ks : List (List UInt8)) (b i : Nat), ∃ j, Instr.findNow .string (tx k) ((ks.zipIdx b).map fun x => { key := tx x.1, val := .bool true, born := x.2 }) i = some (if k ∈ ks then some (j, .bool true) else none)
  | [], _, _ => ⟨0, rfl⟩
  | l :: ks, b, i => by
    rw [List.zipIdx_cons, List.map_cons]
    unfold Instr.findNow
    simp only [same_tx]
    by_cases e : k = l
    · subst e
      rw [decide_eq_true rfl]
      exact ⟨i, by rw [if_pos List.mem_cons_self]⟩
    · rw [decide_eq_false e]
      obtain ⟨j, hj⟩ := find_tx k ks (b + 1) (i + 1)
      refine ⟨j, ?_⟩
      simp only [hj, List.mem_cons, e, false_or]
theorem insert_rule {P : Program} [Memo] {ro : Nat} {t : TypeId} {kt et : TypeId} {s : St} {A clock : Nat} {es : List MapEntry} {k v : Value} {ty : TypeId} {K : Value → St → Prop} (ht : mapTypes P t = some (.string, kt, et)) (hA : s.at A = some (.map es clock)) (hw : Wf s) (hro : ro ≤ A) (hk : keyOk .string k = true) (hf : Instr.findNow .string k es 0 = some none)
    (hK : ∀ s', Put s A (.map (es ++ [{ key := k, val := v, born := clock }]) (clock + 1)) s' → K undef s') : wop P ro (.insert t (.const (.map (some A))) (.const k) (.const v)) ty s K := by
  show wfol P ro K (skipSt (amapPut P ro s t (.map (some A)) k v))
  rw [wfol_skip]
  unfold amapPut
  simp only [ht, hA, amapPut1, Nat.ble_eq_true_of_le hro, hk, Bool.and_self, cond_true, hf, amapPut2, wopt_some]
  exact hK _ (.mk' hw (St.at_lt hA) _)
section
variable {ro : Nat} {s : St} {K : Value → St → Prop}
theorem mt_sig : mapTypes P 65 = some (.string, 9, 4) := by kernel_rfl
theorem wSigns (hw : Wf s) (hro : ro ≤ s.n) (hk : ∀ A s', Grew s s' → Wf s' → s'.at A = some (.map (sigEs sigKeys 14) 14) → K (.map (some A)) s') : CallWP P ro 46 [] s K := by
  refine call_wp b46 rfl ?_
  rw [n46]
  unfold v46
  simp (maxSteps := 10000000) only [wW, reduceCtorEq, Nat.reduceEqDiff]
  rw [wop_makeMap (by kernel_rfl)]
  have m0 := Made.mk' hw.ent (.map [] 0)
  generalize (ent s).new (.map [] 0) = s0 at m0 ⊢
  have e0 := m0.n
  have hn0 : (ent s).n = s.n := rfl
  rw [hn0] at m0 e0 ⊢
  have hA0 : s0.at s.n = some (.map (sigEs sigKeys 0) 0) := m0.here
  refine insert_rule mt_sig hA0 m0.wf hro rfl (by kernel_rfl) fun s1 p1 => ?_
  have g1 : Grew (ent s) s1 := p1.grew _ hw.ent m0.grew (Nat.le_refl _)
  have hA1 : s1.at s.n = some (.map (sigEs sigKeys 1) 1) := p1.here
  refine insert_rule mt_sig hA1 p1.wf hro rfl (by kernel_rfl) fun s2 p2 => ?_
  have g2 : Grew (ent s) s2 := p2.grew _ hw.ent g1 (Nat.le_refl _)
  have hA2 : s2.at s.n = some (.map (sigEs sigKeys 2) 2) := p2.here
  refine insert_rule mt_sig hA2 p2.wf hro rfl (by kernel_rfl) fun s3 p3 => ?_
  have g3 : Grew (ent s) s3 := p3.grew _ hw.ent g2 (Nat.le_refl _)
  have hA3 : s3.at s.n = some (.map (sigEs sigKeys 3) 3) := p3.here
  refine insert_rule mt_sig hA3 p3.wf hro rfl (by kernel_rfl) fun s4 p4 => ?_
  have g4 : Grew (ent s) s4 := p4.grew _ hw.ent g3 (Nat.le_refl _)
  have hA4 : s4.at s.n = some (.map (sigEs sigKeys 4) 4) := p4.here
  refine insert_rule mt_sig hA4 p4.wf hro rfl (by kernel_rfl) fun s5 p5 => ?_
  have g5 : Grew (ent s) s5 := p5.grew _ hw.ent g4 (Nat.le_refl _)
  have hA5 : s5.at s.n = some (.map (sigEs sigKeys 5) 5) := p5.here
  refine insert_rule mt_sig hA5 p5.wf hro rfl (by kernel_rfl) fun s6 p6 => ?_
  have g6 : Grew (ent s) s6 := p6.grew _ hw.ent g5 (Nat.le_refl _)
  have hA6 : s6.at s.n = some (.map (sigEs sigKeys 6) 6) := p6.here
  refine insert_rule mt_sig hA6 p6.wf hro rfl (by kernel_rfl) fun s7 p7 => ?_
  have g7 : Grew (ent s) s7 := p7.grew _ hw.ent g6 (Nat.le_refl _)
  have hA7 : s7.at s.n = some (.map (sigEs sigKeys 7) 7) := p7.here
  refine insert_rule mt_sig hA7 p7.wf hro rfl (by kernel_rfl) fun s8 p8 => ?_
  have g8 : Grew (ent s) s8 := p8.grew _ hw.ent g7 (Nat.le_refl _)
  have hA8 : s8.at s.n = some (.map (sigEs sigKeys 8) 8) := p8.here
  refine insert_rule mt_sig hA8 p8.wf hro rfl (by kernel_rfl) fun s9 p9 => ?_
  have g9 : Grew (ent s) s9 := p9.grew _ hw.ent g8 (Nat.le_refl _)
  have hA9 : s9.at s.n = some (.map (sigEs sigKeys 9) 9) := p9.here
  refine insert_rule mt_sig hA9 p9.wf hro rfl (by kernel_rfl) fun s10 p10 => ?_
  have g10 : Grew (ent s) s10 := p10.grew _ hw.ent g9 (Nat.le_refl _)
  have hA10 : s10.at s.n = some (.map (sigEs sigKeys 10) 10) := p10.here
  refine insert_rule mt_sig hA10 p10.wf hro rfl (by kernel_rfl) fun s11 p11 => ?_
  have g11 : Grew (ent s) s11 := p11.grew _ hw.ent g10 (Nat.le_refl _)
  have hA11 : s11.at s.n = some (.map (sigEs sigKeys 11) 11) := p11.here
  refine insert_rule mt_sig hA11 p11.wf hro rfl (by kernel_rfl) fun s12 p12 => ?_
  have g12 : Grew (ent s) s12 := p12.grew _ hw.ent g11 (Nat.le_refl _)
  have hA12 : s12.at s.n = some (.map (sigEs sigKeys 12) 12) := p12.here
  refine insert_rule mt_sig hA12 p12.wf hro rfl (by kernel_rfl) fun s13 p13 => ?_
  have g13 : Grew (ent s) s13 := p13.grew _ hw.ent g12 (Nat.le_refl _)
  have hA13 : s13.at s.n = some (.map (sigEs sigKeys 13) 13) := p13.here
  refine insert_rule mt_sig hA13 p13.wf hro rfl (by kernel_rfl) fun s14 p14 => ?_
  have g14 : Grew (ent s) s14 := p14.grew _ hw.ent g13 (Nat.le_refl _)
  have hA14 : s14.at s.n = some (.map (sigEs sigKeys 14) 14) := p14.here
  refine wfin_new hw g14 rfl fun s15 g15 _ hat => hk s.n s15 g15 (hw.grew g15) ?_
  rw [hat]; exact hA14
theorem lookup_sig {A : Nat} (hA : s.at A = some (.map (sigEs sigKeys 14) 14)) (l : List UInt8) (ty : TypeId) : wop P ro (.lookup 65 (.const (.map (some A))) (.const (tx l)) false) ty s K = K (.bool (decide (l ∈ sigKeys))) s := by
  obtain ⟨i, hi, _, _, hz, hf, _⟩ := tyOk_spec ty_4
  obtain ⟨j, hj⟩ := find_tx l sigKeys 0 0
  have e : alookup P s 65 (.map (some A)) (tx l) false = some (.bool (decide (l ∈ sigKeys))) := by
    unfold alookup
    have hk : keyOk .string (tx l) = true := rfl
    have hj' : Instr.findNow .string (tx l) (sigEs sigKeys 14) 0 = _ := hj
    simp only [mt_sig, hi, hz, Option.bind_some, ament, hA, hf, hk, Bool.and_self, cond_true, hj', Option.map_some]
    by_cases h : l ∈ sigKeys
    · simp only [h, if_true, decide_true]; rfl
    · simp only [h, if_false, decide_false]; rfl
  show wfol P ro K (withSt s (alookup P s 65 (.map (some A)) (tx l) false)) = _
  rw [wfol_with, e, wopt_some]
end
end Go.VE
/- Chapter 20: first. -/
namespace Go.VE
open Go Go.Proofs
set_option maxRecDepth 20000
structure Tk where
  k : Int
  t : List UInt8
  n : Int
  a : Int
def Tk.cells (x : Tk) : List Value := [.int .u8 x.k, tx x.t, .int .u64 x.n, .int .i64 x.a]
def Tk.zero : Tk := ⟨0, [], 0, 0⟩
def sgs1 : List UInt8 := [43, 45, 42, 61, 44, 59, 40, 41, 91, 93, 123, 125]
def isSig2 (l : List UInt8) : Bool := decide (l.take 2 = [61, 61]) || decide (l.take 2 = [46, 46])
def isSig1 (l : List UInt8) : Bool := match l with
  | [] => false
  | c :: _ => sgs1.contains c
def signL (l : List UInt8) : Nat := if isSig2 l then 2 else if isSig1 l then 1 else 0
def valN (a : Nat) : List UInt8 → Nat
  | [] => a
  | c :: r => valN (a * 10 + (c.toNat - 48)) r
def firstM (l : List UInt8) : Tk × Int :=
  match l with
  | [] => (Tk.zero, 4)
  | c :: r =>
    if letN (bz c) then
      (if ((c :: r).takeWhile fun b => insN (bz b)).length > 20 then (Tk.zero, 3) else (⟨1, (c :: r).takeWhile fun b => insN (bz b), 0, 0⟩, 0))
    else if digN (bz c) then
      (if c = 48 ∧ ((c :: r).takeWhile fun b => digN (bz b)).length > 1 then (Tk.zero, 4)
      else if ((c :: r).takeWhile fun b => digN (bz b)).length > 18 then (Tk.zero, 3)
      else (⟨2, (c :: r).takeWhile fun b => digN (bz b), valN 0 ((c :: r).takeWhile fun b => digN (bz b)), 0⟩, 0))
    else if signL (c :: r) = 0 then (Tk.zero, 4) else (⟨3, (c :: r).take (signL (c :: r)), 0, 0⟩, 0)
theorem sig2 {l : List UInt8} (h : 2 ≤ l.length) : l.take 2 ∈ sigKeys ↔ isSig2 l = true := by
  match l, h with
  | a :: b :: r, _ => simp [sigKeys, isSig2]
theorem sig1 {c : UInt8} {r : List UInt8} : (c :: r).take 1 ∈ sigKeys ↔ isSig1 (c :: r) = true := by
  simp [sigKeys, isSig1, sgs1]
theorem parse_val : ∀ (l : List UInt8) (a m : Nat), (∀ c ∈ l, digN (bz c) = true) → a < 10 ^ m → m + l.length ≤ 18 → Lib.parseUintM (2 ^ 64 - 1) a l = .ok (valN a l)
  | [], a, m, _, _, _ => rfl
  | c :: r, a, m, hd, h, hm => by
    have hc := hd c List.mem_cons_self
    have hbz : bz c = ((c.toNat : Nat) : Int) := rfl
    unfold digN at hc
    simp at hc
    rw [List.length_cons] at hm
    have hp : 10 ^ m ≤ 10 ^ 17 := Nat.pow_le_pow_right (by decide) (by omega)
    unfold Lib.parseUintM
    rw [if_pos ⟨by omega, by omega⟩, if_neg (by omega), if_neg (by omega)]
    exact parse_val r _ (m + 1) (fun x hx => hd x (List.mem_cons_of_mem _ hx)) (by rw [Nat.pow_succ]; omega) (by omega)
theorem parse_ok {l : List UInt8} (hne : l ≠ []) (hd : ∀ c ∈ l, digN (bz c) = true) (hl : l.length ≤ 18) : Lib.parseUintB 64 l = .ok (valN 0 l) := by
  unfold Lib.parseUintB
  rw [if_neg hne]
  exact parse_val l 0 0 hd (by decide) (by omega)
theorem tw_mem {α : Type} {p : α → Bool} : ∀ {l : List α} {x : α}, x ∈ l.takeWhile p → p x = true
  | y :: l, x, h => by
    rw [List.takeWhile_cons] at h
    split at h
    · rename_i hp
      rcases List.mem_cons.1 h with rfl | h
      · exact hp
      · exact tw_mem h
    · cases h
  | [], _, h => by cases h
section
variable {ro : Nat} {s : St} {K : Value → St → Prop}
theorem wClone (l : List UInt8) (h : l.length ≤ 281474976710656) : CallWP P ro 43 [tx l] s K = K (tx l) s := by
  refine callEq (call_wp b43 rfl ?_) K
  rw [n43]
  unfold v43
  simp (maxSteps := 10000000) only [wW, reduceCtorEq, Nat.reduceEqDiff]
  have hk : mlook (ent s) 50 [tx l] = some (tx l) := by
    have e : lookCl [tx l] = some (tx l) := by
      unfold lookCl
      exact if_pos h
    show (match lookCl [tx l] with | some v => some v | none => _) = _
    rw [e]
  exact call_known hk (fin_flat rfl (.refl _) ⟨rfl, rfl⟩)
theorem wParse {l : List UInt8} (hne : l ≠ []) (hd : ∀ c ∈ l, digN (bz c) = true) (hl : l.length ≤ 18) : CallWP P ro 45 [tx l, .int .i64 10, .int .i64 64] s K = K (.tuple (.mk [.int .u64 (valN 0 l), .nilIface])) s := by
  refine callEq (call_known ?_ ⟨rfl, rfl⟩) K
  have e : lookPu [tx l, .int .i64 10, .int .i64 64] = some (.tuple (.mk [.int .u64 (valN 0 l), .nilIface])) := by
    unfold lookPu
    simp only
    rw [if_pos ⟨by decide, by show l.length ≤ _; omega⟩]
    have hp : Lib.parseUintB 64 (ByteArray.mk (Array.mk l)).data.toList = .ok (valN 0 l) := parse_ok hne hd hl
    rw [hp]
  show (match lookPu [tx l, .int .i64 10, .int .i64 64] with | some v => some v | none => _) = _
  rw [e]
theorem min_i64 (a b : Int) (ty : TypeId) (s : St) (K : Value → St → Prop) : wop P ro (.call ⟨.builtin .min, ⟨[.const (.int .i64 a), .const (.int .i64 b)]⟩, #[3, 3]⟩) ty s K = K (.int .i64 (if b < a then b else a)) s := by kernel_rfl
theorem bld0 : abuild P 35 (partVals .e []) = some (.agg (.mk Tk.zero.cells)) := by kernel_rfl
theorem bld2 (k : Int) (t : List UInt8) : abuild P 35 (partVals .e [(0, .const (.int .u8 k)), (1, .const (tx t))]) = some (.agg (.mk (Tk.cells ⟨k, t, 0, 0⟩))) := by kernel_rfl
theorem bld3 (k n : Int) (t : List UInt8) : abuild P 35 (partVals .e [(0, .const (.int .u8 k)), (1, .const (tx t)), (2, .const (.int .u64 n))]) = some (.agg (.mk (Tk.cells ⟨k, t, n, 0⟩))) := by kernel_rfl
theorem tkOne (x : Tk) : x.cells.all (·.oneCell') = true := rfl
theorem tkLen (x : Tk) : x.cells.length = 4 := rfl
theorem fiEnd {si : St} {Z : Nat} {c : List Value} {x : Tk} {e : Int} {s1 : St} {ty : TypeId} (hZ : s1.at Z = some (.cells c 35 false)) (hcl : c.length = 4) (hw0 : Wf si) (hw : Wf s1) (hg : Grew (ent si) s1) (hle : si.n ≤ Z) (hro : ro ≤ Z) (hK : K (.tuple (.mk [.agg (.mk x.cells), .int .i64 e])) si) :
    wop P ro (.store 35 (.const (ptr Z)) (.const (.agg (.mk x.cells)))) ty s1 fun _ s2 => wop P ro (.load 35 (.const (ptr Z))) 35 s2 fun v _ => wfin si K (.tuple (.mk [v, .int .i64 e])) s2 := by
  refine storeAll_rule isz_35 hZ (l := x.cells) (tkLen x) (by decide) hw hro hcl (tkOne x) fun s2 p2 => ?_
  rw [wop_load, load_all ap_35 p2.here (tkLen x), wopt_some]
  exact fin_flat rfl (p2.grew _ hw0.ent hg hle) hK
theorem fiX {si : St} {Z : Nat} {c : List Value} {x : Tk} {e : Int} {s1 : St} {ty : TypeId} {τ : Tau} {al : AL} (hZ : s1.at Z = some (.cells c 35 false)) (hcl : c.length = 4) (hw0 : Wf si) (hw : Wf s1) (hg : Grew (ent si) s1) (hle : si.n ≤ Z) (hro : ro ≤ Z) (h2 : U τ al 2 = ptr Z) (h3 : U τ al 3 = .int .i64 e) (hK : K (.tuple (.mk [.agg (.mk x.cells), .int .i64 e])) si) :
    wop P ro (.store 35 (.const (ptr Z)) (.const (.agg (.mk x.cells)))) ty s1 fun _ s2 => xleave (prims P ro) si Tryd.f26.results.toList K .ret τ al [] s2 := by
  refine storeAll_rule isz_35 hZ (l := x.cells) (tkLen x) (by decide) hw hro hcl (tkOne x) fun s2 p2 => ?_
  rw [xleave_U, r26, h2, h3]
  simp (maxSteps := 10000000) only [wW, reduceCtorEq, Nat.reduceEqDiff]
  rw [wop_load, load_all ap_35 p2.here (tkLen x), wopt_some]
  exact fin_flat rfl (p2.grew _ hw0.ent hg hle) hK
theorem fiDig {c : UInt8} {r : List UInt8} {Z : Nat} {s1 : St} {b : Bool} (hl : (c :: r).length < 2 ^ 63) (hL : letN (bz c) = false) (hD : digN (bz c) = true) (hb : b = decide (c = 48 ∧ ((c :: r).takeWhile fun b => digN (bz b)).length > 1)) (hZ : s1.at Z = some (.cells Tk.zero.cells 35 false)) (hw0 : Wf s) (hw : Wf s1) (hg : Grew (ent s) s1) (hle : s.n ≤ Z) (hro : ro ≤ Z)
    {τ : Tau} (t29 : τ 29 = .bool b) (t6 : τ 6 = tx ((c :: r).takeWhile fun b => digN (bz b))) (t2 : τ 2 = ptr Z) :
    xp (prims P ro) none 70 k26 c26_101011101001 [1, 0, 0, 1, 0, 1, 1, 1, 0, 1, 0, 1] τ [] [] s1 (blkX 1 (sX (prims P ro) none 70 k26 c26_1010111011 [1, 1, 0, 1, 1, 1, 0, 1, 0, 1] (blkX 0 (sX (prims P ro) none 70 k26 c26_11 [1, 1] (xleave (prims P ro) s Tryd.f26.results.toList fun v s' => v = .tuple (.mk [.agg (.mk (firstM (c :: r)).1.cells), .int .i64 (firstM (c :: r)).2]) ∧ s' = s))))) := by
  have hdt := tw_len (p := fun b => digN (bz b)) (c :: r)
  have hmem : ∀ x ∈ ((c :: r).takeWhile fun b => digN (bz b)), digN (bz x) = true := fun x hx => tw_mem (p := fun b => digN (bz b)) hx
  have hne : ((c :: r).takeWhile fun b => digN (bz b)) ≠ [] := by rw [List.takeWhile_cons, if_pos hD]; exact List.cons_ne_nil _ _
  have hM : firstM (c :: r) = (if c = 48 ∧ ((c :: r).takeWhile fun b => digN (bz b)).length > 1 then (Tk.zero, 4) else if ((c :: r).takeWhile fun b => digN (bz b)).length > 18 then (Tk.zero, 3) else (⟨2, (c :: r).takeWhile fun b => digN (bz b), valN 0 ((c :: r).takeWhile fun b => digN (bz b)), 0⟩, 0)) := by
    simp only [firstM, hL, hD, if_true, Bool.false_eq_true, if_false]
  rw [n26_101011101001]
  unfold v26_101011101001
  generalize hT : ((c :: r).takeWhile fun b => digN (bz b)) = T at hdt hmem hne hM hb t6
  rw [t29, t6, t2, pr_wop]
  cases b with
  | true =>
    have hc := of_decide_eq_true hb.symm
    rw [if_pos hc] at hM
    rw [wdec_true, wop_build, bld0, wopt_some]
    simp only [blkX_r, sX_r]
    refine fiX hZ rfl hw0 hw hg hle hro ?_ ?_ ⟨by rw [hM], rfl⟩
    · simp only [U, tset_eq, wW, reduceCtorEq, Nat.reduceEqDiff, t2]
    · simp only [U, tset_eq, wW, reduceCtorEq, Nat.reduceEqDiff]
  | false =>
    have hc := of_decide_eq_false hb.symm
    rw [if_neg hc] at hM
    rw [wdec_false, len_tx, wop_int, int_gtr keq_i64, wopt_some]
    by_cases h18 : T.length > 18
    · rw [if_pos h18] at hM
      rw [decide_eq_true (by omega), wdec_true, wop_build, bld0, wopt_some]
      simp only [blkX_r, sX_r]
      refine fiX hZ rfl hw0 hw hg hle hro ?_ ?_ ⟨by rw [hM], rfl⟩
      · simp only [U, tset_eq, wW, reduceCtorEq, Nat.reduceEqDiff, t2]
      · simp only [U, tset_eq, wW, reduceCtorEq, Nat.reduceEqDiff]
    · rw [if_neg h18] at hM
      rw [decide_eq_false (by omega), wdec_false, blkX_n, sX_n (QOk.blk (QOk.sX QOk.leave) 0), n26_1010111011]
      unfold v26_1010111011
      have c6 : ∀ al, U τ [(38, .bool false), (38, .bool false), (41, .bool false), (40, .int .i64 T.length), (39, tx T), (29, al)] 6 = tx T := fun al => by simp only [U, tset_eq, wW, reduceCtorEq, Nat.reduceEqDiff, t6]
      have c2 : ∀ al, U τ [(38, .bool false), (38, .bool false), (41, .bool false), (40, .int .i64 T.length), (39, tx T), (29, al)] 2 = ptr Z := fun al => by simp only [U, tset_eq, wW, reduceCtorEq, Nat.reduceEqDiff, t2]
      rw [c6, c2, pr_wop, pr_call, wParse hne hmem (by omega), wop_extract, List.getElem?_cons_zero, wopt_some, wop_extract, List.getElem?_cons_succ, List.getElem?_cons_zero, wopt_some, wClone _ (by omega), wop_build, bld3, wopt_some]
      simp only [blkX_r, sX_r]
      refine fiX hZ rfl hw0 hw hg hle hro ?_ ?_ ⟨by rw [hM], rfl⟩
      · simp only [U, tset_eq, wW, reduceCtorEq, Nat.reduceEqDiff, t2]
      · simp only [U, tset_eq, wW, reduceCtorEq, Nat.reduceEqDiff]
theorem wFirst {l : List UInt8} (hne : l ≠ []) (hl : l.length < 2 ^ 63) (hw : Wf s) (hro : ro ≤ s.n) : CallWP P ro 26 [tx l] s K = K (.tuple (.mk [.agg (.mk (firstM l).1.cells), .int .i64 (firstM l).2])) s := by
  refine callEq (call_wp b26 rfl ?_) K
  rw [n26]
  unfold v26
  obtain ⟨c, r, rfl⟩ : ∃ c r, l = c :: r := by cases l with
    | nil => exact absurd rfl hne
    | cons c r => exact ⟨c, r, rfl⟩
  simp (maxSteps := 10000000) only [wW, reduceCtorEq, Nat.reduceEqDiff]
  refine alloc_rule ty_35 hw.ent fun Z s1 m1 => ?_
  have e1 := m1.eq
  have n1 := m1.n
  have hn0 : (ent s).n = s.n := rfl
  have w1 := m1.wf
  have hZ1 : s1.at Z = some (.cells Tk.zero.cells 35 false) := m1.here
  have hix : ∀ (ty : TypeId) (K : Value → St → Prop), wop P ro (.index 9 (.const (tx (c :: r))) (.const (.int .i64 0))) ty s1 K = K (.int .u8 c.toNat) s1 := fun ty K => ix_tx (i := 0) rfl ty
  rw [hix, wgLetter]
  simp (maxSteps := 10000000) only [wW, reduceCtorEq, Nat.reduceEqDiff]
  have hlt := tw_len (p := fun b => insN (bz b)) (c :: r)
  have hdt := tw_len (p := fun b => digN (bz b)) (c :: r)
  cases hL : letN (bz c) with
  | true =>
    rw [if_pos rfl, wRun wgInside _ (by omega)]
    simp (maxSteps := 10000000) only [wW, reduceCtorEq, Nat.reduceEqDiff, len_tx]
    by_cases hbig : ((c :: r).takeWhile fun b => insN (bz b)).length > 20
    · rw [if_pos (by omega), bld0, wopt_some]
      refine fiEnd hZ1 rfl hw w1 m1.grew (by omega) (by omega) ⟨?_, rfl⟩
      simp only [firstM, hL, if_true, hbig]
    · rw [if_neg (by omega), wClone _ (by omega), bld2, wopt_some]
      refine fiEnd hZ1 rfl hw w1 m1.grew (by omega) (by omega) ⟨?_, rfl⟩
      simp only [firstM, hL, if_true, hbig, if_false]
  | false =>
    rw [if_neg (by decide), wgDigit]
    simp (maxSteps := 10000000) only [wW, reduceCtorEq, Nat.reduceEqDiff]
    cases hD : digN (bz c) with
    | true =>
      rw [if_pos rfl, wRun wgDigit _ (by omega)]
      simp (maxSteps := 10000000) only [wW, reduceCtorEq, Nat.reduceEqDiff, len_tx]
      by_cases h48 : c = 48
      · subst h48
        rw [if_pos (by decide)]
        refine fiDig hl hL hD ?_ hZ1 hw w1 m1.grew (by omega) (by omega) ?_ ?_ ?_ (b := decide ((((48 :: r).takeWhile fun b => digN (bz b)).length : Int) > 1))
        · exact decide_eq_decide.2 ⟨fun h => ⟨rfl, by omega⟩, fun h => by omega⟩
        · simp only [U, tset_eq, wW, reduceCtorEq, Nat.reduceEqDiff]
        · simp only [U, tset_eq, wW, reduceCtorEq, Nat.reduceEqDiff]
        · simp only [U, tset_eq, wW, reduceCtorEq, Nat.reduceEqDiff]
      · rw [if_neg (fun e => h48 (UInt8.toNat_inj.1 (by have : (c.toNat : Int) = 48 := e
                                                        show c.toNat = 48
                                                        omega)))]
        refine fiDig hl hL hD ?_ hZ1 hw w1 m1.grew (by omega) (by omega) ?_ ?_ ?_ (b := false)
        · exact (decide_eq_false fun h => h48 h.1).symm
        · simp only [U, tset_eq, wW, reduceCtorEq, Nat.reduceEqDiff]
        · simp only [U, tset_eq, wW, reduceCtorEq, Nat.reduceEqDiff]
        · simp only [U, tset_eq, wW, reduceCtorEq, Nat.reduceEqDiff]
    | false =>
      have hM : firstM (c :: r) = if signL (c :: r) = 0 then (Tk.zero, 4) else (⟨3, (c :: r).take (signL (c :: r)), 0, 0⟩, 0) := by
        simp only [firstM, hL, hD, Bool.false_eq_true, if_false]
      rw [if_neg (by decide), len_tx, min_i64]
      generalize hcr : c :: r = l at *
      have hl1 : 1 ≤ l.length := by rw [← hcr]; simp
      have short : ¬ 2 ≤ l.length → isSig2 l = false := fun h => by
        unfold isSig2
        have : ∀ a b : UInt8, l.take 2 ≠ [a, b] := fun a b e => by
          have := congrArg List.length e
          rw [List.length_take] at this
          simp at this
          omega
        simp [this]
      obtain ⟨m, hm, hm2, hm3⟩ : ∃ m : Nat, (if (l.length : Int) < 2 then (l.length : Int) else 2) = (m : Int) ∧ m ≤ l.length ∧ (m = 2 ∨ (m = 1 ∧ l.length = 1)) := by
        by_cases h : l.length < 2
        · exact ⟨1, by rw [if_pos (by omega)]; omega, hl1, .inr ⟨rfl, by omega⟩⟩
        · exact ⟨2, by rw [if_neg (by omega)]; rfl, by omega, .inl rfl⟩
      rw [hm]
      refine wloop l26_110100 m26_110100 (fun (i : Nat) τ ds s' => i ≤ m ∧ τ 0 = tx l ∧ τ 2 = ptr Z ∧ τ 9 = .int .i64 i ∧ ds = [] ∧ Wf s' ∧ Grew (ent s) s' ∧ s'.at Z = some (.cells Tk.zero.cells 35 false) ∧ (i < 2 → 2 ≤ l.length → isSig2 l = false) ∧ (i < 1 → isSig1 l = false)) (fun i => i) ?_ m ⟨Nat.le_refl _, ?_, ?_, ?_, rfl, w1, m1.grew, hZ1, fun h h' => by omega, fun h => by omega⟩
      · rintro i τ ds s' ⟨hi, t0, t2, t9, rfl, w', g', hZ', h2, h1⟩
        rw [n26_110100]
        unfold v26_110100
        have gn := g'.n
        simp (maxSteps := 10000000) only [wW, reduceCtorEq, Nat.reduceEqDiff, t0, t2, t9]
        by_cases hi0 : i = 0
        · subst hi0
          rw [if_neg (by decide), bld0, wopt_some]
          have hs : signL l = 0 := by
            have e1 := h1 (by decide)
            have e2 : isSig2 l = false := by
              by_cases h : 2 ≤ l.length
              · exact h2 (by decide) h
              · exact short h
            unfold signL
            rw [e1, e2]; rfl
          rw [hs, if_pos rfl] at hM
          have c2 : U τ [(56, .bool false), (56, .bool (decide (((0 : Nat) : Int) > 0))), (55, .int .i64 ((0 : Nat) : Int))] 2 = ptr Z := by simp only [U, tset_eq, wW, reduceCtorEq, Nat.reduceEqDiff, t2]
          rw [c2]
          exact fiEnd hZ' rfl hw w' g' (by omega) (by omega) ⟨by rw [hM], rfl⟩
        · rw [if_pos (by omega), hi_tx (by omega)]
          refine wSigns w' (by omega) fun A s2 g2 w2 hA => ?_
          rw [lookup_sig hA]
          refine ⟨by simp [veq], ?_⟩
          have hZ2 := (g2.same Z (St.at_lt hZ')).trans hZ'
          have g02 := g'.trans g2
          simp (maxSteps := 10000000) only [wW, reduceCtorEq, Nat.reduceEqDiff]
          have hi12 : i = 1 ∨ i = 2 := by omega
          have s1eq : l.take 1 ∈ sigKeys ↔ isSig1 l = true := by rw [← hcr]; exact sig1
          by_cases hk : l.take i ∈ sigKeys
          · rw [if_pos hk, hi_tx (by omega), wClone _ (by rw [List.length_take]; omega)]
            rw [bld2, wopt_some]
            have hs : signL l = i := by
              rcases hi12 with rfl | rfl
              · have e2 : isSig2 l = false := by
                  by_cases h : 2 ≤ l.length
                  · exact h2 (by decide) h
                  · exact short h
                unfold signL
                rw [e2, s1eq.1 hk]; rfl
              · unfold signL
                rw [(sig2 (by omega)).1 hk]; rfl
            rw [hs, if_neg hi0] at hM
            refine fiX hZ2 rfl hw w2 g02 (by omega) (by omega) ?_ ?_ ⟨by rw [hM], rfl⟩
            · simp only [U, tset_eq, wW, reduceCtorEq, Nat.reduceEqDiff, t2]
            · simp only [U, tset_eq, wW, reduceCtorEq, Nat.reduceEqDiff]
          · rw [if_neg hk, wrap_i64 (by omega) (by omega)]
            refine ⟨i - 1, by omega, by omega, ?_, ?_, ?_, by first | trivial | rfl, w2, g02, hZ2, fun h hl2 => ?_, fun h => ?_⟩
            · simp only [U, tset_eq, wW, reduceCtorEq, Nat.reduceEqDiff, t0]
            · simp only [U, tset_eq, wW, reduceCtorEq, Nat.reduceEqDiff, t2]
            · simp only [U, tset_eq, wW, reduceCtorEq, Nat.reduceEqDiff]
              exact congrArg (Value.int .i64) (by omega)
            · rcases hi12 with rfl | rfl
              · exact h2 (by decide) hl2
              · cases hb : isSig2 l with
                | false => rfl
                | true => exact absurd ((sig2 hl2).2 hb) hk
            · rcases hi12 with rfl | rfl
              · cases hb : isSig1 l with
                | false => rfl
                | true => exact absurd (s1eq.2 hb) hk
              · omega
      · simp only [U, tset_eq, wW, reduceCtorEq, Nat.reduceEqDiff]
      · simp only [U, tset_eq, wW, reduceCtorEq, Nat.reduceEqDiff]
      · simp only [U, tset_eq, wW, reduceCtorEq, Nat.reduceEqDiff]
end
end Go.VE
/- Chapter 20: the reference: skip, the ends, Value, sign. -/
namespace Go.VE
open Go Go.Proofs
set_option maxRecDepth 20000
section
variable {ro : Nat} {s : St} {K : Value → St → Prop}
end
end Go.VE
/- Chapter 20: the reference: the ends, Value, sign, one. -/
namespace Go.VE
open Go Go.Proofs
set_option maxRecDepth 20000
section
variable {ro : Nat} {s : St} {K : Value → St → Prop}
end
end Go.VE
/- Chapter 20: the reference: one. -/
namespace Go.VE
open Go Go.Proofs
set_option maxRecDepth 20000
theorem take_tw {α : Type} {p : α → Bool} : ∀ (l : List α), l.take (l.takeWhile p).length = l.takeWhile p
  | [] => rfl
  | x :: l => by
    rw [List.takeWhile_cons]
    split
    · rw [List.length_cons, List.take_succ_cons, take_tw l]
    · rfl
section
variable {ro : Nat} {s : St} {K : Value → St → Prop}
theorem bld4 (k n a : Int) (t : List UInt8) : abuild P 35 (partVals .e [(0, .const (.int .u8 k)), (1, .const (tx t)), (2, .const (.int .u64 n)), (3, .const (.int .i64 a))]) = some (.agg (.mk (Tk.cells ⟨k, t, n, a⟩))) := by kernel_rfl
end
end Go.VE
/- Chapter 20: all tokens (plain). -/
namespace Go.VE
open Go Go.Proofs
set_option maxRecDepth 20000
abbrev Rs := List Tk × Nat × Int
def toksM : Nat → Nat → List UInt8 → Rs
  | 0, _, _ => ([], 0, 0)
  | f + 1, i, r =>
    if r = [] then ([], 0, 0)
    else if (firstM r).2 ≠ 0 then ([], i, (firstM r).2)
    else
      let t := (firstM r).1.t
      let r2 := rest false (r.drop t.length)
      let y := toksM f (i + (r.length - r2.length)) r2
      if y.2.2 ≠ 0 then ([], y.2.1, y.2.2) else (⟨(firstM r).1.k, t, (firstM r).1.n, i⟩ :: y.1, 0, 0)
def toks (i : Nat) (r : List UInt8) : Rs := toksM (r.length + 1) i r
def tokR (l : List UInt8) : Rs := toks (l.length - (rest false l).length) (rest false l)
theorem first_ok {r : List UInt8} (h : (firstM r).2 = 0) : 1 ≤ (firstM r).1.t.length ∧ (firstM r).1.t = r.take (firstM r).1.t.length ∧ (firstM r).1.t.length ≤ r.length := by
  cases r with
  | nil => exact absurd h (by decide)
  | cons c r =>
    have ht := take_tw (p := fun b => insN (bz b)) (c :: r)
    have hd := take_tw (p := fun b => digN (bz b)) (c :: r)
    have htl := tw_len (p := fun b => insN (bz b)) (c :: r)
    have hdl := tw_len (p := fun b => digN (bz b)) (c :: r)
    unfold firstM at h ⊢
    simp only at h ⊢
    by_cases hL : letN (bz c) = true
    · simp only [hL, if_true] at h ⊢
      have h1 : 1 ≤ ((c :: r).takeWhile fun b => insN (bz b)).length := by
        rw [List.takeWhile_cons, if_pos (by unfold insN; rw [hL]; rfl)]; simp
      split at h
      · exact absurd h (by decide)
      · rename_i hb
        rw [if_neg hb]
        exact ⟨h1, ht.symm, htl⟩
    · simp only [hL, if_false, Bool.false_eq_true] at h ⊢
      by_cases hD : digN (bz c) = true
      · simp only [hD, if_true] at h ⊢
        have h1 : 1 ≤ ((c :: r).takeWhile fun b => digN (bz b)).length := by
          rw [List.takeWhile_cons, if_pos hD]; simp
        split at h
        · exact absurd h (by decide)
        · split at h
          · exact absurd h (by decide)
          · rename_i ha hb
            rw [if_neg ha, if_neg hb]
            exact ⟨h1, hd.symm, hdl⟩
      · simp only [hD, if_false, Bool.false_eq_true] at h ⊢
        split at h
        · exact absurd h (by decide)
        · rename_i hs
          rw [if_neg hs]
          have hs2 : signL (c :: r) ≤ (c :: r).length := by
            unfold signL
            split
            · rename_i h
              cases r with
              | nil => simp [isSig2] at h
              | cons x r => simp
            · rw [List.length_cons]
              split <;> omega
          simp only
          rw [List.length_take]
          refine ⟨by omega, ?_, by omega⟩
          rw [Nat.min_eq_left hs2]
theorem toksM_ok : ∀ (f i : Nat) (r : List UInt8), ((toksM f i r).2.2 ≠ 0 → (toksM f i r).1 = []) ∧ ((toksM f i r).2.2 = 0 → (toksM f i r).2.1 = 0)
  | 0, _, _ => ⟨fun _ => rfl, fun _ => rfl⟩
  | f + 1, i, r => by
    unfold toksM
    split
    · exact ⟨fun _ => rfl, fun _ => rfl⟩
    · split
      · rename_i h
        exact ⟨fun _ => rfl, fun h' => absurd h' h⟩
      · simp only
        split
        · rename_i h
          exact ⟨fun _ => rfl, fun h' => absurd h' h⟩
        · exact ⟨fun h' => absurd rfl h', fun _ => rfl⟩
theorem toksM_fuel : ∀ (f g i : Nat) (r : List UInt8), r.length < f → r.length < g → toksM f i r = toksM g i r
  | 0, _, _, _, h, _ => absurd h (by omega)
  | _ + 1, 0, _, _, _, h => absurd h (by omega)
  | f + 1, g + 1, i, r, hf, hg => by
    unfold toksM
    by_cases hr : r = []
    · rw [if_pos hr, if_pos hr]
    · rw [if_neg hr, if_neg hr]
      by_cases he : (firstM r).2 ≠ 0
      · rw [if_pos he, if_pos he]
      · rw [if_neg he, if_neg he]
        have h1 := first_ok (by simpa using he : (firstM r).2 = 0)
        have h2 := rest_len false (r.drop (firstM r).1.t.length)
        rw [List.length_drop] at h2
        simp only
        rw [toksM_fuel f g _ _ (by omega) (by omega)]
theorem toks_nil (i : Nat) : toks i [] = ([], 0, 0) := rfl
theorem toks_err {i : Nat} {r : List UInt8} (hr : r ≠ []) (he : (firstM r).2 ≠ 0) : toks i r = ([], i, (firstM r).2) := by
  unfold toks toksM
  rw [if_neg hr, if_pos he]
def comb (acc : List Tk) (y : Rs) : Rs := if y.2.2 ≠ 0 then ([], y.2.1, y.2.2) else (acc ++ y.1, 0, 0)
theorem comb_nil (i : Nat) (r : List UInt8) : comb [] (toks i r) = toks i r := by
  have h := toksM_ok (r.length + 1) i r
  unfold comb
  split
  · rename_i he
    have := h.1 he
    show ([], _, _) = toks i r
    exact Prod.ext this.symm (Prod.ext rfl rfl)
  · rename_i he
    have he' : (toks i r).2.2 = 0 := by simpa using he
    exact Prod.ext rfl (Prod.ext (h.2 he').symm he'.symm)
theorem toks_step {i : Nat} {r : List UInt8} {acc : List Tk} (hr : r ≠ []) (he : (firstM r).2 = 0) : comb acc (toks i r) = comb (acc ++ [⟨(firstM r).1.k, (firstM r).1.t, (firstM r).1.n, i⟩]) (toks (i + (r.length - (rest false (r.drop (firstM r).1.t.length)).length)) (rest false (r.drop (firstM r).1.t.length))) := by
  have h1 := first_ok he
  have h2 := rest_len false (r.drop (firstM r).1.t.length)
  rw [List.length_drop] at h2
  have hf := toksM_fuel (r.length) ((rest false (r.drop (firstM r).1.t.length)).length + 1) (i + (r.length - (rest false (r.drop (firstM r).1.t.length)).length)) (rest false (r.drop (firstM r).1.t.length)) (by omega) (by omega)
  have hu : toks i r = (let y := toks (i + (r.length - (rest false (r.drop (firstM r).1.t.length)).length)) (rest false (r.drop (firstM r).1.t.length))
    if y.2.2 ≠ 0 then ([], y.2.1, y.2.2) else (⟨(firstM r).1.k, (firstM r).1.t, (firstM r).1.n, i⟩ :: y.1, 0, 0)) := by
    show toksM (r.length + 1) i r = _
    rw [toksM, if_neg hr, if_neg (fun h => h he)]
    simp only [hf]
    rfl
  rw [hu]
  generalize toks (i + (r.length - (rest false (r.drop (firstM r).1.t.length)).length)) (rest false (r.drop (firstM r).1.t.length)) = y
  simp only
  unfold comb
  by_cases hy : y.2.2 ≠ 0
  · simp only [hy, if_true, ne_eq, not_false_eq_true]
  · rw [if_neg hy, if_neg hy, if_neg (fun h => h rfl)]
    simp only [List.append_assoc, List.singleton_append]
theorem comb_nil' (acc : List Tk) : comb acc ([], 0, 0) = (acc, 0, 0) := by
  unfold comb
  rw [if_neg (by decide), List.append_nil]
theorem comb_err {acc : List Tk} {i : Nat} {e : Int} (he : e ≠ 0) : comb acc ([], i, e) = ([], i, e) := by
  unfold comb
  rw [if_pos he]
end Go.VE
/- Chapter 20: the iterator over all tokens. -/
namespace Go.VE
open Go Go.Proofs
set_option maxRecDepth 20000
theorem wfin_old {si s : St} {K : Value → St → Prop} {v : Value} (h : s.lo < si.n) : wfin si K v s = K v { s with lo := min si.lo s.lo } := by
  have : Nat.ble si.n s.lo = false := by
    cases hb : Nat.ble si.n s.lo with
    | false => rfl
    | true => have := Nat.le_of_ble_eq_true hb; omega
  simp only [wfin, afinish, this, Bool.false_and, cond_false]
def Step (M : List Nat) (s : St) (M' : List Nat) (s' : St) : Prop := s.n ≤ s'.n ∧ (∀ A, A < s.n → A ∉ M → s'.at A = s.at A) ∧ ∀ A ∈ M', A ∈ M ∨ s.n ≤ A
structure Cli (L : Nat) (r0 : Lp) (J : List Tk → List Nat → St → Prop) : Prop where
  loop : ∀ {i M s}, J i M s → s.at L = some (.loop r0)
  wf : ∀ {i M s}, J i M s → Wf s
  lt : ∀ {i M s}, J i M s → ∀ A ∈ M, A < s.n
  grew : ∀ {i M s s'}, J i M s → Grew s s' → Wf s' → J i M s'
section
variable {ro : Nat} {K : Value → St → Prop} {s : St} {B : Nat}
theorem wYield {L : Nat} {r : Lp} {args : List Value} (hL : s.at L = some (.loop r)) (hlen : r.params.length = args.length) (hr : RoundWP P ro L (setAll r.t r.params args) r.assign r.body s K) :
    xcallv (prims P ro) (.func (.yield L) (.mk []) (.mk [])) args s K := by
  rw [xcallv_eq]
  show wfol P ro K (ayield s L args (s.at L))
  rw [hL]
  simp only [ayield, hlen, Nat.beq_refl, cond_true]
  exact hr
theorem wAll20 {L : Nat} {l : List UInt8} (r0 : Lp) (J : List Tk → List Nat → St → Prop) (Stop : Int → Int → St → Prop) (hl : l.length ≤ 4096) (hB : s.at B = some (.cells [tx l] 9 false)) (hp : r0.params.length = 2) (hC : Cli L r0 J) (hro : ro ≤ s.n) (hroL : ro ≤ L) (hL : L < s.n)
    (hround : ∀ acc M s' (x : Tk) (e : Int), acc.length ≤ 4096 → J acc M s' → RoundWP P ro L (setAll r0.t r0.params [.agg (.mk x.cells), .int .i64 e]) r0.assign r0.body s' fun v s2 => (e = 0 ∧ v = .bool true ∧ s2.lo ≤ L ∧ ∃ M', J (acc ++ [x]) M' s2 ∧ Step M s' M' s2) ∨ (e ≠ 0 ∧ v = .bool false ∧ s2.lo ≤ L ∧ Stop x.a e s2))
    {M0 : List Nat} (h0 : J [] M0 (ent s)) (hBM : B ∉ M0)
    (hk : ∀ M s' s'', (tokR l).2.2 = 0 → J (tokR l).1 M s' → s''.n = s'.n → (∀ A, s''.at A = s'.at A) → s''.h = s'.h → (s'' = s ∨ s''.lo = min s.lo s'.lo) → K (.tuple (.mk [])) s'')
    (hstop : ∀ s', (tokR l).2.2 ≠ 0 → Stop (tokR l).2.1 (tokR l).2.2 s' → K (.tuple (.mk [])) { s' with lo := min s.lo s'.lo }) :
    CallWP P ro 24 [.func (.yield L) (.mk []) (.mk []), ptr B] s K := by
  refine call_wp b24 rfl ?_
  rw [n24]
  unfold v24
  have hBl := St.at_lt hB
  have hB0 : (ent s).at B = some (.cells [tx l] 9 false) := hB
  have hrl := rest_len false l
  obtain ⟨k0, hk0, hrk⟩ := rest_drop false l
  simp (maxSteps := 10000000) only [wW, reduceCtorEq, Nat.reduceEqDiff, wop_load]
  rw [load_one ap_9 hB0 rfl, wopt_some, wIdle l (by omega)]
  refine wloop l24_100 m24_100 (fun (x : Nat × List Tk × List Nat) τ ds s' => (x.1 ≤ l.length ∧ x.2.1.length ≤ x.1) ∧ comb x.2.1 (toks x.1 (l.drop x.1)) = tokR l ∧ τ 0 = .func (.yield L) (.mk []) (.mk []) ∧ τ 1 = ptr B ∧ τ 3 = .int .i64 x.1 ∧ ds = [] ∧ J x.2.1 x.2.2 s' ∧ B ∉ x.2.2 ∧ s'.at B = some (.cells [tx l] 9 false) ∧ s.n ≤ s'.n ∧ ((x.2.1 = [] ∧ s' = ent s) ∨ s'.lo ≤ L)) (fun x => l.length - x.1) ?_ (l.length - (rest false l).length, [], M0) ⟨⟨by simp only; omega, Nat.zero_le _⟩, ?_, ?_, ?_, ?_, rfl, h0, hBM, hB, Nat.le_refl _, .inl ⟨rfl, rfl⟩⟩
  · rintro ⟨i, acc, M⟩ τ ds s' ⟨⟨hi, hal⟩, hcomb, t0, t1, t3, rfl, hJ, hBM', hB', hn', hlo⟩
    simp only at hi hal hcomb t3 hJ hBM' hlo
    have hw' := hC.wf hJ
    rw [n24_100]
    unfold v24_100
    rw [t0, t1, t3, pr_wop, wop_load, load_one ap_9 hB' rfl, wopt_some, len_tx, wop_int, int_lss keq_i64, wopt_some]
    by_cases hlt : i < l.length
    · have hne : l.drop i ≠ [] := by
        intro e
        have := congrArg List.length e
        rw [List.length_drop] at this
        simp at this
        omega
      rw [decide_eq_true (by omega), wdec_true, wop_load, load_one ap_9 hB' rfl, wopt_some, lo_tx hi, pr_call, wFirst hne (by rw [List.length_drop]; omega) hw' (by omega), wop_extract, List.getElem?_cons_zero, wopt_some, wop_extract, List.getElem?_cons_succ, List.getElem?_cons_zero, wopt_some]
      refine alloc_rule ty_35 hw' fun T s1 m1 => ?_
      have e1 := m1.eq
      have n1 := m1.n
      refine storeAll_rule isz_35 m1.here (l := (firstM (l.drop i)).1.cells) (tkLen _) (by decide) m1.wf (by omega) rfl (tkOne _) fun s2 p2 => ?_
      have n2 := p2.n
      rw [wop_fieldAddr, fa_35_3, wopt_some]
      refine store1_rule isz_3 p2.here p2.wf (by omega) (by rw [tkLen]; decide) rfl fun s3 p3 => ?_
      have n3 := p3.n
      have hT3 : s3.at T = some (.cells (Tk.cells ⟨(firstM (l.drop i)).1.k, (firstM (l.drop i)).1.t, (firstM (l.drop i)).1.n, i⟩) 35 false) := p3.here
      rw [wop_load, load_all ap_35 hT3 (tkLen _), wopt_some]
      have g3 : Grew s' s3 := p3.grew _ hw' (p2.grew _ hw' m1.grew (by omega)) (by omega)
      have hJ3 := hC.grew hJ g3 p3.wf
      have hB3 := (g3.same B (St.at_lt hB')).trans hB'
      have hTM : T ∉ M := fun h => by have := hC.lt hJ T h; omega
      refine wYield (hC.loop hJ3) (by rw [hp]; rfl) ?_
      obtain ⟨n, v, s4, ev4, hq⟩ := hround acc M s3 ⟨(firstM (l.drop i)).1.k, (firstM (l.drop i)).1.t, (firstM (l.drop i)).1.n, i⟩ (firstM (l.drop i)).2 (by omega) hJ3
      refine ⟨n, v, s4, ev4, ?_⟩
      rcases hq with ⟨he, rfl, hlo4, M', hJ4, hst1, hst2, hst3⟩ | ⟨he, rfl, hlo4, hS⟩
      · have hT4 := (hst2 T (by omega) hTM).trans hT3
        have hB4 := (hst2 B (St.at_lt hB3) hBM').trans hB3
        have hfo := first_ok he
        have hr2 := rest_len false ((l.drop i).drop (firstM (l.drop i)).1.t.length)
        obtain ⟨k, hkl, hkd⟩ := rest_drop false ((l.drop i).drop (firstM (l.drop i)).1.t.length)
        rw [List.length_drop, List.length_drop] at hr2 hkl
        rw [List.length_drop] at hfo
        rw [he]
        have hstep := toks_step (i := i) (acc := acc) hne he
        rw [List.length_drop] at hstep
        simp only [Bool.not_true] at *
        rw [wop_not, Bool.not_true, wdec_false, wop_int, int_neq keq_i64, wopt_some, decide_eq_true rfl, Bool.not_true, wdec_false, wop_fieldAddr, fa_35_1, wopt_some, wop_load, load_one ap_9 hT4 rfl, wopt_some, len_tx, wop_int, int_add keq_i64, wopt_some]
        generalize (firstM (l.drop i)).1.t = T' at *
        rw [show ((i : Int) + (T'.length : Int)) = ((i + T'.length : Nat) : Int) by omega, wrap_i64 (by omega) (by omega), wop_load, load_one ap_9 hB4 rfl, wopt_some, lo_tx (by omega), wIdle _ (by rw [List.length_drop]; omega), wop_int, int_add keq_i64, wopt_some]
        rw [List.drop_drop] at hr2 hkd hstep
        rw [List.length_drop]
        rw [show ((i + T'.length : Nat) : Int) + ((l.length - (i + T'.length) - (rest false (l.drop (i + T'.length))).length : Nat) : Int) = ((i + (l.length - i - (rest false (l.drop (i + T'.length))).length) : Nat) : Int) by omega, wrap_i64 (by omega) (by omega)]
        refine ⟨(i + (l.length - i - (rest false (l.drop (i + T'.length))).length), acc ++ [_], M'), ?_, ?_, ?_, ?_, ?_, ?_, by first | trivial | rfl, hJ4, ?_, hB4, by omega, .inr hlo4⟩
        · simp only; omega
        · refine ⟨by simp only; omega, ?_⟩
          simp only [List.length_append, List.length_singleton]; omega
        · simp only
          rw [← hcomb, hstep]
          congr 2
          have hlen : (rest false (l.drop (i + T'.length))).length = l.length - (i + T'.length) - k := by rw [hkd, List.length_drop, List.length_drop]
          rw [hlen, hkd, List.drop_drop]
          congr 1
          omega
        · simp only [U, tset_eq, wW, reduceCtorEq, Nat.reduceEqDiff, t0]
        · simp only [U, tset_eq, wW, reduceCtorEq, Nat.reduceEqDiff, t1]
        · simp only [U, tset_eq, wW, reduceCtorEq, Nat.reduceEqDiff]
        · intro h
          rcases hst3 B h with h | h
          · exact hBM' h
          · have := St.at_lt hB3; omega
      · rw [wop_not, Bool.not_false, wdec_true]
        have hT : tokR l = ([], i, (firstM (l.drop i)).2) := by rw [← hcomb, toks_err hne he, comb_err he]
        simp (maxSteps := 10000000) only [wW, reduceCtorEq, Nat.reduceEqDiff, r24]
        rw [wfin_old (by omega)]
        refine hstop s4 (by rw [hT]; exact he) ?_
        rw [hT]
        exact hS
    · rw [decide_eq_false (by omega), wdec_false]
      have hd : l.drop i = [] := List.drop_of_length_le (by omega)
      rw [hd, toks_nil, comb_nil'] at hcomb
      have hT1 : (tokR l).1 = acc := by rw [← hcomb]
      have hT2 : (tokR l).2.2 = 0 := by rw [← hcomb]
      rw [← hT1] at hJ
      simp (maxSteps := 10000000) only [wW, reduceCtorEq, Nat.reduceEqDiff]
      rcases hlo with ⟨_, rfl⟩ | hlo
      · rw [wfin_flat (Nat.le_refl _) rfl]
        exact hk M _ s hT2 hJ rfl (fun _ => rfl) rfl (.inl rfl)
      · rw [wfin_old (by omega)]
        exact hk M _ _ hT2 hJ rfl (fun _ => rfl) rfl (.inr rfl)
  · simp only
    rw [comb_nil]
    unfold tokR
    have hlen : (rest false l).length = l.length - k0 := by rw [hrk, List.length_drop]
    rw [hlen, hrk, show l.length - (l.length - k0) = k0 by omega]
  · simp only [U, tset_eq, wW, reduceCtorEq, Nat.reduceEqDiff]
  · simp only [U, tset_eq, wW, reduceCtorEq, Nat.reduceEqDiff]
  · simp only [U, tset_eq, wW, reduceCtorEq, Nat.reduceEqDiff]
end
end Go.VE
/- Chapter 20: lexis.Tokens. -/
namespace Go.VE
open Go Go.Proofs
set_option maxRecDepth 20000
def tkCells (l : List Tk) : List Value := l.flatMap Tk.cells
theorem tkCells_len : ∀ (l : List Tk), (tkCells l).length = l.length * 4
  | [] => rfl
  | x :: l => by
    have h : tkCells (x :: l) = x.cells ++ tkCells l := rfl
    rw [h, List.length_append, tkCells_len l, tkLen, List.length_cons]; omega
theorem tkCells_app (a b : List Tk) : tkCells (a ++ b) = tkCells a ++ tkCells b := by simp [tkCells]
def TokS (s : St) (v : Value) (l : List Tk) : Prop := Sl s v 4 l.length (tkCells l)
def TokO (s : St) (v : Value) (l : List Tk) (oA : Option Nat) : Prop := Own s v 35 4 l.length (tkCells l) oA
def tokM (l : List UInt8) : Rs := if l.length > 4096 then ([], 4096, 3) else tokR l
section
variable {ro : Nat} {K : Value → St → Prop} {s : St}
theorem wAllF {l : List UInt8} (hw : Wf s) (hk : ∀ S s', Grew s s' → Wf s' → s.n ≤ S → s'.at S = some (.cells [tx l] 9 false) → K (.func (.func 24) (.mk []) (.mk [ptr S])) s') : CallWP P ro 18 [tx l] s K := by
  refine call_wp b18 rfl ?_
  rw [n18]
  unfold v18
  simp (maxSteps := 10000000) only [wW, reduceCtorEq, Nat.reduceEqDiff]
  refine box_rule hw.ent fun S s1 m1 => ?_
  have e1 := m1.eq
  have hn0 : (ent s).n = s.n := rfl
  refine wfin_new hw m1.grew rfl fun s' g' _ hat => hk S s' g' (hw.grew g') (by omega) ?_
  rw [hat]; exact m1.here
structure TkB where
  X : Nat
  Z2 : Nat
  Z3 : Nat
  Z4 : Nat
  L : Nat
  D : Nat
def TkB.all (b : TkB) : List Nat := [b.X, b.Z2, b.Z3, b.Z4, b.L, b.D]
structure TkJ (s0 : St) (b : TkB) (r0 : Lp) (acc : List Tk) (M : List Nat) (s : St) : Prop where
  wf : Wf s
  n : s0.n ≤ s.n
  same : ∀ A, A < s0.n → s.at A = s0.at A
  lo : s0.n ≤ s.lo
  loop : s.at b.L = some (.loop r0)
  dfr : s.at b.D = some (.defd (some []))
  z2 : s.at b.Z2 = some (.cells [.slice none 0 0] 22 false)
  z3 : s.at b.Z3 = some (.cells [.int .i64 0] 3 false)
  z4 : s.at b.Z4 = some (.cells [.int .i64 0] 23 false)
  ge : ∀ A ∈ b.all, s0.n ≤ A
  nd : b.all.Nodup
  ex : ∃ v oA, s.at b.X = some (.cells [v] 22 false) ∧ TokO s v acc oA ∧ (∀ A, oA = some A → s0.n ≤ A ∧ A ∉ b.all) ∧ M = b.all ++ oA.toList
theorem TkJ.cli {s0 : St} {b : TkB} {r0 : Lp} : Cli b.L r0 (TkJ s0 b r0) where
  loop := fun h => h.loop
  wf := fun h => h.wf
  lt := fun h A hA => by
    obtain ⟨v, oA, h1, h2, h3, rfl⟩ := h.ex
    rcases List.mem_append.1 hA with hA | hA
    · simp only [TkB.all, List.mem_cons, List.not_mem_nil, or_false] at hA
      rcases hA with rfl | rfl | rfl | rfl | rfl | rfl
      · exact St.at_lt h1
      · exact St.at_lt h.z2
      · exact St.at_lt h.z3
      · exact St.at_lt h.z4
      · exact St.at_lt h.loop
      · exact St.at_lt h.dfr
    · cases oA with
      | none => simp at hA
      | some C => simp at hA; subst hA; exact Own.lt h2
  grew := fun h g w => by
    obtain ⟨v, oA, h1, h2, h3, h4⟩ := h.ex
    have hn := h.n
    exact ⟨w, Nat.le_trans h.n g.n, fun A hA => (g.same A (by omega)).trans (h.same A hA), by rw [g.lo]; exact h.lo, (g.same _ (St.at_lt h.loop)).trans h.loop, (g.same _ (St.at_lt h.dfr)).trans h.dfr,
      (g.same _ (St.at_lt h.z2)).trans h.z2, (g.same _ (St.at_lt h.z3)).trans h.z3, (g.same _ (St.at_lt h.z4)).trans h.z4, h.ge, h.nd, v, oA, (g.same _ (St.at_lt h1)).trans h1, Own.grew h2 g, h3, h4⟩
structure TkS (s0 : St) (b : TkB) (r0 : Lp) (at' e : Int) (s : St) : Prop where
  wf : Wf s
  n : s0.n ≤ s.n
  same : ∀ A, A < s0.n → s.at A = s0.at A
  lo : s0.n ≤ s.lo
  loop : s.at b.L = some (.loop { r0 with state := .done, pending := some .ret })
  dfr : s.at b.D = some (.defd (some []))
  z2 : s.at b.Z2 = some (.cells [.slice none 0 0] 22 false)
  z3 : s.at b.Z3 = some (.cells [.int .i64 at'] 3 false)
  z4 : s.at b.Z4 = some (.cells [.int .i64 e] 23 false)
end
end Go.VE
/- Chapter 20: a round of lexis.Tokens. -/
namespace Go.VE
open Go Go.Proofs
set_option maxRecDepth 20000
section
variable {ro : Nat} {K : Value → St → Prop} {s : St}
theorem Put.keepP {s s' : St} {A B o i : Nat} {ob : AO} (p : Put s A ob s') (h : B ≠ A) : Keeps [(i, .ptr (.pointer (some ⟨B, o, none⟩)))] s s' := ⟨Nat.le_of_eq p.n.symm, fun x hx => by
  simp only [List.mem_cons, List.not_mem_nil, or_false] at hx
  subst hx
  intro z y e hy
  cases e
  rw [p.rest B h]; exact hy⟩
theorem tkRound {s0 s' : St} {b : TkB} {r0 : Lp} {acc : List Tk} {M : List Nat} {t : Tr} {τ : Tau} (ht : Agr 25 t τ) (hr : r0.t = t ∧ r0.params = [13, 14] ∧ r0.assign = c10_1110100 ∧ r0.body = c10_1110101 ∧ r0.state = .ready ∧ r0.pending = none) (t2 : τ 2 = ptr b.Z2) (t3 : τ 3 = ptr b.Z3) (t4 : τ 4 = ptr b.Z4) (t5 : τ 5 = ptr b.X)
    (hro : ro ≤ s0.n) (x : Tk) (e : Int) (hal : acc.length ≤ 4096) (hJ : TkJ s0 b r0 acc M s') :
    RoundWP P ro b.L (setAll r0.t r0.params [.agg (.mk x.cells), .int .i64 e]) r0.assign r0.body s' fun v s2 => (e = 0 ∧ v = .bool true ∧ s2.lo ≤ b.L ∧ ∃ M', TkJ s0 b r0 (acc ++ [x]) M' s2 ∧ Step M s' M' s2) ∨ (e ≠ 0 ∧ v = .bool false ∧ s2.lo ≤ b.L ∧ TkS s0 b r0 x.a e s2) := by
  obtain ⟨hr1, hr2, hr3, hr4, hr5, hr6⟩ := hr
  rw [hr1, hr2, hr3, hr4]
  have hge := hJ.ge
  have hnd := hJ.nd
  simp only [TkB.all, List.mem_cons, List.not_mem_nil, or_false, forall_eq_or_imp, forall_eq] at hge
  simp only [TkB.all, List.nodup_cons, List.mem_cons, List.not_mem_nil, or_false, not_or, List.nodup_nil, and_true, not_false_eq_true] at hnd
  obtain ⟨gX, g2, g3, g4, gL, gD⟩ := hge
  obtain ⟨⟨x2, x3, x4, xL, xD⟩, ⟨a3, a4, aL, aD⟩, ⟨b4, bL, bD⟩, ⟨cL, cD⟩, dD⟩ := hnd
  obtain ⟨v, oA, hX, hO, hA, rfl⟩ := hJ.ex
  have hA2 : ∀ A, oA = some A → s0.n ≤ A ∧ A ≠ b.X ∧ A ≠ b.Z2 ∧ A ≠ b.Z3 ∧ A ≠ b.Z4 ∧ A ≠ b.L ∧ A ≠ b.D := fun A e => by
    have := hA A e
    simpa [TkB.all] using this
  have hXl := St.at_lt hX
  have hLl := St.at_lt hJ.loop
  have h2l := St.at_lt hJ.z2
  have h3l := St.at_lt hJ.z3
  have h4l := St.at_lt hJ.z4
  have hDl := St.at_lt hJ.dfr
  have hJn := hJ.n
  refine round_wp (N := 25) (Agr.set (Agr.set ht 13 _ (by decide)) 14 _ (by decide)) l10_1110100 l10_1110101 (by omega) ?_
  rw [n10_1110100]
  unfold v10_1110100
  simp (maxSteps := 10000000) only [U, tset_eq, wW, reduceCtorEq, Nat.reduceEqDiff]
  refine alloc_rule ty_35 hJ.wf fun E s4 m4 => ?_
  have e4 := m4.eq
  have n4 := m4.n
  refine storeAll_rule isz_35 m4.here (l := x.cells) (tkLen x) (by decide) m4.wf (by omega) rfl (tkOne x) fun s5 p5 => ?_
  have n5 := p5.n
  have g5 : Grew s' s5 := p5.grew _ hJ.wf m4.grew (by omega)
  have hL5 := (g5.same _ hLl).trans hJ.loop
  refine ⟨r0, hL5, hr5, ?_⟩
  have pb := Put.mk' p5.wf (St.at_lt hL5) (.loop { r0 with state := .busy })
  generalize s5.put b.L (.loop { r0 with state := .busy }) = sb at pb ⊢
  have nb := pb.n
  have hXb := (pb.rest b.X xL).trans ((g5.same _ hXl).trans hX)
  have h2b := (pb.rest b.Z2 aL).trans ((g5.same _ h2l).trans hJ.z2)
  have h3b := (pb.rest b.Z3 bL).trans ((g5.same _ h3l).trans hJ.z3)
  have h4b := (pb.rest b.Z4 cL).trans ((g5.same _ h4l).trans hJ.z4)
  have hDb := (pb.rest b.D (fun e => dD e.symm)).trans ((g5.same _ hDl).trans hJ.dfr)
  have hEb := (pb.rest E (by omega)).trans p5.here
  have hOb : TokO sb v acc oA := Own.same hO fun A e => by
    have := hA2 A e
    have hlt : A < s'.n := by subst e; exact Own.lt hO
    exact (pb.rest A this.2.2.2.2.2.1).trans (g5.same A hlt)
  have hsb : ∀ A, A < s'.n → A ≠ b.L → sb.at A = s'.at A := fun A h1 h2 => (pb.rest A h2).trans (g5.same A h1)
  have hlob : sb.lo = min s'.lo b.L := by rw [pb.lo, g5.lo]
  have hJlo := hJ.lo
  rw [n10_1110101]
  unfold v10_1110101
  simp (maxSteps := 10000000) only [U, tset_eq, wW, reduceCtorEq, Nat.reduceEqDiff, wop_load, t2, t3, t4, t5]
  by_cases he : e = 0
  · subst he
    rw [if_neg (by decide), load_one ap_22 hXb rfl, wopt_some, load_all ap_35 hEb (tkLen x), wopt_some]
    refine buildSlice_rule se_22 ty_35 pb.wf [.agg (.mk x.cells)] rfl rfl (by decide) (fun u hu => by simp only [List.mem_cons, List.not_mem_nil, or_false] at hu; subst hu; rfl) fun A6 s6 m6 => ?_
    have e6 := m6.eq
    have n6 := m6.n
    have hx6 : Sl s6 (.slice (some ⟨A6, 0, none⟩) 1 1) 4 1 x.cells := by
      have := m6.sl (n := 1) (sz := 4) (by rfl)
      exact this
    refine append_rule se_22 (by kernel_rfl) ty_35 (by decide) (by decide) (Own.grew hOb m6.grew) hx6 (by decide) m6.wf (fun A e => by have := (hA2 A e).1; omega) (by omega) (tkOne x) fun v7 s7 hO7 ap => ?_
    have n7 := ap.n
    have hX7 : s7.at b.X = some (.cells [v] 22 false) := (ap.rest b.X (by omega) (fun e => (hA2 _ e).2.1 rfl)).trans ((m6.grew.same _ (by omega)).trans hXb)
    have h1v : v7.oneCell' = true := by obtain ⟨e, _⟩ := hO7; rw [e]; rfl
    refine store1_rule isz_22 hX7 ap.wf (by omega) (by simp) h1v fun s8 p8 => ?_
    have n8 := p8.n
    have hL8 : s8.at b.L = some (.loop { r0 with state := .busy }) := (p8.rest _ (fun e => xL e.symm)).trans ((ap.rest _ (by omega) (fun e => (hA2 _ e).2.2.2.2.2.1 rfl)).trans ((m6.grew.same _ (by omega)).trans pb.here))
    have elp : ({ r0 with state := .ready, pending := none } : Lp) = r0 := by
      cases r0
      simp only at hr5 hr6
      subst hr5 hr6
      rfl
    refine ⟨_, hL8, .inl ⟨rfl, rfl, ?_, b.all ++ [s6.n], ?_, ?_⟩⟩
    · show min s8.lo b.L ≤ b.L
      exact Nat.min_le_right _ _
    · have pf := Put.mk' p8.wf (St.at_lt hL8) (.loop r0)
      show TkJ s0 b r0 (acc ++ [x]) _ (s8.put b.L (.loop { r0 with state := .ready, pending := none }))
      rw [elp]
      generalize s8.put b.L (.loop r0) = sf at pf ⊢
      have nf := pf.n
      have hother : ∀ A, A < s'.n → A ≠ b.X → A ≠ b.L → oA ≠ some A → sf.at A = s'.at A := fun A hA1 hA2 hA3 hA4 => by
        rw [pf.rest A hA3, p8.rest A hA2, ap.rest A (by omega) hA4, m6.grew.same A (by omega), hsb A hA1 hA3]
      refine ⟨pf.wf, by omega, fun A hA1 => ?_, ?_, pf.here, ?_, ?_, ?_, ?_, hJ.ge, hJ.nd, v7, some s6.n, ?_, ?_, fun A e => ?_, rfl⟩
      · rw [hother A (by omega) (by omega) (by omega) (fun e => by have := (hA2 A e).1; omega)]
        exact hJ.same A hA1
      · rw [pf.lo, p8.lo]
        have h1 := ap.lo2 s0.n (by rw [m6.grew.lo, hlob]; omega) (fun A e => (hA2 A e).1)
        omega
      · rw [hother b.D hDl (fun e => xD e.symm) (fun e => dD e.symm) (fun e => (hA2 _ e).2.2.2.2.2.2 rfl)]
        exact hJ.dfr
      · rw [hother b.Z2 h2l (fun e => x2 e.symm) aL (fun e => (hA2 _ e).2.2.1 rfl)]
        exact hJ.z2
      · rw [hother b.Z3 h3l (fun e => x3 e.symm) bL (fun e => (hA2 _ e).2.2.2.1 rfl)]
        exact hJ.z3
      · rw [hother b.Z4 h4l (fun e => x4 e.symm) cL (fun e => (hA2 _ e).2.2.2.2.1 rfl)]
        exact hJ.z4
      · rw [pf.rest b.X xL]
        have := p8.here
        have hcv : splice [v] 0 [v7] = [v7] := rfl
        rw [hcv] at this
        exact this
      · unfold TokO
        rw [List.length_append, tkCells_app]
        have hone : tkCells [x] = x.cells := by simp [tkCells]
        rw [hone]
        refine Own.same (s := s7) hO7 fun A e => ?_
        cases e
        rw [pf.rest _ (by omega), p8.rest _ (by omega)]
      · cases e
        refine ⟨by omega, ?_⟩
        simp only [TkB.all, List.mem_cons, List.not_mem_nil, or_false, not_or]
        exact ⟨by omega, by omega, by omega, by omega, by omega, by omega⟩
    · have nf : (s8.put b.L (.loop { r0 with state := if (jumpOf .normal).isNone = true then .ready else .done, pending := jumpOf .normal })).n = s8.n := rfl
      refine ⟨by rw [nf]; omega, fun A hA1 hA2' => ?_, fun A hA1 => ?_⟩
      · simp only [TkB.all, List.mem_append, List.mem_cons, List.not_mem_nil, or_false, not_or] at hA2'
        have hAo : oA ≠ some A := fun e => hA2'.2 (by rw [e]; simp)
        have pf := Put.mk' p8.wf (St.at_lt hL8) (.loop { r0 with state := if (jumpOf .normal).isNone = true then .ready else .done, pending := jumpOf .normal })
        rw [pf.rest A hA2'.1.2.2.2.2.1, p8.rest A hA2'.1.1, ap.rest A (by omega) hAo, m6.grew.same A (by omega), hsb A hA1 hA2'.1.2.2.2.2.1]
      · rcases List.mem_append.1 hA1 with h | h
        · exact .inl (List.mem_append_left _ h)
        · simp only [List.mem_cons, List.not_mem_nil, or_false] at h
          subst h
          exact .inr (by omega)
  · rw [if_pos he, fa_35_3, wopt_some, load_one (v := .int .i64 x.a) ap_3 hEb rfl, wopt_some]
    refine ⟨by simp [veq], ?_⟩
    refine store1_rule isz_22 h2b pb.wf (by omega) (by simp) rfl fun s6 p6 => ?_
    have n6 := p6.n
    refine ⟨p6.keepP (by omega), ?_⟩
    refine store1_rule isz_3 ((p6.rest b.Z3 (fun e => a3 e.symm)).trans h3b) p6.wf (by omega) (by simp) rfl fun s7 p7 => ?_
    have n7 := p7.n
    refine store1_rule isz_23 ((p7.rest b.Z4 (fun e => b4 e.symm)).trans ((p6.rest b.Z4 (fun e => a4 e.symm)).trans h4b)) p7.wf (by omega) (by simp) rfl fun s8 p8 => ?_
    have n8 := p8.n
    have hother : ∀ A, A ≠ b.Z2 → A ≠ b.Z3 → A ≠ b.Z4 → s8.at A = sb.at A := fun A h1 h2 h3 => by rw [p8.rest A h3, p7.rest A h2, p6.rest A h1]
    have hL8 : s8.at b.L = some (.loop { r0 with state := .busy }) := (hother _ (fun e => aL e.symm) (fun e => bL e.symm) (fun e => cL e.symm)).trans pb.here
    refine ⟨_, hL8, .inr ⟨he, rfl, ?_, ?_⟩⟩
    · show min s8.lo b.L ≤ b.L
      exact Nat.min_le_right _ _
    · have pf := Put.mk' p8.wf (St.at_lt hL8) (.loop { r0 with state := .done, pending := some .ret })
      show TkS s0 b r0 x.a e (s8.put b.L (.loop { r0 with state := .done, pending := some .ret }))
      generalize s8.put b.L (.loop { r0 with state := .done, pending := some .ret }) = sf at pf ⊢
      have nf := pf.n
      refine ⟨pf.wf, by omega, fun A hA1 => ?_, ?_, pf.here, ?_, ?_, ?_, ?_⟩
      · rw [pf.rest A (by omega), hother A (by omega) (by omega) (by omega), hsb A (by omega) (by omega)]
        exact hJ.same A hA1
      · rw [pf.lo, p8.lo, p7.lo, p6.lo, hlob]
        omega
      · rw [pf.rest b.D (fun e => dD e.symm), hother b.D (fun e => aD e.symm) (fun e => bD e.symm) (fun e => cD e.symm)]
        exact hDb
      · rw [pf.rest b.Z2 aL, p8.rest b.Z2 a4, p7.rest b.Z2 a3]
        exact p6.here
      · rw [pf.rest b.Z3 bL, p8.rest b.Z3 b4]
        exact p7.here
      · rw [pf.rest b.Z4 cL]
        exact p8.here
end
end Go.VE
/- Chapter 20: lexis.Tokens, whole. -/
namespace Go.VE
open Go Go.Proofs
set_option maxRecDepth 20000
section
variable {ro : Nat} {K : Value → St → Prop} {s : St}
theorem wTokens {l : List UInt8} (hlen : l.length < 2 ^ 63) (hw : Wf s) (hro : ro ≤ s.n) (hk : ∀ v s' , Grew s s' → Wf s' → TokS s' v (tokM l).1 → (∀ A o sp n c, v = .slice (some ⟨A, o, sp⟩) n c → A < s'.n) → v.oneCell' = true → K (.tuple (.mk [v, .int .i64 (tokM l).2.1, .int .i64 (tokM l).2.2])) s') : CallWP P ro 10 [tx l] s K := by
  refine call_wp b10 rfl ?_
  rw [n10]
  unfold v10
  have hn0 : (ent s).n = s.n := rfl
  simp (maxSteps := 10000000) only [wW, reduceCtorEq, Nat.reduceEqDiff, len_tx]
  refine alloc_rule ty_22 hw.ent fun Z2 s1 m1 => ?_
  refine alloc_rule ty_3 m1.wf fun Z3 s2 m2 => ?_
  refine alloc_rule ty_23 m2.wf fun Z4 s3 m3 => ?_
  have e1 := m1.eq
  have n1 := m1.n
  have e2 := m2.eq
  have n2 := m2.n
  have e3 := m3.eq
  have n3 := m3.n
  have g3 := (m1.grew.trans m2.grew).trans m3.grew
  have h2 : s3.at Z2 = some (.cells [.slice none 0 0] 22 false) := ((m2.grew.trans m3.grew).same Z2 (by omega)).trans m1.here
  have h3 : s3.at Z3 = some (.cells [.int .i64 0] 3 false) := (m3.grew.same Z3 (by omega)).trans m2.here
  have h4 : s3.at Z4 = some (.cells [.int .i64 0] 23 false) := m3.here
  by_cases hbig : l.length > 4096
  · have hT : tokM l = ([], 4096, 3) := by unfold tokM; rw [if_pos hbig]
    rw [hT] at hk
    rw [if_pos (by omega)]
    refine store1_rule isz_22 h2 m3.wf (by omega) (by simp) rfl fun s4 p4 => ?_
    have n4 := p4.n
    refine store1_rule isz_3 ((p4.rest Z3 (by omega)).trans h3) p4.wf (by omega) (by simp) rfl fun s5 p5 => ?_
    have n5 := p5.n
    refine store1_rule isz_23 ((p5.rest Z4 (by omega)).trans ((p4.rest Z4 (by omega)).trans h4)) p5.wf (by omega) (by simp) rfl fun s6 p6 => ?_
    have q2 := (p6.rest Z2 (by omega)).trans ((p5.rest Z2 (by omega)).trans p4.here)
    have q3 := (p6.rest Z3 (by omega)).trans p5.here
    rw [wop_load, load_one (v := .slice none 0 0) ap_22 q2 rfl, wopt_some, wop_load, load_one (v := .int .i64 4096) ap_3 q3 rfl, wopt_some, wop_load, load_one (v := .int .i64 3) ap_23 p6.here rfl, wopt_some]
    have g6 : Grew (ent s) s6 := p6.grew _ hw.ent (p5.grew _ hw.ent (p4.grew _ hw.ent g3 (by omega)) (by omega)) (by omega)
    exact fin_flat rfl g6 (hk _ s (.refl _) hw (Sl.nil _ _) (fun A o sp n c e => by cases e) rfl)
  rw [if_neg (by omega)]
  have hT : tokM l = tokR l := by unfold tokM; rw [if_neg hbig]
  rw [hT] at hk
  refine alloc_rule ty_22 m3.wf fun X s4 m4 => ?_
  have e4 := m4.eq
  have n4 := m4.n
  refine wAllF m4.wf fun S s5 g5 w5 hSn hS => ?_
  have n5 := g5.n
  have hSl := St.at_lt hS
  have h25 := (g5.same Z2 (by omega)).trans ((m4.grew.same Z2 (by omega)).trans h2)
  have h35 := (g5.same Z3 (by omega)).trans ((m4.grew.same Z3 (by omega)).trans h3)
  have h45 := (g5.same Z4 (by omega)).trans ((m4.grew.same Z4 (by omega)).trans h4)
  have hX5 : s5.at X = some (.cells [.slice none 0 0] 22 false) := (g5.same X (by omega)).trans m4.here
  refine wrange (by omega) fun t ht => ?_
  have g6 : Grew s5 (s5.new (.defd (some []))) := .new _ _
  generalize hr0 : ({ state := .ready, pending := none, t := t, params := #[13, 14].toList, assign := c10_1110100, body := c10_1110101, defers := s5.n } : Lp) = lp
  have g7 : Grew (s5.new (.defd (some []))) ((s5.new (.defd (some []))).new (.loop lp)) := .new _ _
  have hD7 : ((s5.new (.defd (some []))).new (.loop lp)).at s5.n = some (.defd (some [])) := (g7.same s5.n (Nat.lt_succ_self s5.n)).trans (at_newest _ _)
  have hL7 : ((s5.new (.defd (some []))).new (.loop lp)).at (s5.n + 1) = some (.loop lp) := at_newest (s5.new (.defd (some []))) _
  have w7 : Wf ((s5.new (.defd (some []))).new (.loop lp)) := (w5.new _).new _
  have n7 : ((s5.new (.defd (some []))).new (.loop lp)).n = s5.n + 2 := rfl
  have g57 := g6.trans g7
  have hlp : lp.t = t ∧ lp.params = [13, 14] ∧ lp.assign = c10_1110100 ∧ lp.body = c10_1110101 ∧ lp.state = .ready ∧ lp.pending = none := by rw [← hr0]; exact ⟨rfl, rfl, rfl, rfl, rfl, rfl⟩
  clear hr0
  generalize (s5.new (.defd (some []))).new (.loop lp) = s7 at *
  have g07 : Grew (ent s) s7 := ((g3.trans m4.grew).trans g5).trans g57
  have hlo7 : s7.lo = s.n := g07.lo
  have b : TkB := ⟨X, Z2, Z3, Z4, s5.n + 1, s5.n⟩
  have hnd : (TkB.all ⟨X, Z2, Z3, Z4, s5.n + 1, s5.n⟩).Nodup := by
    simp only [TkB.all, List.nodup_cons, List.mem_cons, List.not_mem_nil, or_false, not_or, List.nodup_nil, and_true, not_false_eq_true]
    exact ⟨⟨by omega, by omega, by omega, by omega, by omega⟩, ⟨by omega, by omega, by omega, by omega⟩, ⟨by omega, by omega, by omega⟩, ⟨by omega, by omega⟩, by omega⟩
  have hge : ∀ A ∈ TkB.all ⟨X, Z2, Z3, Z4, s5.n + 1, s5.n⟩, (ent s).n ≤ A := by
    simp only [TkB.all, List.mem_cons, List.not_mem_nil, or_false, forall_eq_or_imp, forall_eq]
    exact ⟨by omega, by omega, by omega, by omega, by omega, by omega⟩
  have hfin : ∀ (v : Value) (a e : Int) (sd : St), (tokR l).2.1 = a → (tokR l).2.2 = e → s.n ≤ sd.n → Wf sd → s.n ≤ sd.lo → (∀ A, A < s.n → sd.at A = s.at A) → (TokS sd v (tokR l).1) → (∀ A o sp n c, v = .slice (some ⟨A, o, sp⟩) n c → A < sd.n) → v.oneCell' = true → wfin s K (.tuple (.mk [v, .int .i64 a, .int .i64 e])) sd := fun v a e sd ha he h1 h2 h3 h4 h5 h6 h7 => by
    cases hf : flat' (.tuple (.mk [v, .int .i64 a, .int .i64 e])) with
    | true =>
      rw [wfin_flat h3 hf]
      have hv : flat' v = true := by
        have : flat (.tuple (.mk [v, .int .i64 a, .int .i64 e])) = true := hf
        rw [flat_tuple] at this
        have := flatL_get this (i := 0) (v := v) rfl
        unfold flat'
        rw [this, Bool.or_true]
      have := hk v s (.refl _) hw (Sl.flat h5 hv) (fun A o sp n c e => by subst e; cases hv) h7
      rw [ha, he] at this
      exact this
    | false =>
      rw [wfin_deep hf]
      have hlo : min s.lo sd.lo = s.lo := by have := hw.lo; omega
      have g : Grew s { sd with lo := min s.lo sd.lo } := ⟨h1, hlo, h4, fun _ => h2.len⟩
      have := hk v { sd with lo := min s.lo sd.lo } g (hw.grew g) (Sl.grew h5 fun _ _ => rfl) h6 h7
      rw [ha, he] at this
      exact this
  refine wAll20 (l := l) lp (TkJ (ent s) ⟨X, Z2, Z3, Z4, s5.n + 1, s5.n⟩ lp) (TkS (ent s) ⟨X, Z2, Z3, Z4, s5.n + 1, s5.n⟩ lp) (by omega) ((g57.same S hSl).trans hS) (by rw [hlp.2.1]; rfl) (TkJ.cli (s0 := ent s) (b := ⟨X, Z2, Z3, Z4, s5.n + 1, s5.n⟩) (r0 := lp)) (by omega) (by omega) (by show s5.n + 1 < _; omega) (fun acc M s' x e hal hJ => tkRound (s0 := ent s) (b := ⟨X, Z2, Z3, Z4, s5.n + 1, s5.n⟩) ht hlp ?_ ?_ ?_ ?_ hro x e hal hJ) (M0 := TkB.all ⟨X, Z2, Z3, Z4, s5.n + 1, s5.n⟩) ?_ ?_ (fun M s' s'' hT0 hJ hsn hsa hsh hslo => ?_) (fun s' hTe hS' => ?_)
  · simp only [U, tset_eq, wW, reduceCtorEq, Nat.reduceEqDiff]
  · simp only [U, tset_eq, wW, reduceCtorEq, Nat.reduceEqDiff]
  · simp only [U, tset_eq, wW, reduceCtorEq, Nat.reduceEqDiff]
  · simp only [U, tset_eq, wW, reduceCtorEq, Nat.reduceEqDiff]
  · exact ⟨w7.ent, by show s.n ≤ s7.n; omega, fun A hA => g07.same A hA, by show s.n ≤ s7.n; omega, hL7, hD7, (g57.same Z2 (by omega)).trans h25, (g57.same Z3 (by omega)).trans h35, (g57.same Z4 (by omega)).trans h45, hge, hnd, .slice none 0 0, none, (g57.same X (by omega)).trans hX5, ⟨rfl, rfl, rfl⟩, (fun A e => by cases e), by simp⟩
  · simp only [TkB.all, List.mem_cons, List.not_mem_nil, or_false, not_or]
    exact ⟨by omega, by omega, by omega, by omega, by omega, by omega⟩
  · obtain ⟨v, oA, hX, hO, hA, _⟩ := hJ.ex
    have hA2 : ∀ A, oA = some A → s.n ≤ A ∧ A ≠ X ∧ A ≠ Z2 ∧ A ≠ Z3 ∧ A ≠ Z4 ∧ A ≠ s5.n + 1 ∧ A ≠ s5.n := fun A e => by
      have := hA A e
      simpa [TkB.all, hn0] using this
    have hJn : s.n ≤ s'.n := hJ.n
    have hJlo : s.n ≤ s'.lo := hJ.lo
    have hJw := hJ.wf.lo
    have hlo'' : s.n ≤ s''.lo ∧ s''.lo ≤ s''.n := by
      rcases hslo with rfl | h
      · exact ⟨by omega, w7.lo⟩
      · rw [h, hsn]; omega
    have w'' : Wf s'' := ⟨hlo''.2, by rw [hsh, hsn]; exact hJ.wf.len⟩
    have hL'' : s''.at (s5.n + 1) = some (.loop lp) := (hsa _).trans hJ.loop
    refine ⟨lp, .normal, hL'', .inl hlp.2.2.2.2.1, by rw [hlp.2.2.2.2.2]; rfl, ?_⟩
    have pe := Put.mk' w'' (St.at_lt hL'') (.loop { lp with state := .exhausted })
    generalize s''.put (s5.n + 1) (.loop { lp with state := .exhausted }) = se at pe ⊢
    have ne := pe.n
    simp (maxSteps := 10000000) only [U, tset_eq, wW, reduceCtorEq, Nat.reduceEqDiff, wop_load]
    have hXe : se.at X = some (.cells [v] 22 false) := (pe.rest X (by omega)).trans ((hsa _).trans hX)
    have h2e : se.at Z2 = some (.cells [.slice none 0 0] 22 false) := (pe.rest Z2 (by omega)).trans ((hsa _).trans hJ.z2)
    have h3e : se.at Z3 = some (.cells [.int .i64 0] 3 false) := (pe.rest Z3 (by omega)).trans ((hsa _).trans hJ.z3)
    have h4e : se.at Z4 = some (.cells [.int .i64 0] 23 false) := (pe.rest Z4 (by omega)).trans ((hsa _).trans hJ.z4)
    have hDe : se.at s5.n = some (.defd (some [])) := (pe.rest _ (by omega)).trans ((hsa _).trans hJ.dfr)
    have h1v : v.oneCell' = true := by
      cases oA with
      | none => obtain ⟨e, _⟩ := hO; rw [e]; rfl
      | some A => obtain ⟨e, _⟩ := hO; rw [e]; rfl
    rw [load_one (v := v) ap_22 hXe rfl, wopt_some]
    refine store1_rule isz_22 h2e pe.wf (by omega) (by simp) h1v fun sa pa => ?_
    have na := pa.n
    refine store1_rule isz_3 ((pa.rest Z3 (by omega)).trans h3e) pa.wf (by omega) (by simp) rfl fun sb pb => ?_
    have nb := pb.n
    refine store1_rule isz_23 ((pb.rest Z4 (by omega)).trans ((pa.rest Z4 (by omega)).trans h4e)) pb.wf (by omega) (by simp) rfl fun sc pc => ?_
    have nc := pc.n
    have hDc : sc.at s5.n = some (.defd (some [])) := (pc.rest _ (by omega)).trans ((pb.rest _ (by omega)).trans ((pa.rest _ (by omega)).trans hDe))
    refine ⟨hDc, by omega, ?_⟩
    have pd := Put.mk' pc.wf (St.at_lt hDc) (.defd none)
    generalize sc.put s5.n (.defd none) = sd at pd ⊢
    have nd := pd.n
    have q2 : sd.at Z2 = some (.cells [v] 22 false) := (pd.rest Z2 (by omega)).trans ((pc.rest Z2 (by omega)).trans ((pb.rest Z2 (by omega)).trans pa.here))
    have q3 : sd.at Z3 = some (.cells [.int .i64 0] 3 false) := (pd.rest Z3 (by omega)).trans ((pc.rest Z3 (by omega)).trans pb.here)
    have q4 : sd.at Z4 = some (.cells [.int .i64 0] 23 false) := (pd.rest Z4 (by omega)).trans pc.here
    rw [wdefers_nil, load_one (v := v) ap_22 q2 rfl, wopt_some, load_one (v := .int .i64 0) ap_3 q3 rfl, wopt_some, load_one (v := .int .i64 0) ap_23 q4 rfl, wopt_some]
    have hall : ∀ A, A ≠ X → A ≠ Z2 → A ≠ Z3 → A ≠ Z4 → A ≠ s5.n + 1 → A ≠ s5.n → sd.at A = s'.at A := fun A _ a2 a3 a4 aL aD => by rw [pd.rest A aD, pc.rest A a4, pb.rest A a3, pa.rest A a2, pe.rest A aL, hsa]
    have hOd : TokO sd v (tokR l).1 oA := Own.same hO fun A e => by
      obtain ⟨_, h1, h2, h3, h4, h5, h6⟩ := hA2 A e
      exact hall A h1 h2 h3 h4 h5 h6
    refine hfin v 0 0 sd ?_ hT0 (by omega) pd.wf ?_ (fun A hA1 => ?_) (Own.sl hOd) (fun A o sp n c e => ?_) h1v
    · have h : (tokR l).2.1 = 0 := (toksM_ok _ _ _).2 hT0
      show (((tokR l).2.1 : Nat) : Int) = 0
      rw [h]; rfl
    · rw [pd.lo, pc.lo, pb.lo, pa.lo, pe.lo]; omega
    · rw [hall A (by omega) (by omega) (by omega) (by omega) (by omega) (by omega)]
      exact hJ.same A hA1
    · cases oA with
      | none => obtain ⟨e', _⟩ := hO; rw [e'] at e; cases e
      | some C =>
        have hlt := Own.lt hOd
        obtain ⟨e', _⟩ := hO
        rw [e'] at e
        cases e
        exact hlt
  · have hJn : s.n ≤ s'.n := hS'.n
    have hJlo : s.n ≤ s'.lo := hS'.lo
    have hJw := hS'.wf.lo
    have w'' : Wf ({ s' with lo := min s7.lo s'.lo } : St) := ⟨by show min s7.lo s'.lo ≤ s'.n; omega, hS'.wf.len⟩
    have hl1 := toksM_ok ((rest false l).length + 1) (l.length - (rest false l).length) (rest false l)
    have hl1' : (tokR l).1 = [] := hl1.1 hTe
    refine ⟨{ lp with state := .done, pending := some .ret }, .ret, hS'.loop, .inr rfl, rfl, ?_⟩
    have hLs : ({ s' with lo := min s7.lo s'.lo } : St).at (s5.n + 1) = some (.loop { lp with state := .done, pending := some .ret }) := hS'.loop
    have pe := Put.mk' w'' (St.at_lt hLs) (.loop { lp with state := .exhausted, pending := some .ret })
    show thenW _ _ .ret _ _ (({ s' with lo := min s7.lo s'.lo } : St).put (s5.n + 1) (.loop { lp with state := .exhausted, pending := some .ret }))
    generalize ({ s' with lo := min s7.lo s'.lo } : St).put (s5.n + 1) (.loop { lp with state := .exhausted, pending := some .ret }) = se at pe ⊢
    have ne : se.n = s'.n := pe.n
    simp (maxSteps := 10000000) only [U, tset_eq, wW, reduceCtorEq, Nat.reduceEqDiff, wop_load, r10]
    have h2e := (pe.rest Z2 (by omega)).trans hS'.z2
    have h3e := (pe.rest Z3 (by omega)).trans hS'.z3
    have h4e := (pe.rest Z4 (by omega)).trans hS'.z4
    have hDe : se.at s5.n = some (.defd (some [])) := (pe.rest _ (by omega)).trans hS'.dfr
    refine ⟨hDe, by omega, ?_⟩
    have pd := Put.mk' pe.wf (St.at_lt hDe) (.defd none)
    generalize se.put s5.n (.defd none) = sd at pd ⊢
    have nd := pd.n
    have q2 : sd.at Z2 = some (.cells [.slice none 0 0] 22 false) := (pd.rest Z2 (by omega)).trans h2e
    have q3 : sd.at Z3 = some (.cells [.int .i64 (tokR l).2.1] 3 false) := (pd.rest Z3 (by omega)).trans h3e
    have q4 : sd.at Z4 = some (.cells [.int .i64 (tokR l).2.2] 23 false) := (pd.rest Z4 (by omega)).trans h4e
    rw [wdefers_nil, load_one (v := .slice none 0 0) ap_22 q2 rfl, wopt_some, load_one (v := .int .i64 (tokR l).2.1) ap_3 q3 rfl, wopt_some, load_one (v := .int .i64 (tokR l).2.2) ap_23 q4 rfl, wopt_some]
    refine hfin (.slice none 0 0) _ _ sd rfl rfl (by omega) pd.wf ?_ (fun A hA1 => ?_) (by rw [hl1']; exact Sl.nil _ _) (fun A o sp n c e => by cases e) rfl
    · rw [pd.lo, pe.lo]
      show s.n ≤ min (min (min s7.lo s'.lo) (s5.n + 1)) s5.n
      omega
    · rw [pd.rest A (by omega), pe.rest A (by omega)]
      exact hS'.same A hA1
end
end Go.VE
/- Chapter 20: the reference's Tokens; Same, Equal. -/
namespace Go.VE
open Go Go.Proofs
set_option maxRecDepth 20000
section
variable {ro : Nat} {K : Value → St → Prop} {s : St}
theorem tkCells_get : ∀ (l : List Tk) {i : Nat} {x : Tk}, l[i]? = some x → ∀ {k : Nat}, k < 4 → (tkCells l)[i * 4 + k]? = x.cells[k]?
  | y :: l, 0, x, h, k, hk => by
    have : y = x := by simpa using h
    subst this
    have e : tkCells (y :: l) = y.cells ++ tkCells l := rfl
    rw [e, Nat.zero_mul, Nat.zero_add, List.getElem?_append_left (by rw [tkLen]; exact hk)]
  | y :: l, i + 1, x, h, k, hk => by
    have e : tkCells (y :: l) = y.cells ++ tkCells l := rfl
    rw [e, List.getElem?_append_right (by rw [tkLen]; omega), tkLen, show (i + 1) * 4 + k - 4 = i * 4 + k by omega]
    exact tkCells_get l (by simpa using h) hk
  | [], i, x, h, k, hk => by cases h
structure TkAt (s : St) (A o : Nat) (x : Tk) : Prop where
  k : aload P s 32 (.pointer (some ⟨A, o, none⟩)) = some (.int .u8 x.k)
  t : aload P s 9 (.pointer (some ⟨A, o + 1, none⟩)) = some (tx x.t)
  n : aload P s 33 (.pointer (some ⟨A, o + 2, none⟩)) = some (.int .u64 x.n)
  a : aload P s 3 (.pointer (some ⟨A, o + 3, none⟩)) = some (.int .i64 x.a)
  w : aload P s 35 (.pointer (some ⟨A, o, none⟩)) = some (.agg (.mk x.cells))
theorem TokS.ix {v : Value} {l : List Tk} (h : TokS s v l) {i : Nat} {x : Tk} (hx : l[i]? = some x) : ∃ A o, aindexAddr P 22 v (.int .i64 (i : Int)) = some (.pointer (some ⟨A, o, none⟩)) ∧ TkAt s A o x := by
  have hi : i < l.length := (List.getElem?_eq_some_iff.1 hx).1
  obtain ⟨A, o, h1, h2, h3⟩ := Sl.ix h (by decide) (show (0 : Int) ≤ i by omega) (show (i : Int) < l.length by omega)
  have hk : ∀ k, k < 4 → ((acells (s.at A)).bind fun c => c[o + k]?) = x.cells[k]? := fun k hk => by
    rw [h2 k hk, Int.toNat_natCast]
    exact tkCells_get l hx hk
  refine ⟨A, o, h1 se_22 isz_35, ?_, ?_, ?_, ?_, ?_⟩
  · rw [load1 ap_32]
    exact (hk 0 (by decide)).trans rfl
  · rw [load1 ap_9, hk 1 (by decide)]; rfl
  · rw [load1 ap_33, hk 2 (by decide)]; rfl
  · rw [load1 ap_3, hk 3 (by decide)]; rfl
  · rw [loadN ap_35]
    have := h3 0 4 (by decide) (by decide)
    rw [Nat.add_zero, Nat.add_zero, Int.toNat_natCast] at this
    rw [this]
    have hl := tkCells_len l
    have hlt : i * 4 + 4 ≤ l.length * 4 := by omega
    rw [cut_eq (by omega)]
    have hg : ((tkCells l).drop (i * 4)).take 4 = x.cells := by
      apply List.ext_getElem?
      intro k
      rw [List.getElem?_take]
      by_cases hk : k < 4
      · rw [if_pos hk, List.getElem?_drop, tkCells_get l hx hk]
      · rw [if_neg hk, List.getElem?_eq_none (by rw [tkLen]; omega)]
    rw [hg]
    rfl
def tkS (x : Tk) : Int × List UInt8 × Int := (x.k, x.t, x.n)
def sameT (a b : List Tk) : Bool := decide (a.map tkS = b.map tkS)
theorem wSame {a b : List Tk} {u v : Value} (ha : TokS s u a) (hb : TokS s v b) (hl : a.length < 2 ^ 63) : CallWP P ro 16 [u, v] s K = K (.bool (sameT a b)) s := by
  refine callEq (call_wp b16 rfl ?_) K
  rw [n16]
  unfold v16
  have hae : TokS (ent s) u a := Sl.ent ha
  have hbe : TokS (ent s) v b := Sl.ent hb
  have la : ∀ (ty : TypeId) (s' : St) (K : Value → St → Prop), wop P ro (.call ⟨.builtin .len, ⟨[.const u]⟩, #[22]⟩) ty s' K = K (.int .i64 a.length) s' := fun ty s' K => Sl.wlen ha se_22 ty K
  have lb : ∀ (ty : TypeId) (s' : St) (K : Value → St → Prop), wop P ro (.call ⟨.builtin .len, ⟨[.const v]⟩, #[22]⟩) ty s' K = K (.int .i64 b.length) s' := fun ty s' K => Sl.wlen hb se_22 ty K
  simp (maxSteps := 10000000) only [wW, reduceCtorEq, Nat.reduceEqDiff, la, lb]
  by_cases hne : a.length = b.length
  · rw [if_neg (fun h => h (by omega))]
    refine wloop l16_110100 m16_110100 (fun (i : Nat) τ ds s' => τ 0 = u ∧ τ 1 = v ∧ τ 5 = .int .i64 i ∧ ds = [] ∧ s' = ent s ∧ i ≤ a.length ∧ (a.map tkS).take i = (b.map tkS).take i) (fun i => a.length - i) ?_ 0 ⟨?_, ?_, ?_, rfl, rfl, Nat.zero_le _, rfl⟩
    · rintro i τ ds s' ⟨t0, t1, t5, rfl, rfl, hi, heq⟩
      rw [n16_110100]
      unfold v16_110100
      simp (maxSteps := 10000000) only [wW, reduceCtorEq, Nat.reduceEqDiff, t0, t1, t5, la]
      have hno : ∀ x y, a[i]? = some x → b[i]? = some y → tkS x ≠ tkS y → wfin s (fun w s' => w = .bool (sameT a b) ∧ s' = s) (.bool false) (ent s) := fun x y hx hy hn => by
        refine fin_flat rfl (.refl _) ⟨?_, rfl⟩
        have : sameT a b = false := decide_eq_false fun e => by
          have h1 := congrArg (fun l => l[i]?) e
          simp only [List.getElem?_map, hx, hy, Option.map_some, Option.some.injEq] at h1
          exact hn h1
        rw [this]
      by_cases hlt : i < a.length
      · have ga : a[i]? = some a[i] := List.getElem?_eq_getElem hlt
        have gb : b[i]? = some (b[i]'(by omega)) := List.getElem?_eq_getElem (by omega)
        obtain ⟨A, o, i1, p1⟩ := hae.ix ga
        obtain ⟨B, q, i2, p2⟩ := hbe.ix gb
        generalize a[i] = x at ga p1
        generalize (b[i]'(by omega)) = y at gb p2
        rw [if_pos (by omega)]
        simp (maxSteps := 10000000) only [wW, reduceCtorEq, Nat.reduceEqDiff, wop_indexAddr, wop_load, i1, i2, fa_35_0, fa_35_1, fa_35_2, p1.k, p2.k, p1.t, p2.t, p1.n, p2.n, neq_tx]
        by_cases h1 : x.k = y.k
        · rw [if_neg (fun h => h h1)]
          by_cases h2 : x.t = y.t
          · rw [if_neg (fun h => h h2)]
            by_cases h3 : x.n = y.n
            · rw [if_neg (fun h => h h3), wrap_i64 (by omega) (by omega)]
              refine ⟨i + 1, by omega, ?_, ?_, ?_, by first | trivial | rfl, by first | trivial | rfl, by omega, ?_⟩
              · simp only [U, tset_eq, wW, reduceCtorEq, Nat.reduceEqDiff, t0]
              · simp only [U, tset_eq, wW, reduceCtorEq, Nat.reduceEqDiff, t1]
              · simp only [U, tset_eq, wW, reduceCtorEq, Nat.reduceEqDiff]; rfl
              · have e : tkS x = tkS y := by unfold tkS; rw [h1, h2, h3]
                rw [take_succ_eq (a := tkS x) (by rw [List.getElem?_map, ga]; rfl), take_succ_eq (a := tkS y) (by rw [List.getElem?_map, gb]; rfl), heq, e]
            · rw [if_pos h3]
              have h := hno x y ga gb fun e => h3 (congrArg (·.2.2) e)
              simp (maxSteps := 10000000) only [r16, U, tset_eq, wW, reduceCtorEq, Nat.reduceEqDiff]
              exact h
          · rw [if_pos h2]
            have h := hno x y ga gb fun e => h2 (congrArg (·.2.1) e)
            simp (maxSteps := 10000000) only [r16, U, tset_eq, wW, reduceCtorEq, Nat.reduceEqDiff]
            exact h
        · rw [if_pos h1]
          have h := hno x y ga gb fun e => h1 (congrArg (·.1) e)
          simp (maxSteps := 10000000) only [r16, U, tset_eq, wW, reduceCtorEq, Nat.reduceEqDiff]
          exact h
      · rw [if_neg (by omega)]
        refine fin_flat rfl (.refl _) ⟨?_, rfl⟩
        have h1 : (a.map tkS).take i = a.map tkS := List.take_of_length_le (by rw [List.length_map]; omega)
        have h2 : (b.map tkS).take i = b.map tkS := List.take_of_length_le (by rw [List.length_map]; omega)
        have : sameT a b = true := decide_eq_true (by rw [← h1, heq, h2])
        rw [this]
    · simp only [U, tset_eq, wW, reduceCtorEq, Nat.reduceEqDiff]
    · simp only [U, tset_eq, wW, reduceCtorEq, Nat.reduceEqDiff]
    · simp only [U, tset_eq, wW, reduceCtorEq, Nat.reduceEqDiff]; rfl
  · rw [if_pos (fun h => hne (by omega))]
    refine fin_flat rfl (.refl _) ⟨?_, rfl⟩
    have : sameT a b = false := decide_eq_false fun e => hne (by simpa using congrArg List.length e)
    rw [this]
end
end Go.VE
/- Chapter 20: the reference's Tokens. -/
namespace Go.VE
open Go Go.Proofs
set_option maxRecDepth 20000
section
variable {ro : Nat} {K : Value → St → Prop} {s : St}
end
end Go.VE
/- Chapter 20: tokens compared, right. -/
namespace Go.VE
open Go Go.Proofs
set_option maxRecDepth 20000
theorem rp_int {P : Program} {t : TypeId} {q k : IntKind} (h : P.underlying t = some (.int q)) (d : Nat) (a b : Int) : runPure P (Op.equalIn (d + 1) t (.int k a) (.int k b)) = some (a == b) := by
  unfold Op.equalIn
  rw [rp_bind, rp_und h]
  simp only [Option.bind_some, if_true]
  rfl
def foldE {α : Type} (G : α → Option Bool) : List α → Option Bool
  | [] => some true
  | x :: r => (G x).bind fun c => bif c then foldE G r else some false
theorem rp_items {α : Type} (P : Program) (g : α → Sem (ForInStep (Option Bool × Unit))) (G : α → Option Bool) (hg : ∀ x, runPure P (g x) = (G x).map fun c => bif c then ForInStep.yield (none, ()) else ForInStep.done (some false, ())) (fin : Option Bool × Unit → Sem Bool) (h1 : ∀ r, runPure P (fin (some r, ())) = some r) (h2 : runPure P (fin (none, ())) = some true) : ∀ (l : List α),
    runPure P (forIn l ((none, ()) : Option Bool × Unit) (fun x _ => g x) >>= fin) = foldE G l
  | [] => h2
  | x :: r => by
    have ih := rp_items P g G hg fin h1 h2 r
    rw [rp_bind] at ih ⊢
    rw [List.forIn_cons, rp_bind, hg x]
    unfold foldE
    cases hG : G x with
    | none => rfl
    | some c =>
      cases c with
      | false => exact h1 false
      | true => exact ih
def eqField (P : Program) (E : TypeId → Value → Value → Option Bool) (xs ys : Array Value) (f : Field) : Option Bool :=
  bif f.name == "_" then some true else (runPure P (part f.type xs f.offset)).bind fun a => (runPure P (part f.type ys f.offset)).bind fun b => E f.type a b
theorem rp_struct {P : Program} {t : TypeId} {fs : Array Field} (h : P.underlying t = some (.struct fs)) (hs : P.stoodInHeld t = false) (d : Nat) (xs ys : Array Value) :
    runPure P (Op.equalIn (d + 1) t (.agg xs) (.agg ys)) = foldE (eqField P (fun t a b => runPure P (Op.equalIn d t a b)) xs ys) fs.toList := by
  conv => lhs; unfold Op.equalIn
  rw [rp_bind, rp_und h]
  simp only [Option.bind_some]
  rw [rp_bind, rp_program]
  simp only [Option.bind_some, hs]
  rw [if_neg (by decide), ← Array.forIn_toList]
  refine rp_items P _ _ (fun f => ?_) _ (fun r => rfl) rfl fs.toList
  unfold eqField
  cases hn : f.name == "_" with
  | true =>
    have : f.name = "_" := by simpa using hn
    rw [if_neg (by simp [this])]
    rfl
  | false =>
    have : f.name ≠ "_" := by simpa using hn
    rw [if_pos this, rp_bind]
    cases runPure P (part f.type xs f.offset) with
    | none => rfl
    | some a =>
      simp only [Option.bind_some, cond_false]
      rw [rp_bind]
      cases runPure P (part f.type ys f.offset) with
      | none => rfl
      | some b =>
        simp only [Option.bind_some]
        rw [rp_bind]
        cases runPure P (Op.equalIn d f.type a b) with
        | none => rfl
        | some c => cases c <;> rfl
theorem wop_eql_of {P : Program} [Memo] {ro : Nat} {t r ty : TypeId} {xs ys : List Value} {c : Bool} (hx : flatL xs = true) (hy : flatL ys = true) (hg : P.eqGuardType P.depth t = false) (h : runPure P (Op.equal t (.agg (.mk xs)) (.agg (.mk ys))) = some c) {s : St} {K : Value → St → Prop} :
    wop P ro (.binOp .eql t (.const (.agg (.mk xs))) (.const (.agg (.mk ys))) r) ty s K = K (.bool c) s := by
  have e : apure P .e (mkO (.binOp .eql t (.const (.agg (.mk xs))) (.const (.agg (.mk ys))) r) ty) = some (.val (.bool c)) := by
    unfold apure
    have e2 : runPure P (execOp (aval .e) (mkO (.binOp .eql t (.const (.agg (.mk xs))) (.const (.agg (.mk ys))) r) ty)) = some (Next.value (.bool c)) := by
      show runPure P ((do eqGuard .eql t (.const (.agg (.mk xs))) (.const (.agg (.mk ys))) (.agg (.mk xs)) (.agg (.mk ys)); binOp .eql t (.agg (.mk xs)) (.agg (.mk ys))) >>= fun v => pure (Next.value v)) = _
      rw [rp_bind, rp_bind]
      have e3 : runPure P (eqGuard .eql t (.const (.agg (.mk xs))) (.const (.agg (.mk ys))) (.agg (.mk xs)) (.agg (.mk ys))) = some () := by
        show runPure P (if (!P.eqGuardType P.depth t) = true then pure () else _) = _
        rw [hg]; rfl
      rw [e3]
      simp only [Option.bind_some]
      show (runPure P (Op.equal t (.agg (.mk xs)) (.agg (.mk ys)) >>= fun b => pure (Value.bool b))).bind _ = _
      rw [rp_bind, h]
      rfl
    rw [e2]
    rfl
  have hf : ∀ l : List Value, flatL l = true → flat' (.agg (.mk l)) = true := fun l hl => by
    show (false || flatL l) = true
    rw [hl]; rfl
  show wfol P ro K (abin P .e (mkO (.binOp .eql t (.const (.agg (.mk xs))) (.const (.agg (.mk ys))) r) ty) s .eql t (.agg (.mk xs)) (.agg (.mk ys))) = _
  simp only [abin, hf xs hx, hf ys hy, Bool.and_self, cond_true, e]
  rfl
noncomputable def structOf (t : TypeId) : Array Field :=
  match P.underlying t with
  | some (.struct fs) => fs
  | _ => #[]
theorem rp_str {t : TypeId} (h : P.underlying t = some .string) (d : Nat) (a b : List UInt8) : runPure P (Op.equalIn (d + 1) t (tx a) (tx b)) = some (decide (a = b)) := by
  unfold Op.equalIn
  rw [rp_bind, rp_und h]
  simp only [Option.bind_some]
  show some ((Array.mk a) == (Array.mk b)) = _
  congr 1
  rw [Bool.eq_iff_iff, beq_iff_eq, decide_eq_true_eq]
  constructor
  · intro e; simpa using e
  · rintro rfl; rfl
theorem foldT (E : TypeId → Value → Value → Option Bool) (p q : Tk) : foldE (eqField P E (.mk p.cells) (.mk q.cells)) (structOf 35).toList =
    ((E 32 (.int .u8 p.k) (.int .u8 q.k)).bind fun c => bif c then ((E 9 (tx p.t) (tx q.t)).bind fun c => bif c then ((E 33 (.int .u64 p.n) (.int .u64 q.n)).bind fun c => bif c then ((E 3 (.int .i64 p.a) (.int .i64 q.a)).bind fun c => bif c then some true else some false) else some false) else some false) else some false) := by kernel_rfl
theorem unTok : P.underlying 35 = some (.struct (structOf 35)) := by kernel_rfl
theorem unTKind : P.underlying 32 = some (.int .u8) := by kernel_rfl
theorem unTInt : P.underlying 3 = some (.int .i64) := by kernel_rfl
theorem unTU64 : P.underlying 33 = some (.int .u64) := by kernel_rfl
theorem eqTok (p q : Tk) : runPure P (Op.equal 35 (.agg (.mk p.cells)) (.agg (.mk q.cells))) = some (p.k == q.k && (decide (p.t = q.t) && (p.n == q.n && p.a == q.a))) := by
  show runPure P (Op.equalIn (9998 + 1 + 1) 35 (.agg (.mk p.cells)) (.agg (.mk q.cells))) = _
  rw [rp_struct unTok (by kernel_rfl), foldT, rp_int unTKind, rp_str unT, rp_int unTU64, rp_int unTInt]
  simp only [Option.bind_some]
  cases p.k == q.k <;> cases decide (p.t = q.t) <;> cases p.n == q.n <;> cases p.a == q.a <;> rfl
theorem eqlTok {ro : Nat} (p q : Tk) {ty r : TypeId} {s : St} {K : Value → St → Prop} : wop P ro (.binOp .eql 35 (.const (.agg (.mk p.cells))) (.const (.agg (.mk q.cells))) r) ty s K = K (.bool (p.k == q.k && (decide (p.t = q.t) && (p.n == q.n && p.a == q.a)))) s :=
  wop_eql_of rfl rfl (by kernel_rfl) (eqTok p q)
def rightM (x : Tk) : Bool := decide (x.t ≠ []) && (decide ((firstM x.t).2 = 0) && (((firstM x.t).1.k == x.k) && (decide ((firstM x.t).1.t = x.t) && ((firstM x.t).1.n == x.n))))
section
variable {ro : Nat} {K : Value → St → Prop} {s : St}
theorem wRight {x : Tk} (hl : x.t.length < 2 ^ 63) (hw : Wf s) (hro : ro ≤ s.n) : CallWP P ro 21 [.agg (.mk x.cells)] s K = K (.bool (rightM x)) s := by
  refine callEq (call_wp b21 rfl ?_) K
  rw [n21]
  unfold v21
  have hn0 : (ent s).n = s.n := rfl
  simp (maxSteps := 10000000) only [wW, reduceCtorEq, Nat.reduceEqDiff]
  refine box_rule hw.ent fun B s1 m1 => ?_
  have e1 := m1.eq
  have n1 := m1.n
  have hB1 : s1.at B = some (.cells x.cells 35 false) := m1.here
  rw [fa_35_1, wopt_some, wop_load, load_one (v := tx x.t) ap_9 hB1 rfl, wopt_some]
  have eqs : ∀ (ty r : TypeId) (K : Value → St → Prop), wop P ro (.binOp .eql 9 (.const (tx x.t)) (.const (.string (ByteArray.mk #[]))) r) ty s1 K = K (.bool (decide (x.t = []))) s1 := fun ty r K => eql_tx x.t [] r ty
  rw [eqs]
  simp (maxSteps := 10000000) only [wW, reduceCtorEq, Nat.reduceEqDiff]
  by_cases hne : x.t = []
  · rw [if_pos hne]
    refine fin_B m1.grew ?_ ⟨rfl, rfl⟩
    unfold rightM
    rw [decide_eq_false (fun h => h hne)]; rfl
  rw [if_neg hne, wop_load, load_one (v := tx x.t) ap_9 hB1 rfl, wopt_some, wFirst hne hl m1.wf (by omega)]
  simp (maxSteps := 10000000) only [wW, reduceCtorEq, Nat.reduceEqDiff, List.getElem?_cons_zero, List.getElem?_cons_succ]
  refine alloc_rule ty_35 m1.wf fun Z s2 m2 => ?_
  have e2 := m2.eq
  have n2 := m2.n
  refine storeAll_rule isz_35 m2.here (l := (firstM x.t).1.cells) (tkLen _) (by decide) m2.wf (by omega) rfl (tkOne _) fun s3 p3 => ?_
  have n3 := p3.n
  have g3 : Grew s1 s3 := p3.grew _ m1.wf m2.grew (by omega)
  have hB3 := (g3.same B (by omega)).trans hB1
  rw [fa_35_3, wopt_some, wop_load, load_one (v := .int .i64 x.a) ap_3 hB3 rfl, wopt_some, fa_35_3, wopt_some]
  refine store1_rule isz_3 p3.here p3.wf (by omega) (by rw [tkLen]; decide) rfl fun s4 p4 => ?_
  have n4 := p4.n
  have hZ4 : s4.at Z = some (.cells (Tk.cells ⟨(firstM x.t).1.k, (firstM x.t).1.t, (firstM x.t).1.n, x.a⟩) 35 false) := p4.here
  have hB4 := (p4.rest B (by omega)).trans hB3
  have g4 : Grew (ent s) s4 := p4.grew _ hw.ent (m1.grew.trans g3) (by omega)
  by_cases he : (firstM x.t).2 = 0
  · rw [if_pos he, wop_load, load_all ap_35 hZ4 (tkLen _), wopt_some, wop_load, load_all ap_35 hB4 (tkLen _), wopt_some, eqlTok]
    refine fin_B g4 ?_ ⟨rfl, rfl⟩
    unfold rightM
    rw [decide_eq_true hne, decide_eq_true he, beq_self_eq_true]
    simp only [Bool.and_true, Bool.true_and]
  · rw [if_neg he]
    refine fin_B g4 ?_ ⟨rfl, rfl⟩
    unfold rightM
    rw [decide_eq_false he]
    simp
end
end Go.VE
/- Chapter 20: Print. -/
namespace Go.VE
open Go Go.Proofs
set_option maxRecDepth 20000
theorem makeLC_rule {ro : Nat} {t e : TypeId} {sz bytes : Nat} {z : Value} (hse : sliceElem P t = some e) (hty : tyOk P e sz bytes z = true) {s : St} (hw : Wf s) {l n : Int} (h0 : 0 ≤ l) (hln : l ≤ n) (hn : n ≤ 2 ^ 36) (hb : bytes ≤ 1000) {ty : TypeId} {K : Value → St → Prop}
    (hk : ∀ A s', Made s A (.cells (zeroList z.cells (n.toNat * sz)) e false) s' → K (.slice (some ⟨A, 0, none⟩) l.toNat n.toNat) s') : wop P ro (.makeSlice t (.const (.int .i64 l)) (.const (.int .i64 n))) ty s K := by
  obtain ⟨i, hi, hsz, hby, hz, hf, hzs⟩ := tyOk_spec hty
  rw [wop_makeSlice]
  have hle : bytes * n ≤ 1000 * 2 ^ 36 := Int.mul_le_mul (by omega) hn (by omega) (by omega)
  have hc : flat z = true ∧ 0 ≤ l ∧ l ≤ n ∧ i.bytes * n ≤ 2 ^ 47 ∧ n ≤ 2 ^ 47 ∧ z.cells.size = i.size := ⟨hf, h0, hln, by rw [hby]; omega, by omega, by rw [hsz]; exact hzs⟩
  simp only [amakeSlice, hse, hi, hz]
  rw [if_pos hc, wopt_some, hsz]
  exact hk _ _ (.mk' hw _)
theorem splice_front {c l : List Value} {m : Nat} (h : m + l.length ≤ c.length) : (splice c m l).take (m + l.length) = c.take m ++ l := by
  unfold splice
  have h1 : (c.take m).length = m := by rw [List.length_take]; omega
  rw [← List.append_assoc]
  have h2 : (c.take m ++ l).length = m + l.length := by rw [List.length_append, h1]
  rw [← h2, List.take_left]
def jnT (l : List Tk) : List UInt8 := Lib.join (l.map (·.t)) [32]
def sumL : List Tk → Nat
  | [] => 0
  | x :: l => x.t.length + sumL l
theorem sumL_app : ∀ (a b : List Tk), sumL (a ++ b) = sumL a + sumL b
  | [], b => by simp [sumL]
  | x :: a, b => by
    show x.t.length + sumL (a ++ b) = x.t.length + sumL a + sumL b
    rw [sumL_app a b]; omega
theorem jnT_tail (r : List Tk) : (Lib.joinTail [32] (r.map (·.t))).length = sumL r + r.length := by
  induction r with
  | nil => rfl
  | cons x r ih =>
    unfold Lib.joinTail at ih ⊢
    simp only [List.map_cons, List.flatten_cons, List.length_append, List.length_cons, List.length_nil, sumL] at ih ⊢
    omega
theorem jnT_len (l : List Tk) : (jnT l).length = sumL l + (l.length - 1) := by
  cases l with
  | nil => rfl
  | cons x r =>
    unfold jnT
    rw [List.map_cons, Lib.join_cons, List.length_append, jnT_tail]
    show _ = x.t.length + sumL r + (r.length + 1 - 1)
    omega
theorem right_len {x : Tk} (h : rightM x = true) : x.t.length ≤ 20 := by
  unfold rightM at h
  simp only [Bool.and_eq_true, decide_eq_true_eq] at h
  obtain ⟨hne, he, _, ht, _⟩ := h
  cases hx : x.t with
  | nil => simp
  | cons c r =>
    rw [hx] at he ht
    rw [← ht]
    unfold firstM at he ⊢
    simp only at he ⊢
    by_cases hL : letN (bz c) = true
    · simp only [hL, if_true] at he ⊢
      split at he
      · exact absurd he (by decide)
      · rename_i hb
        rw [if_neg hb]
        simp only
        omega
    · simp only [hL, if_false, Bool.false_eq_true] at he ⊢
      by_cases hD : digN (bz c) = true
      · simp only [hD, if_true] at he ⊢
        split at he
        · exact absurd he (by decide)
        · split at he
          · exact absurd he (by decide)
          · rename_i ha hb
            rw [if_neg ha, if_neg hb]
            simp only
            omega
      · simp only [hD, if_false, Bool.false_eq_true] at he ⊢
        split at he
        · exact absurd he (by decide)
        · rename_i hs
          rw [if_neg hs]
          simp only [List.length_take]
          have : signL (c :: r) ≤ 2 := by unfold signL; split <;> (try split) <;> omega
          omega
theorem right_sum : ∀ {l : List Tk}, (∀ x ∈ l, rightM x = true) → sumL l ≤ 20 * l.length
  | [], _ => by simp [sumL]
  | x :: l, h => by
    have h1 := right_len (h x List.mem_cons_self)
    have h2 := right_sum (l := l) fun y hy => h y (List.mem_cons_of_mem _ hy)
    show x.t.length + sumL l ≤ _
    rw [List.length_cons]
    omega
def printM (l : List Tk) : List UInt8 × Int := if l.all rightM = true then (if (jnT l).length > 4096 then ([], 3) else (jnT l, 0)) else ([], 1)
section
variable {ro : Nat} {K : Value → St → Prop} {s : St}
theorem max_i64 (a b : Int) (ty : TypeId) (s : St) (K : Value → St → Prop) : wop P ro (.call ⟨.builtin .max, ⟨[.const (.int .i64 a), .const (.int .i64 b)]⟩, #[3, 3]⟩) ty s K = K (.int .i64 (if a < b then b else a)) s := by kernel_rfl
theorem ixS {A n i : Nat} (hi : i < n) : aindexAddr P 43 (.slice (some ⟨A, 0, none⟩) n n) (.int .i64 (i : Int)) = some (.pointer (some ⟨A, i, none⟩)) := by
  have hs : isz P 9 = some 1 := isz_9
  have hund : P.underlying 43 = some (.slice 9) := un_43
  have h0 : (0 : Int) ≤ (i : Int) := by omega
  have h1 : (i : Int) < n := by omega
  simp only [aindexAddr, hund, hs, Option.bind_some, aplace, h0, h1, and_self, if_true, Nat.zero_add, Nat.mul_one, Int.toNat_natCast]
theorem wJoin {l : List Tk} {D : Nat} (hD : s.at D = some (.cells (l.map fun x => tx x.t) 9 false)) (hl : l.length ≤ 140737488355328) (hj : (jnT l).length ≤ 140737488355328) : CallWP P ro 22 [.slice (some ⟨D, 0, none⟩) l.length l.length, tx [32]] s K = K (tx (jnT l)) s := by
  refine callEq (call_known ?_ ⟨rfl, rfl⟩) K
  have hf : afirst s 1 l.length (.slice (some ⟨D, 0, none⟩) l.length l.length) = some (l.map fun x => tx x.t) := by
    unfold afirst
    simp only [Nat.mul_one]
    cases hn : l.length with
    | zero =>
      have : l = [] := List.eq_nil_of_length_eq_zero hn
      subst this; rfl
    | succ k =>
      simp only [mkOk, cond_true, acells_some hD, Option.bind_some]
      rw [cut_all (by rw [List.length_map, hn])]
  have hs : strsOf (l.map fun x => tx x.t) = some (l.map fun x => ByteArray.mk (Array.mk x.t)) := by
    have := strsOf_map (l.map fun x => ByteArray.mk (Array.mk x.t))
    rw [List.map_map] at this
    exact this
  have hx : (l.map fun x => ByteArray.mk (Array.mk x.t)).map (·.data.toList) = l.map (·.t) := by rw [List.map_map]; rfl
  have e : lookJ (l.map fun x => tx x.t) [tx [32]] = some (tx (jnT l)) := by
    unfold lookJ
    simp only [hs]
    rw [if_pos ⟨by rw [List.length_map]; exact hl, by rw [hx]; exact hj⟩]
    unfold joinB
    rw [hx]
    rfl
  show (bif Nat.beq 22 22 then mslice s 22 [.slice (some ⟨D, 0, none⟩) l.length l.length, tx [32]] else none) = _
  rw [Nat.beq_refl]
  simp only [cond_true, mslice, Nat.ble_eq_true_of_le (Nat.le_refl _), hf, Option.bind_some, List.length_map, Nat.beq_refl]
  exact e
theorem wPrint {l : List Tk} {v : Value} (hv : TokS s v l) (hn : l.length ≤ 2 ^ 30) (ht : ∀ x ∈ l, x.t.length < 2 ^ 63) (hw : Wf s) (hro : ro ≤ s.n) : CallWP P ro 14 [v] s K = K (.tuple (.mk [tx (printM l).1, .int .i64 (printM l).2])) s := by
  refine callEq (call_wp b14 rfl ?_) K
  rw [n14]
  unfold v14
  have hn0 : (ent s).n = s.n := rfl
  have lv : ∀ (ty : TypeId) (s' : St) (K : Value → St → Prop), wop P ro (.call ⟨.builtin .len, ⟨[.const v]⟩, #[22]⟩) ty s' K = K (.int .i64 l.length) s' := fun ty s' K => Sl.wlen hv se_22 ty K
  simp (maxSteps := 10000000) only [wW, reduceCtorEq, Nat.reduceEqDiff, lv, max_i64]
  rw [wrap_i64 (by omega) (by omega)]
  obtain ⟨m0, hm0, hm1⟩ : ∃ m : Nat, (if (0 : Int) < (l.length : Int) - 1 then (l.length : Int) - 1 else 0) = (m : Int) ∧ m = l.length - 1 := ⟨l.length - 1, by split <;> omega, rfl⟩
  rw [hm0]
  refine makeLC_rule se_43 ty_9 hw.ent (by omega) (Int.le_refl _) (by omega) (by decide) fun D s1 m1 => ?_
  rw [Int.toNat_natCast] at m1 ⊢
  have e1 := m1.eq
  have n1 := m1.n
  refine wloop l14_1110100 m14_1110100 (fun (i : Nat) τ ds s' => i ≤ l.length ∧ τ 4 = .int .i64 ((m0 + sumL (l.take i) : Nat) : Int) ∧ τ 5 = .slice (some ⟨D, 0, none⟩) l.length l.length ∧ τ 15 = v ∧ τ 16 = .int .i64 l.length ∧ τ 17 = .int .i64 i ∧ ds = [] ∧ Wf s' ∧ Grew (ent s) s' ∧ (∀ x ∈ l.take i, rightM x = true) ∧ ∃ c, s'.at D = some (.cells c 9 false) ∧ c.length = l.length ∧ c.take i = (l.take i).map fun x => tx x.t) (fun i => l.length - i) ?_ 0 ⟨Nat.zero_le _, ?_, ?_, ?_, ?_, ?_, rfl, m1.wf, m1.grew, (fun x hx => by cases hx), _, m1.here, by rw [zeroList_len, Nat.mul_one], rfl⟩
  · rintro i τ ds s' ⟨hi, t4, t5, t15, t16, t17, rfl, w', g', hr, c, hD, hcl, hct⟩
    rw [n14_1110100]
    unfold v14_1110100
    have gn := g'.n
    have hDl := St.at_lt hD
    have hsum := right_sum hr
    have htl : (l.take i).length = i := by rw [List.length_take]; omega
    simp (maxSteps := 10000000) only [wW, reduceCtorEq, Nat.reduceEqDiff, t4, t5, t15, t16, t17]
    by_cases hlt : i < l.length
    · have gx : l[i]? = some l[i] := List.getElem?_eq_getElem hlt
      have hxm : l[i] ∈ l := List.getElem_mem hlt
      have htx := ht _ hxm
      have hv' : TokS s' v l := Sl.grew (Sl.ent hv) g'.same
      obtain ⟨A, o, i1, p1⟩ := hv'.ix gx
      have htk : l.take (i + 1) = l.take i ++ [l[i]] := take_succ_eq gx
      generalize l[i] = x at gx hxm htx p1 htk
      rw [if_pos (by omega), wop_indexAddr, i1, wopt_some, wop_load, p1.w, wopt_some]
      refine alloc_rule ty_35 w' fun Z s2 m2 => ?_
      have e2 := m2.eq
      have n2 := m2.n
      refine storeAll_rule isz_35 m2.here (l := x.cells) (tkLen _) (by decide) m2.wf (by omega) rfl (tkOne _) fun s3 p3 => ?_
      have n3 := p3.n
      have g3 : Grew s' s3 := p3.grew _ w' m2.grew (by omega)
      have hZ3 := p3.here
      rw [wop_load, load_all ap_35 hZ3 (tkLen _), wopt_some, wRight htx p3.wf (by omega)]
      simp (maxSteps := 10000000) only [wW, reduceCtorEq, Nat.reduceEqDiff]
      cases hR : rightM x with
      | false =>
        simp only [Bool.not_false, if_true]
        simp (maxSteps := 10000000) only [r14, U, tset_eq, wW, reduceCtorEq, Nat.reduceEqDiff]
        refine fin_flat rfl (g'.trans g3) ⟨?_, rfl⟩
        have : l.all rightM = false := by
          rw [List.all_eq_false]
          exact ⟨x, hxm, by rw [hR]; decide⟩
        unfold printM
        rw [this]
        rfl
      | true =>
        simp only [Bool.not_true, Bool.false_eq_true, if_false]
        have hxl := right_len hR
        have hD3 := (g3.same D hDl).trans hD
        have hsn : sumL (l.take (i + 1)) = sumL (l.take i) + x.t.length := by rw [htk, sumL_app]; show _ + (x.t.length + 0) = _; omega
        rw [fa_35_1, wopt_some, wop_load, load_one (v := tx x.t) ap_9 hZ3 rfl, wopt_some, wop_indexAddr, ixS hlt, wopt_some]
        refine store1_rule isz_9 hD3 p3.wf (by omega) (by omega) rfl fun s4 p4 => ?_
        have n4 := p4.n
        have hZ4 := (p4.rest Z (by omega)).trans hZ3
        rw [wopt_some, wop_load, load_one (v := tx x.t) ap_9 hZ4 rfl, wopt_some, len_tx]
        simp (maxSteps := 10000000) only [wW, reduceCtorEq, Nat.reduceEqDiff]
        rw [wrap_i64 (by omega) (by omega), wrap_i64 (by omega) (by omega)]
        refine ⟨i + 1, by omega, by omega, ?_, ?_, ?_, ?_, ?_, by first | trivial | rfl, p4.wf, p4.grew _ hw.ent (g'.trans g3) (by omega), fun y hy => ?_, _, p4.here, ?_, ?_⟩
        · simp only [U, tset_eq, wW, reduceCtorEq, Nat.reduceEqDiff]
          rw [hsn]
          exact congrArg (Value.int .i64) (by omega)
        · simp only [U, tset_eq, wW, reduceCtorEq, Nat.reduceEqDiff, t5]
        · simp only [U, tset_eq, wW, reduceCtorEq, Nat.reduceEqDiff, t15]
        · simp only [U, tset_eq, wW, reduceCtorEq, Nat.reduceEqDiff, t16]
        · simp only [U, tset_eq, wW, reduceCtorEq, Nat.reduceEqDiff]; rfl
        · rw [htk] at hy
          rcases List.mem_append.1 hy with hy | hy
          · exact hr y hy
          · simp only [List.mem_cons, List.not_mem_nil, or_false] at hy
            subst hy; exact hR
        · rw [splice_length (by simp; omega)]; exact hcl
        · have := splice_front (c := c) (l := [tx x.t]) (m := i) (by simp; omega)
          rw [List.length_singleton] at this
          rw [this, htk, List.map_append, hct]; rfl
    · obtain rfl : i = l.length := by omega
      rw [List.take_length] at hr hct hsum
      have hall : l.all rightM = true := List.all_eq_true.2 hr
      have hcm : c = l.map fun x => tx x.t := by rw [← hct, List.take_of_length_le (by omega)]
      rw [hcm] at hD
      have hjl := jnT_len l
      rw [if_neg (by omega)]
      simp (maxSteps := 10000000) only [U, tset_eq, wW, reduceCtorEq, Nat.reduceEqDiff, t4, t5]
      rw [List.take_length]
      by_cases hbig : (jnT l).length > 4096
      · rw [if_pos (by omega)]
        refine fin_flat rfl g' ⟨?_, rfl⟩
        unfold printM
        rw [if_pos hall, if_pos hbig]
      · rw [if_neg (by omega)]
        have hj : ∀ K, CallWP P ro 22 [.slice (some ⟨D, 0, none⟩) l.length l.length, .string (ByteArray.mk #[32])] s' K = K (tx (jnT l)) s' := fun K => wJoin hD (by omega) (by omega)
        rw [hj]
        refine fin_flat rfl g' ⟨?_, rfl⟩
        unfold printM
        rw [if_pos hall, if_neg hbig]
  · simp only [U, tset_eq, wW, reduceCtorEq, Nat.reduceEqDiff]
    rfl
  · simp only [U, tset_eq, wW, reduceCtorEq, Nat.reduceEqDiff]
  · simp only [U, tset_eq, wW, reduceCtorEq, Nat.reduceEqDiff]
  · simp only [U, tset_eq, wW, reduceCtorEq, Nat.reduceEqDiff]
  · simp only [U, tset_eq, wW, reduceCtorEq, Nat.reduceEqDiff]; rfl
end
end Go.VE
/- Chapter 20: the reference's Print. -/
namespace Go.VE
open Go Go.Proofs
set_option maxRecDepth 20000
section
variable {ro : Nat} {K : Value → St → Prop} {s : St}
end
end Go.VE
/- Chapter 20: awake. -/
namespace Go.VE
open Go Go.Proofs
set_option maxRecDepth 20000
theorem wop_neq_of {P : Program} [Memo] {ro : Nat} {t r ty : TypeId} {xs ys : List Value} {c : Bool} (hx : flatL xs = true) (hy : flatL ys = true) (hg : P.eqGuardType P.depth t = false) (h : runPure P (Op.equal t (.agg (.mk xs)) (.agg (.mk ys))) = some c) {s : St} {K : Value → St → Prop} :
    wop P ro (.binOp .neq t (.const (.agg (.mk xs))) (.const (.agg (.mk ys))) r) ty s K = K (.bool (!c)) s := by
  have e : apure P .e (mkO (.binOp .neq t (.const (.agg (.mk xs))) (.const (.agg (.mk ys))) r) ty) = some (.val (.bool (!c))) := by
    unfold apure
    have e2 : runPure P (execOp (aval .e) (mkO (.binOp .neq t (.const (.agg (.mk xs))) (.const (.agg (.mk ys))) r) ty)) = some (Next.value (.bool (!c))) := by
      show runPure P ((do eqGuard .neq t (.const (.agg (.mk xs))) (.const (.agg (.mk ys))) (.agg (.mk xs)) (.agg (.mk ys)); binOp .neq t (.agg (.mk xs)) (.agg (.mk ys))) >>= fun v => pure (Next.value v)) = _
      rw [rp_bind, rp_bind]
      have e3 : runPure P (eqGuard .neq t (.const (.agg (.mk xs))) (.const (.agg (.mk ys))) (.agg (.mk xs)) (.agg (.mk ys))) = some () := by
        show runPure P (if (!P.eqGuardType P.depth t) = true then pure () else _) = _
        rw [hg]; rfl
      rw [e3]
      simp only [Option.bind_some]
      show (runPure P (Op.equal t (.agg (.mk xs)) (.agg (.mk ys)) >>= fun b => pure (Value.bool (!b)))).bind _ = _
      rw [rp_bind, h]
      rfl
    rw [e2]
    rfl
  have hf : ∀ l : List Value, flatL l = true → flat' (.agg (.mk l)) = true := fun l hl => by
    show (false || flatL l) = true
    rw [hl]; rfl
  show wfol P ro K (abin P .e (mkO (.binOp .neq t (.const (.agg (.mk xs))) (.const (.agg (.mk ys))) r) ty) s .neq t (.agg (.mk xs)) (.agg (.mk ys))) = _
  simp only [abin, hf xs hx, hf ys hy, Bool.and_self, cond_true, e]
  rfl
theorem neqTok {ro : Nat} (p q : Tk) {ty r : TypeId} {s : St} {K : Value → St → Prop} : wop P ro (.binOp .neq 35 (.const (.agg (.mk p.cells))) (.const (.agg (.mk q.cells))) r) ty s K = K (.bool (!(p.k == q.k && (decide (p.t = q.t) && (p.n == q.n && p.a == q.a))))) s :=
  wop_neq_of rfl rfl (by kernel_rfl) (eqTok p q)
def awA : List UInt8 := [108, 101, 116, 32, 97, 61, 98, 49, 42, 50, 59, 35, 32, 120]
def awT : List Tk := [⟨1, [108, 101, 116], 0, 0⟩, ⟨1, [97], 0, 4⟩, ⟨3, [61], 0, 5⟩, ⟨1, [98, 49], 0, 6⟩, ⟨3, [42], 0, 8⟩, ⟨2, [50], 2, 9⟩, ⟨3, [59], 0, 10⟩]
def awB : List UInt8 := [108, 101, 116, 32, 97, 32, 61, 32, 98, 49, 32, 42, 32, 50, 32, 59]
theorem awA_tok : tokM awA = (awT, 0, 0) := by kernel_rfl
theorem awT_print : printM awT = (awB, 0) := by kernel_rfl
theorem tkCells_take : ∀ (l : List Tk) (k : Nat), tkCells (l.take k) = (tkCells l).take (k * 4)
  | [], k => by simp [tkCells]
  | x :: l, 0 => by simp [tkCells]
  | x :: l, k + 1 => by
    have e : tkCells (x :: l) = x.cells ++ tkCells l := rfl
    have e2 : tkCells ((x :: l).take (k + 1)) = x.cells ++ tkCells (l.take k) := rfl
    have hl := tkLen x
    rw [e, e2, tkCells_take l k, List.take_append, hl, show (k + 1) * 4 - 4 = k * 4 by omega, List.take_of_length_le (l := x.cells) (by rw [hl]; omega)]
section
variable {ro : Nat} {K : Value → St → Prop} {s : St}
theorem wAwake (hw : Wf s) (hro : ro ≤ s.n) : CallWP P ro 13 [] s K = K (.bool true) s := by
  refine callEq (call_wp b13 rfl ?_) K
  rw [n13]
  unfold v13
  have hn0 : (ent s).n = s.n := rfl
  simp (maxSteps := 10000000) only [wW, reduceCtorEq, Nat.reduceEqDiff]
  refine wTokens (l := awA) (by decide) hw.ent hro fun v s1 g1 w1 hv _ _ => ?_
  rw [awA_tok] at hv ⊢
  simp only at hv ⊢
  have n1 := g1.n
  have lv : ∀ (ty : TypeId) (s' : St) (K : Value → St → Prop), wop P ro (.call ⟨.builtin .len, ⟨[.const v]⟩, #[22]⟩) ty s' K = K (.int .i64 7) s' := fun ty s' K => Sl.wlen hv se_22 ty K
  obtain ⟨A0, o0, i0, p0⟩ := hv.ix (i := 0) (x := ⟨1, [108, 101, 116], 0, 0⟩) rfl
  obtain ⟨A3, o3, i3, p3⟩ := hv.ix (i := 3) (x := ⟨1, [98, 49], 0, 6⟩) rfl
  obtain ⟨A5, o5, i5, p5⟩ := hv.ix (i := 5) (x := ⟨2, [50], 2, 9⟩) rfl
  obtain ⟨A6, o6, i6, p6⟩ := hv.ix (i := 6) (x := ⟨3, [59], 0, 10⟩) rfl
  have i0' : aindexAddr P 22 v (.int .i64 0) = some (.pointer (some ⟨A0, o0, none⟩)) := i0
  have i3' : aindexAddr P 22 v (.int .i64 3) = some (.pointer (some ⟨A3, o3, none⟩)) := i3
  have i5' : aindexAddr P 22 v (.int .i64 5) = some (.pointer (some ⟨A5, o5, none⟩)) := i5
  have i6' : aindexAddr P 22 v (.int .i64 6) = some (.pointer (some ⟨A6, o6, none⟩)) := i6
  have q0 : ∀ (ty r : TypeId) (K : Value → St → Prop), wop P ro (.binOp .neq 9 (.const (tx [108, 101, 116])) (.const (.string (ByteArray.mk #[108, 101, 116]))) r) ty s1 K = K (.bool false) s1 := fun ty r K => neq_tx [108, 101, 116] [108, 101, 116] r ty
  have q5 : ∀ (ty r : TypeId) (K : Value → St → Prop), wop P ro (.binOp .neq 35 (.const (.agg (.mk (Tk.cells ⟨2, [50], 2, 9⟩)))) (.const (.agg (.mk (Tk.cells ⟨2, [50], 2, 9⟩)))) r) ty s1 K = K (.bool false) s1 := fun ty r K => neqTok _ _
  have bl : abuild P 35 (partVals .e [(0, .const (.int .u8 2)), (1, .const (.string (ByteArray.mk #[50]))), (2, .const (.int .u64 2)), (3, .const (.int .i64 9))]) = some (.agg (.mk (Tk.cells ⟨2, [50], 2, 9⟩))) := bld4 2 2 9 [50]
  simp (maxSteps := 10000000) only [wW, reduceCtorEq, Nat.reduceEqDiff, List.getElem?_cons_zero, List.getElem?_cons_succ, lv, wop_indexAddr, wop_load, i0', i3', i5', i6', fa_35_1, fa_35_3, p0.t, p3.a, p5.w, p6.a, q0, bl, q5]
  have hc0 : (((0 : Nat) : Int) = 0) := rfl
  rw [if_neg (fun h => h trivial), if_neg (fun h => h hc0), if_neg (fun h => h trivial)]
  rw [if_neg (fun h => h trivial), if_neg (fun h => h trivial), wPrint hv (by decide) (by decide +revert) w1 (by omega), awT_print]
  have qB : ∀ (ty r : TypeId) (K : Value → St → Prop), wop P ro (.binOp .eql 9 (.const (tx awB)) (.const (.string (ByteArray.mk #[108, 101, 116, 32, 97, 32, 61, 32, 98, 49, 32, 42, 32, 50, 32, 59]))) r) ty s1 K = K (.bool true) s1 := fun ty r K => eql_tx awB awB r ty
  rw [wop_extract, List.getElem?_cons_zero, wopt_some, wop_extract, List.getElem?_cons_succ, List.getElem?_cons_zero, wopt_some, qB, wdec_true, wop_int, int_eql keq_i64, wopt_some]
  exact fin_B g1 rfl ⟨rfl, rfl⟩
theorem sliceNil (K : Value → St → Prop) (ty : TypeId) : wop P ro (.slice 22 (.const (.slice none 0 0)) none (some (.const (.int .i64 ((0 : Nat) : Int)))) none) ty s K = K (.slice none 0 0) s := by kernel_rfl
end
end Go.VE
/- Chapter 20: what is read of a text, laid end to end (plain). -/
namespace Go.VE
open Go Go.Proofs
set_option maxRecDepth 20000
def Stop (w : List UInt8) : Prop := ∀ c r, w = c :: r → insN (bz c) = false ∧ c ≠ 61 ∧ c ≠ 46
end Go.VE
/- Chapter 20: what is read of texts laid end to end (plain). -/
namespace Go.VE
open Go Go.Proofs
set_option maxRecDepth 20000
end Go.VE
/- Chapter 20: LexisRound. -/
namespace Go.VE
open Go Go.Proofs
set_option maxRecDepth 20000
theorem printM_right {l : List Tk} (h : ∀ x ∈ l, rightM x = true) : printM l = if (jnT l).length > 4096 then ([], 3) else (jnT l, 0) := by
  unfold printM
  rw [if_pos (List.all_eq_true.2 h)]
section
variable {ro : Nat} {K : Value → St → Prop} {s : St}
end
end Go.VE
/- Chapter 20: the law's own idle. -/
namespace Go.VE
open Go Go.Proofs
set_option maxRecDepth 20000
section
variable {ro : Nat} {K : Value → St → Prop} {s : St}
end
end Go.VE
/- Chapter 20: LexisStands. -/
namespace Go.VE
open Go Go.Proofs
set_option maxRecDepth 20000
section
variable {ro : Nat} {K : Value → St → Prop} {s : St}
end
end Go.VE
/- Chapter 20: the back of a slice; texts at another offset (plain). -/
namespace Go.VE
open Go Go.Proofs
set_option maxRecDepth 20000
theorem Sl.back {s : St} {v : Value} {sz n : Nat} {cs : List Value} (h : Sl s v sz n cs) {k : Nat} (hk : k < n) (hsz : 0 < sz) : ∃ w, Sl s w sz (n - k) (cs.drop (k * sz)) ∧
    (∀ {P : Program} {t e : TypeId}, sliceElem P t = some e → isz P e = some sz → ∃ a n c, v = .slice (some a) n c ∧ asliceOp P t v (some (.int .i64 k)) none none = some w) := by
  obtain ⟨a, c, rfl, hl, ⟨hc, hnone, hsp⟩, h⟩ := h
  have hkm : k * sz + (n - k) * sz = n * sz := by rw [← Nat.add_mul, Nat.add_sub_cancel' (by omega)]
  cases a with
  | none =>
    obtain rfl := hnone rfl
    omega
  | some x =>
    obtain ⟨A, o, m⟩ := x
    have hm := hsp _ rfl
    simp only at hm
    have hlen : (cs.drop (k * sz)).length = (n - k) * sz := by rw [List.length_drop, hl]; omega
    have hund : ∀ {P : Program} {t e : TypeId}, sliceElem P t = some e → P.underlying t = some (.slice e) := fun {P t e} he => by
      unfold sliceElem at he
      split at he
      · rename_i e' hu; cases he; exact hu
      · cases he
    have hab : abound (some (.int .i64 k)) 0 n = some k := by
      simp only [abound]
      rw [if_pos ⟨by omega, by omega⟩]
      rfl
    have hn0 : n * sz ≠ 0 := Nat.mul_ne_zero (by omega) (by omega)
    obtain ⟨A', o', m', cells, t, op, ha, hm', hA, hcs⟩ := h hn0
    cases ha
    have hblk : (cells.drop (o + k * sz)).take ((n - k) * sz) = cs.drop (k * sz) := by
      rw [← hcs, List.drop_take, List.drop_drop, show n * sz - k * sz = (n - k) * sz by omega]
    have hhi : abound none n c = some n := rfl
    rcases hm with rfl | ⟨rfl, hpos⟩
    · refine ⟨.slice (some ⟨A, o + k * sz, none⟩) (n - k) (c - k), ⟨_, _, rfl, hlen, ⟨by omega, fun h => (by cases h), fun x hx => by cases hx; exact .inl rfl⟩, fun _ => ⟨A, o + k * sz, none, cells, t, op, rfl, rfl, hA, hblk⟩⟩, fun {P t e} he hs => ⟨_, _, _, rfl, ?_⟩⟩
      simp only [asliceOp, hund he, hs, sliceTwo, hab, hhi, Option.bind_some]
      rw [if_neg (by omega)]
    · refine ⟨.slice (some ⟨A, o + k * sz, some 0⟩) (n - k) (c - k), ⟨_, _, rfl, hlen, ⟨by omega, fun h => (by cases h), fun x hx => by cases hx; exact .inr ⟨rfl, by omega⟩⟩, fun _ => ⟨A, o + k * sz, some 0, cells, t, op, rfl, rfl, hA, hblk⟩⟩, fun {P t e} he hs => ⟨_, _, _, rfl, ?_⟩⟩
      simp only [asliceOp, hund he, hs, sliceTwo, hab, hhi, Option.bind_some]
      rw [if_pos (by omega)]
theorem Sl.backAll {s : St} {v : Value} {sz n : Nat} {cs : List Value} (h : Sl s v sz n cs) : (v = .slice none 0 0 ∧ n = 0) ∨ ∀ {P : Program} {t e : TypeId}, sliceElem P t = some e → isz P e = some sz → ∃ a c a' c', v = .slice (some a) n c ∧ asliceOp P t v (some (.int .i64 n)) none none = some (.slice (some a') 0 c') := by
  obtain ⟨a, c, rfl, hl, ⟨hc, hnone, hsp⟩, h⟩ := h
  cases a with
  | none =>
    obtain rfl := hnone rfl
    obtain rfl : n = 0 := by omega
    exact .inl ⟨rfl, rfl⟩
  | some x =>
    refine .inr fun {P t e} he hs => ?_
    obtain ⟨A, o, m⟩ := x
    have hm := hsp _ rfl
    simp only at hm
    have hund : P.underlying t = some (.slice e) := by
      unfold sliceElem at he
      split at he
      · rename_i e' hu; cases he; exact hu
      · cases he
    have hab : abound (some (.int .i64 n)) 0 n = some n := by
      simp only [abound]
      rw [if_pos ⟨by omega, by omega⟩]
      rfl
    have hhi : abound none n c = some n := rfl
    rcases hm with rfl | ⟨rfl, hpos⟩
    · refine ⟨_, _, if c = n then ⟨A, o, none⟩ else ⟨A, o + n * sz, none⟩, c - n, rfl, ?_⟩
      simp only [asliceOp, hund, hs, sliceTwo, hab, hhi, Option.bind_some, Nat.sub_self]
    · by_cases hnc : n < c
      · refine ⟨_, _, ⟨A, o + n * sz, some 0⟩, c - n, rfl, ?_⟩
        simp only [asliceOp, hund, hs, sliceTwo, hab, hhi, Option.bind_some, Nat.sub_self]
        rw [if_pos hnc]
      · refine ⟨_, _, ⟨A, o, some 1⟩, 0, rfl, ?_⟩
        simp only [asliceOp, hund, hs, sliceTwo, hab, hhi, Option.bind_some]
        rw [if_neg hnc, if_pos ⟨trivial, by omega⟩]
theorem tkCells_drop : ∀ (l : List Tk) (k : Nat), tkCells (l.drop k) = (tkCells l).drop (k * 4)
  | [], k => by simp [tkCells]
  | x :: l, 0 => by simp
  | x :: l, k + 1 => by
    have e : tkCells (x :: l) = x.cells ++ tkCells l := rfl
    have hl := tkLen x
    rw [List.drop_succ_cons, e, tkCells_drop l k, List.drop_append, hl, show (k + 1) * 4 - 4 = k * 4 by omega, List.drop_of_length_le (l := x.cells) (by rw [hl]; omega), List.nil_append]
end Go.VE
/- Chapter 20: LexisApart. -/
namespace Go.VE
open Go Go.Proofs
set_option maxRecDepth 20000
section
variable {ro : Nat} {K : Value → St → Prop} {s : St}
theorem wSameE {a b : Option Addr} {c d : Nat} : CallWP P ro 16 [.slice a 0 c, .slice b 0 d] s K = K (.bool true) s := by
  refine callEq (call_wp b16 rfl ?_) K
  rw [n16]
  unfold v16
  have la : ∀ (a : Option Addr) (c : Nat) (ty : TypeId) (s' : St) (K : Value → St → Prop), wop P ro (.call ⟨.builtin .len, ⟨[.const (.slice a 0 c)]⟩, #[22]⟩) ty s' K = K (.int .i64 (0 : Nat)) s' := fun a c ty s' K => wop_len se_22 a 0 c ty s' K
  simp (maxSteps := 10000000) only [wW, reduceCtorEq, Nat.reduceEqDiff, la]
  rw [if_neg (fun h => h trivial)]
  refine wloop l16_110100 m16_110100 (fun (_ : Unit) τ ds s' => τ 0 = .slice a 0 c ∧ τ 5 = .int .i64 0 ∧ ds = [] ∧ s' = ent s) (fun _ => 0) ?_ () ⟨?_, ?_, rfl, rfl⟩
  · rintro ⟨⟩ τ ds s' ⟨t0, t5, rfl, rfl⟩
    rw [n16_110100]
    unfold v16_110100
    simp (maxSteps := 10000000) only [wW, reduceCtorEq, Nat.reduceEqDiff, t0, t5, la]
    rw [if_neg (by decide)]
    exact fin_flat rfl (.refl _) ⟨rfl, rfl⟩
  · simp only [U, tset_eq, wW, reduceCtorEq, Nat.reduceEqDiff]
  · simp only [U, tset_eq, wW, reduceCtorEq, Nat.reduceEqDiff]
theorem sliceNilB (K : Value → St → Prop) (ty : TypeId) : wop P ro (.slice 22 (.const (.slice none 0 0)) (some (.const (.int .i64 ((0 : Nat) : Int)))) none none) ty s K = K (.slice none 0 0) s := by kernel_rfl
theorem TokS.front {v : Value} {l : List Tk} (hv : TokS s v l) {k : Nat} (hk : k ≤ l.length) : ∃ w, TokS s w (l.take k) ∧ ∀ (K : Value → St → Prop) (ty : TypeId), wop P ro (.slice 22 (.const v) none (some (.const (.int .i64 k))) none) ty s K = K w s := by
  obtain ⟨w, hw1, hw2⟩ := Sl.front hv hk
  refine ⟨w, ?_, fun K ty => ?_⟩
  · unfold TokS
    rw [List.length_take, Nat.min_eq_left hk, tkCells_take]
    exact hw1
  · rcases hw2 (P := P) se_22 isz_35 with ⟨rfl, rfl⟩ | ⟨a, n, c, rfl, h⟩
    · have : l.length = 0 := by
        obtain ⟨a, c, e, _⟩ := hv
        injection e with e1 e2 e3
        exact e2.symm
      obtain rfl : k = 0 := by omega
      exact sliceNil K ty
    · rw [wop_slice]
      have h' : asliceOp P 22 (.slice (some a) n c) ((none : Option Operand).map (aval .e)) ((some (Operand.const (.int .i64 k))).map (aval .e)) ((none : Option Operand).map (aval .e)) = some w := h
      rw [h', wopt_some]
theorem TokS.back {v : Value} {l : List Tk} (hv : TokS s v l) {k : Nat} (hk : k ≤ l.length) (hl : l.length < 2 ^ 62) : ∃ w, (∀ (K : Value → St → Prop) (ty : TypeId), wop P ro (.slice 22 (.const v) (some (.const (.int .i64 k))) none none) ty s K = K w s) ∧
    ∀ {b : List Tk} {u : Value}, TokS s u b → b.length = l.length - k → ∀ (K : Value → St → Prop), CallWP P ro 16 [w, u] s K = K (.bool (sameT (l.drop k) b)) s := by
  rcases Nat.lt_or_ge k l.length with hlt | hge
  · obtain ⟨w, hw1, hw2⟩ := Sl.back hv hlt (by decide)
    obtain ⟨a, n, c, rfl, h⟩ := hw2 (P := P) se_22 isz_35
    refine ⟨w, fun K ty => ?_, fun {b u} hb hbl K => ?_⟩
    · rw [wop_slice]
      have h' : asliceOp P 22 (.slice (some a) n c) ((some (Operand.const (.int .i64 k))).map (aval .e)) ((none : Option Operand).map (aval .e)) ((none : Option Operand).map (aval .e)) = some w := h
      rw [h', wopt_some]
    · have hT : TokS s w (l.drop k) := by
        unfold TokS
        rw [List.length_drop, tkCells_drop]
        exact hw1
      exact wSame hT hb (by rw [List.length_drop]; omega)
  · obtain rfl : k = l.length := by omega
    have hsame : ∀ (a : Option Addr) (c : Nat) {b : List Tk} {u : Value}, TokS s u b → b.length = l.length - l.length → ∀ (K : Value → St → Prop), CallWP P ro 16 [.slice a 0 c, u] s K = K (.bool (sameT (l.drop l.length) b)) s := fun a c {b u} hb hbl K => by
      have hb0 : b = [] := List.eq_nil_of_length_eq_zero (by omega)
      subst hb0
      obtain ⟨x, d, rfl, _⟩ := hb
      rw [List.drop_length]
      exact wSameE
    rcases Sl.backAll hv with ⟨rfl, hn⟩ | h
    · refine ⟨.slice none 0 0, fun K ty => ?_, fun {b u} => hsame none 0⟩
      rw [hn]
      exact sliceNilB K ty
    · obtain ⟨a, c, a', c', rfl, h⟩ := h (P := P) se_22 isz_35
      refine ⟨.slice (some a') 0 c', fun K ty => ?_, fun {b u} => hsame (some a') c'⟩
      rw [wop_slice]
      have h' : asliceOp P 22 (.slice (some a) l.length c) ((some (Operand.const (.int .i64 l.length))).map (aval .e)) ((none : Option Operand).map (aval .e)) ((none : Option Operand).map (aval .e)) = some (.slice (some a') 0 c') := h
      rw [h', wopt_some]
end
end Go.VE
/- Chapter 20: LexisKnown. -/
namespace Go.VE
open Go Go.Proofs
set_option maxRecDepth 20000
def knAT : List Tk := [⟨2, [48], 0, 0⟩, ⟨3, [46, 46], 0, 2⟩, ⟨2, [49, 54], 16, 5⟩, ⟨3, [61, 61], 0, 7⟩]
theorem kA : tokM [48, 32, 46, 46, 32, 49, 54, 61, 61] = (knAT, 0, 0) := by kernel_rfl
theorem kB : tokM [97, 32, 46, 32, 98] = ([], 2, 4) := by kernel_rfl
theorem kC : tokM [48, 49] = ([], 0, 4) := by kernel_rfl
theorem kD : tokM [32, 63] = ([], 1, 4) := by kernel_rfl
theorem kE : tokM [120, 49, 50, 51, 52, 53, 54, 55, 56, 57, 48, 49, 50, 51, 52, 53, 54, 55, 56, 57, 32, 120, 49, 50, 51, 52, 53, 54, 55, 56, 57, 48, 49, 50, 51, 52, 53, 54, 55, 56, 57, 48] = ([], 21, 3) := by kernel_rfl
theorem kF : tokM [57, 57, 57, 57, 57, 57, 57, 57, 57, 57, 57, 57, 57, 57, 57, 57, 57, 57, 32, 49, 48, 48, 48, 48, 48, 48, 48, 48, 48, 48, 48, 48, 48, 48, 48, 48, 48, 48] = ([], 19, 3) := by kernel_rfl
theorem kG : tokM [61, 61, 61, 46, 46, 46, 61, 61] = ([], 5, 4) := by kernel_rfl
theorem kH : tokM [35] = ([], 0, 0) := by kernel_rfl
theorem pA : printM [⟨1, [97, 32, 98], 0, 0⟩] = ([], 1) := by kernel_rfl
theorem pB : printM [⟨2, [53], 6, 0⟩] = ([], 1) := by kernel_rfl
theorem pC : printM [⟨3, [46], 0, 0⟩] = ([], 1) := by kernel_rfl
def plus : Tk := ⟨3, [43], 0, 0⟩
theorem plus_right : rightM plus = true := by kernel_rfl
theorem sum_plus : ∀ n : Nat, sumL (List.replicate n plus) = n
  | 0 => rfl
  | n + 1 => by
    rw [List.replicate_succ]
    show 1 + sumL _ = _
    rw [sum_plus n]; omega
theorem print_plus (n : Nat) : (printM (List.replicate n plus)).2 = if n + (n - 1) > 4096 then 3 else 0 := by
  rw [printM_right fun x hx => by rw [List.eq_of_mem_replicate hx]; exact plus_right, jnT_len, sum_plus, List.length_replicate]
  split <;> rfl
theorem zeros_tk (m : Nat) : zeroList (.mk Tk.zero.cells) (m * 4) = tkCells (List.replicate m Tk.zero) := by
  apply List.ext_getElem?
  intro j
  by_cases hj : j < m * 4
  · have hr : (List.replicate m Tk.zero)[j / 4]? = some Tk.zero := by
      rw [List.getElem?_replicate, if_pos (by omega)]
    have h1 := tkCells_get (List.replicate m Tk.zero) hr (k := j % 4) (by omega)
    rw [show j / 4 * 4 + j % 4 = j by omega] at h1
    rw [h1]
    unfold zeroList
    rw [List.getElem?_map, List.getElem?_range hj]
    have h4 : j % 4 = 0 ∨ j % 4 = 1 ∨ j % 4 = 2 ∨ j % 4 = 3 := by omega
    show some (Tk.zero.cells.getD (j % 4) default) = _
    rcases h4 with h | h | h | h <;> rw [h] <;> rfl
  · rw [List.getElem?_eq_none (by rw [zeroList_len]; omega), List.getElem?_eq_none (by rw [tkCells_len, List.length_replicate]; omega)]
theorem splice_tk (i m : Nat) (x y z : Tk) : splice (tkCells (List.replicate i x ++ List.replicate (m + 1) z)) (i * 4) y.cells = tkCells (List.replicate i x ++ y :: List.replicate m z) := by
  have hl : (tkCells (List.replicate i x)).length = i * 4 := by rw [tkCells_len, List.length_replicate]
  have e : tkCells (List.replicate (m + 1) z) = z.cells ++ tkCells (List.replicate m z) := rfl
  have e2 : tkCells (y :: List.replicate m z) = y.cells ++ tkCells (List.replicate m z) := rfl
  rw [tkCells_app, tkCells_app, e, e2]
  unfold splice
  rw [List.take_append_of_le_length (by omega), List.take_of_length_le (by omega), tkLen, ← hl, List.drop_append, List.drop_of_length_le (by omega), List.nil_append, Nat.add_sub_cancel_left, List.drop_left' (tkLen z)]
section
variable {ro : Nat} {K : Value → St → Prop} {s : St}
theorem ixT {A n i : Nat} (hi : i < n) : aindexAddr P 22 (.slice (some ⟨A, 0, none⟩) n n) (.int .i64 (i : Int)) = some (.pointer (some ⟨A, i * 4, none⟩)) := by
  have hs : isz P 35 = some 4 := isz_35
  have hund : P.underlying 22 = some (.slice 35) := un_22
  have h0 : (0 : Int) ≤ (i : Int) := by omega
  have h1 : (i : Int) < n := by omega
  simp only [aindexAddr, hund, hs, Option.bind_some, aplace, h0, h1, and_self, if_true, Nat.zero_add, Int.toNat_natCast]
abbrev knQ (ro : Nat) (si : St) : Ex → XK := xleave (prims P ro) si Tryd.f9.results.toList fun v _ => v = .bool true
theorem knC {si : St} (hw : Wf s) (hro : ro ≤ s.n) {τ : Tau} (t4 : τ 4 = .bool true) (t20 : τ 20 = .bool true) (t39 : τ 39 = .bool true) :
    xp (prims P ro) none 234 k9 c9_1111111111111111111 [1, 1, 1, 1, 1, 1, 1, 1, 1, 1, 1, 1, 1, 1, 1, 1, 1, 1, 1] τ [] [] s (knQ ro si) := by
  rw [n9_1111111111111111111]
  unfold v9_1111111111111111111
  rw [pr_call, wAwake hw hro, wdec_true, t4, wdec_true, t20, wdec_true]
  show xleave _ _ _ _ _ _ _ _ _
  rw [xleave_U, r9]
  simp (maxSteps := 10000000) only [U, tset_eq, wW, reduceCtorEq, Nat.reduceEqDiff, t39]
  exact fin_K fun _ => rfl
theorem knOne {x : Tk} (hw : Wf s) (hr : printM [x] = ([], 1)) (hx : x.t.length < 2 ^ 63) (hro : ro ≤ s.n) {ty : TypeId} {K : Value → Value → St → Prop} (hK : ∀ v s', Grew s s' → Wf s' → K v (.tuple (.mk [tx [], .int .i64 1])) s') :
    wop P ro (.buildSlice 22 1 ⟨[(0, .const (.agg (.mk x.cells)))]⟩) ty s fun v s' => CallWP P ro 14 [v] s' (K v) := by
  refine buildSlice_rule se_22 ty_35 hw [.agg (.mk x.cells)] rfl rfl (by decide) (by simp [Value.cells, Tk.cells]) fun A s1 m1 => ?_
  have n1 := m1.n
  have hT : TokS s1 (.slice (some ⟨A, 0, none⟩) 1 1) [x] := m1.sl rfl
  rw [wPrint hT (by show 1 ≤ 2 ^ 30; decide) (by intro y hy; simp only [List.mem_cons, List.not_mem_nil, or_false] at hy; subst hy; exact hx) m1.wf (by omega), hr]
  exact hK _ s1 m1.grew m1.wf
theorem ex30 (a b c : Value) (ty : TypeId) : wop P ro (.extract (.const (.tuple (.mk [a, b, c]))) 0) ty s K = K a s := by rw [wop_extract]; rfl
theorem ex31 (a b c : Value) (ty : TypeId) : wop P ro (.extract (.const (.tuple (.mk [a, b, c]))) 1) ty s K = K b s := by rw [wop_extract]; rfl
theorem ex32 (a b c : Value) (ty : TypeId) : wop P ro (.extract (.const (.tuple (.mk [a, b, c]))) 2) ty s K = K c s := by rw [wop_extract]; rfl
theorem ex20 (a b : Value) (ty : TypeId) : wop P ro (.extract (.const (.tuple (.mk [a, b]))) 0) ty s K = K a s := by rw [wop_extract]; rfl
theorem ex21 (a b : Value) (ty : TypeId) : wop P ro (.extract (.const (.tuple (.mk [a, b]))) 1) ty s K = K b s := by rw [wop_extract]; rfl
theorem knB {si : St} (hw : Wf s) (hro : ro ≤ s.n) {τ : Tau} (t4 : τ 4 = .bool true) (t20 : τ 20 = .bool true) :
    xp (prims P ro) none 234 k9 c9_111111111 [1, 1, 1, 1, 1, 1, 1, 1, 1] τ [] [] s (knQ ro si) := by
  rw [n9_111111111]
  unfold v9_111111111
  rw [pr_call]
  refine wTokens (l := [61, 61, 61, 46, 46, 46, 61, 61]) (by decide) hw hro fun v s1 g1 w1 hv _ _ => ?_
  have n1 := g1.n
  rw [kG] at hv ⊢
  have b1 : abuild P 35 (partVals .e [(0, .const (.int .u8 1)), (1, .const (.string (ByteArray.mk #[97, 32, 98])))]) = some (.agg (.mk (Tk.cells ⟨1, [97, 32, 98], 0, 0⟩))) := bld2 1 [97, 32, 98]
  have b2 : abuild P 35 (partVals .e [(0, .const (.int .u8 2)), (1, .const (.string (ByteArray.mk #[53]))), (2, .const (.int .u64 6))]) = some (.agg (.mk (Tk.cells ⟨2, [53], 6, 0⟩))) := bld3 2 6 [53]
  have b3 : abuild P 35 (partVals .e [(0, .const (.int .u8 3)), (1, .const (.string (ByteArray.mk #[46])))]) = some (.agg (.mk (Tk.cells ⟨3, [46], 0, 0⟩))) := bld2 3 [46]
  simp only
  rw [pr_wop, pr_loop, ex30, ex31, ex32, wop_build, b1, wopt_some]
  refine knOne w1 pA (by decide) (by omega) fun q2 s2 g2 w2 => ?_
  have n2 := g2.n
  rw [ex20, ex21, wop_build, b2, wopt_some]
  refine knOne w2 pB (by decide) (by omega) fun q3 s3 g3 w3 => ?_
  have n3 := g3.n
  rw [ex20, ex21, wop_build, b3, wopt_some]
  refine knOne w3 pC (by decide) (by omega) fun q4 s4 g4 w4 => ?_
  have n4 := g4.n
  rw [ex20, ex21]
  have lv : ∀ (ty : TypeId) (s' : St) (K : Value → St → Prop), wop P ro (.call ⟨.builtin .len, ⟨[.const v]⟩, #[22]⟩) ty s' K = K (.int .i64 (0 : Nat)) s' := fun ty s' K => Sl.wlen hv se_22 ty K
  refine makeLC_rule se_22 ty_35 w4 (by decide) (Int.le_refl _) (by decide) (by decide) fun D s5 m5 => ?_
  have e5 := m5.eq
  have n5 := m5.n
  have hD5 : s5.at D = some (.cells (tkCells (List.replicate 0 plus ++ List.replicate 2049 Tk.zero)) 35 false) := by
    have := m5.here
    rw [show (2049 : Int).toNat * 4 = 2049 * 4 by rfl] at this
    have z := zeros_tk 2049
    rw [List.replicate_zero, List.nil_append, ← z]
    exact this
  refine wloop l9_111111111111110100 m9_111111111111110100 (fun (i : Nat) τ ds s' => i ≤ 2049 ∧ τ 4 = .bool true ∧ τ 20 = .bool true ∧ τ 21 = v ∧ τ 23 = .int .i64 4 ∧ τ 25 = .int .i64 1 ∧ τ 27 = .int .i64 1 ∧ τ 29 = .int .i64 1 ∧ τ 30 = .slice (some ⟨D, 0, none⟩) 2049 2049 ∧ τ 31 = .int .i64 i ∧ ds = [] ∧ Wf s' ∧ s5.n ≤ s'.n ∧ s'.at D = some (.cells (tkCells (List.replicate i plus ++ List.replicate (2049 - i) Tk.zero)) 35 false)) (fun i => 2049 - i) ?_ 0 ⟨Nat.zero_le _, ?_, ?_, ?_, ?_, ?_, ?_, ?_, ?_, ?_, rfl, m5.wf, Nat.le_refl _, hD5⟩
  · rintro i τ ds s' ⟨hi, t4, t20, t21, t23, t25, t27, t29, t30, t31, rfl, w', n', hD⟩
    rw [n9_111111111111110100]
    unfold v9_111111111111110100
    rw [t30, t31, pr_wop, wop_int, int_lss keq_i64, wopt_some]
    by_cases hlt : i < 2049
    · have b4 : abuild P 35 (partVals .e [(0, .const (.int .u8 3)), (1, .const (.string (ByteArray.mk #[43])))]) = some (.agg (.mk plus.cells)) := bld2 3 [43]
      obtain ⟨m, hm⟩ : ∃ m, 2049 - i = m + 1 := ⟨2049 - i - 1, by omega⟩
      rw [hm] at hD
      rw [decide_eq_true (by omega), wdec_true, wop_build, b4, wopt_some, wop_indexAddr, ixT hlt, wopt_some]
      refine store_rule isz_35 hD (tkLen _) (by decide) w' (by omega) (by rw [tkCells_len, List.length_append, List.length_replicate, List.length_replicate]; omega) (tkOne _) fun s6 p6 => ?_
      have n6 := p6.n
      have h6 := p6.here
      rw [splice_tk] at h6
      rw [wop_int, int_add keq_i64, wopt_some, wrap_i64 (by omega) (by omega)]
      refine ⟨i + 1, by omega, by omega, ?_, ?_, ?_, ?_, ?_, ?_, ?_, ?_, ?_, rfl, p6.wf, by omega, ?_⟩
      · simp only [U, tset_eq, wW, reduceCtorEq, Nat.reduceEqDiff, t4]
      · simp only [U, tset_eq, wW, reduceCtorEq, Nat.reduceEqDiff, t20]
      · simp only [U, tset_eq, wW, reduceCtorEq, Nat.reduceEqDiff, t21]
      · simp only [U, tset_eq, wW, reduceCtorEq, Nat.reduceEqDiff, t23]
      · simp only [U, tset_eq, wW, reduceCtorEq, Nat.reduceEqDiff, t25]
      · simp only [U, tset_eq, wW, reduceCtorEq, Nat.reduceEqDiff, t27]
      · simp only [U, tset_eq, wW, reduceCtorEq, Nat.reduceEqDiff, t29]
      · simp only [U, tset_eq, wW, reduceCtorEq, Nat.reduceEqDiff, t30]
      · simp only [U, tset_eq, wW, reduceCtorEq, Nat.reduceEqDiff]; rfl
      · rw [h6, show 2049 - (i + 1) = m by omega]
        have e : List.replicate i plus ++ plus :: List.replicate m Tk.zero = List.replicate (i + 1) plus ++ List.replicate m Tk.zero := by
          rw [List.replicate_succ', List.append_assoc]; rfl
        rw [e]
    · obtain rfl : i = 2049 := by omega
      have hT : TokS s' (.slice (some ⟨D, 0, none⟩) 2049 2049) (List.replicate 2049 plus) := by
        rw [Nat.sub_self, List.replicate_zero, List.append_nil] at hD
        unfold TokS
        rw [List.length_replicate]
        exact ⟨_, _, rfl, by rw [tkCells_len, List.length_replicate], ⟨Nat.le_refl _, fun h => (by cases h), fun x hx => by cases hx; exact .inl rfl⟩, fun _ => ⟨D, 0, none, _, _, _, rfl, rfl, hD, by rw [List.drop_zero, List.take_of_length_le (by rw [tkCells_len, List.length_replicate]; exact Nat.le_refl _)]⟩⟩
      have hsh : ∀ n : Nat, ∀ x ∈ List.replicate n plus, x.t.length < 2 ^ 63 := fun n x hx => by rw [List.eq_of_mem_replicate hx]; decide
      obtain ⟨w, hw1, hw2⟩ := TokS.front (ro := ro) hT (k := 2048) (by rw [List.length_replicate]; decide)
      have hw3 : ∀ (K : Value → St → Prop) (ty : TypeId), wop P ro (.slice 22 (.const (.slice (some ⟨D, 0, none⟩) 2049 2049)) none (some (.const (.int .i64 2048))) none) ty s' K = K w s' := hw2
      rw [List.take_replicate] at hw1
      have hp1 := print_plus 2048
      have hp2 := print_plus 2049
      rw [if_neg (by decide)] at hp1
      rw [if_pos (by decide)] at hp2
      rw [decide_eq_false (by decide), wdec_false]
      simp (maxSteps := 10000000) only [U, tset_eq, wW, reduceCtorEq, Nat.reduceEqDiff, t30, hw3]
      rw [wPrint (l := List.replicate 2048 plus) hw1 (by rw [List.length_replicate]; decide) (hsh _) w' (by omega), hp1]
      simp (maxSteps := 10000000) only [wW, reduceCtorEq, Nat.reduceEqDiff, List.getElem?_cons_zero, List.getElem?_cons_succ, t30]
      rw [wPrint hT (by rw [List.length_replicate]; decide) (hsh _) w' (by omega), hp2]
      simp (maxSteps := 10000000) only [wW, reduceCtorEq, Nat.reduceEqDiff, List.getElem?_cons_zero, List.getElem?_cons_succ]
      refine wTokens (l := [35]) (by decide) w' (by omega) fun u s7 g7 w7 hu _ _ => ?_
      have n7 := g7.n
      rw [kH] at hu ⊢
      have lu : ∀ (ty : TypeId) (s' : St) (K : Value → St → Prop), wop P ro (.call ⟨.builtin .len, ⟨[.const u]⟩, #[22]⟩) ty s' K = K (.int .i64 (0 : Nat)) s' := fun ty s' K => Sl.wlen hu se_22 ty K
      simp (maxSteps := 10000000) only [wW, reduceCtorEq, Nat.reduceEqDiff, List.getElem?_cons_zero, List.getElem?_cons_succ, t21, t23, t25, t27, t29, lv, lu]
      rw [if_pos (by decide), if_pos (by decide), if_pos (by decide)]
      refine knC w7 (by omega) ?_ ?_ ?_
      · simp only [U, tset_eq, wW, reduceCtorEq, Nat.reduceEqDiff, t4]
      · simp only [U, tset_eq, wW, reduceCtorEq, Nat.reduceEqDiff, t20]
      · simp only [U, tset_eq, wW, reduceCtorEq, Nat.reduceEqDiff]
        try rfl
  · simp only [U, tset_eq, wW, reduceCtorEq, Nat.reduceEqDiff, t4]
  · simp only [U, tset_eq, wW, reduceCtorEq, Nat.reduceEqDiff, t20]
  · simp only [U, tset_eq, wW, reduceCtorEq, Nat.reduceEqDiff]
  · simp only [U, tset_eq, wW, reduceCtorEq, Nat.reduceEqDiff]
  · simp only [U, tset_eq, wW, reduceCtorEq, Nat.reduceEqDiff]
  · simp only [U, tset_eq, wW, reduceCtorEq, Nat.reduceEqDiff]
  · simp only [U, tset_eq, wW, reduceCtorEq, Nat.reduceEqDiff]
  · simp only [U, tset_eq, wW, reduceCtorEq, Nat.reduceEqDiff]
    try rfl
  · simp only [U, tset_eq, wW, reduceCtorEq, Nat.reduceEqDiff]
    try rfl
theorem knA1 {si : St} (hw : Wf s) (hro : ro ≤ s.n) {τ : Tau} (t4 : τ 4 = .bool true) :
    xp (prims P ro) none 234 k9 c9_111 [1, 1, 1] τ [] [] s (knQ ro si) := by
  rw [n9_111]
  unfold v9_111
  rw [pr_call]
  refine wTokens (l := [97, 32, 46, 32, 98]) (by decide) hw hro fun v1 s1 g1 w1 _ _ _ => ?_
  have n1 := g1.n
  rw [kB, pr_wop, ex30, ex31, ex32]
  refine wTokens (l := [48, 49]) (by decide) w1 (by omega) fun v2 s2 g2 w2 _ _ _ => ?_
  have n2 := g2.n
  rw [kC, ex30, ex31, ex32]
  refine wTokens (l := [32, 63]) (by decide) w2 (by omega) fun v3 s3 g3 w3 _ _ _ => ?_
  have n3 := g3.n
  rw [kD, ex30, ex31, ex32]
  refine wTokens (l := [120, 49, 50, 51, 52, 53, 54, 55, 56, 57, 48, 49, 50, 51, 52, 53, 54, 55, 56, 57, 32, 120, 49, 50, 51, 52, 53, 54, 55, 56, 57, 48, 49, 50, 51, 52, 53, 54, 55, 56, 57, 48]) (by decide) w3 (by omega) fun v4 s4 g4 w4 _ _ _ => ?_
  have n4 := g4.n
  rw [kE, ex30, ex31, ex32]
  refine wTokens (l := [57, 57, 57, 57, 57, 57, 57, 57, 57, 57, 57, 57, 57, 57, 57, 57, 57, 57, 32, 49, 48, 48, 48, 48, 48, 48, 48, 48, 48, 48, 48, 48, 48, 48, 48, 48, 48, 48]) (by decide) w4 (by omega) fun v5 s5 g5 w5 _ _ _ => ?_
  have n5 := g5.n
  rw [kF, ex30, ex31, ex32]
  rw [wop_int, int_eql keq_i64, wopt_some, decide_eq_true (by decide), wdec_true]
  rw [wop_int, int_eql keq_i64, wopt_some, decide_eq_true (by decide), wdec_true]
  rw [wop_int, int_eql keq_i64, wopt_some, decide_eq_true (by decide), wdec_true]
  rw [wop_int, int_eql keq_i64, wopt_some, decide_eq_true (by decide), wdec_true]
  rw [wop_int, int_eql keq_i64, wopt_some, decide_eq_true (by decide), wdec_true]
  rw [wop_int, int_eql keq_i64, wopt_some, decide_eq_true (by decide), wdec_true]
  rw [wop_int, int_eql keq_i64, wopt_some, decide_eq_true (by decide), wdec_true]
  rw [wop_int, int_eql keq_i64, wopt_some, decide_eq_true (by decide), wdec_true]
  rw [wop_int, int_eql keq_i64, wopt_some, decide_eq_true (by decide), wdec_true]
  rw [wop_int, int_eql keq_i64, wopt_some, decide_eq_true (by decide), pr_hold]
  refine knB w5 (by omega) ?_ ?_
  · simp only [U, tset_eq, wW, reduceCtorEq, Nat.reduceEqDiff, t4]
  · simp only [U, tset_eq, wW, reduceCtorEq, Nat.reduceEqDiff]
theorem wLKnown (hw : Wf s) (hro : ro ≤ s.n) : CallWP P ro 9 [] s fun v _ => v = .bool true := by
  refine call_wp b9 rfl ?_
  rw [n9]
  unfold v9
  have hn0 : (ent s).n = s.n := rfl
  rw [pr_call]
  refine wTokens (l := [48, 32, 46, 46, 32, 49, 54, 61, 61]) (by decide) hw.ent hro fun v s1 g1 w1 hv _ _ => ?_
  have n1 := g1.n
  rw [kA] at hv ⊢
  have lv : ∀ (ty : TypeId) (s' : St) (K : Value → St → Prop), wop P ro (.call ⟨.builtin .len, ⟨[.const v]⟩, #[22]⟩) ty s' K = K (.int .i64 (4 : Nat)) s' := fun ty s' K => Sl.wlen hv se_22 ty K
  obtain ⟨A1, o1, i1, p1⟩ := TokS.ix hv (i := 1) (x := ⟨3, [46, 46], 0, 2⟩) rfl
  obtain ⟨A2, o2, i2, p2⟩ := TokS.ix hv (i := 2) (x := ⟨2, [49, 54], 16, 5⟩) rfl
  obtain ⟨A3, o3, i3, p3⟩ := TokS.ix hv (i := 3) (x := ⟨3, [61, 61], 0, 7⟩) rfl
  have i1' : aindexAddr P 22 v (.int .i64 1) = some (.pointer (some ⟨A1, o1, none⟩)) := i1
  have i2' : aindexAddr P 22 v (.int .i64 2) = some (.pointer (some ⟨A2, o2, none⟩)) := i2
  have i3' : aindexAddr P 22 v (.int .i64 3) = some (.pointer (some ⟨A3, o3, none⟩)) := i3
  have q1 : ∀ (ty r : TypeId) (K : Value → St → Prop), wop P ro (.binOp .eql 9 (.const (tx [46, 46])) (.const (.string (ByteArray.mk #[46, 46]))) r) ty s1 K = K (.bool true) s1 := fun ty r K => eql_tx [46, 46] [46, 46] r ty
  have q3 : ∀ (ty r : TypeId) (K : Value → St → Prop), wop P ro (.binOp .eql 9 (.const (tx [61, 61])) (.const (.string (ByteArray.mk #[61, 61]))) r) ty s1 K = K (.bool true) s1 := fun ty r K => eql_tx [61, 61] [61, 61] r ty
  rw [pr_wop, ex30, ex31, ex32, wop_int, int_eql keq_i64, wopt_some, decide_eq_true (by decide), wdec_true, lv, wop_int, int_eql keq_i64, wopt_some, decide_eq_true (by decide), wdec_true, wop_indexAddr, i1', wopt_some, wop_fieldAddr, fa_35_1, wopt_some, wop_load, p1.t, wopt_some, q1, wdec_true, wop_indexAddr, i2', wopt_some, wop_fieldAddr, fa_35_2, wopt_some, wop_load, p2.n, wopt_some, wop_int, int_eql keq_u64, wopt_some, decide_eq_true (by decide), wdec_true, wop_indexAddr, i3', wopt_some, wop_fieldAddr, fa_35_1, wopt_some, wop_load, p3.t, wopt_some, q3, pr_hold]
  refine knA1 w1 (by omega) ?_
  simp only [U, tset_eq, wW, reduceCtorEq, Nat.reduceEqDiff]
end
end Go.VE
/- Chapter 20: laws at every start. -/
namespace Go.VE
open Go Go.Proofs
set_option maxRecDepth 20000
noncomputable def startB (laid : List (String × DataW Unit)) : Bool :=
  match absLaid P 30 laid P.globals.size with
  | some x => lastIn P.globals.size x.1
  | none => false
theorem law_runs' {f : Nat} {fid : FuncId} {ts : List TypeId} {laid : List (String × DataW Unit)} (h : startB laid = true)
    (run : ∀ (s : St) (al : List Value), Wf s → Args P f ts al s → CallWP P s.n fid al s fun v _ => v = .bool true) : LawRuns P 30 f fid ts laid := by
  unfold startB at h
  exact law_runs h fun gs bl hx s al hw _ hs hl ha => run s al hw ha
end Go.VE
/- Chapter 20: LexisKnown at every start. -/
namespace Go.VE
open Go Go.Proofs
theorem lk_runs (laid : List (String × DataW Unit)) (h : startB laid = true) : LawRuns P 30 8 9 [] laid :=
  law_runs' h fun s al hw ha => by
    obtain rfl : al = [] := ha
    exact wLKnown hw (Nat.le_refl _)
end Go.VE
