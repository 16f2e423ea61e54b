/-
  The evaluator: every operation, results and calls against the machine's.
-/
import Derived.Test.YtedoeeeomfgjnaaDoorVe1
import Derived.IntWalk
import Derived.Laws.IdiomStrings
set_option linter.unusedSimpArgs false
set_option linter.unusedVariables false
/- New blocks, append, copy: the evaluator's against the machine's. -/
namespace Go.VE
open Go Go.RowKit
def Glob [Memo] (C : Cx) (s : St) : Prop := C.P.globals.size ≤ s.n
theorem newCells [Memo] {C : Cx} {ρ : Rho} {s : St} {w : World} (h : Rel C ρ s w) (hg : Glob C s) {c c' : List Value} (hc : LR ρ c c') (t : TypeId) :
    Rel C (upd ρ s.n (w.heap.size, 0, 0)) (s.new (.cells c t false)) (w.alloc (.cells ⟨c'⟩ t)) :=
  h.new _ _ 0 (OR.ofNew (c' := ⟨c'⟩) hc t (h.sub_new _)) hg
theorem flat_cells {v : Value} (h : VE.flat v = true) : flatL v.cells.toList = true := by
  cases v <;> first | (rw [flat_agg] at h; exact h) | simpa [Value.cells, flatL] using h
theorem valSt_some {s' : St} {x : Option (Value × St)} {r : AR} (h : valSt x = some (r, s')) : ∃ v, x = some (v, s') ∧ r = .val v := by
  cases x with
  | none => cases h
  | some p => cases h; exact ⟨p.1, rfl, rfl⟩
theorem alloc_sound [Memo] {C : Cx} {ρ : Rho} {s s' : St} {w : World} (h : Rel C ρ s w) (hg : Glob C s) {t : TypeId} {r : AR} (e : aalloc C.P s t = some (r, s')) :
    ∃ (v' : Value) (ρ' : Rho) (w' : World), (Instr.alloc t true (.tuple #[])).run C.P w = .ok v' w' ∧ Ext s.n ρ ρ' ∧ Rel C ρ' s' w' ∧ ∃ v, r = .val v ∧ VR ρ' v v' := by
  unfold aalloc at e
  split at e
  case h_2 => cases e
  case h_1 i hi =>
    split at e
    case h_2 => cases e
    case h_1 z hz =>
      cases hf : VE.flat z with
      | false => rw [hf] at e; cases e
      | true =>
        rw [hf] at e; cases e
        refine ⟨.pointer (some ⟨w.heap.size, 0, none⟩), upd ρ s.n (w.heap.size, 0, 0), w.alloc (.cells z.cells t), ?_, ext_new _ _ _, newCells h hg (LR.of_flat (flat_cells hf)) t, _, rfl, .ptr 0 (upd_same _ _ _)⟩
        simp [Instr.alloc, zeroValue, typeInfo, hi, hz, newVar, newRow]
theorem box_sound [Memo] {C : Cx} {ρ : Rho} {s : St} {w : World} (h : Rel C ρ s w) (hg : Glob C s) {t : TypeId} {v v' : Value} (hv : VR ρ v v') :
    ∃ (u' : Value) (ρ' : Rho) (w' : World), (Instr.box t v').run C.P w = .ok u' w' ∧ Ext s.n ρ ρ' ∧ Rel C ρ' (s.new (.cells v.cells.toList t false)) w' ∧ VR ρ' (.pointer (some ⟨s.n, 0, none⟩)) u' := by
  refine ⟨.pointer (some ⟨w.heap.size, 0, none⟩), upd ρ s.n (w.heap.size, 0, 0), w.alloc (.cells v'.cells t), ?_, ext_new _ _ _, newCells (c' := v'.cells.toList) h hg hv.cells t, .ptr 0 (upd_same _ _ _)⟩
  simp [Instr.box, newVar, newRow]
theorem zip_splice (off : Nat) : ∀ (l : List Value) (i : Nat) (cells : Array Value), off + i + l.length ≤ cells.size →
    ((l.zipIdx i).foldl (fun (cs : Array Value) (p : Value × Nat) => cs.setIfInBounds (off + p.2) p.1) cells).toList = splice cells.toList (off + i) l
  | [], i, cells, _ => by simp [splice_nil]
  | v :: l, i, cells, h => by
    simp only [List.length_cons] at h
    simp only [List.zipIdx_cons, List.foldl_cons]
    rw [zip_splice off l (i + 1) _ (by simp; omega), Array.toList_setIfInBounds, ← splice_cons (by simp; omega)]
    rfl
inductive PR (ρ : Rho) : List (Nat × Value) → List (Nat × Value) → Prop
  | nil : PR ρ [] []
  | cons (i : Nat) {v v' : Value} {l l' : List (Nat × Value)} (h : VR ρ v v') (k : PR ρ l l') : PR ρ ((i, v) :: l) ((i, v') :: l')
theorem fill_sound {ρ : Rho} {pl pl' : Nat → Option (Nat × Nat)} (hp : ∀ i q, pl i = some q → pl' i = some q) : ∀ {parts parts' : List (Nat × Value)}, PR ρ parts parts' → ∀ {c cs : List Value} {c' : Array Value}, LR ρ c c'.toList →
    afillBy pl c parts = some cs → ∃ cs', Instr.fill pl' c' parts' = some cs' ∧ LR ρ cs cs'.toList := by
  intro parts parts' h
  induction h with
  | nil => intro c cs c' hc e; cases e; exact ⟨c', rfl, hc⟩
  | cons i hv _ ih =>
    rename_i v v' l l' _
    intro c cs c' hc e
    simp only [afillBy] at e
    split at e
    case h_2 => cases e
    case h_1 off sz hpl =>
      have hlen := hv.cells.len
      simp only [Array.length_toList] at hlen
      have hcl := hc.len
      simp only [Array.length_toList] at hcl
      cases hb : (Nat.beq v.cells.size sz && Nat.ble (off + sz) c.length) with
      | false => rw [hb] at e; cases e
      | true =>
        rw [hb] at e
        simp only [Bool.and_eq_true] at hb
        obtain ⟨h1, h2⟩ := hb
        have h1 := Nat.eq_of_beq_eq_true h1
        have h2 := Nat.le_of_ble_eq_true h2
        have hfold : (v'.cells.zipIdx.foldl (fun (cs : Array Value) (p : Value × Nat) => cs.setIfInBounds (off + p.2) p.1) c').toList = splice c'.toList off v'.cells.toList := by
          rw [← Array.foldl_toList, Array.toList_zipIdx, zip_splice off v'.cells.toList 0 c' (by simp; omega)]
          rfl
        obtain ⟨cs', k1, k2⟩ := ih (c' := v'.cells.zipIdx.foldl (fun (cs : Array Value) (p : Value × Nat) => cs.setIfInBounds (off + p.2) p.1) c')
          (by rw [hfold]; exact hc.splice hv.cells off) e
        refine ⟨cs', ?_, k2⟩
        simp only [Instr.fill, hp i _ hpl]
        rw [if_neg]
        · exact k1
        · simp; omega
theorem places_of {P : Program} : ∀ (fs : List Field), fs.all (fun f => (isz P f.type).isSome) = true → ∃ places, fs.mapM (fun f => (P.info? f.type).map fun i => (f.offset, i.size)) = some places ∧
    ∀ (j : Nat) (q : Nat × Nat), ((fs[j]?).bind fun f => (isz P f.type).map fun sz => (f.offset, sz)) = some q → places[j]? = some q
  | [], _ => ⟨[], rfl, fun j q h => by simp at h⟩
  | f :: fs, h => by
    simp only [List.all_cons, Bool.and_eq_true] at h
    obtain ⟨places, h1, h2⟩ := places_of fs h.2
    obtain ⟨n, hn⟩ := Option.isSome_iff_exists.1 h.1
    obtain ⟨i, hi, rfl⟩ := isz_info hn
    refine ⟨(f.offset, i.size) :: places, ?_, fun j q hq => ?_⟩
    · simp [List.mapM_cons, hi, h1]
    · cases j with
      | zero => simp [hn] at hq; simp [hq]
      | succ j => simp at hq ⊢; exact h2 j q (by simpa using hq)
theorem build_sound {P : Program} {ρ : Rho} {t : TypeId} {parts : List (Nat × Value)} {parts' : Array (Nat × Value)} {u : Value} (hp : PR ρ parts parts'.toList) (e : abuild P t parts = some u) (w : World) :
    ∃ u', (Instr.build t parts').run P w = .ok u' w ∧ VR ρ u u' := by
  unfold abuild at e
  split at e
  case h_2 => cases e
  case h_1 i d hi hd =>
    split at e
    case h_2 => cases e
    case h_1 z pl hz hpl =>
      split at e
      case isFalse => cases e
      case isTrue hc =>
        obtain ⟨hf, hs⟩ := hc
        obtain ⟨cs, hcs, rfl⟩ := Option.map_eq_some_iff.1 e
        have key : ∀ pl', (∀ i q, pl i = some q → pl' i = some q) → ∃ cs', Instr.fill pl' z.cells parts'.toList = some cs' ∧ LR ρ cs cs'.toList := fun pl' hh =>
          fill_sound hh hp (LR.of_flat (flat_cells hf)) hcs
        have hb : ∃ cs', P.built t parts'.toList = some cs' ∧ LR ρ cs cs'.toList := by
          unfold Program.built
          rw [hi, hd]
          cases d <;> try (simp [placeOf] at hpl; done)
          case struct fs =>
            simp only [placeOf, Option.some.injEq] at hpl
            obtain ⟨places, h1, h2⟩ := places_of (P := P) fs.toList hs
            obtain ⟨cs', k1, k2⟩ := key (fun x => places[x]?) (fun j q hq => h2 j q (by rw [← hpl] at hq; exact hq))
            refine ⟨cs', ?_, k2⟩
            simp only [hz, h1]
            simpa using k1
          case array n el =>
            simp only [placeOf, Option.map_eq_some_iff] at hpl
            obtain ⟨sz, hsz, hpl⟩ := hpl
            obtain ⟨ie, hie, rfl⟩ := isz_info hsz
            obtain ⟨cs', k1, k2⟩ := key (fun x => some (x * ie.size, ie.size)) (fun j q hq => by rw [← hpl] at hq; exact hq)
            exact ⟨cs', by simp only [hz, hie]; exact k1, k2⟩
        obtain ⟨cs', k1, k2⟩ := hb
        exact ⟨.agg cs', run_build w t parts' cs' k1, VR.aggL (l' := cs'.toList) k2⟩
theorem zeroList_eq (z : Array Value) (n : Nat) : ((Array.range n).map fun i => z[i % z.size]!).toList = zeroList z n := by
  simp [zeroList, Array.getElem!_eq_getD, Array.getD_eq_getD_getElem?]
theorem zeroList_flat {z : Array Value} {n : Nat} (hz : flatL z.toList = true) (h : n = 0 ∨ 0 < z.size) : flatL (zeroList z n) = true := by
  refine flatL_of fun i v hi => ?_
  simp only [zeroList, List.getElem?_map, Option.map_eq_some_iff] at hi
  obtain ⟨j, hj, rfl⟩ := hi
  have hlt : i < n := by
    have := (List.getElem?_eq_some_iff.1 hj).1
    simpa using this
  have hpos : 0 < z.toList.length := by
    rcases h with h | h
    · omega
    · simpa using h
  have hm := Nat.mod_lt j hpos
  rw [List.getD_eq_getElem?_getD, List.getElem?_eq_getElem hm]
  exact flatL_get hz (List.getElem?_eq_getElem hm)
theorem sliceElem_some {P : Program} {t e : TypeId} (h : sliceElem P t = some e) : P.underlying t = some (.slice e) := by
  unfold sliceElem at h
  split at h
  · rename_i hd; cases h; exact hd
  · cases h
theorem buildSlice_sound [Memo] {C : Cx} {ρ : Rho} {s s' : St} {w : World} (h : Rel C ρ s w) (hg : Glob C s) {t : TypeId} {len : Nat} {parts : List (Nat × Value)} {parts' : Array (Nat × Value)} {v : Value} (hp : PR ρ parts parts'.toList)
    (e : abuildSlice C.P s t len parts = some (v, s')) : ∃ (v' : Value) (ρ' : Rho) (w' : World), (Instr.buildSlice t len parts').run C.P w = .ok v' w' ∧ Ext s.n ρ ρ' ∧ Rel C ρ' s' w' ∧ VR ρ' v v' := by
  unfold abuildSlice at e
  split at e
  case h_2 => cases e
  case h_1 elem hse =>
    have hd := sliceElem_some hse
    split at e
    case h_2 => cases e
    case h_1 i hi =>
      split at e
      case h_2 => cases e
      case h_1 z hz =>
        split at e
        case isFalse => cases e
        case isTrue hc =>
          obtain ⟨hf, hle, hsz⟩ := hc
          obtain ⟨cs, hcs, e⟩ := Option.map_eq_some_iff.1 e
          cases e
          have hzf : flatL (zeroList z.cells (len * i.size)) = true := zeroList_flat (flat_cells hf) (by rw [hsz]; rcases Nat.eq_zero_or_pos i.size with h0 | h0; (left; rw [h0]; simp); (right; exact h0))
          obtain ⟨cs', k1, k2⟩ := fill_sound (pl' := fun j => some (j * i.size, i.size)) (fun _ _ h => h) hp (c' := (Array.range (len * i.size)).map fun j => z.cells[j % z.cells.size]!) (by rw [zeroList_eq]; exact LR.of_flat hzf) hcs
          refine ⟨.slice (some ⟨w.heap.size, 0, none⟩) len len, upd ρ s.n (w.heap.size, 0, 0), w.alloc (.cells cs' elem), ?_, ext_new _ _ _, newCells (c' := cs'.toList) h hg k2 elem, .sl _ _ _ (upd_same _ _ _)⟩
          by_cases h0 : len * i.size = 0
          · have e0 : ∀ f : Nat → Value, (Array.range 0).map f = #[] := fun f => by simp
            rw [h0, e0] at k1
            simp [Instr.buildSlice, run_underlying hd, run_sizeOf' hi, h0, e0, k1, newRow]
          · simp [Instr.buildSlice, run_underlying hd, run_sizeOf' hi, h0, zeroValue, typeInfo, hi, hz, k1, newRow, Nat.not_lt.2 hle]
theorem makeSlice_sound [Memo] {C : Cx} {ρ : Rho} {s s' : St} {w : World} (h : Rel C ρ s w) (hg : Glob C s) {t : TypeId} {l l' c c' v : Value} (hl : VR ρ l l') (hc : VR ρ c c')
    (e : amakeSlice C.P s t l c = some (v, s')) : ∃ (v' : Value) (ρ' : Rho) (w' : World), (Instr.makeSlice t l' c').run C.P w = .ok v' w' ∧ Ext s.n ρ ρ' ∧ Rel C ρ' s' w' ∧ VR ρ' v v' := by
  unfold amakeSlice at e
  split at e
  case h_2 => cases e
  case h_1 elem k l k2 c hse =>
    have hd := sliceElem_some hse
    split at e
    case h_2 => cases e
    case h_1 i hi =>
      split at e
      case h_2 => cases e
      case h_1 z hz =>
        split at e
        case isFalse => cases e
        case isTrue hcc =>
          obtain ⟨hf, h0, h1, h2, h3, hsz⟩ := hcc
          cases e
          obtain rfl := hl.int_inv
          obtain rfl := hc.int_inv
          have hzf : flatL (zeroList z.cells (c.toNat * i.size)) = true := zeroList_flat (flat_cells hf) (by rw [hsz]; rcases Nat.eq_zero_or_pos i.size with h0 | h0; (left; rw [h0]; simp); (right; exact h0))
          refine ⟨.slice (some ⟨w.heap.size, 0, none⟩) l.toNat c.toNat, upd ρ s.n (w.heap.size, 0, 0), w.alloc (.cells ((Array.range (c.toNat * i.size)).map fun j => z.cells[j % z.cells.size]!) elem), ?_, ext_new _ _ _,
            newCells (c' := ((Array.range (c.toNat * i.size)).map fun j => z.cells[j % z.cells.size]!).toList) h hg (by rw [zeroList_eq]; exact LR.of_flat hzf) elem, .sl _ _ _ (upd_same _ _ _)⟩
          have wc : IntKind.i64.wrap c = c := IntWalk.i64_in _ (by omega)
          have wl : IntKind.i64.wrap l = l := IntWalk.i64_in _ (by omega)
          have e0 : ∀ f : Nat → Value, (Array.range 0).map f = #[] := fun f => by simp
          have hb1 : ¬ (281474976710656 < (i.bytes : Int) * c) := by omega
          by_cases h00 : c.toNat * i.size = 0
          · simp [Instr.makeSlice, run_underlying hd, asInt, asIntOf, typeInfo, hi, wc, wl, hb1, run_sizeOf' hi, h00, e0, newRow, Int.not_lt.2 h0, Int.not_lt.2 h1, Int.not_lt.2 (Int.le_trans h0 h1)]
          · simp [Instr.makeSlice, run_underlying hd, asInt, asIntOf, typeInfo, hi, wc, wl, hb1, run_sizeOf' hi, h00, zeroValue, hz, newRow, Int.not_lt.2 h0, Int.not_lt.2 h1, Int.not_lt.2 (Int.le_trans h0 h1)]
end Go.VE
/- Append and copy: the evaluator's against the machine's. -/
namespace Go.VE
open Go Go.RowKit
theorem alen_sound {P : Program} {ρ : Rho} {x x' : Value} {n : Nat} (hx : VR ρ x x') (e : alen x = some n) (w : World) : (Builtin.lenOf x').run P w = .ok n w := by
  unfold alen at e
  split at e
  · rename_i a k c
    cases e
    cases a with
    | none => obtain rfl := hx.flat_eq rfl; rfl
    | some a => obtain ⟨a', c', rfl⟩ := hx.slice_some; rfl
  · cases e; obtain rfl := hx.string_inv; rfl
  · cases e
theorem mkOk_addr {ρ : Rho} {A o n c : Nat} {m : Option Nat} {v' : Value} (h : VR ρ (.slice (some ⟨A, o, m⟩) n c) v') (hm : mkOk m = true) :
    ∃ b x c', ρ A = some (b, x) ∧ v' = .slice (some ⟨b, o + x.2, none⟩) n c' ∧ ((m = none ∧ c' = c) ∨ (m = some 0 ∧ c' = c + x.1)) := by
  obtain ⟨b, x, o', c', hA, rfl, hh⟩ := h.slice_addr
  rcases hh with ⟨rfl, rfl, rfl⟩ | ⟨rfl, rfl, rfl⟩ | ⟨rfl, _, _⟩
  · exact ⟨b, x, _, hA, rfl, .inl ⟨rfl, rfl⟩⟩
  · exact ⟨b, x, _, hA, rfl, .inr ⟨rfl, rfl⟩⟩
  · simp [mkOk] at hm
theorem first_sound [Memo] {C : Cx} {ρ : Rho} {s : St} {w : World} (h : Rel C ρ s w) {size n : Nat} {x x' : Value} {cs : List Value} (hx : VR ρ x x') (e : afirst s size n x = some cs) :
    ∃ cs' : Array Value, (Builtin.firstCells size n x').run C.P w = .ok cs' w ∧ LR ρ cs cs'.toList := by
  unfold afirst at e
  split at e
  · cases e; obtain rfl := hx.flat_eq rfl; exact ⟨#[], rfl, LR.nil⟩
  · rename_i A o m ln cp
    split at e
    · rename_i h0
      cases e
      obtain ⟨a', c', rfl⟩ := hx.slice_some
      refine ⟨#[], ?_, LR.nil⟩
      simp only [Builtin.firstCells, h0]
      rfl
    · rename_i k hk
      cases hm : mkOk m with
      | false => rw [hm] at e; cases e
      | true =>
        rw [hm] at e
        obtain ⟨c, hc, e⟩ := bind_some e
        obtain ⟨hle, rfl⟩ := cut_some e
        obtain ⟨b, y, c', hA, rfl, _⟩ := mkOk_addr hx hm
        obtain ⟨c'', t, t', f, op, _, hb, hsz, hl, _⟩ := h.block hA hc
        have hr := run_loadCellsFrom (P := C.P) (w := w) (o := o + y.2) hb (k + 1) 0 #[] (by omega)
        refine ⟨((c''.toList.drop (o + y.2)).take (k + 1)).toArray, ?_, ?_⟩
        · simp only [Builtin.firstCells, hk, loadCells, hr]
          simp
        · have := ((hl.drop o).take (k + 1))
          rw [take_drop_take _ _ _ _ hle, List.drop_drop, Nat.add_comm y.2 o] at this
          exact this
  · cases e
    obtain rfl := hx.string_inv
    refine ⟨_, rfl, ?_⟩
    refine LR.of_flat (flatL_of fun i v hi => ?_)
    simp only [Array.toList_map, List.getElem?_map, Option.map_eq_some_iff] at hi
    obtain ⟨b, _, rfl⟩ := hi
    rfl
  · cases e
theorem growBy_le (n : Nat) : ∀ (r c : Nat), c ≤ 2 * n + 1000 → Builtin.growBy n r c ≤ 2 * n + 1000
  | 0, c, h => h
  | r + 1, c, h => by
    unfold Builtin.growBy
    split
    · exact h
    · exact growBy_le n r _ (by omega)
theorem nextcap_le {need cap : Nat} (h : cap < need) : Builtin.nextslicecap need cap ≤ 2 * need + 1000 := by
  unfold Builtin.nextslicecap
  split
  · omega
  · split
    · omega
    · exact growBy_le _ _ _ (by omega)
theorem notInt_some {P : Program} {t : TypeId} (h : notInt P t = true) : ∃ d, P.underlying t = some d ∧ ∀ k, d ≠ TypeDesc.int k := by
  unfold notInt at h
  cases hd : P.underlying t with
  | none => rw [hd] at h; cases h
  | some d => exact ⟨d, rfl, fun k e => by subst e; rw [hd] at h; cases h⟩
theorem intMatch {d : TypeDesc} (h : ∀ k, d ≠ TypeDesc.int k) : Builtin.append_.match_1 (fun _ => Bool) d (fun _ => true) (fun _ => false) = false := by
  cases d <;> first | rfl | exact absurd rfl (h _)
theorem run_append_in {P : Program} {sT xT elem : TypeId} {i : TypeInfo} {base : Option Addr} {sLen sCap n : Nat} {x : Value} {new : Array Value} {w w' : World} (hd : P.underlying sT = some (.slice elem)) (hi : P.info? elem = some i)
    (hx : notInt P xT = true) (hn : (Builtin.lenOf x).run P w = .ok n w) (hf : (Builtin.firstCells i.size n x).run P w = .ok new w) (hle : sLen + n ≤ sCap)
    (hw : match base with | some a => (storeCells (a.add (sLen * i.size)) new.toList).run P w = .ok () w' | none => w' = w) (ty : TypeId) :
    (Builtin.append_ #[sT, xT] ty #[.slice base sLen sCap, x]).run P w = .ok (.slice base (sLen + n) sCap) w' := by
  obtain ⟨d, hxd, hne⟩ := notInt_some hx
  have h : ∀ b, (Builtin.append_ #[sT, xT] ty #[.slice b sLen sCap, x]).run P w = (match b with
      | some a => (storeCells (a.add (sLen * i.size)) new.toList).run P w
      | none => .ok () w).andThen fun _ w => .ok (.slice b (sLen + n) sCap) w := by
    intro b
    have hz := intMatch hne
    cases b <;> simp [Builtin.append_, run_underlying hd, run_underlying hxd, run_sizeOf' hi, hz, hn, hf, hle]
  rw [h]
  cases base with
  | none => subst hw; rfl
  | some a => simp only at hw ⊢; rw [hw]; rfl
theorem run_append_grow {P : Program} {sT xT elem : TypeId} {i : TypeInfo} {z : Value} {base : Option Addr} {sLen sCap n : Nat} {x : Value} {new old : Array Value} {w : World} (hd : P.underlying sT = some (.slice elem)) (hi : P.info? elem = some i)
    (hz0 : i.zero = some z) (hx : notInt P xT = true) (hn : (Builtin.lenOf x).run P w = .ok n w) (hf : (Builtin.firstCells i.size n x).run P w.drew = .ok new w.drew) (hgt : sCap < sLen + n) (ho : (Builtin.firstCells i.size sLen (.slice base sLen sCap)).run P w.drew = .ok old w.drew)
    (hb : (2 * (sLen + n) + 1000) * i.bytes ≤ 2 ^ 47) (hb0 : i.bytes ≠ 0) (ty : TypeId) :
    ∃ c : Nat, sLen + n ≤ c ∧ (Builtin.append_ #[sT, xT] ty #[.slice base sLen sCap, x]).run P w = .ok (.slice (some ⟨w.heap.size, 0, none⟩) (sLen + n) c) (w.drew.alloc (.cells (old ++ new ++ Builtin.zeroCells z.cells (c - (sLen + n))) elem)) := by
  obtain ⟨d, hxd, hne⟩ := notInt_some hx
  have hnle : ¬ (sLen + n ≤ sCap) := by omega
  have h1 : ¬ (281474976710656 < Builtin.nextslicecap (sLen + n) sCap * i.bytes) := by
    have := Nat.mul_le_mul_right i.bytes (nextcap_le hgt)
    omega
  refine ⟨(Question.appendCap (sLen + n) sCap elem).cut (w.tape w.drawn (Question.appendCap (sLen + n) sCap elem)), by simp [Question.cut], ?_⟩
  have hz := intMatch hne
  simp [Builtin.append_, hz, run_underlying hd, run_underlying hxd, run_sizeOf' hi, hn, hf, ho, hnle, typeInfo, hi, hb0, h1, Question.forced, zeroValue, hz0, newRow]
def zeroArr (i : TypeInfo) (n : Nat) : Array Value := match i.zero with
  | some z => bif Nat.beq (n * i.size) 0 then #[] else Builtin.zeroCells z.cells n
  | none => #[]
theorem zeroNew_sound {ρ : Rho} {i : TypeInfo} {n : Nat} {new : List Value} (e : zeroNew i n = some new) : LR ρ new (zeroArr i n).toList ∧ (n * i.size = 0 ∨ ∃ z, i.zero = some z) ∧ (n * i.size = 0 → zeroArr i n = #[] ∧ new = []) := by
  unfold zeroNew at e
  split at e
  · rename_i h0
    cases e
    have hz : zeroArr i n = #[] := by
      unfold zeroArr
      cases i.zero <;> simp [h0]
    rw [hz]
    exact ⟨LR.nil, .inl h0, fun _ => ⟨rfl, rfl⟩⟩
  · rename_i k hk
    split at e
    case h_2 => cases e
    case h_1 z hz =>
      obtain ⟨hf, e⟩ := (by
        cases hf : VE.flat z with
        | false => rw [hf] at e; cases e
        | true => rw [hf] at e; exact ⟨rfl, e⟩ : (VE.flat z = true) ∧ some (zeroList z.cells (n * z.cells.size)) = some new)
      cases e
      have hb : Nat.beq (n * i.size) 0 = false := by rw [hk]; rfl
      have hz2 : zeroArr i n = Builtin.zeroCells z.cells n := by unfold zeroArr; rw [hz]; simp only [hb, cond_false]
      rw [hz2]
      refine ⟨?_, .inr ⟨z, hz⟩, fun h => by omega⟩
      unfold Builtin.zeroCells
      rw [zeroList_eq]
      refine LR.of_flat (zeroList_flat (flat_cells hf) ?_)
      rcases Nat.eq_zero_or_pos z.cells.size with h | h
      · left; rw [h]; simp
      · exact .inr h
theorem run_append0_in {P : Program} {sT xT elem : TypeId} {i : TypeInfo} {k k' : IntKind} {m : Int} {base : Option Addr} {sLen sCap : Nat} {w w' : World} (hd : P.underlying sT = some (.slice elem)) (hi : P.info? elem = some i)
    (hxd : P.underlying xT = some (.int k)) (h0 : 0 ≤ IntKind.i64.wrap m) (hb : IntKind.i64.wrap m * i.bytes ≤ 2 ^ 47) (hz : (IntKind.i64.wrap m).toNat * i.size = 0 ∨ ∃ z, i.zero = some z) (hle : sLen + (IntKind.i64.wrap m).toNat ≤ sCap)
    (hw : match (generalizing := false) base with | some a => (storeCells (a.add (sLen * i.size)) (zeroArr i (IntKind.i64.wrap m).toNat).toList).run P w = .ok () w' | none => w' = w) (ty : TypeId) :
    (Builtin.append_ #[sT, xT] ty #[.slice base sLen sCap, .int k' m]).run P w = .ok (.slice base (sLen + (IntKind.i64.wrap m).toNat) sCap) w' := by
  have h1 : ¬ (281474976710656 < IntKind.i64.wrap m * (i.bytes : Int)) := by omega
  have h2 : ¬ (IntKind.i64.wrap m < 0) := by omega
  have h : ∀ b, (Builtin.append_ #[sT, xT] ty #[.slice b sLen sCap, .int k' m]).run P w = (match b with
      | some a => (storeCells (a.add (sLen * i.size)) (zeroArr i (IntKind.i64.wrap m).toNat).toList).run P w
      | none => .ok () w).andThen fun _ w => .ok (.slice b (sLen + (IntKind.i64.wrap m).toNat) sCap) w := by
    intro b
    by_cases hn : (IntKind.i64.wrap m).toNat * i.size = 0
    · have ha : zeroArr i (IntKind.i64.wrap m).toNat = #[] := by unfold zeroArr; cases i.zero <;> simp [hn]
      rw [ha]
      cases b <;> simp [Builtin.append_, run_underlying hd, run_underlying hxd, run_sizeOf' hi, asInt, asIntOf, typeInfo, hi, hn, hle, h1, h2]
    · obtain ⟨z, hz⟩ := hz.resolve_left hn
      have hb0 : Nat.beq ((IntKind.i64.wrap m).toNat * i.size) 0 = false := by
        cases hq : Nat.beq ((IntKind.i64.wrap m).toNat * i.size) 0 with
        | false => rfl
        | true => exact absurd (Nat.eq_of_beq_eq_true hq) hn
      have ha : zeroArr i (IntKind.i64.wrap m).toNat = Builtin.zeroCells z.cells (IntKind.i64.wrap m).toNat := by unfold zeroArr; rw [hz]; simp only [hb0, cond_false]
      rw [ha]
      cases b <;> simp [Builtin.append_, run_underlying hd, run_underlying hxd, run_sizeOf' hi, asInt, asIntOf, typeInfo, hi, hn, hle, h1, h2, zeroValue, hz]
  rw [h]
  cases base with
  | none => subst hw; rfl
  | some a => simp only at hw ⊢; rw [hw]; rfl
theorem run_append0_grow {P : Program} {sT xT elem : TypeId} {i : TypeInfo} {z : Value} {k k' : IntKind} {m : Int} {base : Option Addr} {sLen sCap : Nat} {old : Array Value} {w : World} (hd : P.underlying sT = some (.slice elem)) (hi : P.info? elem = some i)
    (hz0 : i.zero = some z) (hxd : P.underlying xT = some (.int k)) (h0 : 0 ≤ IntKind.i64.wrap m) (hb : IntKind.i64.wrap m * i.bytes ≤ 2 ^ 47) (hneed : (sLen + (IntKind.i64.wrap m).toNat : Int) ≤ 2 ^ 62) (hgt : sCap < sLen + (IntKind.i64.wrap m).toNat)
    (ho : (Builtin.firstCells i.size sLen (.slice base sLen sCap)).run P w.drew = .ok old w.drew) (hbb : (2 * (sLen + (IntKind.i64.wrap m).toNat) + 1000) * i.bytes ≤ 2 ^ 47) (hb0 : i.bytes ≠ 0) (ty : TypeId) :
    ∃ c : Nat, sLen + (IntKind.i64.wrap m).toNat ≤ c ∧ (Builtin.append_ #[sT, xT] ty #[.slice base sLen sCap, .int k' m]).run P w = .ok (.slice (some ⟨w.heap.size, 0, none⟩) (sLen + (IntKind.i64.wrap m).toNat) c) (w.drew.alloc (.cells (old ++ zeroArr i (IntKind.i64.wrap m).toNat ++ Builtin.zeroCells z.cells (c - (sLen + (IntKind.i64.wrap m).toNat))) elem)) := by
  have h1 : ¬ (281474976710656 < IntKind.i64.wrap m * (i.bytes : Int)) := by omega
  have h2 : ¬ (IntKind.i64.wrap m < 0) := by omega
  have hnle : ¬ (sLen + (IntKind.i64.wrap m).toNat ≤ sCap) := by omega
  have h3 : ¬ (281474976710656 < Builtin.nextslicecap (sLen + (IntKind.i64.wrap m).toNat) sCap * i.bytes) := by
    have := Nat.mul_le_mul_right i.bytes (nextcap_le hgt)
    omega
  have h4 : ¬ (9223372036854775807 < (sLen : Int) + max (IntKind.i64.wrap m) 0) := by omega
  refine ⟨(Question.appendCap (sLen + (IntKind.i64.wrap m).toNat) sCap elem).cut (w.tape w.drawn (Question.appendCap (sLen + (IntKind.i64.wrap m).toNat) sCap elem)), by simp [Question.cut], ?_⟩
  by_cases hn : (IntKind.i64.wrap m).toNat * i.size = 0
  · have ha : zeroArr i (IntKind.i64.wrap m).toNat = #[] := by unfold zeroArr; cases i.zero <;> simp [hn]
    rw [ha]
    simp [Builtin.append_, run_underlying hd, run_underlying hxd, run_sizeOf' hi, asInt, asIntOf, typeInfo, hi, hn, ho, hnle, h1, h2, h3, h4, hb0, Question.forced, zeroValue, hz0, newRow]
  · have hb1 : Nat.beq ((IntKind.i64.wrap m).toNat * i.size) 0 = false := by
      cases hq : Nat.beq ((IntKind.i64.wrap m).toNat * i.size) 0 with
      | false => rfl
      | true => exact absurd (Nat.eq_of_beq_eq_true hq) hn
    have ha : zeroArr i (IntKind.i64.wrap m).toNat = Builtin.zeroCells z.cells (IntKind.i64.wrap m).toNat := by unfold zeroArr; rw [hz0]; simp only [hb1, cond_false]
    rw [ha]
    simp [Builtin.append_, run_underlying hd, run_underlying hxd, run_sizeOf' hi, asInt, asIntOf, typeInfo, hi, hn, ho, hnle, h1, h2, h3, h4, hb0, Question.forced, zeroValue, hz0, newRow]
theorem Rel.putDead [Memo] {C : Cx} {ρ : Rho} {s : St} {w : World} (h : Rel C ρ s w) {A : Nat} (hA : A < s.n) : Rel C ρ (s.put A .dead) w := by
  refine ⟨by simp [St.put, h.len], fun B p e => h.dom B p e, h.lt, fun B d y u e hu => ?_, h.sh, fun B B' d y y' u u' hr e e' hu hu' hne => ?_, h.wr, h.low, h.keep, h.glob⟩
  · rw [St.at_put s h.len A _ B hA] at hu
    by_cases hB : B = A
    · subst hB; simp at hu; subst hu; trivial
    · rw [if_neg hB] at hu; exact h.obj B d y u e hu
  · rw [St.at_put s h.len A _ _ hA] at hu hu'
    by_cases hB : B = A
    · subst hB; simp at hu; exact .inl hu.symm
    · by_cases hB' : B' = A
      · subst hB'; simp at hu'; exact .inr hu'.symm
      · rw [if_neg hB] at hu; rw [if_neg hB'] at hu'
        exact h.inj B B' d y y' u u' hr e e' hu hu' hne
theorem OR.open [Memo] {C : Cx} {ρ : Rho} {A b x : Nat} {w : World} {c : List Value} {c' : Array Value} {t : TypeId} {f : Nat × Nat} (hb : w.heap[b]? = some (.cells c' t f)) (hs : c'.size = c.length + x * C.P.cellsOf t) (hl : LR ρ c (c'.toList.take c.length))
    (hf : ∀ i, i < c'.size → ¬ (f.1 ≤ i ∧ i < f.2)) : OR C ρ A b (x, 0) w (.cells c t true) := ⟨c', t, f, hb, by simp only; omega, by simpa using hl, fun _ => ⟨rfl, (by intro hh; cases hh), hs, hf⟩⟩
theorem cellsOf_info {P : Program} {t : TypeId} {i : TypeInfo} (h : P.info? t = some i) : P.cellsOf t = i.size := by simp [Program.cellsOf, h]
theorem zeroCells_size (z : Array Value) (n : Nat) : (Builtin.zeroCells z n).size = n * z.size := by simp [Builtin.zeroCells]
theorem Rel.moved [Memo] {C : Cx} {ρ : Rho} {s : St} {w : World} (h : Rel C ρ s w) (hg : Glob C s) {elem : TypeId} {i : TypeInfo} (hi : C.P.info? elem = some i) {z : Value} (hz : z.cells.size = i.size) {c : List Value} {c' : Array Value} (hc : LR ρ c c'.toList) (k : Nat) :
    Rel C (upd ρ s.n (w.heap.size, k, 0)) (s.new (.cells c elem true)) (w.alloc (.cells (c' ++ Builtin.zeroCells z.cells k) elem)) := by
  refine h.new _ _ k (OR.open (c' := c' ++ Builtin.zeroCells z.cells k) (heap_alloc_self _ _) ?_ ?_ fun _ _ => by simp) hg
  · have := hc.len; simp only [Array.length_toList] at this
    rw [Array.size_append, zeroCells_size, cellsOf_info hi, hz, this]
  · rw [Array.toList_append, List.take_append_of_le_length (by rw [hc.len]; exact Nat.le_refl _), List.take_of_length_le (by rw [hc.len]; exact Nat.le_refl _)]
    exact hc.mono (h.sub_new _)
theorem Rel.inPlace [Memo] {C : Cx} {ρ : Rho} {s : St} {w : World} (h : Rel C ρ s w) (hg : Glob C s) {A b x₂ : Nat} {x : Nat × Nat} (hA : ρ A = some (b, x)) (hro : C.ro ≤ A) {c c₂ : List Value} {c' c₂' : Array Value} {t : TypeId} {f : Nat × Nat} {op : Bool}
    (hs : s.at A = some (.cells c t op)) (hb : w.heap[b]? = some (.cells c' t f)) (hsz : c₂'.size = c₂.length + x₂ * C.P.cellsOf t) (hl : LR ρ c₂ (c₂'.toList.take c₂.length)) (hf : ∀ i, i < c₂'.size → ¬ (f.1 ≤ i ∧ i < f.2)) :
    Rel C (upd ρ s.n (b, x₂, 0)) ((s.put A .dead).new (.cells c₂ t true)) (w.setRow b c₂') := by
  have hAn := St.at_lt hs
  have hd := h.putDead hAn
  have hsub := h.sub_new (b, x₂, 0)
  have hn : (s.put A .dead).n = s.n := rfl
  refine ⟨by simp [St.new, hd.len], fun B p e => ?_, fun B d y e => ?_, fun B d y u e hu => ?_, fun B d y hr e => ?_, fun B B' d y y' u u' hr e e' hu hu' hne => ?_, fun B d y hr e => ?_, by simpa using h.low, Below.setRow h.keep (h.wr A b x hro hA) _, fun g hgl => ?_⟩
  · by_cases hB : B = s.n
    · subst hB; simp [St.new, hn]
    · rw [upd_other hB] at e; have := h.dom B p e; simp [St.new, hn]; omega
  · by_cases hB : B = s.n
    · subst hB; rw [upd_same] at e; cases e; simpa using h.lt _ _ _ hA
    · rw [upd_other hB] at e; simpa using h.lt B d y e
  · rw [St.at_new, hn] at hu
    by_cases hB : B = s.n
    · subst hB; rw [upd_same] at e; cases e; simp at hu; subst hu
      exact OR.open (setRow_heap w b c' c₂' t f hb) hsz (hl.mono hsub) hf
    · rw [upd_other hB] at e; rw [if_neg hB] at hu
      by_cases hdb : d = b
      · subst hdb
        by_cases hBA : B = A
        · subst hBA; rw [St.at_put s h.len B _ B hAn] at hu; simp at hu; subst hu; trivial
        · rw [St.at_put s h.len A _ B hAn, if_neg hBA] at hu
          rcases h.inj A B d x y _ u hro hA e hs hu (Ne.symm hBA) with hh | hh
          · cases hh
          · subst hh; trivial
      · exact (hd.obj B d y u e hu).later hsub (setRow_other w b d c₂' hdb)
  · by_cases hB : B = s.n
    · subst hB; rw [upd_same] at e; cases e; rfl
    · rw [upd_other hB] at e; exact h.sh B d y hr e
  · rw [St.at_new, hn] at hu hu'
    have key : ∀ {B y u}, B ≠ s.n → ρ B = some (b, y) → (s.put A .dead).at B = some u → u = .dead := by
      intro B y u _ e hu
      by_cases hBA : B = A
      · subst hBA; rw [St.at_put s h.len B _ B hAn] at hu; simp at hu; exact hu.symm
      · rw [St.at_put s h.len A _ B hAn, if_neg hBA] at hu
        rcases h.inj A B b x y _ u hro hA e hs hu (Ne.symm hBA) with hh | hh
        · cases hh
        · exact hh
    by_cases hB : B = s.n
    · subst hB; rw [upd_same] at e; cases e
      rw [upd_other (Ne.symm hne)] at e'; rw [if_neg (Ne.symm hne)] at hu'
      exact .inr (key (Ne.symm hne) e' hu')
    · rw [upd_other hB] at e; rw [if_neg hB] at hu
      by_cases hB' : B' = s.n
      · subst hB'; rw [upd_same] at e'; cases e'
        exact .inl (key hB e hu)
      · rw [upd_other hB'] at e'; rw [if_neg hB'] at hu'
        exact hd.inj B B' d y y' u u' hr e e' hu hu' hne
  · by_cases hB : B = s.n
    · subst hB; rw [upd_same] at e; cases e; exact h.wr A _ _ hro hA
    · rw [upd_other hB] at e; exact h.wr B d y hr e
  · have : C.P.globals.size ≤ s.n := hg
    rw [upd_other (by omega)]; exact h.glob g hgl
theorem appendTo_sound [Memo] {C : Cx} {ρ : Rho} {s s' : St} {w : World} (h : Rel C ρ s w) (hg : Glob C s) {sT xT elem : TypeId} {i : TypeInfo} {base : Option Addr} {sLen sCap n : Nat} {b' x' v : Value} {new : List Value} {new' : Array Value} (ty : TypeId)
    (hi : C.P.info? elem = some i) (hb' : VR ρ (.slice base sLen sCap) b') (hnl : LR ρ new new'.toList)
    (hin : ∀ (base' : Option Addr) (cap' : Nat) (w' : World), sLen + n ≤ cap' → (match base' with | some a => (storeCells (a.add (sLen * i.size)) new'.toList).run C.P w = .ok () w' | none => w' = w) → (Builtin.append_ #[sT, xT] ty #[.slice base' sLen cap', x']).run C.P w = .ok (.slice base' (sLen + n) cap') w')
    (hgrow : ∀ (z : Value) (base' : Option Addr) (cap' : Nat) (old : Array Value), i.zero = some z → cap' < sLen + n → (Builtin.firstCells i.size sLen (.slice base' sLen cap')).run C.P w.drew = .ok old w.drew → (2 * (sLen + n) + 1000) * i.bytes ≤ 2 ^ 47 → i.bytes ≠ 0 →
      ∃ (c : Nat) (new2 : Array Value), LR ρ new new2.toList ∧ sLen + n ≤ c ∧ (Builtin.append_ #[sT, xT] ty #[.slice base' sLen cap', x']).run C.P w = .ok (.slice (some ⟨w.heap.size, 0, none⟩) (sLen + n) c) (w.drew.alloc (.cells (old ++ new2 ++ Builtin.zeroCells z.cells (c - (sLen + n))) elem)))
    (hnew0 : sLen + n = 0 → new = [])
    (e : aappendTo C.ro s elem i base sLen sCap n new = some (v, s')) :
    ∃ (v' : Value) (ρ' : Rho) (w' : World), (Builtin.append_ #[sT, xT] ty #[b', x']).run C.P w = .ok v' w' ∧ Ext s.n ρ ρ' ∧ Rel C ρ' s' w' ∧ VR ρ' v v' := by
  unfold aappendTo at e
  split at e
  · rename_i hle
    cases base with
    | none =>
      cases e
      obtain rfl := hb'.flat_eq rfl
      exact ⟨_, ρ, w, hin _ _ w hle rfl, Ext.refl _ _, h, .flat _ rfl⟩
    | some a =>
      obtain ⟨A, o, m⟩ := a
      obtain ⟨s1, hs1, e⟩ := Option.map_eq_some_iff.1 e
      cases e
      obtain ⟨b, y, o', c', hA, rfl, hh⟩ := hb'.slice_addr
      have hcc : sLen + n ≤ c' := by rcases hh with ⟨_, _, rfl⟩ | ⟨_, _, rfl⟩ | ⟨_, rfl, rfl⟩ <;> omega
      rcases hh with ⟨rfl, rfl, rfl⟩ | ⟨rfl, rfl, rfl⟩ | ⟨rfl, rfl, rfl⟩
      · obtain ⟨w', hw', hr⟩ := write_sound h hA hnl hs1
        exact ⟨_, ρ, w', hin _ _ w' hcc (by simp only [addr_add]; rw [show o + y.2 + sLen * i.size = o + sLen * i.size + y.2 by omega]; exact hw'), Ext.refl _ _, hr, .sl _ _ _ hA⟩
      · obtain ⟨w', hw', hr⟩ := write_sound h hA hnl hs1
        exact ⟨_, ρ, w', hin _ _ w' hcc (by simp only [addr_add]; rw [show o + y.2 + sLen * i.size = o + sLen * i.size + y.2 by omega]; exact hw'), Ext.refl _ _, hr, .slo _ _ _ hA⟩
      · have hn0 : n = 0 := by omega
        subst hn0
        have hnil : new = [] := hnew0 (by omega)
        subst hnil
        have hnil' : new'.toList = [] := hnl.nil_inv
        simp only [awrite, Option.some.injEq] at hs1
        subst hs1
        exact ⟨_, ρ, w, hin _ _ w hcc (by simp [hnil', storeCells]), Ext.refl _ _, h, .sle _ _ _ hA⟩
  · rename_i hgt
    split at e
    · cases e
    · rename_i hcond
      split at e
      case h_2 => cases e
      case h_1 z old hz hold =>
        split at e
        case isFalse => cases e
        case isTrue hzz =>
          obtain ⟨hzs, hzf⟩ := hzz
          have hbytes : (2 * (sLen + n) + 1000) * i.bytes ≤ 2 ^ 47 := by
            rcases Nat.lt_or_ge (2 ^ 47) ((2 * (sLen + n) + 1000) * i.bytes) with q | q
            · exact absurd (.inl q) hcond
            · exact q
          have hsz0 : i.size ≠ 0 := fun q => hcond (.inr (.inl q))
          have hb0 : i.bytes ≠ 0 := fun q => hcond (.inr (.inr q))
          have hdr := h.drew
          obtain ⟨old', ho', hol⟩ := first_sound hdr hb' hold
          -- a new block, elsewhere
          have moved : ∀ {base' : Option Addr} {cap' : Nat}, b' = .slice base' sLen cap' → cap' < sLen + n → ∀ (s1 : St), Rel C ρ s1 w.drew → s1.n = s.n →
              ∃ (v' : Value) (ρ' : Rho) (w' : World), (Builtin.append_ #[sT, xT] ty #[b', x']).run C.P w = .ok v' w' ∧ Ext s.n ρ ρ' ∧ Rel C ρ' (s1.new (.cells (old ++ new) elem true)) w' ∧
                VR ρ' (.slice (some ⟨s.n, 0, some 0⟩) (sLen + n) (sLen + n)) v' := by
            intro base' cap' hb hlt s1 hr1 hn1
            subst hb
            obtain ⟨c, new2, hnl2, hc, hrun⟩ := hgrow z _ _ old' hz hlt ho' hbytes hb0
            have hg1 : Glob C s1 := by unfold Glob; rw [hn1]; exact hg
            have hrel := hr1.moved hg1 hi hzs (c' := old' ++ new2) (by rw [Array.toList_append]; exact hol.append hnl2) (c - (sLen + n))
            rw [hn1] at hrel
            refine ⟨_, _, _, hrun, ext_new _ _ _, hrel, ?_⟩
            have := VR.slo (ρ := upd ρ s.n (w.drew.heap.size, c - (sLen + n), 0)) 0 (sLen + n) (sLen + n) (upd_same _ _ _)
            simp only [Nat.add_zero] at this
            rw [show sLen + n + (c - (sLen + n)) = c by omega] at this
            exact this
          unfold agrow at e
          split at e
          case h_1 =>
            cases e
            obtain rfl := hb'.flat_eq rfl
            exact moved rfl (by omega) s hdr rfl
          case h_2 =>
            cases e
            obtain ⟨b, y, o', c', hA, rfl, hh⟩ := hb'.slice_addr
            have hcc : c' = sCap := by rcases hh with ⟨_, _, rfl⟩ | ⟨h0, _, _⟩ | ⟨h0, _, _⟩; rfl; cases h0; cases h0
            exact moved rfl (by omega) s hdr rfl
          case h_3 A =>
            obtain ⟨b, y, o', c', hA, rfl, hh⟩ := hb'.slice_addr
            have hcc : o' = 0 + y.2 ∧ c' = sCap + y.1 := by rcases hh with ⟨h0, _, _⟩ | ⟨_, rfl, rfl⟩ | ⟨h0, _, _⟩; cases h0; exact ⟨rfl, rfl⟩; cases h0
            obtain ⟨rfl, rfl⟩ := hcc
            split at e
            case h_2 => cases e
            case h_1 c t op hsA =>
              split at e
              case isFalse => cases e
              case isTrue hq =>
                obtain ⟨hro, rfl, hcl, hol', hnl', hone⟩ := hq
                cases e
                obtain ⟨y, sh⟩ := y
                by_cases hfit : sLen + n ≤ sCap + y
                · obtain ⟨c'', tt, tt', f, op', hsA', hblk, _, hlr, hro4⟩ := h.block hA (c := c) (by rw [hsA]; rfl)
                  rw [hsA] at hsA'; cases hsA'
                  obtain ⟨hsh, rfl, _, hsz, hfz⟩ := hro4 hro
                  simp only at hsh hsz
                  subst hsh
                  simp only [List.drop_zero] at hlr
                  rw [cellsOf_info hi] at hsz
                  have hnew'len : new'.toList.length = n * i.size := by rw [← hnl.len, hnl']
                  have hnew'sz : new'.size = n * i.size := by simpa using hnew'len
                  have hm : sLen * i.size + n * i.size = (sLen + n) * i.size := (Nat.add_mul _ _ _).symm
                  have hm2 : sCap * i.size + y * i.size = (sCap + y) * i.size := (Nat.add_mul _ _ _).symm
                  have hmle : (sLen + n) * i.size ≤ (sCap + y) * i.size := Nat.mul_le_mul_right _ hfit
                  have hst := run_storeCells' (P := C.P) (o := sLen * i.size) new'.toList 0 c'' w hblk (by omega) hfz (hnl.oneCells hone)
                  have hbig : (splice c''.toList (sLen * i.size) new'.toList).length = c''.size := by rw [splice_length (by simp; omega)]; simp
                  have hx2 : (sCap + y - (sLen + n)) * i.size = (sCap + y) * i.size - (sLen + n) * i.size := Nat.sub_mul _ _ _
                  have hrel := h.inPlace hg hA hro hsA hblk (c₂ := old ++ new) (c₂' := (splice c''.toList (sLen * i.size) new'.toList).toArray) (x₂ := sCap + y - (sLen + n))
                    (by rw [cellsOf_info hi, List.size_toArray, hbig, List.length_append, hol', hnl', hx2]; omega)
                    (by
                      rw [List.length_append, hol', hnl', hm]
                      show LR ρ (old ++ new) ((splice c''.toList (sLen * i.size) new'.toList).take _)
                      unfold splice
                      rw [← List.append_assoc, List.take_append_of_le_length (by simp; omega), List.take_of_length_le (by simp; omega)]
                      refine LR.append ?_ hnl
                      have hold2 : old = c.take (sLen * i.size) := by
                        simp only [afirst] at hold
                        split at hold
                        · rename_i h0
                          cases hold; rw [h0]; rfl
                        · rename_i k hk
                          simp only [mkOk, cond_true, hsA, acells, Option.bind_some] at hold
                          obtain ⟨_, rfl⟩ := cut_some hold
                          rw [hk]; simp
                      rw [hold2]
                      have := hlr.take (sLen * i.size)
                      rw [List.take_take] at this
                      have hmin : min (sLen * i.size) c.length = sLen * i.size := by
                        have := hol'; rw [hold2] at this; simp at this; omega
                      rw [hmin] at this
                      exact this)
                    (by rw [List.size_toArray, hbig]; exact hfz)
                  refine ⟨_, _, _, hin _ _ _ hfit (by simpa [addr_add] using hst), ext_new _ _ _, hrel, ?_⟩
                  have := VR.slo (ρ := upd ρ s.n (b, sCap + y - (sLen + n), 0)) 0 (sLen + n) (sLen + n) (upd_same _ _ _)
                  simp only [Nat.add_zero] at this
                  rw [show sLen + n + (sCap + y - (sLen + n)) = sCap + y by omega] at this
                  exact this
                · exact moved rfl (by omega) (s.put _ .dead) (hdr.putDead (St.at_lt hsA)) rfl
          case h_4 => cases e
theorem append_sound [Memo] {C : Cx} {ρ : Rho} {s s' : St} {w : World} (h : Rel C ρ s w) (hg : Glob C s) {tys : Array TypeId} {args : List Value} {args' : Array Value} {v : Value} (ha : LR ρ args args'.toList) (e : aappend C.P C.ro s tys args = some (v, s')) (ty : TypeId) :
    ∃ (v' : Value) (ρ' : Rho) (w' : World), (Builtin.append_ tys ty args').run C.P w = .ok v' w' ∧ Ext s.n ρ ρ' ∧ Rel C ρ' s' w' ∧ VR ρ' v v' := by
  unfold aappend at e
  split at e
  case h_2 => cases e
  case h_1 sT xT base sLen sCap x htys =>
    split at e
    case h_3 => cases e
    case h_2 elem hse hx =>
      have hd := sliceElem_some hse
      split at e
      case h_2 => cases e
      case h_1 i k k' m hi hxd =>
        unfold aappend0 at e
        split at e
        case isFalse => cases e
        case isTrue hq =>
          obtain ⟨h0, hb, hneed⟩ := hq
          obtain ⟨new, hnew, e⟩ := bind_some e
          obtain ⟨b', r, har, hb', ha⟩ := ha.cons_inv
          obtain ⟨x', r, rfl, hx', ha⟩ := ha.cons_inv
          obtain rfl := ha.nil_inv
          obtain rfl := hx'.int_inv
          have htys : tys = #[sT, xT] := by apply Array.ext'; exact htys
          have har : args' = #[b', .int k' m] := by apply Array.ext'; exact har
          subst htys; subst har
          obtain ⟨z1, z2, z3⟩ := zeroNew_sound (ρ := ρ) hnew
          refine appendTo_sound h hg ty hi hb' z1 (fun base' cap' w' hle hst => run_append0_in hd hi hxd h0 hb z2 hle hst ty) (fun z base' cap' old hz hlt ho hbytes hb0 => ?_) (fun h9 => (z3 (by rw [show (IntKind.i64.wrap m).toNat = 0 by omega]; simp)).2) e
          obtain ⟨c, hc, hrun⟩ := run_append0_grow hd hi hz hxd h0 hb hneed hlt ho hbytes hb0 ty
          exact ⟨c, _, z1, hc, hrun⟩
    case h_1 elem hse hx =>
      have hd := sliceElem_some hse
      split at e
      case h_2 => cases e
      case h_1 i n hi hlen =>
        obtain ⟨new, hnew, e⟩ := bind_some e
        obtain ⟨b', r, har, hb', ha⟩ := ha.cons_inv
        obtain ⟨x', r, rfl, hx', ha⟩ := ha.cons_inv
        obtain rfl := ha.nil_inv
        have htys : tys = #[sT, xT] := by apply Array.ext'; exact htys
        have har : args' = #[b', x'] := by apply Array.ext'; exact har
        subst htys; subst har
        have hlen' := alen_sound (P := C.P) hx' hlen w
        obtain ⟨new', hf', hnl⟩ := first_sound h hx' hnew
        refine appendTo_sound h hg ty hi hb' hnl (fun base' cap' w' hle hst => run_append_in hd hi hx hlen' hf' hle hst ty) (fun z base' cap' old hz hlt ho hbytes hb0 => ?_) (fun h0 => ?_) e
        · obtain ⟨new2, hf2, hnl2⟩ := first_sound h.drew hx' hnew
          obtain ⟨c, hc, hrun⟩ := run_append_grow hd hi hz hx hlen' hf2 hlt ho hbytes hb0 ty
          exact ⟨c, new2, hnl2, hc, hrun⟩
        · have hn0 : n = 0 := by omega
          subst hn0
          unfold afirst at hnew
          split at hnew
          · cases hnew; rfl
          · split at hnew
            · cases hnew; rfl
            · rename_i hk; simp at hk
          · cases hnew; simp
          · cases hnew
end Go.VE
/- Every operation: the evaluator's against the machine's. -/
namespace Go.VE
open Go Go.RowKit
theorem copy_sound [Memo] {C : Cx} {ρ : Rho} {s s' : St} {w : World} (h : Rel C ρ s w) {tys : Array TypeId} {args : List Value} {args' : Array Value} {v : Value} (ha : LR ρ args args'.toList) (e : acopy C.P C.ro s tys args = some (v, s')) (ty : TypeId) :
    ∃ (v' : Value) (w' : World), (Builtin.copy_ tys ty args').run C.P w = .ok v' w' ∧ Rel C ρ s' w' ∧ VR ρ v v' := by
  unfold acopy at e
  split at e
  case h_2 => cases e
  case h_1 dT tl base dLen cp src htys =>
    split at e
    case h_2 => cases e
    case h_1 elem hse =>
      have hd := sliceElem_some hse
      split at e
      case h_2 => cases e
      case h_1 sz m hsz hlen =>
        obtain ⟨i, hi, rfl⟩ := isz_info hsz
        obtain ⟨cs, hcs, e⟩ := bind_some e
        obtain ⟨b', r, har, hb', ha⟩ := ha.cons_inv
        obtain ⟨x', r, rfl, hx', ha⟩ := ha.cons_inv
        obtain rfl := ha.nil_inv
        have har : args' = #[b', x'] := by apply Array.ext'; exact har
        subst har
        have hlen' := alen_sound (P := C.P) hx' hlen w
        obtain ⟨cs', hf', hcl⟩ := first_sound h hx' hcs
        have hty : tys[0]? = some dT := by rw [← Array.getElem?_toList, htys]; rfl
        have hmin : ∀ a b : Nat, Nat.min a b = min a b := fun _ _ => rfl
        cases base with
        | none =>
          cases e
          obtain rfl := hb'.flat_eq rfl
          refine ⟨goInt (min m dLen : Nat), w, ?_, h, .flat _ rfl⟩
          simp [Builtin.copy_, hty, run_underlying hd, hlen', run_sizeOf' hi, hmin, hf']
        | some a =>
          obtain ⟨A, o, mk⟩ := a
          obtain ⟨s1, hs1, e⟩ := Option.map_eq_some_iff.1 e
          cases e
          obtain ⟨b, y, o', c', hA, rfl, hh⟩ := hb'.slice_addr
          have key : ∃ w', (storeCells (⟨b, o', none⟩ : Addr) cs'.toList).run C.P w = .ok () w' ∧ Rel C ρ s' w' := by
            rcases hh with ⟨rfl, rfl, rfl⟩ | ⟨rfl, rfl, rfl⟩ | ⟨rfl, rfl, rfl⟩
            · exact write_sound h hA hcl hs1
            · exact write_sound h hA hcl hs1
            · have hnil : cs = [] := by
                simp only [Nat.min_zero] at hcs
                unfold afirst at hcs
                split at hcs
                · cases hcs; rfl
                · split at hcs
                  · cases hcs; rfl
                  · rename_i hk; simp at hk
                · cases hcs; simp
                · cases hcs
              subst hnil
              have hnil' : cs'.toList = [] := hcl.nil_inv
              simp only [awrite, Option.some.injEq] at hs1
              subst hs1
              exact ⟨w, by rw [hnil']; rfl, h⟩
          obtain ⟨w', hw', hr⟩ := key
          refine ⟨goInt (min m dLen : Nat), w', ?_, hr, .flat _ rfl⟩
          simp [Builtin.copy_, hty, run_underlying hd, hlen', run_sizeOf' hi, hmin, hf', hw']
theorem bif_some {α : Type} {b : Bool} {x : Option α} {y : α} (h : (bif b then x else none) = some y) : b = true ∧ x = some y := by
  cases b
  · cases h
  · exact ⟨rfl, h⟩
def setO (w : World) (b : Nat) (o : Obj) : World := { w with heap := w.heap.setIfInBounds b o }
theorem setO_same {w : World} {b : Nat} (o : Obj) (h : b < w.heap.size) : (setO w b o).heap[b]? = some o := by simp [setO, h]
theorem setO_other {w : World} {b k : Nat} (o : Obj) (h : k ≠ b) : (setO w b o).heap[k]? = w.heap[k]? := by
  simp only [setO]; rw [Array.getElem?_setIfInBounds, if_neg (by omega)]
theorem setO_size (w : World) (b : Nat) (o : Obj) : (setO w b o).heap.size = w.heap.size := by simp [setO]
theorem Below.setO {B : Nat} {a w : World} (h : Below B a w) {b : Nat} (hb : B ≤ b) (o : Obj) : Below B a (VE.setO w b o) :=
  h.trans ⟨rfl, rfl, rfl, by rw [setO_size]; exact Nat.le_refl _, fun k hk => setO_other o (by omega)⟩
theorem Rel.putObj [Memo] {C : Cx} {ρ : Rho} {s : St} {w : World} (h : Rel C ρ s w) {A b : Nat} {x : Nat × Nat} (hA : ρ A = some (b, x)) (hro : C.ro ≤ A) {o o2 : AO} {obj : Obj} (hs : s.at A = some o) (hd : o ≠ .dead) (ho : OR C ρ A b x (setO w b obj) o2) :
    Rel C ρ (s.put A o2) (setO w b obj) := by
  have hAn := St.at_lt hs
  refine ⟨by simp [St.put, h.len], fun B p e => h.dom B p e, fun B d y e => by rw [setO_size]; exact h.lt B d y e, fun B d y u e hu => ?_, h.sh, fun B B' d y y' u u' hr e e' hu hu' hne => ?_, h.wr, by rw [setO_size]; exact h.low, Below.setO h.keep (h.wr A b x hro hA) _, h.glob⟩
  · rw [St.at_put s h.len A _ B hAn] at hu
    by_cases hB : B = A
    · subst hB; rw [hA] at e; cases e; simp at hu; subst hu; exact ho
    · rw [if_neg hB] at hu
      by_cases hdb : d = b
      · subst hdb
        rcases h.inj A B d x y _ u hro hA e hs hu (Ne.symm hB) with hh | hh
        · exact absurd hh hd
        · subst hh; trivial
      · exact (h.obj B d y u e hu).later (Sub.refl _) (setO_other obj hdb)
  · rw [St.at_put s h.len A _ _ hAn] at hu hu'
    by_cases hB : B = A
    · subst hB
      rw [if_neg (Ne.symm hne)] at hu'
      rcases h.inj _ B' d y y' _ u' hr e e' hs hu' hne with hh | hh
      · exact absurd hh hd
      · exact .inr hh
    · rw [if_neg hB] at hu
      by_cases hB' : B' = A
      · subst hB'
        rcases h.inj B _ d y y' u _ hr e e' hu hs hne with hh | hh
        · exact .inl hh
        · exact absurd hh hd
      · rw [if_neg hB'] at hu'
        exact h.inj B B' d y y' u u' hr e e' hu hu' hne
def toExit : Ex → Exit
  | .normal => .normal
  | .exit id => .exit id
  | .ret => .ret
def DL (ρ : Rho) : List Deferred → List Deferred → Prop
  | [], [] => True
  | d :: ds, d' :: ds' => DR ρ d d' ∧ DL ρ ds ds'
  | _, _ => False
theorem mapTypes_some {P : Program} {t : TypeId} {kd : TypeDesc} {kt et : TypeId} (h : mapTypes P t = some (kd, kt, et)) : P.underlying t = some (.map kt et) ∧ P.underlying kt = some kd := by
  unfold mapTypes at h
  split at h
  · rename_i kt' et' hd
    split at h
    · rename_i kd' hk
      cases h
      exact ⟨hd, hk⟩
    · cases h
  · cases h
theorem MR.append {ρ : Rho} {l l' : List MapEntry} (h : MR ρ l l') {e e' : MapEntry} (k : ER ρ e e') : MR ρ (l ++ [e]) (l' ++ [e']) := by
  induction h with
  | nil => exact .cons k .nil
  | cons h _ ih => exact .cons h ih
theorem MR.len {ρ : Rho} {l l' : List MapEntry} (h : MR ρ l l') : l'.length = l.length := by
  induction h with
  | nil => rfl
  | cons _ _ ih => simp [ih]
theorem MR.get {ρ : Rho} {l l' : List MapEntry} (h : MR ρ l l') : ∀ {i : Nat} {e : MapEntry}, l[i]? = some e → ∃ e', l'[i]? = some e' ∧ ER ρ e e' := by
  induction h with
  | nil => intro i e hi; simp at hi
  | cons h _ ih =>
    intro i e hi
    cases i with
    | zero => simp at hi; subst hi; exact ⟨_, rfl, h⟩
    | succ i => exact ih (by simpa using hi)
theorem MR.setEnt {ρ : Rho} {l l' : List MapEntry} (h : MR ρ l l') : ∀ {i : Nat} {k v v' : Value}, VE.flat k = true → VR ρ v v' → MR ρ (VE.setEnt l i k v) (l'.modify i fun e => { e with key := k, val := v' }) := by
  induction h with
  | nil => intro i k v v' _ _; simpa [VE.setEnt] using MR.nil
  | cons h hk ih =>
    intro i k v v' hf hv
    cases i with
    | zero => simp only [VE.setEnt, List.modify_zero_cons]; exact .cons ⟨rfl, hf, hv, h.born⟩ hk
    | succ i => simp only [VE.setEnt, List.modify_succ_cons]; exact .cons h (ih hf hv)
theorem MR.find {ρ : Rho} {kd : TypeDesc} {k : Value} {l l' : List MapEntry} (h : MR ρ l l') : ∀ (i : Nat) {r : Option (Nat × Value)}, Instr.findNow kd k l i = some r →
    ∃ r', Instr.findNow kd k l' i = some r' ∧ ((r = none ∧ r' = none) ∨ ∃ j v v', r = some (i + j, v) ∧ r' = some (i + j, v') ∧ VR ρ v v' ∧ ∃ e, l[j]? = some e ∧ Instr.sameNow kd k e.key = some true) := by
  induction h with
  | nil => intro i r hr; cases hr; exact ⟨none, rfl, .inl ⟨rfl, rfl⟩⟩
  | cons h _ ih =>
    intro i r hr
    simp only [Instr.findNow] at hr ⊢
    rw [h.key]
    split at hr
    · rename_i hs
      cases hr
      exact ⟨_, rfl, .inr ⟨0, _, _, rfl, rfl, h.val, _, rfl, hs⟩⟩
    · rename_i hs
      obtain ⟨r', h1, h2⟩ := ih (i + 1) hr
      refine ⟨r', h1, ?_⟩
      rcases h2 with h2 | ⟨j, v, v', rfl, rfl, h3, e, h4, h5⟩
      · exact .inl h2
      · exact .inr ⟨j + 1, v, v', by rw [show i + 1 + j = i + (j + 1) by omega], by rw [show i + 1 + j = i + (j + 1) by omega], h3, e, by simpa using h4, h5⟩
    · cases hr
theorem keyOk_flat {kd : TypeDesc} {k : Value} (h : keyOk kd k = true) : VE.flat k = true := by
  unfold keyOk at h
  split at h <;> first | rfl | cases h
theorem bytes_beq {a b : ByteArray} (h : (a == b) = true) : a = b := by
  cases a; cases b
  have h2 : (_ : Array UInt8) == _ := h
  congr 1
  exact eq_of_beq h2
theorem bytes_refl (a : ByteArray) : (a == a) = true := by
  cases a with
  | mk d => exact (beq_self_eq_true d : (d == d) = true)
theorem same_key {kd : TypeDesc} {k u : Value} (hk : keyOk kd k = true) (h : Instr.sameNow kd k u = some true) : u = k := by
  unfold Instr.sameNow at h
  split at h
  · rename_i j a j' b
    split at h
    · rename_i hj; subst hj
      simp at h; rw [h]
    · cases h
  · simp only [Option.some.injEq] at h; rw [bytes_beq h]
  · simp at h; rw [h]
  · cases h
theorem run_checkKey {P : Program} {kt : TypeId} {kd : TypeDesc} {k : Value} {w : World} (hu : P.underlying kt = some kd) (hk : keyOk kd k = true) (b : Bool) : (Instr.checkKey b 10000 kt k).run P w = .ok () w := by
  have e : ∀ n, (Instr.checkKey b (n + 1) kt k).run P w = .ok () w := fun n => by
    unfold keyOk at hk
    split at hk <;> first | cases hk; done | simp [Instr.checkKey, run_underlying hu]
  exact e 9999
theorem run_findKey {P : Program} {kt : TypeId} {kd : TypeDesc} {k : Value} {w : World} {es : List MapEntry} {r : Option (Nat × Value)} (hu : P.underlying kt = some kd) (h : Instr.findNow kd k es 0 = some r) : (Instr.findKey kt k es).run P w = .ok r w := by
  simp [Instr.findKey, run_underlying hu, h]
theorem run_keyStays {P : Program} {kd : TypeDesc} {k : Value} {w : World} (hk : keyOk kd k = true) : (Instr.keyThatStays k k).run P w = .ok k w := by
  have e : Instr.sameBits 10000 k k = true := by
    generalize 10000 = n
    unfold keyOk at hk
    split at hk <;> first | cases hk; done | simp [Instr.sameBits, bytes_refl]
  simp [Instr.keyThatStays, e]
theorem run_getMap {P : Program} {w : World} {b : Nat} {es : Array MapEntry} {c : Nat} (h : w.heap[b]? = some (.map es c)) : (getObj b).run P w = .ok (.map es c) w := by simp [getObj, Sem.run, h]
theorem run_setMap {P : Program} {w : World} {b : Nat} {es : Array MapEntry} {c : Nat} (h : w.heap[b]? = some (.map es c)) (o : Obj) : (setObj b o).run P w = .ok () (setO w b o) := by simp [setObj, Sem.run, setO, h]
theorem mapPut_sound [Memo] {C : Cx} {ρ : Rho} {s s' : St} {w : World} (h : Rel C ρ s w) {ty : TypeId} {m k v m' k' v' : Value} (hm : VR ρ m m') (hk : VR ρ k k') (hv : VR ρ v v') (e : amapPut C.P C.ro s ty m k v = some s') :
    ∃ w', (Instr.mapUpdate ty m' k' v').run C.P w = .ok () w' ∧ Rel C ρ s' w' := by
  unfold amapPut at e
  split at e
  case h_2 => cases e
  case h_1 kd kt et A hty =>
    obtain ⟨hd, hkd⟩ := mapTypes_some hty
    unfold amapPut1 at e
    split at e
    case h_2 => cases e
    case h_1 es clock hs =>
      obtain ⟨hb, e⟩ := bif_some e
      simp only [Bool.and_eq_true] at hb
      obtain ⟨hro, hko⟩ := hb
      have hro := Nat.le_of_ble_eq_true hro
      obtain ⟨b, x, hA, rfl⟩ := hm.map_inv
      obtain rfl := hk.flat_eq (keyOk_flat hko)
      obtain ⟨es', hblk, hmr⟩ := h.obj A b x _ hA hs
      have hlt := h.lt A b x hA
      unfold amapPut2 at e
      split at e
      case h_3 => cases e
      case h_1 i v0 hf =>
        cases e
        obtain ⟨r', hf', hr⟩ := hmr.find 0 hf
        rcases hr with ⟨hr, _⟩ | ⟨j, u, u', hr, rfl, hu, en, hen, hsk⟩
        · cases hr
        · simp only [Nat.zero_add, Option.some.injEq, Prod.mk.injEq] at hr
          obtain ⟨rfl, rfl⟩ := hr
          simp only [Nat.zero_add] at hf'
          obtain ⟨en', hen', her⟩ := hmr.get hen
          have hkey : en'.key = k' := by rw [her.key]; exact same_key hko hsk
          have hen2 : es'[i]? = some en' := by rw [← Array.getElem?_toList]; exact hen'
          refine ⟨setO w b (.map (es'.modify i fun e => { e with key := k', val := v' }) clock), ?_, h.putObj hA hro hs (by simp) ⟨_, setO_same _ hlt, ?_⟩⟩
          · simp [Instr.mapUpdate, run_underlying hd, run_getMap hblk, run_checkKey hkd hko, run_findKey hkd hf', hen2, hkey, run_keyStays hko, run_setMap hblk]
          · rw [Array.toList_modify]
            exact hmr.setEnt (keyOk_flat hko) hv
      case h_2 hf =>
        cases e
        obtain ⟨r', hf', hr⟩ := hmr.find 0 hf
        rcases hr with ⟨_, rfl⟩ | ⟨j, u, u', hr, _⟩
        · refine ⟨setO w b (.map (es'.push { key := k', val := v', born := clock }) (clock + 1)), ?_, h.putObj hA hro hs (by simp) ⟨_, setO_same _ hlt, ?_⟩⟩
          · simp [Instr.mapUpdate, run_underlying hd, run_getMap hblk, run_checkKey hkd hko, run_findKey hkd hf', run_setMap hblk]
          · rw [Array.toList_push]
            exact hmr.append ⟨rfl, keyOk_flat hko, hv, rfl⟩
        · cases hr
theorem lookup_sound [Memo] {C : Cx} {ρ : Rho} {s : St} {w : World} (h : Rel C ρ s w) {ty : TypeId} {m k m' k' u : Value} {ok : Bool} (hm : VR ρ m m') (hk : VR ρ k k') (e : alookup C.P s ty m k ok = some u) :
    ∃ u', (Instr.lookup ty m' k' ok).run C.P w = .ok u' w ∧ VR ρ u u' := by
  unfold alookup at e
  split at e
  case h_2 => cases e
  case h_1 kd kt et hty =>
    obtain ⟨hd, hkd⟩ := mapTypes_some hty
    obtain ⟨i, hi, e1⟩ := bind_some e
    obtain ⟨z, hz, e2⟩ := bind_some e1
    obtain ⟨es, hes, e3⟩ := bind_some e2
    obtain ⟨hb, e4⟩ := bif_some e3
    simp only [Bool.and_eq_true] at hb
    obtain ⟨hzf, hko⟩ := hb
    obtain ⟨r, hf, rfl⟩ := Option.map_eq_some_iff.1 e4
    clear e1 e2 e3 e4
    obtain rfl := hk.flat_eq (keyOk_flat hko)
    clear e
    have key : ∃ es' : Array MapEntry, MR ρ es es'.toList ∧ (Instr.lookup ty m' k' ok).run C.P w = (do
        Instr.checkKey es'.isEmpty 10000 kt k'
        let (v, b) ← match ← Instr.findKey kt k' es'.toList with
          | some (_, v) => pure (v, true)
          | none => pure (← zeroValue et, false)
        pure (if ok then Value.tuple #[v, .bool b] else v) : Sem Value).run C.P w := by
      unfold ament at hes
      split at hes
      case h_1 =>
        cases hes
        obtain rfl := hm.flat_eq rfl
        refine ⟨#[], .nil, ?_⟩
        simp [Instr.lookup, run_underlying hd]
        rfl
      case h_2 A =>
        split at hes
        case h_2 => cases hes
        case h_1 es0 clock hs =>
          cases hes
          obtain ⟨b, x, hA, rfl⟩ := hm.map_inv
          obtain ⟨es', hblk, hmr⟩ := h.obj A b x _ hA hs
          refine ⟨es', hmr, ?_⟩
          simp [Instr.lookup, run_underlying hd, run_getMap hblk]
          rfl
      case h_3 => cases hes
    obtain ⟨es', hmr, hrun⟩ := key
    obtain ⟨r', hf', hr⟩ := hmr.find 0 hf
    rw [hrun]
    rcases hr with ⟨rfl, rfl⟩ | ⟨j, v, v', rfl, rfl, hv, _⟩
    · refine ⟨if ok then .tuple #[z, .bool false] else z, ?_, ?_⟩
      · simp [run_checkKey hkd hko, run_findKey hkd hf', zeroValue, typeInfo, hi, hz]
      · cases ok
        · exact .flat _ hzf
        · exact .flat _ (by simp only [found, cond_true, flat_tuple, flatL, Bool.and_eq_true]; exact ⟨hzf, rfl, trivial⟩)
    · refine ⟨if ok then .tuple #[v', .bool true] else v', ?_, ?_⟩
      · simp [run_checkKey hkd hko, run_findKey hkd hf']
      · cases ok
        · exact hv
        · exact VR.tupleL (LR.cons hv (LR.cons (.flat _ rfl) LR.nil))
theorem makeMap_sound [Memo] {C : Cx} {ρ : Rho} {s s' : St} {w : World} (h : Rel C ρ s w) (hg : Glob C s) {ty : TypeId} {rs : Option Operand} {r : AR} (e : amakeMap C.P s ty rs = some (r, s')) :
    rs = none ∧ ∃ (v' : Value) (ρ' : Rho) (w' : World), (Instr.makeMap ty none).run C.P w = .ok v' w' ∧ Ext s.n ρ ρ' ∧ Rel C ρ' s' w' ∧ ∃ v, r = .val v ∧ VR ρ' v v' := by
  unfold amakeMap at e
  split at e
  case h_2 => cases e
  case h_1 =>
    cases e
    refine ⟨rfl, .map (some w.heap.size), upd ρ s.n (w.heap.size, 0, 0), w.alloc (.map #[] 0), by simp [Instr.makeMap], ext_new _ _ _, h.new _ _ 0 ⟨#[], heap_alloc_self _ _, .nil⟩ hg, _, rfl, .map (upd_same _ _ _)⟩
theorem rangeMap_sound [Memo] {C : Cx} {ρ : Rho} {s s' : St} {w : World} (h : Rel C ρ s w) (hg : Glob C s) {ty : TypeId} {m m' : Value} {r : AR} (hm : VR ρ m m') (e : arangeMap C.P s ty m = some (r, s')) :
    ∃ (v' : Value) (ρ' : Rho) (w' : World), (Instr.range ty m').run C.P w = .ok v' w' ∧ Ext s.n ρ ρ' ∧ Rel C ρ' s' w' ∧ ∃ v, r = .val v ∧ VR ρ' v v' := by
  unfold arangeMap at e
  split at e
  case h_2 => cases e
  case h_1 x A hty =>
    obtain ⟨kd, kt, et⟩ := x
    obtain ⟨hd, hkd⟩ := mapTypes_some hty
    split at e
    case h_2 => cases e
    case h_1 es clock hs =>
      cases e
      obtain ⟨b, x, hA, rfl⟩ := hm.map_inv
      obtain ⟨es', hblk, hmr⟩ := h.obj A b x _ hA hs
      refine ⟨.pointer (some ⟨w.heap.size, 0, none⟩), upd ρ s.n (w.heap.size, 0, 0), w.alloc (.mapIter (some b) clock #[] clock), ?_, ext_new _ _ _, h.new _ _ 0 ⟨b, x, h.sub_new _ _ _ hA, heap_alloc_self _ _⟩ hg, _, rfl, .ptr 0 (upd_same _ _ _)⟩
      simp [Instr.range, run_underlying hd, run_getMap hblk]
theorem MR.findBorn {ρ : Rho} {st : Nat} {l l' : List MapEntry} (h : MR ρ l l') : ∀ {e : MapEntry}, l.find? (fun e => e.born == st) = some e → ∃ e', l'.find? (fun e => e.born == st) = some e' ∧ ER ρ e e' := by
  induction h with
  | nil => intro e h; simp at h
  | cons h _ ih =>
    intro e he
    simp only [List.find?_cons] at he ⊢
    rw [h.born]
    split at he
    · cases he; exact ⟨_, rfl, h⟩
    · exact ih he
theorem entry_sound [Memo] {C : Cx} {ρ : Rho} {s : St} {w : World} (h : Rel C ρ s w) {it it' u : Value} (hi : VR ρ it it') (e : aentry C.ro s it = some u) :
    ∃ u', (Instr.entry it').run C.P w = .ok u' w ∧ VR ρ u u' := by
  unfold aentry at e
  split at e
  case h_2 => cases e
  case h_1 I =>
    obtain ⟨hro, e⟩ := bif_some e
    have hro := Nat.le_of_ble_eq_true hro
    unfold aentry1 at e
    split at e
    case h_2 => cases e
    case h_1 m since seen last hs =>
      obtain ⟨st, hst, e⟩ := bind_some e
      unfold aentry2 at e
      split at e
      case h_2 => cases e
      case h_1 es clock hsm =>
        obtain ⟨hcl, e2⟩ := bif_some e
        obtain ⟨en, hen, rfl⟩ := Option.map_eq_some_iff.1 e2
        have hcl := Nat.eq_of_beq_eq_true hcl
        subst hcl
        obtain ⟨b, x, hI, rfl⟩ := hi.ptr_inv
        obtain ⟨m', y, hm, hblk⟩ := h.obj I b x _ hI hs
        obtain ⟨es', hblk2, hmr⟩ := h.obj m m' y _ hm hsm
        obtain ⟨en', hen', her⟩ := hmr.findBorn hen
        have hx0 := h.sh I b x hro hI
        refine ⟨.tuple #[en'.key, en'.val], ?_, ?_⟩
        · have hback : seen.toArray.back? = some st := by simpa using hst
          have hfind : es'.find? (fun e => e.born == st) = some en' := by rw [← Array.find?_toList]; exact hen'
          have hg1 : (getObj b).run C.P w = .ok (.mapIter (some m') since seen.toArray clock) w := by simp [getObj, Sem.run, hblk]
          simp [Instr.entry, hx0, hg1, hback, run_getMap hblk2, hfind]
        · exact VR.tupleL (LR.cons (by rw [her.key]; exact .flat _ her.kf) (LR.cons her.val LR.nil))
theorem isU8_some {P : Program} {t : TypeId} (h : isU8 P t = true) : P.underlying t = some (.int .u8) := by
  unfold isU8 at h
  split at h
  · assumption
  · cases h
theorem u8s_some : ∀ {l : List Value} {ns : List Int}, u8s l = some ns → l = ns.map (Value.int .u8)
  | [], ns, h => by cases h; rfl
  | v :: r, ns, h => by
    unfold u8s at h
    split at h
    · rename_i hq; cases hq
    · rename_i n r' hq
      cases hq
      obtain ⟨ms, h1, rfl⟩ := Option.map_eq_some_iff.1 h
      rw [u8s_some h1]; rfl
    · cases h
theorem str_sound [Memo] {C : Cx} {ρ : Rho} {s : St} {w : World} (h : Rel C ρ s w) {src dst e : TypeId} {ad : Addr} {n c : Nat} {x' v : Value} (hx : VR ρ (.slice (some ad) n c) x') (hs : C.P.underlying src = some (.slice e)) (he : C.P.underlying e = some (.int .u8)) (hd : C.P.underlying dst = some .string)
    (hv : astr s n (.slice (some ad) n c) = some v) : ∃ v', (convert src dst x').run C.P w = .ok v' w ∧ VR ρ v v' := by
  unfold astr at hv
  obtain ⟨cs, hcs, hv⟩ := bind_some hv
  obtain ⟨ns, hns, rfl⟩ := Option.map_eq_some_iff.1 hv
  obtain ⟨cs', hf, hl⟩ := first_sound h hx hcs
  obtain rfl := u8s_some hns
  obtain ⟨a', c', rfl⟩ := hx.slice_some
  have hflat : flatL (ns.map (Value.int .u8)) = true := flatL_of fun i v hi => by
    simp only [List.getElem?_map, Option.map_eq_some_iff] at hi
    obtain ⟨b, _, rfl⟩ := hi
    rfl
  have hcs' := hl.flat_eq hflat
  have hload : (loadCells a' n).run C.P w = .ok (ns.map (Value.int .u8)).toArray w := by
    rw [← hcs']
    cases n with
    | zero =>
      simp only [Builtin.firstCells, Nat.zero_mul] at hf
      simpa [loadCells, loadCellsFrom] using hf
    | succ k =>
      simp only [Builtin.firstCells, Nat.mul_one] at hf
      simpa using hf
  refine ⟨_, ?_, .flat _ rfl⟩
  rw [run_convert_bytes_string w src dst e (some a') n c' hs he hd, run_bytesToString w a' n c' ns hload]
  rfl
theorem newBytes_sound [Memo] {C : Cx} {ρ : Rho} {s s' : St} {w : World} (h : Rel C ρ s w) (hg : Glob C s) {src dst e : TypeId} {b : ByteArray} {r : AR} (hs : C.P.underlying src = some .string) (hd : C.P.underlying dst = some (.slice e)) (e1 : newBytes C.P s e b = some (r, s')) :
    ∃ (v' : Value) (ρ' : Rho) (w' : World), (convert src dst (.string b)).run C.P w = .ok v' w' ∧ Ext s.n ρ ρ' ∧ Rel C ρ' s' w' ∧ ∃ v, r = .val v ∧ VR ρ' v v' := by
  unfold newBytes at e1
  split at e1
  case h_2 => cases e1
  case h_1 hu hz =>
    cases e1
    obtain ⟨i, hi, hsz⟩ := isz_info hz
    have hlen : (bytesOf b).length = b.size := by simp [bytesOf]
    have hcap : b.size ≤ grownCap w b.size 0 e := by simp [grownCap, Question.cut]
    have hrow : (bytesRow b (grownCap w b.size 0 e)).size = grownCap w b.size 0 e := by
      have : b.data.size = b.size := rfl
      simp [bytesRow]; omega
    have hrun := run_bytes_of_string (P := C.P) w src dst e b hs hd (isU8_some hu)
    rw [hrow] at hrun
    refine ⟨_, upd ρ s.n (w.drew.heap.size, grownCap w b.size 0 e - b.size, 0), _, hrun, ext_new _ _ _, ?_, _, rfl, ?_⟩
    · have hL : LR ρ (bytesOf b) (bytesOf b) := LR.of_flat (flatL_of fun i v hi => by
        simp only [bytesOf, List.getElem?_map, Option.map_eq_some_iff] at hi
        obtain ⟨b, _, rfl⟩ := hi
        rfl)
      refine h.drew.new _ _ _ (OR.open (c' := bytesRow b (grownCap w b.size 0 e)) (heap_alloc_self _ _) ?_ ?_ fun i hi hh => ?_) hg
      · rw [hrow, hlen, cellsOf_info hi, hsz]; omega
      · rw [hlen]
        have : (bytesRow b (grownCap w b.size 0 e)).toList.take b.size = bytesOf b := by
          have : b.data.toList.length = b.size := rfl
          simp only [bytesRow, Array.toList_append, Array.toList_map]
          rw [List.take_append_of_le_length (by simp), List.take_of_length_le (by simp)]
          rfl
        rw [this]
        exact hL.mono (h.drew.sub_new _)
      · rw [hrow] at hi
        simp only at hh
        omega
    · have := VR.slo (ρ := upd ρ s.n (w.drew.heap.size, grownCap w b.size 0 e - b.size, 0)) 0 b.size b.size (upd_same _ _ _)
      simp only [Nat.add_zero] at this
      rw [show b.size + (grownCap w b.size 0 e - b.size) = grownCap w b.size 0 e by omega] at this
      exact this
theorem clear_sound [Memo] {C : Cx} {ρ : Rho} {s s' : St} {w : World} (h : Rel C ρ s w) {tys : Array TypeId} {args : List Value} {args' : Array Value} {v : Value} (ha : LR ρ args args'.toList) (e : aclear C.P C.ro s tys args = some (v, s')) (ty : TypeId) :
    ∃ (v' : Value) (w' : World), (Builtin.clear_ tys ty args').run C.P w = .ok v' w' ∧ Rel C ρ s' w' ∧ VR ρ v v' := by
  unfold aclear at e
  split at e
  case h_2 => cases e
  case h_1 ty0 x htys =>
    obtain ⟨elem, hse, e⟩ := bind_some e
    have hd := sliceElem_some hse
    obtain ⟨b', r, har, hb', ha⟩ := ha.cons_inv
    obtain rfl := ha.nil_inv
    have har : args' = #[b'] := by apply Array.ext'; exact har
    subst har
    have hty : tys[0]? = some ty0 := by rw [← Array.getElem?_toList, htys]; rfl
    unfold aclearIn at e
    split at e
    case h_4 => cases e
    case h_1 l c =>
      cases e
      obtain rfl := hb'.flat_eq rfl
      refine ⟨.tuple #[], w, ?_, h, .flat _ rfl⟩
      simp [Builtin.clear_, hty, run_underlying hd]
    case h_2 a c =>
      cases e
      obtain ⟨a', c', rfl⟩ := hb'.slice_some
      refine ⟨.tuple #[], w, ?_, h, .flat _ rfl⟩
      simp [Builtin.clear_, hty, run_underlying hd]
    case h_3 A o mk n cp e0 =>
      split at e
      case h_2 => cases e
      case h_1 i hi =>
        split at e
        case h_2 => cases e
        case h_1 z hz =>
          obtain ⟨hf, e⟩ := bif_some e
          obtain ⟨s1, hs1, e⟩ := Option.map_eq_some_iff.1 e
          cases e
          obtain ⟨b, y, o', c', hA, rfl, hh⟩ := hb'.slice_addr
          have hzf : flatL (zeroList z.cells ((n + 1) * z.cells.size)) = true := zeroList_flat (flat_cells hf) (by rcases Nat.eq_zero_or_pos z.cells.size with h0 | h0; (left; rw [h0]; simp); (right; simpa using h0))
          have hcl : LR ρ (zeroList z.cells ((n + 1) * z.cells.size)) (Builtin.zeroCells z.cells (n + 1)).toList := by
            unfold Builtin.zeroCells
            rw [zeroList_eq]
            exact LR.of_flat hzf
          have key : ∃ w', (storeCells (⟨b, o', none⟩ : Addr) (Builtin.zeroCells z.cells (n + 1)).toList).run C.P w = .ok () w' ∧ Rel C ρ s' w' := by
            rcases hh with ⟨rfl, rfl, rfl⟩ | ⟨rfl, rfl, rfl⟩ | ⟨_, h0, _⟩
            · exact write_sound h hA hcl hs1
            · exact write_sound h hA hcl hs1
            · cases h0
          obtain ⟨w', hw', hr⟩ := key
          refine ⟨.tuple #[], w', ?_, hr, .flat _ rfl⟩
          simp [Builtin.clear_, hty, run_underlying hd, zeroValue, typeInfo, hi, hz, hw']
def Callable (P : Program) (k : FuncId) : Prop := ∃ fn, P.funcs[k]? = some fn ∧ fn.body.isSome = true ∧ (fn.name == "runtime.NumGoroutine") = false
theorem run_callFunc {P : Program} {k : FuncId} (h : Callable P k) (args : Array Value) (w : World) : (callFunc k args).run P w = .ok (.enter k args) w := by
  obtain ⟨fn, h1, h2, h3⟩ := h
  have h4 : fn.body ≠ none := by intro hb; rw [hb] at h2; cases h2
  have h5 : fn.name ≠ "runtime.NumGoroutine" := by simpa using h3
  simp [callFunc, h1, h5, h4]
theorem avals_sound [Memo] {C : Cx} {ρ : Rho} {t : Tr} {a : Act} (ht : OpR C ρ t a) : ∀ (l : List Operand), l.all (okX C.P) = true → LR ρ (avals t l) (l.map a.eval)
  | [], _ => LR.nil
  | x :: l, h => by
    simp only [List.all_cons, Bool.and_eq_true] at h
    exact LR.cons (ht x h.1) (avals_sound ht l h.2)
theorem partVals_sound [Memo] {C : Cx} {ρ : Rho} {t : Tr} {a : Act} (ht : OpR C ρ t a) : ∀ (l : List (Nat × Operand)), l.all (fun p => okX C.P p.2) = true → PR ρ (partVals t l) (l.map fun p => (p.1, a.eval p.2))
  | [], _ => .nil
  | (i, x) :: l, h => by
    simp only [List.all_cons, Bool.and_eq_true] at h
    exact .cons i (ht x h.1) (partVals_sound ht l h.2)
theorem VR.func_real {ρ : Rho} {k : FuncId} {as cs : Array Value} {v' : Value} (h : VR ρ (.func (.func k) as cs) v') : ∃ as' cs' : Array Value, v' = .func (.func k) as' cs' ∧ LR ρ as.toList as'.toList ∧ LR ρ cs.toList cs'.toList := by
  cases h with
  | flat _ h =>
    refine ⟨as, cs, rfl, ?_⟩
    cases as; cases cs
    simp only [VE.flat, flatA_mk, Bool.and_eq_true] at h
    exact ⟨LR.of_flat h.1.2, LR.of_flat h.2⟩
  | func fn hf as as' cs cs' ha h hc k => exact ⟨⟨as'⟩, ⟨cs'⟩, rfl, ⟨ha, h⟩, ⟨hc, k⟩⟩
theorem VR.yield_inv {ρ : Rho} {l : Nat} {v' : Value} (h : VR ρ (.func (.yield l) ⟨[]⟩ ⟨[]⟩) v') : ∃ b x, ρ l = some (b, x) ∧ v' = .func (.yield b) #[] #[] := by
  cases h with
  | flat _ h => simp [VE.flat, fnOk] at h
  | func fn hf => simp [fnOk] at hf
  | yield h => exact ⟨_, _, h, rfl⟩
theorem callee_sound [Memo] {C : Cx} {ρ : Rho} {s s' : St} {w : World} (h : Rel C ρ s w) {f f' : Value} {args : List Value} {args' : Array Value} {r : AR} (hf : VR ρ f f') (ha : LR ρ args args'.toList) (e : acallee f args s = some (r, s'))
    (hk : ∀ k as, r = .enter k as → Callable C.P k) : Does C s.n ρ w (do let d ← Deferred.ofValue f' args'; invoke d.target d.args) r s' := by
  unfold acallee at e
  split at e
  case h_1 k first cap =>
    cases e
    obtain ⟨as', cs', rfl, h1, h2⟩ := hf.func_real
    refine ⟨.enter k (as' ++ args' ++ cs'), ρ, w, ?_, Ext.refl _ _, h, rfl, ?_⟩
    · simp only [Deferred.ofValue, Sem.run_bind, Sem.run_pure, Result.andThen_ok, invoke]
      exact run_callFunc (hk _ _ rfl) _ w
    · simp only [Array.toList_append, List.append_assoc]
      exact h1.append (ha.append h2)
  case h_2 l =>
    unfold ayield at e
    cases hs : s.at l with
    | none => rw [hs] at e; cases e
    | some o =>
      rw [hs] at e
      cases o with
      | cells _ _ _ => cases e
      | dead => cases e
      | defd _ => cases e
      | map _ _ => cases e
      | iter _ _ _ _ => cases e
      | loop r0 =>
        simp only at e
        cases hb : Nat.beq args.length r0.params.length with
        | false => rw [hb] at e; cases e
        | true =>
          rw [hb] at e; cases e
          have hlen := Nat.eq_of_beq_eq_true hb
          obtain ⟨b, x, hl, rfl⟩ := hf.yield_inv
          obtain ⟨r', hblk, hr, hok⟩ := h.obj l b x _ hl hs
          have hps : r'.params.size = r0.params.length := by rw [← hr.params]; simp
          have hal := ha.len; simp only [Array.length_toList] at hal
          refine ⟨.round b r'.fn ((r'.params.zip args').foldl (fun tmps (p : Tmp × Value) => tmps.setIfInBounds p.1 p.2) r'.tmps) r'.assign r'.body, ρ, w, ?_, Ext.refl _ _, h, ⟨x, hl⟩, ?_, ⟨hr.assign, hr.body⟩, hok⟩
          · have hg : (Instr.getLoop b).run C.P w = .ok r' w := by
              simp only [Instr.getLoop, getObj, Sem.run_bind, Sem.run, hblk, Result.andThen_ok]
              rfl
            simp only [Deferred.ofValue, Sem.run_bind, Sem.run_pure, Result.andThen_ok, invoke, Instr.yield, hg, Array.empty_append]
            rw [if_neg (by rw [hps, ← hlen, hal]; simp)]
            simp
          · have := TR.setAll r0.params args args'.toList hr.tmps ha
            rw [← Array.foldl_toList, Array.toList_zip, hr.params]
            exact this
  case h_3 => cases e
theorem resSt_some {s s' : St} {x : Option AR} {r : AR} (h : resSt s x = some (r, s')) : x = some r ∧ s' = s := by
  cases x with
  | none => cases h
  | some v => cases h; exact ⟨rfl, rfl⟩
theorem Does.value [Memo] {C : Cx} {n0 : Nat} {ρ : Rho} {w : World} {m : Sem Value} {r : AR} {s' : St} (h : ∃ (v' : Value) (ρ' : Rho) (w' : World), m.run C.P w = .ok v' w' ∧ Ext n0 ρ ρ' ∧ Rel C ρ' s' w' ∧ ∃ v, r = .val v ∧ VR ρ' v v') :
    Does C n0 ρ w (do pure (.value (← m))) r s' := by
  obtain ⟨v', ρ', w', h1, h2, h3, v, rfl, h4⟩ := h
  exact ⟨.value v', ρ', w', by simp [h1], h2, h3, h4⟩
theorem optR [Memo] {C : Cx} {ρ : Rho} {t : Tr} {a : Act} (ht : OpR C ρ t a) {x : Option Operand} (hx : x.all (okX C.P) = true) : OptR ρ (x.map (aval t)) (x.map a.eval) := by
  cases x with
  | none => exact .inl ⟨rfl, rfl⟩
  | some x => exact .inr ⟨_, _, rfl, rfl, ht x (by simpa using hx)⟩
theorem flatO_eq [Memo] {C : Cx} {ρ : Rho} {t : Tr} {a : Act} (ht : OpR C ρ t a) {x : Option Operand} (hx : x.all (okX C.P) = true) (hf : flatO t x = true) : x.map a.eval = x.map (aval t) := by
  cases x with
  | none => rfl
  | some x =>
    simp only [flatO, Option.all_some] at hf hx
    simp [(ht x hx).flat_eq (flat'_flat hf)]
theorem map_eval [Memo] {C : Cx} {ρ : Rho} {t : Tr} {a : Act} (ht : OpR C ρ t a) {l : Array Operand} (hl : l.toList.all (okX C.P) = true) (hf : flatL (avals t l.toList) = true) : l.map a.eval = l.map (aval t) := by
  have e1 := (avals_sound ht l.toList hl).flat_eq hf
  have e2 : ∀ m : List Operand, avals t m = m.map (aval t) := by
    intro m; induction m with
    | nil => rfl
    | cons x m ih => simp [avals, ih]
  apply Array.ext'
  rw [Array.toList_map, Array.toList_map, e1, e2]
theorem aop_sound [Memo] {C : Cx} {ρ : Rho} {s s' : St} {w : World} {t : Tr} {a : Act} {o : Oper} {r : AR} (h : Rel C ρ s w) (hg : Glob C s) (ht : OpR C ρ t a) (ho : okOp C.P o.op = true) (e : aop C.P C.ro t o s = some (r, s'))
    (hk : ∀ k as, r = .enter k as → Callable C.P k) : Does C s.n ρ w (execOp a.eval o) r s' := by
  unfold aop at e
  cases hop : o.op <;> rw [hop] at e ho <;> simp only at e <;> simp only [okOp] at ho
  case move x =>
    cases e
    exact Does.same h (by simp [execOp, hop]) (ht x ho)
  case assign x =>
    cases e
    exact Does.same h (by simp [execOp, hop]) (ht x ho)
  case pick c x y =>
    simp only [Bool.and_eq_true] at ho
    unfold apick at e
    split at e
    · rename_i hc
      cases e
      have := ht c ho.1; rw [hc] at this
      exact Does.same h (by simp [execOp, hop, this.bool_inv, asBool]) (ht x ho.2.1)
    · rename_i hc
      cases e
      have := ht c ho.1; rw [hc] at this
      exact Does.same h (by simp [execOp, hop, this.bool_inv, asBool]) (ht y ho.2.2)
    · cases e
  case alloc ty =>
    have := Does.value (alloc_sound h hg e)
    simpa [Does, execOp, hop] using this
  case box ty x =>
    cases e
    obtain ⟨u', ρ', w', h1, h2, h3, h4⟩ := box_sound (t := ty) h hg (ht x ho)
    have := Does.value (C := C) (r := .val (.pointer (some ⟨s.n, 0, none⟩))) ⟨u', ρ', w', h1, h2, h3, _, rfl, h4⟩
    simpa [Does, execOp, hop] using this
  case build ty ps =>
    obtain ⟨v, hv, rfl, rfl⟩ := withSt_some e
    obtain ⟨v', h1, h2⟩ := build_sound (parts' := ps.map fun p => (p.1, a.eval p.2)) (by rw [Array.toList_map]; exact partVals_sound ht _ ho) hv w
    exact Does.same h (v' := v') (by simp [execOp, hop, h1]) h2
  case buildSlice ty len ps =>
    obtain ⟨v, hv, rfl⟩ := valSt_some e
    obtain ⟨v', ρ', w', h1, h2, h3, h4⟩ := buildSlice_sound (parts' := ps.map fun p => (p.1, a.eval p.2)) h hg (by rw [Array.toList_map]; exact partVals_sound ht _ ho) hv
    exact ⟨.value v', ρ', w', by simp [execOp, hop, h1], h2, h3, h4⟩
  case load ty x =>
    obtain ⟨v, hv, rfl, rfl⟩ := withSt_some e
    obtain ⟨v', h1, h2⟩ := load_sound h (ht x ho) hv
    exact Does.same h (v' := v') (by simp [execOp, hop, h1]) h2
  case store ty x y =>
    simp only [Bool.and_eq_true] at ho
    unfold skipSt at e
    split at e
    case h_2 => cases e
    case h_1 s1 hs1 =>
      cases e
      obtain ⟨w', h1, h2⟩ := store_sound h (ht x ho.1) (ht y ho.2) hs1
      exact ⟨.skip, ρ, w', by simp [execOp, hop, h1], Ext.refl _ _, h2, trivial⟩
  case nilCheck x =>
    have hx := ht x ho
    unfold anilCheck at e
    split at e
    · rename_i ad hq
      cases e
      rw [hq] at hx
      obtain ⟨a', hq'⟩ := hx.pointer_some
      exact Does.same h (v' := a.eval x) (by simp [execOp, hop, hq']) hx
    · rename_i f as cs hq
      cases e
      rw [hq] at hx
      obtain ⟨as', cs', hq', _, _⟩ := hx.func_real
      exact Does.same h (v' := a.eval x) (by simp [execOp, hop, hq']) hx
    · cases e
  case binOp op ty x y ty2 =>
    simp only [Bool.and_eq_true] at ho
    have hx := ht x ho.1
    have hy := ht y ho.2
    unfold abin at e
    split at e
    · rename_i k i k' j hqx hqy
      obtain ⟨v, hv, rfl, rfl⟩ := withSt_some e
      rw [hqx] at hx; rw [hqy] at hy
      obtain ⟨h1, h2⟩ := binInt_sound (ty := ty) (x := x) (y := y) hv w
      refine Does.same h (v' := v) ?_ (.flat _ h2)
      have e1 := hx.int_inv
      have e2 := hy.int_inv
      simp only [execOp, hop, e1, e2, Sem.run_bind] at h1 ⊢
      rw [h1]; rfl
    · cases hf : (flat' (aval t x) && flat' (aval t y)) with
      | true =>
        rw [hf] at e
        simp only [Bool.and_eq_true] at hf
        exact pure_sound h (by simp [execOp, hop, hx.flat_eq (flat'_flat hf.1), hy.flat_eq (flat'_flat hf.2)]) e
      | false =>
        rw [hf] at e
        obtain ⟨v, hv, rfl, rfl⟩ := withSt_some e
        obtain ⟨h1, h2⟩ := eqNil_sound (w := w) (x := x) (y := y) hx hy hv
        refine Does.same h (v' := v) ?_ (.flat _ h2)
        simp only [execOp, hop, Sem.run_bind] at h1 ⊢
        rw [h1]; rfl
  case unOp op ty x =>
    have hx := ht x ho
    unfold anot at e
    split at e
    · rename_i b hq
      cases e
      rw [hq] at hx
      exact Does.same h (by simp [execOp, hop, hx.bool_inv, Op.unary]) (.flat _ rfl)
    · obtain ⟨hf, e⟩ := bif_some e
      exact pure_sound h (by simp [execOp, hop, hx.flat_eq (flat'_flat hf)]) e
  case convert src dst x =>
    have plain : aun C.P t o s (aval t x) = some (r, s') → Does C s.n ρ w (execOp a.eval o) r s' := fun e => by
      obtain ⟨hf, e⟩ := bif_some e
      exact pure_sound h (by simp [execOp, hop, (ht x ho).flat_eq (flat'_flat hf)]) e
    unfold aconv at e
    split at e
    case h_1 ad n c hq =>
      split at e
      case h_2 => cases e
      case h_1 el hs hd =>
        obtain ⟨hu, e⟩ := bif_some e
        obtain ⟨v, hv, rfl, rfl⟩ := withSt_some e
        have hx := ht x ho
        rw [hq] at hx
        obtain ⟨v', h1, h2⟩ := str_sound h hx hs (isU8_some hu) hd hv
        exact Does.same h (v' := v') (by simp [execOp, hop, h1]) h2
    case h_2 b hq =>
      split at e
      case h_2 => rw [← hq] at e; exact plain e
      case h_1 el hs hd =>
        have hx := ht x ho
        rw [hq] at hx
        obtain rfl' := hx.string_inv
        obtain ⟨v', ρ', w', h1, h2, h3, v, rfl, h4⟩ := newBytes_sound h hg hs hd e
        exact ⟨.value v', ρ', w', by simp [execOp, hop, rfl', h1], h2, h3, h4⟩
    case h_3 => exact plain e
  case makeFunc fn as cs =>
    simp only [Bool.and_eq_true] at ho
    unfold amk at e
    obtain ⟨hf, e⟩ := bif_some e
    cases e
    have h1 := avals_sound ht as.toList ho.1
    have h2 := avals_sound ht cs.toList ho.2
    refine Does.same h (v' := .func fn (as.map a.eval) (cs.map a.eval)) (by simp [execOp, hop, Instr.makeFunc]) ?_
    have := VR.func fn hf _ _ _ _ h1.len h1.get h2.len h2.get
    have e1 : as.map a.eval = ⟨as.toList.map a.eval⟩ := by apply Array.ext'; simp
    have e2 : cs.map a.eval = ⟨cs.toList.map a.eval⟩ := by apply Array.ext'; simp
    rw [e1, e2]
    exact this
  case makeSlice ty l c =>
    simp only [Bool.and_eq_true] at ho
    obtain ⟨v, hv, rfl⟩ := valSt_some e
    obtain ⟨v', ρ', w', h1, h2, h3, h4⟩ := makeSlice_sound h hg (ht l ho.1) (ht c ho.2) hv
    exact ⟨.value v', ρ', w', by simp [execOp, hop, h1], h2, h3, h4⟩
  case slice ty x lo hi mx =>
    simp only [Bool.and_eq_true] at ho
    have hx := ht x ho.1
    unfold asl at e
    cases hf : flat' (aval t x) with
    | true =>
      rw [hf] at e
      obtain ⟨hf2, e⟩ := bif_some e
      simp only [Bool.and_eq_true] at hf2
      exact pure_sound h (by simp [execOp, hop, hx.flat_eq (flat'_flat hf), flatO_eq ht ho.2.1 hf2.1, flatO_eq ht ho.2.2.1 hf2.2.1, flatO_eq ht ho.2.2.2 hf2.2.2]) e
    | false =>
      rw [hf] at e
      obtain ⟨v, hv, rfl, rfl⟩ := withSt_some e
      obtain ⟨v', h1, h2⟩ := slice_sound hx (optR ht ho.2.1) (optR ht ho.2.2.1) (optR ht ho.2.2.2) hv w
      exact Does.same h (v' := v') (by simp [execOp, hop, h1]) h2
  case fieldAddr ty x f =>
    obtain ⟨v, hv, rfl, rfl⟩ := withSt_some e
    obtain ⟨v', h1, h2⟩ := fieldAddr_sound (ht x ho) hv w
    exact Does.same h (v' := v') (by simp [execOp, hop, h1]) h2
  case field ty x f =>
    obtain ⟨v, hv, rfl, rfl⟩ := withSt_some e
    obtain ⟨v', h1, h2⟩ := field_sound (ht x ho) hv w
    exact Does.same h (v' := v') (by simp [execOp, hop, h1]) h2
  case indexAddr ty x i =>
    simp only [Bool.and_eq_true] at ho
    obtain ⟨v, hv, rfl, rfl⟩ := withSt_some e
    obtain ⟨v', h1, h2⟩ := indexAddr_sound (ht x ho.1) (ht i ho.2) hv w
    exact Does.same h (v' := v') (by simp [execOp, hop, h1]) h2
  case sliceToArrayPointer ty x =>
    obtain ⟨v, hv, rfl, rfl⟩ := withSt_some e
    obtain ⟨v', h1, h2⟩ := arrptr_sound (ht x ho) hv w
    exact Does.same h (v' := v') (by simp [execOp, hop, h1]) h2
  case makeMap ty rs =>
    obtain ⟨rfl, h1⟩ := makeMap_sound h hg e
    have := Does.value h1
    simpa [Does, execOp, hop] using this
  case insert ty m k v =>
    simp only [Bool.and_eq_true] at ho
    unfold skipSt at e
    split at e
    case h_2 => cases e
    case h_1 s1 hs1 =>
      cases e
      obtain ⟨w', h1, h2⟩ := mapPut_sound h (ht m ho.1) (ht k ho.2.1) (ht v ho.2.2) hs1
      exact ⟨.skip, ρ, w', by simp [execOp, hop, h1], Ext.refl _ _, h2, trivial⟩
  case mapUpdate ty m k v =>
    simp only [Bool.and_eq_true] at ho
    unfold skipSt at e
    split at e
    case h_2 => cases e
    case h_1 s1 hs1 =>
      cases e
      obtain ⟨w', h1, h2⟩ := mapPut_sound h (ht m ho.1) (ht k ho.2.1) (ht v ho.2.2) hs1
      exact ⟨.skip, ρ, w', by simp [execOp, hop, h1], Ext.refl _ _, h2, trivial⟩
  case lookup ty x i ok =>
    simp only [Bool.and_eq_true] at ho
    obtain ⟨v, hv, rfl, rfl⟩ := withSt_some e
    obtain ⟨v', h1, h2⟩ := lookup_sound h (ht x ho.1) (ht i ho.2) hv
    exact Does.same h (v' := v') (by simp [execOp, hop, h1]) h2
  case range ty x =>
    have := Does.value (rangeMap_sound h hg (ht x ho) e)
    simpa [Does, execOp, hop] using this
  case entry it =>
    obtain ⟨v, hv, rfl, rfl⟩ := withSt_some e
    obtain ⟨v', h1, h2⟩ := entry_sound h (ht it ho) hv
    exact Does.same h (v' := v') (by simp [execOp, hop, h1]) h2
  case index ty x i =>
    simp only [Bool.and_eq_true] at ho
    unfold aix at e
    split at e
    · rename_i cs hq
      obtain ⟨v, hv, rfl, rfl⟩ := withSt_some e
      have hx := ht x ho.1
      rw [hq] at hx
      obtain ⟨v', h1, h2⟩ := index_sound hx (ht i ho.2) hv w
      exact Does.same h (v' := v') (by simp [execOp, hop, h1]) h2
    · obtain ⟨hf, e⟩ := bif_some e
      simp only [Bool.and_eq_true] at hf
      exact pure_sound h (by simp [execOp, hop, (ht x ho.1).flat_eq (flat'_flat hf.1), (ht i ho.2).flat_eq (flat'_flat hf.2)]) e
  case extract x i =>
    unfold aextract at e
    split at e
    · rename_i vs hq
      obtain ⟨v, hv, rfl, rfl⟩ := withSt_some e
      have hx := ht x ho
      rw [hq] at hx
      obtain ⟨l', hq', hl⟩ := hx.tuple_inv
      obtain ⟨v', h1, h2⟩ := hl.getOpt hv
      exact Does.same h (v' := v') (by simp [execOp, hop, hq', Instr.extract, h1]) h2
    · cases e
  case call c =>
    simp only [Bool.and_eq_true] at ho
    have hargs := avals_sound ht c.args.toList ho.1
    have hargs' : LR ρ (avals t c.args.toList) (c.args.map a.eval).toList := by rw [Array.toList_map]; exact hargs
    unfold acallOp at e
    split at e
    · rename_i b hcal
      have hx : ∀ ρ0 : Operand → Value, execOp ρ0 o = (do let d ← resolve ρ0 c o.type; invoke d.target d.args) := fun ρ0 => by simp [execOp, hop]
      have hrun : ∀ ρ0 : Operand → Value, (execOp ρ0 o).run C.P w = (builtin b c.argTypes o.type (c.args.map fun | .const _ => true | _ => false) (c.args.map ρ0)).run C.P w := fun ρ0 => by
        rw [hx]; simp [resolve, hcal, invoke]; rfl
      have pur : ∀ e' : resSt s (apure C.P t o) = some (r, s'), flatL (avals t c.args.toList) = true → Does C s.n ρ w (execOp a.eval o) r s' := fun e' hf =>
        pure_sound h (by rw [hx, hx]; simp only [resolve, hcal, map_eval ht ho.1 hf]) e'
      unfold abuiltin at e
      split at e
      · obtain ⟨v, hv, rfl⟩ := valSt_some e
        obtain ⟨v', ρ', w', h1, h2, h3, h4⟩ := append_sound h hg hargs' hv o.type
        exact ⟨.value v', ρ', w', by rw [hrun]; simp [builtin, h1], h2, h3, h4⟩
      · obtain ⟨v, hv, rfl⟩ := valSt_some e
        obtain ⟨v', w', h1, h2, h3⟩ := copy_sound h hargs' hv o.type
        exact ⟨.value v', ρ, w', by rw [hrun]; simp [builtin, h1], Ext.refl _ _, h2, h3⟩
      · obtain ⟨v, hv, rfl⟩ := valSt_some e
        obtain ⟨v', w', h1, h2, h3⟩ := clear_sound h hargs' hv o.type
        exact ⟨.value v', ρ, w', by rw [hrun]; simp [builtin, h1], Ext.refl _ _, h2, h3⟩
      · unfold alenOp at e
        split at e
        · rename_i ty tl ad n cp htys hav
          split at e
          · rename_i el hse
            cases e
            rw [hav] at hargs'
            obtain ⟨v', rr, hq, hv, hr⟩ := hargs'.cons_inv
            obtain rfl := hr.nil_inv
            have hq' : c.args.map a.eval = #[v'] := by apply Array.ext'; exact hq
            have hty : c.argTypes[0]? = some ty := by rw [← Array.getElem?_toList, htys]; rfl
            have hd := sliceElem_some hse
            have hsl : ∃ ad' cp', v' = .slice ad' n cp' := by
              cases ad with
              | none => obtain rfl := hv.flat_eq rfl; exact ⟨_, _, rfl⟩
              | some ad => obtain ⟨a', c', rfl⟩ := hv.slice_some; exact ⟨_, _, rfl⟩
            obtain ⟨ad', cp', rfl⟩ := hsl
            exact Does.same h (v' := goInt n) (by rw [hrun, hq']; simp [builtin, Builtin.len_, hty, run_underlying hd]) (.flat _ rfl)
          · obtain ⟨hf, e⟩ := bif_some e
            exact pur e (by rw [hav]; simp [flatL, hf])
        · rename_i hno
          obtain ⟨hf, e⟩ := bif_some e
          exact pur e hf
      · unfold acapOp at e
        split at e
        · rename_i ty tl ad n cp htys hav
          split at e
          · rename_i el hse
            obtain ⟨hck, e⟩ := bif_some e
            cases e
            rw [hav] at hargs'
            obtain ⟨v', rr, hq, hv, hr⟩ := hargs'.cons_inv
            obtain rfl := hr.nil_inv
            have hq' : c.args.map a.eval = #[v'] := by apply Array.ext'; exact hq
            have hty : c.argTypes[0]? = some ty := by rw [← Array.getElem?_toList, htys]; rfl
            have hd := sliceElem_some hse
            have hsl : ∃ ad', v' = .slice ad' n cp := by
              cases ad with
              | none => obtain rfl := hv.flat_eq rfl; exact ⟨_, rfl⟩
              | some ad =>
                obtain ⟨A, o', m⟩ := ad
                obtain ⟨b, x, o2, c', _, rfl, hh⟩ := hv.slice_addr
                rcases hh with ⟨rfl, rfl, rfl⟩ | ⟨rfl, _, _⟩ | ⟨rfl, _, _⟩
                · exact ⟨_, rfl⟩
                · cases hck
                · cases hck
            obtain ⟨ad', rfl⟩ := hsl
            exact Does.same h (v' := goInt cp) (by rw [hrun, hq']; simp [builtin, Builtin.cap_, hty, run_underlying hd]) (.flat _ rfl)
          · cases e
        · cases e
      · obtain ⟨hf, e⟩ := bif_some e
        exact pur e hf
      · obtain ⟨hf, e⟩ := bif_some e
        exact pur e hf
      · cases e
    · rename_i f hcal
      have hof : okX C.P f = true := by have := ho.2; rw [hcal] at this; exact this
      have := callee_sound (args' := c.args.map a.eval) h (ht f hof) hargs' e hk
      obtain ⟨n, ρ', w', h1, h2⟩ := this
      exact ⟨n, ρ', w', by simpa [execOp, hop, resolve, hcal] using h1, h2⟩
    · cases e
  case defer c =>
    simp only [Bool.and_eq_true] at ho
    have hargs := avals_sound ht c.args.toList ho.1
    unfold adeferOp at e
    split at e
    · rename_i f hcal
      have hof : okX C.P f = true := by have := ho.2; rw [hcal] at this; exact this
      have hf := ht f hof
      split at e
      · rename_i k first cap hq
        cases e
        rw [hq] at hf
        obtain ⟨as', cs', hq', h1, h2⟩ := hf.func_real
        refine ⟨.defer { target := .fn (.func k) cs', args := as' ++ c.args.map a.eval }, ρ, w, ?_, Ext.refl _ _, h, rfl, h2, ?_⟩
        · simp [execOp, hop, resolve, hcal, hq', Deferred.ofValue]
        · have e1 : ∀ m : List Operand, avals t m = m.map (aval t) := by
            intro m; induction m with
            | nil => rfl
            | cons x m ih => simp [avals, ih]
          simp only [Array.toList_append, Array.toList_map]
          rw [← e1]
          exact h1.append hargs
      · cases e
    · cases e
  all_goals cases e
end Go.VE
/- What an operation leaves of the abstract heap; results, and what comes of deferred calls. -/
namespace Go.VE
open Go Go.RowKit
structure Kept (s s' : St) : Prop where
  n : s.n ≤ s'.n
  lo : s'.lo ≤ s.lo
  same : ∀ A, A < s.n → A < s'.lo → s'.at A = s.at A
  len : s'.h.length = s'.n
theorem Kept.refl {s : St} (h : s.h.length = s.n) : Kept s s := ⟨Nat.le_refl _, Nat.le_refl _, fun _ _ _ => rfl, h⟩
theorem Kept.trans {a b c : St} (h : Kept a b) (k : Kept b c) : Kept a c :=
  ⟨Nat.le_trans h.n k.n, Nat.le_trans k.lo h.lo, fun A hA hl => (k.same A (Nat.lt_of_lt_of_le hA h.n) hl).trans (h.same A hA (Nat.lt_of_lt_of_le hl k.lo)), k.len⟩
theorem Kept.new {s : St} (h : s.h.length = s.n) (o : AO) : Kept s (s.new o) :=
  ⟨by simp [St.new], Nat.le_refl _, fun A hA _ => by rw [St.at_new, if_neg (by omega)], by simp [St.new, h]⟩
theorem Kept.put {s : St} (h : s.h.length = s.n) {A : Nat} (hA : A < s.n) (o : AO) : Kept s (s.put A o) :=
  ⟨Nat.le_refl _, Nat.min_le_left _ _, fun B hB hl => by
    have : B < min s.lo A := hl
    rw [St.at_put s h A o B hA, if_neg (by omega)], by simp [St.put, h]⟩
theorem awrite_kept {ro : Nat} {s s' : St} {A o : Nat} {l : List Value} (h : s.h.length = s.n) (e : awrite ro s A o l = some s') : Kept s s' := by
  unfold awrite at e
  split at e
  · cases e; exact .refl h
  · cases hs : s.at A with
    | none => rw [hs] at e; cases e
    | some u =>
      rw [hs] at e
      cases u with
      | cells c t op =>
        unfold awriteIn at e
        obtain ⟨_, e⟩ := bif_some e
        cases e
        exact .put h (St.at_lt hs) _
      | dead => cases e
      | loop _ => cases e
      | defd _ => cases e
      | map _ _ => cases e
      | iter _ _ _ _ => cases e
theorem aappendTo_kept {ro : Nat} {s s' : St} {elem : TypeId} {i : TypeInfo} {base : Option Addr} {sLen sCap n : Nat} {new : List Value} {v : Value} (h : s.h.length = s.n) (e : aappendTo ro s elem i base sLen sCap n new = some (v, s')) : Kept s s' := by
  unfold aappendTo at e
  split at e
  · split at e
    · cases e; exact .refl h
    · obtain ⟨s1, hs1, e⟩ := Option.map_eq_some_iff.1 e
      cases e
      exact awrite_kept h hs1
  · split at e
    · cases e
    · split at e
      case h_2 => cases e
      case h_1 =>
        split at e
        case isFalse => cases e
        case isTrue =>
          unfold agrow at e
          split at e
          · cases e; exact .new h _
          · cases e; exact .new h _
          · split at e
            case h_2 => cases e
            case h_1 hs =>
              split at e
              case isFalse => cases e
              case isTrue => cases e; exact (Kept.put h (St.at_lt hs) _).trans (.new (by simp [St.put, h]) _)
          · cases e
theorem aappend_kept {P : Program} {ro : Nat} {s s' : St} {tys : Array TypeId} {args : List Value} {v : Value} (h : s.h.length = s.n) (e : aappend P ro s tys args = some (v, s')) : Kept s s' := by
  unfold aappend at e
  split at e
  case h_2 => cases e
  case h_1 =>
    split at e
    case h_3 => cases e
    case h_2 =>
      split at e
      case h_2 => cases e
      case h_1 =>
        unfold aappend0 at e
        split at e
        case isFalse => cases e
        case isTrue =>
          obtain ⟨new, _, e⟩ := bind_some e
          exact aappendTo_kept h e
    case h_1 =>
      split at e
      case h_2 => cases e
      case h_1 =>
        obtain ⟨new, _, e⟩ := bind_some e
        exact aappendTo_kept h e
theorem acopy_kept {P : Program} {ro : Nat} {s s' : St} {tys : Array TypeId} {args : List Value} {v : Value} (h : s.h.length = s.n) (e : acopy P ro s tys args = some (v, s')) : Kept s s' := by
  unfold acopy at e
  split at e
  case h_2 => cases e
  case h_1 =>
    split at e
    case h_2 => cases e
    case h_1 =>
      split at e
      case h_2 => cases e
      case h_1 =>
        obtain ⟨cs, _, e⟩ := bind_some e
        split at e
        · cases e; exact .refl h
        · obtain ⟨s1, hs1, e⟩ := Option.map_eq_some_iff.1 e
          cases e
          exact awrite_kept h hs1
theorem aclear_kept {P : Program} {ro : Nat} {s s' : St} {tys : Array TypeId} {args : List Value} {v : Value} (h : s.h.length = s.n) (e : aclear P ro s tys args = some (v, s')) : Kept s s' := by
  unfold aclear at e
  split at e
  case h_2 => cases e
  case h_1 =>
    obtain ⟨elem, _, e⟩ := bind_some e
    unfold aclearIn at e
    split at e
    · cases e; exact .refl h
    · cases e; exact .refl h
    · split at e
      case h_2 => cases e
      case h_1 =>
        split at e
        case h_2 => cases e
        case h_1 =>
          obtain ⟨_, e⟩ := bif_some e
          obtain ⟨s1, hs1, e⟩ := Option.map_eq_some_iff.1 e
          cases e
          exact awrite_kept h hs1
    · cases e
theorem amapPut_kept {P : Program} {ro : Nat} {s s' : St} {ty : TypeId} {m k v : Value} (h : s.h.length = s.n) (e : amapPut P ro s ty m k v = some s') : Kept s s' := by
  unfold amapPut at e
  split at e
  case h_2 => cases e
  case h_1 =>
    unfold amapPut1 at e
    split at e
    case h_2 => cases e
    case h_1 hs =>
      obtain ⟨_, e⟩ := bif_some e
      unfold amapPut2 at e
      split at e
      · cases e; exact .put h (St.at_lt hs) _
      · cases e; exact .put h (St.at_lt hs) _
      · cases e
theorem aop_kept {P : Program} {ro : Nat} {s s' : St} {t : Tr} {o : Oper} {r : AR} (h : s.h.length = s.n) (e : aop P ro t o s = some (r, s')) : Kept s s' := by
  have same : ∀ {x : Option Value}, withSt s x = some (r, s') → Kept s s' := fun e => by obtain ⟨_, _, _, rfl⟩ := withSt_some e; exact .refl h
  have res : ∀ {x : Option AR}, resSt s x = some (r, s') → Kept s s' := fun e => by obtain ⟨_, rfl⟩ := resSt_some e; exact .refl h
  unfold aop at e
  cases hop : o.op <;> rw [hop] at e <;> simp only at e
  case move => cases e; exact .refl h
  case assign => cases e; exact .refl h
  case pick => unfold apick at e; split at e <;> cases e <;> exact .refl h
  case alloc =>
    unfold aalloc at e
    split at e
    case h_2 => cases e
    case h_1 =>
      split at e
      case h_2 => cases e
      case h_1 => obtain ⟨_, e⟩ := bif_some e; cases e; exact .new h _
  case box => cases e; exact .new h _
  case build => exact same e
  case buildSlice =>
    obtain ⟨v, e, _⟩ := valSt_some e
    unfold abuildSlice at e
    split at e
    case h_2 => cases e
    case h_1 =>
      split at e
      case h_2 => cases e
      case h_1 =>
        split at e
        case h_2 => cases e
        case h_1 =>
          split at e
          case isFalse => cases e
          case isTrue =>
            obtain ⟨cs, _, e⟩ := Option.map_eq_some_iff.1 e
            cases e; exact .new h _
  case load => exact same e
  case store =>
    unfold skipSt at e
    split at e
    case h_2 => cases e
    case h_1 s1 hs1 =>
      cases e
      unfold astore at hs1
      split at hs1
      case h_2 => cases hs1
      case h_1 => obtain ⟨_, hs1⟩ := bif_some hs1; exact awrite_kept h hs1
  case nilCheck => unfold anilCheck at e; split at e <;> cases e <;> exact .refl h
  case binOp op ty x y ty2 =>
    unfold abin at e
    split at e
    · exact same e
    · cases hf : (flat' (aval t x) && flat' (aval t y)) with
      | true => rw [hf] at e; exact res e
      | false => rw [hf] at e; exact same e
  case unOp =>
    unfold anot at e
    split at e
    · cases e; exact .refl h
    · obtain ⟨_, e⟩ := bif_some e; exact res e
  case convert =>
    unfold aconv at e
    split at e
    · split at e
      · obtain ⟨_, e⟩ := bif_some e; exact same e
      · cases e
    · split at e
      · unfold newBytes at e
        split at e
        · cases e; exact .new h _
        · cases e
      · obtain ⟨_, e⟩ := bif_some e; exact res e
    · obtain ⟨_, e⟩ := bif_some e; exact res e
  case makeFunc => obtain ⟨_, e⟩ := bif_some e; cases e; exact .refl h
  case makeSlice =>
    obtain ⟨v, e, _⟩ := valSt_some e
    unfold amakeSlice at e
    split at e
    case h_2 => cases e
    case h_1 =>
      split at e
      case h_2 => cases e
      case h_1 =>
        split at e
        case h_2 => cases e
        case h_1 =>
          split at e
          case isFalse => cases e
          case isTrue => cases e; exact .new h _
  case slice ty x lo hi mx =>
    unfold asl at e
    cases hf : flat' (aval t x) with
    | true => rw [hf] at e; obtain ⟨_, e⟩ := bif_some e; exact res e
    | false => rw [hf] at e; exact same e
  case fieldAddr => exact same e
  case field => exact same e
  case indexAddr => exact same e
  case makeMap =>
    unfold amakeMap at e
    split at e
    · cases e; exact .new h _
    · cases e
  case insert => unfold skipSt at e; split at e; (· rename_i hs1; cases e; exact amapPut_kept h hs1); (· cases e)
  case mapUpdate => unfold skipSt at e; split at e; (· rename_i hs1; cases e; exact amapPut_kept h hs1); (· cases e)
  case lookup => exact same e
  case entry => exact same e
  case range =>
    unfold arangeMap at e
    split at e
    · split at e
      · cases e; exact .new h _
      · cases e
    · cases e
  case sliceToArrayPointer => exact same e
  case index =>
    unfold aix at e
    split at e
    · exact same e
    · obtain ⟨_, e⟩ := bif_some e; exact res e
  case extract =>
    unfold aextract at e
    split at e
    · exact same e
    · cases e
  case call c =>
    unfold acallOp at e
    split at e
    · unfold abuiltin at e
      split at e
      · obtain ⟨v, e, _⟩ := valSt_some e; exact aappend_kept h e
      · obtain ⟨v, e, _⟩ := valSt_some e; exact acopy_kept h e
      · obtain ⟨v, e, _⟩ := valSt_some e; exact aclear_kept h e
      · unfold alenOp at e
        split at e
        · split at e
          · cases e; exact .refl h
          · obtain ⟨_, e⟩ := bif_some e; exact res e
        · obtain ⟨_, e⟩ := bif_some e; exact res e
      · unfold acapOp at e
        split at e
        · split at e
          · obtain ⟨_, e⟩ := bif_some e; cases e; exact .refl h
          · cases e
        · cases e
      · obtain ⟨_, e⟩ := bif_some e; exact res e
      · obtain ⟨_, e⟩ := bif_some e; exact res e
      · cases e
    · unfold acallee at e
      split at e
      · cases e; exact .refl h
      · unfold ayield at e
        split at e
        · obtain ⟨_, e⟩ := bif_some e; cases e; exact .refl h
        · cases e
      · cases e
    · cases e
  case defer c =>
    unfold adeferOp at e
    split at e
    · split at e
      · cases e; exact .refl h
      · cases e
    · cases e
  all_goals cases e
theorem result_sound [Memo] {C : Cx} {ρ : Rho} {s : St} {w : World} (h : Rel C ρ s w) {t : Tr} {tmps : Array Value} (ht : TR ρ t tmps) {r : ResultVar} {v : Value} (e : aresult C.P t s r = some v) :
    ∃ v', ((match r with
      | .tmp i => pure (tmps.getD i undef)
      | .cell a ty => do loadVar ty (← asAddr (tmps.getD a undef)) : Sem Value)).run C.P w = .ok v' w ∧ VR ρ v v' := by
  cases r with
  | tmp i => cases e; exact ⟨_, rfl, ht.get i⟩
  | cell a ty =>
    obtain ⟨v', h1, h2⟩ := load_sound h (ht.get a) e
    refine ⟨v', ?_, h2⟩
    have hp : ∃ ad, tmps.getD a undef = .pointer (some ad) := by
      have hv := ht.get a
      simp only [aresult, aload] at e
      split at e
      · rename_i A o hq
        rw [hq] at hv
        obtain ⟨b, x, _, hb⟩ := hv.ptr_inv
        exact ⟨_, hb⟩
      · cases e
    obtain ⟨ad, had⟩ := hp
    rw [had] at h1
    show (do loadVar ty (← asAddr (tmps.getD a undef)) : Sem Value).run C.P w = _
    rw [had]
    simpa [Instr.loadAt, Instr.sureAddr, asAddr] using h1
theorem resultL_sound [Memo] {C : Cx} {ρ : Rho} {s : St} {w : World} (h : Rel C ρ s w) {t : Tr} {tmps : Array Value} (ht : TR ρ t tmps) : ∀ (rs : List ResultVar) {vs : List Value}, aresultL C.P t s rs = some vs →
    ∃ vs', (rs.mapM fun (r : ResultVar) => (match r with
      | .tmp i => pure (tmps.getD i undef)
      | .cell a ty => do loadVar ty (← asAddr (tmps.getD a undef)) : Sem Value)).run C.P w = .ok vs' w ∧ LR ρ vs vs'
  | [], vs, e => by cases e; exact ⟨[], by simp, LR.nil⟩
  | r :: rs, vs, e => by
    simp only [aresultL] at e
    split at e
    case h_2 => cases e
    case h_1 v hv =>
      obtain ⟨l, hl, rfl⟩ := Option.map_eq_some_iff.1 e
      obtain ⟨v', h1, h2⟩ := result_sound h ht hv
      obtain ⟨vs', k1, k2⟩ := resultL_sound h ht rs hl
      exact ⟨v' :: vs', by simp only [List.mapM_cons, Sem.run_bind, h1, Result.andThen_ok, k1, Sem.run_pure], LR.cons h2 k2⟩
theorem results_sound [Memo] {C : Cx} {ρ : Rho} {s : St} {w : World} (h : Rel C ρ s w) {t : Tr} {tmps : Array Value} (ht : TR ρ t tmps) {fn : Func} {v : Value} (e : aresults C.P fn t s = some v) :
    ∃ v', (results fn tmps).run C.P w = .ok v' w ∧ VR ρ v v' := by
  unfold aresults at e
  obtain ⟨vs, hvs, rfl⟩ := Option.map_eq_some_iff.1 e
  obtain ⟨vs', h1, h2⟩ := resultL_sound h ht _ hvs
  have hr : (results fn tmps).run C.P w = .ok (if h : vs'.toArray.size = 1 then vs'.toArray[0] else .tuple vs'.toArray) w := by
    unfold results
    rw [Sem.run_bind, Array.mapM_eq_mapM_toList, Sem.run_map]
    erw [h1]
    rfl
  refine ⟨_, hr, ?_⟩
  cases vs with
  | nil => rw [h2.nil_inv]; exact .flat _ rfl
  | cons x xs =>
    obtain ⟨x', r, rfl, hx, hxs⟩ := h2.cons_inv
    cases xs with
    | nil => rw [hxs.nil_inv]; exact hx
    | cons y ys =>
      obtain ⟨y', r', rfl, hy, hys⟩ := hxs.cons_inv
      have : VR ρ (.tuple (x :: y :: ys).toArray) (.tuple (x' :: y' :: r').toArray) := VR.tupleL h2
      simpa [tupled] using this
theorem VR.back {ρ ρ' : Rho} (hs : Sub ρ ρ') {v v1 : Value} (h : VR ρ v v1) : ∀ {v2 : Value}, VR ρ' v v2 → VR ρ v v2 := by
  induction h with
  | flat v h => intro v2 k; rw [k.flat_eq h]; exact .flat v h
  | ptr o h => intro v2 k; obtain ⟨b, x, hA, rfl⟩ := k.ptr_inv; have := hs _ _ h; rw [this] at hA; cases hA; exact .ptr o h
  | sl o n c h =>
    intro v2 k
    cases k with
    | flat _ k => simp [VE.flat] at k
    | sl _ _ _ k => have := hs _ _ h; rw [this] at k; cases k; exact .sl _ _ _ h
  | slo o n c h =>
    intro v2 k
    cases k with
    | flat _ k => simp [VE.flat] at k
    | slo _ _ _ k => have := hs _ _ h; rw [this] at k; cases k; exact .slo _ _ _ h
  | sle o o' c' h =>
    intro v2 k
    cases k with
    | flat _ k => simp [VE.flat] at k
    | sle _ _ _ k => have := hs _ _ h; rw [this] at k; cases k; exact .sle _ _ _ h
  | agg cs cs' hl _ ih =>
    intro v2 k
    obtain ⟨l', rfl, hl'⟩ := k.agg_inv
    exact .agg _ _ hl'.len fun i v v' a b => ih i v _ a (List.getElem?_eq_getElem (by rw [← hl]; exact (List.getElem?_eq_some_iff.1 a).1)) (hl'.get i v v' a b)
  | tuple cs cs' hl _ ih =>
    intro v2 k
    obtain ⟨l', rfl, hl'⟩ := k.tuple_inv
    exact .tuple _ _ hl'.len fun i v v' a b => ih i v _ a (List.getElem?_eq_getElem (by rw [← hl]; exact (List.getElem?_eq_some_iff.1 a).1)) (hl'.get i v v' a b)
  | func fn hf as as' cs cs' ha _ hc _ ih ik =>
    intro v2 k
    cases k with
    | flat _ k =>
      simp only [VE.flat, flatA_mk, Bool.and_eq_true] at k
      exact .flat _ (by simp only [VE.flat, flatA_mk, Bool.and_eq_true]; exact k)
    | func _ _ _ as2 _ cs2 ha2 h2 hc2 k2 =>
      exact .func fn hf _ _ _ _ ha2 (fun i v v' a b => ih i v _ a (List.getElem?_eq_getElem (by rw [← ha]; exact (List.getElem?_eq_some_iff.1 a).1)) (h2 i v v' a b))
        hc2 (fun i v v' a b => ik i v _ a (List.getElem?_eq_getElem (by rw [← hc]; exact (List.getElem?_eq_some_iff.1 a).1)) (k2 i v v' a b))
    | yield k => simp [fnOk] at hf
  | yield h =>
    intro v2 k
    obtain ⟨b, x, hA, rfl⟩ := k.yield_inv
    have := hs _ _ h; rw [this] at hA; cases hA; exact .yield h
  | map h =>
    intro v2 k
    obtain ⟨b, x, hA, rfl⟩ := k.map_inv
    have := hs _ _ h; rw [this] at hA; cases hA; exact .map h
  | any i v' h hb =>
    intro v2 k
    cases k with
    | flat _ k => simp [VE.flat] at k
    | any _ _ h hb => exact .any _ _ h hb
theorem LR.back {ρ ρ' : Rho} (hs : Sub ρ ρ') {l l1 l2 : List Value} (h : LR ρ l l1) (k : LR ρ' l l2) : LR ρ l l2 :=
  ⟨k.len, fun i v v' a b => (h.get i v _ a (List.getElem?_eq_getElem (by rw [← h.len]; exact (List.getElem?_eq_some_iff.1 a).1))).back hs (k.get i v v' a b)⟩
theorem TR.back {ρ ρ' : Rho} (hs : Sub ρ ρ') {t : Tr} {a b : Array Value} (h : TR ρ t a) (k : TR ρ' t b) : TR ρ t b := ⟨k.has, fun i => (h.get i).back hs (k.get i)⟩
theorem MR.back {ρ ρ' : Rho} (hs : Sub ρ ρ') {l l1 : List MapEntry} (h : MR ρ l l1) : ∀ {l2 : List MapEntry}, MR ρ' l l2 → MR ρ l l2 := by
  induction h with
  | nil => intro l2 k; cases k; exact .nil
  | cons h _ ih =>
    intro l2 k
    cases k with
    | cons k1 k2 => exact .cons ⟨k1.key, h.kf, h.val.back hs k1.val, k1.born⟩ (ih k2)
theorem OR.back [Memo] {C : Cx} {ρ ρ' : Rho} {A b : Nat} {x : Nat × Nat} {w w' : World} (hs : Sub ρ ρ') : ∀ {o : AO}, OR C ρ A b x w o → OR C ρ' A b x w' o → OR C ρ A b x w' o
  | .cells _ _ _, ⟨_, _, _, _, _, h4, _⟩, ⟨c', t', f, k1, k2, k3, k4⟩ => ⟨c', t', f, k1, k2, h4.back hs k3, k4⟩
  | .map _ _, ⟨_, _, h2⟩, ⟨es', k1, k2⟩ => ⟨es', k1, h2.back hs k2⟩
  | .iter _ _ _ _, ⟨m1, y1, h1, _⟩, ⟨m2, y2, k1, k2⟩ => ⟨m1, y1, h1, by
      have := hs _ _ h1; rw [this] at k1; cases k1; exact k2⟩
  | .dead, _, _ => trivial
  | .loop _, ⟨r1, _, h2, h9⟩, ⟨r', k1, k2, _⟩ => ⟨r', k1, ⟨k2.state, k2.pending, h2.tmps.back hs k2.tmps, k2.params, k2.assign, k2.body, by
      obtain ⟨x1, h3⟩ := h2.defers
      obtain ⟨x2, k3⟩ := k2.defers
      have := hs _ _ h3; rw [this] at k3; injection k3 with e; injection e with e1 e2; exact ⟨x1, by rw [← e1]; exact h3⟩⟩, h9⟩
  | .defd (some []), _, k => k
  | .defd none, _, k => k
  | .defd (some (_ :: _)), h, _ => h.elim
theorem Rel.cut [Memo] {C : Cx} {ρ ρ' : Rho} {s s2 : St} {w w' : World} (h : Rel C ρ s w) (h2 : Rel C ρ' s2 w') (he : Ext s.n ρ ρ') (hk : ∀ A, A < s.n → s2.at A = s.at A) (_ : s.n ≤ s2.n) : Rel C ρ s w' := by
  have hs := h.sub he
  refine ⟨h.len, fun A p e => h.dom A p e, fun A b x e => h2.lt A b x (hs _ _ e), fun A b x o e ho => ?_, h.sh, fun A A' b x x' o o' hr e e' ho ho' hne => ?_, h.wr, h2.low, h2.keep, h.glob⟩
  · have hA := h.dom A _ e
    exact (h.obj A b x o e ho).back hs (h2.obj A b x o (hs _ _ e) ((hk A hA).trans ho))
  · exact h.inj A A' b x x' o o' hr e e' ho ho' hne
end Go.VE
/- Calls, deferred calls, rounds. -/
namespace Go.VE
open Go Go.RowKit
theorem DR.mono {ρ ρ' : Rho} (hs : Sub ρ ρ') {d d' : Deferred} (h : DR ρ d d') : DR ρ' d d' := by
  unfold DR at *
  split at h
  · exact ⟨h.1, h.2.1.mono hs, h.2.2.mono hs⟩
  · obtain ⟨x, hx⟩ := h; exact ⟨x, hs _ _ hx⟩
  · exact h.elim
theorem DL.mono {ρ ρ' : Rho} (hs : Sub ρ ρ') : ∀ {ds ds' : List Deferred}, DL ρ ds ds' → DL ρ' ds ds'
  | [], [], _ => trivial
  | _ :: _, _ :: _, h => ⟨h.1.mono hs, DL.mono hs h.2⟩
  | [], _ :: _, h => h.elim
  | _ :: _, [], h => h.elim
structure FR (ρ : Rho) (fr : Fr) (a : Act) : Prop where
  t : TR ρ fr.t a.tmps
  ds : DL ρ fr.ds a.defers
theorem FR.mono {ρ ρ' : Rho} (hs : Sub ρ ρ') {fr : Fr} {a : Act} (h : FR ρ fr a) : FR ρ' fr a := ⟨h.t.mono hs, h.ds.mono hs⟩
theorem FR.put {ρ : Rho} {fr : Fr} {a : Act} (h : FR ρ fr a) (dst : Option Tmp) {v v' : Value} (hv : VR ρ v v') : FR ρ (fr.put dst v) (a.put dst v') := by
  cases dst with
  | none => exact h
  | some d => exact ⟨h.t.set d hv, h.ds⟩
def Fen (F : Fence) (rnd : Option Nat) (ρ : Rho) : Prop :=
  match rnd with
  | none => F = Fence.wide
  | some l => ∃ b x, ρ l = some (b, x) ∧ F = Fence.wide.inRound b
theorem Fen.mono {F : Fence} {rnd : Option Nat} {ρ ρ' : Rho} (hs : Sub ρ ρ') (h : Fen F rnd ρ) : Fen F rnd ρ' := by
  cases rnd with
  | none => exact h
  | some l => obtain ⟨b, x, h1, h2⟩ := h; exact ⟨b, x, hs _ _ h1, h2⟩
theorem Fen.fn {F : Fence} {rnd : Option Nat} {ρ : Rho} (h : Fen F rnd ρ) (f : FuncId) : F.fn f := by
  cases rnd with
  | none => rw [show F = Fence.wide from h]; trivial
  | some l => obtain ⟨b, x, h1, rfl⟩ := h; trivial
theorem Fen.depth {F : Fence} {rnd : Option Nat} {ρ : Rho} (h : Fen F rnd ρ) : F.depth.isSome = true → 1 ≤ 0 := by
  intro hd
  cases rnd with
  | none => rw [show F = Fence.wide from h] at hd; simp [Fence.wide] at hd
  | some l => obtain ⟨b, x, h1, rfl⟩ := h; simp [Fence.wide] at hd
def Post [Memo] (C : Cx) (n0 : Nat) (ρ : Rho) (ex : Ex) (fr' : Fr) (s' : St) : Exit → Act → World → Prop := fun e a' w' =>
  e = toExit ex ∧ ∃ ρ', Ext n0 ρ ρ' ∧ Rel C ρ' s' w' ∧ FR ρ' fr' a'
def LoopFrom (F : Fence) (P : Program) (body : Code) (Q : Exit → Act → World → Prop) (a : Act) (w : World) : Prop :=
  ∀ (b : Frame) (k : List Item) (cs : List Frame), b.roundOf = F.round → F.fn b.fn → F.room (cs.length + 1 + 0) →
    ∃ e a' w', Q e a' w' ∧ ArrivesIn (Machine.fenced P F) P (lone (b.atR a (.code body :: .inLoop body :: k)) cs w) b k cs e a' w'
def Wp (F : Fence) (P : Program) (c : Code) (Q : Exit → Act → World → Prop) (a : Act) (w : World) : Prop :=
  c.wpIn F 0 P Q a w ∧ ∀ body, c = .loop body → LoopFrom F P body Q a w
def SoundE [Memo] (C : Cx) (E : Ev) : Prop :=
  ∀ c fr s ex fr' s', E c fr s = some (ex, fr', s') → s.h.length = s.n →
    (fr'.rnd = fr.rnd ∧ Kept s s') ∧ (okCode C.P c = true → ∀ ρ a w F, Fen F fr.rnd ρ → Rel C ρ s w → Glob C s → FR ρ fr a → Wp F C.P c (Post C s.n ρ ex fr' s') a w)
section
variable [Memo] {C : Cx} {E : Ev}
theorem abody_some {f : FuncId} {args : List Value} {s s' : St} {fn : Func} {fr : Fr} (e : abody C.P E f args s = some (fn, fr, s')) :
    C.P.funcs[f]? = some fn ∧ okFunc C.P fn = true ∧ ∃ c, fn.body = some c ∧ ∃ ex, (ex = .normal ∨ ex = .ret) ∧ E c { t := tree (max fn.ntmps args.length) args, ds := [], rnd := none } s = some (ex, fr, s') := by
  unfold abody at e
  split at e
  case h_2 => cases e
  case h_1 fn0 hf =>
    obtain ⟨hok, e⟩ := bif_some e
    split at e
    case h_2 => cases e
    case h_1 c hc =>
      unfold leaves at e
      split at e
      · rename_i hq; cases e; exact ⟨hf, hok, c, hc, .normal, .inl rfl, hq⟩
      · rename_i hq; cases e; exact ⟨hf, hok, c, hc, .ret, .inr rfl, hq⟩
      · cases e
theorem okFunc.callable {f : FuncId} {fn : Func} (hok : okFunc C.P fn = true) (hf : C.P.funcs[f]? = some fn) (hb : fn.body.isSome = true) : Callable C.P f := by
  simp only [okFunc, Bool.and_eq_true] at hok
  exact ⟨fn, hf, hb, by simpa using hok.2⟩
theorem okFunc.code {fn : Func} {c : Code} (hok : okFunc C.P fn = true) (hb : fn.body = some c) : okCode C.P c = true := by
  simp only [okFunc, Bool.and_eq_true, hb, Option.all_some] at hok
  exact hok.1
theorem body_sound (hE : SoundE C E) {f : FuncId} {args : List Value} {s s' : St} {fn : Func} {fr : Fr} (e : abody C.P E f args s = some (fn, fr, s')) (hl : s.h.length = s.n) :
    C.P.funcs[f]? = some fn ∧ okFunc C.P fn = true ∧ Kept s s' ∧ ∃ c, fn.body = some c ∧ ∀ (ρ : Rho) (args' : Array Value) (w : World), Rel C ρ s w → Glob C s → LR ρ args args'.toList →
      c.wpIn Fence.wide 0 C.P (fun ex a' w' => (ex = .normal ∨ ex = .ret) ∧ ∃ ρ', Ext s.n ρ ρ' ∧ Rel C ρ' s' w' ∧ FR ρ' fr a') { tmps := args' ++ Array.replicate (fn.ntmps - args'.size) undef, defers := [] } w := by
  obtain ⟨hf, hok, c, hc, ex, hex, he⟩ := abody_some e
  obtain ⟨⟨_, hk⟩, hs⟩ := hE c _ s ex fr s' he hl
  have hs := hs (okFunc.code hok hc)
  refine ⟨hf, hok, hk, c, hc, fun ρ args' w h hg ha => ?_⟩
  have ht : TR ρ (tree (max fn.ntmps args.length) args) (args' ++ Array.replicate (fn.ntmps - args'.size) undef) := by
    have := TR.tree ha fn.ntmps
    have e1 : (⟨args'.toList⟩ : Array Value) = args' := by cases args'; rfl
    rw [e1] at this
    simpa using this
  refine wpIn_mono (hs ρ { tmps := args' ++ Array.replicate (fn.ntmps - args'.size) undef, defers := [] } w Fence.wide rfl h hg ⟨ht, trivial⟩).1 fun e a' w' hq => ?_
  obtain ⟨rfl, hq⟩ := hq
  refine ⟨?_, hq⟩
  rcases hex with rfl | rfl
  · exact .inl rfl
  · exact .inr rfl
theorem Glob.kept {s s' : St} (h : Glob C s) (k : Kept s s') : Glob C s' := Nat.le_trans h k.n
end
theorem DL.nil_inv {ρ : Rho} {ds' : List Deferred} (h : DL ρ [] ds') : ds' = [] := by
  cases ds' with
  | nil => rfl
  | cons _ _ => exact h.elim
theorem DL.cons_inv {ρ : Rho} {d : Deferred} {ds ds' : List Deferred} (h : DL ρ (d :: ds) ds') : ∃ d' r, ds' = d' :: r ∧ DR ρ d d' ∧ DL ρ ds r := by
  cases ds' with
  | nil => exact h.elim
  | cons d' r => exact ⟨d', r, rfl, h.1, h.2⟩
section
variable [Memo] {C : Cx} {E : Ev}
theorem defers_sound (hE : SoundE C E) : ∀ (ds : List Deferred) {s s' : St}, adefers C.P C.ro E ds s = some s' → s.h.length = s.n →
    Kept s s' ∧ ∀ (ρ : Rho) (ds' : List Deferred) (w : World) (fn : Func) (tmps : Array Value) (R : Ending → World → Prop), Rel C ρ s w → Glob C s → DL ρ ds ds' →
      (∀ ρ' w', Ext s.n ρ ρ' → Rel C ρ' s' w' → ∃ v, (results fn tmps).run C.P w' = .ok v w' ∧ R (.returned v) w') → LeavesInM Fence.wide 0 C.P fn tmps R ds' .returning w
  | [], s, s', e, hl => by
    cases e
    refine ⟨.refl hl, fun ρ ds' w fn tmps R h hg hd k => ?_⟩
    rw [hd.nil_inv]
    exact k ρ w (Ext.refl _ _) h
  | d :: ds, s, s', e, hl => by
    simp only [adefers] at e
    split at e
    · rename_i k cap htar
      split at e
      case h_2 => cases e
      case h_1 s1 hs1 =>
        unfold adefer1 at hs1
        split at hs1
        case h_2 => cases hs1
        case h_1 fn1 fr1 s2 hb =>
          split at hs1
          case h_2 => cases hs1
          case h_1 v hds hres =>
            cases hs1
            obtain ⟨hf, hok, hk, c, hc, hw⟩ := body_sound hE hb hl
            obtain ⟨hk2, ih⟩ := defers_sound hE ds e hk.len
            refine ⟨hk.trans hk2, fun ρ ds' w fn tmps R h hg hd K => ?_⟩
            obtain ⟨d', r, rfl, h1, h2⟩ := hd.cons_inv
            unfold DR at h1
            rw [htar] at h1
            split at h1
            · rename_i k0 cap0 k' cap' heq htar'
              cases heq
              obtain ⟨rfl, hcap, hargs⟩ := h1
              have hcal := okFunc.callable hok hf (by rw [hc]; rfl)
              refine ⟨by simp, .inr ⟨fun hd => by simp [Fence.wide] at hd, .func k', cap', k', d'.args ++ cap', htar', ?_, fun _ _ => trivial, ?_⟩⟩
              · rw [htar']; exact run_callFunc hcal _ w
              · have hcd := callsDIn_of_wp (F := Fence.wide) (n := 0) (u := .returning) (R := fun e w' => (∃ v, e = .returned v) ∧ ∃ ρ', Ext s.n ρ ρ' ∧ Rel C ρ' s1 w') hf hc trivial
                  (wpIn_mono (hw ρ (d'.args ++ cap') w h hg (by rw [Array.toList_append]; exact hargs.append hcap)) fun ex a' w' hq => by
                    obtain ⟨hex, ρ', he, hr, hfr⟩ := hq
                    have hd0 : a'.defers = [] := by have := hfr.ds; rw [hds] at this; exact this.nil_inv
                    obtain ⟨v', hv', _⟩ := results_sound hr hfr.t hres
                    rcases hex with rfl | rfl
                    · exact ⟨hd0, v', hv', ⟨v', rfl⟩, ρ', he, hr⟩
                    · exact ⟨hd0, v', hv', ⟨v', rfl⟩, ρ', he, hr⟩)
                refine CallsDIn.mono hcd fun e u' w' hq => ?_
                obtain ⟨rfl, ⟨v', rfl⟩, ρ', he, hr⟩ := hq
                have hsub := h.sub he
                exact ih ρ' r w' fn tmps R hr (hg.kept hk) (h2.mono hsub) fun ρ2 w2 he2 hr2 => K ρ2 w2 (he.trans he2 hk.n) hr2
            · rename_i hq _; cases hq
            · exact h1.elim
    · rename_i r0 htar
      split at e
      case h_2 => cases e
      case h_1 s1 hs1 =>
        cases hs : s.at r0 with
        | none => rw [hs] at hs1; cases hs1
        | some o =>
          rw [hs] at hs1
          unfold acollect at hs1
          split at hs1
          case h_2 => cases hs1
          case h_1 heq =>
            cases heq
            obtain ⟨hro, hs1⟩ := bif_some hs1
            cases hs1
            have hro := Nat.le_of_ble_eq_true hro
            have hk : Kept s (s.put r0 (.defd none)) := .put hl (St.at_lt hs) _
            obtain ⟨hk2, ih⟩ := defers_sound hE ds e hk.len
            refine ⟨hk.trans hk2, fun ρ ds' w fn tmps R h hg hd K => ?_⟩
            obtain ⟨d', r, rfl, h1, h2⟩ := hd.cons_inv
            unfold DR at h1
            rw [htar] at h1
            split at h1
            · rename_i hq _; cases hq
            · rename_i r1 b heq htar'
              cases heq
              obtain ⟨x, hA⟩ := h1
              have hblk : w.heap[b]? = some (.deferred (some [])) := h.obj r0 b x _ hA hs
              have hlt := h.lt r0 b x hA
              have hrel := h.putObj (o2 := .defd none) (obj := .deferred none) hA hro hs (by simp) ⟨none, setO_same _ hlt⟩
              refine ⟨by simp, .inl ⟨b, setO w b (.deferred none), htar', ?_, ?_⟩⟩
              · simp [Instr.takeDeferred, getObj, setObj, Sem.run, hblk, setO]
              · exact ih ρ r _ fn tmps R hrel (hg.kept hk) h2 fun ρ2 w2 he2 hr2 => K ρ2 w2 he2 hr2
            · exact h1.elim
    · cases e
theorem call0_sound (hE : SoundE C E) {f : FuncId} {args : List Value} {s s' : St} {v : Value} (e : acall0 C.P C.ro E f args s = some (v, s')) (hl : s.h.length = s.n) :
    Kept s s' ∧ ∀ (ρ : Rho) (args' : Array Value) (w : World), Rel C ρ s w → Glob C s → LR ρ args args'.toList →
      CallsIn Fence.wide 0 C.P f args' w fun e w' => ∃ v', e = .returned v' ∧ ∃ ρ', Ext s.n ρ ρ' ∧ Rel C ρ' s' w' ∧ VR ρ' v v' := by
  unfold acall0 acall1 at e
  split at e
  case h_2 => cases e
  case h_1 fn fr s1 hb =>
    split at e
    case h_2 => cases e
    case h_1 s2 hd =>
      obtain ⟨v0, hv0, e⟩ := Option.map_eq_some_iff.1 e
      obtain ⟨hf, hok, hk1, c, hc, hw⟩ := body_sound hE hb hl
      obtain ⟨hk2, hdl⟩ := defers_sound hE _ hd hk1.len
      have hk := hk1.trans hk2
      have hlo : s2.lo ≤ s.n := hk.lo
      have hn : s.n ≤ s2.n := hk.n
      unfold afinish at e
      have main : ∀ (v1 : Value) (s3 : St), (∀ ρ ρ2 w w2, Rel C ρ s w → Ext s.n ρ ρ2 → Rel C ρ2 s2 w2 → ∀ v', VR ρ2 v0 v' → ∃ ρ', Ext s.n ρ ρ' ∧ Rel C ρ' s3 w2 ∧ VR ρ' v1 v') →
          ∀ (ρ : Rho) (args' : Array Value) (w : World), Rel C ρ s w → Glob C s → LR ρ args args'.toList →
            CallsIn Fence.wide 0 C.P f args' w fun e w' => ∃ v', e = .returned v' ∧ ∃ ρ', Ext s.n ρ ρ' ∧ Rel C ρ' s3 w' ∧ VR ρ' v1 v' := by
        intro v1 s3 fin ρ args' w h hg ha
        have h0 : Rel C ρ { h := s.h, n := s.n, lo := s.n } w := h.lo _
        refine callsIn_of_wp_marks hf hc trivial (wpIn_mono (hw ρ args' w h0 hg ha) fun ex a' w' hq => ?_)
        obtain ⟨hex, ρ1, he1, hr1, hfr⟩ := hq
        have key := hdl ρ1 a'.defers w' fn a'.tmps (fun e w' => ∃ v', e = .returned v' ∧ ∃ ρ', Ext s.n ρ ρ' ∧ Rel C ρ' s3 w' ∧ VR ρ' v1 v') hr1 (Nat.le_trans hg hk1.n) hfr.ds
          fun ρ2 w2 he2 hr2 => by
            obtain ⟨v', hv', hvr⟩ := results_sound hr2 (hfr.t.mono (hr1.sub he2)) hv0
            obtain ⟨ρ', k1, k2, k3⟩ := fin ρ ρ2 w w2 h (he1.trans he2 hk1.n) hr2 v' hvr
            exact ⟨v', hv', v', rfl, ρ', k1, k2, k3⟩
        rcases hex with rfl | rfl
        · exact key
        · exact key
      cases hcl : (Nat.ble s.n s2.lo && flat' v0) with
      | true =>
        rw [hcl] at e
        simp only [cond_true, Prod.mk.injEq] at e
        obtain ⟨rfl, rfl⟩ := e
        simp only [Bool.and_eq_true] at hcl
        have hle := Nat.le_of_ble_eq_true hcl.1
        have same : ∀ A, A < s.n → s2.at A = s.at A := fun A hA => (hk.same A hA (by omega)).trans rfl
        refine ⟨⟨Nat.le_refl _, Nat.le_refl _, fun _ _ _ => rfl, hl⟩, main _ _ fun ρ ρ2 w w2 h he hr v' hv => ⟨ρ, Ext.refl _ _, h.cut hr he same hn, ?_⟩⟩
        rw [hv.flat_eq (flat'_flat hcl.2)]
        exact .flat _ (flat'_flat hcl.2)
      | false =>
        rw [hcl] at e
        simp only [cond_false, Prod.mk.injEq] at e
        obtain ⟨rfl, rfl⟩ := e
        refine ⟨⟨hn, Nat.min_le_left _ _, fun A hA hlt => ?_, hk.len⟩, main _ _ fun ρ ρ2 w w2 h he hr v' hv => ⟨ρ2, he, hr.lo _, hv⟩⟩
        have : A < min s.lo s2.lo := hlt
        exact (hk.same A hA (by omega)).trans rfl
theorem acall_some {f : FuncId} {args : List Value} {s s' : St} {v : Value} (e : acall C.P C.ro E f args s = some (v, s')) : (mlook s f args = some v ∧ s' = s) ∨ acall0 C.P C.ro E f args s = some (v, s') := by
  unfold acall at e
  cases hm : mlook s f args with
  | none => rw [hm] at e; exact .inr e
  | some u => rw [hm] at e; cases e; exact .inl ⟨rfl, rfl⟩
theorem mlook_sound {f : FuncId} {args : List Value} {s : St} {v : Value} (hm : mlook s f args = some v) : VE.flat v = true ∧ (∃ fn, C.P.funcs[f]? = some fn ∧ fn.body.isSome = true ∧ (fn.name == "runtime.NumGoroutine") = false) ∧
    ∀ (ρ : Rho) (args' : Array Value) (w : World), Rel C ρ s w → LR ρ args args'.toList → Calls C.P f args' w fun e W' => e = .returned v ∧ Below w.heap.size w W' := by
  unfold mlook at hm
  split at hm
  · rename_i u hu
    cases hm
    obtain ⟨h1, h2, h3, h4⟩ := C.mok.1 f args _ hu
    refine ⟨h2, h3, fun ρ args' w h ha => ?_⟩
    have ha' : args' = ⟨args⟩ := by apply Array.ext'; exact ha.flat_eq h1
    subst ha'
    exact h4 w h.keep
  · cases hs : Memo.sl f with
    | false => rw [hs] at hm; cases hm
    | true =>
      rw [hs] at hm
      simp only [cond_true] at hm
      unfold mslice at hm
      split at hm
      · rename_i a n c r _
        cases hle : Nat.ble n c with
        | false => rw [hle] at hm; cases hm
        | true =>
          rw [hle] at hm
          simp only [cond_true] at hm
          have hnc := Nat.le_of_ble_eq_true hle
          obtain ⟨cs, hcs, hv⟩ := bind_some hm
          cases hlen : Nat.beq cs.length n with
          | false => rw [hlen] at hv; cases hv
          | true =>
            rw [hlen] at hv
            simp only [cond_true] at hv
            have hl := Nat.eq_of_beq_eq_true hlen
            obtain ⟨h0, h1, h2, h3, h4⟩ := C.mok.2 f cs r v hs hv
            refine ⟨h2, h3, fun ρ args' w h ha => ?_⟩
            obtain ⟨x', r', he, hx, hr⟩ := ha.cons_inv
            have hr' := hr.flat_eq h1
            subst hr'
            have ha' : args' = ⟨x' :: r'⟩ := by apply Array.ext'; exact he
            subst ha'
            cases a with
            | none =>
              have e1 : cs = [] := by simp only [afirst, Option.some.injEq] at hcs; exact hcs.symm
              obtain rfl := hx.flat_eq rfl
              exact h4 w h.keep none n c hl fun hne => absurd e1 hne
            | some x =>
              obtain ⟨A, o, m⟩ := x
              by_cases hn0 : n = 0
              · obtain ⟨a', c', rfl⟩ := hx.slice_some
                exact h4 w h.keep a' n c' hl fun hne => absurd (List.eq_nil_of_length_eq_zero (by omega)) hne
              · unfold afirst at hcs
                obtain ⟨k, rfl⟩ : ∃ k, n = k + 1 := ⟨n - 1, by omega⟩
                simp only [Nat.mul_one] at hcs
                cases hm' : mkOk m with
                | false => rw [hm'] at hcs; cases hcs
                | true =>
                  rw [hm'] at hcs
                  simp only [cond_true] at hcs
                  obtain ⟨d, hd, hcut⟩ := bind_some hcs
                  obtain ⟨hle, hce⟩ := cut_some hcut
                  obtain ⟨b, y, c', hA, rfl, hcc⟩ := mkOk_addr hx hm'
                  obtain ⟨c'', t, t', fz, op, _, hb, hsz, hlr, _⟩ := h.block hA hd
                  refine h4 w h.keep (some ⟨b, o + y.2, none⟩) (k + 1) c' hl fun _ => ⟨b, o + y.2, rfl, h.lt A b y hA, ?_, fun j x hj => ?_⟩
                  · rcases hcc with ⟨_, rfl⟩ | ⟨_, rfl⟩
                    · exact hnc
                    · exact Nat.le_trans hnc (Nat.le_add_right _ _)
                  · have hjl : j < k + 1 := by rw [← hl]; exact (List.getElem?_eq_some_iff.1 hj).1
                    have hdj : d[o + j]? = some x := by
                      rw [← hj, hce, List.getElem?_take, if_pos hjl, List.getElem?_drop]
                    have hxf : VE.flat x = true := flatL_get h0 hj
                    have hlt : o + j < ((c''.toList.drop y.2).take d.length).length := by rw [← hlr.len]; omega
                    have hvr := hlr.get (o + j) x _ hdj (List.getElem?_eq_getElem hlt)
                    have hx2 := hvr.flat_eq hxf
                    have h5 : ((c''.toList.drop y.2).take d.length)[o + j]? = some x := by rw [List.getElem?_eq_getElem hlt, hx2]
                    rw [List.getElem?_take, if_pos (by omega), List.getElem?_drop] at h5
                    rw [cell_of hb, ← Array.getElem?_toList, ← h5]
                    congr 1
                    omega
      · cases hm
theorem call_sound (hE : SoundE C E) {f : FuncId} {args : List Value} {s s' : St} {v : Value} (e : acall C.P C.ro E f args s = some (v, s')) (hl : s.h.length = s.n) :
    Kept s s' ∧ ∀ (ρ : Rho) (args' : Array Value) (w : World), Rel C ρ s w → Glob C s → LR ρ args args'.toList →
      CallsIn Fence.wide 0 C.P f args' w fun e w' => ∃ v', e = .returned v' ∧ ∃ ρ', Ext s.n ρ ρ' ∧ Rel C ρ' s' w' ∧ VR ρ' v v' := by
  rcases acall_some e with ⟨hm, rfl⟩ | e
  · obtain ⟨h2, _, h4⟩ := mlook_sound (C := C) hm
    refine ⟨.refl hl, fun ρ args' w h _ ha => ?_⟩
    exact callsIn_wide.2 ((h4 ρ args' w h ha).mono fun e w' hq => ⟨v, hq.1, ρ, Ext.refl _ _, h.below hq.2, .flat _ h2⟩)
  · exact call0_sound hE e hl
end
end Go.VE
