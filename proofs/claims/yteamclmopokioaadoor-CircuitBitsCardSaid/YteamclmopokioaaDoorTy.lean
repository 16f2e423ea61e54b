/-
  The program's types.
-/
import Derived.Test.YteamclmopokioaaDoorVe6
import Derived.Test.YteamclmopokioaaDoorRows
set_option linter.unusedSimpArgs false
set_option linter.unusedVariables false
namespace Go.VE
open Go Go.Proofs
noncomputable abbrev P : Program := Tryd.prog
theorem ty_3 : tyOk P 3 1 8 (.int .i64 0) = true := by kernel_rfl
theorem isz_3 : isz P 3 = some 1 := tyOk_isz ty_3
theorem ap_3 (c : List Value) (o : Nat) : apart P 3 c o = c[o]? := by kernel_rfl
theorem ty_4 : tyOk P 4 1 1 (.bool false) = true := by kernel_rfl
theorem isz_4 : isz P 4 = some 1 := tyOk_isz ty_4
theorem ap_4 (c : List Value) (o : Nat) : apart P 4 c o = c[o]? := by kernel_rfl
theorem me_5 (n : Nat) (a : List Value) (s : St) : Mean P (n + 1) 5 a s = (∃ i, a = [.int .u8 i] ∧ (Lit.int .u8 i).wf = true) := by kernel_rfl
theorem av_5 (a : List Value) (v : Value) : AVal P 5 a v = (a = [v]) := by kernel_rfl
theorem se_23 : sliceElem P 23 = some 24 := by kernel_rfl
theorem ty_24 : tyOk P 24 1 8 (.int .u64 0) = true := by kernel_rfl
theorem isz_24 : isz P 24 = some 1 := tyOk_isz ty_24
theorem ap_24 (c : List Value) (o : Nat) : apart P 24 c o = c[o]? := by kernel_rfl
theorem me_24 (n : Nat) (a : List Value) (s : St) : Mean P (n + 1) 24 a s = (∃ i, a = [.int .u64 i] ∧ (Lit.int .u64 i).wf = true) := by kernel_rfl
theorem av_24 (a : List Value) (v : Value) : AVal P 24 a v = (a = [v]) := by kernel_rfl
theorem ap_25 (c : List Value) (o : Nat) : apart P 25 c o = c[o]? := by kernel_rfl
theorem ty_26 : tyOk P 26 1 8 (.int .i64 0) = true := by kernel_rfl
theorem isz_26 : isz P 26 = some 1 := tyOk_isz ty_26
theorem ap_26 (c : List Value) (o : Nat) : apart P 26 c o = c[o]? := by kernel_rfl
theorem ap_30 (c : List Value) (o : Nat) : apart P 30 c o = c[o]? := by kernel_rfl
theorem se_30 : sliceElem P 30 = some 3 := by kernel_rfl
theorem ty_32 : tyOk P 32 1 24 (.slice none 0 0) = true := by kernel_rfl
theorem isz_32 : isz P 32 = some 1 := tyOk_isz ty_32
theorem ap_32 (c : List Value) (o : Nat) : apart P 32 c o = c[o]? := by kernel_rfl
theorem se_32 : sliceElem P 32 = some 94 := by kernel_rfl
theorem un_32 : P.underlying 32 = some (.slice 94) := by kernel_rfl
theorem ty_34 : tyOk P 34 5 56 (.agg (.mk [(.int .i64 0), (.int .i64 0), (.int .i64 0), (.int .i64 0), (.slice none 0 0)])) = true := by kernel_rfl
theorem isz_34 : isz P 34 = some 5 := tyOk_isz ty_34
theorem ap_34 (c : List Value) (o : Nat) : apart P 34 c o = (cut c o 5).map fun l => .agg l.toArray := by kernel_rfl
theorem fa_34_0 (A o : Nat) : afieldAddr P 34 (.pointer (some ⟨A, o, none⟩)) 0 = some (.pointer (some ⟨A, o + 0, none⟩)) := by kernel_rfl
theorem fa_34_1 (A o : Nat) : afieldAddr P 34 (.pointer (some ⟨A, o, none⟩)) 1 = some (.pointer (some ⟨A, o + 1, none⟩)) := by kernel_rfl
theorem fa_34_2 (A o : Nat) : afieldAddr P 34 (.pointer (some ⟨A, o, none⟩)) 2 = some (.pointer (some ⟨A, o + 2, none⟩)) := by kernel_rfl
theorem fa_34_3 (A o : Nat) : afieldAddr P 34 (.pointer (some ⟨A, o, none⟩)) 3 = some (.pointer (some ⟨A, o + 3, none⟩)) := by kernel_rfl
theorem fa_34_4 (A o : Nat) : afieldAddr P 34 (.pointer (some ⟨A, o, none⟩)) 4 = some (.pointer (some ⟨A, o + 4, none⟩)) := by kernel_rfl
theorem ty_42 : tyOk P 42 2 16 (.agg (.mk [(.int .u64 0), (.int .u64 0)])) = true := by kernel_rfl
theorem isz_42 : isz P 42 = some 2 := tyOk_isz ty_42
theorem me_42 (n : Nat) (a : List Value) (s : St) : Mean P (n + 1) 42 a s = (∃ l : List (List Value), a = l.flatten ∧ l.length = 2 ∧ ∀ c ∈ l, c.length = 1 ∧ Mean P n 24 c s) := by kernel_rfl
theorem ty_46 : tyOk P 46 1 24 (.slice none 0 0) = true := by kernel_rfl
theorem isz_46 : isz P 46 = some 1 := tyOk_isz ty_46
theorem ap_46 (c : List Value) (o : Nat) : apart P 46 c o = c[o]? := by kernel_rfl
theorem se_46 : sliceElem P 46 = some 47 := by kernel_rfl
theorem un_46 : P.underlying 46 = some (.slice 47) := by kernel_rfl
theorem ty_47 : tyOk P 47 2 16 (.agg (.mk [(.int .i64 0), (.int .i64 0)])) = true := by kernel_rfl
theorem isz_47 : isz P 47 = some 2 := tyOk_isz ty_47
theorem ap_47 (c : List Value) (o : Nat) : apart P 47 c o = (cut c o 2).map fun l => .agg l.toArray := by kernel_rfl
theorem un_47 : P.underlying 47 = some (.array 2 3) := by kernel_rfl
theorem un_53 : P.underlying 53 = some (.array 4 3) := by kernel_rfl
theorem ty_58 : tyOk P 58 4 32 (.agg (.mk [(.int .u64 0), (.int .u64 0), (.int .u64 0), (.int .u64 0)])) = true := by kernel_rfl
theorem isz_58 : isz P 58 = some 4 := tyOk_isz ty_58
theorem ap_58 (c : List Value) (o : Nat) : apart P 58 c o = (cut c o 4).map fun l => .agg l.toArray := by kernel_rfl
theorem un_58 : P.underlying 58 = some (.array 4 24) := by kernel_rfl
theorem me_70 (n : Nat) (a : List Value) (s : St) : Mean P (n + 1) 70 a s = (∃ l : List (List Value), a = l.flatten ∧ l.length = 8 ∧ ∀ c ∈ l, c.length = 2 ∧ Mean P n 42 c s) := by kernel_rfl
theorem av_70 (a : List Value) (v : Value) : AVal P 70 a v = (v = .agg (.mk a)) := by kernel_rfl
theorem un_70 : P.underlying 70 = some (.array 8 42) := by kernel_rfl
theorem fa_81_0 (A o : Nat) : afieldAddr P 81 (.pointer (some ⟨A, o, none⟩)) 0 = some (.pointer (some ⟨A, o + 0, none⟩)) := by kernel_rfl
theorem fa_81_1 (A o : Nat) : afieldAddr P 81 (.pointer (some ⟨A, o, none⟩)) 1 = some (.pointer (some ⟨A, o + 1, none⟩)) := by kernel_rfl
theorem fa_81_2 (A o : Nat) : afieldAddr P 81 (.pointer (some ⟨A, o, none⟩)) 2 = some (.pointer (some ⟨A, o + 6, none⟩)) := by kernel_rfl
theorem ap_92 (c : List Value) (o : Nat) : apart P 92 c o = c[o]? := by kernel_rfl
theorem ty_94 : tyOk P 94 11 88 (.agg (.mk [(.int .u8 0), (.int .i64 0), (.int .i64 0), (.int .i64 0), (.int .i64 0), (.int .u64 0), (.int .u64 0), (.int .u64 0), (.int .u64 0), (.int .u64 0), (.int .i64 0)])) = true := by kernel_rfl
theorem isz_94 : isz P 94 = some 11 := tyOk_isz ty_94
theorem ap_94 (c : List Value) (o : Nat) : apart P 94 c o = (cut c o 11).map fun l => .agg l.toArray := by kernel_rfl
theorem fa_94_0 (A o : Nat) : afieldAddr P 94 (.pointer (some ⟨A, o, none⟩)) 0 = some (.pointer (some ⟨A, o + 0, none⟩)) := by kernel_rfl
theorem fa_94_1 (A o : Nat) : afieldAddr P 94 (.pointer (some ⟨A, o, none⟩)) 1 = some (.pointer (some ⟨A, o + 1, none⟩)) := by kernel_rfl
theorem fa_94_2 (A o : Nat) : afieldAddr P 94 (.pointer (some ⟨A, o, none⟩)) 2 = some (.pointer (some ⟨A, o + 5, none⟩)) := by kernel_rfl
theorem fa_94_3 (A o : Nat) : afieldAddr P 94 (.pointer (some ⟨A, o, none⟩)) 3 = some (.pointer (some ⟨A, o + 6, none⟩)) := by kernel_rfl
theorem fa_94_4 (A o : Nat) : afieldAddr P 94 (.pointer (some ⟨A, o, none⟩)) 4 = some (.pointer (some ⟨A, o + 7, none⟩)) := by kernel_rfl
theorem fa_94_5 (A o : Nat) : afieldAddr P 94 (.pointer (some ⟨A, o, none⟩)) 5 = some (.pointer (some ⟨A, o + 8, none⟩)) := by kernel_rfl
theorem fa_94_6 (A o : Nat) : afieldAddr P 94 (.pointer (some ⟨A, o, none⟩)) 6 = some (.pointer (some ⟨A, o + 9, none⟩)) := by kernel_rfl
theorem fa_94_7 (A o : Nat) : afieldAddr P 94 (.pointer (some ⟨A, o, none⟩)) 7 = some (.pointer (some ⟨A, o + 10, none⟩)) := by kernel_rfl
theorem se_97 : sliceElem P 97 = some 4 := by kernel_rfl
theorem ty_140 : tyOk P 140 5 56 (.agg (.mk [(.int .u64 0), (.int .u64 0), (.int .i64 0), (.int .i64 0), (.slice none 0 0)])) = true := by kernel_rfl
theorem isz_140 : isz P 140 = some 5 := tyOk_isz ty_140
theorem ap_140 (c : List Value) (o : Nat) : apart P 140 c o = (cut c o 5).map fun l => .agg l.toArray := by kernel_rfl
theorem fd_140_0 (l : List Value) : afield P 140 (.agg (.mk l)) 0 = apart P 24 l 0 := by kernel_rfl
theorem un_149 : P.underlying 149 = some (.array 4 140) := by kernel_rfl
theorem ty_150 : tyOk P 150 16 128 (.agg (.mk [(.int .u64 0), (.int .u64 0), (.int .u64 0), (.int .u64 0), (.int .u64 0), (.int .u64 0), (.int .u64 0), (.int .u64 0), (.int .u64 0), (.int .u64 0), (.int .u64 0), (.int .u64 0), (.int .u64 0), (.int .u64 0), (.int .u64 0), (.int .u64 0)])) = true := by kernel_rfl
theorem isz_150 : isz P 150 = some 16 := tyOk_isz ty_150
theorem un_150 : P.underlying 150 = some (.array 4 58) := by kernel_rfl
end Go.VE
