/-
  The program's types.
-/
import Derived.Test.YtkadjemloffhnaaDoorVe6
import Derived.Test.YtkadjemloffhnaaDoorRows
set_option linter.unusedSimpArgs false
set_option linter.unusedVariables false
namespace Go.VE
open Go Go.Proofs
noncomputable abbrev P : Program := Tryd.prog
theorem ty_3 : tyOk P 3 1 8 (.int .i64 0) = true := by kernel_rfl
theorem isz_3 : isz P 3 = some 1 := tyOk_isz ty_3
theorem ap_3 (c : List Value) (o : Nat) : apart P 3 c o = c[o]? := by kernel_rfl
theorem me_3 (n : Nat) (a : List Value) (s : St) : Mean P (n + 1) 3 a s = (∃ i, a = [.int .i64 i] ∧ (Lit.int .i64 i).wf = true) := by kernel_rfl
theorem ty_4 : tyOk P 4 1 1 (.bool false) = true := by kernel_rfl
theorem isz_4 : isz P 4 = some 1 := tyOk_isz ty_4
theorem ap_4 (c : List Value) (o : Nat) : apart P 4 c o = c[o]? := by kernel_rfl
theorem ap_22 (c : List Value) (o : Nat) : apart P 22 c o = c[o]? := by kernel_rfl
theorem me_22 (n : Nat) (a : List Value) (s : St) : Mean P (n + 1) 22 a s = (∃ (u : Value) (l : List (List Value)), a = [u] ∧ l.length ≤ maxLen ∧ Sl s u 11 l.length l.flatten ∧ ∀ c ∈ l, c.length = 11 ∧ Mean P n 43 c s) := by kernel_rfl
theorem se_22 : sliceElem P 22 = some 43 := by kernel_rfl
theorem ap_24 (c : List Value) (o : Nat) : apart P 24 c o = (cut c o 5).map fun l => .agg l.toArray := by kernel_rfl
theorem me_24 (n : Nat) (a : List Value) (s : St) : Mean P (n + 1) 24 a s = Parts (Mean P n) [3, 3, 3, 3, 22] a s := by kernel_rfl
theorem av_24 (a : List Value) (v : Value) : AVal P 24 a v = (v = .agg (.mk a)) := by kernel_rfl
theorem fa_24_0 (A o : Nat) : afieldAddr P 24 (.pointer (some ⟨A, o, none⟩)) 0 = some (.pointer (some ⟨A, o + 0, none⟩)) := by kernel_rfl
theorem fa_24_1 (A o : Nat) : afieldAddr P 24 (.pointer (some ⟨A, o, none⟩)) 1 = some (.pointer (some ⟨A, o + 1, none⟩)) := by kernel_rfl
theorem fa_24_2 (A o : Nat) : afieldAddr P 24 (.pointer (some ⟨A, o, none⟩)) 2 = some (.pointer (some ⟨A, o + 2, none⟩)) := by kernel_rfl
theorem fa_24_3 (A o : Nat) : afieldAddr P 24 (.pointer (some ⟨A, o, none⟩)) 3 = some (.pointer (some ⟨A, o + 3, none⟩)) := by kernel_rfl
theorem fa_24_4 (A o : Nat) : afieldAddr P 24 (.pointer (some ⟨A, o, none⟩)) 4 = some (.pointer (some ⟨A, o + 4, none⟩)) := by kernel_rfl
theorem ty_25 : tyOk P 25 1 24 (.slice none 0 0) = true := by kernel_rfl
theorem isz_25 : isz P 25 = some 1 := tyOk_isz ty_25
theorem ap_25 (c : List Value) (o : Nat) : apart P 25 c o = c[o]? := by kernel_rfl
theorem me_25 (n : Nat) (a : List Value) (s : St) : Mean P (n + 1) 25 a s = (∃ (u : Value) (l : List (List Value)), a = [u] ∧ l.length ≤ maxLen ∧ Sl s u 1 l.length l.flatten ∧ ∀ c ∈ l, c.length = 1 ∧ Mean P n 38 c s) := by kernel_rfl
theorem av_25 (a : List Value) (v : Value) : AVal P 25 a v = (a = [v]) := by kernel_rfl
theorem se_25 : sliceElem P 25 = some 38 := by kernel_rfl
theorem ty_38 : tyOk P 38 1 8 (.int .u64 0) = true := by kernel_rfl
theorem isz_38 : isz P 38 = some 1 := tyOk_isz ty_38
theorem ap_38 (c : List Value) (o : Nat) : apart P 38 c o = c[o]? := by kernel_rfl
theorem me_38 (n : Nat) (a : List Value) (s : St) : Mean P (n + 1) 38 a s = (∃ i, a = [.int .u64 i] ∧ (Lit.int .u64 i).wf = true) := by kernel_rfl
theorem ty_39 : tyOk P 39 4 32 (.agg (.mk [(.int .u64 0), (.int .u64 0), (.int .u64 0), (.int .u64 0)])) = true := by kernel_rfl
theorem isz_39 : isz P 39 = some 4 := tyOk_isz ty_39
theorem ap_39 (c : List Value) (o : Nat) : apart P 39 c o = (cut c o 4).map fun l => .agg l.toArray := by kernel_rfl
theorem un_39 : P.underlying 39 = some (.array 4 38) := by kernel_rfl
theorem ap_40 (c : List Value) (o : Nat) : apart P 40 c o = c[o]? := by kernel_rfl
theorem me_40 (n : Nat) (a : List Value) (s : St) : Mean P (n + 1) 40 a s = (∃ i, a = [.int .u8 i] ∧ (Lit.int .u8 i).wf = true) := by kernel_rfl
theorem me_41 (n : Nat) (a : List Value) (s : St) : Mean P (n + 1) 41 a s = (∃ l : List (List Value), a = l.flatten ∧ l.length = 4 ∧ ∀ c ∈ l, c.length = 1 ∧ Mean P n 3 c s) := by kernel_rfl
theorem un_41 : P.underlying 41 = some (.array 4 3) := by kernel_rfl
theorem ty_43 : tyOk P 43 11 88 (.agg (.mk [(.int .u8 0), (.int .i64 0), (.int .i64 0), (.int .i64 0), (.int .i64 0), (.int .u64 0), (.int .u64 0), (.int .u64 0), (.int .u64 0), (.int .u64 0), (.int .i64 0)])) = true := by kernel_rfl
theorem isz_43 : isz P 43 = some 11 := tyOk_isz ty_43
theorem ap_43 (c : List Value) (o : Nat) : apart P 43 c o = (cut c o 11).map fun l => .agg l.toArray := by kernel_rfl
theorem me_43 (n : Nat) (a : List Value) (s : St) : Mean P (n + 1) 43 a s = Parts (Mean P n) [40, 41, 38, 38, 38, 38, 38, 3] a s := by kernel_rfl
theorem fa_43_0 (A o : Nat) : afieldAddr P 43 (.pointer (some ⟨A, o, none⟩)) 0 = some (.pointer (some ⟨A, o + 0, none⟩)) := by kernel_rfl
theorem fa_43_1 (A o : Nat) : afieldAddr P 43 (.pointer (some ⟨A, o, none⟩)) 1 = some (.pointer (some ⟨A, o + 1, none⟩)) := by kernel_rfl
theorem fa_43_2 (A o : Nat) : afieldAddr P 43 (.pointer (some ⟨A, o, none⟩)) 2 = some (.pointer (some ⟨A, o + 5, none⟩)) := by kernel_rfl
theorem fa_43_3 (A o : Nat) : afieldAddr P 43 (.pointer (some ⟨A, o, none⟩)) 3 = some (.pointer (some ⟨A, o + 6, none⟩)) := by kernel_rfl
theorem fa_43_4 (A o : Nat) : afieldAddr P 43 (.pointer (some ⟨A, o, none⟩)) 4 = some (.pointer (some ⟨A, o + 7, none⟩)) := by kernel_rfl
theorem fa_43_5 (A o : Nat) : afieldAddr P 43 (.pointer (some ⟨A, o, none⟩)) 5 = some (.pointer (some ⟨A, o + 8, none⟩)) := by kernel_rfl
theorem fa_43_6 (A o : Nat) : afieldAddr P 43 (.pointer (some ⟨A, o, none⟩)) 6 = some (.pointer (some ⟨A, o + 9, none⟩)) := by kernel_rfl
theorem fa_43_7 (A o : Nat) : afieldAddr P 43 (.pointer (some ⟨A, o, none⟩)) 7 = some (.pointer (some ⟨A, o + 10, none⟩)) := by kernel_rfl
theorem se_49 : sliceElem P 49 = some 3 := by kernel_rfl
theorem ty_52 : tyOk P 52 1 24 (.slice none 0 0) = true := by kernel_rfl
theorem isz_52 : isz P 52 = some 1 := tyOk_isz ty_52
theorem ap_52 (c : List Value) (o : Nat) : apart P 52 c o = c[o]? := by kernel_rfl
theorem se_52 : sliceElem P 52 = some 4 := by kernel_rfl
theorem ty_70 : tyOk P 70 4 4 (.agg (.mk [(.bool false), (.bool false), (.bool false), (.bool false)])) = true := by kernel_rfl
theorem isz_70 : isz P 70 = some 4 := tyOk_isz ty_70
theorem ap_70 (c : List Value) (o : Nat) : apart P 70 c o = (cut c o 4).map fun l => .agg l.toArray := by kernel_rfl
theorem ty_75 : tyOk P 75 5 56 (.agg (.mk [(.int .u64 0), (.int .u64 0), (.int .i64 0), (.int .i64 0), (.slice none 0 0)])) = true := by kernel_rfl
theorem isz_75 : isz P 75 = some 5 := tyOk_isz ty_75
theorem ap_75 (c : List Value) (o : Nat) : apart P 75 c o = (cut c o 5).map fun l => .agg l.toArray := by kernel_rfl
theorem fd_75_0 (l : List Value) : afield P 75 (.agg (.mk l)) 0 = apart P 38 l 0 := by kernel_rfl
theorem fd_75_1 (l : List Value) : afield P 75 (.agg (.mk l)) 1 = apart P 38 l 1 := by kernel_rfl
theorem fd_75_3 (l : List Value) : afield P 75 (.agg (.mk l)) 3 = apart P 3 l 3 := by kernel_rfl
theorem ty_79 : tyOk P 79 3 24 (.agg (.mk [(.int .u64 0), (.int .u64 0), (.bool false)])) = true := by kernel_rfl
theorem isz_79 : isz P 79 = some 3 := tyOk_isz ty_79
theorem ap_79 (c : List Value) (o : Nat) : apart P 79 c o = (cut c o 3).map fun l => .agg l.toArray := by kernel_rfl
theorem un_88 : P.underlying 88 = some (.array 4 75) := by kernel_rfl
end Go.VE
