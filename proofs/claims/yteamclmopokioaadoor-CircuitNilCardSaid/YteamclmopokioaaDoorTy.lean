/-
  The program's types.
-/
import Derived.Test.YteamclmopokioaaDoorVe6
import Derived.Test.YteamclmopokioaaDoorRows
set_option linter.unusedSimpArgs false
set_option linter.unusedVariables false
namespace Go.VE
open Go Go.Proofs
noncomputable abbrev P : Program := Tryd.prog
theorem ty_3 : tyOk P 3 1 8 (.int .i64 0) = true := by kernel_rfl
theorem isz_3 : isz P 3 = some 1 := tyOk_isz ty_3
theorem ap_3 (c : List Value) (o : Nat) : apart P 3 c o = c[o]? := by kernel_rfl
theorem me_3 (n : Nat) (a : List Value) (s : St) : Mean P (n + 1) 3 a s = (∃ i, a = [.int .i64 i] ∧ (Lit.int .i64 i).wf = true) := by kernel_rfl
theorem ap_4 (c : List Value) (o : Nat) : apart P 4 c o = c[o]? := by kernel_rfl
theorem ap_5 (c : List Value) (o : Nat) : apart P 5 c o = c[o]? := by kernel_rfl
theorem me_5 (n : Nat) (a : List Value) (s : St) : Mean P (n + 1) 5 a s = (∃ i, a = [.int .u8 i] ∧ (Lit.int .u8 i).wf = true) := by kernel_rfl
theorem se_23 : sliceElem P 23 = some 24 := by kernel_rfl
theorem ty_24 : tyOk P 24 1 8 (.int .u64 0) = true := by kernel_rfl
theorem ap_24 (c : List Value) (o : Nat) : apart P 24 c o = c[o]? := by kernel_rfl
theorem me_24 (n : Nat) (a : List Value) (s : St) : Mean P (n + 1) 24 a s = (∃ i, a = [.int .u64 i] ∧ (Lit.int .u64 i).wf = true) := by kernel_rfl
theorem ap_25 (c : List Value) (o : Nat) : apart P 25 c o = c[o]? := by kernel_rfl
theorem ap_30 (c : List Value) (o : Nat) : apart P 30 c o = c[o]? := by kernel_rfl
theorem me_30 (n : Nat) (a : List Value) (s : St) : Mean P (n + 1) 30 a s = (∃ (u : Value) (l : List (List Value)), a = [u] ∧ l.length ≤ maxLen ∧ Sl s u 1 l.length l.flatten ∧ ∀ c ∈ l, c.length = 1 ∧ Mean P n 3 c s) := by kernel_rfl
theorem se_30 : sliceElem P 30 = some 3 := by kernel_rfl
theorem ty_34 : tyOk P 34 5 56 (.agg (.mk [(.int .i64 0), (.int .i64 0), (.int .i64 0), (.int .i64 0), (.slice none 0 0)])) = true := by kernel_rfl
theorem isz_34 : isz P 34 = some 5 := tyOk_isz ty_34
theorem ap_34 (c : List Value) (o : Nat) : apart P 34 c o = (cut c o 5).map fun l => .agg l.toArray := by kernel_rfl
theorem se_46 : sliceElem P 46 = some 47 := by kernel_rfl
theorem ty_47 : tyOk P 47 2 16 (.agg (.mk [(.int .i64 0), (.int .i64 0)])) = true := by kernel_rfl
theorem isz_47 : isz P 47 = some 2 := tyOk_isz ty_47
theorem ap_47 (c : List Value) (o : Nat) : apart P 47 c o = (cut c o 2).map fun l => .agg l.toArray := by kernel_rfl
theorem un_47 : P.underlying 47 = some (.array 2 3) := by kernel_rfl
theorem ty_53 : tyOk P 53 4 32 (.agg (.mk [(.int .i64 0), (.int .i64 0), (.int .i64 0), (.int .i64 0)])) = true := by kernel_rfl
theorem isz_53 : isz P 53 = some 4 := tyOk_isz ty_53
theorem ap_53 (c : List Value) (o : Nat) : apart P 53 c o = (cut c o 4).map fun l => .agg l.toArray := by kernel_rfl
theorem un_53 : P.underlying 53 = some (.array 4 3) := by kernel_rfl
theorem ap_79 (c : List Value) (o : Nat) : apart P 79 c o = (cut c o 5).map fun l => .agg l.toArray := by kernel_rfl
theorem me_79 (n : Nat) (a : List Value) (s : St) : Mean P (n + 1) 79 a s = Parts (Mean P n) [5, 30, 24, 24, 24] a s := by kernel_rfl
theorem av_79 (a : List Value) (v : Value) : AVal P 79 a v = (v = .agg (.mk a)) := by kernel_rfl
theorem fa_79_0 (A o : Nat) : afieldAddr P 79 (.pointer (some ⟨A, o, none⟩)) 0 = some (.pointer (some ⟨A, o + 0, none⟩)) := by kernel_rfl
theorem fa_79_1 (A o : Nat) : afieldAddr P 79 (.pointer (some ⟨A, o, none⟩)) 1 = some (.pointer (some ⟨A, o + 1, none⟩)) := by kernel_rfl
theorem fa_79_2 (A o : Nat) : afieldAddr P 79 (.pointer (some ⟨A, o, none⟩)) 2 = some (.pointer (some ⟨A, o + 2, none⟩)) := by kernel_rfl
theorem fa_79_3 (A o : Nat) : afieldAddr P 79 (.pointer (some ⟨A, o, none⟩)) 3 = some (.pointer (some ⟨A, o + 3, none⟩)) := by kernel_rfl
theorem fa_79_4 (A o : Nat) : afieldAddr P 79 (.pointer (some ⟨A, o, none⟩)) 4 = some (.pointer (some ⟨A, o + 4, none⟩)) := by kernel_rfl
theorem fa_81_0 (A o : Nat) : afieldAddr P 81 (.pointer (some ⟨A, o, none⟩)) 0 = some (.pointer (some ⟨A, o + 0, none⟩)) := by kernel_rfl
theorem ty_140 : tyOk P 140 5 56 (.agg (.mk [(.int .u64 0), (.int .u64 0), (.int .i64 0), (.int .i64 0), (.slice none 0 0)])) = true := by kernel_rfl
theorem isz_140 : isz P 140 = some 5 := tyOk_isz ty_140
theorem ap_140 (c : List Value) (o : Nat) : apart P 140 c o = (cut c o 5).map fun l => .agg l.toArray := by kernel_rfl
theorem fd_140_0 (l : List Value) : afield P 140 (.agg (.mk l)) 0 = apart P 24 l 0 := by kernel_rfl
theorem un_149 : P.underlying 149 = some (.array 4 140) := by kernel_rfl
end Go.VE
