/-
  The program's types.
-/
import Derived.Test.YtonfahekhieobaaDoorVe6
import Derived.Test.YtonfahekhieobaaDoorRows
set_option linter.unusedSimpArgs false
set_option linter.unusedVariables false
namespace Go.VE
open Go Go.Proofs
noncomputable abbrev P : Program := Tryd.prog
theorem ty_3 : tyOk P 3 1 8 (.int .i64 0) = true := by kernel_rfl
theorem isz_3 : isz P 3 = some 1 := tyOk_isz ty_3
theorem ap_3 (c : List Value) (o : Nat) : apart P 3 c o = c[o]? := by kernel_rfl
theorem me_3 (n : Nat) (a : List Value) (s : St) : Mean P (n + 1) 3 a s = (∃ i, a = [.int .i64 i] ∧ (Lit.int .i64 i).wf = true) := by kernel_rfl
theorem ap_23 (c : List Value) (o : Nat) : apart P 23 c o = (cut c o 9).map fun l => .agg l.toArray := by kernel_rfl
theorem me_23 (n : Nat) (a : List Value) (s : St) : Mean P (n + 1) 23 a s = Parts (Mean P n) [3, 3, 3, 3, 3, 3, 3, 3, 3] a s := by kernel_rfl
theorem av_23 (a : List Value) (v : Value) : AVal P 23 a v = (v = .agg (.mk a)) := by kernel_rfl
theorem fa_23_0 (A o : Nat) : afieldAddr P 23 (.pointer (some ⟨A, o, none⟩)) 0 = some (.pointer (some ⟨A, o + 0, none⟩)) := by kernel_rfl
theorem fa_23_1 (A o : Nat) : afieldAddr P 23 (.pointer (some ⟨A, o, none⟩)) 1 = some (.pointer (some ⟨A, o + 1, none⟩)) := by kernel_rfl
theorem fa_23_2 (A o : Nat) : afieldAddr P 23 (.pointer (some ⟨A, o, none⟩)) 2 = some (.pointer (some ⟨A, o + 2, none⟩)) := by kernel_rfl
theorem fa_23_3 (A o : Nat) : afieldAddr P 23 (.pointer (some ⟨A, o, none⟩)) 3 = some (.pointer (some ⟨A, o + 3, none⟩)) := by kernel_rfl
theorem fa_23_4 (A o : Nat) : afieldAddr P 23 (.pointer (some ⟨A, o, none⟩)) 4 = some (.pointer (some ⟨A, o + 4, none⟩)) := by kernel_rfl
theorem fa_23_5 (A o : Nat) : afieldAddr P 23 (.pointer (some ⟨A, o, none⟩)) 5 = some (.pointer (some ⟨A, o + 5, none⟩)) := by kernel_rfl
theorem fa_23_6 (A o : Nat) : afieldAddr P 23 (.pointer (some ⟨A, o, none⟩)) 6 = some (.pointer (some ⟨A, o + 6, none⟩)) := by kernel_rfl
theorem fa_23_7 (A o : Nat) : afieldAddr P 23 (.pointer (some ⟨A, o, none⟩)) 7 = some (.pointer (some ⟨A, o + 7, none⟩)) := by kernel_rfl
theorem fa_23_8 (A o : Nat) : afieldAddr P 23 (.pointer (some ⟨A, o, none⟩)) 8 = some (.pointer (some ⟨A, o + 8, none⟩)) := by kernel_rfl
theorem ty_24 : tyOk P 24 1 24 (.slice none 0 0) = true := by kernel_rfl
theorem isz_24 : isz P 24 = some 1 := tyOk_isz ty_24
theorem ap_24 (c : List Value) (o : Nat) : apart P 24 c o = c[o]? := by kernel_rfl
theorem se_24 : sliceElem P 24 = some 30 := by kernel_rfl
theorem un_24 : P.underlying 24 = some (.slice 30) := by kernel_rfl
theorem ty_30 : tyOk P 30 4 32 (.agg (.mk [(.int .u8 0), (.int .i64 0), (.int .i64 0), (.int .i64 0)])) = true := by kernel_rfl
theorem isz_30 : isz P 30 = some 4 := tyOk_isz ty_30
theorem ap_30 (c : List Value) (o : Nat) : apart P 30 c o = (cut c o 4).map fun l => .agg l.toArray := by kernel_rfl
theorem fa_30_3 (A o : Nat) : afieldAddr P 30 (.pointer (some ⟨A, o, none⟩)) 3 = some (.pointer (some ⟨A, o + 3, none⟩)) := by kernel_rfl
theorem ty_71 : tyOk P 71 6 48 (.agg (.mk [(.int .i64 0), (.int .i64 0), (.int .i64 0), (.int .i64 0), (.int .i64 0), (.int .i64 0)])) = true := by kernel_rfl
theorem isz_71 : isz P 71 = some 6 := tyOk_isz ty_71
theorem ap_71 (c : List Value) (o : Nat) : apart P 71 c o = (cut c o 6).map fun l => .agg l.toArray := by kernel_rfl
theorem un_71 : P.underlying 71 = some (.array 6 3) := by kernel_rfl
theorem ty_102 : tyOk P 102 2 16 (.agg (.mk [(.int .i64 0), (.int .i64 0)])) = true := by kernel_rfl
theorem isz_102 : isz P 102 = some 2 := tyOk_isz ty_102
theorem ap_102 (c : List Value) (o : Nat) : apart P 102 c o = (cut c o 2).map fun l => .agg l.toArray := by kernel_rfl
theorem fa_102_0 (A o : Nat) : afieldAddr P 102 (.pointer (some ⟨A, o, none⟩)) 0 = some (.pointer (some ⟨A, o + 0, none⟩)) := by kernel_rfl
theorem fa_102_1 (A o : Nat) : afieldAddr P 102 (.pointer (some ⟨A, o, none⟩)) 1 = some (.pointer (some ⟨A, o + 1, none⟩)) := by kernel_rfl
theorem ty_107 : tyOk P 107 5 56 (.agg (.mk [(.int .u64 0), (.int .u64 0), (.int .i64 0), (.int .i64 0), (.slice none 0 0)])) = true := by kernel_rfl
theorem isz_107 : isz P 107 = some 5 := tyOk_isz ty_107
theorem ap_107 (c : List Value) (o : Nat) : apart P 107 c o = (cut c o 5).map fun l => .agg l.toArray := by kernel_rfl
theorem fd_107_2 (l : List Value) : afield P 107 (.agg (.mk l)) 2 = apart P 3 l 2 := by kernel_rfl
theorem un_129 : P.underlying 129 = some (.array 4 107) := by kernel_rfl
end Go.VE
