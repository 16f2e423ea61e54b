/-
  The program's types.
-/
import Derived.Test.YtonfahekhieobaaDoorVe6
import Derived.Test.YtonfahekhieobaaDoorRows
set_option linter.unusedSimpArgs false
set_option linter.unusedVariables false
namespace Go.VE
open Go Go.Proofs
noncomputable abbrev P : Program := Tryd.prog
theorem ap_3 (c : List Value) (o : Nat) : apart P 3 c o = c[o]? := by kernel_rfl
theorem me_3 (n : Nat) (a : List Value) (s : St) : Mean P (n + 1) 3 a s = (∃ i, a = [.int .i64 i] ∧ (Lit.int .i64 i).wf = true) := by kernel_rfl
theorem ty_4 : tyOk P 4 1 1 (.bool false) = true := by kernel_rfl
theorem isz_4 : isz P 4 = some 1 := tyOk_isz ty_4
theorem ap_4 (c : List Value) (o : Nat) : apart P 4 c o = c[o]? := by kernel_rfl
theorem ty_5 : tyOk P 5 1 1 (.int .u8 0) = true := by kernel_rfl
theorem isz_5 : isz P 5 = some 1 := tyOk_isz ty_5
theorem ap_5 (c : List Value) (o : Nat) : apart P 5 c o = c[o]? := by kernel_rfl
theorem me_5 (n : Nat) (a : List Value) (s : St) : Mean P (n + 1) 5 a s = (∃ i, a = [.int .u8 i] ∧ (Lit.int .u8 i).wf = true) := by kernel_rfl
theorem av_5 (a : List Value) (v : Value) : AVal P 5 a v = (a = [v]) := by kernel_rfl
theorem ty_23 : tyOk P 23 9 72 (.agg (.mk [(.int .i64 0), (.int .i64 0), (.int .i64 0), (.int .i64 0), (.int .i64 0), (.int .i64 0), (.int .i64 0), (.int .i64 0), (.int .i64 0)])) = true := by kernel_rfl
theorem isz_23 : isz P 23 = some 9 := tyOk_isz ty_23
theorem ap_23 (c : List Value) (o : Nat) : apart P 23 c o = (cut c o 9).map fun l => .agg l.toArray := by kernel_rfl
theorem me_23 (n : Nat) (a : List Value) (s : St) : Mean P (n + 1) 23 a s = Parts (Mean P n) [3, 3, 3, 3, 3, 3, 3, 3, 3] a s := by kernel_rfl
theorem av_23 (a : List Value) (v : Value) : AVal P 23 a v = (v = .agg (.mk a)) := by kernel_rfl
theorem fa_23_0 (A o : Nat) : afieldAddr P 23 (.pointer (some ⟨A, o, none⟩)) 0 = some (.pointer (some ⟨A, o + 0, none⟩)) := by kernel_rfl
theorem fa_23_1 (A o : Nat) : afieldAddr P 23 (.pointer (some ⟨A, o, none⟩)) 1 = some (.pointer (some ⟨A, o + 1, none⟩)) := by kernel_rfl
theorem fa_23_2 (A o : Nat) : afieldAddr P 23 (.pointer (some ⟨A, o, none⟩)) 2 = some (.pointer (some ⟨A, o + 2, none⟩)) := by kernel_rfl
theorem fa_23_3 (A o : Nat) : afieldAddr P 23 (.pointer (some ⟨A, o, none⟩)) 3 = some (.pointer (some ⟨A, o + 3, none⟩)) := by kernel_rfl
theorem fa_23_4 (A o : Nat) : afieldAddr P 23 (.pointer (some ⟨A, o, none⟩)) 4 = some (.pointer (some ⟨A, o + 4, none⟩)) := by kernel_rfl
theorem fa_23_5 (A o : Nat) : afieldAddr P 23 (.pointer (some ⟨A, o, none⟩)) 5 = some (.pointer (some ⟨A, o + 5, none⟩)) := by kernel_rfl
theorem fa_23_6 (A o : Nat) : afieldAddr P 23 (.pointer (some ⟨A, o, none⟩)) 6 = some (.pointer (some ⟨A, o + 6, none⟩)) := by kernel_rfl
theorem fa_23_7 (A o : Nat) : afieldAddr P 23 (.pointer (some ⟨A, o, none⟩)) 7 = some (.pointer (some ⟨A, o + 7, none⟩)) := by kernel_rfl
theorem fa_23_8 (A o : Nat) : afieldAddr P 23 (.pointer (some ⟨A, o, none⟩)) 8 = some (.pointer (some ⟨A, o + 8, none⟩)) := by kernel_rfl
theorem ty_24 : tyOk P 24 1 24 (.slice none 0 0) = true := by kernel_rfl
theorem isz_24 : isz P 24 = some 1 := tyOk_isz ty_24
theorem ap_24 (c : List Value) (o : Nat) : apart P 24 c o = c[o]? := by kernel_rfl
theorem se_24 : sliceElem P 24 = some 30 := by kernel_rfl
theorem un_24 : P.underlying 24 = some (.slice 30) := by kernel_rfl
theorem ap_28 (c : List Value) (o : Nat) : apart P 28 c o = c[o]? := by kernel_rfl
theorem ty_30 : tyOk P 30 4 32 (.agg (.mk [(.int .u8 0), (.int .i64 0), (.int .i64 0), (.int .i64 0)])) = true := by kernel_rfl
theorem isz_30 : isz P 30 = some 4 := tyOk_isz ty_30
theorem ap_30 (c : List Value) (o : Nat) : apart P 30 c o = (cut c o 4).map fun l => .agg l.toArray := by kernel_rfl
theorem fa_30_0 (A o : Nat) : afieldAddr P 30 (.pointer (some ⟨A, o, none⟩)) 0 = some (.pointer (some ⟨A, o + 0, none⟩)) := by kernel_rfl
theorem fa_30_1 (A o : Nat) : afieldAddr P 30 (.pointer (some ⟨A, o, none⟩)) 1 = some (.pointer (some ⟨A, o + 1, none⟩)) := by kernel_rfl
theorem fa_30_2 (A o : Nat) : afieldAddr P 30 (.pointer (some ⟨A, o, none⟩)) 2 = some (.pointer (some ⟨A, o + 2, none⟩)) := by kernel_rfl
theorem fa_30_3 (A o : Nat) : afieldAddr P 30 (.pointer (some ⟨A, o, none⟩)) 3 = some (.pointer (some ⟨A, o + 3, none⟩)) := by kernel_rfl
theorem ty_32 : tyOk P 32 1 24 (.slice none 0 0) = true := by kernel_rfl
theorem isz_32 : isz P 32 = some 1 := tyOk_isz ty_32
theorem ap_32 (c : List Value) (o : Nat) : apart P 32 c o = c[o]? := by kernel_rfl
theorem se_32 : sliceElem P 32 = some 5 := by kernel_rfl
theorem un_32 : P.underlying 32 = some (.slice 5) := by kernel_rfl
theorem ty_33 : tyOk P 33 1 24 (.slice none 0 0) = true := by kernel_rfl
theorem isz_33 : isz P 33 = some 1 := tyOk_isz ty_33
theorem ap_33 (c : List Value) (o : Nat) : apart P 33 c o = c[o]? := by kernel_rfl
theorem se_33 : sliceElem P 33 = some 55 := by kernel_rfl
theorem ty_34 : tyOk P 34 1 8 (.int .u64 0) = true := by kernel_rfl
theorem isz_34 : isz P 34 = some 1 := tyOk_isz ty_34
theorem ap_34 (c : List Value) (o : Nat) : apart P 34 c o = c[o]? := by kernel_rfl
theorem me_34 (n : Nat) (a : List Value) (s : St) : Mean P (n + 1) 34 a s = (∃ i, a = [.int .u64 i] ∧ (Lit.int .u64 i).wf = true) := by kernel_rfl
theorem av_34 (a : List Value) (v : Value) : AVal P 34 a v = (a = [v]) := by kernel_rfl
theorem ap_35 (c : List Value) (o : Nat) : apart P 35 c o = c[o]? := by kernel_rfl
theorem se_35 : sliceElem P 35 = some 33 := by kernel_rfl
theorem un_35 : P.underlying 35 = some (.slice 33) := by kernel_rfl
theorem ty_36 : tyOk P 36 1 24 (.slice none 0 0) = true := by kernel_rfl
theorem isz_36 : isz P 36 = some 1 := tyOk_isz ty_36
theorem ap_36 (c : List Value) (o : Nat) : apart P 36 c o = c[o]? := by kernel_rfl
theorem se_36 : sliceElem P 36 = some 34 := by kernel_rfl
theorem un_36 : P.underlying 36 = some (.slice 34) := by kernel_rfl
theorem ap_37 (c : List Value) (o : Nat) : apart P 37 c o = c[o]? := by kernel_rfl
theorem se_37 : sliceElem P 37 = some 59 := by kernel_rfl
theorem un_37 : P.underlying 37 = some (.slice 59) := by kernel_rfl
theorem ty_39 : tyOk P 39 8 160 (.agg (.mk [(.slice none 0 0), (.slice none 0 0), (.slice none 0 0), (.int .u64 0), (.slice none 0 0), (.slice none 0 0), (.int .u64 0), (.slice none 0 0)])) = true := by kernel_rfl
theorem isz_39 : isz P 39 = some 8 := tyOk_isz ty_39
theorem ap_39 (c : List Value) (o : Nat) : apart P 39 c o = (cut c o 8).map fun l => .agg l.toArray := by kernel_rfl
theorem fa_39_0 (A o : Nat) : afieldAddr P 39 (.pointer (some ⟨A, o, none⟩)) 0 = some (.pointer (some ⟨A, o + 0, none⟩)) := by kernel_rfl
theorem fa_39_1 (A o : Nat) : afieldAddr P 39 (.pointer (some ⟨A, o, none⟩)) 1 = some (.pointer (some ⟨A, o + 1, none⟩)) := by kernel_rfl
theorem fa_39_2 (A o : Nat) : afieldAddr P 39 (.pointer (some ⟨A, o, none⟩)) 2 = some (.pointer (some ⟨A, o + 2, none⟩)) := by kernel_rfl
theorem fa_39_3 (A o : Nat) : afieldAddr P 39 (.pointer (some ⟨A, o, none⟩)) 3 = some (.pointer (some ⟨A, o + 3, none⟩)) := by kernel_rfl
theorem fa_39_4 (A o : Nat) : afieldAddr P 39 (.pointer (some ⟨A, o, none⟩)) 4 = some (.pointer (some ⟨A, o + 4, none⟩)) := by kernel_rfl
theorem fa_39_5 (A o : Nat) : afieldAddr P 39 (.pointer (some ⟨A, o, none⟩)) 5 = some (.pointer (some ⟨A, o + 5, none⟩)) := by kernel_rfl
theorem fa_39_6 (A o : Nat) : afieldAddr P 39 (.pointer (some ⟨A, o, none⟩)) 6 = some (.pointer (some ⟨A, o + 6, none⟩)) := by kernel_rfl
theorem fa_39_7 (A o : Nat) : afieldAddr P 39 (.pointer (some ⟨A, o, none⟩)) 7 = some (.pointer (some ⟨A, o + 7, none⟩)) := by kernel_rfl
theorem me_51 (n : Nat) (a : List Value) (s : St) : Mean P (n + 1) 51 a s = (∃ i, a = [.int .u32 i] ∧ (Lit.int .u32 i).wf = true) := by kernel_rfl
theorem av_51 (a : List Value) (v : Value) : AVal P 51 a v = (a = [v]) := by kernel_rfl
theorem ty_55 : tyOk P 55 2 16 (.agg (.mk [(.int .u64 0), (.int .u64 0)])) = true := by kernel_rfl
theorem isz_55 : isz P 55 = some 2 := tyOk_isz ty_55
theorem ap_55 (c : List Value) (o : Nat) : apart P 55 c o = (cut c o 2).map fun l => .agg l.toArray := by kernel_rfl
theorem un_55 : P.underlying 55 = some (.array 2 34) := by kernel_rfl
theorem ty_57 : tyOk P 57 1 24 (.slice none 0 0) = true := by kernel_rfl
theorem isz_57 : isz P 57 = some 1 := tyOk_isz ty_57
theorem ap_57 (c : List Value) (o : Nat) : apart P 57 c o = c[o]? := by kernel_rfl
theorem se_57 : sliceElem P 57 = some 114 := by kernel_rfl
theorem un_57 : P.underlying 57 = some (.slice 114) := by kernel_rfl
theorem ty_59 : tyOk P 59 13 312 (.agg (.mk [(.slice none 0 0), (.slice none 0 0), (.slice none 0 0), (.slice none 0 0), (.slice none 0 0), (.slice none 0 0), (.slice none 0 0), (.slice none 0 0), (.slice none 0 0), (.slice none 0 0), (.slice none 0 0), (.slice none 0 0), (.slice none 0 0)])) = true := by kernel_rfl
theorem isz_59 : isz P 59 = some 13 := tyOk_isz ty_59
theorem ap_59 (c : List Value) (o : Nat) : apart P 59 c o = (cut c o 13).map fun l => .agg l.toArray := by kernel_rfl
theorem fa_59_0 (A o : Nat) : afieldAddr P 59 (.pointer (some ⟨A, o, none⟩)) 0 = some (.pointer (some ⟨A, o + 0, none⟩)) := by kernel_rfl
theorem fa_59_1 (A o : Nat) : afieldAddr P 59 (.pointer (some ⟨A, o, none⟩)) 1 = some (.pointer (some ⟨A, o + 1, none⟩)) := by kernel_rfl
theorem fa_59_2 (A o : Nat) : afieldAddr P 59 (.pointer (some ⟨A, o, none⟩)) 2 = some (.pointer (some ⟨A, o + 2, none⟩)) := by kernel_rfl
theorem fa_59_3 (A o : Nat) : afieldAddr P 59 (.pointer (some ⟨A, o, none⟩)) 3 = some (.pointer (some ⟨A, o + 3, none⟩)) := by kernel_rfl
theorem fa_59_4 (A o : Nat) : afieldAddr P 59 (.pointer (some ⟨A, o, none⟩)) 4 = some (.pointer (some ⟨A, o + 4, none⟩)) := by kernel_rfl
theorem fa_59_5 (A o : Nat) : afieldAddr P 59 (.pointer (some ⟨A, o, none⟩)) 5 = some (.pointer (some ⟨A, o + 5, none⟩)) := by kernel_rfl
theorem fa_59_6 (A o : Nat) : afieldAddr P 59 (.pointer (some ⟨A, o, none⟩)) 6 = some (.pointer (some ⟨A, o + 6, none⟩)) := by kernel_rfl
theorem fa_59_7 (A o : Nat) : afieldAddr P 59 (.pointer (some ⟨A, o, none⟩)) 7 = some (.pointer (some ⟨A, o + 7, none⟩)) := by kernel_rfl
theorem fa_59_8 (A o : Nat) : afieldAddr P 59 (.pointer (some ⟨A, o, none⟩)) 8 = some (.pointer (some ⟨A, o + 8, none⟩)) := by kernel_rfl
theorem fa_59_9 (A o : Nat) : afieldAddr P 59 (.pointer (some ⟨A, o, none⟩)) 9 = some (.pointer (some ⟨A, o + 9, none⟩)) := by kernel_rfl
theorem fa_59_10 (A o : Nat) : afieldAddr P 59 (.pointer (some ⟨A, o, none⟩)) 10 = some (.pointer (some ⟨A, o + 10, none⟩)) := by kernel_rfl
theorem fa_59_11 (A o : Nat) : afieldAddr P 59 (.pointer (some ⟨A, o, none⟩)) 11 = some (.pointer (some ⟨A, o + 11, none⟩)) := by kernel_rfl
theorem fa_59_12 (A o : Nat) : afieldAddr P 59 (.pointer (some ⟨A, o, none⟩)) 12 = some (.pointer (some ⟨A, o + 12, none⟩)) := by kernel_rfl
theorem ty_71 : tyOk P 71 6 48 (.agg (.mk [(.int .i64 0), (.int .i64 0), (.int .i64 0), (.int .i64 0), (.int .i64 0), (.int .i64 0)])) = true := by kernel_rfl
theorem isz_71 : isz P 71 = some 6 := tyOk_isz ty_71
theorem ap_71 (c : List Value) (o : Nat) : apart P 71 c o = (cut c o 6).map fun l => .agg l.toArray := by kernel_rfl
theorem ty_77 : tyOk P 77 1 8 (.pointer none) = true := by kernel_rfl
theorem isz_77 : isz P 77 = some 1 := tyOk_isz ty_77
theorem ap_77 (c : List Value) (o : Nat) : apart P 77 c o = c[o]? := by kernel_rfl
theorem ty_78 : tyOk P 78 1 8 (.pointer none) = true := by kernel_rfl
theorem isz_78 : isz P 78 = some 1 := tyOk_isz ty_78
theorem ap_78 (c : List Value) (o : Nat) : apart P 78 c o = c[o]? := by kernel_rfl
theorem ap_79 (c : List Value) (o : Nat) : apart P 79 c o = c[o]? := by kernel_rfl
theorem ap_80 (c : List Value) (o : Nat) : apart P 80 c o = c[o]? := by kernel_rfl
theorem ty_82 : tyOk P 82 4 32 (.agg (.mk [(.pointer none), (.pointer none), (.pointer none), (.pointer none)])) = true := by kernel_rfl
theorem isz_82 : isz P 82 = some 4 := tyOk_isz ty_82
theorem ap_82 (c : List Value) (o : Nat) : apart P 82 c o = (cut c o 4).map fun l => .agg l.toArray := by kernel_rfl
theorem fa_82_0 (A o : Nat) : afieldAddr P 82 (.pointer (some ⟨A, o, none⟩)) 0 = some (.pointer (some ⟨A, o + 0, none⟩)) := by kernel_rfl
theorem fa_82_1 (A o : Nat) : afieldAddr P 82 (.pointer (some ⟨A, o, none⟩)) 1 = some (.pointer (some ⟨A, o + 1, none⟩)) := by kernel_rfl
theorem fa_82_2 (A o : Nat) : afieldAddr P 82 (.pointer (some ⟨A, o, none⟩)) 2 = some (.pointer (some ⟨A, o + 2, none⟩)) := by kernel_rfl
theorem fa_82_3 (A o : Nat) : afieldAddr P 82 (.pointer (some ⟨A, o, none⟩)) 3 = some (.pointer (some ⟨A, o + 3, none⟩)) := by kernel_rfl
theorem ty_83 : tyOk P 83 1 8 .nilFunc = true := by kernel_rfl
theorem isz_83 : isz P 83 = some 1 := tyOk_isz ty_83
theorem ap_83 (c : List Value) (o : Nat) : apart P 83 c o = c[o]? := by kernel_rfl
theorem un_84 : P.underlying 84 = some (.slice 83) := by kernel_rfl
theorem ty_102 : tyOk P 102 2 16 (.agg (.mk [(.int .i64 0), (.int .i64 0)])) = true := by kernel_rfl
theorem isz_102 : isz P 102 = some 2 := tyOk_isz ty_102
theorem ap_102 (c : List Value) (o : Nat) : apart P 102 c o = (cut c o 2).map fun l => .agg l.toArray := by kernel_rfl
theorem fa_102_0 (A o : Nat) : afieldAddr P 102 (.pointer (some ⟨A, o, none⟩)) 0 = some (.pointer (some ⟨A, o + 0, none⟩)) := by kernel_rfl
theorem fa_102_1 (A o : Nat) : afieldAddr P 102 (.pointer (some ⟨A, o, none⟩)) 1 = some (.pointer (some ⟨A, o + 1, none⟩)) := by kernel_rfl
theorem ty_107 : tyOk P 107 5 56 (.agg (.mk [(.int .u64 0), (.int .u64 0), (.int .i64 0), (.int .i64 0), (.slice none 0 0)])) = true := by kernel_rfl
theorem isz_107 : isz P 107 = some 5 := tyOk_isz ty_107
theorem ap_107 (c : List Value) (o : Nat) : apart P 107 c o = (cut c o 5).map fun l => .agg l.toArray := by kernel_rfl
theorem fd_107_0 (l : List Value) : afield P 107 (.agg (.mk l)) 0 = apart P 34 l 0 := by kernel_rfl
theorem fd_107_2 (l : List Value) : afield P 107 (.agg (.mk l)) 2 = apart P 3 l 2 := by kernel_rfl
theorem un_110 : P.underlying 110 = some (.array 6 77) := by kernel_rfl
theorem un_111 : P.underlying 111 = some (.array 6 78) := by kernel_rfl
theorem ap_112 (c : List Value) (o : Nat) : apart P 112 c o = (cut c o 8).map fun l => .agg l.toArray := by kernel_rfl
theorem un_112 : P.underlying 112 = some (.array 8 34) := by kernel_rfl
theorem ty_114 : tyOk P 114 9 88 (.agg (.mk [(.int .u64 0), (.int .u64 0), (.int .u64 0), (.int .u64 0), (.int .u64 0), (.int .u64 0), (.int .u64 0), (.int .u64 0), (.slice none 0 0)])) = true := by kernel_rfl
theorem isz_114 : isz P 114 = some 9 := tyOk_isz ty_114
theorem fa_114_0 (A o : Nat) : afieldAddr P 114 (.pointer (some ⟨A, o, none⟩)) 0 = some (.pointer (some ⟨A, o + 0, none⟩)) := by kernel_rfl
theorem fa_114_1 (A o : Nat) : afieldAddr P 114 (.pointer (some ⟨A, o, none⟩)) 1 = some (.pointer (some ⟨A, o + 8, none⟩)) := by kernel_rfl
theorem ty_120 : tyOk P 120 6 144 (.agg (.mk [(.slice none 0 0), (.slice none 0 0), (.slice none 0 0), (.slice none 0 0), (.slice none 0 0), (.slice none 0 0)])) = true := by kernel_rfl
theorem isz_120 : isz P 120 = some 6 := tyOk_isz ty_120
theorem ap_120 (c : List Value) (o : Nat) : apart P 120 c o = (cut c o 6).map fun l => .agg l.toArray := by kernel_rfl
theorem un_120 : P.underlying 120 = some (.array 6 36) := by kernel_rfl
theorem ty_122 : tyOk P 122 6 144 (.agg (.mk [(.slice none 0 0), (.slice none 0 0), (.slice none 0 0), (.slice none 0 0), (.slice none 0 0), (.slice none 0 0)])) = true := by kernel_rfl
theorem isz_122 : isz P 122 = some 6 := tyOk_isz ty_122
theorem ap_122 (c : List Value) (o : Nat) : apart P 122 c o = (cut c o 6).map fun l => .agg l.toArray := by kernel_rfl
theorem un_122 : P.underlying 122 = some (.array 6 33) := by kernel_rfl
theorem un_129 : P.underlying 129 = some (.array 4 107) := by kernel_rfl
end Go.VE
