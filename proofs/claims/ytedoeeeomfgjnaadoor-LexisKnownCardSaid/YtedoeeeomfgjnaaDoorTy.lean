/-
  The program's types.
-/
import Derived.Test.YtedoeeeomfgjnaaDoorVe6
import Derived.Test.YtedoeeeomfgjnaaDoorRows
import Derived.Test.YtedoeeeomfgjnaaDoorShelf
set_option linter.unusedSimpArgs false
set_option linter.unusedVariables false
namespace Go.VE
open Go Go.Proofs
noncomputable abbrev P : Program := Tryd.prog
theorem ty_3 : tyOk P 3 1 8 (.int .i64 0) = true := by kernel_rfl
theorem isz_3 : isz P 3 = some 1 := tyOk_isz ty_3
theorem ap_3 (c : List Value) (o : Nat) : apart P 3 c o = c[o]? := by kernel_rfl
theorem ty_4 : tyOk P 4 1 1 (.bool false) = true := by kernel_rfl
theorem ty_9 : tyOk P 9 1 16 (.string (ByteArray.mk #[])) = true := by kernel_rfl
theorem isz_9 : isz P 9 = some 1 := tyOk_isz ty_9
theorem ap_9 (c : List Value) (o : Nat) : apart P 9 c o = c[o]? := by kernel_rfl
theorem ty_22 : tyOk P 22 1 24 (.slice none 0 0) = true := by kernel_rfl
theorem isz_22 : isz P 22 = some 1 := tyOk_isz ty_22
theorem ap_22 (c : List Value) (o : Nat) : apart P 22 c o = c[o]? := by kernel_rfl
theorem se_22 : sliceElem P 22 = some 35 := by kernel_rfl
theorem un_22 : P.underlying 22 = some (.slice 35) := by kernel_rfl
theorem ty_23 : tyOk P 23 1 8 (.int .i64 0) = true := by kernel_rfl
theorem isz_23 : isz P 23 = some 1 := tyOk_isz ty_23
theorem ap_23 (c : List Value) (o : Nat) : apart P 23 c o = c[o]? := by kernel_rfl
theorem ap_32 (c : List Value) (o : Nat) : apart P 32 c o = c[o]? := by kernel_rfl
theorem ap_33 (c : List Value) (o : Nat) : apart P 33 c o = c[o]? := by kernel_rfl
theorem ty_35 : tyOk P 35 4 40 (.agg (.mk [(.int .u8 0), (.string (ByteArray.mk #[])), (.int .u64 0), (.int .i64 0)])) = true := by kernel_rfl
theorem isz_35 : isz P 35 = some 4 := tyOk_isz ty_35
theorem ap_35 (c : List Value) (o : Nat) : apart P 35 c o = (cut c o 4).map fun l => .agg l.toArray := by kernel_rfl
theorem fa_35_0 (A o : Nat) : afieldAddr P 35 (.pointer (some ⟨A, o, none⟩)) 0 = some (.pointer (some ⟨A, o + 0, none⟩)) := by kernel_rfl
theorem fa_35_1 (A o : Nat) : afieldAddr P 35 (.pointer (some ⟨A, o, none⟩)) 1 = some (.pointer (some ⟨A, o + 1, none⟩)) := by kernel_rfl
theorem fa_35_2 (A o : Nat) : afieldAddr P 35 (.pointer (some ⟨A, o, none⟩)) 2 = some (.pointer (some ⟨A, o + 2, none⟩)) := by kernel_rfl
theorem fa_35_3 (A o : Nat) : afieldAddr P 35 (.pointer (some ⟨A, o, none⟩)) 3 = some (.pointer (some ⟨A, o + 3, none⟩)) := by kernel_rfl
theorem se_43 : sliceElem P 43 = some 9 := by kernel_rfl
theorem un_43 : P.underlying 43 = some (.slice 9) := by kernel_rfl
end Go.VE
