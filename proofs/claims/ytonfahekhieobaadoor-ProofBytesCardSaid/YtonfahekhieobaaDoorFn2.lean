/-
  What the functions' code does, operation by operation.
-/
import Derived.Test.YtonfahekhieobaaDoorFn1
set_option linter.unusedSimpArgs false
set_option linter.unusedVariables false
namespace Go.VE
open Go Go.Proofs
/- attestor/proof.places$7 -/
noncomputable def c81 : Code := bodyOf Tryd.f81
def k81 : List (List Nat) := []
theorem b81 : BodyOk P 9 2 81 Tryd.f81 c81 := ⟨Tryd.func81, by kernel_rfl, by kernel_rfl, by kernel_rfl, by kernel_rfl, by kernel_rfl⟩
def v81 (I : Prims) (a0 a1 : Value) (si : St) (K : Value → St → Prop) : Prop :=
 I.wop (.box 30 (.const a1)) 0 (ent si) fun _ s0 =>
 I.wop (.alloc 82) 0 s0 fun v4_1 s1 =>
 I.wop (.nilCheck (.const a0)) 0 s1 fun v6_2 s2 =>
 I.wop (.fieldAddr 39 (.const v6_2) 6) 0 s2 fun v7_3 s3 =>
 I.wop (.build 82 ⟨[(2, (.const v7_3))]⟩) 82 s3 fun v8_4 s4 =>
 I.wop (.store 82 (.const v4_1) (.const v8_4)) 0 s4 fun _ s5 =>
 I.wop (.load 82 (.const v4_1)) 82 s5 fun v4_6 _ =>
 I.fin si K v4_6 s5
theorem x81 (I : Prims) (a0 a1 : Value) (si : St) (K : Value → St → Prop) : xbody I 9 k81 Tryd.f81 c81 [a0, a1] si K = v81 I a0 a1 si K := by kernel_rfl
theorem n81 [Memo] (ro : Nat) (a0 a1 : Value) (si : St) (K : Value → St → Prop) : wbody P ro 9 Tryd.f81 c81 [a0, a1] si K = v81 (prims P ro) a0 a1 si K := xbody_eq 9 P ro (x81 _ a0 a1 si K)
/- attestor/proof.places$8 -/
noncomputable def c82 : Code := bodyOf Tryd.f82
def k82 : List (List Nat) := []
theorem b82 : BodyOk P 36 2 82 Tryd.f82 c82 := ⟨Tryd.func82, by kernel_rfl, by kernel_rfl, by kernel_rfl, by kernel_rfl, by kernel_rfl⟩
def v82 (I : Prims) (a0 a1 : Value) (si : St) (K : Value → St → Prop) : Prop :=
 I.wop (.box 30 (.const a1)) 0 (ent si) fun v3_0 s0 =>
 I.wop (.alloc 82) 0 s0 fun v4_1 s1 =>
 I.wop (.nilCheck (.const a0)) 0 s1 fun v7_2 s2 =>
 I.wop (.fieldAddr 39 (.const v7_2) 7) 0 s2 fun v8_3 s3 =>
 I.wop (.load 37 (.const v8_3)) 37 s3 fun v9_4 s4 =>
 I.wop (.fieldAddr 30 (.const v3_0) 1) 0 s4 fun v10_5 s5 =>
 I.wop (.load 3 (.const v10_5)) 3 s5 fun v11_6 s6 =>
 I.wop (.indexAddr 37 (.const v9_4) (.const v11_6)) 0 s6 fun v12_7 s7 =>
 I.wop (.nilCheck (.const v12_7)) 0 s7 fun v14_8 s8 =>
 I.wop (.fieldAddr 59 (.const v14_8) 0) 0 s8 fun v15_9 s9 =>
 I.wop (.nilCheck (.const v12_7)) 0 s9 fun v17_10 s10 =>
 I.wop (.fieldAddr 59 (.const v17_10) 1) 0 s10 fun v18_11 s11 =>
 I.wop (.nilCheck (.const v12_7)) 0 s11 fun v20_12 s12 =>
 I.wop (.fieldAddr 59 (.const v20_12) 2) 0 s12 fun v21_13 s13 =>
 I.wop (.nilCheck (.const v12_7)) 0 s13 fun v23_14 s14 =>
 I.wop (.fieldAddr 59 (.const v23_14) 3) 0 s14 fun v24_15 s15 =>
 I.wop (.nilCheck (.const v12_7)) 0 s15 fun v26_16 s16 =>
 I.wop (.fieldAddr 59 (.const v26_16) 4) 0 s16 fun v27_17 s17 =>
 I.wop (.nilCheck (.const v12_7)) 0 s17 fun v29_18 s18 =>
 I.wop (.fieldAddr 59 (.const v29_18) 5) 0 s18 fun v30_19 s19 =>
 I.wop (.build 110 ⟨[(0, (.const v15_9)), (1, (.const v18_11)), (2, (.const v21_13)), (3, (.const v24_15)), (4, (.const v27_17)), (5, (.const v30_19))]⟩) 110 s19 fun v31_20 s20 =>
 I.wop (.fieldAddr 30 (.const v3_0) 2) 0 s20 fun v32_21 s21 =>
 I.wop (.load 3 (.const v32_21)) 3 s21 fun v33_22 s22 =>
 veq v33_22 v33_22 = true ∧ I.wop (.index 110 (.const v31_20) (.const v33_22)) 77 s22 fun v34_23 s23 =>
 I.wop (.build 82 ⟨[(0, (.const v34_23))]⟩) 82 s23 fun v35_24 s24 =>
 I.wop (.store 82 (.const v4_1) (.const v35_24)) 0 s24 fun _ s25 =>
 I.wop (.load 82 (.const v4_1)) 82 s25 fun v4_26 _ =>
 I.fin si K v4_26 s25
theorem x82 (I : Prims) (a0 a1 : Value) (si : St) (K : Value → St → Prop) : xbody I 36 k82 Tryd.f82 c82 [a0, a1] si K = v82 I a0 a1 si K := by kernel_rfl
theorem n82 [Memo] (ro : Nat) (a0 a1 : Value) (si : St) (K : Value → St → Prop) : wbody P ro 36 Tryd.f82 c82 [a0, a1] si K = v82 (prims P ro) a0 a1 si K := xbody_eq 36 P ro (x82 _ a0 a1 si K)
/- attestor/proof.places$9 -/
noncomputable def c83 : Code := bodyOf Tryd.f83
def k83 : List (List Nat) := []
theorem b83 : BodyOk P 36 2 83 Tryd.f83 c83 := ⟨Tryd.func83, by kernel_rfl, by kernel_rfl, by kernel_rfl, by kernel_rfl, by kernel_rfl⟩
def v83 (I : Prims) (a0 a1 : Value) (si : St) (K : Value → St → Prop) : Prop :=
 I.wop (.box 30 (.const a1)) 0 (ent si) fun v3_0 s0 =>
 I.wop (.alloc 82) 0 s0 fun v4_1 s1 =>
 I.wop (.nilCheck (.const a0)) 0 s1 fun v7_2 s2 =>
 I.wop (.fieldAddr 39 (.const v7_2) 7) 0 s2 fun v8_3 s3 =>
 I.wop (.load 37 (.const v8_3)) 37 s3 fun v9_4 s4 =>
 I.wop (.fieldAddr 30 (.const v3_0) 1) 0 s4 fun v10_5 s5 =>
 I.wop (.load 3 (.const v10_5)) 3 s5 fun v11_6 s6 =>
 I.wop (.indexAddr 37 (.const v9_4) (.const v11_6)) 0 s6 fun v12_7 s7 =>
 I.wop (.nilCheck (.const v12_7)) 0 s7 fun v14_8 s8 =>
 I.wop (.fieldAddr 59 (.const v14_8) 6) 0 s8 fun v15_9 s9 =>
 I.wop (.nilCheck (.const v12_7)) 0 s9 fun v17_10 s10 =>
 I.wop (.fieldAddr 59 (.const v17_10) 7) 0 s10 fun v18_11 s11 =>
 I.wop (.nilCheck (.const v12_7)) 0 s11 fun v20_12 s12 =>
 I.wop (.fieldAddr 59 (.const v20_12) 8) 0 s12 fun v21_13 s13 =>
 I.wop (.nilCheck (.const v12_7)) 0 s13 fun v23_14 s14 =>
 I.wop (.fieldAddr 59 (.const v23_14) 9) 0 s14 fun v24_15 s15 =>
 I.wop (.nilCheck (.const v12_7)) 0 s15 fun v26_16 s16 =>
 I.wop (.fieldAddr 59 (.const v26_16) 10) 0 s16 fun v27_17 s17 =>
 I.wop (.nilCheck (.const v12_7)) 0 s17 fun v29_18 s18 =>
 I.wop (.fieldAddr 59 (.const v29_18) 11) 0 s18 fun v30_19 s19 =>
 I.wop (.build 111 ⟨[(0, (.const v15_9)), (1, (.const v18_11)), (2, (.const v21_13)), (3, (.const v24_15)), (4, (.const v27_17)), (5, (.const v30_19))]⟩) 111 s19 fun v31_20 s20 =>
 I.wop (.fieldAddr 30 (.const v3_0) 2) 0 s20 fun v32_21 s21 =>
 I.wop (.load 3 (.const v32_21)) 3 s21 fun v33_22 s22 =>
 veq v33_22 v33_22 = true ∧ I.wop (.index 111 (.const v31_20) (.const v33_22)) 78 s22 fun v34_23 s23 =>
 I.wop (.build 82 ⟨[(1, (.const v34_23))]⟩) 82 s23 fun v35_24 s24 =>
 I.wop (.store 82 (.const v4_1) (.const v35_24)) 0 s24 fun _ s25 =>
 I.wop (.load 82 (.const v4_1)) 82 s25 fun v4_26 _ =>
 I.fin si K v4_26 s25
theorem x83 (I : Prims) (a0 a1 : Value) (si : St) (K : Value → St → Prop) : xbody I 36 k83 Tryd.f83 c83 [a0, a1] si K = v83 I a0 a1 si K := by kernel_rfl
theorem n83 [Memo] (ro : Nat) (a0 a1 : Value) (si : St) (K : Value → St → Prop) : wbody P ro 36 Tryd.f83 c83 [a0, a1] si K = v83 (prims P ro) a0 a1 si K := xbody_eq 36 P ro (x83 _ a0 a1 si K)
/- attestor/proof.places$10 -/
noncomputable def c84 : Code := bodyOf Tryd.f84
def k84 : List (List Nat) := []
theorem b84 : BodyOk P 19 2 84 Tryd.f84 c84 := ⟨Tryd.func84, by kernel_rfl, by kernel_rfl, by kernel_rfl, by kernel_rfl, by kernel_rfl⟩
def v84 (I : Prims) (a0 a1 : Value) (si : St) (K : Value → St → Prop) : Prop :=
 I.wop (.box 30 (.const a1)) 0 (ent si) fun v3_0 s0 =>
 I.wop (.alloc 82) 0 s0 fun v4_1 s1 =>
 I.wop (.nilCheck (.const a0)) 0 s1 fun v6_2 s2 =>
 I.wop (.fieldAddr 39 (.const v6_2) 7) 0 s2 fun v7_3 s3 =>
 I.wop (.load 37 (.const v7_3)) 37 s3 fun v8_4 s4 =>
 veq v8_4 v8_4 = true ∧ I.wop (.fieldAddr 30 (.const v3_0) 1) 0 s4 fun v9_5 s5 =>
 I.wop (.load 3 (.const v9_5)) 3 s5 fun v10_6 s6 =>
 veq v10_6 v10_6 = true ∧ I.wop (.indexAddr 37 (.const v8_4) (.const v10_6)) 0 s6 fun v11_7 s7 =>
 I.wop (.fieldAddr 59 (.const v11_7) 12) 0 s7 fun v12_8 s8 =>
 I.wop (.load 57 (.const v12_8)) 57 s8 fun v13_9 s9 =>
 veq v13_9 v13_9 = true ∧ I.wop (.fieldAddr 30 (.const v3_0) 2) 0 s9 fun v14_10 s10 =>
 I.wop (.load 3 (.const v14_10)) 3 s10 fun v15_11 s11 =>
 veq v15_11 v15_11 = true ∧ I.wop (.indexAddr 57 (.const v13_9) (.const v15_11)) 0 s11 fun v16_12 s12 =>
 I.wop (.fieldAddr 114 (.const v16_12) 0) 0 s12 fun v17_13 s13 =>
 I.wop (.build 82 ⟨[(3, (.const v17_13))]⟩) 82 s13 fun v18_14 s14 =>
 I.wop (.store 82 (.const v4_1) (.const v18_14)) 0 s14 fun _ s15 =>
 I.wop (.load 82 (.const v4_1)) 82 s15 fun v4_16 _ =>
 I.fin si K v4_16 s15
theorem x84 (I : Prims) (a0 a1 : Value) (si : St) (K : Value → St → Prop) : xbody I 19 k84 Tryd.f84 c84 [a0, a1] si K = v84 I a0 a1 si K := by kernel_rfl
theorem n84 [Memo] (ro : Nat) (a0 a1 : Value) (si : St) (K : Value → St → Prop) : wbody P ro 19 Tryd.f84 c84 [a0, a1] si K = v84 (prims P ro) a0 a1 si K := xbody_eq 19 P ro (x84 _ a0 a1 si K)
/- attestor/proof.places$11 -/
noncomputable def c85 : Code := bodyOf Tryd.f85
def k85 : List (List Nat) := []
theorem b85 : BodyOk P 19 2 85 Tryd.f85 c85 := ⟨Tryd.func85, by kernel_rfl, by kernel_rfl, by kernel_rfl, by kernel_rfl, by kernel_rfl⟩
def v85 (I : Prims) (a0 a1 : Value) (si : St) (K : Value → St → Prop) : Prop :=
 I.wop (.box 30 (.const a1)) 0 (ent si) fun v3_0 s0 =>
 I.wop (.alloc 82) 0 s0 fun v4_1 s1 =>
 I.wop (.nilCheck (.const a0)) 0 s1 fun v6_2 s2 =>
 I.wop (.fieldAddr 39 (.const v6_2) 7) 0 s2 fun v7_3 s3 =>
 I.wop (.load 37 (.const v7_3)) 37 s3 fun v8_4 s4 =>
 veq v8_4 v8_4 = true ∧ I.wop (.fieldAddr 30 (.const v3_0) 1) 0 s4 fun v9_5 s5 =>
 I.wop (.load 3 (.const v9_5)) 3 s5 fun v10_6 s6 =>
 veq v10_6 v10_6 = true ∧ I.wop (.indexAddr 37 (.const v8_4) (.const v10_6)) 0 s6 fun v11_7 s7 =>
 I.wop (.fieldAddr 59 (.const v11_7) 12) 0 s7 fun v12_8 s8 =>
 I.wop (.load 57 (.const v12_8)) 57 s8 fun v13_9 s9 =>
 veq v13_9 v13_9 = true ∧ I.wop (.fieldAddr 30 (.const v3_0) 2) 0 s9 fun v14_10 s10 =>
 I.wop (.load 3 (.const v14_10)) 3 s10 fun v15_11 s11 =>
 veq v15_11 v15_11 = true ∧ I.wop (.indexAddr 57 (.const v13_9) (.const v15_11)) 0 s11 fun v16_12 s12 =>
 I.wop (.fieldAddr 114 (.const v16_12) 1) 0 s12 fun v17_13 s13 =>
 I.wop (.build 82 ⟨[(1, (.const v17_13))]⟩) 82 s13 fun v18_14 s14 =>
 I.wop (.store 82 (.const v4_1) (.const v18_14)) 0 s14 fun _ s15 =>
 I.wop (.load 82 (.const v4_1)) 82 s15 fun v4_16 _ =>
 I.fin si K v4_16 s15
theorem x85 (I : Prims) (a0 a1 : Value) (si : St) (K : Value → St → Prop) : xbody I 19 k85 Tryd.f85 c85 [a0, a1] si K = v85 I a0 a1 si K := by kernel_rfl
theorem n85 [Memo] (ro : Nat) (a0 a1 : Value) (si : St) (K : Value → St → Prop) : wbody P ro 19 Tryd.f85 c85 [a0, a1] si K = v85 (prims P ro) a0 a1 si K := xbody_eq 19 P ro (x85 _ a0 a1 si K)
/- slices.Chunk[[]uint64,uint64] -/
noncomputable def c86 : Code := bodyOf Tryd.f86
def k86 : List (List Nat) := []
theorem b86 : BodyOk P 9 2 86 Tryd.f86 c86 := ⟨Tryd.func86, by kernel_rfl, by kernel_rfl, by kernel_rfl, by kernel_rfl, by kernel_rfl⟩
def v86 (I : Prims) (a0 a1 : Value) (si : St) (K : Value → St → Prop) : Prop :=
 I.wop (.box 36 (.const a0)) 0 (ent si) fun v2_0 s0 =>
 I.wop (.box 3 (.const a1)) 0 s0 fun v3_1 s1 =>
 I.wop (.load 3 (.const v3_1)) 3 s1 fun v5_2 s2 =>
 I.wop (.binOp .lss 3 (.const v5_2) (.const (.int .i64 1)) 3) 4 s2 fun v6_3 s3 =>
 wdec v6_3
 (I.wop (.makeInterface 9 (.const (.string (ByteArray.mk #[99, 97, 110, 110, 111, 116, 32, 98, 101, 32, 108, 101, 115, 115, 32, 116, 104, 97, 110, 32, 49])))) 20 s3 fun _ s4 =>
 I.wop (.panic (.tmp 7)) 0 s4 fun _ s5 =>
 I.fin si K (.func (.func 96) (.mk []) (.mk [v2_0, v3_1])) s5)
 (I.fin si K (.func (.func 96) (.mk []) (.mk [v2_0, v3_1])) s3)
theorem x86 (I : Prims) (a0 a1 : Value) (si : St) (K : Value → St → Prop) : xbody I 9 k86 Tryd.f86 c86 [a0, a1] si K = v86 I a0 a1 si K := by kernel_rfl
theorem n86 [Memo] (ro : Nat) (a0 a1 : Value) (si : St) (K : Value → St → Prop) : wbody P ro 9 Tryd.f86 c86 [a0, a1] si K = v86 (prims P ro) a0 a1 si K := xbody_eq 9 P ro (x86 _ a0 a1 si K)
/- attestor/attestorref17.rows -/
noncomputable def c89 : Code := bodyOf Tryd.f89
def k89 : List (List Nat) := []
theorem b89 : BodyOk P 16 1 89 Tryd.f89 c89 := ⟨Tryd.func89, by kernel_rfl, by kernel_rfl, by kernel_rfl, by kernel_rfl, by kernel_rfl⟩
def v89 (I : Prims) (a0 : Value) (si : St) (K : Value → St → Prop) : Prop :=
 I.wop (.box 59 (.const a0)) 0 (ent si) fun v1_0 s0 =>
 I.wop (.alloc 120) 0 s0 fun v2_1 s1 =>
 I.wop (.fieldAddr 59 (.const v1_0) 0) 0 s1 fun v3_2 s2 =>
 I.wop (.load 36 (.const v3_2)) 36 s2 fun v4_3 s3 =>
 I.wop (.fieldAddr 59 (.const v1_0) 1) 0 s3 fun v5_4 s4 =>
 I.wop (.load 36 (.const v5_4)) 36 s4 fun v6_5 s5 =>
 I.wop (.fieldAddr 59 (.const v1_0) 2) 0 s5 fun v7_6 s6 =>
 I.wop (.load 36 (.const v7_6)) 36 s6 fun v8_7 s7 =>
 I.wop (.fieldAddr 59 (.const v1_0) 3) 0 s7 fun v9_8 s8 =>
 I.wop (.load 36 (.const v9_8)) 36 s8 fun v10_9 s9 =>
 I.wop (.fieldAddr 59 (.const v1_0) 4) 0 s9 fun v11_10 s10 =>
 I.wop (.load 36 (.const v11_10)) 36 s10 fun v12_11 s11 =>
 I.wop (.fieldAddr 59 (.const v1_0) 5) 0 s11 fun v13_12 s12 =>
 I.wop (.load 36 (.const v13_12)) 36 s12 fun v14_13 s13 =>
 I.wop (.build 120 ⟨[(0, (.const v4_3)), (1, (.const v6_5)), (2, (.const v8_7)), (3, (.const v10_9)), (4, (.const v12_11)), (5, (.const v14_13))]⟩) 120 s13 fun v15_14 s14 =>
 I.wop (.store 120 (.const v2_1) (.const v15_14)) 0 s14 fun _ s15 =>
 I.wop (.load 120 (.const v2_1)) 120 s15 fun v2_16 _ =>
 I.fin si K v2_16 s15
theorem x89 (I : Prims) (a0 : Value) (si : St) (K : Value → St → Prop) : xbody I 16 k89 Tryd.f89 c89 [a0] si K = v89 I a0 si K := by kernel_rfl
theorem n89 [Memo] (ro : Nat) (a0 : Value) (si : St) (K : Value → St → Prop) : wbody P ro 16 Tryd.f89 c89 [a0] si K = v89 (prims P ro) a0 si K := xbody_eq 16 P ro (x89 _ a0 si K)
/- attestor/attestorref17.paths -/
noncomputable def c90 : Code := bodyOf Tryd.f90
def k90 : List (List Nat) := []
theorem b90 : BodyOk P 16 1 90 Tryd.f90 c90 := ⟨Tryd.func90, by kernel_rfl, by kernel_rfl, by kernel_rfl, by kernel_rfl, by kernel_rfl⟩
def v90 (I : Prims) (a0 : Value) (si : St) (K : Value → St → Prop) : Prop :=
 I.wop (.box 59 (.const a0)) 0 (ent si) fun v1_0 s0 =>
 I.wop (.alloc 122) 0 s0 fun v2_1 s1 =>
 I.wop (.fieldAddr 59 (.const v1_0) 6) 0 s1 fun v3_2 s2 =>
 I.wop (.load 33 (.const v3_2)) 33 s2 fun v4_3 s3 =>
 I.wop (.fieldAddr 59 (.const v1_0) 7) 0 s3 fun v5_4 s4 =>
 I.wop (.load 33 (.const v5_4)) 33 s4 fun v6_5 s5 =>
 I.wop (.fieldAddr 59 (.const v1_0) 8) 0 s5 fun v7_6 s6 =>
 I.wop (.load 33 (.const v7_6)) 33 s6 fun v8_7 s7 =>
 I.wop (.fieldAddr 59 (.const v1_0) 9) 0 s7 fun v9_8 s8 =>
 I.wop (.load 33 (.const v9_8)) 33 s8 fun v10_9 s9 =>
 I.wop (.fieldAddr 59 (.const v1_0) 10) 0 s9 fun v11_10 s10 =>
 I.wop (.load 33 (.const v11_10)) 33 s10 fun v12_11 s11 =>
 I.wop (.fieldAddr 59 (.const v1_0) 11) 0 s11 fun v13_12 s12 =>
 I.wop (.load 33 (.const v13_12)) 33 s12 fun v14_13 s13 =>
 I.wop (.build 122 ⟨[(0, (.const v4_3)), (1, (.const v6_5)), (2, (.const v8_7)), (3, (.const v10_9)), (4, (.const v12_11)), (5, (.const v14_13))]⟩) 122 s13 fun v15_14 s14 =>
 I.wop (.store 122 (.const v2_1) (.const v15_14)) 0 s14 fun _ s15 =>
 I.wop (.load 122 (.const v2_1)) 122 s15 fun v2_16 _ =>
 I.fin si K v2_16 s15
theorem x90 (I : Prims) (a0 : Value) (si : St) (K : Value → St → Prop) : xbody I 16 k90 Tryd.f90 c90 [a0] si K = v90 I a0 si K := by kernel_rfl
theorem n90 [Memo] (ro : Nat) (a0 : Value) (si : St) (K : Value → St → Prop) : wbody P ro 16 Tryd.f90 c90 [a0] si K = v90 (prims P ro) a0 si K := xbody_eq 16 P ro (x90 _ a0 si K)
/- slices.IndexFunc[[]attestor/api.Opening,attestor/api.Opening] -/
noncomputable def c91 : Code := bodyOf Tryd.f91
noncomputable def c91_10100 : Code := subCode [1, 0, 1, 0, 0] c91
def k91 : List (List Nat) := []
def k91_10100 : List (List Nat) := []
theorem l91_10100 : ltCode 19 c91_10100 = true := by kernel_rfl
theorem m91_10100 : notMap c91_10100 = true := by kernel_rfl
theorem b91 : BodyOk P 19 2 91 Tryd.f91 c91 := ⟨Tryd.func91, by kernel_rfl, by kernel_rfl, by kernel_rfl, by kernel_rfl, by kernel_rfl⟩
def v91_10100 (I : Prims) (rnd : Option Nat) (τ : Tau) (ds : List Deferred) (s : St) (Q : Ex → WK) : Prop :=
 I.wop (.binOp .lss 3 (.const (τ 8)) (.const (τ 7)) 3) 0 s fun v9_0 s0 =>
 wdec v9_0
 (I.wop (.indexAddr 37 (.const (τ 0)) (.const (τ 8))) 0 s0 fun v14_1 s1 =>
 I.wop (.load 59 (.const v14_1)) 59 s1 fun v15_2 s2 =>
 xcallv I (τ 1) [v15_2] s2 fun v16_3 s3 =>
 wdec v16_3
 (Q .ret (U τ [(4, (τ 8)), (17, (τ 8)), (16, (.bool true)), (16, v16_3), (15, v15_2), (14, v14_1), (13, (τ 8)), (12, (τ 0)), (11, (τ 1)), (5, (τ 8)), (10, (τ 8)), (9, (.bool true)), (9, v9_0)]) ds s3)
 (I.wop (.binOp .add 3 (.const (τ 8)) (.const (.int .i64 1)) 3) 3 s3 fun v18_4 s4 =>
 Q .normal (U τ [(8, v18_4), (18, v18_4), (16, (.bool false)), (16, v16_3), (15, v15_2), (14, v14_1), (13, (τ 8)), (12, (τ 0)), (11, (τ 1)), (5, (τ 8)), (10, (τ 8)), (9, (.bool true)), (9, v9_0)]) ds s4))
 (Q (.exit 0) (U τ [(9, (.bool false)), (9, v9_0)]) ds s0)
theorem x91_10100 (I : Prims) (rnd : Option Nat) (τ : Tau) (ds : List Deferred) (s : St) (Q : Ex → WK) : xp I rnd 19 k91_10100 c91_10100 [] τ [] ds s (lift Q) = v91_10100 I rnd τ ds s Q := by kernel_rfl
theorem n91_10100 [Memo] (ro : Nat) (rnd : Option Nat) (τ : Tau) (ds : List Deferred) (s : St) (Q : Ex → WK) : wp P ro 19 rnd c91_10100 τ ds s Q = v91_10100 (prims P ro) rnd τ ds s Q := xp_wp rnd 19 P ro (x91_10100 _ rnd τ ds s Q)
def v91 (I : Prims) (a0 a1 : Value) (si : St) (K : Value → St → Prop) : Prop :=
 I.wop (.call ⟨.builtin .len, ⟨[(.const a0)]⟩, #[37]⟩) 3 (ent si) fun v7_0 s0 =>
 I.loop 19 none c91_10100 (U undefT [(8, (.int .i64 0)), (7, v7_0), (6, a0), (4, (.int .i64 0)), (0, a0), (1, a1)]) [] s0 (fun τ ds s => ((xleave I si Tryd.f91.results.toList K) .ret) τ [] ds s) [(0, fun _ ds1 s1 =>
 xdefers I ds1 s1 fun s2 =>
 I.fin si K (.int .i64 (-1)) s2)]
theorem x91 (I : Prims) (a0 a1 : Value) (si : St) (K : Value → St → Prop) : xbody I 19 k91 Tryd.f91 c91 [a0, a1] si K = v91 I a0 a1 si K := by kernel_rfl
theorem n91 [Memo] (ro : Nat) (a0 a1 : Value) (si : St) (K : Value → St → Prop) : wbody P ro 19 Tryd.f91 c91 [a0, a1] si K = v91 (prims P ro) a0 a1 si K := xbody_eq 19 P ro (x91 _ a0 a1 si K)
/- attestor/proof.treeOf -/
noncomputable def c95 : Code := bodyOf Tryd.f95
def k95 : List (List Nat) := []
theorem b95 : BodyOk P 16 2 95 Tryd.f95 c95 := ⟨Tryd.func95, by kernel_rfl, by kernel_rfl, by kernel_rfl, by kernel_rfl, by kernel_rfl⟩
def v95 (I : Prims) (a0 a1 : Value) (si : St) (K : Value → St → Prop) : Prop :=
 I.wop (.box 23 (.const a0)) 0 (ent si) fun v2_0 s0 =>
 I.wop (.alloc 102) 0 s0 fun v4_1 s1 =>
 I.wop (.fieldAddr 23 (.const v2_0) 3) 0 s1 fun v6_2 s2 =>
 I.wop (.load 3 (.const v6_2)) 3 s2 fun v7_3 s3 =>
 I.wop (.call ⟨.builtin .min, ⟨[(.const v7_3), (.const a1)]⟩, #[3, 3]⟩) 3 s3 fun v9_4 s4 =>
 I.wop (.binOp .shl 3 (.const (.int .i64 1)) (.const v9_4) 3) 3 s4 fun v11_5 s5 =>
 I.wop (.binOp .sub 3 (.const a1) (.const v9_4) 3) 3 s5 fun v14_6 s6 =>
 I.wop (.build 102 ⟨[(0, (.const v11_5)), (1, (.const v14_6))]⟩) 102 s6 fun v15_7 s7 =>
 I.wop (.store 102 (.const v4_1) (.const v15_7)) 0 s7 fun _ s8 =>
 I.wop (.load 102 (.const v4_1)) 102 s8 fun v4_9 _ =>
 I.fin si K v4_9 s8
theorem x95 (I : Prims) (a0 a1 : Value) (si : St) (K : Value → St → Prop) : xbody I 16 k95 Tryd.f95 c95 [a0, a1] si K = v95 I a0 a1 si K := by kernel_rfl
theorem n95 [Memo] (ro : Nat) (a0 a1 : Value) (si : St) (K : Value → St → Prop) : wbody P ro 16 Tryd.f95 c95 [a0, a1] si K = v95 (prims P ro) a0 a1 si K := xbody_eq 16 P ro (x95 _ a0 a1 si K)
/- slices.Chunk[[]uint64,uint64]$1 -/
noncomputable def c96 : Code := bodyOf Tryd.f96
noncomputable def c96_100 : Code := subCode [1, 0, 0] c96
def k96 : List (List Nat) := []
def k96_100 : List (List Nat) := []
theorem l96_100 : ltCode 31 c96_100 = true := by kernel_rfl
theorem m96_100 : notMap c96_100 = true := by kernel_rfl
theorem b96 : BodyOk P 31 3 96 Tryd.f96 c96 := ⟨Tryd.func96, by kernel_rfl, by kernel_rfl, by kernel_rfl, by kernel_rfl, by kernel_rfl⟩
def v96_100 (I : Prims) (rnd : Option Nat) (τ : Tau) (ds : List Deferred) (s : St) (Q : Ex → WK) : Prop :=
 I.wop (.load 36 (.const (τ 1))) 36 s fun v7_0 s0 =>
 I.wop (.call ⟨.builtin .len, ⟨[(.const v7_0)]⟩, #[36]⟩) 3 s0 fun v8_1 s1 =>
 I.wop (.binOp .lss 3 (.const (τ 4)) (.const v8_1) 3) 4 s1 fun v9_2 s2 =>
 wdec v9_2
 (I.wop (.load 3 (.const (τ 2))) 3 s2 fun v13_3 s3 =>
 I.wop (.load 36 (.const (τ 1))) 36 s3 fun v14_4 s4 =>
 I.wop (.slice 36 (.const v14_4) (some (.const (τ 4))) none none) 36 s4 fun v16_5 s5 =>
 I.wop (.call ⟨.builtin .len, ⟨[(.const v16_5)]⟩, #[36]⟩) 3 s5 fun v17_6 s6 =>
 I.wop (.call ⟨.builtin .min, ⟨[(.const v13_3), (.const v17_6)]⟩, #[3, 3]⟩) 3 s6 fun v18_7 s7 =>
 I.wop (.load 36 (.const (τ 1))) 36 s7 fun v20_8 s8 =>
 I.wop (.binOp .add 3 (.const (τ 4)) (.const v18_7) 3) 3 s8 fun v24_9 s9 =>
 I.wop (.binOp .add 3 (.const (τ 4)) (.const v18_7) 3) 3 s9 fun v27_10 s10 =>
 I.wop (.slice 36 (.const v20_8) (some (.const (τ 4))) (some (.const v24_9)) (some (.const v27_10))) 36 s10 fun v28_11 s11 =>
 xcallv I (τ 0) [v28_11] s11 fun v29_12 s12 =>
 I.wop (.unOp .not 4 (.const v29_12)) 4 s12 fun v30_13 s13 =>
 wdec v30_13
 (Q .ret (U τ [(30, (.bool true)), (30, v30_13), (29, v29_12), (28, v28_11), (27, v27_10), (26, v18_7), (25, (τ 4)), (24, v24_9), (23, v18_7), (22, (τ 4)), (21, (τ 4)), (20, v20_8), (19, (τ 0)), (5, v18_7), (18, v18_7), (17, v17_6), (16, v16_5), (15, (τ 4)), (14, v14_4), (13, v13_3), (9, (.bool true)), (9, v9_2), (8, v8_1), (7, v7_0), (6, (τ 4))]) ds s13)
 (I.wop (.load 3 (.const (τ 2))) 3 s13 fun v11_14 s14 =>
 I.wop (.binOp .add 3 (.const (τ 4)) (.const v11_14) 3) 3 s14 fun v12_15 s15 =>
 Q .normal (U τ [(4, v12_15), (12, v12_15), (11, v11_14), (10, (τ 4)), (30, (.bool false)), (30, v30_13), (29, v29_12), (28, v28_11), (27, v27_10), (26, v18_7), (25, (τ 4)), (24, v24_9), (23, v18_7), (22, (τ 4)), (21, (τ 4)), (20, v20_8), (19, (τ 0)), (5, v18_7), (18, v18_7), (17, v17_6), (16, v16_5), (15, (τ 4)), (14, v14_4), (13, v13_3), (9, (.bool true)), (9, v9_2), (8, v8_1), (7, v7_0), (6, (τ 4))]) ds s15))
 (Q (.exit 0) (U τ [(9, (.bool false)), (9, v9_2), (8, v8_1), (7, v7_0), (6, (τ 4))]) ds s2)
theorem x96_100 (I : Prims) (rnd : Option Nat) (τ : Tau) (ds : List Deferred) (s : St) (Q : Ex → WK) : xp I rnd 31 k96_100 c96_100 [] τ [] ds s (lift Q) = v96_100 I rnd τ ds s Q := by kernel_rfl
theorem n96_100 [Memo] (ro : Nat) (rnd : Option Nat) (τ : Tau) (ds : List Deferred) (s : St) (Q : Ex → WK) : wp P ro 31 rnd c96_100 τ ds s Q = v96_100 (prims P ro) rnd τ ds s Q := xp_wp rnd 31 P ro (x96_100 _ rnd τ ds s Q)
def v96 (I : Prims) (a0 a1 a2 : Value) (si : St) (K : Value → St → Prop) : Prop :=
 I.loop 31 none c96_100 (U undefT [(4, (.int .i64 0)), (0, a0), (1, a1), (2, a2)]) [] (ent si) (fun τ ds s => ((xleave I si Tryd.f96.results.toList K) .ret) τ [] ds s) [(0, fun _ ds0 s0 =>
 xdefers I ds0 s0 fun s1 =>
 I.fin si K (.tuple (.mk [])) s1)]
theorem x96 (I : Prims) (a0 a1 a2 : Value) (si : St) (K : Value → St → Prop) : xbody I 31 k96 Tryd.f96 c96 [a0, a1, a2] si K = v96 I a0 a1 a2 si K := by kernel_rfl
theorem n96 [Memo] (ro : Nat) (a0 a1 a2 : Value) (si : St) (K : Value → St → Prop) : wbody P ro 31 Tryd.f96 c96 [a0, a1, a2] si K = v96 (prims P ro) a0 a1 a2 si K := xbody_eq 31 P ro (x96 _ a0 a1 a2 si K)
end Go.VE
