/-
  What the functions' code does, operation by operation.
-/
import Derived.Test.YteamclmopokioaaDoorFn1
set_option linter.unusedSimpArgs false
set_option linter.unusedVariables false
namespace Go.VE
open Go Go.Proofs
/- attestor/attestorref23.Reads -/
noncomputable def c98 : Code := bodyOf Tryd.f98
noncomputable def c98_11010101 : Code := subCode [1, 1, 0, 1, 0, 1, 0, 1] c98
noncomputable def c98_111 : Code := subCode [1, 1, 1] c98
def k98 : List (List Nat) := [[1, 0, 1, 0, 1, 0, 1, 1]]
theorem b98 : BodyOk P 47 1 98 Tryd.f98 c98 := ⟨Tryd.func98, by kernel_rfl, by kernel_rfl, by kernel_rfl, by kernel_rfl, by kernel_rfl⟩
def v98_11010101 (I : Prims) (τ : Tau) (ds : List Deferred) (s : St) (Q : Ex → XK) : Prop :=
 I.wop (.fieldAddr 94 (.const (τ 1)) 3) 0 s fun v19_0 s0 =>
 I.wop (.load 24 (.const v19_0)) 24 s0 fun v20_1 s1 =>
 I.wop (.binOp .neq 24 (.const v20_1) (.const (.int .u64 0)) 24) 4 s1 fun v21_2 s2 =>
 wdec v21_2
 (I.wop (.buildSlice 30 1 ⟨[(0, (.const (.int .i64 1)))]⟩) 30 s2 fun v28_3 s3 =>
 I.wop (.call ⟨.builtin .append, ⟨[(.const (τ 3)), (.const v28_3)]⟩, #[30, 30]⟩) 30 s3 fun v29_4 s4 =>
 I.wop (.fieldAddr 94 (.const (τ 1)) 5) 0 s4 fun v30_5 s5 =>
 I.wop (.load 24 (.const v30_5)) 24 s5 fun v31_6 s6 =>
 I.wop (.binOp .neq 24 (.const v31_6) (.const (.int .u64 0)) 24) 4 s6 fun v32_7 s7 =>
 wdec v32_7
 (I.wop (.buildSlice 30 1 ⟨[(0, (.const (.int .i64 2)))]⟩) 30 s7 fun v34_8 s8 =>
 I.wop (.call ⟨.builtin .append, ⟨[(.const v29_4), (.const v34_8)]⟩, #[30, 30]⟩) 30 s8 fun v35_9 s9 =>
 Q .normal τ [(3, v35_9), (35, v35_9), (34, v34_8), (33, v29_4), (32, (.bool true)), (32, v32_7), (31, v31_6), (30, v30_5), (3, v29_4), (29, v29_4), (28, v28_3), (27, (τ 3)), (26, (.bool true)), (26, (.bool true)), (22, (.bool true)), (25, undef), (22, (.bool true)), (24, undef), (22, (.bool true)), (23, undef), (22, (.bool true)), (22, v21_2), (21, v21_2), (20, v20_1), (19, v19_0)] ds s9)
 (Q .normal τ [(32, (.bool false)), (32, v32_7), (31, v31_6), (30, v30_5), (3, v29_4), (29, v29_4), (28, v28_3), (27, (τ 3)), (26, (.bool true)), (26, (.bool true)), (22, (.bool true)), (25, undef), (22, (.bool true)), (24, undef), (22, (.bool true)), (23, undef), (22, (.bool true)), (22, v21_2), (21, v21_2), (20, v20_1), (19, v19_0)] ds s7))
 (I.wop (.fieldAddr 94 (.const (τ 1)) 4) 0 s2 fun v23_10 s10 =>
 I.wop (.load 24 (.const v23_10)) 24 s10 fun v24_11 s11 =>
 I.wop (.binOp .neq 24 (.const v24_11) (.const (.int .u64 0)) 24) 4 s11 fun v25_12 s12 =>
 wdec v25_12
 (I.wop (.buildSlice 30 1 ⟨[(0, (.const (.int .i64 1)))]⟩) 30 s12 fun v28_13 s13 =>
 I.wop (.call ⟨.builtin .append, ⟨[(.const (τ 3)), (.const v28_13)]⟩, #[30, 30]⟩) 30 s13 fun v29_14 s14 =>
 I.wop (.fieldAddr 94 (.const (τ 1)) 5) 0 s14 fun v30_15 s15 =>
 I.wop (.load 24 (.const v30_15)) 24 s15 fun v31_16 s16 =>
 I.wop (.binOp .neq 24 (.const v31_16) (.const (.int .u64 0)) 24) 4 s16 fun v32_17 s17 =>
 wdec v32_17
 (I.wop (.buildSlice 30 1 ⟨[(0, (.const (.int .i64 2)))]⟩) 30 s17 fun v34_18 s18 =>
 I.wop (.call ⟨.builtin .append, ⟨[(.const v29_14), (.const v34_18)]⟩, #[30, 30]⟩) 30 s18 fun v35_19 s19 =>
 Q .normal τ [(3, v35_19), (35, v35_19), (34, v34_18), (33, v29_14), (32, (.bool true)), (32, v32_17), (31, v31_16), (30, v30_15), (3, v29_14), (29, v29_14), (28, v28_13), (27, (τ 3)), (26, (.bool true)), (26, v25_12), (22, (.bool false)), (25, v25_12), (22, (.bool false)), (24, v24_11), (22, (.bool false)), (23, v23_10), (22, (.bool false)), (22, v21_2), (21, v21_2), (20, v20_1), (19, v19_0)] ds s19)
 (Q .normal τ [(32, (.bool false)), (32, v32_17), (31, v31_16), (30, v30_15), (3, v29_14), (29, v29_14), (28, v28_13), (27, (τ 3)), (26, (.bool true)), (26, v25_12), (22, (.bool false)), (25, v25_12), (22, (.bool false)), (24, v24_11), (22, (.bool false)), (23, v23_10), (22, (.bool false)), (22, v21_2), (21, v21_2), (20, v20_1), (19, v19_0)] ds s17))
 (I.wop (.fieldAddr 94 (.const (τ 1)) 5) 0 s12 fun v30_20 s20 =>
 I.wop (.load 24 (.const v30_20)) 24 s20 fun v31_21 s21 =>
 I.wop (.binOp .neq 24 (.const v31_21) (.const (.int .u64 0)) 24) 4 s21 fun v32_22 s22 =>
 wdec v32_22
 (I.wop (.buildSlice 30 1 ⟨[(0, (.const (.int .i64 2)))]⟩) 30 s22 fun v34_23 s23 =>
 I.wop (.call ⟨.builtin .append, ⟨[(.const (τ 3)), (.const v34_23)]⟩, #[30, 30]⟩) 30 s23 fun v35_24 s24 =>
 Q .normal τ [(3, v35_24), (35, v35_24), (34, v34_23), (33, (τ 3)), (32, (.bool true)), (32, v32_22), (31, v31_21), (30, v30_20), (26, (.bool false)), (26, v25_12), (22, (.bool false)), (25, v25_12), (22, (.bool false)), (24, v24_11), (22, (.bool false)), (23, v23_10), (22, (.bool false)), (22, v21_2), (21, v21_2), (20, v20_1), (19, v19_0)] ds s24)
 (Q .normal τ [(32, (.bool false)), (32, v32_22), (31, v31_21), (30, v30_20), (26, (.bool false)), (26, v25_12), (22, (.bool false)), (25, v25_12), (22, (.bool false)), (24, v24_11), (22, (.bool false)), (23, v23_10), (22, (.bool false)), (22, v21_2), (21, v21_2), (20, v20_1), (19, v19_0)] ds s22)))
theorem n98_11010101 (I : Prims) (τ : Tau) (ds : List Deferred) (s : St) (Q : Ex → XK) : xp I none 47 k98 c98_11010101 [1, 0, 1, 0, 1, 0, 1, 1] τ [] ds s Q = v98_11010101 I τ ds s Q := by kernel_rfl
def v98_111 (I : Prims) (τ : Tau) (ds : List Deferred) (s : St) (Q : Ex → XK) : Prop :=
 Q .ret τ [(2, (τ 3)), (46, (τ 3))] ds s
theorem n98_111 (I : Prims) (τ : Tau) (ds : List Deferred) (s : St) (Q : Ex → XK) : xp I none 47 k98 c98_111 [1, 1, 1] τ [] ds s Q = v98_111 I τ ds s Q := by kernel_rfl
def v98 (I : Prims) (a0 : Value) (si : St) (K : Value → St → Prop) : Prop :=
 I.wop (.box 94 (.const a0)) 0 (ent si) fun v1_0 s0 =>
 I.wop (.fieldAddr 94 (.const v1_0) 0) 0 s0 fun v4_1 s1 =>
 I.wop (.load 92 (.const v4_1)) 92 s1 fun v5_2 s2 =>
 I.wop (.binOp .eql 92 (.const v5_2) (.const (.int .u8 1)) 92) 4 s2 fun v7_3 s3 =>
 wdec v7_3
 (I.wop (.fieldAddr 94 (.const v1_0) 2) 0 s3 fun v8_4 s4 =>
 I.wop (.load 24 (.const v8_4)) 24 s4 fun v9_5 s5 =>
 I.wop (.binOp .neq 24 (.const v9_5) (.const (.int .u64 0)) 24) 4 s5 fun v10_6 s6 =>
 wdec v10_6
 (I.wop (.buildSlice 30 1 ⟨[(0, (.const (.int .i64 0)))]⟩) 30 s6 fun v17_7 s7 =>
 I.wop (.call ⟨.builtin .append, ⟨[(.const (.slice none 0 0)), (.const v17_7)]⟩, #[30, 30]⟩) 30 s7 fun v18_8 s8 =>
 I.hold (xp I none 47 k98 c98_11010101 [1, 0, 1, 0, 1, 0, 1, 1] (U undefT [(3, v18_8), (18, v18_8), (17, v17_7), (16, (.slice none 0 0)), (15, (.bool true)), (15, (.bool true)), (11, (.bool true)), (14, undef), (11, (.bool true)), (13, undef), (11, (.bool true)), (12, undef), (11, (.bool true)), (11, v10_6), (10, v10_6), (9, v9_5), (8, v8_4), (6, (.bool true)), (6, v7_3), (7, v7_3), (5, v5_2), (4, v4_1), (3, (.slice none 0 0)), (2, (.slice none 0 0)), (1, v1_0), (0, a0)]) [] [] s8 (blkX 0 (sX I none 47 k98 c98_111 [1, 1, 1] (xleave I si Tryd.f98.results.toList K)))))
 (I.wop (.fieldAddr 94 (.const v1_0) 4) 0 s6 fun v12_9 s9 =>
 I.wop (.load 24 (.const v12_9)) 24 s9 fun v13_10 s10 =>
 I.wop (.binOp .neq 24 (.const v13_10) (.const (.int .u64 0)) 24) 4 s10 fun v14_11 s11 =>
 wdec v14_11
 (I.wop (.buildSlice 30 1 ⟨[(0, (.const (.int .i64 0)))]⟩) 30 s11 fun v17_12 s12 =>
 I.wop (.call ⟨.builtin .append, ⟨[(.const (.slice none 0 0)), (.const v17_12)]⟩, #[30, 30]⟩) 30 s12 fun v18_13 s13 =>
 I.hold (xp I none 47 k98 c98_11010101 [1, 0, 1, 0, 1, 0, 1, 1] (U undefT [(3, v18_13), (18, v18_13), (17, v17_12), (16, (.slice none 0 0)), (15, (.bool true)), (15, v14_11), (11, (.bool false)), (14, v14_11), (11, (.bool false)), (13, v13_10), (11, (.bool false)), (12, v12_9), (11, (.bool false)), (11, v10_6), (10, v10_6), (9, v9_5), (8, v8_4), (6, (.bool true)), (6, v7_3), (7, v7_3), (5, v5_2), (4, v4_1), (3, (.slice none 0 0)), (2, (.slice none 0 0)), (1, v1_0), (0, a0)]) [] [] s13 (blkX 0 (sX I none 47 k98 c98_111 [1, 1, 1] (xleave I si Tryd.f98.results.toList K)))))
 (I.hold (xp I none 47 k98 c98_11010101 [1, 0, 1, 0, 1, 0, 1, 1] (U undefT [(15, (.bool false)), (15, v14_11), (11, (.bool false)), (14, v14_11), (11, (.bool false)), (13, v13_10), (11, (.bool false)), (12, v12_9), (11, (.bool false)), (11, v10_6), (10, v10_6), (9, v9_5), (8, v8_4), (6, (.bool true)), (6, v7_3), (7, v7_3), (5, v5_2), (4, v4_1), (3, (.slice none 0 0)), (2, (.slice none 0 0)), (1, v1_0), (0, a0)]) [] [] s11 (blkX 0 (sX I none 47 k98 c98_111 [1, 1, 1] (xleave I si Tryd.f98.results.toList K)))))))
 (I.wop (.binOp .eql 92 (.const v5_2) (.const (.int .u8 2)) 92) 4 s3 fun v37_14 s14 =>
 wdec v37_14
 (I.wop (.buildSlice 30 1 ⟨[(0, (.const (.int .i64 0)))]⟩) 30 s14 fun v39_15 s15 =>
 I.wop (.call ⟨.builtin .append, ⟨[(.const (.slice none 0 0)), (.const v39_15)]⟩, #[30, 30]⟩) 30 s15 fun v40_16 s16 =>
 I.fin si K v40_16 s16)
 (I.wop (.binOp .eql 92 (.const v5_2) (.const (.int .u8 3)) 92) 4 s14 fun v42_17 s17 =>
 wdec v42_17
 (I.wop (.buildSlice 30 4 ⟨[(0, (.const (.int .i64 0))), (1, (.const (.int .i64 1))), (2, (.const (.int .i64 2))), (3, (.const (.int .i64 3)))]⟩) 30 s17 fun v44_18 s18 =>
 I.wop (.call ⟨.builtin .append, ⟨[(.const (.slice none 0 0)), (.const v44_18)]⟩, #[30, 30]⟩) 30 s18 fun v45_19 s19 =>
 I.fin si K v45_19 s19)
 (I.fin si K (.slice none 0 0) s17)))
theorem x98 (I : Prims) (a0 : Value) (si : St) (K : Value → St → Prop) : xbody I 47 k98 Tryd.f98 c98 [a0] si K = v98 I a0 si K := by kernel_rfl
theorem n98 [Memo] (ro : Nat) (a0 : Value) (si : St) (K : Value → St → Prop) : wbody P ro 47 Tryd.f98 c98 [a0] si K = v98 (prims P ro) a0 si K := xbody_eq 47 P ro (x98 _ a0 si K)
theorem r98 (I : Prims) (si : St) (K : Value → St → Prop) (τ : Tau) (ds : List Deferred) (s : St) : xleave I si Tryd.f98.results.toList K .ret τ [] ds s =
 (xdefers I ds s fun s0 =>
 I.fin si K (τ 2) s0) := by kernel_rfl
/- attestor/attestorref06.Constant -/
noncomputable def c99 : Code := bodyOf Tryd.f99
def k99 : List (List Nat) := []
theorem b99 : BodyOk P 38 3 99 Tryd.f99 c99 := ⟨Tryd.func99, by kernel_rfl, by kernel_rfl, by kernel_rfl, by kernel_rfl, by kernel_rfl⟩
def v99 (I : Prims) (a0 a1 a2 : Value) (si : St) (K : Value → St → Prop) : Prop :=
 I.call 16 [a0] (ent si) fun v8_0 s0 =>
 I.wop (.unOp .not 4 (.const v8_0)) 4 s0 fun v9_1 s1 =>
 wdec v9_1
 (I.fin si K (.int .u64 0) s1)
 (I.wop (.binOp .lss 3 (.const a1) (.const (.int .i64 0)) 3) 4 s1 fun v12_2 s2 =>
 wdec v12_2
 (I.fin si K (.int .u64 0) s2)
 (I.wop (.binOp .gtr 3 (.const a1) (.const (.int .i64 7)) 3) 4 s2 fun v16_3 s3 =>
 wdec v16_3
 (I.fin si K (.int .u64 0) s3)
 (I.wop (.binOp .lss 3 (.const a2) (.const (.int .i64 0)) 3) 4 s3 fun v20_4 s4 =>
 wdec v20_4
 (I.fin si K (.int .u64 0) s4)
 (I.wop (.binOp .gtr 3 (.const a2) (.const (.int .i64 3)) 3) 4 s4 fun v24_5 s5 =>
 wdec v24_5
 (I.fin si K (.int .u64 0) s5)
 (I.call 103 [a0] s5 fun v29_6 s6 =>
 I.wop (.binOp .mul 3 (.const (.int .i64 4)) (.const a1) 3) 3 s6 fun v31_7 s7 =>
 I.wop (.binOp .add 3 (.const v31_7) (.const a2) 3) 3 s7 fun v33_8 s8 =>
 I.wop (.binOp .add 3 (.const v33_8) (.const (.int .i64 1)) 3) 3 s8 fun v34_9 s9 =>
 I.wop (.convert 3 24 (.const v34_9)) 24 s9 fun v35_10 s10 =>
 I.call 33 [a0, v29_6, v35_10] s10 fun v36_11 s11 =>
 I.call 66 [a0, v36_11, (.int .u64 7)] s11 fun v37_12 s12 =>
 I.fin si K v37_12 s12)))))
theorem x99 (I : Prims) (a0 a1 a2 : Value) (si : St) (K : Value → St → Prop) : xbody I 38 k99 Tryd.f99 c99 [a0, a1, a2] si K = v99 I a0 a1 a2 si K := by kernel_rfl
theorem n99 [Memo] (ro : Nat) (a0 a1 a2 : Value) (si : St) (K : Value → St → Prop) : wbody P ro 38 Tryd.f99 c99 [a0, a1, a2] si K = v99 (prims P ro) a0 a1 a2 si K := xbody_eq 38 P ro (x99 _ a0 a1 a2 si K)
theorem r99 (I : Prims) (si : St) (K : Value → St → Prop) (τ : Tau) (ds : List Deferred) (s : St) : xleave I si Tryd.f99.results.toList K .ret τ [] ds s =
 (xdefers I ds s fun s0 =>
 I.fin si K (τ 6) s0) := by kernel_rfl
/- attestor/attestorref01.Exponent -/
noncomputable def c100 : Code := bodyOf Tryd.f100
def k100 : List (List Nat) := []
theorem b100 : BodyOk P 10 1 100 Tryd.f100 c100 := ⟨Tryd.func100, by kernel_rfl, by kernel_rfl, by kernel_rfl, by kernel_rfl, by kernel_rfl⟩
def v100 (I : Prims) (a0 : Value) (si : St) (K : Value → St → Prop) : Prop :=
 I.wop (.binOp .eql 3 (.const a0) (.const (.int .i64 0)) 3) 4 (ent si) fun v5_0 s0 =>
 wdec v5_0
 (I.fin si K (.int .i64 5) s0)
 (I.wop (.binOp .eql 3 (.const a0) (.const (.int .i64 2)) 3) 4 s0 fun v6_1 s1 =>
 wdec v6_1
 (I.fin si K (.int .i64 5) s1)
 (I.wop (.binOp .eql 3 (.const a0) (.const (.int .i64 1)) 3) 4 s1 fun v8_2 s2 =>
 wdec v8_2
 (I.fin si K (.int .i64 3) s2)
 (I.wop (.binOp .eql 3 (.const a0) (.const (.int .i64 3)) 3) 4 s2 fun v9_3 s3 =>
 wdec v9_3
 (I.fin si K (.int .i64 3) s3)
 (I.fin si K (.int .i64 0) s3))))
theorem x100 (I : Prims) (a0 : Value) (si : St) (K : Value → St → Prop) : xbody I 10 k100 Tryd.f100 c100 [a0] si K = v100 I a0 si K := by kernel_rfl
theorem n100 [Memo] (ro : Nat) (a0 : Value) (si : St) (K : Value → St → Prop) : wbody P ro 10 Tryd.f100 c100 [a0] si K = v100 (prims P ro) a0 si K := xbody_eq 10 P ro (x100 _ a0 si K)
theorem r100 (I : Prims) (si : St) (K : Value → St → Prop) (τ : Tau) (ds : List Deferred) (s : St) : xleave I si Tryd.f100.results.toList K .ret τ [] ds s =
 (xdefers I ds s fun s0 =>
 I.fin si K (τ 2) s0) := by kernel_rfl
/- attestor/attestorref06.row -/
noncomputable def c101 : Code := bodyOf Tryd.f101
def k101 : List (List Nat) := []
theorem b101 : BodyOk P 12 1 101 Tryd.f101 c101 := ⟨Tryd.func101, by kernel_rfl, by kernel_rfl, by kernel_rfl, by kernel_rfl, by kernel_rfl⟩
def v101 (I : Prims) (a0 : Value) (si : St) (K : Value → St → Prop) : Prop :=
 I.wop (.alloc 58) 0 (ent si) fun v2_0 s0 =>
 I.wop (.build 58 ⟨[(0, (.const (.int .u64 2))), (1, (.const (.int .u64 3))), (2, (.const (.int .u64 1))), (3, (.const (.int .u64 1)))]⟩) 58 s0 fun v4_1 s1 =>
 I.wop (.build 58 ⟨[(0, (.const (.int .u64 1))), (1, (.const (.int .u64 2))), (2, (.const (.int .u64 3))), (3, (.const (.int .u64 1)))]⟩) 58 s1 fun v5_2 s2 =>
 I.wop (.build 58 ⟨[(0, (.const (.int .u64 1))), (1, (.const (.int .u64 1))), (2, (.const (.int .u64 2))), (3, (.const (.int .u64 3)))]⟩) 58 s2 fun v6_3 s3 =>
 I.wop (.build 58 ⟨[(0, (.const (.int .u64 3))), (1, (.const (.int .u64 1))), (2, (.const (.int .u64 1))), (3, (.const (.int .u64 2)))]⟩) 58 s3 fun v7_4 s4 =>
 I.wop (.build 150 ⟨[(0, (.const v4_1)), (1, (.const v5_2)), (2, (.const v6_3)), (3, (.const v7_4))]⟩) 150 s4 fun v8_5 s5 =>
 I.wop (.alloc 150) 0 s5 fun v3_6 s6 =>
 I.wop (.store 150 (.const v3_6) (.const v8_5)) 0 s6 fun _ s7 =>
 I.wop (.indexAddr 150 (.const v3_6) (.const a0)) 0 s7 fun v10_8 s8 =>
 I.wop (.load 58 (.const v10_8)) 58 s8 fun v11_9 s9 =>
 I.wop (.store 58 (.const v2_0) (.const v11_9)) 0 s9 fun _ s10 =>
 I.wop (.load 58 (.const v2_0)) 58 s10 fun v2_11 _ =>
 I.fin si K v2_11 s10
theorem x101 (I : Prims) (a0 : Value) (si : St) (K : Value → St → Prop) : xbody I 12 k101 Tryd.f101 c101 [a0] si K = v101 I a0 si K := by kernel_rfl
theorem n101 [Memo] (ro : Nat) (a0 : Value) (si : St) (K : Value → St → Prop) : wbody P ro 12 Tryd.f101 c101 [a0] si K = v101 (prims P ro) a0 si K := xbody_eq 12 P ro (x101 _ a0 si K)
theorem r101 (I : Prims) (si : St) (K : Value → St → Prop) (τ : Tau) (ds : List Deferred) (s : St) : xleave I si Tryd.f101.results.toList K .ret τ [] ds s =
 (xdefers I ds s fun s0 =>
 I.wop (.load 58 (.const (τ 2))) 58 s0 fun v2_1 _ =>
 I.fin si K v2_1 s0) := by kernel_rfl
/- attestor/attestorref01.Generator -/
noncomputable def c103 : Code := bodyOf Tryd.f103
def k103 : List (List Nat) := []
theorem b103 : BodyOk P 11 1 103 Tryd.f103 c103 := ⟨Tryd.func103, by kernel_rfl, by kernel_rfl, by kernel_rfl, by kernel_rfl, by kernel_rfl⟩
def v103 (I : Prims) (a0 : Value) (si : St) (K : Value → St → Prop) : Prop :=
 I.wop (.binOp .eql 3 (.const a0) (.const (.int .i64 0)) 3) 4 (ent si) fun v5_0 s0 =>
 wdec v5_0
 (I.fin si K (.int .u64 5) s0)
 (I.wop (.binOp .eql 3 (.const a0) (.const (.int .i64 1)) 3) 4 s0 fun v7_1 s1 =>
 wdec v7_1
 (I.fin si K (.int .u64 3) s1)
 (I.wop (.binOp .eql 3 (.const a0) (.const (.int .i64 3)) 3) 4 s1 fun v8_2 s2 =>
 wdec v8_2
 (I.fin si K (.int .u64 3) s2)
 (I.wop (.binOp .eql 3 (.const a0) (.const (.int .i64 2)) 3) 4 s2 fun v10_3 s3 =>
 wdec v10_3
 (I.fin si K (.int .u64 11) s3)
 (I.fin si K (.int .u64 0) s3))))
theorem x103 (I : Prims) (a0 : Value) (si : St) (K : Value → St → Prop) : xbody I 11 k103 Tryd.f103 c103 [a0] si K = v103 I a0 si K := by kernel_rfl
theorem n103 [Memo] (ro : Nat) (a0 : Value) (si : St) (K : Value → St → Prop) : wbody P ro 11 Tryd.f103 c103 [a0] si K = v103 (prims P ro) a0 si K := xbody_eq 11 P ro (x103 _ a0 si K)
theorem r103 (I : Prims) (si : St) (K : Value → St → Prop) (τ : Tau) (ds : List Deferred) (s : St) : xleave I si Tryd.f103.results.toList K .ret τ [] ds s =
 (xdefers I ds s fun s0 =>
 I.fin si K (τ 2) s0) := by kernel_rfl

end Go.VE
