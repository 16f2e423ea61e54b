/-
  What the functions' code does, operation by operation.
-/
import Derived.Test.YtkadjemloffhnaaDoorFn1
set_option linter.unusedSimpArgs false
set_option linter.unusedVariables false
namespace Go.VE
open Go Go.Proofs
/- attestor/gates.formed -/
noncomputable def c60 : Code := bodyOf Tryd.f60
noncomputable def c60_11001 : Code := subCode [1, 1, 0, 0, 1] c60
noncomputable def c60_111 : Code := subCode [1, 1, 1] c60
noncomputable def c60_1100111 : Code := subCode [1, 1, 0, 0, 1, 1, 1] c60
noncomputable def c60_1110100 : Code := subCode [1, 1, 1, 0, 1, 0, 0] c60
def k60 : List (List Nat) := [[1, 0, 0, 1, 1], [1, 1, 1, 0, 0, 1, 1]]
def k60_1110100 : List (List Nat) := []
theorem l60_1110100 : ltCode 80 c60_1110100 = true := by kernel_rfl
theorem m60_1110100 : notMap c60_1110100 = true := by kernel_rfl
theorem b60 : BodyOk P 80 2 60 Tryd.f60 c60 := ⟨Tryd.func60, by kernel_rfl, by kernel_rfl, by kernel_rfl, by kernel_rfl, by kernel_rfl⟩
def v60_11001 (I : Prims) (τ : Tau) (ds : List Deferred) (s : St) (Q : Ex → XK) : Prop :=
 wdec (τ 20)
 (Q .ret τ [(4, (.bool false)), (20, (.bool true))] ds s)
 (I.wop (.fieldAddr 43 (.const (τ 3)) 0) 0 s fun v31_0 s0 =>
 I.wop (.load 40 (.const v31_0)) 40 s0 fun v32_1 s1 =>
 I.wop (.binOp .neq 40 (.const v32_1) (.const (.int .u8 3)) 40) 4 s1 fun v33_2 s2 =>
 wdec v33_2
 (I.wop (.fieldAddr 43 (.const (τ 3)) 7) 0 s2 fun v35_3 s3 =>
 I.wop (.load 3 (.const v35_3)) 3 s3 fun v36_4 s4 =>
 I.wop (.binOp .neq 3 (.const v36_4) (.const (.int .i64 0)) 3) 4 s4 fun v37_5 s5 =>
 wdec v37_5
 (I.hold (xp I none 80 k60 c60_1100111 [1, 1, 1, 0, 0, 1, 1] (U τ [(30, (.bool true)), (30, v37_5), (38, v37_5), (34, (.bool true)), (37, v37_5), (34, (.bool true)), (36, v36_4), (34, (.bool true)), (35, v35_3), (34, (.bool true)), (34, v33_2), (33, v33_2), (32, v32_1), (31, v31_0), (20, (.bool false))]) [] ds s5 Q))
 (I.wop (.fieldAddr 24 (.const (τ 2)) 0) 0 s5 fun v41_6 s6 =>
 I.wop (.load 3 (.const v41_6)) 3 s6 fun v42_7 s7 =>
 veq v42_7 v42_7 = true ∧ I.call 46 [(τ 5)] s7 fun v40_8 s8 =>
 Keeps [(3, .ptr v41_6)] s7 s8 ∧ I.call 47 [v42_7] s8 fun v43_9 s9 =>
 I.wop (.binOp .geq 38 (.const v40_8) (.const v43_9) 38) 4 s9 fun v44_10 s10 =>
 I.hold (xp I none 80 k60 c60_1100111 [1, 1, 1, 0, 0, 1, 1] (U τ [(30, v44_10), (44, v44_10), (43, v43_9), (40, v40_8), (42, v42_7), (41, v41_6), (39, (τ 5)), (30, (.bool false)), (30, v37_5), (38, v37_5), (34, (.bool true)), (37, v37_5), (34, (.bool true)), (36, v36_4), (34, (.bool true)), (35, v35_3), (34, (.bool true)), (34, v33_2), (33, v33_2), (32, v32_1), (31, v31_0), (20, (.bool false))]) [] ds s10 Q)))
 (I.wop (.fieldAddr 24 (.const (τ 2)) 0) 0 s2 fun v41_11 s11 =>
 I.wop (.load 3 (.const v41_11)) 3 s11 fun v42_12 s12 =>
 veq v42_12 v42_12 = true ∧ I.call 46 [(τ 5)] s12 fun v40_13 s13 =>
 Keeps [(3, .ptr v41_11)] s12 s13 ∧ I.call 47 [v42_12] s13 fun v43_14 s14 =>
 I.wop (.binOp .geq 38 (.const v40_13) (.const v43_14) 38) 4 s14 fun v44_15 s15 =>
 I.hold (xp I none 80 k60 c60_1100111 [1, 1, 1, 0, 0, 1, 1] (U τ [(30, v44_15), (44, v44_15), (43, v43_14), (40, v40_13), (42, v42_12), (41, v41_11), (39, (τ 5)), (30, (.bool false)), (30, (.bool false)), (38, (.bool false)), (34, (.bool false)), (37, undef), (34, (.bool false)), (36, undef), (34, (.bool false)), (35, undef), (34, (.bool false)), (34, v33_2), (33, v33_2), (32, v32_1), (31, v31_0), (20, (.bool false))]) [] ds s15 Q)))
theorem n60_11001 (I : Prims) (τ : Tau) (ds : List Deferred) (s : St) (Q : Ex → XK) : xp I none 80 k60 c60_11001 [1, 0, 0, 1, 1] τ [] ds s Q = v60_11001 I τ ds s Q := by kernel_rfl
def v60_111 (I : Prims) (τ : Tau) (ds : List Deferred) (s : St) (Q : Ex → XK) : Prop :=
 I.wop (.load 43 (.const (τ 3))) 43 s fun v54_0 s0 =>
 I.call 63 [v54_0] s0 fun v55_1 s1 =>
 I.loop 80 none c60_1110100 (U τ [(56, (.int .i64 0)), (55, v55_1), (54, v54_0)]) ds s1 (fun τ ds s => (Q .ret) τ [] ds s) [(1, fun τ2 ds2 s2 =>
 Q .ret τ2 [(4, (.bool true))] ds2 s2)]
theorem n60_111 (I : Prims) (τ : Tau) (ds : List Deferred) (s : St) (Q : Ex → XK) : xp I none 80 k60 c60_111 [1, 1, 1] τ [] ds s Q = v60_111 I τ ds s Q := by kernel_rfl
def v60_1100111 (I : Prims) (τ : Tau) (ds : List Deferred) (s : St) (Q : Ex → XK) : Prop :=
 wdec (τ 30)
 (Q .ret τ [(4, (.bool false)), (30, (.bool true))] ds s)
 (I.wop (.fieldAddr 43 (.const (τ 3)) 0) 0 s fun v46_0 s0 =>
 I.wop (.load 40 (.const v46_0)) 40 s0 fun v47_1 s1 =>
 I.wop (.binOp .neq 40 (.const v47_1) (.const (.int .u8 1)) 40) 4 s1 fun v48_2 s2 =>
 wdec v48_2
 (I.call 46 [(τ 5)] s2 fun v51_3 s3 =>
 I.wop (.binOp .neq 38 (.const v51_3) (.const (.int .u64 0)) 38) 4 s3 fun v52_4 s4 =>
 wdec v52_4
 (Q .ret τ [(4, (.bool false)), (45, (.bool true)), (45, v52_4), (53, v52_4), (49, (.bool true)), (52, v52_4), (49, (.bool true)), (51, v51_3), (49, (.bool true)), (50, (τ 5)), (49, (.bool true)), (49, v48_2), (48, v48_2), (47, v47_1), (46, v46_0), (30, (.bool false))] ds s4)
 (Q .normal τ [(45, (.bool false)), (45, v52_4), (53, v52_4), (49, (.bool true)), (52, v52_4), (49, (.bool true)), (51, v51_3), (49, (.bool true)), (50, (τ 5)), (49, (.bool true)), (49, v48_2), (48, v48_2), (47, v47_1), (46, v46_0), (30, (.bool false))] ds s4))
 (Q .normal τ [(45, (.bool false)), (45, (.bool false)), (53, (.bool false)), (49, (.bool false)), (52, undef), (49, (.bool false)), (51, undef), (49, (.bool false)), (50, undef), (49, (.bool false)), (49, v48_2), (48, v48_2), (47, v47_1), (46, v46_0), (30, (.bool false))] ds s2))
theorem n60_1100111 (I : Prims) (τ : Tau) (ds : List Deferred) (s : St) (Q : Ex → XK) : xp I none 80 k60 c60_1100111 [1, 1, 1, 0, 0, 1, 1] τ [] ds s Q = v60_1100111 I τ ds s Q := by kernel_rfl
def v60_1110100 (I : Prims) (rnd : Option Nat) (τ : Tau) (ds : List Deferred) (s : St) (Q : Ex → WK) : Prop :=
 I.wop (.binOp .lss 3 (.const (τ 56)) (.const (.int .i64 4)) 3) 0 s fun v57_0 s0 =>
 wdec v57_0
 (I.wop (.index 70 (.const (τ 55)) (.const (τ 56))) 4 s0 fun v59_1 s1 =>
 I.wop (.fieldAddr 43 (.const (τ 3)) 1) 0 s1 fun v61_2 s2 =>
 I.wop (.indexAddr 41 (.const v61_2) (.const (τ 56))) 0 s2 fun v62_3 s3 =>
 I.wop (.load 3 (.const v62_3)) 3 s3 fun v63_4 s4 =>
 I.wop (.binOp .lss 3 (.const v63_4) (.const (.int .i64 (-1))) 3) 4 s4 fun v65_5 s5 =>
 wdec v65_5
 (Q .ret (U τ [(4, (.bool false)), (78, (.bool true)), (78, (.bool true)), (72, (.bool true)), (77, undef), (72, (.bool true)), (76, undef), (75, undef), (74, undef), (72, (.bool true)), (73, undef), (72, (.bool true)), (72, (.bool true)), (71, (.bool true)), (66, (.bool true)), (70, undef), (66, (.bool true)), (69, undef), (66, (.bool true)), (68, undef), (66, (.bool true)), (67, undef), (66, (.bool true)), (66, v65_5), (65, v65_5), (64, v63_4), (8, v63_4), (63, v63_4), (62, v62_3), (61, v61_2), (60, (τ 56)), (7, v59_1), (6, (τ 56)), (59, v59_1), (58, (τ 56)), (57, (.bool true)), (57, v57_0)]) ds s5)
 (I.wop (.fieldAddr 24 (.const (τ 2)) 1) 0 s5 fun v68_6 s6 =>
 I.wop (.load 3 (.const v68_6)) 3 s6 fun v69_7 s7 =>
 I.wop (.binOp .geq 3 (.const v63_4) (.const v69_7) 3) 4 s7 fun v70_8 s8 =>
 wdec v70_8
 (Q .ret (U τ [(4, (.bool false)), (78, (.bool true)), (78, (.bool true)), (72, (.bool true)), (77, undef), (72, (.bool true)), (76, undef), (75, undef), (74, undef), (72, (.bool true)), (73, undef), (72, (.bool true)), (72, v70_8), (71, v70_8), (66, (.bool false)), (70, v70_8), (66, (.bool false)), (69, v69_7), (66, (.bool false)), (68, v68_6), (66, (.bool false)), (67, v63_4), (66, (.bool false)), (66, v65_5), (65, v65_5), (64, v63_4), (8, v63_4), (63, v63_4), (62, v62_3), (61, v61_2), (60, (τ 56)), (7, v59_1), (6, (τ 56)), (59, v59_1), (58, (τ 56)), (57, (.bool true)), (57, v57_0)]) ds s8)
 (wdec v59_1
 (I.wop (.binOp .lss 3 (.const v63_4) (.const (.int .i64 0)) 3) 4 s8 fun v76_9 s9 =>
 wdec v76_9
 (Q .ret (U τ [(4, (.bool false)), (78, (.bool true)), (78, v76_9), (72, (.bool false)), (77, v76_9), (74, (.bool true)), (72, (.bool false)), (76, v76_9), (74, (.bool true)), (75, v63_4), (74, (.bool true)), (74, v59_1), (72, (.bool false)), (73, v59_1), (72, (.bool false)), (72, v70_8), (71, v70_8), (66, (.bool false)), (70, v70_8), (66, (.bool false)), (69, v69_7), (66, (.bool false)), (68, v68_6), (66, (.bool false)), (67, v63_4), (66, (.bool false)), (66, v65_5), (65, v65_5), (64, v63_4), (8, v63_4), (63, v63_4), (62, v62_3), (61, v61_2), (60, (τ 56)), (7, v59_1), (6, (τ 56)), (59, v59_1), (58, (τ 56)), (57, (.bool true)), (57, v57_0)]) ds s9)
 (I.wop (.binOp .add 3 (.const (τ 56)) (.const (.int .i64 1)) 3) 3 s9 fun v79_10 s10 =>
 Q .normal (U τ [(56, v79_10), (79, v79_10), (78, (.bool false)), (78, v76_9), (72, (.bool false)), (77, v76_9), (74, (.bool true)), (72, (.bool false)), (76, v76_9), (74, (.bool true)), (75, v63_4), (74, (.bool true)), (74, v59_1), (72, (.bool false)), (73, v59_1), (72, (.bool false)), (72, v70_8), (71, v70_8), (66, (.bool false)), (70, v70_8), (66, (.bool false)), (69, v69_7), (66, (.bool false)), (68, v68_6), (66, (.bool false)), (67, v63_4), (66, (.bool false)), (66, v65_5), (65, v65_5), (64, v63_4), (8, v63_4), (63, v63_4), (62, v62_3), (61, v61_2), (60, (τ 56)), (7, v59_1), (6, (τ 56)), (59, v59_1), (58, (τ 56)), (57, (.bool true)), (57, v57_0)]) ds s10))
 (I.wop (.binOp .add 3 (.const (τ 56)) (.const (.int .i64 1)) 3) 3 s8 fun v79_11 s11 =>
 Q .normal (U τ [(56, v79_11), (79, v79_11), (78, (.bool false)), (78, (.bool false)), (72, (.bool false)), (77, (.bool false)), (74, (.bool false)), (72, (.bool false)), (76, undef), (74, (.bool false)), (75, undef), (74, (.bool false)), (74, v59_1), (72, (.bool false)), (73, v59_1), (72, (.bool false)), (72, v70_8), (71, v70_8), (66, (.bool false)), (70, v70_8), (66, (.bool false)), (69, v69_7), (66, (.bool false)), (68, v68_6), (66, (.bool false)), (67, v63_4), (66, (.bool false)), (66, v65_5), (65, v65_5), (64, v63_4), (8, v63_4), (63, v63_4), (62, v62_3), (61, v61_2), (60, (τ 56)), (7, v59_1), (6, (τ 56)), (59, v59_1), (58, (τ 56)), (57, (.bool true)), (57, v57_0)]) ds s11))))
 (Q (.exit 1) (U τ [(57, (.bool false)), (57, v57_0)]) ds s0)
theorem x60_1110100 (I : Prims) (rnd : Option Nat) (τ : Tau) (ds : List Deferred) (s : St) (Q : Ex → WK) : xp I rnd 80 k60_1110100 c60_1110100 [] τ [] ds s (lift Q) = v60_1110100 I rnd τ ds s Q := by kernel_rfl
theorem n60_1110100 [Memo] (ro : Nat) (rnd : Option Nat) (τ : Tau) (ds : List Deferred) (s : St) (Q : Ex → WK) : wp P ro 80 rnd c60_1110100 τ ds s Q = v60_1110100 (prims P ro) rnd τ ds s Q := xp_wp rnd 80 P ro (x60_1110100 _ rnd τ ds s Q)
def v60 (I : Prims) (a0 a1 : Value) (si : St) (K : Value → St → Prop) : Prop :=
 I.wop (.box 24 (.const a0)) 0 (ent si) fun v2_0 s0 =>
 I.wop (.box 43 (.const a1)) 0 s0 fun v3_1 s1 =>
 I.wop (.fieldAddr 43 (.const v3_1) 2) 0 s1 fun v9_2 s2 =>
 I.wop (.load 38 (.const v9_2)) 38 s2 fun v10_3 s3 =>
 I.wop (.fieldAddr 43 (.const v3_1) 3) 0 s3 fun v11_4 s4 =>
 I.wop (.load 38 (.const v11_4)) 38 s4 fun v12_5 s5 =>
 I.wop (.fieldAddr 43 (.const v3_1) 4) 0 s5 fun v13_6 s6 =>
 I.wop (.load 38 (.const v13_6)) 38 s6 fun v14_7 s7 =>
 I.wop (.fieldAddr 43 (.const v3_1) 5) 0 s7 fun v15_8 s8 =>
 I.wop (.load 38 (.const v15_8)) 38 s8 fun v16_9 s9 =>
 I.wop (.fieldAddr 43 (.const v3_1) 6) 0 s9 fun v17_10 s10 =>
 I.wop (.load 38 (.const v17_10)) 38 s10 fun v18_11 s11 =>
 I.wop (.buildSlice 25 5 ⟨[(0, (.const v10_3)), (1, (.const v12_5)), (2, (.const v14_7)), (3, (.const v16_9)), (4, (.const v18_11))]⟩) 25 s11 fun v19_12 s12 =>
 I.wop (.fieldAddr 43 (.const v3_1) 0) 0 s12 fun v21_13 s13 =>
 I.wop (.load 40 (.const v21_13)) 40 s13 fun v22_14 s14 =>
 I.wop (.binOp .gtr 40 (.const v22_14) (.const (.int .u8 3)) 40) 4 s14 fun v23_15 s15 =>
 wdec v23_15
 (I.hold (xp I none 80 k60 c60_11001 [1, 0, 0, 1, 1] (U undefT [(20, (.bool true)), (20, v23_15), (23, v23_15), (22, v22_14), (21, v21_13), (5, v19_12), (19, v19_12), (18, v18_11), (17, v17_10), (16, v16_9), (15, v15_8), (14, v14_7), (13, v13_6), (12, v12_5), (11, v11_4), (10, v10_3), (9, v9_2), (4, (.bool false)), (3, v3_1), (2, v2_0), (0, a0), (1, a1)]) [] [] s15 (blkX 0 (sX I none 80 k60 c60_111 [1, 1, 1] (xleave I si Tryd.f60.results.toList K)))))
 (I.wop (.fieldAddr 43 (.const v3_1) 7) 0 s15 fun v24_16 s16 =>
 I.wop (.load 3 (.const v24_16)) 3 s16 fun v25_17 s17 =>
 I.wop (.binOp .lss 3 (.const v25_17) (.const (.int .i64 0)) 3) 4 s17 fun v26_18 s18 =>
 wdec v26_18
 (I.hold (xp I none 80 k60 c60_11001 [1, 0, 0, 1, 1] (U undefT [(20, (.bool true)), (20, v26_18), (26, v26_18), (25, v25_17), (24, v24_16), (20, (.bool false)), (20, v23_15), (23, v23_15), (22, v22_14), (21, v21_13), (5, v19_12), (19, v19_12), (18, v18_11), (17, v17_10), (16, v16_9), (15, v15_8), (14, v14_7), (13, v13_6), (12, v12_5), (11, v11_4), (10, v10_3), (9, v9_2), (4, (.bool false)), (3, v3_1), (2, v2_0), (0, a0), (1, a1)]) [] [] s18 (blkX 0 (sX I none 80 k60 c60_111 [1, 1, 1] (xleave I si Tryd.f60.results.toList K)))))
 (I.wop (.fieldAddr 43 (.const v3_1) 7) 0 s18 fun v27_19 s19 =>
 I.wop (.load 3 (.const v27_19)) 3 s19 fun v28_20 s20 =>
 I.wop (.binOp .geq 3 (.const v28_20) (.const (.int .i64 8)) 3) 4 s20 fun v29_21 s21 =>
 I.hold (xp I none 80 k60 c60_11001 [1, 0, 0, 1, 1] (U undefT [(20, v29_21), (29, v29_21), (28, v28_20), (27, v27_19), (20, (.bool false)), (20, v26_18), (26, v26_18), (25, v25_17), (24, v24_16), (20, (.bool false)), (20, v23_15), (23, v23_15), (22, v22_14), (21, v21_13), (5, v19_12), (19, v19_12), (18, v18_11), (17, v17_10), (16, v16_9), (15, v15_8), (14, v14_7), (13, v13_6), (12, v12_5), (11, v11_4), (10, v10_3), (9, v9_2), (4, (.bool false)), (3, v3_1), (2, v2_0), (0, a0), (1, a1)]) [] [] s21 (blkX 0 (sX I none 80 k60 c60_111 [1, 1, 1] (xleave I si Tryd.f60.results.toList K))))))
theorem x60 (I : Prims) (a0 a1 : Value) (si : St) (K : Value → St → Prop) : xbody I 80 k60 Tryd.f60 c60 [a0, a1] si K = v60 I a0 a1 si K := by kernel_rfl
theorem n60 [Memo] (ro : Nat) (a0 a1 : Value) (si : St) (K : Value → St → Prop) : wbody P ro 80 Tryd.f60 c60 [a0, a1] si K = v60 (prims P ro) a0 a1 si K := xbody_eq 80 P ro (x60 _ a0 a1 si K)
theorem r60 (I : Prims) (si : St) (K : Value → St → Prop) (τ : Tau) (ds : List Deferred) (s : St) : xleave I si Tryd.f60.results.toList K .ret τ [] ds s =
 (xdefers I ds s fun s0 =>
 I.fin si K (τ 4) s0) := by kernel_rfl
/- slices.Min[[]int,int] -/
noncomputable def c61 : Code := bodyOf Tryd.f61
noncomputable def c61_11 : Code := subCode [1, 1] c61
noncomputable def c61_1110100 : Code := subCode [1, 1, 1, 0, 1, 0, 0] c61
def k61 : List (List Nat) := [[1, 1]]
def k61_1110100 : List (List Nat) := []
theorem l61_1110100 : ltCode 25 c61_1110100 = true := by kernel_rfl
theorem m61_1110100 : notMap c61_1110100 = true := by kernel_rfl
theorem b61 : BodyOk P 25 1 61 Tryd.f61 c61 := ⟨Tryd.func61, by kernel_rfl, by kernel_rfl, by kernel_rfl, by kernel_rfl, by kernel_rfl⟩
def v61_11 (I : Prims) (τ : Tau) (ds : List Deferred) (s : St) (Q : Ex → XK) : Prop :=
 I.wop (.indexAddr 49 (.const (τ 0)) (.const (.int .i64 0))) 0 s fun v10_0 s0 =>
 I.wop (.load 3 (.const v10_0)) 3 s0 fun v11_1 s1 =>
 I.loop 25 none c61_1110100 (U τ [(4, (.int .i64 1)), (3, v11_1), (11, v11_1), (10, v10_0), (9, (τ 0))]) ds s1 (fun τ ds s => (Q .ret) τ [] ds s) [(0, fun τ2 ds2 s2 =>
 Q .ret τ2 [(2, (τ2 3)), (24, (τ2 3))] ds2 s2)]
theorem n61_11 (I : Prims) (τ : Tau) (ds : List Deferred) (s : St) (Q : Ex → XK) : xp I none 25 k61 c61_11 [1, 1] τ [] ds s Q = v61_11 I τ ds s Q := by kernel_rfl
def v61_1110100 (I : Prims) (rnd : Option Nat) (τ : Tau) (ds : List Deferred) (s : St) (Q : Ex → WK) : Prop :=
 I.wop (.call ⟨.builtin .len, ⟨[(.const (τ 0))]⟩, #[49]⟩) 3 s fun v14_0 s0 =>
 I.wop (.binOp .lss 3 (.const (τ 4)) (.const v14_0) 3) 4 s0 fun v15_1 s1 =>
 wdec v15_1
 (I.wop (.indexAddr 49 (.const (τ 0)) (.const (τ 4))) 0 s1 fun v21_2 s2 =>
 I.wop (.load 3 (.const v21_2)) 3 s2 fun v22_3 s3 =>
 I.wop (.call ⟨.builtin .min, ⟨[(.const (τ 3)), (.const v22_3)]⟩, #[3, 3]⟩) 3 s3 fun v23_4 s4 =>
 I.wop (.binOp .add 3 (.const (τ 4)) (.const (.int .i64 1)) 3) 3 s4 fun v17_5 s5 =>
 Q .normal (U τ [(4, v17_5), (17, v17_5), (16, (τ 4)), (3, v23_4), (23, v23_4), (22, v22_3), (21, v21_2), (20, (τ 4)), (19, (τ 0)), (18, (τ 3)), (15, (.bool true)), (15, v15_1), (14, v14_0), (13, (τ 0)), (12, (τ 4))]) ds s5)
 (Q (.exit 0) (U τ [(15, (.bool false)), (15, v15_1), (14, v14_0), (13, (τ 0)), (12, (τ 4))]) ds s1)
theorem x61_1110100 (I : Prims) (rnd : Option Nat) (τ : Tau) (ds : List Deferred) (s : St) (Q : Ex → WK) : xp I rnd 25 k61_1110100 c61_1110100 [] τ [] ds s (lift Q) = v61_1110100 I rnd τ ds s Q := by kernel_rfl
theorem n61_1110100 [Memo] (ro : Nat) (rnd : Option Nat) (τ : Tau) (ds : List Deferred) (s : St) (Q : Ex → WK) : wp P ro 25 rnd c61_1110100 τ ds s Q = v61_1110100 (prims P ro) rnd τ ds s Q := xp_wp rnd 25 P ro (x61_1110100 _ rnd τ ds s Q)
def v61 (I : Prims) (a0 : Value) (si : St) (K : Value → St → Prop) : Prop :=
 I.wop (.call ⟨.builtin .len, ⟨[(.const a0)]⟩, #[49]⟩) 3 (ent si) fun v6_0 s0 =>
 I.wop (.binOp .lss 3 (.const v6_0) (.const (.int .i64 1)) 3) 4 s0 fun v7_1 s1 =>
 wdec v7_1
 (I.wop (.makeInterface 9 (.const (.string (ByteArray.mk #[115, 108, 105, 99, 101, 115, 46, 77, 105, 110, 58, 32, 101, 109, 112, 116, 121, 32, 108, 105, 115, 116])))) 20 s1 fun v8_2 s2 =>
 I.wop (.panic (.tmp 8)) 0 s2 fun _ s3 =>
 I.hold (xp I none 25 k61 c61_11 [1, 1] (U undefT [(8, v8_2), (7, (.bool true)), (7, v7_1), (6, v6_0), (5, a0), (2, (.int .i64 0)), (0, a0)]) [] [] s3 (xleave I si Tryd.f61.results.toList K)))
 (I.hold (xp I none 25 k61 c61_11 [1, 1] (U undefT [(7, (.bool false)), (7, v7_1), (6, v6_0), (5, a0), (2, (.int .i64 0)), (0, a0)]) [] [] s1 (xleave I si Tryd.f61.results.toList K)))
theorem x61 (I : Prims) (a0 : Value) (si : St) (K : Value → St → Prop) : xbody I 25 k61 Tryd.f61 c61 [a0] si K = v61 I a0 si K := by kernel_rfl
theorem n61 [Memo] (ro : Nat) (a0 : Value) (si : St) (K : Value → St → Prop) : wbody P ro 25 Tryd.f61 c61 [a0] si K = v61 (prims P ro) a0 si K := xbody_eq 25 P ro (x61 _ a0 si K)
theorem r61 (I : Prims) (si : St) (K : Value → St → Prop) (τ : Tau) (ds : List Deferred) (s : St) : xleave I si Tryd.f61.results.toList K .ret τ [] ds s =
 (xdefers I ds s fun s0 =>
 I.fin si K (τ 2) s0) := by kernel_rfl
/- slices.Max[[]int,int] -/
noncomputable def c62 : Code := bodyOf Tryd.f62
noncomputable def c62_11 : Code := subCode [1, 1] c62
noncomputable def c62_1110100 : Code := subCode [1, 1, 1, 0, 1, 0, 0] c62
def k62 : List (List Nat) := [[1, 1]]
def k62_1110100 : List (List Nat) := []
theorem l62_1110100 : ltCode 25 c62_1110100 = true := by kernel_rfl
theorem m62_1110100 : notMap c62_1110100 = true := by kernel_rfl
theorem b62 : BodyOk P 25 1 62 Tryd.f62 c62 := ⟨Tryd.func62, by kernel_rfl, by kernel_rfl, by kernel_rfl, by kernel_rfl, by kernel_rfl⟩
def v62_11 (I : Prims) (τ : Tau) (ds : List Deferred) (s : St) (Q : Ex → XK) : Prop :=
 I.wop (.indexAddr 49 (.const (τ 0)) (.const (.int .i64 0))) 0 s fun v10_0 s0 =>
 I.wop (.load 3 (.const v10_0)) 3 s0 fun v11_1 s1 =>
 I.loop 25 none c62_1110100 (U τ [(4, (.int .i64 1)), (3, v11_1), (11, v11_1), (10, v10_0), (9, (τ 0))]) ds s1 (fun τ ds s => (Q .ret) τ [] ds s) [(0, fun τ2 ds2 s2 =>
 Q .ret τ2 [(2, (τ2 3)), (24, (τ2 3))] ds2 s2)]
theorem n62_11 (I : Prims) (τ : Tau) (ds : List Deferred) (s : St) (Q : Ex → XK) : xp I none 25 k62 c62_11 [1, 1] τ [] ds s Q = v62_11 I τ ds s Q := by kernel_rfl
def v62_1110100 (I : Prims) (rnd : Option Nat) (τ : Tau) (ds : List Deferred) (s : St) (Q : Ex → WK) : Prop :=
 I.wop (.call ⟨.builtin .len, ⟨[(.const (τ 0))]⟩, #[49]⟩) 3 s fun v14_0 s0 =>
 I.wop (.binOp .lss 3 (.const (τ 4)) (.const v14_0) 3) 4 s0 fun v15_1 s1 =>
 wdec v15_1
 (I.wop (.indexAddr 49 (.const (τ 0)) (.const (τ 4))) 0 s1 fun v21_2 s2 =>
 I.wop (.load 3 (.const v21_2)) 3 s2 fun v22_3 s3 =>
 I.wop (.call ⟨.builtin .max, ⟨[(.const (τ 3)), (.const v22_3)]⟩, #[3, 3]⟩) 3 s3 fun v23_4 s4 =>
 I.wop (.binOp .add 3 (.const (τ 4)) (.const (.int .i64 1)) 3) 3 s4 fun v17_5 s5 =>
 Q .normal (U τ [(4, v17_5), (17, v17_5), (16, (τ 4)), (3, v23_4), (23, v23_4), (22, v22_3), (21, v21_2), (20, (τ 4)), (19, (τ 0)), (18, (τ 3)), (15, (.bool true)), (15, v15_1), (14, v14_0), (13, (τ 0)), (12, (τ 4))]) ds s5)
 (Q (.exit 0) (U τ [(15, (.bool false)), (15, v15_1), (14, v14_0), (13, (τ 0)), (12, (τ 4))]) ds s1)
theorem x62_1110100 (I : Prims) (rnd : Option Nat) (τ : Tau) (ds : List Deferred) (s : St) (Q : Ex → WK) : xp I rnd 25 k62_1110100 c62_1110100 [] τ [] ds s (lift Q) = v62_1110100 I rnd τ ds s Q := by kernel_rfl
theorem n62_1110100 [Memo] (ro : Nat) (rnd : Option Nat) (τ : Tau) (ds : List Deferred) (s : St) (Q : Ex → WK) : wp P ro 25 rnd c62_1110100 τ ds s Q = v62_1110100 (prims P ro) rnd τ ds s Q := xp_wp rnd 25 P ro (x62_1110100 _ rnd τ ds s Q)
def v62 (I : Prims) (a0 : Value) (si : St) (K : Value → St → Prop) : Prop :=
 I.wop (.call ⟨.builtin .len, ⟨[(.const a0)]⟩, #[49]⟩) 3 (ent si) fun v6_0 s0 =>
 I.wop (.binOp .lss 3 (.const v6_0) (.const (.int .i64 1)) 3) 4 s0 fun v7_1 s1 =>
 wdec v7_1
 (I.wop (.makeInterface 9 (.const (.string (ByteArray.mk #[115, 108, 105, 99, 101, 115, 46, 77, 97, 120, 58, 32, 101, 109, 112, 116, 121, 32, 108, 105, 115, 116])))) 20 s1 fun v8_2 s2 =>
 I.wop (.panic (.tmp 8)) 0 s2 fun _ s3 =>
 I.hold (xp I none 25 k62 c62_11 [1, 1] (U undefT [(8, v8_2), (7, (.bool true)), (7, v7_1), (6, v6_0), (5, a0), (2, (.int .i64 0)), (0, a0)]) [] [] s3 (xleave I si Tryd.f62.results.toList K)))
 (I.hold (xp I none 25 k62 c62_11 [1, 1] (U undefT [(7, (.bool false)), (7, v7_1), (6, v6_0), (5, a0), (2, (.int .i64 0)), (0, a0)]) [] [] s1 (xleave I si Tryd.f62.results.toList K)))
theorem x62 (I : Prims) (a0 : Value) (si : St) (K : Value → St → Prop) : xbody I 25 k62 Tryd.f62 c62 [a0] si K = v62 I a0 si K := by kernel_rfl
theorem n62 [Memo] (ro : Nat) (a0 : Value) (si : St) (K : Value → St → Prop) : wbody P ro 25 Tryd.f62 c62 [a0] si K = v62 (prims P ro) a0 si K := xbody_eq 25 P ro (x62 _ a0 si K)
theorem r62 (I : Prims) (si : St) (K : Value → St → Prop) (τ : Tau) (ds : List Deferred) (s : St) : xleave I si Tryd.f62.results.toList K .ret τ [] ds s =
 (xdefers I ds s fun s0 =>
 I.fin si K (τ 2) s0) := by kernel_rfl
/- attestor/gates.reads -/
noncomputable def c63 : Code := bodyOf Tryd.f63
def k63 : List (List Nat) := []
theorem b63 : BodyOk P 36 1 63 Tryd.f63 c63 := ⟨Tryd.func63, by kernel_rfl, by kernel_rfl, by kernel_rfl, by kernel_rfl, by kernel_rfl⟩
def v63 (I : Prims) (a0 : Value) (si : St) (K : Value → St → Prop) : Prop :=
 I.wop (.box 43 (.const a0)) 0 (ent si) fun v1_0 s0 =>
 I.wop (.alloc 70) 0 s0 fun v2_1 s1 =>
 I.wop (.fieldAddr 43 (.const v1_0) 0) 0 s1 fun v3_2 s2 =>
 I.wop (.load 40 (.const v3_2)) 40 s2 fun v4_3 s3 =>
 I.wop (.binOp .eql 40 (.const v4_3) (.const (.int .u8 1)) 40) 4 s3 fun v6_4 s4 =>
 wdec v6_4
 (I.wop (.fieldAddr 43 (.const v1_0) 2) 0 s4 fun v11_5 s5 =>
 I.wop (.load 38 (.const v11_5)) 38 s5 fun v12_6 s6 =>
 I.wop (.binOp .neq 38 (.const v12_6) (.const (.int .u64 0)) 38) 4 s6 fun v13_7 s7 =>
 wdec v13_7
 (I.wop (.fieldAddr 43 (.const v1_0) 3) 0 s7 fun v19_8 s8 =>
 I.wop (.load 38 (.const v19_8)) 38 s8 fun v20_9 s9 =>
 I.wop (.binOp .neq 38 (.const v20_9) (.const (.int .u64 0)) 38) 4 s9 fun v21_10 s10 =>
 wdec v21_10
 (I.wop (.fieldAddr 43 (.const v1_0) 5) 0 s10 fun v27_11 s11 =>
 I.wop (.load 38 (.const v27_11)) 38 s11 fun v28_12 s12 =>
 I.wop (.binOp .neq 38 (.const v28_12) (.const (.int .u64 0)) 38) 4 s12 fun v29_13 s13 =>
 I.wop (.build 70 ⟨[(0, (.const (.bool true))), (1, (.const (.bool true))), (2, (.const v29_13)), (3, (.const (.bool false)))]⟩) 70 s13 fun v30_14 s14 =>
 I.wop (.store 70 (.const v2_1) (.const v30_14)) 0 s14 fun _ s15 =>
 I.wop (.load 70 (.const v2_1)) 70 s15 fun v2_16 _ =>
 I.fin si K v2_16 s15)
 (I.wop (.fieldAddr 43 (.const v1_0) 4) 0 s10 fun v23_17 s17 =>
 I.wop (.load 38 (.const v23_17)) 38 s17 fun v24_18 s18 =>
 I.wop (.binOp .neq 38 (.const v24_18) (.const (.int .u64 0)) 38) 4 s18 fun v25_19 s19 =>
 I.wop (.fieldAddr 43 (.const v1_0) 5) 0 s19 fun v27_20 s20 =>
 I.wop (.load 38 (.const v27_20)) 38 s20 fun v28_21 s21 =>
 I.wop (.binOp .neq 38 (.const v28_21) (.const (.int .u64 0)) 38) 4 s21 fun v29_22 s22 =>
 I.wop (.build 70 ⟨[(0, (.const (.bool true))), (1, (.const v25_19)), (2, (.const v29_22)), (3, (.const (.bool false)))]⟩) 70 s22 fun v30_23 s23 =>
 I.wop (.store 70 (.const v2_1) (.const v30_23)) 0 s23 fun _ s24 =>
 I.wop (.load 70 (.const v2_1)) 70 s24 fun v2_25 _ =>
 I.fin si K v2_25 s24))
 (I.wop (.fieldAddr 43 (.const v1_0) 4) 0 s7 fun v15_26 s26 =>
 I.wop (.load 38 (.const v15_26)) 38 s26 fun v16_27 s27 =>
 I.wop (.binOp .neq 38 (.const v16_27) (.const (.int .u64 0)) 38) 4 s27 fun v17_28 s28 =>
 I.wop (.fieldAddr 43 (.const v1_0) 3) 0 s28 fun v19_29 s29 =>
 I.wop (.load 38 (.const v19_29)) 38 s29 fun v20_30 s30 =>
 I.wop (.binOp .neq 38 (.const v20_30) (.const (.int .u64 0)) 38) 4 s30 fun v21_31 s31 =>
 wdec v21_31
 (I.wop (.fieldAddr 43 (.const v1_0) 5) 0 s31 fun v27_32 s32 =>
 I.wop (.load 38 (.const v27_32)) 38 s32 fun v28_33 s33 =>
 I.wop (.binOp .neq 38 (.const v28_33) (.const (.int .u64 0)) 38) 4 s33 fun v29_34 s34 =>
 I.wop (.build 70 ⟨[(0, (.const v17_28)), (1, (.const (.bool true))), (2, (.const v29_34)), (3, (.const (.bool false)))]⟩) 70 s34 fun v30_35 s35 =>
 I.wop (.store 70 (.const v2_1) (.const v30_35)) 0 s35 fun _ s36 =>
 I.wop (.load 70 (.const v2_1)) 70 s36 fun v2_37 _ =>
 I.fin si K v2_37 s36)
 (I.wop (.fieldAddr 43 (.const v1_0) 4) 0 s31 fun v23_38 s38 =>
 I.wop (.load 38 (.const v23_38)) 38 s38 fun v24_39 s39 =>
 I.wop (.binOp .neq 38 (.const v24_39) (.const (.int .u64 0)) 38) 4 s39 fun v25_40 s40 =>
 I.wop (.fieldAddr 43 (.const v1_0) 5) 0 s40 fun v27_41 s41 =>
 I.wop (.load 38 (.const v27_41)) 38 s41 fun v28_42 s42 =>
 I.wop (.binOp .neq 38 (.const v28_42) (.const (.int .u64 0)) 38) 4 s42 fun v29_43 s43 =>
 I.wop (.build 70 ⟨[(0, (.const v17_28)), (1, (.const v25_40)), (2, (.const v29_43)), (3, (.const (.bool false)))]⟩) 70 s43 fun v30_44 s44 =>
 I.wop (.store 70 (.const v2_1) (.const v30_44)) 0 s44 fun _ s45 =>
 I.wop (.load 70 (.const v2_1)) 70 s45 fun v2_46 _ =>
 I.fin si K v2_46 s45)))
 (I.wop (.binOp .eql 40 (.const v4_3) (.const (.int .u8 3)) 40) 4 s4 fun v8_47 s47 =>
 wdec v8_47
 (I.wop (.indexAddr 70 (.const v2_1) (.const (.int .i64 3))) 0 s47 fun v31_48 s48 =>
 I.wop (.store 4 (.const v31_48) (.const (.bool true))) 0 s48 fun _ s49 =>
 I.wop (.indexAddr 70 (.const v2_1) (.const (.int .i64 2))) 0 s49 fun v32_50 s50 =>
 I.wop (.store 4 (.const v32_50) (.const (.bool true))) 0 s50 fun _ s51 =>
 I.wop (.indexAddr 70 (.const v2_1) (.const (.int .i64 1))) 0 s51 fun v33_52 s52 =>
 I.wop (.store 4 (.const v33_52) (.const (.bool true))) 0 s52 fun _ s53 =>
 I.wop (.indexAddr 70 (.const v2_1) (.const (.int .i64 0))) 0 s53 fun v34_54 s54 =>
 I.wop (.store 4 (.const v34_54) (.const (.bool true))) 0 s54 fun _ s55 =>
 I.wop (.load 70 (.const v2_1)) 70 s55 fun v35_56 s56 =>
 I.wop (.store 70 (.const v2_1) (.const v35_56)) 0 s56 fun _ s57 =>
 I.wop (.load 70 (.const v2_1)) 70 s57 fun v2_58 _ =>
 I.fin si K v2_58 s57)
 (I.wop (.binOp .eql 40 (.const v4_3) (.const (.int .u8 2)) 40) 4 s47 fun v10_59 s59 =>
 wdec v10_59
 (I.wop (.indexAddr 70 (.const v2_1) (.const (.int .i64 0))) 0 s59 fun v34_60 s60 =>
 I.wop (.store 4 (.const v34_60) (.const (.bool true))) 0 s60 fun _ s61 =>
 I.wop (.load 70 (.const v2_1)) 70 s61 fun v35_62 s62 =>
 I.wop (.store 70 (.const v2_1) (.const v35_62)) 0 s62 fun _ s63 =>
 I.wop (.load 70 (.const v2_1)) 70 s63 fun v2_64 _ =>
 I.fin si K v2_64 s63)
 (I.wop (.load 70 (.const v2_1)) 70 s59 fun v35_65 s65 =>
 I.wop (.store 70 (.const v2_1) (.const v35_65)) 0 s65 fun _ s66 =>
 I.wop (.load 70 (.const v2_1)) 70 s66 fun v2_67 _ =>
 I.fin si K v2_67 s66)))
theorem x63 (I : Prims) (a0 : Value) (si : St) (K : Value → St → Prop) : xbody I 36 k63 Tryd.f63 c63 [a0] si K = v63 I a0 si K := by kernel_rfl
theorem n63 [Memo] (ro : Nat) (a0 : Value) (si : St) (K : Value → St → Prop) : wbody P ro 36 Tryd.f63 c63 [a0] si K = v63 (prims P ro) a0 si K := xbody_eq 36 P ro (x63 _ a0 si K)
/- slices.Contains[[]int,int] -/
noncomputable def c64 : Code := bodyOf Tryd.f64
def k64 : List (List Nat) := []
theorem b64 : BodyOk P 9 2 64 Tryd.f64 c64 := ⟨Tryd.func64, by kernel_rfl, by kernel_rfl, by kernel_rfl, by kernel_rfl, by kernel_rfl⟩
def v64 (I : Prims) (a0 a1 : Value) (si : St) (K : Value → St → Prop) : Prop :=
 I.call 73 [a0, a1] (ent si) fun v7_0 s0 =>
 I.wop (.binOp .geq 3 (.const v7_0) (.const (.int .i64 0)) 3) 4 s0 fun v8_1 s1 =>
 I.fin si K v8_1 s1
theorem x64 (I : Prims) (a0 a1 : Value) (si : St) (K : Value → St → Prop) : xbody I 9 k64 Tryd.f64 c64 [a0, a1] si K = v64 I a0 a1 si K := by kernel_rfl
theorem n64 [Memo] (ro : Nat) (a0 a1 : Value) (si : St) (K : Value → St → Prop) : wbody P ro 9 Tryd.f64 c64 [a0, a1] si K = v64 (prims P ro) a0 a1 si K := xbody_eq 9 P ro (x64 _ a0 a1 si K)
/- attestor/field.of -/
noncomputable def c66 : Code := bodyOf Tryd.f66
def k66 : List (List Nat) := []
theorem b66 : BodyOk P 10 1 66 Tryd.f66 c66 := ⟨Tryd.func66, by kernel_rfl, by kernel_rfl, by kernel_rfl, by kernel_rfl, by kernel_rfl⟩
def v66 (I : Prims) (a0 : Value) (si : St) (K : Value → St → Prop) : Prop :=
 I.wop (.alloc 75) 0 (ent si) fun v2_0 s0 =>
 I.call 58 [a0] s0 fun v4_1 s1 =>
 I.wop (.unOp .not 4 (.const v4_1)) 4 s1 fun v5_2 s2 =>
 wdec v5_2
 (I.wop (.build 75 ⟨[]⟩) 75 s2 fun v6_3 s3 =>
 I.wop (.store 75 (.const v2_0) (.const v6_3)) 0 s3 fun _ s4 =>
 I.wop (.load 75 (.const v2_0)) 75 s4 fun v2_5 _ =>
 I.fin si K v2_5 s4)
 (I.wop (.indexAddr 88 (.const (.pointer (some ⟨0, 0, none⟩))) (.const a0)) 0 s2 fun v8_6 s6 =>
 I.wop (.load 75 (.const v8_6)) 75 s6 fun v9_7 s7 =>
 I.wop (.store 75 (.const v2_0) (.const v9_7)) 0 s7 fun _ s8 =>
 I.wop (.load 75 (.const v2_0)) 75 s8 fun v2_9 _ =>
 I.fin si K v2_9 s8)
theorem x66 (I : Prims) (a0 : Value) (si : St) (K : Value → St → Prop) : xbody I 10 k66 Tryd.f66 c66 [a0] si K = v66 I a0 si K := by kernel_rfl
theorem n66 [Memo] (ro : Nat) (a0 : Value) (si : St) (K : Value → St → Prop) : wbody P ro 10 Tryd.f66 c66 [a0] si K = v66 (prims P ro) a0 si K := xbody_eq 10 P ro (x66 _ a0 si K)
/- attestor/sponge.known -/
noncomputable def c67 : Code := bodyOf Tryd.f67
def k67 : List (List Nat) := []
theorem b67 : BodyOk P 15 2 67 Tryd.f67 c67 := ⟨Tryd.func67, by kernel_rfl, by kernel_rfl, by kernel_rfl, by kernel_rfl, by kernel_rfl⟩
def v67 (I : Prims) (a0 a1 : Value) (si : St) (K : Value → St → Prop) : Prop :=
 I.call 58 [a0] (ent si) fun v6_0 s0 =>
 wdec v6_0
 (I.wop (.binOp .geq 3 (.const a1) (.const (.int .i64 0)) 3) 4 s0 fun v9_1 s1 =>
 wdec v9_1
 (I.wop (.binOp .lss 3 (.const a1) (.const (.int .i64 8)) 3) 4 s1 fun v13_2 s2 =>
 I.fin si K v13_2 s2)
 (I.fin si K (.bool false) s1))
 (I.fin si K (.bool false) s0)
theorem x67 (I : Prims) (a0 a1 : Value) (si : St) (K : Value → St → Prop) : xbody I 15 k67 Tryd.f67 c67 [a0, a1] si K = v67 I a0 a1 si K := by kernel_rfl
theorem n67 [Memo] (ro : Nat) (a0 a1 : Value) (si : St) (K : Value → St → Prop) : wbody P ro 15 Tryd.f67 c67 [a0, a1] si K = v67 (prims P ro) a0 a1 si K := xbody_eq 15 P ro (x67 _ a0 a1 si K)
/- attestor/sponge.in -/
noncomputable def c68 : Code := bodyOf Tryd.f68
def k68 : List (List Nat) := []
theorem b68 : BodyOk P 11 1 68 Tryd.f68 c68 := ⟨Tryd.func68, by kernel_rfl, by kernel_rfl, by kernel_rfl, by kernel_rfl, by kernel_rfl⟩
def v68 (I : Prims) (a0 : Value) (si : St) (K : Value → St → Prop) : Prop :=
 I.wop (.alloc 79) 0 (ent si) fun v2_0 s0 =>
 I.call 47 [a0] s0 fun v4_1 s1 =>
 I.call 74 [a0] s1 fun v6_2 s2 =>
 I.call 75 [a0] s2 fun v8_3 s3 =>
 I.wop (.binOp .eql 3 (.const v8_3) (.const (.int .i64 5)) 3) 4 s3 fun v9_4 s4 =>
 I.wop (.build 79 ⟨[(0, (.const v4_1)), (1, (.const v6_2)), (2, (.const v9_4))]⟩) 79 s4 fun v10_5 s5 =>
 I.wop (.store 79 (.const v2_0) (.const v10_5)) 0 s5 fun _ s6 =>
 I.wop (.load 79 (.const v2_0)) 79 s6 fun v2_7 _ =>
 I.fin si K v2_7 s6
theorem x68 (I : Prims) (a0 : Value) (si : St) (K : Value → St → Prop) : xbody I 11 k68 Tryd.f68 c68 [a0] si K = v68 I a0 si K := by kernel_rfl
theorem n68 [Memo] (ro : Nat) (a0 : Value) (si : St) (K : Value → St → Prop) : wbody P ro 11 Tryd.f68 c68 [a0] si K = v68 (prims P ro) a0 si K := xbody_eq 11 P ro (x68 _ a0 si K)
/- (attestor/sponge.mixer).round -/
noncomputable def c69 : Code := bodyOf Tryd.f69
noncomputable def c69_10100 : Code := subCode [1, 0, 1, 0, 0] c69
def k69 : List (List Nat) := []
def k69_10100 : List (List Nat) := []
theorem l69_10100 : ltCode 91 c69_10100 = true := by kernel_rfl
theorem m69_10100 : notMap c69_10100 = true := by kernel_rfl
theorem b69 : BodyOk P 91 3 69 Tryd.f69 c69 := ⟨Tryd.func69, by kernel_rfl, by kernel_rfl, by kernel_rfl, by kernel_rfl, by kernel_rfl⟩
def v69_10100 (I : Prims) (rnd : Option Nat) (τ : Tau) (ds : List Deferred) (s : St) (Q : Ex → WK) : Prop :=
 I.wop (.binOp .lss 3 (.const (τ 10)) (.const (.int .i64 4)) 3) 0 s fun v11_0 s0 =>
 wdec v11_0
 (I.wop (.fieldAddr 79 (.const (τ 3)) 1) 0 s0 fun v14_1 s1 =>
 I.wop (.load 38 (.const v14_1)) 38 s1 fun v15_2 s2 =>
 I.wop (.binOp .mul 38 (.const (τ 1)) (.const v15_2) 38) 38 s2 fun v16_3 s3 =>
 I.wop (.fieldAddr 79 (.const (τ 3)) 0) 0 s3 fun v17_4 s4 =>
 I.wop (.load 38 (.const v17_4)) 38 s4 fun v18_5 s5 =>
 I.wop (.binOp .rem 38 (.const v16_3) (.const v18_5) 38) 38 s5 fun v19_6 s6 =>
 I.wop (.load 79 (.const (τ 3))) 79 s6 fun v21_7 s7 =>
 veq v21_7 v21_7 = true ∧ I.wop (.indexAddr 39 (.const (τ 5)) (.const (τ 10))) 0 s7 fun v23_8 s8 =>
 I.wop (.load 38 (.const v23_8)) 38 s8 fun v24_9 s9 =>
 veq v24_9 v24_9 = true ∧ I.wop (.binOp .add 38 (.const v24_9) (.const v19_6) 38) 38 s9 fun v26_10 s10 =>
 I.wop (.binOp .add 38 (.const v26_10) (.const (.int .u64 7)) 38) 38 s10 fun v27_11 s11 =>
 I.wop (.fieldAddr 79 (.const (τ 3)) 0) 0 s11 fun v28_12 s12 =>
 I.wop (.load 38 (.const v28_12)) 38 s12 fun v29_13 s13 =>
 veq v29_13 v29_13 = true ∧ I.wop (.binOp .rem 38 (.const v27_11) (.const v29_13) 38) 38 s13 fun v30_14 s14 =>
 I.call 76 [v21_7, v30_14] s14 fun v31_15 s15 =>
 I.wop (.indexAddr 39 (.const (τ 5)) (.const (τ 10))) 0 s15 fun v32_16 s16 =>
 I.wop (.store 38 (.const v32_16) (.const v31_15)) 0 s16 fun _ s17 =>
 I.wop (.binOp .add 3 (.const (τ 10)) (.const (.int .i64 1)) 3) 3 s17 fun v33_18 s18 =>
 Q .normal (U τ [(10, v33_18), (33, v33_18), (32, v32_16), (31, v31_15), (30, v30_14), (29, v29_13), (28, v28_12), (27, v27_11), (26, v26_10), (25, v19_6), (24, v24_9), (23, v23_8), (22, (τ 10)), (21, v21_7), (20, (τ 10)), (1, v19_6), (19, v19_6), (18, v18_5), (17, v17_4), (16, v16_3), (15, v15_2), (14, v14_1), (13, (τ 1)), (8, (τ 10)), (12, (τ 10)), (11, (.bool true)), (11, v11_0)]) ds s18)
 (Q (.exit 0) (U τ [(11, (.bool false)), (11, v11_0)]) ds s0)
theorem x69_10100 (I : Prims) (rnd : Option Nat) (τ : Tau) (ds : List Deferred) (s : St) (Q : Ex → WK) : xp I rnd 91 k69_10100 c69_10100 [] τ [] ds s (lift Q) = v69_10100 I rnd τ ds s Q := by kernel_rfl
theorem n69_10100 [Memo] (ro : Nat) (rnd : Option Nat) (τ : Tau) (ds : List Deferred) (s : St) (Q : Ex → WK) : wp P ro 91 rnd c69_10100 τ ds s Q = v69_10100 (prims P ro) rnd τ ds s Q := xp_wp rnd 91 P ro (x69_10100 _ rnd τ ds s Q)
def v69 (I : Prims) (a0 a1 a2 : Value) (si : St) (K : Value → St → Prop) : Prop :=
 I.wop (.box 79 (.const a0)) 0 (ent si) fun v3_0 s0 =>
 I.wop (.box 39 (.const a2)) 0 s0 fun v5_1 s1 =>
 I.wop (.alloc 39) 0 s1 fun v7_2 s2 =>
 I.loop 91 none c69_10100 (U undefT [(10, (.int .i64 0)), (7, v7_2), (6, (.int .u64 0)), (5, v5_1), (3, v3_0), (0, a0), (1, a1), (2, a2)]) [] s2 (fun τ ds s => ((xleave I si Tryd.f69.results.toList K) .ret) τ [] ds s) [(0, fun τ3 ds3 s3 =>
 I.wop (.indexAddr 39 (.const (τ3 5)) (.const (.int .i64 0))) 0 s3 fun v34_4 s4 =>
 I.wop (.load 38 (.const v34_4)) 38 s4 fun v35_5 s5 =>
 I.wop (.indexAddr 39 (.const (τ3 5)) (.const (.int .i64 1))) 0 s5 fun v36_6 s6 =>
 I.wop (.load 38 (.const v36_6)) 38 s6 fun v37_7 s7 =>
 I.wop (.binOp .add 38 (.const v35_5) (.const v37_7) 38) 38 s7 fun v38_8 s8 =>
 I.wop (.indexAddr 39 (.const (τ3 5)) (.const (.int .i64 2))) 0 s8 fun v39_9 s9 =>
 I.wop (.load 38 (.const v39_9)) 38 s9 fun v40_10 s10 =>
 I.wop (.binOp .add 38 (.const v38_8) (.const v40_10) 38) 38 s10 fun v41_11 s11 =>
 I.wop (.indexAddr 39 (.const (τ3 5)) (.const (.int .i64 3))) 0 s11 fun v42_12 s12 =>
 I.wop (.load 38 (.const v42_12)) 38 s12 fun v43_13 s13 =>
 I.wop (.binOp .add 38 (.const v41_11) (.const v43_13) 38) 38 s13 fun v44_14 s14 =>
 I.wop (.indexAddr 39 (.const (τ3 5)) (.const (.int .i64 0))) 0 s14 fun v47_15 s15 =>
 I.wop (.load 38 (.const v47_15)) 38 s15 fun v48_16 s16 =>
 veq v48_16 v48_16 = true ∧ I.wop (.binOp .add 38 (.const v44_14) (.const v48_16) 38) 38 s16 fun v49_17 s17 =>
 I.wop (.indexAddr 39 (.const (τ3 5)) (.const (.int .i64 1))) 0 s17 fun v50_18 s18 =>
 I.wop (.load 38 (.const v50_18)) 38 s18 fun v51_19 s19 =>
 veq v51_19 v51_19 = true ∧ I.wop (.binOp .mul 38 (.const (.int .u64 2)) (.const v51_19) 38) 38 s19 fun v52_20 s20 =>
 I.wop (.binOp .add 38 (.const v49_17) (.const v52_20) 38) 38 s20 fun v53_21 s21 =>
 I.wop (.fieldAddr 79 (.const (τ3 3)) 0) 0 s21 fun v54_22 s22 =>
 I.wop (.load 38 (.const v54_22)) 38 s22 fun v55_23 s23 =>
 veq v55_23 v55_23 = true ∧ I.wop (.binOp .rem 38 (.const v53_21) (.const v55_23) 38) 38 s23 fun v56_24 s24 =>
 I.wop (.indexAddr 39 (.const (τ3 5)) (.const (.int .i64 1))) 0 s24 fun v58_25 s25 =>
 I.wop (.load 38 (.const v58_25)) 38 s25 fun v59_26 s26 =>
 veq v59_26 v59_26 = true ∧ I.wop (.binOp .add 38 (.const v44_14) (.const v59_26) 38) 38 s26 fun v60_27 s27 =>
 I.wop (.indexAddr 39 (.const (τ3 5)) (.const (.int .i64 2))) 0 s27 fun v61_28 s28 =>
 I.wop (.load 38 (.const v61_28)) 38 s28 fun v62_29 s29 =>
 veq v62_29 v62_29 = true ∧ I.wop (.binOp .mul 38 (.const (.int .u64 2)) (.const v62_29) 38) 38 s29 fun v63_30 s30 =>
 I.wop (.binOp .add 38 (.const v60_27) (.const v63_30) 38) 38 s30 fun v64_31 s31 =>
 I.wop (.fieldAddr 79 (.const (τ3 3)) 0) 0 s31 fun v65_32 s32 =>
 I.wop (.load 38 (.const v65_32)) 38 s32 fun v66_33 s33 =>
 veq v66_33 v66_33 = true ∧ I.wop (.binOp .rem 38 (.const v64_31) (.const v66_33) 38) 38 s33 fun v67_34 s34 =>
 I.wop (.indexAddr 39 (.const (τ3 5)) (.const (.int .i64 2))) 0 s34 fun v69_35 s35 =>
 I.wop (.load 38 (.const v69_35)) 38 s35 fun v70_36 s36 =>
 veq v70_36 v70_36 = true ∧ I.wop (.binOp .add 38 (.const v44_14) (.const v70_36) 38) 38 s36 fun v71_37 s37 =>
 I.wop (.indexAddr 39 (.const (τ3 5)) (.const (.int .i64 3))) 0 s37 fun v72_38 s38 =>
 I.wop (.load 38 (.const v72_38)) 38 s38 fun v73_39 s39 =>
 veq v73_39 v73_39 = true ∧ I.wop (.binOp .mul 38 (.const (.int .u64 2)) (.const v73_39) 38) 38 s39 fun v74_40 s40 =>
 I.wop (.binOp .add 38 (.const v71_37) (.const v74_40) 38) 38 s40 fun v75_41 s41 =>
 I.wop (.fieldAddr 79 (.const (τ3 3)) 0) 0 s41 fun v76_42 s42 =>
 I.wop (.load 38 (.const v76_42)) 38 s42 fun v77_43 s43 =>
 veq v77_43 v77_43 = true ∧ I.wop (.binOp .rem 38 (.const v75_41) (.const v77_43) 38) 38 s43 fun v78_44 s44 =>
 I.wop (.indexAddr 39 (.const (τ3 5)) (.const (.int .i64 3))) 0 s44 fun v80_45 s45 =>
 I.wop (.load 38 (.const v80_45)) 38 s45 fun v81_46 s46 =>
 veq v81_46 v81_46 = true ∧ I.wop (.binOp .add 38 (.const v44_14) (.const v81_46) 38) 38 s46 fun v82_47 s47 =>
 I.wop (.indexAddr 39 (.const (τ3 5)) (.const (.int .i64 0))) 0 s47 fun v83_48 s48 =>
 I.wop (.load 38 (.const v83_48)) 38 s48 fun v84_49 s49 =>
 veq v84_49 v84_49 = true ∧ I.wop (.binOp .mul 38 (.const (.int .u64 2)) (.const v84_49) 38) 38 s49 fun v85_50 s50 =>
 I.wop (.binOp .add 38 (.const v82_47) (.const v85_50) 38) 38 s50 fun v86_51 s51 =>
 I.wop (.fieldAddr 79 (.const (τ3 3)) 0) 0 s51 fun v87_52 s52 =>
 I.wop (.load 38 (.const v87_52)) 38 s52 fun v88_53 s53 =>
 veq v88_53 v88_53 = true ∧ I.wop (.binOp .rem 38 (.const v86_51) (.const v88_53) 38) 38 s53 fun v89_54 s54 =>
 I.wop (.build 39 ⟨[(0, (.const v56_24)), (1, (.const v67_34)), (2, (.const v78_44)), (3, (.const v89_54))]⟩) 39 s54 fun v90_55 s55 =>
 I.wop (.store 39 (.const (τ3 7)) (.const v90_55)) 0 s55 fun _ s56 =>
 xdefers I ds3 s56 fun s57 =>
 I.wop (.load 39 (.const (τ3 7))) 39 s57 fun v7_58 _ =>
 I.fin si K (.tuple (.mk [(τ3 1), v7_58])) s57)]
theorem x69 (I : Prims) (a0 a1 a2 : Value) (si : St) (K : Value → St → Prop) : xbody I 91 k69 Tryd.f69 c69 [a0, a1, a2] si K = v69 I a0 a1 a2 si K := by kernel_rfl
theorem n69 [Memo] (ro : Nat) (a0 a1 a2 : Value) (si : St) (K : Value → St → Prop) : wbody P ro 91 Tryd.f69 c69 [a0, a1, a2] si K = v69 (prims P ro) a0 a1 a2 si K := xbody_eq 91 P ro (x69 _ a0 a1 a2 si K)
/- attestor/field.Pow -/
noncomputable def c70 : Code := bodyOf Tryd.f70
noncomputable def c70_111000 : Code := subCode [1, 1, 1, 0, 0, 0] c70
def k70 : List (List Nat) := []
def k70_111000 : List (List Nat) := []
theorem l70_111000 : ltCode 27 c70_111000 = true := by kernel_rfl
theorem m70_111000 : notMap c70_111000 = true := by kernel_rfl
theorem b70 : BodyOk P 27 3 70 Tryd.f70 c70 := ⟨Tryd.func70, by kernel_rfl, by kernel_rfl, by kernel_rfl, by kernel_rfl, by kernel_rfl⟩
def v70_111000 (I : Prims) (rnd : Option Nat) (τ : Tau) (ds : List Deferred) (s : St) (Q : Ex → WK) : Prop :=
 I.wop (.binOp .gtr 38 (.const (τ 2)) (.const (.int .u64 0)) 38) 4 s fun v12_0 s0 =>
 wdec v12_0
 (I.wop (.binOp .and 38 (.const (τ 2)) (.const (.int .u64 1)) 38) 38 s0 fun v16_1 s1 =>
 I.wop (.binOp .eql 38 (.const v16_1) (.const (.int .u64 1)) 38) 4 s1 fun v17_2 s2 =>
 wdec v17_2
 (I.call 49 [(τ 0), (τ 7), (τ 1)] s2 fun v21_3 s3 =>
 I.call 49 [(τ 0), (τ 1), (τ 1)] s3 fun v25_4 s4 =>
 I.wop (.binOp .shr 38 (.const (τ 2)) (.const (.int .u64 1)) 84) 38 s4 fun v14_5 s5 =>
 Q .normal (U τ [(2, v14_5), (14, v14_5), (13, (τ 2)), (1, v25_4), (25, v25_4), (24, (τ 1)), (23, (τ 1)), (22, (τ 0)), (7, v21_3), (21, v21_3), (20, (τ 1)), (19, (τ 7)), (18, (τ 0)), (17, (.bool true)), (17, v17_2), (16, v16_1), (15, (τ 2)), (12, (.bool true)), (12, v12_0), (11, (τ 2))]) ds s5)
 (I.call 49 [(τ 0), (τ 1), (τ 1)] s2 fun v25_6 s6 =>
 I.wop (.binOp .shr 38 (.const (τ 2)) (.const (.int .u64 1)) 84) 38 s6 fun v14_7 s7 =>
 Q .normal (U τ [(2, v14_7), (14, v14_7), (13, (τ 2)), (1, v25_6), (25, v25_6), (24, (τ 1)), (23, (τ 1)), (22, (τ 0)), (17, (.bool false)), (17, v17_2), (16, v16_1), (15, (τ 2)), (12, (.bool true)), (12, v12_0), (11, (τ 2))]) ds s7))
 (Q (.exit 0) (U τ [(12, (.bool false)), (12, v12_0), (11, (τ 2))]) ds s0)
theorem x70_111000 (I : Prims) (rnd : Option Nat) (τ : Tau) (ds : List Deferred) (s : St) (Q : Ex → WK) : xp I rnd 27 k70_111000 c70_111000 [] τ [] ds s (lift Q) = v70_111000 I rnd τ ds s Q := by kernel_rfl
theorem n70_111000 [Memo] (ro : Nat) (rnd : Option Nat) (τ : Tau) (ds : List Deferred) (s : St) (Q : Ex → WK) : wp P ro 27 rnd c70_111000 τ ds s Q = v70_111000 (prims P ro) rnd τ ds s Q := xp_wp rnd 27 P ro (x70_111000 _ rnd τ ds s Q)
def v70 (I : Prims) (a0 a1 a2 : Value) (si : St) (K : Value → St → Prop) : Prop :=
 I.call 58 [a0] (ent si) fun v9_0 s0 =>
 I.wop (.unOp .not 4 (.const v9_0)) 4 s0 fun v10_1 s1 =>
 wdec v10_1
 (I.fin si K (.int .u64 0) s1)
 (I.loop 27 none c70_111000 (U undefT [(7, (.int .u64 1)), (10, (.bool false)), (10, v10_1), (9, v9_0), (8, a0), (6, (.int .u64 0)), (0, a0), (1, a1), (2, a2)]) [] s1 (fun τ ds s => ((xleave I si Tryd.f70.results.toList K) .ret) τ [] ds s) [(0, fun τ2 ds2 s2 =>
 xdefers I ds2 s2 fun s3 =>
 I.fin si K (τ2 7) s3)])
theorem x70 (I : Prims) (a0 a1 a2 : Value) (si : St) (K : Value → St → Prop) : xbody I 27 k70 Tryd.f70 c70 [a0, a1, a2] si K = v70 I a0 a1 a2 si K := by kernel_rfl
theorem n70 [Memo] (ro : Nat) (a0 a1 a2 : Value) (si : St) (K : Value → St → Prop) : wbody P ro 27 Tryd.f70 c70 [a0, a1, a2] si K = v70 (prims P ro) a0 a1 a2 si K := xbody_eq 27 P ro (x70 _ a0 a1 a2 si K)
/- (attestor/sponge.mixer).reduced -/
noncomputable def c71 : Code := bodyOf Tryd.f71
noncomputable def c71_10100 : Code := subCode [1, 0, 1, 0, 0] c71
def k71 : List (List Nat) := []
def k71_10100 : List (List Nat) := []
theorem l71_10100 : ltCode 18 c71_10100 = true := by kernel_rfl
theorem m71_10100 : notMap c71_10100 = true := by kernel_rfl
theorem b71 : BodyOk P 18 2 71 Tryd.f71 c71 := ⟨Tryd.func71, by kernel_rfl, by kernel_rfl, by kernel_rfl, by kernel_rfl, by kernel_rfl⟩
def v71_10100 (I : Prims) (rnd : Option Nat) (τ : Tau) (ds : List Deferred) (s : St) (Q : Ex → WK) : Prop :=
 I.wop (.binOp .lss 3 (.const (τ 6)) (.const (.int .i64 4)) 3) 0 s fun v7_0 s0 =>
 wdec v7_0
 (I.wop (.indexAddr 39 (.const (τ 3)) (.const (τ 6))) 0 s0 fun v10_1 s1 =>
 I.wop (.load 38 (.const v10_1)) 38 s1 fun v11_2 s2 =>
 veq v11_2 v11_2 = true ∧ I.wop (.fieldAddr 79 (.const (τ 2)) 0) 0 s2 fun v12_3 s3 =>
 I.wop (.load 38 (.const v12_3)) 38 s3 fun v13_4 s4 =>
 veq v13_4 v13_4 = true ∧ I.wop (.binOp .rem 38 (.const v11_2) (.const v13_4) 38) 38 s4 fun v14_5 s5 =>
 I.wop (.indexAddr 39 (.const (τ 3)) (.const (τ 6))) 0 s5 fun v15_6 s6 =>
 I.wop (.store 38 (.const v15_6) (.const v14_5)) 0 s6 fun _ s7 =>
 I.wop (.binOp .add 3 (.const (τ 6)) (.const (.int .i64 1)) 3) 3 s7 fun v16_8 s8 =>
 Q .normal (U τ [(6, v16_8), (16, v16_8), (15, v15_6), (14, v14_5), (13, v13_4), (12, v12_3), (11, v11_2), (10, v10_1), (9, (τ 6)), (5, (τ 6)), (8, (τ 6)), (7, (.bool true)), (7, v7_0)]) ds s8)
 (Q (.exit 0) (U τ [(7, (.bool false)), (7, v7_0)]) ds s0)
theorem x71_10100 (I : Prims) (rnd : Option Nat) (τ : Tau) (ds : List Deferred) (s : St) (Q : Ex → WK) : xp I rnd 18 k71_10100 c71_10100 [] τ [] ds s (lift Q) = v71_10100 I rnd τ ds s Q := by kernel_rfl
theorem n71_10100 [Memo] (ro : Nat) (rnd : Option Nat) (τ : Tau) (ds : List Deferred) (s : St) (Q : Ex → WK) : wp P ro 18 rnd c71_10100 τ ds s Q = v71_10100 (prims P ro) rnd τ ds s Q := xp_wp rnd 18 P ro (x71_10100 _ rnd τ ds s Q)
def v71 (I : Prims) (a0 a1 : Value) (si : St) (K : Value → St → Prop) : Prop :=
 I.wop (.box 79 (.const a0)) 0 (ent si) fun v2_0 s0 =>
 I.wop (.box 39 (.const a1)) 0 s0 fun v3_1 s1 =>
 I.wop (.alloc 39) 0 s1 fun v4_2 s2 =>
 I.loop 18 none c71_10100 (U undefT [(6, (.int .i64 0)), (4, v4_2), (3, v3_1), (2, v2_0), (0, a0), (1, a1)]) [] s2 (fun τ ds s => ((xleave I si Tryd.f71.results.toList K) .ret) τ [] ds s) [(0, fun τ3 ds3 s3 =>
 I.wop (.load 39 (.const (τ3 3))) 39 s3 fun v17_4 s4 =>
 I.wop (.store 39 (.const (τ3 4)) (.const v17_4)) 0 s4 fun _ s5 =>
 xdefers I ds3 s5 fun s6 =>
 I.wop (.load 39 (.const (τ3 4))) 39 s6 fun v4_7 _ =>
 I.fin si K v4_7 s6)]
theorem x71 (I : Prims) (a0 a1 : Value) (si : St) (K : Value → St → Prop) : xbody I 18 k71 Tryd.f71 c71 [a0, a1] si K = v71 I a0 a1 si K := by kernel_rfl
theorem n71 [Memo] (ro : Nat) (a0 a1 : Value) (si : St) (K : Value → St → Prop) : wbody P ro 18 Tryd.f71 c71 [a0, a1] si K = v71 (prims P ro) a0 a1 si K := xbody_eq 18 P ro (x71 _ a0 a1 si K)
/- math/bits.Mul -/
noncomputable def c72 : Code := bodyOf Tryd.f72
def k72 : List (List Nat) := []
theorem b72 : BodyOk P 30 2 72 Tryd.f72 c72 := ⟨Tryd.func72, by kernel_rfl, by kernel_rfl, by kernel_rfl, by kernel_rfl, by kernel_rfl⟩
def v72 (I : Prims) (a0 a1 : Value) (si : St) (K : Value → St → Prop) : Prop :=
 I.call 78 [a0, a1] (ent si) fun v25_0 s0 =>
 I.wop (.extract (.const v25_0) 0) 38 s0 fun v26_1 s1 =>
 I.wop (.extract (.const v25_0) 1) 38 s1 fun v27_2 s2 =>
 I.fin si K (.tuple (.mk [v26_1, v27_2])) s2
theorem x72 (I : Prims) (a0 a1 : Value) (si : St) (K : Value → St → Prop) : xbody I 30 k72 Tryd.f72 c72 [a0, a1] si K = v72 I a0 a1 si K := by kernel_rfl
theorem n72 [Memo] (ro : Nat) (a0 a1 : Value) (si : St) (K : Value → St → Prop) : wbody P ro 30 Tryd.f72 c72 [a0, a1] si K = v72 (prims P ro) a0 a1 si K := xbody_eq 30 P ro (x72 _ a0 a1 si K)
/- slices.Index[[]int,int] -/
noncomputable def c73 : Code := bodyOf Tryd.f73
noncomputable def c73_10100 : Code := subCode [1, 0, 1, 0, 0] c73
def k73 : List (List Nat) := []
def k73_10100 : List (List Nat) := []
theorem l73_10100 : ltCode 19 c73_10100 = true := by kernel_rfl
theorem m73_10100 : notMap c73_10100 = true := by kernel_rfl
theorem b73 : BodyOk P 19 2 73 Tryd.f73 c73 := ⟨Tryd.func73, by kernel_rfl, by kernel_rfl, by kernel_rfl, by kernel_rfl, by kernel_rfl⟩
def v73_10100 (I : Prims) (rnd : Option Nat) (τ : Tau) (ds : List Deferred) (s : St) (Q : Ex → WK) : Prop :=
 I.wop (.binOp .lss 3 (.const (τ 8)) (.const (τ 7)) 3) 0 s fun v9_0 s0 =>
 wdec v9_0
 (I.wop (.indexAddr 49 (.const (τ 0)) (.const (τ 8))) 0 s0 fun v14_1 s1 =>
 I.wop (.load 3 (.const v14_1)) 3 s1 fun v15_2 s2 =>
 I.wop (.binOp .eql 3 (.const (τ 1)) (.const v15_2) 3) 4 s2 fun v16_3 s3 =>
 wdec v16_3
 (Q .ret (U τ [(4, (τ 8)), (17, (τ 8)), (16, (.bool true)), (16, v16_3), (15, v15_2), (14, v14_1), (13, (τ 8)), (12, (τ 0)), (11, (τ 1)), (5, (τ 8)), (10, (τ 8)), (9, (.bool true)), (9, v9_0)]) ds s3)
 (I.wop (.binOp .add 3 (.const (τ 8)) (.const (.int .i64 1)) 3) 3 s3 fun v18_4 s4 =>
 Q .normal (U τ [(8, v18_4), (18, v18_4), (16, (.bool false)), (16, v16_3), (15, v15_2), (14, v14_1), (13, (τ 8)), (12, (τ 0)), (11, (τ 1)), (5, (τ 8)), (10, (τ 8)), (9, (.bool true)), (9, v9_0)]) ds s4))
 (Q (.exit 0) (U τ [(9, (.bool false)), (9, v9_0)]) ds s0)
theorem x73_10100 (I : Prims) (rnd : Option Nat) (τ : Tau) (ds : List Deferred) (s : St) (Q : Ex → WK) : xp I rnd 19 k73_10100 c73_10100 [] τ [] ds s (lift Q) = v73_10100 I rnd τ ds s Q := by kernel_rfl
theorem n73_10100 [Memo] (ro : Nat) (rnd : Option Nat) (τ : Tau) (ds : List Deferred) (s : St) (Q : Ex → WK) : wp P ro 19 rnd c73_10100 τ ds s Q = v73_10100 (prims P ro) rnd τ ds s Q := xp_wp rnd 19 P ro (x73_10100 _ rnd τ ds s Q)
def v73 (I : Prims) (a0 a1 : Value) (si : St) (K : Value → St → Prop) : Prop :=
 I.wop (.call ⟨.builtin .len, ⟨[(.const a0)]⟩, #[49]⟩) 3 (ent si) fun v7_0 s0 =>
 I.loop 19 none c73_10100 (U undefT [(8, (.int .i64 0)), (7, v7_0), (6, a0), (4, (.int .i64 0)), (0, a0), (1, a1)]) [] s0 (fun τ ds s => ((xleave I si Tryd.f73.results.toList K) .ret) τ [] ds s) [(0, fun _ ds1 s1 =>
 xdefers I ds1 s1 fun s2 =>
 I.fin si K (.int .i64 (-1)) s2)]
theorem x73 (I : Prims) (a0 a1 : Value) (si : St) (K : Value → St → Prop) : xbody I 19 k73 Tryd.f73 c73 [a0, a1] si K = v73 I a0 a1 si K := by kernel_rfl
theorem n73 [Memo] (ro : Nat) (a0 a1 : Value) (si : St) (K : Value → St → Prop) : wbody P ro 19 Tryd.f73 c73 [a0, a1] si K = v73 (prims P ro) a0 a1 si K := xbody_eq 19 P ro (x73 _ a0 a1 si K)
theorem r73 (I : Prims) (si : St) (K : Value → St → Prop) (τ : Tau) (ds : List Deferred) (s : St) : xleave I si Tryd.f73.results.toList K .ret τ [] ds s =
 (xdefers I ds s fun s0 =>
 I.fin si K (τ 4) s0) := by kernel_rfl
/- attestor/field.Generator -/
noncomputable def c74 : Code := bodyOf Tryd.f74
def k74 : List (List Nat) := []
theorem b74 : BodyOk P 6 1 74 Tryd.f74 c74 := ⟨Tryd.func74, by kernel_rfl, by kernel_rfl, by kernel_rfl, by kernel_rfl, by kernel_rfl⟩
def v74 (I : Prims) (a0 : Value) (si : St) (K : Value → St → Prop) : Prop :=
 I.call 66 [a0] (ent si) fun v4_0 s0 =>
 I.wop (.field 75 (.const v4_0) 1) 38 s0 fun v5_1 s1 =>
 I.fin si K v5_1 s1
theorem x74 (I : Prims) (a0 : Value) (si : St) (K : Value → St → Prop) : xbody I 6 k74 Tryd.f74 c74 [a0] si K = v74 I a0 si K := by kernel_rfl
theorem n74 [Memo] (ro : Nat) (a0 : Value) (si : St) (K : Value → St → Prop) : wbody P ro 6 Tryd.f74 c74 [a0] si K = v74 (prims P ro) a0 si K := xbody_eq 6 P ro (x74 _ a0 si K)
/- attestor/field.Exponent -/
noncomputable def c75 : Code := bodyOf Tryd.f75
def k75 : List (List Nat) := []
theorem b75 : BodyOk P 6 1 75 Tryd.f75 c75 := ⟨Tryd.func75, by kernel_rfl, by kernel_rfl, by kernel_rfl, by kernel_rfl, by kernel_rfl⟩
def v75 (I : Prims) (a0 : Value) (si : St) (K : Value → St → Prop) : Prop :=
 I.call 66 [a0] (ent si) fun v4_0 s0 =>
 I.wop (.field 75 (.const v4_0) 3) 3 s0 fun v5_1 s1 =>
 I.fin si K v5_1 s1
theorem x75 (I : Prims) (a0 : Value) (si : St) (K : Value → St → Prop) : xbody I 6 k75 Tryd.f75 c75 [a0] si K = v75 I a0 si K := by kernel_rfl
theorem n75 [Memo] (ro : Nat) (a0 : Value) (si : St) (K : Value → St → Prop) : wbody P ro 6 Tryd.f75 c75 [a0] si K = v75 (prims P ro) a0 si K := xbody_eq 6 P ro (x75 _ a0 si K)
/- (attestor/sponge.mixer).power -/
noncomputable def c76 : Code := bodyOf Tryd.f76
def k76 : List (List Nat) := []
theorem b76 : BodyOk P 26 2 76 Tryd.f76 c76 := ⟨Tryd.func76, by kernel_rfl, by kernel_rfl, by kernel_rfl, by kernel_rfl, by kernel_rfl⟩
def v76 (I : Prims) (a0 a1 : Value) (si : St) (K : Value → St → Prop) : Prop :=
 I.wop (.box 79 (.const a0)) 0 (ent si) fun v2_0 s0 =>
 I.wop (.binOp .mul 38 (.const a1) (.const a1) 38) 38 s0 fun v8_1 s1 =>
 I.wop (.fieldAddr 79 (.const v2_0) 0) 0 s1 fun v9_2 s2 =>
 I.wop (.load 38 (.const v9_2)) 38 s2 fun v10_3 s3 =>
 I.wop (.binOp .rem 38 (.const v8_1) (.const v10_3) 38) 38 s3 fun v11_4 s4 =>
 I.wop (.fieldAddr 79 (.const v2_0) 2) 0 s4 fun v12_5 s5 =>
 I.wop (.load 4 (.const v12_5)) 4 s5 fun v13_6 s6 =>
 wdec v13_6
 (I.wop (.binOp .mul 38 (.const v11_4) (.const v11_4) 38) 38 s6 fun v16_7 s7 =>
 I.wop (.fieldAddr 79 (.const v2_0) 0) 0 s7 fun v17_8 s8 =>
 I.wop (.load 38 (.const v17_8)) 38 s8 fun v18_9 s9 =>
 I.wop (.binOp .rem 38 (.const v16_7) (.const v18_9) 38) 38 s9 fun v19_10 s10 =>
 I.wop (.binOp .mul 38 (.const v19_10) (.const a1) 38) 38 s10 fun v22_11 s11 =>
 I.wop (.fieldAddr 79 (.const v2_0) 0) 0 s11 fun v23_12 s12 =>
 I.wop (.load 38 (.const v23_12)) 38 s12 fun v24_13 s13 =>
 I.wop (.binOp .rem 38 (.const v22_11) (.const v24_13) 38) 38 s13 fun v25_14 s14 =>
 I.fin si K v25_14 s14)
 (I.wop (.binOp .mul 38 (.const v11_4) (.const a1) 38) 38 s6 fun v22_15 s15 =>
 I.wop (.fieldAddr 79 (.const v2_0) 0) 0 s15 fun v23_16 s16 =>
 I.wop (.load 38 (.const v23_16)) 38 s16 fun v24_17 s17 =>
 I.wop (.binOp .rem 38 (.const v22_15) (.const v24_17) 38) 38 s17 fun v25_18 s18 =>
 I.fin si K v25_18 s18)
theorem x76 (I : Prims) (a0 a1 : Value) (si : St) (K : Value → St → Prop) : xbody I 26 k76 Tryd.f76 c76 [a0, a1] si K = v76 I a0 a1 si K := by kernel_rfl
theorem n76 [Memo] (ro : Nat) (a0 a1 : Value) (si : St) (K : Value → St → Prop) : wbody P ro 26 Tryd.f76 c76 [a0, a1] si K = v76 (prims P ro) a0 a1 si K := xbody_eq 26 P ro (x76 _ a0 a1 si K)
/- math/bits.Mul64 -/
noncomputable def c78 : Code := bodyOf Tryd.f78
def k78 : List (List Nat) := []
theorem b78 : BodyOk P 51 2 78 Tryd.f78 c78 := ⟨Tryd.func78, by kernel_rfl, by kernel_rfl, by kernel_rfl, by kernel_rfl, by kernel_rfl⟩
def v78 (I : Prims) (a0 a1 : Value) (si : St) (K : Value → St → Prop) : Prop :=
 I.wop (.binOp .and 38 (.const a0) (.const (.int .u64 4294967295)) 38) 38 (ent si) fun v15_0 s0 =>
 I.wop (.binOp .shr 38 (.const a0) (.const (.int .u64 32)) 84) 38 s0 fun v17_1 s1 =>
 I.wop (.binOp .and 38 (.const a1) (.const (.int .u64 4294967295)) 38) 38 s1 fun v19_2 s2 =>
 I.wop (.binOp .shr 38 (.const a1) (.const (.int .u64 32)) 84) 38 s2 fun v21_3 s3 =>
 I.wop (.binOp .mul 38 (.const v15_0) (.const v19_2) 38) 38 s3 fun v24_4 s4 =>
 I.wop (.binOp .mul 38 (.const v17_1) (.const v19_2) 38) 38 s4 fun v27_5 s5 =>
 I.wop (.binOp .shr 38 (.const v24_4) (.const (.int .u64 32)) 84) 38 s5 fun v29_6 s6 =>
 I.wop (.binOp .add 38 (.const v27_5) (.const v29_6) 38) 38 s6 fun v30_7 s7 =>
 I.wop (.binOp .and 38 (.const v30_7) (.const (.int .u64 4294967295)) 38) 38 s7 fun v32_8 s8 =>
 I.wop (.binOp .shr 38 (.const v30_7) (.const (.int .u64 32)) 84) 38 s8 fun v34_9 s9 =>
 I.wop (.binOp .mul 38 (.const v15_0) (.const v21_3) 38) 38 s9 fun v38_10 s10 =>
 I.wop (.binOp .add 38 (.const v32_8) (.const v38_10) 38) 38 s10 fun v39_11 s11 =>
 I.wop (.binOp .mul 38 (.const v17_1) (.const v21_3) 38) 38 s11 fun v42_12 s12 =>
 I.wop (.binOp .add 38 (.const v42_12) (.const v34_9) 38) 38 s12 fun v44_13 s13 =>
 I.wop (.binOp .shr 38 (.const v39_11) (.const (.int .u64 32)) 84) 38 s13 fun v46_14 s14 =>
 I.wop (.binOp .add 38 (.const v44_13) (.const v46_14) 38) 38 s14 fun v47_15 s15 =>
 I.wop (.binOp .mul 38 (.const a0) (.const a1) 38) 38 s15 fun v50_16 s16 =>
 I.fin si K (.tuple (.mk [v47_15, v50_16])) s16
theorem x78 (I : Prims) (a0 a1 : Value) (si : St) (K : Value → St → Prop) : xbody I 51 k78 Tryd.f78 c78 [a0, a1] si K = v78 I a0 a1 si K := by kernel_rfl
theorem n78 [Memo] (ro : Nat) (a0 a1 : Value) (si : St) (K : Value → St → Prop) : wbody P ro 51 Tryd.f78 c78 [a0, a1] si K = v78 (prims P ro) a0 a1 si K := xbody_eq 51 P ro (x78 _ a0 a1 si K)
end Go.VE
