/-
  What the functions' code does, operation by operation.
-/
import Derived.Test.YteamclmopokioaaDoorTy
set_option linter.unusedSimpArgs false
set_option linter.unusedVariables false
namespace Go.VE
open Go Go.Proofs
/- attestor/attestorlaw30.CircuitCanonical -/
noncomputable def c3 : Code := bodyOf Tryd.f3
noncomputable def c3_110100 : Code := subCode [1, 1, 0, 1, 0, 0] c3
def k3 : List (List Nat) := []
def k3_110100 : List (List Nat) := []
theorem l3_110100 : ltCode 68 c3_110100 = true := by kernel_rfl
theorem m3_110100 : notMap c3_110100 = true := by kernel_rfl
theorem b3 : BodyOk P 68 1 3 Tryd.f3 c3 := ⟨Tryd.func3, by kernel_rfl, by kernel_rfl, by kernel_rfl, by kernel_rfl, by kernel_rfl⟩
def v3_110100 (I : Prims) (rnd : Option Nat) (τ : Tau) (ds : List Deferred) (s : St) (Q : Ex → WK) : Prop :=
 I.wop (.binOp .lss 3 (.const (τ 4)) (.const (.int .i64 30)) 3) 4 s fun v12_0 s0 =>
 wdec v12_0
 (I.wop (.binOp .shr 22 (.const (τ 0)) (.const (τ 4)) 3) 22 s0 fun v18_1 s1 =>
 I.wop (.binOp .and 22 (.const v18_1) (.const (.int .u32 1)) 22) 22 s1 fun v19_2 s2 =>
 I.wop (.convert 22 24 (.const v19_2)) 24 s2 fun v20_3 s3 =>
 I.wop (.buildSlice 23 1 ⟨[(0, (.const v20_3))]⟩) 23 s3 fun v21_4 s4 =>
 I.wop (.call ⟨.builtin .append, ⟨[(.const (τ 3)), (.const v21_4)]⟩, #[23, 23]⟩) 23 s4 fun v22_5 s5 =>
 I.wop (.binOp .add 3 (.const (τ 4)) (.const (.int .i64 1)) 3) 3 s5 fun v14_6 s6 =>
 Q .normal (U τ [(4, v14_6), (14, v14_6), (13, (τ 4)), (3, v22_5), (22, v22_5), (21, v21_4), (20, v20_3), (19, v19_2), (18, v18_1), (17, (τ 4)), (16, (τ 0)), (15, (τ 3)), (12, (.bool true)), (12, v12_0), (11, (τ 4))]) ds s6)
 (Q (.exit 0) (U τ [(12, (.bool false)), (12, v12_0), (11, (τ 4))]) ds s0)
theorem x3_110100 (I : Prims) (rnd : Option Nat) (τ : Tau) (ds : List Deferred) (s : St) (Q : Ex → WK) : xp I rnd 68 k3_110100 c3_110100 [] τ [] ds s (lift Q) = v3_110100 I rnd τ ds s Q := by kernel_rfl
theorem n3_110100 [Memo] (ro : Nat) (rnd : Option Nat) (τ : Tau) (ds : List Deferred) (s : St) (Q : Ex → WK) : wp P ro 68 rnd c3_110100 τ ds s Q = v3_110100 (prims P ro) rnd τ ds s Q := xp_wp rnd 68 P ro (x3_110100 _ rnd τ ds s Q)
def v3 (I : Prims) (a0 : Value) (si : St) (K : Value → St → Prop) : Prop :=
 I.loop 68 none c3_110100 (U undefT [(4, (.int .i64 0)), (3, (.slice none 0 0)), (2, (.bool false)), (0, a0)]) [] (ent si) (fun τ ds s => ((xleave I si Tryd.f3.results.toList K) .ret) τ [] ds s) [(0, fun τ0 ds0 s0 =>
 I.call 9 [(.int .i64 3), (.int .i64 0), (.int .i64 30)] s0 fun v24_1 s1 =>
 I.wop (.extract (.const v24_1) 0) 25 s1 fun v25_2 s2 =>
 I.wop (.extract (.const v24_1) 1) 26 s2 fun v26_3 s3 =>
 I.wop (.binOp .neq 26 (.const v26_3) (.const (.int .i64 0)) 26) 4 s3 fun v28_4 s4 =>
 wdec v28_4
 (xdefers I ds0 s4 fun s5 =>
 I.fin si K (.bool false) s5)
 (I.call 11 [(.int .i64 0), (.int .i64 30)] s4 fun v30_6 s6 =>
 I.call 10 [v25_2, v30_6] s6 fun _ s7 =>
 I.call 12 [v25_2] s7 fun v34_8 s8 =>
 I.wop (.extract (.const v34_8) 0) 34 s8 fun v35_9 s9 =>
 I.wop (.extract (.const v34_8) 1) 26 s9 fun v36_10 s10 =>
 I.wop (.alloc 34) 0 s10 fun v7_11 s11 =>
 I.wop (.store 34 (.const v7_11) (.const v35_9)) 0 s11 fun _ s12 =>
 I.wop (.load 34 (.const v7_11)) 34 s12 fun v38_13 s13 =>
 I.call 13 [v38_13, (.slice none 0 0), (τ0 3)] s13 fun v40_14 s14 =>
 I.wop (.extract (.const v40_14) 0) 23 s14 fun _ s15 =>
 I.wop (.extract (.const v40_14) 1) 4 s15 fun v42_16 s16 =>
 I.wop (.extract (.const v40_14) 2) 26 s16 fun v43_17 s17 =>
 I.wop (.binOp .eql 26 (.const v36_10) (.const (.int .i64 0)) 26) 4 s17 fun v45_18 s18 =>
 wdec v45_18
 (I.wop (.binOp .eql 26 (.const v43_17) (.const (.int .i64 0)) 26) 4 s18 fun v48_19 s19 =>
 wdec v48_19
 (I.wop (.fieldAddr 34 (.const v7_11) 4) 0 s19 fun v51_20 s20 =>
 I.wop (.load 32 (.const v51_20)) 32 s20 fun v52_21 s21 =>
 I.wop (.call ⟨.builtin .len, ⟨[(.const v52_21)]⟩, #[32]⟩) 3 s21 fun v53_22 s22 =>
 I.wop (.binOp .gtr 3 (.const v53_22) (.const (.int .i64 0)) 3) 4 s22 fun v54_23 s23 =>
 wdec v54_23
 (I.wop (.convert 22 24 (.const (τ0 0))) 24 s23 fun v59_24 s24 =>
 I.wop (.binOp .rem 24 (.const v59_24) (.const (.int .u64 1073741824)) 24) 24 s24 fun v60_25 s25 =>
 I.call 14 [(.int .i64 3)] s25 fun v61_26 s26 =>
 I.wop (.binOp .lss 24 (.const v60_25) (.const v61_26) 24) 4 s26 fun v62_27 s27 =>
 I.wop (.binOp .eql 4 (.const v42_16) (.const v62_27) 4) 4 s27 fun v63_28 s28 =>
 wdec v63_28
 (I.call 15 [] s28 fun v66_29 s29 =>
 xdefers I ds0 s29 fun s30 =>
 I.fin si K v66_29 s30)
 (xdefers I ds0 s28 fun s31 =>
 I.fin si K (.bool false) s31))
 (xdefers I ds0 s23 fun s32 =>
 I.fin si K (.bool false) s32))
 (xdefers I ds0 s19 fun s33 =>
 I.fin si K (.bool false) s33))
 (xdefers I ds0 s18 fun s34 =>
 I.fin si K (.bool false) s34)))]
theorem x3 (I : Prims) (a0 : Value) (si : St) (K : Value → St → Prop) : xbody I 68 k3 Tryd.f3 c3 [a0] si K = v3 I a0 si K := by kernel_rfl
theorem n3 [Memo] (ro : Nat) (a0 : Value) (si : St) (K : Value → St → Prop) : wbody P ro 68 Tryd.f3 c3 [a0] si K = v3 (prims P ro) a0 si K := xbody_eq 68 P ro (x3 _ a0 si K)
theorem r3 (I : Prims) (si : St) (K : Value → St → Prop) (τ : Tau) (ds : List Deferred) (s : St) : xleave I si Tryd.f3.results.toList K .ret τ [] ds s =
 (xdefers I ds s fun s0 =>
 I.fin si K (τ 2) s0) := by kernel_rfl
/- attestor/attestorlaw30.CircuitClimbs -/
noncomputable def c4 : Code := bodyOf Tryd.f4
noncomputable def c4_111110100 : Code := subCode [1, 1, 1, 1, 1, 0, 1, 0, 0] c4
noncomputable def c4_111111111110100 : Code := subCode [1, 1, 1, 1, 1, 1, 1, 1, 1, 1, 1, 0, 1, 0, 0] c4
def k4 : List (List Nat) := []
def k4_111110100 : List (List Nat) := []
theorem l4_111110100 : ltCode 178 c4_111110100 = true := by kernel_rfl
theorem m4_111110100 : notMap c4_111110100 = true := by kernel_rfl
def k4_111111111110100 : List (List Nat) := []
theorem l4_111111111110100 : ltCode 178 c4_111111111110100 = true := by kernel_rfl
theorem m4_111111111110100 : notMap c4_111111111110100 = true := by kernel_rfl
theorem b4 : BodyOk P 178 4 4 Tryd.f4 c4 := ⟨Tryd.func4, by kernel_rfl, by kernel_rfl, by kernel_rfl, by kernel_rfl, by kernel_rfl⟩
def v4_111110100 (I : Prims) (rnd : Option Nat) (τ : Tau) (ds : List Deferred) (s : St) (Q : Ex → WK) : Prop :=
 I.wop (.binOp .lss 3 (.const (τ 12)) (.const (.int .i64 4)) 3) 4 s fun v39_0 s0 =>
 wdec v39_0
 (I.wop (.binOp .shr 3 (.const (τ 10)) (.const (τ 12)) 3) 3 s0 fun v45_1 s1 =>
 I.wop (.binOp .and 3 (.const v45_1) (.const (.int .i64 1)) 3) 3 s1 fun v46_2 s2 =>
 I.wop (.convert 3 24 (.const v46_2)) 24 s2 fun v47_3 s3 =>
 I.wop (.buildSlice 23 1 ⟨[(0, (.const v47_3))]⟩) 23 s3 fun v48_4 s4 =>
 I.wop (.call ⟨.builtin .append, ⟨[(.const (τ 11)), (.const v48_4)]⟩, #[23, 23]⟩) 23 s4 fun v49_5 s5 =>
 I.wop (.binOp .add 3 (.const (τ 12)) (.const (.int .i64 1)) 3) 3 s5 fun v41_6 s6 =>
 Q .normal (U τ [(12, v41_6), (41, v41_6), (40, (τ 12)), (11, v49_5), (49, v49_5), (48, v48_4), (47, v47_3), (46, v46_2), (45, v45_1), (44, (τ 12)), (43, (τ 10)), (42, (τ 11)), (39, (.bool true)), (39, v39_0), (38, (τ 12))]) ds s6)
 (Q (.exit 0) (U τ [(39, (.bool false)), (39, v39_0), (38, (τ 12))]) ds s0)
theorem x4_111110100 (I : Prims) (rnd : Option Nat) (τ : Tau) (ds : List Deferred) (s : St) (Q : Ex → WK) : xp I rnd 178 k4_111110100 c4_111110100 [] τ [] ds s (lift Q) = v4_111110100 I rnd τ ds s Q := by kernel_rfl
theorem n4_111110100 [Memo] (ro : Nat) (rnd : Option Nat) (τ : Tau) (ds : List Deferred) (s : St) (Q : Ex → WK) : wp P ro 178 rnd c4_111110100 τ ds s Q = v4_111110100 (prims P ro) rnd τ ds s Q := xp_wp rnd 178 P ro (x4_111110100 _ rnd τ ds s Q)
def v4_111111111110100 (I : Prims) (rnd : Option Nat) (τ : Tau) (ds : List Deferred) (s : St) (Q : Ex → WK) : Prop :=
 I.wop (.binOp .lss 3 (.const (τ 16)) (.const (τ 9)) 3) 4 s fun v70_0 s0 =>
 wdec v70_0
 (I.wop (.indexAddr 44 (.const (τ 3)) (.const (τ 16))) 0 s0 fun v75_1 s1 =>
 I.wop (.indexAddr 43 (.const v75_1) (.const (.int .i64 0))) 0 s1 fun v76_2 s2 =>
 I.wop (.load 24 (.const v76_2)) 24 s2 fun v77_3 s3 =>
 veq v77_3 v77_3 = true ∧ I.wop (.binOp .rem 24 (.const v77_3) (.const (τ 13)) 24) 24 s3 fun v79_4 s4 =>
 I.wop (.indexAddr 44 (.const (τ 3)) (.const (τ 16))) 0 s4 fun v82_5 s5 =>
 I.wop (.indexAddr 43 (.const v82_5) (.const (.int .i64 1))) 0 s5 fun v83_6 s6 =>
 I.wop (.load 24 (.const v83_6)) 24 s6 fun v84_7 s7 =>
 veq v84_7 v84_7 = true ∧ I.wop (.binOp .rem 24 (.const v84_7) (.const (τ 13)) 24) 24 s7 fun v86_8 s8 =>
 I.wop (.build 43 ⟨[(0, (.const v79_4)), (1, (.const v86_8))]⟩) 43 s8 fun v87_9 s9 =>
 I.wop (.alloc 43) 0 s9 fun v17_10 s10 =>
 FreshOk s9 s10 ∧ I.wop (.store 43 (.const v17_10) (.const v87_9)) 0 s10 fun _ s11 =>
 s10.n ≤ s11.n ∧ I.wop (.load 43 (.const v17_10)) 43 s11 fun v89_12 s12 =>
 I.wop (.buildSlice 44 1 ⟨[(0, (.const v89_12))]⟩) 44 s12 fun v90_13 s13 =>
 I.wop (.call ⟨.builtin .append, ⟨[(.const (τ 14)), (.const v90_13)]⟩, #[44, 44]⟩) 44 s13 fun v91_14 s14 =>
 I.wop (.call ⟨.builtin .len, ⟨[(.const (τ 11))]⟩, #[23]⟩) 3 s14 fun v94_15 s15 =>
 I.wop (.call ⟨.builtin .len, ⟨[(.const (τ 11))]⟩, #[23]⟩) 3 s15 fun v96_16 s16 =>
 I.wop (.binOp .add 3 (.const v96_16) (.const (.int .i64 1)) 3) 3 s16 fun v97_17 s17 =>
 I.wop (.build 47 ⟨[(0, (.const v94_15)), (1, (.const v97_17))]⟩) 47 s17 fun v98_18 s18 =>
 I.wop (.buildSlice 46 1 ⟨[(0, (.const v98_18))]⟩) 46 s18 fun v99_19 s19 =>
 I.wop (.call ⟨.builtin .append, ⟨[(.const (τ 15)), (.const v99_19)]⟩, #[46, 46]⟩) 46 s19 fun v100_20 s20 =>
 I.wop (.indexAddr 43 (.const v17_10) (.const (.int .i64 0))) 0 s20 fun v102_21 s21 =>
 I.wop (.load 24 (.const v102_21)) 24 s21 fun v103_22 s22 =>
 I.wop (.indexAddr 43 (.const v17_10) (.const (.int .i64 1))) 0 s22 fun v104_23 s23 =>
 I.wop (.load 24 (.const v104_23)) 24 s23 fun v105_24 s24 =>
 I.wop (.buildSlice 23 2 ⟨[(0, (.const v103_22)), (1, (.const v105_24))]⟩) 23 s24 fun v106_25 s25 =>
 I.wop (.call ⟨.builtin .append, ⟨[(.const (τ 11)), (.const v106_25)]⟩, #[23, 23]⟩) 23 s25 fun v107_26 s26 =>
 I.wop (.binOp .add 3 (.const (τ 16)) (.const (.int .i64 1)) 3) 3 s26 fun v72_27 s27 =>
 Q .normal (U τ [(16, v72_27), (72, v72_27), (71, (τ 16)), (11, v107_26), (107, v107_26), (106, v106_25), (105, v105_24), (104, v104_23), (103, v103_22), (102, v102_21), (101, (τ 11)), (15, v100_20), (100, v100_20), (99, v99_19), (98, v98_18), (97, v97_17), (96, v96_16), (95, (τ 11)), (94, v94_15), (93, (τ 11)), (92, (τ 15)), (14, v91_14), (91, v91_14), (90, v90_13), (89, v89_12), (88, (τ 14)), (17, v17_10), (87, v87_9), (86, v86_8), (85, (τ 13)), (84, v84_7), (83, v83_6), (82, v82_5), (81, (τ 16)), (80, (τ 3)), (79, v79_4), (78, (τ 13)), (77, v77_3), (76, v76_2), (75, v75_1), (74, (τ 16)), (73, (τ 3)), (70, (.bool true)), (70, v70_0), (69, (τ 9)), (68, (τ 16))]) ds s27)
 (Q (.exit 2) (U τ [(70, (.bool false)), (70, v70_0), (69, (τ 9)), (68, (τ 16))]) ds s0)
theorem x4_111111111110100 (I : Prims) (rnd : Option Nat) (τ : Tau) (ds : List Deferred) (s : St) (Q : Ex → WK) : xp I rnd 178 k4_111111111110100 c4_111111111110100 [] τ [] ds s (lift Q) = v4_111111111110100 I rnd τ ds s Q := by kernel_rfl
theorem n4_111111111110100 [Memo] (ro : Nat) (rnd : Option Nat) (τ : Tau) (ds : List Deferred) (s : St) (Q : Ex → WK) : wp P ro 178 rnd c4_111111111110100 τ ds s Q = v4_111111111110100 (prims P ro) rnd τ ds s Q := xp_wp rnd 178 P ro (x4_111111111110100 _ rnd τ ds s Q)
def v4 (I : Prims) (a0 a1 a2 a3 : Value) (si : St) (K : Value → St → Prop) : Prop :=
 I.wop (.box 43 (.const a2)) 0 (ent si) fun v6_0 s0 =>
 I.call 16 [a0] s0 fun v25_1 s1 =>
 I.wop (.unOp .not 4 (.const v25_1)) 4 s1 fun v26_2 s2 =>
 wdec v26_2
 (I.call 15 [] s2 fun v32_3 s3 =>
 I.fin si K v32_3 s3)
 (I.wop (.call ⟨.builtin .len, ⟨[(.const a3)]⟩, #[44]⟩) 3 s2 fun v29_4 s4 =>
 I.wop (.binOp .gtr 3 (.const v29_4) (.const (.int .i64 4)) 3) 4 s4 fun v30_5 s5 =>
 wdec v30_5
 (I.call 15 [] s5 fun v32_6 s6 =>
 I.fin si K v32_6 s6)
 (I.wop (.call ⟨.builtin .len, ⟨[(.const a3)]⟩, #[44]⟩) 3 s5 fun v34_7 s7 =>
 I.wop (.convert 5 3 (.const a1)) 3 s7 fun v36_8 s8 =>
 I.wop (.binOp .rem 3 (.const v36_8) (.const (.int .i64 16)) 3) 3 s8 fun v37_9 s9 =>
 I.loop 178 none c4_111110100 (U undefT [(12, (.int .i64 0)), (11, (.slice none 0 0)), (10, v37_9), (37, v37_9), (36, v36_8), (35, a1), (9, v34_7), (34, v34_7), (33, a3), (31, (.bool false)), (31, v30_5), (27, (.bool false)), (30, v30_5), (27, (.bool false)), (29, v29_4), (27, (.bool false)), (28, a3), (27, (.bool false)), (27, v26_2), (26, v26_2), (25, v25_1), (24, a0), (8, (.bool false)), (6, v6_0), (0, a0), (1, a1), (2, a2), (3, a3)]) [] s9 (fun τ ds s => ((xleave I si Tryd.f4.results.toList K) .ret) τ [] ds s) [(0, fun τ10 ds10 s10 =>
 I.call 14 [(τ10 0)] s10 fun v51_11 s11 =>
 I.wop (.indexAddr 43 (.const (τ10 6)) (.const (.int .i64 0))) 0 s11 fun v52_12 s12 =>
 I.wop (.load 24 (.const v52_12)) 24 s12 fun v53_13 s13 =>
 veq v53_13 v53_13 = true ∧ I.wop (.binOp .rem 24 (.const v53_13) (.const v51_11) 24) 24 s13 fun v55_14 s14 =>
 I.wop (.indexAddr 43 (.const (τ10 6)) (.const (.int .i64 1))) 0 s14 fun v56_15 s15 =>
 I.wop (.load 24 (.const v56_15)) 24 s15 fun v57_16 s16 =>
 veq v57_16 v57_16 = true ∧ I.wop (.binOp .rem 24 (.const v57_16) (.const v51_11) 24) 24 s16 fun v59_17 s17 =>
 I.wop (.build 43 ⟨[(0, (.const v55_14)), (1, (.const v59_17))]⟩) 43 s17 fun v60_18 s18 =>
 I.wop (.store 43 (.const (τ10 6)) (.const v60_18)) 0 s18 fun _ s19 =>
 I.wop (.indexAddr 43 (.const (τ10 6)) (.const (.int .i64 0))) 0 s19 fun v62_20 s20 =>
 I.wop (.load 24 (.const v62_20)) 24 s20 fun v63_21 s21 =>
 I.wop (.indexAddr 43 (.const (τ10 6)) (.const (.int .i64 1))) 0 s21 fun v64_22 s22 =>
 I.wop (.load 24 (.const v64_22)) 24 s22 fun v65_23 s23 =>
 I.wop (.buildSlice 23 2 ⟨[(0, (.const v63_21)), (1, (.const v65_23))]⟩) 23 s23 fun v66_24 s24 =>
 I.wop (.call ⟨.builtin .append, ⟨[(.const (τ10 11)), (.const v66_24)]⟩, #[23, 23]⟩) 23 s24 fun v67_25 s25 =>
 I.loop 178 none c4_111111111110100 (U τ10 [(16, (.int .i64 0)), (15, (.slice none 0 0)), (14, (.slice none 0 0)), (11, v67_25), (67, v67_25), (66, v66_24), (65, v65_23), (64, v64_22), (63, v63_21), (62, v62_20), (61, (τ10 11)), (60, v60_18), (59, v59_17), (58, v51_11), (57, v57_16), (56, v56_15), (55, v55_14), (54, v51_11), (53, v53_13), (52, v52_12), (13, v51_11), (51, v51_11), (50, (τ10 0))]) ds10 s25 (fun τ ds s => ((xleave I si Tryd.f4.results.toList K) .ret) τ [] ds s) [(2, fun τ26 ds26 s26 =>
 I.wop (.call ⟨.builtin .len, ⟨[(.const (τ26 11))]⟩, #[23]⟩) 3 s26 fun v111_27 s27 =>
 I.call 9 [(τ26 0), (.int .i64 0), v111_27] s27 fun v112_28 s28 =>
 I.wop (.extract (.const v112_28) 0) 25 s28 fun v113_29 s29 =>
 I.wop (.extract (.const v112_28) 1) 26 s29 fun v114_30 s30 =>
 I.wop (.binOp .neq 26 (.const v114_30) (.const (.int .i64 0)) 26) 4 s30 fun v116_31 s31 =>
 wdec v116_31
 (xdefers I ds26 s31 fun s32 =>
 I.fin si K (.bool false) s32)
 (I.wop (.buildSlice 30 4 ⟨[(0, (.const (.int .i64 0))), (1, (.const (.int .i64 1))), (2, (.const (.int .i64 2))), (3, (.const (.int .i64 3)))]⟩) 30 s31 fun v118_33 s33 =>
 I.wop (.build 47 ⟨[(0, (.const (.int .i64 4))), (1, (.const (.int .i64 5)))]⟩) 47 s33 fun v119_34 s34 =>
 I.call 17 [v113_29, v118_33, v119_34, (τ26 15)] s34 fun v121_35 s35 =>
 I.wop (.alloc 47) 0 s35 fun v20_36 s36 =>
 I.wop (.store 47 (.const v20_36) (.const v121_35)) 0 s36 fun _ s37 =>
 I.call 18 [v113_29, (τ26 11)] s37 fun v125_38 s38 =>
 I.wop (.extract (.const v125_38) 0) 23 s38 fun v126_39 s39 =>
 I.wop (.extract (.const v125_38) 1) 4 s39 fun v127_40 s40 =>
 I.wop (.unOp .not 4 (.const v127_40)) 4 s40 fun v129_41 s41 =>
 wdec v129_41
 (xdefers I ds26 s41 fun s42 =>
 I.fin si K (.bool false) s42)
 (I.wop (.indexAddr 47 (.const v20_36) (.const (.int .i64 0))) 0 s41 fun v131_43 s43 =>
 I.wop (.load 3 (.const v131_43)) 3 s43 fun v132_44 s44 =>
 I.wop (.indexAddr 47 (.const v20_36) (.const (.int .i64 1))) 0 s44 fun v133_45 s45 =>
 I.wop (.load 3 (.const v133_45)) 3 s45 fun v134_46 s46 =>
 I.wop (.call ⟨.builtin .min, ⟨[(.const v132_44), (.const v134_46)]⟩, #[3, 3]⟩) 3 s46 fun v135_47 s47 =>
 I.wop (.binOp .lss 3 (.const v135_47) (.const (.int .i64 0)) 3) 4 s47 fun v136_48 s48 =>
 wdec v136_48
 (xdefers I ds26 s48 fun s49 =>
 I.fin si K (.bool false) s49)
 (I.wop (.indexAddr 47 (.const v20_36) (.const (.int .i64 0))) 0 s48 fun v139_50 s50 =>
 I.wop (.load 3 (.const v139_50)) 3 s50 fun v140_51 s51 =>
 I.wop (.indexAddr 47 (.const v20_36) (.const (.int .i64 1))) 0 s51 fun v141_52 s52 =>
 I.wop (.load 3 (.const v141_52)) 3 s52 fun v142_53 s53 =>
 I.wop (.call ⟨.builtin .max, ⟨[(.const v140_51), (.const v142_53)]⟩, #[3, 3]⟩) 3 s53 fun v143_54 s54 =>
 I.wop (.call ⟨.builtin .len, ⟨[(.const v126_39)]⟩, #[23]⟩) 3 s54 fun v145_55 s55 =>
 I.wop (.binOp .geq 3 (.const v143_54) (.const v145_55) 3) 4 s55 fun v146_56 s56 =>
 wdec v146_56
 (xdefers I ds26 s56 fun s57 =>
 I.fin si K (.bool false) s57)
 (I.wop (.binOp .shl 3 (.const (.int .i64 1)) (.const (τ26 9)) 3) 3 s56 fun v151_58 s58 =>
 I.wop (.binOp .sub 3 (.const v151_58) (.const (.int .i64 1)) 3) 3 s58 fun v152_59 s59 =>
 I.wop (.binOp .and 3 (.const (τ26 10)) (.const v152_59) 3) 3 s59 fun v153_60 s60 =>
 I.wop (.load 43 (.const (τ26 6))) 43 s60 fun v154_61 s61 =>
 veq v154_61 v154_61 = true ∧ I.wop (.alloc 43) 0 s61 fun v23_62 s62 =>
 FreshOk s61 s62 ∧ I.call 19 [(τ26 0), v153_60, v154_61, (τ26 14)] s62 fun v156_63 s63 =>
 Grew s62 s63 ∧ I.wop (.store 43 (.const v23_62) (.const v156_63)) 0 s63 fun _ s64 =>
 s63.n ≤ s64.n ∧ I.wop (.indexAddr 47 (.const v20_36) (.const (.int .i64 0))) 0 s64 fun v158_65 s65 =>
 I.wop (.load 3 (.const v158_65)) 3 s65 fun v159_66 s66 =>
 veq v159_66 v159_66 = true ∧ I.wop (.indexAddr 23 (.const v126_39) (.const v159_66)) 0 s66 fun v160_67 s67 =>
 I.wop (.load 24 (.const v160_67)) 24 s67 fun v161_68 s68 =>
 veq v161_68 v161_68 = true ∧ I.wop (.indexAddr 43 (.const v23_62) (.const (.int .i64 0))) 0 s68 fun v162_69 s69 =>
 I.wop (.load 24 (.const v162_69)) 24 s69 fun v163_70 s70 =>
 veq v163_70 v163_70 = true ∧ I.wop (.binOp .eql 24 (.const v161_68) (.const v163_70) 24) 4 s70 fun v164_71 s71 =>
 wdec v164_71
 (I.wop (.indexAddr 47 (.const v20_36) (.const (.int .i64 1))) 0 s71 fun v167_72 s72 =>
 I.wop (.load 3 (.const v167_72)) 3 s72 fun v168_73 s73 =>
 veq v168_73 v168_73 = true ∧ I.wop (.indexAddr 23 (.const v126_39) (.const v168_73)) 0 s73 fun v169_74 s74 =>
 I.wop (.load 24 (.const v169_74)) 24 s74 fun v170_75 s75 =>
 veq v170_75 v170_75 = true ∧ I.wop (.indexAddr 43 (.const v23_62) (.const (.int .i64 1))) 0 s75 fun v171_76 s76 =>
 I.wop (.load 24 (.const v171_76)) 24 s76 fun v172_77 s77 =>
 veq v172_77 v172_77 = true ∧ I.wop (.binOp .eql 24 (.const v170_75) (.const v172_77) 24) 4 s77 fun v173_78 s78 =>
 wdec v173_78
 (I.call 15 [] s78 fun v176_79 s79 =>
 xdefers I ds26 s79 fun s80 =>
 I.fin si K v176_79 s80)
 (xdefers I ds26 s78 fun s81 =>
 I.fin si K (.bool false) s81))
 (xdefers I ds26 s71 fun s82 =>
 I.fin si K (.bool false) s82))))))])]))
theorem x4 (I : Prims) (a0 a1 a2 a3 : Value) (si : St) (K : Value → St → Prop) : xbody I 178 k4 Tryd.f4 c4 [a0, a1, a2, a3] si K = v4 I a0 a1 a2 a3 si K := by kernel_rfl
theorem n4 [Memo] (ro : Nat) (a0 a1 a2 a3 : Value) (si : St) (K : Value → St → Prop) : wbody P ro 178 Tryd.f4 c4 [a0, a1, a2, a3] si K = v4 (prims P ro) a0 a1 a2 a3 si K := xbody_eq 178 P ro (x4 _ a0 a1 a2 a3 si K)
theorem r4 (I : Prims) (si : St) (K : Value → St → Prop) (τ : Tau) (ds : List Deferred) (s : St) : xleave I si Tryd.f4.results.toList K .ret τ [] ds s =
 (xdefers I ds s fun s0 =>
 I.fin si K (τ 8) s0) := by kernel_rfl
/- attestor/attestorlaw30.CircuitKnown -/
noncomputable def c5 : Code := bodyOf Tryd.f5
def k5 : List (List Nat) := []
theorem b5 : BodyOk P 79 0 5 Tryd.f5 c5 := ⟨Tryd.func5, by kernel_rfl, by kernel_rfl, by kernel_rfl, by kernel_rfl, by kernel_rfl⟩
def v5 (I : Prims) (si : St) (K : Value → St → Prop) : Prop :=
 I.call 9 [(.int .i64 0), (.int .i64 1), (.int .i64 0)] (ent si) fun v13_0 s0 =>
 I.wop (.extract (.const v13_0) 0) 25 s0 fun v14_1 s1 =>
 I.wop (.extract (.const v13_0) 1) 26 s1 fun _ s2 =>
 I.wop (.build 53 ⟨[]⟩) 53 s2 fun v17_3 s3 =>
 I.call 20 [v14_1, v17_3] s3 fun v18_4 s4 =>
 I.wop (.alloc 53) 0 s4 fun v3_5 s5 =>
 I.wop (.store 53 (.const v3_5) (.const v18_4)) 0 s5 fun _ s6 =>
 I.call 12 [v14_1] s6 fun v21_7 s7 =>
 I.wop (.extract (.const v21_7) 0) 34 s7 fun v22_8 s8 =>
 I.wop (.extract (.const v21_7) 1) 26 s8 fun v23_9 s9 =>
 I.wop (.alloc 34) 0 s9 fun v4_10 s10 =>
 I.wop (.store 34 (.const v4_10) (.const v22_8)) 0 s10 fun _ s11 =>
 I.wop (.binOp .neq 26 (.const v23_9) (.const (.int .i64 0)) 26) 4 s11 fun v25_12 s12 =>
 wdec v25_12
 (I.fin si K (.bool false) s12)
 (I.wop (.fieldAddr 34 (.const v4_10) 4) 0 s12 fun v27_13 s13 =>
 I.wop (.load 32 (.const v27_13)) 32 s13 fun v28_14 s14 =>
 I.wop (.call ⟨.builtin .len, ⟨[(.const v28_14)]⟩, #[32]⟩) 3 s14 fun v29_15 s15 =>
 I.wop (.binOp .neq 3 (.const v29_15) (.const (.int .i64 9)) 3) 4 s15 fun v30_16 s16 =>
 wdec v30_16
 (I.fin si K (.bool false) s16)
 (I.wop (.load 53 (.const v3_5)) 53 s16 fun v33_17 s17 =>
 I.wop (.build 53 ⟨[(0, (.const (.int .i64 29))), (1, (.const (.int .i64 30))), (2, (.const (.int .i64 31))), (3, (.const (.int .i64 32)))]⟩) 53 s17 fun v34_18 s18 =>
 I.wop (.binOp .neq 53 (.const v33_17) (.const v34_18) 53) 4 s18 fun v35_19 s19 =>
 wdec v35_19
 (I.fin si K (.bool false) s19)
 (I.call 21 [v14_1, (.int .i64 0), (.int .i64 99)] s19 fun v38_20 s20 =>
 I.wop (.binOp .neq 3 (.const v38_20) (.const (.int .i64 (-1))) 3) 4 s20 fun v39_21 s21 =>
 wdec v39_21
 (I.fin si K (.bool false) s21)
 (I.call 22 [v14_1, (.int .u64 1)] s21 fun v42_22 s22 =>
 I.wop (.binOp .neq 3 (.const v42_22) (.const (.int .i64 (-1))) 3) 4 s22 fun v43_23 s23 =>
 wdec v43_23
 (I.fin si K (.bool false) s23)
 (I.call 23 [v14_1] s23 fun v47_24 s24 =>
 I.wop (.binOp .neq 26 (.const v47_24) (.const (.int .i64 1)) 26) 4 s24 fun v48_25 s25 =>
 wdec v48_25
 (I.fin si K (.bool false) s25)
 (I.call 9 [(.int .i64 0), (.int .i64 0), (.int .i64 30)] s25 fun v51_26 s26 =>
 I.wop (.extract (.const v51_26) 0) 25 s26 fun v52_27 s27 =>
 I.wop (.extract (.const v51_26) 1) 26 s27 fun _ s28 =>
 I.call 11 [(.int .i64 0), (.int .i64 30)] s28 fun v55_29 s29 =>
 I.call 10 [v52_27, v55_29] s29 fun _ s30 =>
 I.call 9 [(.int .i64 4), (.int .i64 0), (.int .i64 0)] s30 fun v58_31 s31 =>
 I.wop (.extract (.const v58_31) 0) 25 s31 fun _ s32 =>
 I.wop (.extract (.const v58_31) 1) 26 s32 fun v60_33 s33 =>
 I.call 9 [(.int .i64 0), (.int .i64 17), (.int .i64 0)] s33 fun v62_34 s34 =>
 I.wop (.extract (.const v62_34) 0) 25 s34 fun _ s35 =>
 I.wop (.extract (.const v62_34) 1) 26 s35 fun v64_36 s36 =>
 I.call 23 [v52_27] s36 fun v66_37 s37 =>
 I.wop (.binOp .eql 26 (.const v66_37) (.const (.int .i64 1)) 26) 4 s37 fun v67_38 s38 =>
 wdec v67_38
 (I.wop (.binOp .eql 26 (.const v60_33) (.const (.int .i64 1)) 26) 4 s38 fun v70_39 s39 =>
 wdec v70_39
 (I.wop (.binOp .eql 26 (.const v64_36) (.const (.int .i64 1)) 26) 4 s39 fun v74_40 s40 =>
 wdec v74_40
 (I.call 15 [] s40 fun v77_41 s41 =>
 I.fin si K v77_41 s41)
 (I.fin si K (.bool false) s40))
 (I.fin si K (.bool false) s39))
 (I.fin si K (.bool false) s38)))))))
theorem x5 (I : Prims) (si : St) (K : Value → St → Prop) : xbody I 79 k5 Tryd.f5 c5 [] si K = v5 I si K := by kernel_rfl
theorem n5 [Memo] (ro : Nat) (si : St) (K : Value → St → Prop) : wbody P ro 79 Tryd.f5 c5 [] si K = v5 (prims P ro) si K := xbody_eq 79 P ro (x5 _ si K)
theorem r5 (I : Prims) (si : St) (K : Value → St → Prop) (τ : Tau) (ds : List Deferred) (s : St) : xleave I si Tryd.f5.results.toList K .ret τ [] ds s =
 (xdefers I ds s fun s0 =>
 I.fin si K (τ 0) s0) := by kernel_rfl
/- attestor/attestorlaw30.CircuitBits -/
noncomputable def c7 : Code := bodyOf Tryd.f7
noncomputable def c7_111110100 : Code := subCode [1, 1, 1, 1, 1, 0, 1, 0, 0] c7
def k7 : List (List Nat) := []
def k7_111110100 : List (List Nat) := []
theorem l7_111110100 : ltCode 185 c7_111110100 = true := by kernel_rfl
theorem m7_111110100 : notMap c7_111110100 = true := by kernel_rfl
theorem b7 : BodyOk P 185 4 7 Tryd.f7 c7 := ⟨Tryd.func7, by kernel_rfl, by kernel_rfl, by kernel_rfl, by kernel_rfl, by kernel_rfl⟩
def v7_111110100 (I : Prims) (rnd : Option Nat) (τ : Tau) (ds : List Deferred) (s : St) (Q : Ex → WK) : Prop :=
 I.wop (.binOp .lss 3 (.const (τ 13)) (.const (.int .i64 8)) 3) 4 s fun v41_0 s0 =>
 wdec v41_0
 (I.wop (.binOp .mul 3 (.const (.int .i64 2)) (.const (τ 13)) 3) 3 s0 fun v46_1 s1 =>
 I.wop (.binOp .add 3 (.const (.int .i64 4)) (.const v46_1) 3) 3 s1 fun v47_2 s2 =>
 I.wop (.binOp .mul 3 (.const (.int .i64 2)) (.const (τ 13)) 3) 3 s2 fun v49_3 s3 =>
 I.wop (.binOp .add 3 (.const (.int .i64 5)) (.const v49_3) 3) 3 s3 fun v50_4 s4 =>
 I.wop (.build 47 ⟨[(0, (.const v47_2)), (1, (.const v50_4))]⟩) 47 s4 fun v51_5 s5 =>
 I.wop (.buildSlice 46 1 ⟨[(0, (.const v51_5))]⟩) 46 s5 fun v52_6 s6 =>
 I.wop (.call ⟨.builtin .append, ⟨[(.const (τ 12)), (.const v52_6)]⟩, #[46, 46]⟩) 46 s6 fun v53_7 s7 =>
 I.wop (.indexAddr 70 (.const (τ 6)) (.const (τ 13))) 0 s7 fun v56_8 s8 =>
 I.wop (.indexAddr 42 (.const v56_8) (.const (.int .i64 0))) 0 s8 fun v57_9 s9 =>
 I.wop (.load 24 (.const v57_9)) 24 s9 fun v58_10 s10 =>
 veq v58_10 v58_10 = true ∧ I.wop (.binOp .rem 24 (.const v58_10) (.const (τ 9)) 24) 24 s10 fun v60_11 s11 =>
 I.wop (.indexAddr 70 (.const (τ 6)) (.const (τ 13))) 0 s11 fun v62_12 s12 =>
 I.wop (.indexAddr 42 (.const v62_12) (.const (.int .i64 1))) 0 s12 fun v63_13 s13 =>
 I.wop (.load 24 (.const v63_13)) 24 s13 fun v64_14 s14 =>
 veq v64_14 v64_14 = true ∧ I.wop (.binOp .rem 24 (.const v64_14) (.const (τ 9)) 24) 24 s14 fun v66_15 s15 =>
 I.wop (.buildSlice 23 2 ⟨[(0, (.const v60_11)), (1, (.const v66_15))]⟩) 23 s15 fun v67_16 s16 =>
 FreshOk s15 s16 ∧ I.wop (.call ⟨.builtin .append, ⟨[(.const (τ 11)), (.const v67_16)]⟩, #[23, 23]⟩) 23 s16 fun v68_17 s17 =>
 s16.n ≤ s17.n ∧ I.wop (.binOp .add 3 (.const (τ 13)) (.const (.int .i64 1)) 3) 3 s17 fun v43_18 s18 =>
 Q .normal (U τ [(13, v43_18), (43, v43_18), (42, (τ 13)), (11, v68_17), (68, v68_17), (67, v67_16), (66, v66_15), (65, (τ 9)), (64, v64_14), (63, v63_13), (62, v62_12), (61, (τ 13)), (60, v60_11), (59, (τ 9)), (58, v58_10), (57, v57_9), (56, v56_8), (55, (τ 13)), (54, (τ 11)), (12, v53_7), (53, v53_7), (52, v52_6), (51, v51_5), (50, v50_4), (49, v49_3), (48, (τ 13)), (47, v47_2), (46, v46_1), (45, (τ 13)), (44, (τ 12)), (41, (.bool true)), (41, v41_0), (40, (τ 13))]) ds s18)
 (Q (.exit 0) (U τ [(41, (.bool false)), (41, v41_0), (40, (τ 13))]) ds s0)
theorem x7_111110100 (I : Prims) (rnd : Option Nat) (τ : Tau) (ds : List Deferred) (s : St) (Q : Ex → WK) : xp I rnd 185 k7_111110100 c7_111110100 [] τ [] ds s (lift Q) = v7_111110100 I rnd τ ds s Q := by kernel_rfl
theorem n7_111110100 [Memo] (ro : Nat) (rnd : Option Nat) (τ : Tau) (ds : List Deferred) (s : St) (Q : Ex → WK) : wp P ro 185 rnd c7_111110100 τ ds s Q = v7_111110100 (prims P ro) rnd τ ds s Q := xp_wp rnd 185 P ro (x7_111110100 _ rnd τ ds s Q)
def v7 (I : Prims) (a0 a1 a2 a3 : Value) (si : St) (K : Value → St → Prop) : Prop :=
 I.wop (.box 70 (.const a2)) 0 (ent si) fun v6_0 s0 =>
 I.call 14 [(.int .i64 3)] s0 fun v21_1 s1 =>
 I.wop (.convert 5 3 (.const a0)) 3 s1 fun v23_2 s2 =>
 I.wop (.binOp .rem 3 (.const v23_2) (.const (.int .i64 8)) 3) 3 s2 fun v24_3 s3 =>
 I.wop (.binOp .and 3 (.const v24_3) (.const (.int .i64 1)) 3) 3 s3 fun v26_4 s4 =>
 I.wop (.convert 3 24 (.const v26_4)) 24 s4 fun v27_5 s5 =>
 I.wop (.binOp .shr 3 (.const v24_3) (.const (.int .u64 1)) 71) 3 s5 fun v29_6 s6 =>
 I.wop (.binOp .and 3 (.const v29_6) (.const (.int .i64 1)) 3) 3 s6 fun v30_7 s7 =>
 I.wop (.convert 3 24 (.const v30_7)) 24 s7 fun v31_8 s8 =>
 I.wop (.binOp .shr 3 (.const v24_3) (.const (.int .u64 2)) 71) 3 s8 fun v33_9 s9 =>
 I.wop (.binOp .and 3 (.const v33_9) (.const (.int .i64 1)) 3) 3 s9 fun v34_10 s10 =>
 I.wop (.convert 3 24 (.const v34_10)) 24 s10 fun v35_11 s11 =>
 I.wop (.binOp .rem 24 (.const a3) (.const v21_1) 24) 24 s11 fun v38_12 s12 =>
 I.wop (.buildSlice 23 4 ⟨[(0, (.const v27_5)), (1, (.const v31_8)), (2, (.const v35_11)), (3, (.const v38_12))]⟩) 23 s12 fun v39_13 s13 =>
 I.loop 185 none c7_111110100 (U undefT [(13, (.int .i64 0)), (12, (.slice none 0 0)), (11, v39_13), (39, v39_13), (38, v38_12), (37, v21_1), (36, a3), (35, v35_11), (34, v34_10), (33, v33_9), (32, v24_3), (31, v31_8), (30, v30_7), (29, v29_6), (28, v24_3), (27, v27_5), (26, v26_4), (25, v24_3), (10, v24_3), (24, v24_3), (23, v23_2), (22, a0), (9, v21_1), (21, v21_1), (8, (.bool false)), (6, v6_0), (0, a0), (1, a1), (2, a2), (3, a3)]) [] s13 (fun τ ds s => ((xleave I si Tryd.f7.results.toList K) .ret) τ [] ds s) [(0, fun τ14 ds14 s14 =>
 I.wop (.call ⟨.builtin .len, ⟨[(.const (τ14 11))]⟩, #[23]⟩) 3 s14 fun v71_15 s15 =>
 I.call 9 [(.int .i64 3), (.int .i64 0), v71_15] s15 fun v72_16 s16 =>
 I.wop (.extract (.const v72_16) 0) 25 s16 fun v73_17 s17 =>
 I.wop (.extract (.const v72_16) 1) 26 s17 fun v74_18 s18 =>
 I.wop (.binOp .neq 26 (.const v74_18) (.const (.int .i64 0)) 26) 4 s18 fun v76_19 s19 =>
 wdec v76_19
 (xdefers I ds14 s19 fun s20 =>
 I.fin si K (.bool false) s20)
 (I.wop (.buildSlice 30 3 ⟨[(0, (.const (.int .i64 0))), (1, (.const (.int .i64 1))), (2, (.const (.int .i64 2)))]⟩) 30 s19 fun v78_21 s21 =>
 I.call 30 [v73_17, v78_21] s21 fun v79_22 s22 =>
 I.wop (.buildSlice 30 3 ⟨[(0, (.const (.int .i64 0))), (1, (.const (.int .i64 1))), (2, (.const (.int .i64 2)))]⟩) 30 s22 fun v81_23 s23 =>
 I.wop (.binOp .rem 24 (.const (τ14 1)) (.const (τ14 9)) 24) 24 s23 fun v84_24 s24 =>
 I.call 31 [v73_17, v81_23, v84_24] s24 fun v85_25 s25 =>
 I.wop (.buildSlice 30 3 ⟨[(0, (.const (.int .i64 0))), (1, (.const (.int .i64 1))), (2, (.const (.int .i64 2)))]⟩) 30 s25 fun v87_26 s26 =>
 I.call 32 [v73_17, v87_26, (τ14 12)] s26 fun v89_27 s27 =>
 I.wop (.alloc 47) 0 s27 fun v18_28 s28 =>
 I.wop (.store 47 (.const v18_28) (.const v89_27)) 0 s28 fun _ s29 =>
 I.call 18 [v73_17, (τ14 11)] s29 fun v93_30 s30 =>
 I.wop (.extract (.const v93_30) 0) 23 s30 fun v94_31 s31 =>
 I.wop (.extract (.const v93_30) 1) 4 s31 fun v95_32 s32 =>
 I.wop (.unOp .not 4 (.const v95_32)) 4 s32 fun v97_33 s33 =>
 wdec v97_33
 (xdefers I ds14 s33 fun s34 =>
 I.fin si K (.bool false) s34)
 (I.wop (.indexAddr 47 (.const v18_28) (.const (.int .i64 0))) 0 s33 fun v101_35 s35 =>
 I.wop (.load 3 (.const v101_35)) 3 s35 fun v102_36 s36 =>
 I.wop (.indexAddr 47 (.const v18_28) (.const (.int .i64 1))) 0 s36 fun v103_37 s37 =>
 I.wop (.load 3 (.const v103_37)) 3 s37 fun v104_38 s38 =>
 I.wop (.call ⟨.builtin .min, ⟨[(.const v79_22), (.const v85_25), (.const v102_36), (.const v104_38)]⟩, #[3, 3, 3, 3]⟩) 3 s38 fun v105_39 s39 =>
 I.wop (.binOp .lss 3 (.const v105_39) (.const (.int .i64 0)) 3) 4 s39 fun v106_40 s40 =>
 wdec v106_40
 (xdefers I ds14 s40 fun s41 =>
 I.fin si K (.bool false) s41)
 (I.wop (.indexAddr 47 (.const v18_28) (.const (.int .i64 0))) 0 s40 fun v111_42 s42 =>
 I.wop (.load 3 (.const v111_42)) 3 s42 fun v112_43 s43 =>
 I.wop (.indexAddr 47 (.const v18_28) (.const (.int .i64 1))) 0 s43 fun v113_44 s44 =>
 I.wop (.load 3 (.const v113_44)) 3 s44 fun v114_45 s45 =>
 I.wop (.call ⟨.builtin .max, ⟨[(.const v79_22), (.const v85_25), (.const v112_43), (.const v114_45)]⟩, #[3, 3, 3, 3]⟩) 3 s45 fun v115_46 s46 =>
 I.wop (.call ⟨.builtin .len, ⟨[(.const v94_31)]⟩, #[23]⟩) 3 s46 fun v117_47 s47 =>
 I.wop (.binOp .geq 3 (.const v115_46) (.const v117_47) 3) 4 s47 fun v118_48 s48 =>
 wdec v118_48
 (xdefers I ds14 s48 fun s49 =>
 I.fin si K (.bool false) s49)
 (I.wop (.indexAddr 23 (.const v94_31) (.const v79_22)) 0 s48 fun v122_50 s50 =>
 I.wop (.load 24 (.const v122_50)) 24 s50 fun v123_51 s51 =>
 veq v123_51 v123_51 = true ∧ I.wop (.convert 3 24 (.const (τ14 10))) 24 s51 fun v125_52 s52 =>
 s52 = s51 ∧ veq v125_52 v125_52 = true ∧ I.wop (.binOp .neq 24 (.const v123_51) (.const v125_52) 24) 4 s52 fun v126_53 s53 =>
 wdec v126_53
 (xdefers I ds14 s53 fun s54 =>
 I.fin si K (.bool false) s54)
 (I.wop (.indexAddr 23 (.const v94_31) (.const v85_25)) 0 s53 fun v130_55 s55 =>
 I.wop (.load 24 (.const v130_55)) 24 s55 fun v131_56 s56 =>
 veq v131_56 v131_56 = true ∧ I.wop (.convert 3 24 (.const (τ14 10))) 24 s56 fun v134_57 s57 =>
 s57 = s56 ∧ veq v134_57 v134_57 = true ∧ I.call 33 [(.int .i64 3), (τ14 1), v134_57] s57 fun v135_58 s58 =>
 Grew s57 s58 ∧ I.wop (.binOp .neq 24 (.const v131_56) (.const v135_58) 24) 4 s58 fun v136_59 s59 =>
 wdec v136_59
 (xdefers I ds14 s59 fun s60 =>
 I.fin si K (.bool false) s60)
 (I.wop (.indexAddr 47 (.const v18_28) (.const (.int .i64 0))) 0 s59 fun v140_61 s61 =>
 I.wop (.load 3 (.const v140_61)) 3 s61 fun v141_62 s62 =>
 veq v141_62 v141_62 = true ∧ I.wop (.indexAddr 23 (.const v94_31) (.const v141_62)) 0 s62 fun v142_63 s63 =>
 I.wop (.load 24 (.const v142_63)) 24 s63 fun v143_64 s64 =>
 veq v143_64 v143_64 = true ∧ I.wop (.indexAddr 70 (.const (τ14 6)) (.const (τ14 10))) 0 s64 fun v145_65 s65 =>
 I.wop (.indexAddr 42 (.const v145_65) (.const (.int .i64 0))) 0 s65 fun v146_66 s66 =>
 I.wop (.load 24 (.const v146_66)) 24 s66 fun v147_67 s67 =>
 veq v147_67 v147_67 = true ∧ I.wop (.binOp .rem 24 (.const v147_67) (.const (τ14 9)) 24) 24 s67 fun v149_68 s68 =>
 I.wop (.binOp .neq 24 (.const v143_64) (.const v149_68) 24) 4 s68 fun v150_69 s69 =>
 wdec v150_69
 (xdefers I ds14 s69 fun s70 =>
 I.fin si K (.bool false) s70)
 (I.wop (.indexAddr 47 (.const v18_28) (.const (.int .i64 1))) 0 s69 fun v154_71 s71 =>
 I.wop (.load 3 (.const v154_71)) 3 s71 fun v155_72 s72 =>
 veq v155_72 v155_72 = true ∧ I.wop (.indexAddr 23 (.const v94_31) (.const v155_72)) 0 s72 fun v156_73 s73 =>
 I.wop (.load 24 (.const v156_73)) 24 s73 fun v157_74 s74 =>
 veq v157_74 v157_74 = true ∧ I.wop (.indexAddr 70 (.const (τ14 6)) (.const (τ14 10))) 0 s74 fun v159_75 s75 =>
 I.wop (.indexAddr 42 (.const v159_75) (.const (.int .i64 1))) 0 s75 fun v160_76 s76 =>
 I.wop (.load 24 (.const v160_76)) 24 s76 fun v161_77 s77 =>
 veq v161_77 v161_77 = true ∧ I.wop (.binOp .rem 24 (.const v161_77) (.const (τ14 9)) 24) 24 s77 fun v163_78 s78 =>
 I.wop (.binOp .neq 24 (.const v157_74) (.const v163_78) 24) 4 s78 fun v164_79 s79 =>
 wdec v164_79
 (xdefers I ds14 s79 fun s80 =>
 I.fin si K (.bool false) s80)
 (I.call 34 [v73_17, (.int .i64 0)] s79 fun _ s81 =>
 I.call 34 [v73_17, (.int .i64 3)] s81 fun _ s82 =>
 I.call 18 [v73_17, (τ14 11)] s82 fun v173_83 s83 =>
 I.wop (.extract (.const v173_83) 0) 23 s83 fun _ s84 =>
 I.wop (.extract (.const v173_83) 1) 4 s84 fun v175_85 s85 =>
 I.wop (.binOp .rem 24 (.const (τ14 3)) (.const (τ14 9)) 24) 24 s85 fun v179_86 s86 =>
 I.wop (.binOp .lss 24 (.const v179_86) (.const (.int .u64 2)) 24) 4 s86 fun v180_87 s87 =>
 I.wop (.binOp .eql 4 (.const v175_85) (.const v180_87) 4) 4 s87 fun v181_88 s88 =>
 wdec v181_88
 (I.call 15 [] s88 fun v183_89 s89 =>
 xdefers I ds14 s89 fun s90 =>
 I.fin si K v183_89 s90)
 (xdefers I ds14 s88 fun s91 =>
 I.fin si K (.bool false) s91))))))))))]
theorem x7 (I : Prims) (a0 a1 a2 a3 : Value) (si : St) (K : Value → St → Prop) : xbody I 185 k7 Tryd.f7 c7 [a0, a1, a2, a3] si K = v7 I a0 a1 a2 a3 si K := by kernel_rfl
theorem n7 [Memo] (ro : Nat) (a0 a1 a2 a3 : Value) (si : St) (K : Value → St → Prop) : wbody P ro 185 Tryd.f7 c7 [a0, a1, a2, a3] si K = v7 (prims P ro) a0 a1 a2 a3 si K := xbody_eq 185 P ro (x7 _ a0 a1 a2 a3 si K)
theorem r7 (I : Prims) (si : St) (K : Value → St → Prop) (τ : Tau) (ds : List Deferred) (s : St) : xleave I si Tryd.f7.results.toList K .ret τ [] ds s =
 (xdefers I ds s fun s0 =>
 I.fin si K (τ 8) s0) := by kernel_rfl
/- attestor/attestorlaw30.CircuitNil -/
noncomputable def c8 : Code := bodyOf Tryd.f8
noncomputable def c8_111110100 : Code := subCode [1, 1, 1, 1, 1, 0, 1, 0, 0] c8
def k8 : List (List Nat) := []
def k8_111110100 : List (List Nat) := []
theorem l8_111110100 : ltCode 70 c8_111110100 = true := by kernel_rfl
theorem m8_111110100 : notMap c8_111110100 = true := by kernel_rfl
theorem b8 : BodyOk P 70 1 8 Tryd.f8 c8 := ⟨Tryd.func8, by kernel_rfl, by kernel_rfl, by kernel_rfl, by kernel_rfl, by kernel_rfl⟩
def v8_111110100 (I : Prims) (rnd : Option Nat) (τ : Tau) (ds : List Deferred) (s : St) (Q : Ex → WK) : Prop :=
 I.wop (.call ⟨.builtin .len, ⟨[(.const (τ 5))]⟩, #[30]⟩) 3 s fun v27_0 s0 =>
 I.wop (.binOp .lss 3 (.const (τ 7)) (.const v27_0) 3) 4 s0 fun v28_1 s1 =>
 wdec v28_1
 (I.wop (.indexAddr 30 (.const (τ 5)) (.const (τ 7))) 0 s1 fun v33_2 s2 =>
 I.wop (.load 3 (.const v33_2)) 3 s2 fun v34_3 s3 =>
 I.wop (.binOp .neq 3 (.const v34_3) (.const (.int .i64 (-1))) 3) 4 s3 fun v35_4 s4 =>
 wdec v35_4
 (Q .ret (U τ [(2, (.bool false)), (35, (.bool true)), (35, v35_4), (34, v34_3), (33, v33_2), (32, (τ 7)), (31, (τ 5)), (28, (.bool true)), (28, v28_1), (27, v27_0), (26, (τ 5)), (25, (τ 7))]) ds s4)
 (I.wop (.binOp .add 3 (.const (τ 7)) (.const (.int .i64 1)) 3) 3 s4 fun v30_5 s5 =>
 Q .normal (U τ [(7, v30_5), (30, v30_5), (29, (τ 7)), (35, (.bool false)), (35, v35_4), (34, v34_3), (33, v33_2), (32, (τ 7)), (31, (τ 5)), (28, (.bool true)), (28, v28_1), (27, v27_0), (26, (τ 5)), (25, (τ 7))]) ds s5))
 (Q (.exit 0) (U τ [(28, (.bool false)), (28, v28_1), (27, v27_0), (26, (τ 5)), (25, (τ 7))]) ds s1)
theorem x8_111110100 (I : Prims) (rnd : Option Nat) (τ : Tau) (ds : List Deferred) (s : St) (Q : Ex → WK) : xp I rnd 70 k8_111110100 c8_111110100 [] τ [] ds s (lift Q) = v8_111110100 I rnd τ ds s Q := by kernel_rfl
theorem n8_111110100 [Memo] (ro : Nat) (rnd : Option Nat) (τ : Tau) (ds : List Deferred) (s : St) (Q : Ex → WK) : wp P ro 70 rnd c8_111110100 τ ds s Q = v8_111110100 (prims P ro) rnd τ ds s Q := xp_wp rnd 70 P ro (x8_111110100 _ rnd τ ds s Q)
def v8 (I : Prims) (a0 : Value) (si : St) (K : Value → St → Prop) : Prop :=
 I.wop (.box 79 (.const a0)) 0 (ent si) fun v1_0 s0 =>
 I.wop (.fieldAddr 79 (.const v1_0) 1) 0 s0 fun v12_1 s1 =>
 I.wop (.load 30 (.const v12_1)) 30 s1 fun v13_2 s2 =>
 I.wop (.call ⟨.builtin .len, ⟨[(.const v13_2)]⟩, #[30]⟩) 3 s2 fun v14_3 s3 =>
 I.wop (.binOp .gtr 3 (.const v14_3) (.const (.int .i64 60)) 3) 4 s3 fun v15_4 s4 =>
 wdec v15_4
 (I.call 15 [] s4 fun v16_5 s5 =>
 I.fin si K v16_5 s5)
 (I.wop (.build 81 ⟨[]⟩) 81 s4 fun v17_6 s6 =>
 I.wop (.box 81 (.const v17_6)) 25 s6 fun v18_7 s7 =>
 I.wop (.load 79 (.const v1_0)) 79 s7 fun v20_8 s8 =>
 veq v20_8 v20_8 = true ∧ I.wop (.load 79 (.const v1_0)) 79 s8 fun v23_9 s9 =>
 veq v23_9 v23_9 = true ∧ I.call 35 [(.pointer none), v20_8] s9 fun v21_10 s10 =>
 Grew s9 s10 ∧ I.call 35 [v18_7, v23_9] s10 fun v24_11 s11 =>
 I.loop 70 none c8_111110100 (U undefT [(7, (.int .i64 0)), (6, v24_11), (5, v21_10), (24, v24_11), (21, v21_10), (23, v23_9), (22, v18_7), (20, v20_8), (19, (.pointer none)), (4, v18_7), (18, v18_7), (17, v17_6), (3, (.pointer none)), (15, (.bool false)), (15, v15_4), (14, v14_3), (13, v13_2), (12, v12_1), (2, (.bool false)), (1, v1_0), (0, a0)]) [] s11 (fun τ ds s => ((xleave I si Tryd.f8.results.toList K) .ret) τ [] ds s) [(0, fun τ12 ds12 s12 =>
 I.call 12 [(τ12 3)] s12 fun v38_13 s13 =>
 I.wop (.extract (.const v38_13) 0) 34 s13 fun v39_14 s14 =>
 I.wop (.extract (.const v38_13) 1) 26 s14 fun v40_15 s15 =>
 I.wop (.alloc 34) 0 s15 fun v8_16 s16 =>
 I.wop (.store 34 (.const v8_16) (.const v39_14)) 0 s16 fun _ s17 =>
 I.call 12 [(τ12 4)] s17 fun v43_18 s18 =>
 I.wop (.extract (.const v43_18) 0) 34 s18 fun v44_19 s19 =>
 I.wop (.extract (.const v43_18) 1) 26 s19 fun v45_20 s20 =>
 I.wop (.alloc 34) 0 s20 fun v10_21 s21 =>
 I.wop (.store 34 (.const v10_21) (.const v44_19)) 0 s21 fun _ s22 =>
 I.call 36 [(τ12 5), (τ12 6)] s22 fun v48_23 s23 =>
 wdec v48_23
 (I.call 23 [(τ12 3)] s23 fun v51_24 s24 =>
 I.wop (.binOp .eql 26 (.const v51_24) (.const (.int .i64 10)) 26) 4 s24 fun v52_25 s25 =>
 wdec v52_25
 (I.call 23 [(τ12 4)] s25 fun v56_26 s26 =>
 I.wop (.binOp .eql 26 (.const v56_26) (.const (.int .i64 10)) 26) 4 s26 fun v57_27 s27 =>
 wdec v57_27
 (I.wop (.binOp .eql 26 (.const v40_15) (.const (.int .i64 10)) 26) 4 s27 fun v61_28 s28 =>
 wdec v61_28
 (I.wop (.binOp .eql 26 (.const v45_20) (.const (.int .i64 10)) 26) 4 s28 fun v65_29 s29 =>
 wdec v65_29
 (I.call 15 [] s29 fun v68_30 s30 =>
 xdefers I ds12 s30 fun s31 =>
 I.fin si K v68_30 s31)
 (xdefers I ds12 s29 fun s32 =>
 I.fin si K (.bool false) s32))
 (xdefers I ds12 s28 fun s33 =>
 I.fin si K (.bool false) s33))
 (xdefers I ds12 s27 fun s34 =>
 I.fin si K (.bool false) s34))
 (xdefers I ds12 s25 fun s35 =>
 I.fin si K (.bool false) s35))
 (xdefers I ds12 s23 fun s36 =>
 I.fin si K (.bool false) s36))])
theorem x8 (I : Prims) (a0 : Value) (si : St) (K : Value → St → Prop) : xbody I 70 k8 Tryd.f8 c8 [a0] si K = v8 I a0 si K := by kernel_rfl
theorem n8 [Memo] (ro : Nat) (a0 : Value) (si : St) (K : Value → St → Prop) : wbody P ro 70 Tryd.f8 c8 [a0] si K = v8 (prims P ro) a0 si K := xbody_eq 70 P ro (x8 _ a0 si K)
theorem r8 (I : Prims) (si : St) (K : Value → St → Prop) (τ : Tau) (ds : List Deferred) (s : St) : xleave I si Tryd.f8.results.toList K .ret τ [] ds s =
 (xdefers I ds s fun s0 =>
 I.fin si K (τ 2) s0) := by kernel_rfl
/- (*attestor/circuit.Builder).Canonical -/
noncomputable def c10 : Code := bodyOf Tryd.f10
noncomputable def c10_11 : Code := subCode [1, 1] c10
def k10 : List (List Nat) := [[1, 1]]
theorem b10 : BodyOk P 84 2 10 Tryd.f10 c10 := ⟨Tryd.func10, by kernel_rfl, by kernel_rfl, by kernel_rfl, by kernel_rfl, by kernel_rfl⟩
def v10_11 (I : Prims) (τ : Tau) (ds : List Deferred) (s : St) (Q : Ex → XK) : Prop :=
 I.wop (.load 25 (.const (τ 2))) 25 s fun v31_0 s0 =>
 I.call 40 [v31_0] s0 fun v32_1 s1 =>
 (none : Option Nat) = none ∧ I.wdefer (.defer ⟨.value (.const v32_1), ⟨[]⟩, #[]⟩) 0 s1 fun d2 s2 =>
 I.wop (.load 25 (.const (τ 2))) 25 s2 fun v34_3 s3 =>
 veq v34_3 v34_3 = true ∧ I.wop (.indexAddr 30 (.const (τ 1)) (.const (.int .i64 26))) 0 s3 fun v37_4 s4 =>
 I.wop (.load 3 (.const v37_4)) 3 s4 fun v38_5 s5 =>
 veq v38_5 v38_5 = true ∧ I.wop (.slice 30 (.const (τ 1)) (some (.const (.int .i64 27))) none none) 30 s5 fun v40_6 s6 =>
 xcallv I (.func (.func 41) (.mk []) (.mk [(τ 2)])) [v38_5, v40_6] s6 fun v41_7 s7 =>
 Grew s6 s7 ∧ I.call 42 [v34_3, v41_7] s7 fun v42_8 s8 =>
 I.wop (.load 25 (.const (τ 2))) 25 s8 fun v43_9 s9 =>
 veq v43_9 v43_9 = true ∧ I.wop (.indexAddr 30 (.const (τ 1)) (.const (.int .i64 26))) 0 s9 fun v45_10 s10 =>
 I.wop (.load 3 (.const v45_10)) 3 s10 fun v46_11 s11 =>
 veq v46_11 v46_11 = true ∧ I.wop (.indexAddr 30 (.const (τ 1)) (.const (.int .i64 26))) 0 s11 fun v48_12 s12 =>
 I.wop (.load 3 (.const v48_12)) 3 s12 fun v49_13 s13 =>
 veq v49_13 v49_13 = true ∧ I.wop (.load 25 (.const (τ 2))) 25 s13 fun v50_14 s14 =>
 veq v50_14 v50_14 = true ∧ I.call 44 [v50_14] s14 fun v51_15 s15 =>
 Grew s14 s15 ∧ I.call 43 [v43_9, v46_11, v49_13, v51_15, (.int .u64 0), (.int .u64 1)] s15 fun v52_16 s16 =>
 I.wop (.indexAddr 30 (.const (τ 1)) (.const (.int .i64 23))) 0 s16 fun v55_17 s17 =>
 I.wop (.load 3 (.const v55_17)) 3 s17 fun v56_18 s18 =>
 veq v56_18 v56_18 = true ∧ I.wop (.indexAddr 30 (.const (τ 1)) (.const (.int .i64 24))) 0 s18 fun v58_19 s19 =>
 I.wop (.load 3 (.const v58_19)) 3 s19 fun v59_20 s20 =>
 veq v59_20 v59_20 = true ∧ I.wop (.indexAddr 30 (.const (τ 1)) (.const (.int .i64 25))) 0 s20 fun v61_21 s21 =>
 I.wop (.load 3 (.const v61_21)) 3 s21 fun v62_22 s22 =>
 veq v62_22 v62_22 = true ∧ I.wop (.indexAddr 30 (.const (τ 1)) (.const (.int .i64 27))) 0 s22 fun v65_23 s23 =>
 I.wop (.load 3 (.const v65_23)) 3 s23 fun v66_24 s24 =>
 veq v66_24 v66_24 = true ∧ I.wop (.indexAddr 30 (.const (τ 1)) (.const (.int .i64 28))) 0 s24 fun v68_25 s25 =>
 I.wop (.load 3 (.const v68_25)) 3 s25 fun v69_26 s26 =>
 veq v69_26 v69_26 = true ∧ I.wop (.indexAddr 30 (.const (τ 1)) (.const (.int .i64 29))) 0 s26 fun v71_27 s27 =>
 I.wop (.load 3 (.const v71_27)) 3 s27 fun v72_28 s28 =>
 veq v72_28 v72_28 = true ∧ I.wop (.buildSlice 30 6 ⟨[(0, (.const v59_20)), (1, (.const v62_22)), (2, (.const v52_16)), (3, (.const v66_24)), (4, (.const v69_26)), (5, (.const v72_28))]⟩) 30 s28 fun v73_29 s29 =>
 FreshOk s28 s29 ∧ xcallv I (.func (.func 41) (.mk []) (.mk [(τ 2)])) [v56_18, v73_29] s29 fun v74_30 s30 =>
 s29.n ≤ s30.n ∧ I.wop (.load 25 (.const (τ 2))) 25 s30 fun v75_31 s31 =>
 veq v75_31 v75_31 = true ∧ I.wop (.load 25 (.const (τ 2))) 25 s31 fun v76_32 s32 =>
 veq v76_32 v76_32 = true ∧ I.wop (.load 25 (.const (τ 2))) 25 s32 fun v78_33 s33 =>
 veq v78_33 v78_33 = true ∧ I.wop (.slice 30 (.const (τ 1)) none (some (.const (.int .i64 23))) none) 30 s33 fun v80_34 s34 =>
 I.call 30 [v78_33, v80_34] s34 fun v81_35 s35 =>
 Grew s34 s35 ∧ I.call 21 [v76_32, v74_30, v81_35] s35 fun v82_36 s36 =>
 Grew s35 s36 ∧ I.call 42 [v75_31, v82_36] s36 fun v83_37 s37 =>
 Q .normal τ [(83, v83_37), (82, v82_36), (81, v81_35), (80, v80_34), (79, (τ 1)), (78, v78_33), (77, v74_30), (76, v76_32), (75, v75_31), (6, v74_30), (74, v74_30), (73, v73_29), (72, v72_28), (71, v71_27), (70, (τ 1)), (69, v69_26), (68, v68_25), (67, (τ 1)), (66, v66_24), (65, v65_23), (64, (τ 1)), (63, v52_16), (62, v62_22), (61, v61_21), (60, (τ 1)), (59, v59_20), (58, v58_19), (57, (τ 1)), (56, v56_18), (55, v55_17), (54, (τ 1)), (53, (.func (.func 41) (.mk []) (.mk [(τ 2)]))), (5, v52_16), (52, v52_16), (51, v51_15), (50, v50_14), (49, v49_13), (48, v48_12), (47, (τ 1)), (46, v46_11), (45, v45_10), (44, (τ 1)), (43, v43_9), (42, v42_8), (41, v41_7), (40, v40_6), (39, (τ 1)), (38, v38_5), (37, v37_4), (36, (τ 1)), (35, (.func (.func 41) (.mk []) (.mk [(τ 2)]))), (34, v34_3), (4, (.func (.func 41) (.mk []) (.mk [(τ 2)]))), (33, (.func (.func 41) (.mk []) (.mk [(τ 2)]))), (32, v32_1), (31, v31_0)] (d2 :: ds) s37
theorem n10_11 (I : Prims) (τ : Tau) (ds : List Deferred) (s : St) (Q : Ex → XK) : xp I none 84 k10 c10_11 [1, 1] τ [] ds s Q = v10_11 I τ ds s Q := by kernel_rfl
def v10 (I : Prims) (a0 a1 : Value) (si : St) (K : Value → St → Prop) : Prop :=
 I.wop (.box 25 (.const a0)) 0 (ent si) fun v2_0 s0 =>
 I.wop (.load 25 (.const v2_0)) 25 s0 fun v7_1 s1 =>
 veq v7_1 v7_1 = true ∧ I.wop (.load 25 (.const v2_0)) 25 s1 fun v8_2 s2 =>
 veq v8_2 v8_2 = true ∧ I.call 23 [v8_2] s2 fun v9_3 s3 =>
 Grew s2 s3 ∧ I.wop (.binOp .eql 26 (.const v9_3) (.const (.int .i64 0)) 26) 4 s3 fun v10_4 s4 =>
 wdec v10_4
 (I.wop (.load 25 (.const v2_0)) 25 s4 fun v12_5 s5 =>
 veq v12_5 v12_5 = true ∧ I.wop (.nilCheck (.const v12_5)) 0 s5 fun v13_6 s6 =>
 I.wop (.fieldAddr 81 (.const v13_6) 1) 0 s6 fun v14_7 s7 =>
 I.wop (.fieldAddr 34 (.const v14_7) 0) 0 s7 fun v15_8 s8 =>
 I.wop (.load 3 (.const v15_8)) 3 s8 fun v16_9 s9 =>
 veq v16_9 v16_9 = true ∧ I.wop (.binOp .eql 3 (.const v16_9) (.const (.int .i64 3)) 3) 4 s9 fun v17_10 s10 =>
 wdec v17_10
 (I.wop (.call ⟨.builtin .len, ⟨[(.const a1)]⟩, #[30]⟩) 3 s10 fun v21_11 s11 =>
 I.wop (.binOp .eql 3 (.const v21_11) (.const (.int .i64 30)) 3) 4 s11 fun v22_12 s12 =>
 wdec v22_12
 (I.wop (.load 25 (.const v2_0)) 25 s12 fun v25_13 s13 =>
 veq v25_13 v25_13 = true ∧ I.call 39 [v25_13, a1] s13 fun v27_14 s14 =>
 Grew s13 s14 ∧ I.call 38 [v7_1, v27_14, (.slice none 0 0)] s14 fun v29_15 s15 =>
 I.wop (.unOp .not 4 (.const v29_15)) 4 s15 fun v30_16 s16 =>
 wdec v30_16
 (I.fin si K (.tuple (.mk [])) s16)
 (I.hold (xp I none 84 k10 c10_11 [1, 1] (U undefT [(30, (.bool false)), (30, v30_16), (29, v29_15), (28, v27_14), (24, (.bool true)), (27, v27_14), (24, (.bool true)), (26, a1), (24, (.bool true)), (25, v25_13), (24, (.bool true)), (24, v22_12), (23, v22_12), (19, (.bool true)), (22, v22_12), (19, (.bool true)), (21, v21_11), (19, (.bool true)), (20, a1), (19, (.bool true)), (19, v17_10), (18, v17_10), (11, (.bool true)), (17, v17_10), (11, (.bool true)), (16, v16_9), (11, (.bool true)), (15, v15_8), (11, (.bool true)), (14, v14_7), (11, (.bool true)), (13, v13_6), (11, (.bool true)), (12, v12_5), (11, (.bool true)), (11, v10_4), (10, v10_4), (9, v9_3), (8, v8_2), (7, v7_1), (2, v2_0), (0, a0), (1, a1)]) [] [] s16 (xleave I si Tryd.f10.results.toList K))))
 (I.call 38 [v7_1, (.bool false), (.slice none 0 0)] s12 fun v29_17 s17 =>
 I.wop (.unOp .not 4 (.const v29_17)) 4 s17 fun v30_18 s18 =>
 wdec v30_18
 (I.fin si K (.tuple (.mk [])) s18)
 (I.hold (xp I none 84 k10 c10_11 [1, 1] (U undefT [(30, (.bool false)), (30, v30_18), (29, v29_17), (28, (.bool false)), (24, (.bool false)), (27, undef), (24, (.bool false)), (26, undef), (24, (.bool false)), (25, undef), (24, (.bool false)), (24, v22_12), (23, v22_12), (19, (.bool true)), (22, v22_12), (19, (.bool true)), (21, v21_11), (19, (.bool true)), (20, a1), (19, (.bool true)), (19, v17_10), (18, v17_10), (11, (.bool true)), (17, v17_10), (11, (.bool true)), (16, v16_9), (11, (.bool true)), (15, v15_8), (11, (.bool true)), (14, v14_7), (11, (.bool true)), (13, v13_6), (11, (.bool true)), (12, v12_5), (11, (.bool true)), (11, v10_4), (10, v10_4), (9, v9_3), (8, v8_2), (7, v7_1), (2, v2_0), (0, a0), (1, a1)]) [] [] s18 (xleave I si Tryd.f10.results.toList K)))))
 (I.call 38 [v7_1, (.bool false), (.slice none 0 0)] s10 fun v29_19 s19 =>
 I.wop (.unOp .not 4 (.const v29_19)) 4 s19 fun v30_20 s20 =>
 wdec v30_20
 (I.fin si K (.tuple (.mk [])) s20)
 (I.hold (xp I none 84 k10 c10_11 [1, 1] (U undefT [(30, (.bool false)), (30, v30_20), (29, v29_19), (28, (.bool false)), (24, (.bool false)), (27, undef), (24, (.bool false)), (26, undef), (24, (.bool false)), (25, undef), (24, (.bool false)), (24, (.bool false)), (23, (.bool false)), (19, (.bool false)), (22, undef), (19, (.bool false)), (21, undef), (19, (.bool false)), (20, undef), (19, (.bool false)), (19, v17_10), (18, v17_10), (11, (.bool true)), (17, v17_10), (11, (.bool true)), (16, v16_9), (11, (.bool true)), (15, v15_8), (11, (.bool true)), (14, v14_7), (11, (.bool true)), (13, v13_6), (11, (.bool true)), (12, v12_5), (11, (.bool true)), (11, v10_4), (10, v10_4), (9, v9_3), (8, v8_2), (7, v7_1), (2, v2_0), (0, a0), (1, a1)]) [] [] s20 (xleave I si Tryd.f10.results.toList K)))))
 (I.call 38 [v7_1, (.bool false), (.slice none 0 0)] s4 fun v29_21 s21 =>
 I.wop (.unOp .not 4 (.const v29_21)) 4 s21 fun v30_22 s22 =>
 wdec v30_22
 (I.fin si K (.tuple (.mk [])) s22)
 (I.hold (xp I none 84 k10 c10_11 [1, 1] (U undefT [(30, (.bool false)), (30, v30_22), (29, v29_21), (28, (.bool false)), (24, (.bool false)), (27, undef), (24, (.bool false)), (26, undef), (24, (.bool false)), (25, undef), (24, (.bool false)), (24, (.bool false)), (23, (.bool false)), (19, (.bool false)), (22, undef), (19, (.bool false)), (21, undef), (19, (.bool false)), (20, undef), (19, (.bool false)), (19, (.bool false)), (18, (.bool false)), (11, (.bool false)), (17, undef), (11, (.bool false)), (16, undef), (11, (.bool false)), (15, undef), (11, (.bool false)), (14, undef), (11, (.bool false)), (13, undef), (11, (.bool false)), (12, undef), (11, (.bool false)), (11, v10_4), (10, v10_4), (9, v9_3), (8, v8_2), (7, v7_1), (2, v2_0), (0, a0), (1, a1)]) [] [] s22 (xleave I si Tryd.f10.results.toList K))))
theorem x10 (I : Prims) (a0 a1 : Value) (si : St) (K : Value → St → Prop) : xbody I 84 k10 Tryd.f10 c10 [a0, a1] si K = v10 I a0 a1 si K := by kernel_rfl
theorem n10 [Memo] (ro : Nat) (a0 a1 : Value) (si : St) (K : Value → St → Prop) : wbody P ro 84 Tryd.f10 c10 [a0, a1] si K = v10 (prims P ro) a0 a1 si K := xbody_eq 84 P ro (x10 _ a0 a1 si K)
theorem r10 (I : Prims) (si : St) (K : Value → St → Prop) (τ : Tau) (ds : List Deferred) (s : St) : xleave I si Tryd.f10.results.toList K .ret τ [] ds s =
 (xdefers I ds s fun s0 =>
 I.fin si K (.tuple (.mk [])) s0) := by kernel_rfl
/- (*attestor/circuit.Builder).Gates -/
noncomputable def c12 : Code := bodyOf Tryd.f12
def k12 : List (List Nat) := []
theorem b12 : BodyOk P 21 1 12 Tryd.f12 c12 := ⟨Tryd.func12, by kernel_rfl, by kernel_rfl, by kernel_rfl, by kernel_rfl, by kernel_rfl⟩
def v12 (I : Prims) (a0 : Value) (si : St) (K : Value → St → Prop) : Prop :=
 I.wop (.alloc 34) 0 (ent si) fun v2_0 s0 =>
 I.call 23 [a0] s0 fun v7_1 s1 =>
 I.wop (.binOp .neq 26 (.const v7_1) (.const (.int .i64 0)) 26) 4 s1 fun v9_2 s2 =>
 wdec v9_2
 (I.wop (.build 34 ⟨[]⟩) 34 s2 fun v10_3 s3 =>
 I.wop (.store 34 (.const v2_0) (.const v10_3)) 0 s3 fun _ s4 =>
 I.wop (.load 34 (.const v2_0)) 34 s4 fun v2_5 _ =>
 I.fin si K (.tuple (.mk [v2_5, v7_1])) s4)
 (I.wop (.nilCheck (.const a0)) 0 s2 fun v13_6 s6 =>
 I.wop (.fieldAddr 81 (.const v13_6) 1) 0 s6 fun v14_7 s7 =>
 I.wop (.load 34 (.const v14_7)) 34 s7 fun v15_8 s8 =>
 I.wop (.alloc 34) 0 s8 fun v5_9 s9 =>
 I.wop (.store 34 (.const v5_9) (.const v15_8)) 0 s9 fun _ s10 =>
 I.wop (.fieldAddr 34 (.const v5_9) 4) 0 s10 fun v16_11 s11 =>
 I.wop (.load 32 (.const v16_11)) 32 s11 fun v17_12 s12 =>
 I.call 45 [v17_12] s12 fun v18_13 s13 =>
 I.wop (.fieldAddr 34 (.const v5_9) 4) 0 s13 fun v19_14 s14 =>
 I.wop (.store 32 (.const v19_14) (.const v18_13)) 0 s14 fun _ s15 =>
 I.wop (.load 34 (.const v5_9)) 34 s15 fun v20_16 s16 =>
 I.wop (.store 34 (.const v2_0) (.const v20_16)) 0 s16 fun _ s17 =>
 I.wop (.load 34 (.const v2_0)) 34 s17 fun v2_18 _ =>
 I.fin si K (.tuple (.mk [v2_18, (.int .i64 0)])) s17)
theorem x12 (I : Prims) (a0 : Value) (si : St) (K : Value → St → Prop) : xbody I 21 k12 Tryd.f12 c12 [a0] si K = v12 I a0 si K := by kernel_rfl
theorem n12 [Memo] (ro : Nat) (a0 : Value) (si : St) (K : Value → St → Prop) : wbody P ro 21 Tryd.f12 c12 [a0] si K = v12 (prims P ro) a0 si K := xbody_eq 21 P ro (x12 _ a0 si K)
theorem r12 (I : Prims) (si : St) (K : Value → St → Prop) (τ : Tau) (ds : List Deferred) (s : St) : xleave I si Tryd.f12.results.toList K .ret τ [] ds s =
 (xdefers I ds s fun s0 =>
 I.wop (.load 34 (.const (τ 2))) 34 s0 fun v2_1 _ =>
 I.fin si K (.tuple (.mk [v2_1, (τ 3)])) s0) := by kernel_rfl
/- attestor/attestorref01.P -/
noncomputable def c14 : Code := bodyOf Tryd.f14
def k14 : List (List Nat) := []
theorem b14 : BodyOk P 12 1 14 Tryd.f14 c14 := ⟨Tryd.func14, by kernel_rfl, by kernel_rfl, by kernel_rfl, by kernel_rfl, by kernel_rfl⟩
def v14 (I : Prims) (a0 : Value) (si : St) (K : Value → St → Prop) : Prop :=
 I.wop (.binOp .eql 3 (.const a0) (.const (.int .i64 0)) 3) 4 (ent si) fun v5_0 s0 =>
 wdec v5_0
 (I.fin si K (.int .u64 97) s0)
 (I.wop (.binOp .eql 3 (.const a0) (.const (.int .i64 1)) 3) 4 s0 fun v7_1 s1 =>
 wdec v7_1
 (I.fin si K (.int .u64 257) s1)
 (I.wop (.binOp .eql 3 (.const a0) (.const (.int .i64 2)) 3) 4 s1 fun v9_2 s2 =>
 wdec v9_2
 (I.fin si K (.int .u64 12289) s2)
 (I.wop (.binOp .eql 3 (.const a0) (.const (.int .i64 3)) 3) 4 s2 fun v11_3 s3 =>
 wdec v11_3
 (I.fin si K (.int .u64 998244353) s3)
 (I.fin si K (.int .u64 0) s3))))
theorem x14 (I : Prims) (a0 : Value) (si : St) (K : Value → St → Prop) : xbody I 12 k14 Tryd.f14 c14 [a0] si K = v14 I a0 si K := by kernel_rfl
theorem n14 [Memo] (ro : Nat) (a0 : Value) (si : St) (K : Value → St → Prop) : wbody P ro 12 Tryd.f14 c14 [a0] si K = v14 (prims P ro) a0 si K := xbody_eq 12 P ro (x14 _ a0 si K)
theorem r14 (I : Prims) (si : St) (K : Value → St → Prop) (τ : Tau) (ds : List Deferred) (s : St) : xleave I si Tryd.f14.results.toList K .ret τ [] ds s =
 (xdefers I ds s fun s0 =>
 I.fin si K (τ 2) s0) := by kernel_rfl
/- attestor/attestorref01.Valid -/
noncomputable def c16 : Code := bodyOf Tryd.f16
def k16 : List (List Nat) := []
theorem b16 : BodyOk P 9 1 16 Tryd.f16 c16 := ⟨Tryd.func16, by kernel_rfl, by kernel_rfl, by kernel_rfl, by kernel_rfl, by kernel_rfl⟩
def v16 (I : Prims) (a0 : Value) (si : St) (K : Value → St → Prop) : Prop :=
 I.wop (.binOp .geq 3 (.const a0) (.const (.int .i64 0)) 3) 4 (ent si) fun v4_0 s0 =>
 wdec v4_0
 (I.wop (.binOp .leq 3 (.const a0) (.const (.int .i64 3)) 3) 4 s0 fun v7_1 s1 =>
 I.fin si K v7_1 s1)
 (I.fin si K (.bool false) s0)
theorem x16 (I : Prims) (a0 : Value) (si : St) (K : Value → St → Prop) : xbody I 9 k16 Tryd.f16 c16 [a0] si K = v16 I a0 si K := by kernel_rfl
theorem n16 [Memo] (ro : Nat) (a0 : Value) (si : St) (K : Value → St → Prop) : wbody P ro 9 Tryd.f16 c16 [a0] si K = v16 (prims P ro) a0 si K := xbody_eq 9 P ro (x16 _ a0 si K)
theorem r16 (I : Prims) (si : St) (K : Value → St → Prop) (τ : Tau) (ds : List Deferred) (s : St) : xleave I si Tryd.f16.results.toList K .ret τ [] ds s =
 (xdefers I ds s fun s0 =>
 I.fin si K (τ 2) s0) := by kernel_rfl
/- (*attestor/circuit.Builder).Climb -/
noncomputable def c17 : Code := bodyOf Tryd.f17
noncomputable def c17_11 : Code := subCode [1, 1] c17
noncomputable def c17_11110100 : Code := subCode [1, 1, 1, 1, 0, 1, 0, 0] c17
def k17 : List (List Nat) := [[1, 1]]
def k17_11110100 : List (List Nat) := []
theorem l17_11110100 : ltCode 101 c17_11110100 = true := by kernel_rfl
theorem m17_11110100 : notMap c17_11110100 = true := by kernel_rfl
theorem b17 : BodyOk P 101 4 17 Tryd.f17 c17 := ⟨Tryd.func17, by kernel_rfl, by kernel_rfl, by kernel_rfl, by kernel_rfl, by kernel_rfl⟩
def v17_11 (I : Prims) (τ : Tau) (ds : List Deferred) (s : St) (Q : Ex → XK) : Prop :=
 I.call 40 [(τ 0)] s fun v39_0 s0 =>
 (none : Option Nat) = none ∧ I.wdefer (.defer ⟨.value (.const v39_0), ⟨[]⟩, #[]⟩) 0 s0 fun d1 s1 =>
 I.wop (.load 47 (.const (τ 6))) 47 s1 fun v40_2 s2 =>
 I.wop (.alloc 47) 0 s2 fun v9_3 s3 =>
 I.wop (.store 47 (.const v9_3) (.const v40_2)) 0 s3 fun _ s4 =>
 I.wop (.call ⟨.builtin .len, ⟨[(.const (τ 3))]⟩, #[46]⟩) 3 s4 fun v42_5 s5 =>
 I.loop 101 none c17_11110100 (U τ [(43, (.int .i64 0)), (42, v42_5), (41, (τ 3)), (9, v9_3), (40, v40_2), (39, v39_0), (38, (τ 0))]) (d1 :: ds) s5 (fun τ ds s => (Q .ret) τ [] ds s) [(0, fun τ6 ds6 s6 =>
 I.wop (.indexAddr 47 (.const (τ6 9)) (.const (.int .i64 0))) 0 s6 fun v96_7 s7 =>
 I.wop (.load 3 (.const v96_7)) 3 s7 fun v97_8 s8 =>
 I.wop (.indexAddr 47 (.const (τ6 9)) (.const (.int .i64 1))) 0 s8 fun v98_9 s9 =>
 I.wop (.load 3 (.const v98_9)) 3 s9 fun v99_10 s10 =>
 I.call 57 [(τ6 0), v97_8, v99_10] s10 fun v100_11 s11 =>
 I.wop (.store 47 (.const (τ6 8)) (.const v100_11)) 0 s11 fun _ s12 =>
 Q .ret τ6 [(100, v100_11), (99, v99_10), (98, v98_9), (97, v97_8), (96, v96_7), (95, (τ6 0))] ds6 s12)]
theorem n17_11 (I : Prims) (τ : Tau) (ds : List Deferred) (s : St) (Q : Ex → XK) : xp I none 101 k17 c17_11 [1, 1] τ [] ds s Q = v17_11 I τ ds s Q := by kernel_rfl
def v17_11110100 (I : Prims) (rnd : Option Nat) (τ : Tau) (ds : List Deferred) (s : St) (Q : Ex → WK) : Prop :=
 I.wop (.binOp .lss 3 (.const (τ 43)) (.const (τ 42)) 3) 0 s fun v44_0 s0 =>
 wdec v44_0
 (I.wop (.indexAddr 46 (.const (τ 41)) (.const (τ 43))) 0 s0 fun v46_1 s1 =>
 I.wop (.load 47 (.const v46_1)) 47 s1 fun v47_2 s2 =>
 I.wop (.alloc 47) 0 s2 fun v11_3 s3 =>
 I.wop (.store 47 (.const v11_3) (.const v47_2)) 0 s3 fun _ s4 =>
 I.wop (.indexAddr 30 (.const (τ 1)) (.const (τ 43))) 0 s4 fun v51_5 s5 =>
 I.wop (.load 3 (.const v51_5)) 3 s5 fun v52_6 s6 =>
 veq v52_6 v52_6 = true ∧ I.wop (.indexAddr 47 (.const (τ 9)) (.const (.int .i64 0))) 0 s6 fun v53_7 s7 =>
 I.wop (.load 3 (.const v53_7)) 3 s7 fun v54_8 s8 =>
 veq v54_8 v54_8 = true ∧ I.wop (.indexAddr 47 (.const v11_3) (.const (.int .i64 0))) 0 s8 fun v55_9 s9 =>
 I.wop (.load 3 (.const v55_9)) 3 s9 fun v56_10 s10 =>
 veq v56_10 v56_10 = true ∧ I.wop (.indexAddr 30 (.const (τ 1)) (.const (τ 43))) 0 s10 fun v61_11 s11 =>
 I.wop (.load 3 (.const v61_11)) 3 s11 fun v62_12 s12 =>
 veq v62_12 v62_12 = true ∧ I.wop (.indexAddr 47 (.const (τ 9)) (.const (.int .i64 1))) 0 s12 fun v63_13 s13 =>
 I.wop (.load 3 (.const v63_13)) 3 s13 fun v64_14 s14 =>
 veq v64_14 v64_14 = true ∧ I.wop (.indexAddr 47 (.const v11_3) (.const (.int .i64 1))) 0 s14 fun v65_15 s15 =>
 I.wop (.load 3 (.const v65_15)) 3 s15 fun v66_16 s16 =>
 veq v66_16 v66_16 = true ∧ I.wop (.alloc 47) 0 s16 fun v12_17 s17 =>
 FreshOk s16 s17 ∧ I.call 55 [(τ 0), v52_6, v54_8, v56_10] s17 fun v57_18 s18 =>
 Grew s17 s18 ∧ I.call 55 [(τ 0), v62_12, v64_14, v66_16] s18 fun v67_19 s19 =>
 Grew s18 s19 ∧ I.wop (.build 47 ⟨[(0, (.const v57_18)), (1, (.const v67_19))]⟩) 47 s19 fun v68_20 s20 =>
 I.wop (.store 47 (.const v12_17) (.const v68_20)) 0 s20 fun _ s21 =>
 s20.n ≤ s21.n ∧ I.wop (.indexAddr 30 (.const (τ 1)) (.const (τ 43))) 0 s21 fun v72_22 s22 =>
 I.wop (.load 3 (.const v72_22)) 3 s22 fun v73_23 s23 =>
 veq v73_23 v73_23 = true ∧ I.wop (.indexAddr 47 (.const v11_3) (.const (.int .i64 0))) 0 s23 fun v74_24 s24 =>
 I.wop (.load 3 (.const v74_24)) 3 s24 fun v75_25 s25 =>
 veq v75_25 v75_25 = true ∧ I.wop (.indexAddr 47 (.const (τ 9)) (.const (.int .i64 0))) 0 s25 fun v76_26 s26 =>
 I.wop (.load 3 (.const v76_26)) 3 s26 fun v77_27 s27 =>
 veq v77_27 v77_27 = true ∧ I.wop (.indexAddr 30 (.const (τ 1)) (.const (τ 43))) 0 s27 fun v82_28 s28 =>
 I.wop (.load 3 (.const v82_28)) 3 s28 fun v83_29 s29 =>
 veq v83_29 v83_29 = true ∧ I.wop (.indexAddr 47 (.const v11_3) (.const (.int .i64 1))) 0 s29 fun v84_30 s30 =>
 I.wop (.load 3 (.const v84_30)) 3 s30 fun v85_31 s31 =>
 veq v85_31 v85_31 = true ∧ I.wop (.indexAddr 47 (.const (τ 9)) (.const (.int .i64 1))) 0 s31 fun v86_32 s32 =>
 I.wop (.load 3 (.const v86_32)) 3 s32 fun v87_33 s33 =>
 veq v87_33 v87_33 = true ∧ I.wop (.alloc 47) 0 s33 fun v13_34 s34 =>
 FreshOk s33 s34 ∧ I.call 55 [(τ 0), v73_23, v75_25, v77_27] s34 fun v78_35 s35 =>
 Grew s34 s35 ∧ I.call 55 [(τ 0), v83_29, v85_31, v87_33] s35 fun v88_36 s36 =>
 Grew s35 s36 ∧ I.wop (.build 47 ⟨[(0, (.const v78_35)), (1, (.const v88_36))]⟩) 47 s36 fun v89_37 s37 =>
 I.wop (.store 47 (.const v13_34) (.const v89_37)) 0 s37 fun _ s38 =>
 s37.n ≤ s38.n ∧ I.wop (.load 47 (.const v12_17)) 47 s38 fun v91_39 s39 =>
 I.wop (.load 47 (.const v13_34)) 47 s39 fun v92_40 s40 =>
 I.call 56 [(τ 0), v91_39, v92_40] s40 fun v93_41 s41 =>
 I.wop (.store 47 (.const (τ 9)) (.const v93_41)) 0 s41 fun _ s42 =>
 I.wop (.binOp .add 3 (.const (τ 43)) (.const (.int .i64 1)) 3) 3 s42 fun v94_43 s43 =>
 Q .normal (U τ [(43, v94_43), (94, v94_43), (93, v93_41), (92, v92_40), (91, v91_39), (90, (τ 0)), (89, v89_37), (88, v88_36), (78, v78_35), (13, v13_34), (87, v87_33), (86, v86_32), (85, v85_31), (84, v84_30), (83, v83_29), (82, v82_28), (81, (τ 43)), (80, (τ 1)), (79, (τ 0)), (77, v77_27), (76, v76_26), (75, v75_25), (74, v74_24), (73, v73_23), (72, v72_22), (71, (τ 43)), (70, (τ 1)), (69, (τ 0)), (68, v68_20), (67, v67_19), (57, v57_18), (12, v12_17), (66, v66_16), (65, v65_15), (64, v64_14), (63, v63_13), (62, v62_12), (61, v61_11), (60, (τ 43)), (59, (τ 1)), (58, (τ 0)), (56, v56_10), (55, v55_9), (54, v54_8), (53, v53_7), (52, v52_6), (51, v51_5), (50, (τ 43)), (49, (τ 1)), (48, (τ 0)), (10, (τ 43)), (11, v11_3), (47, v47_2), (46, v46_1), (45, (τ 43)), (44, (.bool true)), (44, v44_0)]) ds s43)
 (Q (.exit 0) (U τ [(44, (.bool false)), (44, v44_0)]) ds s0)
theorem x17_11110100 (I : Prims) (rnd : Option Nat) (τ : Tau) (ds : List Deferred) (s : St) (Q : Ex → WK) : xp I rnd 101 k17_11110100 c17_11110100 [] τ [] ds s (lift Q) = v17_11110100 I rnd τ ds s Q := by kernel_rfl
theorem n17_11110100 [Memo] (ro : Nat) (rnd : Option Nat) (τ : Tau) (ds : List Deferred) (s : St) (Q : Ex → WK) : wp P ro 101 rnd c17_11110100 τ ds s Q = v17_11110100 (prims P ro) rnd τ ds s Q := xp_wp rnd 101 P ro (x17_11110100 _ rnd τ ds s Q)
def v17 (I : Prims) (a0 a1 a2 a3 : Value) (si : St) (K : Value → St → Prop) : Prop :=
 I.wop (.box 47 (.const a2)) 0 (ent si) fun v6_0 s0 =>
 I.wop (.alloc 47) 0 s0 fun v8_1 s1 =>
 I.call 39 [a0, a1] s1 fun v17_2 s2 =>
 wdec v17_2
 (I.wop (.slice 47 (.const v6_0) none none none) 30 s2 fun v20_3 s3 =>
 I.call 39 [a0, v20_3] s3 fun v21_4 s4 =>
 wdec v21_4
 (I.call 54 [a0, a3] s4 fun v26_5 s5 =>
 wdec v26_5
 (I.wop (.call ⟨.builtin .len, ⟨[(.const a1)]⟩, #[30]⟩) 3 s5 fun v30_6 s6 =>
 I.wop (.call ⟨.builtin .len, ⟨[(.const a3)]⟩, #[46]⟩) 3 s6 fun v32_7 s7 =>
 I.wop (.binOp .geq 3 (.const v30_6) (.const v32_7) 3) 4 s7 fun v33_8 s8 =>
 I.call 38 [a0, v33_8, (.slice none 0 0)] s8 fun v35_9 s9 =>
 I.wop (.unOp .not 4 (.const v35_9)) 4 s9 fun v36_10 s10 =>
 wdec v36_10
 (I.wop (.build 47 ⟨[(0, (.const (.int .i64 (-1)))), (1, (.const (.int .i64 (-1))))]⟩) 47 s10 fun v37_11 s11 =>
 I.wop (.store 47 (.const v8_1) (.const v37_11)) 0 s11 fun _ s12 =>
 I.wop (.load 47 (.const v8_1)) 47 s12 fun v8_13 _ =>
 I.fin si K v8_13 s12)
 (I.hold (xp I none 101 k17 c17_11 [1, 1] (U undefT [(36, (.bool false)), (36, v36_10), (35, v35_9), (34, v33_8), (28, (.bool true)), (33, v33_8), (28, (.bool true)), (32, v32_7), (28, (.bool true)), (31, a3), (28, (.bool true)), (30, v30_6), (28, (.bool true)), (29, a1), (28, (.bool true)), (28, v26_5), (27, v26_5), (23, (.bool true)), (26, v26_5), (23, (.bool true)), (25, a3), (23, (.bool true)), (24, a0), (23, (.bool true)), (23, v21_4), (22, v21_4), (18, (.bool true)), (21, v21_4), (18, (.bool true)), (20, v20_3), (18, (.bool true)), (19, a0), (18, (.bool true)), (18, v17_2), (17, v17_2), (16, a1), (15, a0), (14, a0), (8, v8_1), (6, v6_0), (0, a0), (1, a1), (2, a2), (3, a3)]) [] [] s10 (xleave I si Tryd.f17.results.toList K))))
 (I.call 38 [a0, (.bool false), (.slice none 0 0)] s5 fun v35_14 s14 =>
 I.wop (.unOp .not 4 (.const v35_14)) 4 s14 fun v36_15 s15 =>
 wdec v36_15
 (I.wop (.build 47 ⟨[(0, (.const (.int .i64 (-1)))), (1, (.const (.int .i64 (-1))))]⟩) 47 s15 fun v37_16 s16 =>
 I.wop (.store 47 (.const v8_1) (.const v37_16)) 0 s16 fun _ s17 =>
 I.wop (.load 47 (.const v8_1)) 47 s17 fun v8_18 _ =>
 I.fin si K v8_18 s17)
 (I.hold (xp I none 101 k17 c17_11 [1, 1] (U undefT [(36, (.bool false)), (36, v36_15), (35, v35_14), (34, (.bool false)), (28, (.bool false)), (33, undef), (28, (.bool false)), (32, undef), (28, (.bool false)), (31, undef), (28, (.bool false)), (30, undef), (28, (.bool false)), (29, undef), (28, (.bool false)), (28, v26_5), (27, v26_5), (23, (.bool true)), (26, v26_5), (23, (.bool true)), (25, a3), (23, (.bool true)), (24, a0), (23, (.bool true)), (23, v21_4), (22, v21_4), (18, (.bool true)), (21, v21_4), (18, (.bool true)), (20, v20_3), (18, (.bool true)), (19, a0), (18, (.bool true)), (18, v17_2), (17, v17_2), (16, a1), (15, a0), (14, a0), (8, v8_1), (6, v6_0), (0, a0), (1, a1), (2, a2), (3, a3)]) [] [] s15 (xleave I si Tryd.f17.results.toList K)))))
 (I.call 38 [a0, (.bool false), (.slice none 0 0)] s4 fun v35_19 s19 =>
 I.wop (.unOp .not 4 (.const v35_19)) 4 s19 fun v36_20 s20 =>
 wdec v36_20
 (I.wop (.build 47 ⟨[(0, (.const (.int .i64 (-1)))), (1, (.const (.int .i64 (-1))))]⟩) 47 s20 fun v37_21 s21 =>
 I.wop (.store 47 (.const v8_1) (.const v37_21)) 0 s21 fun _ s22 =>
 I.wop (.load 47 (.const v8_1)) 47 s22 fun v8_23 _ =>
 I.fin si K v8_23 s22)
 (I.hold (xp I none 101 k17 c17_11 [1, 1] (U undefT [(36, (.bool false)), (36, v36_20), (35, v35_19), (34, (.bool false)), (28, (.bool false)), (33, undef), (28, (.bool false)), (32, undef), (28, (.bool false)), (31, undef), (28, (.bool false)), (30, undef), (28, (.bool false)), (29, undef), (28, (.bool false)), (28, (.bool false)), (27, (.bool false)), (23, (.bool false)), (26, undef), (23, (.bool false)), (25, undef), (23, (.bool false)), (24, undef), (23, (.bool false)), (23, v21_4), (22, v21_4), (18, (.bool true)), (21, v21_4), (18, (.bool true)), (20, v20_3), (18, (.bool true)), (19, a0), (18, (.bool true)), (18, v17_2), (17, v17_2), (16, a1), (15, a0), (14, a0), (8, v8_1), (6, v6_0), (0, a0), (1, a1), (2, a2), (3, a3)]) [] [] s20 (xleave I si Tryd.f17.results.toList K)))))
 (I.call 38 [a0, (.bool false), (.slice none 0 0)] s2 fun v35_24 s24 =>
 I.wop (.unOp .not 4 (.const v35_24)) 4 s24 fun v36_25 s25 =>
 wdec v36_25
 (I.wop (.build 47 ⟨[(0, (.const (.int .i64 (-1)))), (1, (.const (.int .i64 (-1))))]⟩) 47 s25 fun v37_26 s26 =>
 I.wop (.store 47 (.const v8_1) (.const v37_26)) 0 s26 fun _ s27 =>
 I.wop (.load 47 (.const v8_1)) 47 s27 fun v8_28 _ =>
 I.fin si K v8_28 s27)
 (I.hold (xp I none 101 k17 c17_11 [1, 1] (U undefT [(36, (.bool false)), (36, v36_25), (35, v35_24), (34, (.bool false)), (28, (.bool false)), (33, undef), (28, (.bool false)), (32, undef), (28, (.bool false)), (31, undef), (28, (.bool false)), (30, undef), (28, (.bool false)), (29, undef), (28, (.bool false)), (28, (.bool false)), (27, (.bool false)), (23, (.bool false)), (26, undef), (23, (.bool false)), (25, undef), (23, (.bool false)), (24, undef), (23, (.bool false)), (23, (.bool false)), (22, (.bool false)), (18, (.bool false)), (21, undef), (18, (.bool false)), (20, undef), (18, (.bool false)), (19, undef), (18, (.bool false)), (18, v17_2), (17, v17_2), (16, a1), (15, a0), (14, a0), (8, v8_1), (6, v6_0), (0, a0), (1, a1), (2, a2), (3, a3)]) [] [] s25 (xleave I si Tryd.f17.results.toList K))))
theorem x17 (I : Prims) (a0 a1 a2 a3 : Value) (si : St) (K : Value → St → Prop) : xbody I 101 k17 Tryd.f17 c17 [a0, a1, a2, a3] si K = v17 I a0 a1 a2 a3 si K := by kernel_rfl
theorem n17 [Memo] (ro : Nat) (a0 a1 a2 a3 : Value) (si : St) (K : Value → St → Prop) : wbody P ro 101 Tryd.f17 c17 [a0, a1, a2, a3] si K = v17 (prims P ro) a0 a1 a2 a3 si K := xbody_eq 101 P ro (x17 _ a0 a1 a2 a3 si K)
theorem r17 (I : Prims) (si : St) (K : Value → St → Prop) (τ : Tau) (ds : List Deferred) (s : St) : xleave I si Tryd.f17.results.toList K .ret τ [] ds s =
 (xdefers I ds s fun s0 =>
 I.wop (.load 47 (.const (τ 8))) 47 s0 fun v8_1 _ =>
 I.fin si K v8_1 s0) := by kernel_rfl
/- (*attestor/circuit.Builder).Perm -/
noncomputable def c20 : Code := bodyOf Tryd.f20
noncomputable def c20_11110100 : Code := subCode [1, 1, 1, 1, 0, 1, 0, 0] c20
def k20 : List (List Nat) := []
def k20_11110100 : List (List Nat) := []
theorem l20_11110100 : ltCode 53 c20_11110100 = true := by kernel_rfl
theorem m20_11110100 : notMap c20_11110100 = true := by kernel_rfl
theorem b20 : BodyOk P 53 2 20 Tryd.f20 c20 := ⟨Tryd.func20, by kernel_rfl, by kernel_rfl, by kernel_rfl, by kernel_rfl, by kernel_rfl⟩
def v20_11110100 (I : Prims) (rnd : Option Nat) (τ : Tau) (ds : List Deferred) (s : St) (Q : Ex → WK) : Prop :=
 I.wop (.binOp .lss 3 (.const (τ 17)) (.const (.int .i64 8)) 3) 4 s fun v18_0 s0 =>
 wdec v18_0
 (I.wop (.load 53 (.const (τ 3))) 53 s0 fun v22_1 s1 =>
 I.wop (.build 94 ⟨[(0, (.const (.int .u8 3))), (7, (.const (τ 17))), (1, (.const v22_1))]⟩) 94 s1 fun v23_2 s2 =>
 I.wop (.buildSlice 32 1 ⟨[(0, (.const v23_2))]⟩) 32 s2 fun v24_3 s3 =>
 I.wop (.call ⟨.builtin .append, ⟨[(.const (τ 6)), (.const v24_3)]⟩, #[32, 32]⟩) 32 s3 fun v25_4 s4 =>
 I.wop (.nilCheck (.const (τ 0))) 0 s4 fun v27_5 s5 =>
 I.wop (.fieldAddr 81 (.const v27_5) 1) 0 s5 fun v28_6 s6 =>
 I.wop (.fieldAddr 34 (.const v28_6) 1) 0 s6 fun v29_7 s7 =>
 I.wop (.load 3 (.const v29_7)) 3 s7 fun v30_8 s8 =>
 I.wop (.binOp .mul 3 (.const (.int .i64 4)) (.const (τ 17)) 3) 3 s8 fun v32_9 s9 =>
 I.wop (.binOp .add 3 (.const v30_8) (.const v32_9) 3) 3 s9 fun v33_10 s10 =>
 I.wop (.binOp .add 3 (.const v33_10) (.const (.int .i64 1)) 3) 3 s10 fun v36_11 s11 =>
 I.wop (.binOp .add 3 (.const v33_10) (.const (.int .i64 2)) 3) 3 s11 fun v38_12 s12 =>
 I.wop (.binOp .add 3 (.const v33_10) (.const (.int .i64 3)) 3) 3 s12 fun v40_13 s13 =>
 I.wop (.build 53 ⟨[(0, (.const v33_10)), (1, (.const v36_11)), (2, (.const v38_12)), (3, (.const v40_13))]⟩) 53 s13 fun v41_14 s14 =>
 I.wop (.store 53 (.const (τ 3)) (.const v41_14)) 0 s14 fun _ s15 =>
 I.wop (.binOp .add 3 (.const (τ 17)) (.const (.int .i64 1)) 3) 3 s15 fun v42_16 s16 =>
 Q .normal (U τ [(17, v42_16), (42, v42_16), (41, v41_14), (40, v40_13), (39, v33_10), (38, v38_12), (37, v33_10), (36, v36_11), (35, v33_10), (34, v33_10), (8, v33_10), (33, v33_10), (32, v32_9), (31, (τ 17)), (30, v30_8), (29, v29_7), (28, v28_6), (27, v27_5), (26, (τ 0)), (6, v25_4), (25, v25_4), (24, v24_3), (23, v23_2), (22, v22_1), (21, (τ 17)), (20, (τ 6)), (7, (τ 17)), (19, (τ 17)), (18, (.bool true)), (18, v18_0)]) ds s16)
 (Q (.exit 0) (U τ [(18, (.bool false)), (18, v18_0)]) ds s0)
theorem x20_11110100 (I : Prims) (rnd : Option Nat) (τ : Tau) (ds : List Deferred) (s : St) (Q : Ex → WK) : xp I rnd 53 k20_11110100 c20_11110100 [] τ [] ds s (lift Q) = v20_11110100 I rnd τ ds s Q := by kernel_rfl
theorem n20_11110100 [Memo] (ro : Nat) (rnd : Option Nat) (τ : Tau) (ds : List Deferred) (s : St) (Q : Ex → WK) : wp P ro 53 rnd c20_11110100 τ ds s Q = v20_11110100 (prims P ro) rnd τ ds s Q := xp_wp rnd 53 P ro (x20_11110100 _ rnd τ ds s Q)
def v20 (I : Prims) (a0 a1 : Value) (si : St) (K : Value → St → Prop) : Prop :=
 I.wop (.box 53 (.const a1)) 0 (ent si) fun v3_0 s0 =>
 I.wop (.alloc 53) 0 s0 fun v4_1 s1 =>
 I.wop (.build 53 ⟨[(0, (.const (.int .i64 (-1)))), (1, (.const (.int .i64 (-1)))), (2, (.const (.int .i64 (-1)))), (3, (.const (.int .i64 (-1))))]⟩) 53 s1 fun v9_2 s2 =>
 I.wop (.alloc 53) 0 s2 fun v5_3 s3 =>
 I.wop (.store 53 (.const v5_3) (.const v9_2)) 0 s3 fun _ s4 =>
 I.wop (.slice 53 (.const v3_0) none none none) 30 s4 fun v12_5 s5 =>
 I.call 39 [a0, v12_5] s5 fun v13_6 s6 =>
 I.call 38 [a0, v13_6, (.slice none 0 0)] s6 fun v14_7 s7 =>
 I.wop (.unOp .not 4 (.const v14_7)) 4 s7 fun v15_8 s8 =>
 wdec v15_8
 (I.wop (.load 53 (.const v5_3)) 53 s8 fun v16_9 s9 =>
 I.wop (.store 53 (.const v4_1) (.const v16_9)) 0 s9 fun _ s10 =>
 I.wop (.load 53 (.const v4_1)) 53 s10 fun v4_11 _ =>
 I.fin si K v4_11 s10)
 (I.loop 53 none c20_11110100 (U undefT [(17, (.int .i64 0)), (6, (.slice none 0 0)), (15, (.bool false)), (15, v15_8), (14, v14_7), (13, v13_6), (12, v12_5), (11, a0), (10, a0), (5, v5_3), (9, v9_2), (4, v4_1), (3, v3_0), (0, a0), (1, a1)]) [] s8 (fun τ ds s => ((xleave I si Tryd.f20.results.toList K) .ret) τ [] ds s) [(0, fun τ12 ds12 s12 =>
 I.wop (.load 53 (.const (τ12 3))) 53 s12 fun v45_13 s13 =>
 I.wop (.build 94 ⟨[(1, (.const v45_13))]⟩) 94 s13 fun v46_14 s14 =>
 I.wop (.buildSlice 32 1 ⟨[(0, (.const v46_14))]⟩) 32 s14 fun v47_15 s15 =>
 I.wop (.call ⟨.builtin .append, ⟨[(.const (τ12 6)), (.const v47_15)]⟩, #[32, 32]⟩) 32 s15 fun v48_16 s16 =>
 I.call 62 [(τ12 0), (.int .i64 32), v48_16] s16 fun v49_17 s17 =>
 I.wop (.binOp .lss 3 (.const v49_17) (.const (.int .i64 0)) 3) 4 s17 fun v50_18 s18 =>
 wdec v50_18
 (I.wop (.load 53 (.const (τ12 5))) 53 s18 fun v51_19 s19 =>
 I.wop (.store 53 (.const (τ12 4)) (.const v51_19)) 0 s19 fun _ s20 =>
 xdefers I ds12 s20 fun s21 =>
 I.wop (.load 53 (.const (τ12 4))) 53 s21 fun v4_22 _ =>
 I.fin si K v4_22 s21)
 (I.wop (.load 53 (.const (τ12 3))) 53 s18 fun v52_23 s23 =>
 I.wop (.store 53 (.const (τ12 4)) (.const v52_23)) 0 s23 fun _ s24 =>
 xdefers I ds12 s24 fun s25 =>
 I.wop (.load 53 (.const (τ12 4))) 53 s25 fun v4_26 _ =>
 I.fin si K v4_26 s25))])
theorem x20 (I : Prims) (a0 a1 : Value) (si : St) (K : Value → St → Prop) : xbody I 53 k20 Tryd.f20 c20 [a0, a1] si K = v20 I a0 a1 si K := by kernel_rfl
theorem n20 [Memo] (ro : Nat) (a0 a1 : Value) (si : St) (K : Value → St → Prop) : wbody P ro 53 Tryd.f20 c20 [a0, a1] si K = v20 (prims P ro) a0 a1 si K := xbody_eq 53 P ro (x20 _ a0 a1 si K)
theorem r20 (I : Prims) (si : St) (K : Value → St → Prop) (τ : Tau) (ds : List Deferred) (s : St) : xleave I si Tryd.f20.results.toList K .ret τ [] ds s =
 (xdefers I ds s fun s0 =>
 I.wop (.load 53 (.const (τ 4))) 53 s0 fun v4_1 _ =>
 I.fin si K v4_1 s0) := by kernel_rfl
/- (*attestor/circuit.Builder).Mul -/
noncomputable def c21 : Code := bodyOf Tryd.f21
def k21 : List (List Nat) := []
theorem b21 : BodyOk P 28 3 21 Tryd.f21 c21 := ⟨Tryd.func21, by kernel_rfl, by kernel_rfl, by kernel_rfl, by kernel_rfl, by kernel_rfl⟩
def v21 (I : Prims) (a0 a1 a2 : Value) (si : St) (K : Value → St → Prop) : Prop :=
 I.wop (.buildSlice 30 2 ⟨[(0, (.const a1)), (1, (.const a2))]⟩) 30 (ent si) fun v11_0 s0 =>
 I.call 39 [a0, v11_0] s0 fun v12_1 s1 =>
 I.call 38 [a0, v12_1, (.slice none 0 0)] s1 fun v13_2 s2 =>
 I.wop (.unOp .not 4 (.const v13_2)) 4 s2 fun v14_3 s3 =>
 wdec v14_3
 (I.fin si K (.int .i64 (-1)) s3)
 (I.wop (.nilCheck (.const a0)) 0 s3 fun v19_4 s4 =>
 I.wop (.fieldAddr 81 (.const v19_4) 1) 0 s4 fun v20_5 s5 =>
 I.wop (.fieldAddr 34 (.const v20_5) 1) 0 s5 fun v21_6 s6 =>
 I.wop (.load 3 (.const v21_6)) 3 s6 fun v22_7 s7 =>
 veq v22_7 v22_7 = true ∧ I.call 44 [a0] s7 fun v24_8 s8 =>
 Grew s7 s8 ∧ I.call 63 [a1, a2, v22_7, (.int .u64 0), (.int .u64 0), (.int .u64 1), v24_8, (.int .u64 0)] s8 fun v25_9 s9 =>
 s8.n ≤ s9.n ∧ I.wop (.buildSlice 32 1 ⟨[(0, (.const v25_9))]⟩) 32 s9 fun v26_10 s10 =>
 FreshOk s9 s10 ∧ I.call 62 [a0, (.int .i64 1), v26_10] s10 fun v27_11 s11 =>
 s10.n ≤ s11.n ∧ I.fin si K v27_11 s11)
theorem x21 (I : Prims) (a0 a1 a2 : Value) (si : St) (K : Value → St → Prop) : xbody I 28 k21 Tryd.f21 c21 [a0, a1, a2] si K = v21 I a0 a1 a2 si K := by kernel_rfl
theorem n21 [Memo] (ro : Nat) (a0 a1 a2 : Value) (si : St) (K : Value → St → Prop) : wbody P ro 28 Tryd.f21 c21 [a0, a1, a2] si K = v21 (prims P ro) a0 a1 a2 si K := xbody_eq 28 P ro (x21 _ a0 a1 a2 si K)
theorem r21 (I : Prims) (si : St) (K : Value → St → Prop) (τ : Tau) (ds : List Deferred) (s : St) : xleave I si Tryd.f21.results.toList K .ret τ [] ds s =
 (xdefers I ds s fun s0 =>
 I.fin si K (τ 6) s0) := by kernel_rfl
/- (*attestor/circuit.Builder).Const -/
noncomputable def c22 : Code := bodyOf Tryd.f22
def k22 : List (List Nat) := []
theorem b22 : BodyOk P 22 2 22 Tryd.f22 c22 := ⟨Tryd.func22, by kernel_rfl, by kernel_rfl, by kernel_rfl, by kernel_rfl, by kernel_rfl⟩
def v22 (I : Prims) (a0 a1 : Value) (si : St) (K : Value → St → Prop) : Prop :=
 I.wop (.buildSlice 23 1 ⟨[(0, (.const a1))]⟩) 23 (ent si) fun v7_0 s0 =>
 I.call 38 [a0, (.bool true), v7_0] s0 fun v8_1 s1 =>
 I.wop (.unOp .not 4 (.const v8_1)) 4 s1 fun v9_2 s2 =>
 wdec v9_2
 (I.fin si K (.int .i64 (-1)) s2)
 (I.wop (.nilCheck (.const a0)) 0 s2 fun v12_3 s3 =>
 I.wop (.fieldAddr 81 (.const v12_3) 1) 0 s3 fun v13_4 s4 =>
 I.wop (.fieldAddr 34 (.const v13_4) 1) 0 s4 fun v14_5 s5 =>
 I.wop (.load 3 (.const v14_5)) 3 s5 fun v15_6 s6 =>
 veq v15_6 v15_6 = true ∧ I.call 44 [a0] s6 fun v17_7 s7 =>
 Grew s6 s7 ∧ I.call 63 [(.int .i64 (-1)), (.int .i64 (-1)), v15_6, (.int .u64 0), (.int .u64 0), (.int .u64 0), v17_7, a1] s7 fun v19_8 s8 =>
 s7.n ≤ s8.n ∧ I.wop (.buildSlice 32 1 ⟨[(0, (.const v19_8))]⟩) 32 s8 fun v20_9 s9 =>
 FreshOk s8 s9 ∧ I.call 62 [a0, (.int .i64 1), v20_9] s9 fun v21_10 s10 =>
 s9.n ≤ s10.n ∧ I.fin si K v21_10 s10)
theorem x22 (I : Prims) (a0 a1 : Value) (si : St) (K : Value → St → Prop) : xbody I 22 k22 Tryd.f22 c22 [a0, a1] si K = v22 I a0 a1 si K := by kernel_rfl
theorem n22 [Memo] (ro : Nat) (a0 a1 : Value) (si : St) (K : Value → St → Prop) : wbody P ro 22 Tryd.f22 c22 [a0, a1] si K = v22 (prims P ro) a0 a1 si K := xbody_eq 22 P ro (x22 _ a0 a1 si K)
theorem r22 (I : Prims) (si : St) (K : Value → St → Prop) (τ : Tau) (ds : List Deferred) (s : St) : xleave I si Tryd.f22.results.toList K .ret τ [] ds s =
 (xdefers I ds s fun s0 =>
 I.fin si K (τ 4) s0) := by kernel_rfl
/- (*attestor/circuit.Builder).Err -/
noncomputable def c23 : Code := bodyOf Tryd.f23
def k23 : List (List Nat) := []
theorem b23 : BodyOk P 16 1 23 Tryd.f23 c23 := ⟨Tryd.func23, by kernel_rfl, by kernel_rfl, by kernel_rfl, by kernel_rfl, by kernel_rfl⟩
def v23 (I : Prims) (a0 : Value) (si : St) (K : Value → St → Prop) : Prop :=
 I.wop (.binOp .eql 25 (.const a0) (.const (.pointer none)) 25) 4 (ent si) fun v4_0 s0 =>
 wdec v4_0
 (I.fin si K (.int .i64 10) s0)
 (I.wop (.nilCheck (.const a0)) 0 s0 fun v7_1 s1 =>
 I.wop (.fieldAddr 81 (.const v7_1) 0) 0 s1 fun v8_2 s2 =>
 I.wop (.load 4 (.const v8_2)) 4 s2 fun v9_3 s3 =>
 I.wop (.unOp .not 4 (.const v9_3)) 4 s3 fun v10_4 s4 =>
 wdec v10_4
 (I.fin si K (.int .i64 10) s4)
 (I.wop (.nilCheck (.const a0)) 0 s4 fun v13_5 s5 =>
 I.wop (.fieldAddr 81 (.const v13_5) 2) 0 s5 fun v14_6 s6 =>
 I.wop (.load 26 (.const v14_6)) 26 s6 fun v15_7 s7 =>
 I.fin si K v15_7 s7))
theorem x23 (I : Prims) (a0 : Value) (si : St) (K : Value → St → Prop) : xbody I 16 k23 Tryd.f23 c23 [a0] si K = v23 I a0 si K := by kernel_rfl
theorem n23 [Memo] (ro : Nat) (a0 : Value) (si : St) (K : Value → St → Prop) : wbody P ro 16 Tryd.f23 c23 [a0] si K = v23 (prims P ro) a0 si K := xbody_eq 16 P ro (x23 _ a0 si K)
theorem r23 (I : Prims) (si : St) (K : Value → St → Prop) (τ : Tau) (ds : List Deferred) (s : St) : xleave I si Tryd.f23.results.toList K .ret τ [] ds s =
 (xdefers I ds s fun s0 =>
 I.fin si K (τ 2) s0) := by kernel_rfl
/- (*attestor/circuit.Builder).Hash -/
noncomputable def c24 : Code := bodyOf Tryd.f24
noncomputable def c24_111111 : Code := subCode [1, 1, 1, 1, 1, 1] c24
noncomputable def c24_1111110100 : Code := subCode [1, 1, 1, 1, 1, 1, 0, 1, 0, 0] c24
noncomputable def c24_1111110101 : Code := subCode [1, 1, 1, 1, 1, 1, 0, 1, 0, 1] c24
def k24 : List (List Nat) := [[1, 1, 1, 1, 1, 1]]
def k24_1111110100 : List (List Nat) := []
theorem l24_1111110100 : ltCode 71 c24_1111110100 = true := by kernel_rfl
theorem m24_1111110100 : notMap c24_1111110100 = true := by kernel_rfl
def k24_1111110101 : List (List Nat) := []
theorem l24_1111110101 : ltCode 71 c24_1111110101 = true := by kernel_rfl
theorem m24_1111110101 : notMap c24_1111110101 = true := by kernel_rfl
theorem b24 : BodyOk P 71 2 24 Tryd.f24 c24 := ⟨Tryd.func24, by kernel_rfl, by kernel_rfl, by kernel_rfl, by kernel_rfl, by kernel_rfl⟩
def v24_111111 (I : Prims) (τ : Tau) (ds : List Deferred) (s : St) (Q : Ex → XK) : Prop :=
 I.call 65 [(τ 1), (.int .i64 2)] s fun v41_0 s0 =>
 I.range 71 none v41_0 #[42] c24_1111110100 c24_1111110101 (U τ [(41, v41_0), (40, (τ 1))]) ds s0 (fun τ1 ds1 s1 =>
 I.wop (.load 25 (.const (τ1 2))) 25 s1 fun v65_2 s2 =>
 I.wop (.indexAddr 53 (.const (τ1 6)) (.const (.int .i64 0))) 0 s2 fun v66_3 s3 =>
 I.wop (.load 3 (.const v66_3)) 3 s3 fun v67_4 s4 =>
 I.wop (.indexAddr 53 (.const (τ1 6)) (.const (.int .i64 1))) 0 s4 fun v68_5 s5 =>
 I.wop (.load 3 (.const v68_5)) 3 s5 fun v69_6 s6 =>
 I.call 57 [v65_2, v67_4, v69_6] s6 fun v70_7 s7 =>
 I.wop (.store 47 (.const (τ1 4)) (.const v70_7)) 0 s7 fun _ s8 =>
 Q .ret τ1 [(70, v70_7), (69, v69_6), (68, v68_5), (67, v67_4), (66, v66_3), (65, v65_2)] ds1 s8) (fun τ ds s => (Q .ret) τ [] ds s) []
theorem n24_111111 (I : Prims) (τ : Tau) (ds : List Deferred) (s : St) (Q : Ex → XK) : xp I none 71 k24 c24_111111 [1, 1, 1, 1, 1, 1] τ [] ds s Q = v24_111111 I τ ds s Q := by kernel_rfl
def v24_1111110100 (I : Prims) (rnd : Option Nat) (τ : Tau) (ds : List Deferred) (s : St) (Q : Ex → WK) : Prop :=
 Q .normal (U τ [(7, (τ 42))]) ds s
theorem x24_1111110100 (I : Prims) (rnd : Option Nat) (τ : Tau) (ds : List Deferred) (s : St) (Q : Ex → WK) : xp I rnd 71 k24_1111110100 c24_1111110100 [] τ [] ds s (lift Q) = v24_1111110100 I rnd τ ds s Q := by kernel_rfl
theorem n24_1111110100 [Memo] (ro : Nat) (rnd : Option Nat) (τ : Tau) (ds : List Deferred) (s : St) (Q : Ex → WK) : wp P ro 71 rnd c24_1111110100 τ ds s Q = v24_1111110100 (prims P ro) rnd τ ds s Q := xp_wp rnd 71 P ro (x24_1111110100 _ rnd τ ds s Q)
def v24_1111110101 (I : Prims) (rnd : Option Nat) (τ : Tau) (ds : List Deferred) (s : St) (Q : Ex → WK) : Prop :=
 I.wop (.load 25 (.const (τ 2))) 25 s fun v43_0 s0 =>
 veq v43_0 v43_0 = true ∧ I.wop (.indexAddr 53 (.const (τ 6)) (.const (.int .i64 0))) 0 s0 fun v44_1 s1 =>
 I.wop (.load 3 (.const v44_1)) 3 s1 fun v45_2 s2 =>
 veq v45_2 v45_2 = true ∧ I.wop (.indexAddr 30 (.const (τ 7)) (.const (.int .i64 0))) 0 s2 fun v47_3 s3 =>
 I.wop (.load 3 (.const v47_3)) 3 s3 fun v48_4 s4 =>
 veq v48_4 v48_4 = true ∧ I.call 43 [v43_0, v45_2, v48_4, (.int .u64 1), (.int .u64 1), (.int .u64 0)] s4 fun v49_5 s5 =>
 I.wop (.indexAddr 53 (.const (τ 6)) (.const (.int .i64 0))) 0 s5 fun v50_6 s6 =>
 I.wop (.store 3 (.const v50_6) (.const v49_5)) 0 s6 fun _ s7 =>
 I.wop (.call ⟨.builtin .len, ⟨[(.const (τ 7))]⟩, #[30]⟩) 3 s7 fun v52_8 s8 =>
 I.wop (.binOp .eql 3 (.const v52_8) (.const (.int .i64 2)) 3) 4 s8 fun v53_9 s9 =>
 wdec v53_9
 (I.wop (.load 25 (.const (τ 2))) 25 s9 fun v54_10 s10 =>
 veq v54_10 v54_10 = true ∧ I.wop (.indexAddr 53 (.const (τ 6)) (.const (.int .i64 1))) 0 s10 fun v55_11 s11 =>
 I.wop (.load 3 (.const v55_11)) 3 s11 fun v56_12 s12 =>
 veq v56_12 v56_12 = true ∧ I.wop (.indexAddr 30 (.const (τ 7)) (.const (.int .i64 1))) 0 s12 fun v58_13 s13 =>
 I.wop (.load 3 (.const v58_13)) 3 s13 fun v59_14 s14 =>
 veq v59_14 v59_14 = true ∧ I.call 43 [v54_10, v56_12, v59_14, (.int .u64 1), (.int .u64 1), (.int .u64 0)] s14 fun v60_15 s15 =>
 I.wop (.indexAddr 53 (.const (τ 6)) (.const (.int .i64 1))) 0 s15 fun v61_16 s16 =>
 I.wop (.store 3 (.const v61_16) (.const v60_15)) 0 s16 fun _ s17 =>
 I.wop (.load 25 (.const (τ 2))) 25 s17 fun v62_18 s18 =>
 I.wop (.load 53 (.const (τ 6))) 53 s18 fun v63_19 s19 =>
 I.call 20 [v62_18, v63_19] s19 fun v64_20 s20 =>
 I.wop (.store 53 (.const (τ 6)) (.const v64_20)) 0 s20 fun _ s21 =>
 Q .normal (U τ [(64, v64_20), (63, v63_19), (62, v62_18), (61, v61_16), (60, v60_15), (59, v59_14), (58, v58_13), (57, (τ 7)), (56, v56_12), (55, v55_11), (54, v54_10), (53, (.bool true)), (53, v53_9), (52, v52_8), (51, (τ 7)), (50, v50_6), (49, v49_5), (48, v48_4), (47, v47_3), (46, (τ 7)), (45, v45_2), (44, v44_1), (43, v43_0)]) ds s21)
 (I.wop (.load 25 (.const (τ 2))) 25 s9 fun v62_22 s22 =>
 I.wop (.load 53 (.const (τ 6))) 53 s22 fun v63_23 s23 =>
 I.call 20 [v62_22, v63_23] s23 fun v64_24 s24 =>
 I.wop (.store 53 (.const (τ 6)) (.const v64_24)) 0 s24 fun _ s25 =>
 Q .normal (U τ [(64, v64_24), (63, v63_23), (62, v62_22), (53, (.bool false)), (53, v53_9), (52, v52_8), (51, (τ 7)), (50, v50_6), (49, v49_5), (48, v48_4), (47, v47_3), (46, (τ 7)), (45, v45_2), (44, v44_1), (43, v43_0)]) ds s25)
theorem x24_1111110101 (I : Prims) (rnd : Option Nat) (τ : Tau) (ds : List Deferred) (s : St) (Q : Ex → WK) : xp I rnd 71 k24_1111110101 c24_1111110101 [] τ [] ds s (lift Q) = v24_1111110101 I rnd τ ds s Q := by kernel_rfl
theorem n24_1111110101 [Memo] (ro : Nat) (rnd : Option Nat) (τ : Tau) (ds : List Deferred) (s : St) (Q : Ex → WK) : wp P ro 71 rnd c24_1111110101 τ ds s Q = v24_1111110101 (prims P ro) rnd τ ds s Q := xp_wp rnd 71 P ro (x24_1111110101 _ rnd τ ds s Q)
def v24 (I : Prims) (a0 a1 : Value) (si : St) (K : Value → St → Prop) : Prop :=
 I.wop (.box 25 (.const a0)) 0 (ent si) fun v2_0 s0 =>
 I.wop (.alloc 47) 0 s0 fun v4_1 s1 =>
 I.wop (.load 25 (.const v2_0)) 25 s1 fun v8_2 s2 =>
 veq v8_2 v8_2 = true ∧ I.wop (.load 25 (.const v2_0)) 25 s2 fun v9_3 s3 =>
 veq v9_3 v9_3 = true ∧ I.call 39 [v9_3, a1] s3 fun v11_4 s4 =>
 Grew s3 s4 ∧ I.call 38 [v8_2, v11_4, (.slice none 0 0)] s4 fun v12_5 s5 =>
 I.wop (.unOp .not 4 (.const v12_5)) 4 s5 fun v13_6 s6 =>
 wdec v13_6
 (I.wop (.build 47 ⟨[(0, (.const (.int .i64 (-1)))), (1, (.const (.int .i64 (-1))))]⟩) 47 s6 fun v14_7 s7 =>
 I.wop (.store 47 (.const v4_1) (.const v14_7)) 0 s7 fun _ s8 =>
 I.wop (.load 47 (.const v4_1)) 47 s8 fun v4_9 _ =>
 I.fin si K v4_9 s8)
 (I.wop (.load 25 (.const v2_0)) 25 s6 fun v15_10 s10 =>
 I.call 40 [v15_10] s10 fun v16_11 s11 =>
 (none : Option Nat) = none ∧ I.wdefer (.defer ⟨.value (.const v16_11), ⟨[]⟩, #[]⟩) 0 s11 fun d12 s12 =>
 I.wop (.load 25 (.const v2_0)) 25 s12 fun v17_13 s13 =>
 I.call 22 [v17_13, (.int .u64 0)] s13 fun v18_14 s14 =>
 I.wop (.load 25 (.const v2_0)) 25 s14 fun v21_15 s15 =>
 veq v21_15 v21_15 = true ∧ I.wop (.load 25 (.const v2_0)) 25 s15 fun v22_16 s16 =>
 veq v22_16 v22_16 = true ∧ I.wop (.nilCheck (.const v22_16)) 0 s16 fun v23_17 s17 =>
 I.wop (.fieldAddr 81 (.const v23_17) 1) 0 s17 fun v24_18 s18 =>
 I.wop (.fieldAddr 34 (.const v24_18) 0) 0 s18 fun v25_19 s19 =>
 I.wop (.load 3 (.const v25_19)) 3 s19 fun v26_20 s20 =>
 veq v26_20 v26_20 = true ∧ I.wop (.call ⟨.builtin .len, ⟨[(.const a1)]⟩, #[30]⟩) 3 s20 fun v28_21 s21 =>
 I.wop (.convert 3 24 (.const v28_21)) 24 s21 fun v29_22 s22 =>
 s22 = s21 ∧ veq v29_22 v29_22 = true ∧ I.wop (.alloc 53) 0 s22 fun v6_23 s23 =>
 FreshOk s22 s23 ∧ I.call 64 [v26_20, v29_22, (.int .u64 0)] s23 fun v30_24 s24 =>
 Grew s23 s24 ∧ I.call 22 [v21_15, v30_24] s24 fun v31_25 s25 =>
 Grew s24 s25 ∧ I.wop (.build 53 ⟨[(0, (.const v18_14)), (1, (.const v18_14)), (2, (.const v31_25)), (3, (.const v18_14))]⟩) 53 s25 fun v33_26 s26 =>
 I.wop (.store 53 (.const v6_23) (.const v33_26)) 0 s26 fun _ s27 =>
 s26.n ≤ s27.n ∧ I.wop (.call ⟨.builtin .len, ⟨[(.const a1)]⟩, #[30]⟩) 3 s27 fun v35_28 s28 =>
 I.wop (.binOp .eql 3 (.const v35_28) (.const (.int .i64 0)) 3) 4 s28 fun v36_29 s29 =>
 wdec v36_29
 (I.wop (.load 25 (.const v2_0)) 25 s29 fun v37_30 s30 =>
 I.wop (.load 53 (.const v6_23)) 53 s30 fun v38_31 s31 =>
 I.call 20 [v37_30, v38_31] s31 fun v39_32 s32 =>
 I.wop (.store 53 (.const v6_23) (.const v39_32)) 0 s32 fun _ s33 =>
 I.hold (xp I none 71 k24 c24_111111 [1, 1, 1, 1, 1, 1] (U undefT [(39, v39_32), (38, v38_31), (37, v37_30), (36, (.bool true)), (36, v36_29), (35, v35_28), (34, a1), (33, v33_26), (31, v31_25), (30, v30_24), (6, v6_23), (32, v18_14), (29, v29_22), (28, v28_21), (27, a1), (26, v26_20), (25, v25_19), (24, v24_18), (23, v23_17), (22, v22_16), (21, v21_15), (20, v18_14), (19, v18_14), (5, v18_14), (18, v18_14), (17, v17_13), (16, v16_11), (15, v15_10), (13, (.bool false)), (13, v13_6), (12, v12_5), (11, v11_4), (10, a1), (9, v9_3), (8, v8_2), (4, v4_1), (2, v2_0), (0, a0), (1, a1)]) [] (d12 :: []) s33 (xleave I si Tryd.f24.results.toList K)))
 (I.hold (xp I none 71 k24 c24_111111 [1, 1, 1, 1, 1, 1] (U undefT [(36, (.bool false)), (36, v36_29), (35, v35_28), (34, a1), (33, v33_26), (31, v31_25), (30, v30_24), (6, v6_23), (32, v18_14), (29, v29_22), (28, v28_21), (27, a1), (26, v26_20), (25, v25_19), (24, v24_18), (23, v23_17), (22, v22_16), (21, v21_15), (20, v18_14), (19, v18_14), (5, v18_14), (18, v18_14), (17, v17_13), (16, v16_11), (15, v15_10), (13, (.bool false)), (13, v13_6), (12, v12_5), (11, v11_4), (10, a1), (9, v9_3), (8, v8_2), (4, v4_1), (2, v2_0), (0, a0), (1, a1)]) [] (d12 :: []) s29 (xleave I si Tryd.f24.results.toList K))))
theorem x24 (I : Prims) (a0 a1 : Value) (si : St) (K : Value → St → Prop) : xbody I 71 k24 Tryd.f24 c24 [a0, a1] si K = v24 I a0 a1 si K := by kernel_rfl
theorem n24 [Memo] (ro : Nat) (a0 a1 : Value) (si : St) (K : Value → St → Prop) : wbody P ro 71 Tryd.f24 c24 [a0, a1] si K = v24 (prims P ro) a0 a1 si K := xbody_eq 71 P ro (x24 _ a0 a1 si K)
theorem r24 (I : Prims) (si : St) (K : Value → St → Prop) (τ : Tau) (ds : List Deferred) (s : St) : xleave I si Tryd.f24.results.toList K .ret τ [] ds s =
 (xdefers I ds s fun s0 =>
 I.wop (.load 47 (.const (τ 4))) 47 s0 fun v4_1 _ =>
 I.fin si K v4_1 s0) := by kernel_rfl
/- (*attestor/circuit.Builder).Absorb -/
noncomputable def c25 : Code := bodyOf Tryd.f25
noncomputable def c25_11 : Code := subCode [1, 1] c25
def k25 : List (List Nat) := [[1, 1]]
theorem b25 : BodyOk P 38 3 25 Tryd.f25 c25 := ⟨Tryd.func25, by kernel_rfl, by kernel_rfl, by kernel_rfl, by kernel_rfl, by kernel_rfl⟩
def v25_11 (I : Prims) (τ : Tau) (ds : List Deferred) (s : St) (Q : Ex → XK) : Prop :=
 I.call 40 [(τ 0)] s fun v21_0 s0 =>
 (none : Option Nat) = none ∧ I.wdefer (.defer ⟨.value (.const v21_0), ⟨[]⟩, #[]⟩) 0 s0 fun d1 s1 =>
 I.wop (.indexAddr 53 (.const (τ 4)) (.const (.int .i64 0))) 0 s1 fun v23_2 s2 =>
 I.wop (.load 3 (.const v23_2)) 3 s2 fun v24_3 s3 =>
 I.call 43 [(τ 0), v24_3, (τ 2), (.int .u64 1), (.int .u64 1), (.int .u64 0)] s3 fun v26_4 s4 =>
 I.wop (.indexAddr 53 (.const (τ 4)) (.const (.int .i64 0))) 0 s4 fun v27_5 s5 =>
 I.wop (.store 3 (.const v27_5) (.const v26_4)) 0 s5 fun _ s6 =>
 I.wop (.indexAddr 53 (.const (τ 4)) (.const (.int .i64 1))) 0 s6 fun v29_7 s7 =>
 I.wop (.load 3 (.const v29_7)) 3 s7 fun v30_8 s8 =>
 I.wop (.indexAddr 53 (.const (τ 4)) (.const (.int .i64 1))) 0 s8 fun v31_9 s9 =>
 I.wop (.load 3 (.const v31_9)) 3 s9 fun v32_10 s10 =>
 I.call 43 [(τ 0), v30_8, v32_10, (.int .u64 1), (.int .u64 0), (.int .u64 1)] s10 fun v33_11 s11 =>
 I.wop (.indexAddr 53 (.const (τ 4)) (.const (.int .i64 1))) 0 s11 fun v34_12 s12 =>
 I.wop (.store 3 (.const v34_12) (.const v33_11)) 0 s12 fun _ s13 =>
 I.wop (.load 53 (.const (τ 4))) 53 s13 fun v36_14 s14 =>
 I.call 20 [(τ 0), v36_14] s14 fun v37_15 s15 =>
 I.wop (.store 53 (.const (τ 6)) (.const v37_15)) 0 s15 fun _ s16 =>
 Q .ret τ [(37, v37_15), (36, v36_14), (35, (τ 0)), (34, v34_12), (33, v33_11), (32, v32_10), (31, v31_9), (30, v30_8), (29, v29_7), (28, (τ 0)), (27, v27_5), (26, v26_4), (25, (τ 2)), (24, v24_3), (23, v23_2), (22, (τ 0)), (21, v21_0), (20, (τ 0))] (d1 :: ds) s16
theorem n25_11 (I : Prims) (τ : Tau) (ds : List Deferred) (s : St) (Q : Ex → XK) : xp I none 38 k25 c25_11 [1, 1] τ [] ds s Q = v25_11 I τ ds s Q := by kernel_rfl
def v25 (I : Prims) (a0 a1 a2 : Value) (si : St) (K : Value → St → Prop) : Prop :=
 I.wop (.box 53 (.const a1)) 0 (ent si) fun v4_0 s0 =>
 I.wop (.alloc 53) 0 s0 fun v6_1 s1 =>
 I.wop (.slice 53 (.const v4_0) none none none) 30 s1 fun v9_2 s2 =>
 I.call 39 [a0, v9_2] s2 fun v10_3 s3 =>
 wdec v10_3
 (I.wop (.buildSlice 30 1 ⟨[(0, (.const a2))]⟩) 30 s3 fun v14_4 s4 =>
 I.call 39 [a0, v14_4] s4 fun v15_5 s5 =>
 I.call 38 [a0, v15_5, (.slice none 0 0)] s5 fun v17_6 s6 =>
 I.wop (.unOp .not 4 (.const v17_6)) 4 s6 fun v18_7 s7 =>
 wdec v18_7
 (I.wop (.build 53 ⟨[(0, (.const (.int .i64 (-1)))), (1, (.const (.int .i64 (-1)))), (2, (.const (.int .i64 (-1)))), (3, (.const (.int .i64 (-1))))]⟩) 53 s7 fun v19_8 s8 =>
 I.wop (.store 53 (.const v6_1) (.const v19_8)) 0 s8 fun _ s9 =>
 I.wop (.load 53 (.const v6_1)) 53 s9 fun v6_10 _ =>
 I.fin si K v6_10 s9)
 (I.hold (xp I none 38 k25 c25_11 [1, 1] (U undefT [(18, (.bool false)), (18, v18_7), (17, v17_6), (16, v15_5), (11, (.bool true)), (15, v15_5), (11, (.bool true)), (14, v14_4), (11, (.bool true)), (13, a2), (11, (.bool true)), (12, a0), (11, (.bool true)), (11, v10_3), (10, v10_3), (9, v9_2), (8, a0), (7, a0), (6, v6_1), (4, v4_0), (0, a0), (1, a1), (2, a2)]) [] [] s7 (xleave I si Tryd.f25.results.toList K))))
 (I.call 38 [a0, (.bool false), (.slice none 0 0)] s3 fun v17_11 s11 =>
 I.wop (.unOp .not 4 (.const v17_11)) 4 s11 fun v18_12 s12 =>
 wdec v18_12
 (I.wop (.build 53 ⟨[(0, (.const (.int .i64 (-1)))), (1, (.const (.int .i64 (-1)))), (2, (.const (.int .i64 (-1)))), (3, (.const (.int .i64 (-1))))]⟩) 53 s12 fun v19_13 s13 =>
 I.wop (.store 53 (.const v6_1) (.const v19_13)) 0 s13 fun _ s14 =>
 I.wop (.load 53 (.const v6_1)) 53 s14 fun v6_15 _ =>
 I.fin si K v6_15 s14)
 (I.hold (xp I none 38 k25 c25_11 [1, 1] (U undefT [(18, (.bool false)), (18, v18_12), (17, v17_11), (16, (.bool false)), (11, (.bool false)), (15, undef), (11, (.bool false)), (14, undef), (11, (.bool false)), (13, undef), (11, (.bool false)), (12, undef), (11, (.bool false)), (11, v10_3), (10, v10_3), (9, v9_2), (8, a0), (7, a0), (6, v6_1), (4, v4_0), (0, a0), (1, a1), (2, a2)]) [] [] s12 (xleave I si Tryd.f25.results.toList K))))
theorem x25 (I : Prims) (a0 a1 a2 : Value) (si : St) (K : Value → St → Prop) : xbody I 38 k25 Tryd.f25 c25 [a0, a1, a2] si K = v25 I a0 a1 a2 si K := by kernel_rfl
theorem n25 [Memo] (ro : Nat) (a0 a1 a2 : Value) (si : St) (K : Value → St → Prop) : wbody P ro 38 Tryd.f25 c25 [a0, a1, a2] si K = v25 (prims P ro) a0 a1 a2 si K := xbody_eq 38 P ro (x25 _ a0 a1 a2 si K)
theorem r25 (I : Prims) (si : St) (K : Value → St → Prop) (τ : Tau) (ds : List Deferred) (s : St) : xleave I si Tryd.f25.results.toList K .ret τ [] ds s =
 (xdefers I ds s fun s0 =>
 I.wop (.load 53 (.const (τ 6))) 53 s0 fun v6_1 _ =>
 I.fin si K v6_1 s0) := by kernel_rfl
/- (*attestor/circuit.Builder).Draw -/
noncomputable def c26 : Code := bodyOf Tryd.f26
def k26 : List (List Nat) := []
theorem b26 : BodyOk P 28 2 26 Tryd.f26 c26 := ⟨Tryd.func26, by kernel_rfl, by kernel_rfl, by kernel_rfl, by kernel_rfl, by kernel_rfl⟩
def v26 (I : Prims) (a0 a1 : Value) (si : St) (K : Value → St → Prop) : Prop :=
 I.wop (.box 53 (.const a1)) 0 (ent si) fun v3_0 s0 =>
 I.wop (.alloc 53) 0 s0 fun v4_1 s1 =>
 I.wop (.slice 53 (.const v3_0) none none none) 30 s1 fun v8_2 s2 =>
 I.call 39 [a0, v8_2] s2 fun v9_3 s3 =>
 I.call 38 [a0, v9_3, (.slice none 0 0)] s3 fun v10_4 s4 =>
 I.wop (.unOp .not 4 (.const v10_4)) 4 s4 fun v11_5 s5 =>
 wdec v11_5
 (I.wop (.build 53 ⟨[(0, (.const (.int .i64 (-1)))), (1, (.const (.int .i64 (-1)))), (2, (.const (.int .i64 (-1)))), (3, (.const (.int .i64 (-1))))]⟩) 53 s5 fun v12_6 s6 =>
 I.wop (.store 53 (.const v4_1) (.const v12_6)) 0 s6 fun _ s7 =>
 I.wop (.load 53 (.const v4_1)) 53 s7 fun v4_8 _ =>
 I.fin si K (.tuple (.mk [v4_8, (.int .i64 (-1))])) s7)
 (I.call 40 [a0] s5 fun v14_9 s9 =>
 (none : Option Nat) = none ∧ I.wdefer (.defer ⟨.value (.const v14_9), ⟨[]⟩, #[]⟩) 0 s9 fun d10 s10 =>
 I.wop (.indexAddr 53 (.const v3_0) (.const (.int .i64 1))) 0 s10 fun v16_11 s11 =>
 I.wop (.load 3 (.const v16_11)) 3 s11 fun v17_12 s12 =>
 I.wop (.indexAddr 53 (.const v3_0) (.const (.int .i64 1))) 0 s12 fun v18_13 s13 =>
 I.wop (.load 3 (.const v18_13)) 3 s13 fun v19_14 s14 =>
 I.call 43 [a0, v17_12, v19_14, (.int .u64 1), (.int .u64 0), (.int .u64 2)] s14 fun v20_15 s15 =>
 I.wop (.indexAddr 53 (.const v3_0) (.const (.int .i64 1))) 0 s15 fun v21_16 s16 =>
 I.wop (.store 3 (.const v21_16) (.const v20_15)) 0 s16 fun _ s17 =>
 I.wop (.load 53 (.const v3_0)) 53 s17 fun v23_18 s18 =>
 I.call 20 [a0, v23_18] s18 fun v24_19 s19 =>
 I.wop (.store 53 (.const v3_0) (.const v24_19)) 0 s19 fun _ s20 =>
 I.wop (.load 53 (.const v3_0)) 53 s20 fun v25_21 s21 =>
 veq v25_21 v25_21 = true ∧ I.wop (.indexAddr 53 (.const v3_0) (.const (.int .i64 0))) 0 s21 fun v26_22 s22 =>
 I.wop (.load 3 (.const v26_22)) 3 s22 fun v27_23 s23 =>
 veq v27_23 v27_23 = true ∧ I.wop (.store 53 (.const v4_1) (.const v25_21)) 0 s23 fun _ s24 =>
 Grew s23 s24 ∧ xdefers I (d10 :: []) s24 fun s25 =>
 I.wop (.load 53 (.const v4_1)) 53 s25 fun v4_26 _ =>
 I.fin si K (.tuple (.mk [v4_26, v27_23])) s25)
theorem x26 (I : Prims) (a0 a1 : Value) (si : St) (K : Value → St → Prop) : xbody I 28 k26 Tryd.f26 c26 [a0, a1] si K = v26 I a0 a1 si K := by kernel_rfl
theorem n26 [Memo] (ro : Nat) (a0 a1 : Value) (si : St) (K : Value → St → Prop) : wbody P ro 28 Tryd.f26 c26 [a0, a1] si K = v26 (prims P ro) a0 a1 si K := xbody_eq 28 P ro (x26 _ a0 a1 si K)
theorem r26 (I : Prims) (si : St) (K : Value → St → Prop) (τ : Tau) (ds : List Deferred) (s : St) : xleave I si Tryd.f26.results.toList K .ret τ [] ds s =
 (xdefers I ds s fun s0 =>
 I.wop (.load 53 (.const (τ 4))) 53 s0 fun v4_1 _ =>
 I.fin si K (.tuple (.mk [v4_1, (τ 5)])) s0) := by kernel_rfl
/- (*attestor/circuit.Builder).Pack -/
noncomputable def c30 : Code := bodyOf Tryd.f30
noncomputable def c30_11110100 : Code := subCode [1, 1, 1, 1, 0, 1, 0, 0] c30
noncomputable def c30_11110101 : Code := subCode [1, 1, 1, 1, 0, 1, 0, 1] c30
def k30 : List (List Nat) := []
def k30_11110100 : List (List Nat) := []
theorem l30_11110100 : ltCode 27 c30_11110100 = true := by kernel_rfl
theorem m30_11110100 : notMap c30_11110100 = true := by kernel_rfl
def k30_11110101 : List (List Nat) := []
theorem l30_11110101 : ltCode 27 c30_11110101 = true := by kernel_rfl
theorem m30_11110101 : notMap c30_11110101 = true := by kernel_rfl
theorem b30 : BodyOk P 27 2 30 Tryd.f30 c30 := ⟨Tryd.func30, by kernel_rfl, by kernel_rfl, by kernel_rfl, by kernel_rfl, by kernel_rfl⟩
def v30_11110100 (I : Prims) (rnd : Option Nat) (τ : Tau) (ds : List Deferred) (s : St) (Q : Ex → WK) : Prop :=
 Q .normal (U τ [(7, (τ 21))]) ds s
theorem x30_11110100 (I : Prims) (rnd : Option Nat) (τ : Tau) (ds : List Deferred) (s : St) (Q : Ex → WK) : xp I rnd 27 k30_11110100 c30_11110100 [] τ [] ds s (lift Q) = v30_11110100 I rnd τ ds s Q := by kernel_rfl
theorem n30_11110100 [Memo] (ro : Nat) (rnd : Option Nat) (τ : Tau) (ds : List Deferred) (s : St) (Q : Ex → WK) : wp P ro 27 rnd c30_11110100 τ ds s Q = v30_11110100 (prims P ro) rnd τ ds s Q := xp_wp rnd 27 P ro (x30_11110100 _ rnd τ ds s Q)
def v30_11110101 (I : Prims) (rnd : Option Nat) (τ : Tau) (ds : List Deferred) (s : St) (Q : Ex → WK) : Prop :=
 I.wop (.load 25 (.const (τ 2))) 25 s fun v22_0 s0 =>
 I.wop (.load 3 (.const (τ 5))) 3 s0 fun v23_1 s1 =>
 I.call 43 [v22_0, v23_1, (τ 7), (.int .u64 2), (.int .u64 1), (.int .u64 0)] s1 fun v25_2 s2 =>
 I.wop (.store 3 (.const (τ 5)) (.const v25_2)) 0 s2 fun _ s3 =>
 Q .normal (U τ [(25, v25_2), (24, (τ 7)), (23, v23_1), (22, v22_0)]) ds s3
theorem x30_11110101 (I : Prims) (rnd : Option Nat) (τ : Tau) (ds : List Deferred) (s : St) (Q : Ex → WK) : xp I rnd 27 k30_11110101 c30_11110101 [] τ [] ds s (lift Q) = v30_11110101 I rnd τ ds s Q := by kernel_rfl
theorem n30_11110101 [Memo] (ro : Nat) (rnd : Option Nat) (τ : Tau) (ds : List Deferred) (s : St) (Q : Ex → WK) : wp P ro 27 rnd c30_11110101 τ ds s Q = v30_11110101 (prims P ro) rnd τ ds s Q := xp_wp rnd 27 P ro (x30_11110101 _ rnd τ ds s Q)
def v30 (I : Prims) (a0 a1 : Value) (si : St) (K : Value → St → Prop) : Prop :=
 I.wop (.box 25 (.const a0)) 0 (ent si) fun v2_0 s0 =>
 I.wop (.load 25 (.const v2_0)) 25 s0 fun v8_1 s1 =>
 veq v8_1 v8_1 = true ∧ I.wop (.load 25 (.const v2_0)) 25 s1 fun v9_2 s2 =>
 veq v9_2 v9_2 = true ∧ I.call 39 [v9_2, a1] s2 fun v11_3 s3 =>
 Grew s2 s3 ∧ I.call 38 [v8_1, v11_3, (.slice none 0 0)] s3 fun v12_4 s4 =>
 I.wop (.unOp .not 4 (.const v12_4)) 4 s4 fun v13_5 s5 =>
 wdec v13_5
 (I.fin si K (.int .i64 (-1)) s5)
 (I.wop (.load 25 (.const v2_0)) 25 s5 fun v14_6 s6 =>
 I.call 40 [v14_6] s6 fun v15_7 s7 =>
 (none : Option Nat) = none ∧ I.wdefer (.defer ⟨.value (.const v15_7), ⟨[]⟩, #[]⟩) 0 s7 fun d8 s8 =>
 I.wop (.load 25 (.const v2_0)) 25 s8 fun v16_9 s9 =>
 I.call 22 [v16_9, (.int .u64 0)] s9 fun v17_10 s10 =>
 I.wop (.alloc 3) 0 s10 fun v5_11 s11 =>
 I.wop (.store 3 (.const v5_11) (.const v17_10)) 0 s11 fun _ s12 =>
 I.call 68 [a1] s12 fun v19_13 s13 =>
 I.range 27 none v19_13 #[20, 21] c30_11110100 c30_11110101 (U undefT [(19, v19_13), (18, a1), (5, v5_11), (17, v17_10), (16, v16_9), (15, v15_7), (14, v14_6), (13, (.bool false)), (13, v13_5), (12, v12_4), (11, v11_3), (10, a1), (9, v9_2), (8, v8_1), (4, (.int .i64 0)), (2, v2_0), (0, a0), (1, a1)]) (d8 :: []) s13 (fun τ14 ds14 s14 =>
 I.wop (.load 3 (.const (τ14 5))) 3 s14 fun v26_15 s15 =>
 xdefers I ds14 s15 fun s16 =>
 I.fin si K v26_15 s16) (fun τ ds s => ((xleave I si Tryd.f30.results.toList K) .ret) τ [] ds s) [])
theorem x30 (I : Prims) (a0 a1 : Value) (si : St) (K : Value → St → Prop) : xbody I 27 k30 Tryd.f30 c30 [a0, a1] si K = v30 I a0 a1 si K := by kernel_rfl
theorem n30 [Memo] (ro : Nat) (a0 a1 : Value) (si : St) (K : Value → St → Prop) : wbody P ro 27 Tryd.f30 c30 [a0, a1] si K = v30 (prims P ro) a0 a1 si K := xbody_eq 27 P ro (x30 _ a0 a1 si K)
theorem r30 (I : Prims) (si : St) (K : Value → St → Prop) (τ : Tau) (ds : List Deferred) (s : St) : xleave I si Tryd.f30.results.toList K .ret τ [] ds s =
 (xdefers I ds s fun s0 =>
 I.fin si K (τ 4) s0) := by kernel_rfl
/- (*attestor/circuit.Builder).Power -/
noncomputable def c31 : Code := bodyOf Tryd.f31
noncomputable def c31_11110100 : Code := subCode [1, 1, 1, 1, 0, 1, 0, 0] c31
def k31 : List (List Nat) := []
def k31_11110100 : List (List Nat) := []
theorem l31_11110100 : ltCode 56 c31_11110100 = true := by kernel_rfl
theorem m31_11110100 : notMap c31_11110100 = true := by kernel_rfl
theorem b31 : BodyOk P 56 3 31 Tryd.f31 c31 := ⟨Tryd.func31, by kernel_rfl, by kernel_rfl, by kernel_rfl, by kernel_rfl, by kernel_rfl⟩
def v31_11110100 (I : Prims) (rnd : Option Nat) (τ : Tau) (ds : List Deferred) (s : St) (Q : Ex → WK) : Prop :=
 I.wop (.binOp .lss 3 (.const (τ 23)) (.const (τ 22)) 3) 4 s fun v24_0 s0 =>
 wdec v24_0
 (I.wop (.indexAddr 30 (.const (τ 1)) (.const (τ 23))) 0 s0 fun v31_1 s1 =>
 I.wop (.load 3 (.const v31_1)) 3 s1 fun v32_2 s2 =>
 veq v32_2 v32_2 = true ∧ I.wop (.indexAddr 30 (.const (τ 1)) (.const (τ 23))) 0 s2 fun v35_3 s3 =>
 I.wop (.load 3 (.const v35_3)) 3 s3 fun v36_4 s4 =>
 veq v36_4 v36_4 = true ∧ I.wop (.nilCheck (.const (τ 0))) 0 s4 fun v38_5 s5 =>
 I.wop (.fieldAddr 81 (.const v38_5) 1) 0 s5 fun v39_6 s6 =>
 I.wop (.fieldAddr 34 (.const v39_6) 0) 0 s6 fun v40_7 s7 =>
 I.wop (.load 3 (.const v40_7)) 3 s7 fun v41_8 s8 =>
 veq v41_8 v41_8 = true ∧ I.call 69 [v41_8, (τ 2), (.int .u64 1)] s8 fun v43_9 s9 =>
 Grew s8 s9 ∧ I.call 43 [(τ 0), v32_2, v36_4, v43_9, (.int .u64 0), (.int .u64 1)] s9 fun v44_10 s10 =>
 I.call 21 [(τ 0), (τ 7), v44_10] s10 fun v45_11 s11 =>
 I.wop (.nilCheck (.const (τ 0))) 0 s11 fun v47_12 s12 =>
 I.wop (.fieldAddr 81 (.const v47_12) 1) 0 s12 fun v48_13 s13 =>
 I.wop (.fieldAddr 34 (.const v48_13) 0) 0 s13 fun v49_14 s14 =>
 I.wop (.load 3 (.const v49_14)) 3 s14 fun v50_15 s15 =>
 I.call 70 [v50_15, (τ 2), (τ 2)] s15 fun v53_16 s16 =>
 I.wop (.binOp .add 3 (.const (τ 23)) (.const (.int .i64 1)) 3) 3 s16 fun v54_17 s17 =>
 Q .normal (U τ [(23, v54_17), (54, v54_17), (2, v53_16), (53, v53_16), (52, (τ 2)), (51, (τ 2)), (50, v50_15), (49, v49_14), (48, v48_13), (47, v47_12), (46, (τ 0)), (7, v45_11), (45, v45_11), (44, v44_10), (43, v43_9), (42, (τ 2)), (41, v41_8), (40, v40_7), (39, v39_6), (38, v38_5), (37, (τ 0)), (36, v36_4), (35, v35_3), (34, (τ 23)), (33, (τ 1)), (32, v32_2), (31, v31_1), (30, (τ 23)), (29, (τ 1)), (28, (τ 0)), (27, (τ 7)), (26, (τ 0)), (8, (τ 23)), (25, (τ 23)), (24, (.bool true)), (24, v24_0)]) ds s17)
 (Q (.exit 0) (U τ [(24, (.bool false)), (24, v24_0)]) ds s0)
theorem x31_11110100 (I : Prims) (rnd : Option Nat) (τ : Tau) (ds : List Deferred) (s : St) (Q : Ex → WK) : xp I rnd 56 k31_11110100 c31_11110100 [] τ [] ds s (lift Q) = v31_11110100 I rnd τ ds s Q := by kernel_rfl
theorem n31_11110100 [Memo] (ro : Nat) (rnd : Option Nat) (τ : Tau) (ds : List Deferred) (s : St) (Q : Ex → WK) : wp P ro 56 rnd c31_11110100 τ ds s Q = v31_11110100 (prims P ro) rnd τ ds s Q := xp_wp rnd 56 P ro (x31_11110100 _ rnd τ ds s Q)
def v31 (I : Prims) (a0 a1 a2 : Value) (si : St) (K : Value → St → Prop) : Prop :=
 I.call 39 [a0, a1] (ent si) fun v12_0 s0 =>
 I.wop (.buildSlice 23 1 ⟨[(0, (.const a2))]⟩) 23 s0 fun v14_1 s1 =>
 I.call 38 [a0, v12_0, v14_1] s1 fun v15_2 s2 =>
 I.wop (.unOp .not 4 (.const v15_2)) 4 s2 fun v16_3 s3 =>
 wdec v16_3
 (I.fin si K (.int .i64 (-1)) s3)
 (I.call 40 [a0] s3 fun v18_4 s4 =>
 (none : Option Nat) = none ∧ I.wdefer (.defer ⟨.value (.const v18_4), ⟨[]⟩, #[]⟩) 0 s4 fun d5 s5 =>
 I.call 22 [a0, (.int .u64 1)] s5 fun v20_6 s6 =>
 I.wop (.call ⟨.builtin .len, ⟨[(.const a1)]⟩, #[30]⟩) 3 s6 fun v22_7 s7 =>
 I.loop 56 none c31_11110100 (U undefT [(23, (.int .i64 0)), (22, v22_7), (21, a1), (7, v20_6), (20, v20_6), (19, a0), (18, v18_4), (17, a0), (16, (.bool false)), (16, v16_3), (15, v15_2), (14, v14_1), (13, a2), (12, v12_0), (11, a1), (10, a0), (9, a0), (6, (.int .i64 0)), (0, a0), (1, a1), (2, a2)]) (d5 :: []) s7 (fun τ ds s => ((xleave I si Tryd.f31.results.toList K) .ret) τ [] ds s) [(0, fun τ8 ds8 s8 =>
 xdefers I ds8 s8 fun s9 =>
 I.fin si K (τ8 7) s9)])
theorem x31 (I : Prims) (a0 a1 a2 : Value) (si : St) (K : Value → St → Prop) : xbody I 56 k31 Tryd.f31 c31 [a0, a1, a2] si K = v31 I a0 a1 a2 si K := by kernel_rfl
theorem n31 [Memo] (ro : Nat) (a0 a1 a2 : Value) (si : St) (K : Value → St → Prop) : wbody P ro 56 Tryd.f31 c31 [a0, a1, a2] si K = v31 (prims P ro) a0 a1 a2 si K := xbody_eq 56 P ro (x31 _ a0 a1 a2 si K)
theorem r31 (I : Prims) (si : St) (K : Value → St → Prop) (τ : Tau) (ds : List Deferred) (s : St) : xleave I si Tryd.f31.results.toList K .ret τ [] ds s =
 (xdefers I ds s fun s0 =>
 I.fin si K (τ 6) s0) := by kernel_rfl
/- (*attestor/circuit.Builder).Pick -/
noncomputable def c32 : Code := bodyOf Tryd.f32
noncomputable def c32_11 : Code := subCode [1, 1] c32
noncomputable def c32_1110100 : Code := subCode [1, 1, 1, 0, 1, 0, 0] c32
noncomputable def c32_11101001100110100 : Code := subCode [1, 1, 1, 0, 1, 0, 0, 1, 1, 0, 0, 1, 1, 0, 1, 0, 0] c32
noncomputable def c32_11101001100110101 : Code := subCode [1, 1, 1, 0, 1, 0, 0, 1, 1, 0, 0, 1, 1, 0, 1, 0, 1] c32
def k32 : List (List Nat) := [[1, 1]]
def k32_1110100 : List (List Nat) := []
theorem l32_1110100 : ltCode 88 c32_1110100 = true := by kernel_rfl
theorem m32_1110100 : notMap c32_1110100 = true := by kernel_rfl
def k32_11101001100110100 : List (List Nat) := []
theorem l32_11101001100110100 : ltCode 88 c32_11101001100110100 = true := by kernel_rfl
theorem m32_11101001100110100 : notMap c32_11101001100110100 = true := by kernel_rfl
def k32_11101001100110101 : List (List Nat) := []
theorem l32_11101001100110101 : ltCode 88 c32_11101001100110101 = true := by kernel_rfl
theorem m32_11101001100110101 : notMap c32_11101001100110101 = true := by kernel_rfl
theorem b32 : BodyOk P 88 3 32 Tryd.f32 c32 := ⟨Tryd.func32, by kernel_rfl, by kernel_rfl, by kernel_rfl, by kernel_rfl, by kernel_rfl⟩
def v32_11 (I : Prims) (τ : Tau) (ds : List Deferred) (s : St) (Q : Ex → XK) : Prop :=
 I.wop (.load 25 (.const (τ 3))) 25 s fun v38_0 s0 =>
 I.call 40 [v38_0] s0 fun v39_1 s1 =>
 (none : Option Nat) = none ∧ I.wdefer (.defer ⟨.value (.const v39_1), ⟨[]⟩, #[]⟩) 0 s1 fun d2 s2 =>
 I.wop (.call ⟨.builtin .len, ⟨[(.const (τ 1))]⟩, #[30]⟩) 3 s2 fun v41_3 s3 =>
 I.loop 88 none c32_1110100 (U τ [(42, (.int .i64 0)), (41, v41_3), (40, (τ 1)), (39, v39_1), (38, v38_0)]) (d2 :: ds) s3 (fun τ ds s => (Q .ret) τ [] ds s) [(0, fun τ4 ds4 s4 =>
 I.wop (.load 25 (.const (τ4 3))) 25 s4 fun v78_5 s5 =>
 veq v78_5 v78_5 = true ∧ I.wop (.indexAddr 46 (.const (τ4 2)) (.const (.int .i64 0))) 0 s5 fun v80_6 s6 =>
 I.wop (.indexAddr 47 (.const v80_6) (.const (.int .i64 0))) 0 s6 fun v81_7 s7 =>
 I.wop (.load 3 (.const v81_7)) 3 s7 fun v82_8 s8 =>
 veq v82_8 v82_8 = true ∧ I.wop (.indexAddr 46 (.const (τ4 2)) (.const (.int .i64 0))) 0 s8 fun v84_9 s9 =>
 I.wop (.indexAddr 47 (.const v84_9) (.const (.int .i64 1))) 0 s9 fun v85_10 s10 =>
 I.wop (.load 3 (.const v85_10)) 3 s10 fun v86_11 s11 =>
 veq v86_11 v86_11 = true ∧ I.call 57 [v78_5, v82_8, v86_11] s11 fun v87_12 s12 =>
 I.wop (.store 47 (.const (τ4 6)) (.const v87_12)) 0 s12 fun _ s13 =>
 Q .ret τ4 [(87, v87_12), (86, v86_11), (85, v85_10), (84, v84_9), (83, (τ4 2)), (82, v82_8), (81, v81_7), (80, v80_6), (79, (τ4 2)), (78, v78_5)] ds4 s13)]
theorem n32_11 (I : Prims) (τ : Tau) (ds : List Deferred) (s : St) (Q : Ex → XK) : xp I none 88 k32 c32_11 [1, 1] τ [] ds s Q = v32_11 I τ ds s Q := by kernel_rfl
def v32_1110100 (I : Prims) (rnd : Option Nat) (τ : Tau) (ds : List Deferred) (s : St) (Q : Ex → WK) : Prop :=
 I.wop (.binOp .lss 3 (.const (τ 42)) (.const (τ 41)) 3) 0 s fun v43_0 s0 =>
 wdec v43_0
 (I.wop (.indexAddr 30 (.const (τ 40)) (.const (τ 42))) 0 s0 fun v44_1 s1 =>
 I.wop (.load 3 (.const v44_1)) 3 s1 fun v45_2 s2 =>
 I.wop (.alloc 3) 0 s2 fun v8_3 s3 =>
 I.wop (.store 3 (.const v8_3) (.const v45_2)) 0 s3 fun _ s4 =>
 I.wop (.alloc 46) 0 s4 fun v9_5 s5 =>
 I.call 71 [(τ 2), (.int .i64 2)] s5 fun v47_6 s6 =>
 I.range 88 rnd v47_6 #[48] c32_11101001100110100 c32_11101001100110101 (U τ [(47, v47_6), (46, (τ 2)), (9, v9_5), (8, v8_3), (45, v45_2), (44, v44_1), (43, (.bool true)), (43, v43_0)]) ds s6 (fun τ7 ds7 s7 =>
 I.wop (.load 46 (.const (τ7 9))) 46 s7 fun v76_8 s8 =>
 I.wop (.binOp .add 3 (.const (τ7 42)) (.const (.int .i64 1)) 3) 3 s8 fun v77_9 s9 =>
 Q .normal (U τ7 [(42, v77_9), (77, v77_9), (2, v76_8), (76, v76_8)]) ds7 s9) (fun τ ds s => ((lift Q) .ret) τ [] ds s) [])
 (Q (.exit 0) (U τ [(43, (.bool false)), (43, v43_0)]) ds s0)
theorem x32_1110100 (I : Prims) (rnd : Option Nat) (τ : Tau) (ds : List Deferred) (s : St) (Q : Ex → WK) : xp I rnd 88 k32_1110100 c32_1110100 [] τ [] ds s (lift Q) = v32_1110100 I rnd τ ds s Q := by kernel_rfl
theorem n32_1110100 [Memo] (ro : Nat) (rnd : Option Nat) (τ : Tau) (ds : List Deferred) (s : St) (Q : Ex → WK) : wp P ro 88 rnd c32_1110100 τ ds s Q = v32_1110100 (prims P ro) rnd τ ds s Q := xp_wp rnd 88 P ro (x32_1110100 _ rnd τ ds s Q)
def v32_11101001100110100 (I : Prims) (rnd : Option Nat) (τ : Tau) (ds : List Deferred) (s : St) (Q : Ex → WK) : Prop :=
 Q .normal (U τ [(10, (τ 48))]) ds s
theorem x32_11101001100110100 (I : Prims) (rnd : Option Nat) (τ : Tau) (ds : List Deferred) (s : St) (Q : Ex → WK) : xp I rnd 88 k32_11101001100110100 c32_11101001100110100 [] τ [] ds s (lift Q) = v32_11101001100110100 I rnd τ ds s Q := by kernel_rfl
theorem n32_11101001100110100 [Memo] (ro : Nat) (rnd : Option Nat) (τ : Tau) (ds : List Deferred) (s : St) (Q : Ex → WK) : wp P ro 88 rnd c32_11101001100110100 τ ds s Q = v32_11101001100110100 (prims P ro) rnd τ ds s Q := xp_wp rnd 88 P ro (x32_11101001100110100 _ rnd τ ds s Q)
def v32_11101001100110101 (I : Prims) (rnd : Option Nat) (τ : Tau) (ds : List Deferred) (s : St) (Q : Ex → WK) : Prop :=
 I.wop (.load 25 (.const (τ 3))) 25 s fun v49_0 s0 =>
 veq v49_0 v49_0 = true ∧ I.wop (.load 3 (.const (τ 8))) 3 s0 fun v50_1 s1 =>
 veq v50_1 v50_1 = true ∧ I.wop (.indexAddr 46 (.const (τ 10)) (.const (.int .i64 0))) 0 s1 fun v52_2 s2 =>
 I.wop (.indexAddr 47 (.const v52_2) (.const (.int .i64 0))) 0 s2 fun v53_3 s3 =>
 I.wop (.load 3 (.const v53_3)) 3 s3 fun v54_4 s4 =>
 veq v54_4 v54_4 = true ∧ I.wop (.indexAddr 46 (.const (τ 10)) (.const (.int .i64 1))) 0 s4 fun v56_5 s5 =>
 I.wop (.indexAddr 47 (.const v56_5) (.const (.int .i64 0))) 0 s5 fun v57_6 s6 =>
 I.wop (.load 3 (.const v57_6)) 3 s6 fun v58_7 s7 =>
 veq v58_7 v58_7 = true ∧ I.call 55 [v49_0, v50_1, v54_4, v58_7] s7 fun v59_8 s8 =>
 I.wop (.load 46 (.const (τ 9))) 46 s8 fun v60_9 s9 =>
 veq v60_9 v60_9 = true ∧ I.wop (.load 25 (.const (τ 3))) 25 s9 fun v62_10 s10 =>
 veq v62_10 v62_10 = true ∧ I.wop (.load 3 (.const (τ 8))) 3 s10 fun v63_11 s11 =>
 veq v63_11 v63_11 = true ∧ I.wop (.indexAddr 46 (.const (τ 10)) (.const (.int .i64 0))) 0 s11 fun v65_12 s12 =>
 I.wop (.indexAddr 47 (.const v65_12) (.const (.int .i64 1))) 0 s12 fun v66_13 s13 =>
 I.wop (.load 3 (.const v66_13)) 3 s13 fun v67_14 s14 =>
 veq v67_14 v67_14 = true ∧ I.wop (.indexAddr 46 (.const (τ 10)) (.const (.int .i64 1))) 0 s14 fun v69_15 s15 =>
 I.wop (.indexAddr 47 (.const v69_15) (.const (.int .i64 1))) 0 s15 fun v70_16 s16 =>
 I.wop (.load 3 (.const v70_16)) 3 s16 fun v71_17 s17 =>
 veq v71_17 v71_17 = true ∧ I.call 55 [v62_10, v63_11, v67_14, v71_17] s17 fun v72_18 s18 =>
 Grew s17 s18 ∧ I.wop (.build 47 ⟨[(0, (.const v59_8)), (1, (.const v72_18))]⟩) 47 s18 fun v73_19 s19 =>
 I.wop (.buildSlice 46 1 ⟨[(0, (.const v73_19))]⟩) 46 s19 fun v74_20 s20 =>
 FreshOk s19 s20 ∧ I.wop (.call ⟨.builtin .append, ⟨[(.const v60_9), (.const v74_20)]⟩, #[46, 46]⟩) 46 s20 fun v75_21 s21 =>
 s20.n ≤ s21.n ∧ I.wop (.store 46 (.const (τ 9)) (.const v75_21)) 0 s21 fun _ s22 =>
 s21.n ≤ s22.n ∧ Q .normal (U τ [(75, v75_21), (74, v74_20), (73, v73_19), (72, v72_18), (71, v71_17), (70, v70_16), (69, v69_15), (68, (τ 10)), (67, v67_14), (66, v66_13), (65, v65_12), (64, (τ 10)), (63, v63_11), (62, v62_10), (61, v59_8), (60, v60_9), (11, v59_8), (59, v59_8), (58, v58_7), (57, v57_6), (56, v56_5), (55, (τ 10)), (54, v54_4), (53, v53_3), (52, v52_2), (51, (τ 10)), (50, v50_1), (49, v49_0)]) ds s22
theorem x32_11101001100110101 (I : Prims) (rnd : Option Nat) (τ : Tau) (ds : List Deferred) (s : St) (Q : Ex → WK) : xp I rnd 88 k32_11101001100110101 c32_11101001100110101 [] τ [] ds s (lift Q) = v32_11101001100110101 I rnd τ ds s Q := by kernel_rfl
theorem n32_11101001100110101 [Memo] (ro : Nat) (rnd : Option Nat) (τ : Tau) (ds : List Deferred) (s : St) (Q : Ex → WK) : wp P ro 88 rnd c32_11101001100110101 τ ds s Q = v32_11101001100110101 (prims P ro) rnd τ ds s Q := xp_wp rnd 88 P ro (x32_11101001100110101 _ rnd τ ds s Q)
def v32 (I : Prims) (a0 a1 a2 : Value) (si : St) (K : Value → St → Prop) : Prop :=
 I.wop (.box 25 (.const a0)) 0 (ent si) fun v3_0 s0 =>
 I.wop (.alloc 47) 0 s0 fun v6_1 s1 =>
 I.wop (.load 25 (.const v3_0)) 25 s1 fun v12_2 s2 =>
 veq v12_2 v12_2 = true ∧ I.wop (.call ⟨.builtin .len, ⟨[(.const a1)]⟩, #[30]⟩) 3 s2 fun v14_3 s3 =>
 I.wop (.binOp .leq 3 (.const v14_3) (.const (.int .i64 8)) 3) 4 s3 fun v15_4 s4 =>
 wdec v15_4
 (I.wop (.call ⟨.builtin .len, ⟨[(.const a2)]⟩, #[46]⟩) 3 s4 fun v18_5 s5 =>
 I.wop (.call ⟨.builtin .len, ⟨[(.const a1)]⟩, #[30]⟩) 3 s5 fun v20_6 s6 =>
 I.wop (.call ⟨.builtin .min, ⟨[(.const v20_6), (.const (.int .i64 8))]⟩, #[3, 3]⟩) 3 s6 fun v21_7 s7 =>
 I.wop (.binOp .shl 3 (.const (.int .i64 1)) (.const v21_7) 3) 3 s7 fun v22_8 s8 =>
 I.wop (.binOp .eql 3 (.const v18_5) (.const v22_8) 3) 4 s8 fun v23_9 s9 =>
 wdec v23_9
 (I.wop (.load 25 (.const v3_0)) 25 s9 fun v26_10 s10 =>
 veq v26_10 v26_10 = true ∧ I.call 39 [v26_10, a1] s10 fun v28_11 s11 =>
 Grew s10 s11 ∧ wdec v28_11
 (I.wop (.load 25 (.const v3_0)) 25 s11 fun v31_12 s12 =>
 veq v31_12 v31_12 = true ∧ I.call 54 [v31_12, a2] s12 fun v33_13 s13 =>
 Grew s12 s13 ∧ I.call 38 [v12_2, v33_13, (.slice none 0 0)] s13 fun v35_14 s14 =>
 I.wop (.unOp .not 4 (.const v35_14)) 4 s14 fun v36_15 s15 =>
 wdec v36_15
 (I.wop (.build 47 ⟨[(0, (.const (.int .i64 (-1)))), (1, (.const (.int .i64 (-1))))]⟩) 47 s15 fun v37_16 s16 =>
 I.wop (.store 47 (.const v6_1) (.const v37_16)) 0 s16 fun _ s17 =>
 I.wop (.load 47 (.const v6_1)) 47 s17 fun v6_18 _ =>
 I.fin si K v6_18 s17)
 (I.hold (xp I none 88 k32 c32_11 [1, 1] (U undefT [(36, (.bool false)), (36, v36_15), (35, v35_14), (34, v33_13), (30, (.bool true)), (33, v33_13), (30, (.bool true)), (32, a2), (30, (.bool true)), (31, v31_12), (30, (.bool true)), (30, v28_11), (29, v28_11), (25, (.bool true)), (28, v28_11), (25, (.bool true)), (27, a1), (25, (.bool true)), (26, v26_10), (25, (.bool true)), (25, v23_9), (24, v23_9), (16, (.bool true)), (23, v23_9), (16, (.bool true)), (22, v22_8), (16, (.bool true)), (21, v21_7), (16, (.bool true)), (20, v20_6), (16, (.bool true)), (19, a1), (16, (.bool true)), (18, v18_5), (16, (.bool true)), (17, a2), (16, (.bool true)), (16, v15_4), (15, v15_4), (14, v14_3), (13, a1), (12, v12_2), (6, v6_1), (3, v3_0), (0, a0), (1, a1), (2, a2)]) [] [] s15 (xleave I si Tryd.f32.results.toList K))))
 (I.call 38 [v12_2, (.bool false), (.slice none 0 0)] s11 fun v35_19 s19 =>
 I.wop (.unOp .not 4 (.const v35_19)) 4 s19 fun v36_20 s20 =>
 wdec v36_20
 (I.wop (.build 47 ⟨[(0, (.const (.int .i64 (-1)))), (1, (.const (.int .i64 (-1))))]⟩) 47 s20 fun v37_21 s21 =>
 I.wop (.store 47 (.const v6_1) (.const v37_21)) 0 s21 fun _ s22 =>
 I.wop (.load 47 (.const v6_1)) 47 s22 fun v6_23 _ =>
 I.fin si K v6_23 s22)
 (I.hold (xp I none 88 k32 c32_11 [1, 1] (U undefT [(36, (.bool false)), (36, v36_20), (35, v35_19), (34, (.bool false)), (30, (.bool false)), (33, undef), (30, (.bool false)), (32, undef), (30, (.bool false)), (31, undef), (30, (.bool false)), (30, v28_11), (29, v28_11), (25, (.bool true)), (28, v28_11), (25, (.bool true)), (27, a1), (25, (.bool true)), (26, v26_10), (25, (.bool true)), (25, v23_9), (24, v23_9), (16, (.bool true)), (23, v23_9), (16, (.bool true)), (22, v22_8), (16, (.bool true)), (21, v21_7), (16, (.bool true)), (20, v20_6), (16, (.bool true)), (19, a1), (16, (.bool true)), (18, v18_5), (16, (.bool true)), (17, a2), (16, (.bool true)), (16, v15_4), (15, v15_4), (14, v14_3), (13, a1), (12, v12_2), (6, v6_1), (3, v3_0), (0, a0), (1, a1), (2, a2)]) [] [] s20 (xleave I si Tryd.f32.results.toList K)))))
 (I.call 38 [v12_2, (.bool false), (.slice none 0 0)] s9 fun v35_24 s24 =>
 I.wop (.unOp .not 4 (.const v35_24)) 4 s24 fun v36_25 s25 =>
 wdec v36_25
 (I.wop (.build 47 ⟨[(0, (.const (.int .i64 (-1)))), (1, (.const (.int .i64 (-1))))]⟩) 47 s25 fun v37_26 s26 =>
 I.wop (.store 47 (.const v6_1) (.const v37_26)) 0 s26 fun _ s27 =>
 I.wop (.load 47 (.const v6_1)) 47 s27 fun v6_28 _ =>
 I.fin si K v6_28 s27)
 (I.hold (xp I none 88 k32 c32_11 [1, 1] (U undefT [(36, (.bool false)), (36, v36_25), (35, v35_24), (34, (.bool false)), (30, (.bool false)), (33, undef), (30, (.bool false)), (32, undef), (30, (.bool false)), (31, undef), (30, (.bool false)), (30, (.bool false)), (29, (.bool false)), (25, (.bool false)), (28, undef), (25, (.bool false)), (27, undef), (25, (.bool false)), (26, undef), (25, (.bool false)), (25, v23_9), (24, v23_9), (16, (.bool true)), (23, v23_9), (16, (.bool true)), (22, v22_8), (16, (.bool true)), (21, v21_7), (16, (.bool true)), (20, v20_6), (16, (.bool true)), (19, a1), (16, (.bool true)), (18, v18_5), (16, (.bool true)), (17, a2), (16, (.bool true)), (16, v15_4), (15, v15_4), (14, v14_3), (13, a1), (12, v12_2), (6, v6_1), (3, v3_0), (0, a0), (1, a1), (2, a2)]) [] [] s25 (xleave I si Tryd.f32.results.toList K)))))
 (I.call 38 [v12_2, (.bool false), (.slice none 0 0)] s4 fun v35_29 s29 =>
 I.wop (.unOp .not 4 (.const v35_29)) 4 s29 fun v36_30 s30 =>
 wdec v36_30
 (I.wop (.build 47 ⟨[(0, (.const (.int .i64 (-1)))), (1, (.const (.int .i64 (-1))))]⟩) 47 s30 fun v37_31 s31 =>
 I.wop (.store 47 (.const v6_1) (.const v37_31)) 0 s31 fun _ s32 =>
 I.wop (.load 47 (.const v6_1)) 47 s32 fun v6_33 _ =>
 I.fin si K v6_33 s32)
 (I.hold (xp I none 88 k32 c32_11 [1, 1] (U undefT [(36, (.bool false)), (36, v36_30), (35, v35_29), (34, (.bool false)), (30, (.bool false)), (33, undef), (30, (.bool false)), (32, undef), (30, (.bool false)), (31, undef), (30, (.bool false)), (30, (.bool false)), (29, (.bool false)), (25, (.bool false)), (28, undef), (25, (.bool false)), (27, undef), (25, (.bool false)), (26, undef), (25, (.bool false)), (25, (.bool false)), (24, (.bool false)), (16, (.bool false)), (23, undef), (16, (.bool false)), (22, undef), (16, (.bool false)), (21, undef), (16, (.bool false)), (20, undef), (16, (.bool false)), (19, undef), (16, (.bool false)), (18, undef), (16, (.bool false)), (17, undef), (16, (.bool false)), (16, v15_4), (15, v15_4), (14, v14_3), (13, a1), (12, v12_2), (6, v6_1), (3, v3_0), (0, a0), (1, a1), (2, a2)]) [] [] s30 (xleave I si Tryd.f32.results.toList K))))
theorem x32 (I : Prims) (a0 a1 a2 : Value) (si : St) (K : Value → St → Prop) : xbody I 88 k32 Tryd.f32 c32 [a0, a1, a2] si K = v32 I a0 a1 a2 si K := by kernel_rfl
theorem n32 [Memo] (ro : Nat) (a0 a1 a2 : Value) (si : St) (K : Value → St → Prop) : wbody P ro 88 Tryd.f32 c32 [a0, a1, a2] si K = v32 (prims P ro) a0 a1 a2 si K := xbody_eq 88 P ro (x32 _ a0 a1 a2 si K)
theorem r32 (I : Prims) (si : St) (K : Value → St → Prop) (τ : Tau) (ds : List Deferred) (s : St) : xleave I si Tryd.f32.results.toList K .ret τ [] ds s =
 (xdefers I ds s fun s0 =>
 I.wop (.load 47 (.const (τ 6))) 47 s0 fun v6_1 _ =>
 I.fin si K v6_1 s0) := by kernel_rfl
/- attestor/attestorref01.Pow -/
noncomputable def c33 : Code := bodyOf Tryd.f33
def k33 : List (List Nat) := []
theorem b33 : BodyOk P 30 3 33 Tryd.f33 c33 := ⟨Tryd.func33, by kernel_rfl, by kernel_rfl, by kernel_rfl, by kernel_rfl, by kernel_rfl⟩
def v33 (I : Prims) (a0 a1 a2 : Value) (si : St) (K : Value → St → Prop) : Prop :=
 I.call 16 [a0] (ent si) fun v9_0 s0 =>
 I.wop (.unOp .not 4 (.const v9_0)) 4 s0 fun v10_1 s1 =>
 wdec v10_1
 (I.fin si K (.int .u64 0) s1)
 (I.wop (.binOp .eql 24 (.const a2) (.const (.int .u64 0)) 24) 4 s1 fun v12_2 s2 =>
 wdec v12_2
 (I.fin si K (.int .u64 1) s2)
 (I.wop (.binOp .quo 24 (.const a2) (.const (.int .u64 2)) 24) 24 s2 fun v16_3 s3 =>
 I.call 33 [a0, a1, v16_3] s3 fun v17_4 s4 =>
 I.call 72 [a0, v17_4, v17_4] s4 fun v21_5 s5 =>
 I.wop (.binOp .rem 24 (.const a2) (.const (.int .u64 2)) 24) 24 s5 fun v23_6 s6 =>
 I.wop (.binOp .eql 24 (.const v23_6) (.const (.int .u64 1)) 24) 4 s6 fun v24_7 s7 =>
 wdec v24_7
 (I.call 72 [a0, v21_5, a1] s7 fun v28_8 s8 =>
 I.fin si K v28_8 s8)
 (I.fin si K v21_5 s7)))
theorem x33 (I : Prims) (a0 a1 a2 : Value) (si : St) (K : Value → St → Prop) : xbody I 30 k33 Tryd.f33 c33 [a0, a1, a2] si K = v33 I a0 a1 a2 si K := by kernel_rfl
theorem n33 [Memo] (ro : Nat) (a0 a1 a2 : Value) (si : St) (K : Value → St → Prop) : wbody P ro 30 Tryd.f33 c33 [a0, a1, a2] si K = v33 (prims P ro) a0 a1 a2 si K := xbody_eq 30 P ro (x33 _ a0 a1 a2 si K)
theorem r33 (I : Prims) (si : St) (K : Value → St → Prop) (τ : Tau) (ds : List Deferred) (s : St) : xleave I si Tryd.f33.results.toList K .ret τ [] ds s =
 (xdefers I ds s fun s0 =>
 I.fin si K (τ 6) s0) := by kernel_rfl
/- (*attestor/circuit.Builder).Bit -/
noncomputable def c34 : Code := bodyOf Tryd.f34
def k34 : List (List Nat) := []
theorem b34 : BodyOk P 18 2 34 Tryd.f34 c34 := ⟨Tryd.func34, by kernel_rfl, by kernel_rfl, by kernel_rfl, by kernel_rfl, by kernel_rfl⟩
def v34 (I : Prims) (a0 a1 : Value) (si : St) (K : Value → St → Prop) : Prop :=
 I.wop (.buildSlice 30 1 ⟨[(0, (.const a1))]⟩) 30 (ent si) fun v7_0 s0 =>
 I.call 39 [a0, v7_0] s0 fun v8_1 s1 =>
 I.call 38 [a0, v8_1, (.slice none 0 0)] s1 fun v9_2 s2 =>
 wdec v9_2
 (I.call 44 [a0] s2 fun v14_3 s3 =>
 I.call 63 [a1, a1, (.int .i64 (-1)), v14_3, (.int .u64 0), (.int .u64 1), (.int .u64 0), (.int .u64 0)] s3 fun v15_4 s4 =>
 I.wop (.buildSlice 32 1 ⟨[(0, (.const v15_4))]⟩) 32 s4 fun v16_5 s5 =>
 I.call 62 [a0, (.int .i64 0), v16_5] s5 fun _ s6 =>
 I.fin si K (.tuple (.mk [])) s6)
 (I.fin si K (.tuple (.mk [])) s2)
theorem x34 (I : Prims) (a0 a1 : Value) (si : St) (K : Value → St → Prop) : xbody I 18 k34 Tryd.f34 c34 [a0, a1] si K = v34 I a0 a1 si K := by kernel_rfl
theorem n34 [Memo] (ro : Nat) (a0 a1 : Value) (si : St) (K : Value → St → Prop) : wbody P ro 18 Tryd.f34 c34 [a0, a1] si K = v34 (prims P ro) a0 a1 si K := xbody_eq 18 P ro (x34 _ a0 a1 si K)
theorem r34 (I : Prims) (si : St) (K : Value → St → Prop) (τ : Tau) (ds : List Deferred) (s : St) : xleave I si Tryd.f34.results.toList K .ret τ [] ds s =
 (xdefers I ds s fun s0 =>
 I.fin si K (.tuple (.mk [])) s0) := by kernel_rfl
/- attestor/attestorlaw30.program -/
noncomputable def c35 : Code := bodyOf Tryd.f35
def k35 : List (List Nat) := []
theorem b35 : BodyOk P 171 2 35 Tryd.f35 c35 := ⟨Tryd.func35, by kernel_rfl, by kernel_rfl, by kernel_rfl, by kernel_rfl, by kernel_rfl⟩
def v35 (I : Prims) (a0 a1 : Value) (si : St) (K : Value → St → Prop) : Prop :=
 I.wop (.box 79 (.const a1)) 0 (ent si) fun v3_0 s0 =>
 I.wop (.fieldAddr 79 (.const v3_0) 0) 0 s0 fun v13_1 s1 =>
 I.wop (.load 5 (.const v13_1)) 5 s1 fun v14_2 s2 =>
 I.wop (.binOp .rem 5 (.const v14_2) (.const (.int .u8 17)) 5) 5 s2 fun v15_3 s3 =>
 I.wop (.binOp .eql 5 (.const v15_3) (.const (.int .u8 0)) 5) 4 s3 fun v17_4 s4 =>
 wdec v17_4
 (I.wop (.fieldAddr 79 (.const v3_0) 2) 0 s4 fun v19_5 s5 =>
 I.wop (.load 24 (.const v19_5)) 24 s5 fun v20_6 s6 =>
 I.call 22 [a0, v20_6] s6 fun v21_7 s7 =>
 I.wop (.buildSlice 30 1 ⟨[(0, (.const v21_7))]⟩) 30 s7 fun v22_8 s8 =>
 I.fin si K v22_8 s8)
 (I.wop (.binOp .eql 5 (.const v15_3) (.const (.int .u8 1)) 5) 4 s4 fun v24_9 s9 =>
 wdec v24_9
 (I.wop (.load 79 (.const v3_0)) 79 s9 fun v26_10 s10 =>
 veq v26_10 v26_10 = true ∧ I.wop (.load 79 (.const v3_0)) 79 s10 fun v28_11 s11 =>
 veq v28_11 v28_11 = true ∧ I.wop (.fieldAddr 79 (.const v3_0) 2) 0 s11 fun v30_12 s12 =>
 I.wop (.load 24 (.const v30_12)) 24 s12 fun v31_13 s13 =>
 veq v31_13 v31_13 = true ∧ I.wop (.fieldAddr 79 (.const v3_0) 3) 0 s13 fun v32_14 s14 =>
 I.wop (.load 24 (.const v32_14)) 24 s14 fun v33_15 s15 =>
 veq v33_15 v33_15 = true ∧ I.wop (.fieldAddr 79 (.const v3_0) 4) 0 s15 fun v34_16 s16 =>
 I.wop (.load 24 (.const v34_16)) 24 s16 fun v35_17 s17 =>
 veq v35_17 v35_17 = true ∧ I.call 73 [v26_10, (.int .i64 0)] s17 fun v27_18 s18 =>
 Grew s17 s18 ∧ I.call 73 [v28_11, (.int .i64 1)] s18 fun v29_19 s19 =>
 Grew s18 s19 ∧ I.call 43 [a0, v27_18, v29_19, v31_13, v33_15, v35_17] s19 fun v36_20 s20 =>
 s19.n ≤ s20.n ∧ I.wop (.buildSlice 30 1 ⟨[(0, (.const v36_20))]⟩) 30 s20 fun v37_21 s21 =>
 FreshOk s20 s21 ∧ I.fin si K v37_21 s21)
 (I.wop (.binOp .eql 5 (.const v15_3) (.const (.int .u8 2)) 5) 4 s9 fun v39_22 s22 =>
 wdec v39_22
 (I.wop (.load 79 (.const v3_0)) 79 s22 fun v41_23 s23 =>
 veq v41_23 v41_23 = true ∧ I.wop (.load 79 (.const v3_0)) 79 s23 fun v43_24 s24 =>
 veq v43_24 v43_24 = true ∧ I.call 73 [v41_23, (.int .i64 0)] s24 fun v42_25 s25 =>
 Grew s24 s25 ∧ I.call 73 [v43_24, (.int .i64 1)] s25 fun v44_26 s26 =>
 s25.n ≤ s26.n ∧ I.call 21 [a0, v42_25, v44_26] s26 fun v45_27 s27 =>
 s26.n ≤ s27.n ∧ I.wop (.buildSlice 30 1 ⟨[(0, (.const v45_27))]⟩) 30 s27 fun v46_28 s28 =>
 FreshOk s27 s28 ∧ I.fin si K v46_28 s28)
 (I.wop (.binOp .eql 5 (.const v15_3) (.const (.int .u8 3)) 5) 4 s22 fun v48_29 s29 =>
 wdec v48_29
 (I.wop (.load 79 (.const v3_0)) 79 s29 fun v50_30 s30 =>
 I.call 73 [v50_30, (.int .i64 0)] s30 fun v51_31 s31 =>
 I.call 42 [a0, v51_31] s31 fun _ s32 =>
 I.fin si K (.slice none 0 0) s32)
 (I.wop (.binOp .eql 5 (.const v15_3) (.const (.int .u8 4)) 5) 4 s29 fun v54_33 s33 =>
 wdec v54_33
 (I.wop (.load 79 (.const v3_0)) 79 s33 fun v56_34 s34 =>
 veq v56_34 v56_34 = true ∧ I.wop (.load 79 (.const v3_0)) 79 s34 fun v58_35 s35 =>
 veq v58_35 v58_35 = true ∧ I.call 73 [v56_34, (.int .i64 0)] s35 fun v57_36 s36 =>
 Grew s35 s36 ∧ I.call 73 [v58_35, (.int .i64 1)] s36 fun v59_37 s37 =>
 I.call 74 [a0, v57_36, v59_37] s37 fun _ s38 =>
 I.fin si K (.slice none 0 0) s38)
 (I.wop (.binOp .eql 5 (.const v15_3) (.const (.int .u8 5)) 5) 4 s33 fun v62_39 s39 =>
 wdec v62_39
 (I.wop (.load 79 (.const v3_0)) 79 s39 fun v64_40 s40 =>
 I.call 73 [v64_40, (.int .i64 0)] s40 fun v65_41 s41 =>
 I.call 34 [a0, v65_41] s41 fun _ s42 =>
 I.fin si K (.slice none 0 0) s42)
 (I.wop (.binOp .eql 5 (.const v15_3) (.const (.int .u8 6)) 5) 4 s39 fun v68_43 s43 =>
 wdec v68_43
 (I.wop (.load 79 (.const v3_0)) 79 s43 fun v70_44 s44 =>
 veq v70_44 v70_44 = true ∧ I.wop (.load 79 (.const v3_0)) 79 s44 fun v72_45 s45 =>
 veq v72_45 v72_45 = true ∧ I.wop (.load 79 (.const v3_0)) 79 s45 fun v74_46 s46 =>
 veq v74_46 v74_46 = true ∧ I.call 73 [v70_44, (.int .i64 0)] s46 fun v71_47 s47 =>
 Grew s46 s47 ∧ I.call 73 [v72_45, (.int .i64 1)] s47 fun v73_48 s48 =>
 Grew s47 s48 ∧ I.call 73 [v74_46, (.int .i64 2)] s48 fun v75_49 s49 =>
 s48.n ≤ s49.n ∧ I.call 55 [a0, v71_47, v73_48, v75_49] s49 fun v76_50 s50 =>
 s49.n ≤ s50.n ∧ I.wop (.buildSlice 30 1 ⟨[(0, (.const v76_50))]⟩) 30 s50 fun v77_51 s51 =>
 FreshOk s50 s51 ∧ I.fin si K v77_51 s51)
 (I.wop (.binOp .eql 5 (.const v15_3) (.const (.int .u8 7)) 5) 4 s43 fun v79_52 s52 =>
 wdec v79_52
 (I.wop (.load 79 (.const v3_0)) 79 s52 fun v81_53 s53 =>
 I.call 75 [v81_53, (.int .i64 0)] s53 fun v82_54 s54 =>
 I.call 20 [a0, v82_54] s54 fun v83_55 s55 =>
 I.wop (.alloc 53) 0 s55 fun v5_56 s56 =>
 I.wop (.store 53 (.const v5_56) (.const v83_55)) 0 s56 fun _ s57 =>
 I.wop (.slice 53 (.const v5_56) none none none) 30 s57 fun v84_58 s58 =>
 I.fin si K v84_58 s58)
 (I.wop (.binOp .eql 5 (.const v15_3) (.const (.int .u8 8)) 5) 4 s52 fun v86_59 s59 =>
 wdec v86_59
 (I.wop (.fieldAddr 79 (.const v3_0) 1) 0 s59 fun v88_60 s60 =>
 I.wop (.load 30 (.const v88_60)) 30 s60 fun v89_61 s61 =>
 I.call 24 [a0, v89_61] s61 fun v90_62 s62 =>
 I.wop (.alloc 47) 0 s62 fun v6_63 s63 =>
 I.wop (.store 47 (.const v6_63) (.const v90_62)) 0 s63 fun _ s64 =>
 I.wop (.slice 47 (.const v6_63) none none none) 30 s64 fun v91_65 s65 =>
 I.fin si K v91_65 s65)
 (I.wop (.binOp .eql 5 (.const v15_3) (.const (.int .u8 9)) 5) 4 s59 fun v93_66 s66 =>
 wdec v93_66
 (I.wop (.load 79 (.const v3_0)) 79 s66 fun v95_67 s67 =>
 veq v95_67 v95_67 = true ∧ I.wop (.load 79 (.const v3_0)) 79 s67 fun v97_68 s68 =>
 veq v97_68 v97_68 = true ∧ I.wop (.alloc 47) 0 s68 fun v7_69 s69 =>
 FreshOk s68 s69 ∧ I.call 76 [v95_67, (.int .i64 0)] s69 fun v96_70 s70 =>
 Grew s69 s70 ∧ I.call 76 [v97_68, (.int .i64 2)] s70 fun v98_71 s71 =>
 Grew s70 s71 ∧ I.call 56 [a0, v96_70, v98_71] s71 fun v99_72 s72 =>
 Grew s71 s72 ∧ I.wop (.store 47 (.const v7_69) (.const v99_72)) 0 s72 fun _ s73 =>
 s72.n ≤ s73.n ∧ I.wop (.slice 47 (.const v7_69) none none none) 30 s73 fun v100_74 s74 =>
 I.fin si K v100_74 s74)
 (I.wop (.binOp .eql 5 (.const v15_3) (.const (.int .u8 10)) 5) 4 s66 fun v102_75 s75 =>
 wdec v102_75
 (I.wop (.load 79 (.const v3_0)) 79 s75 fun v104_76 s76 =>
 veq v104_76 v104_76 = true ∧ I.wop (.load 79 (.const v3_0)) 79 s76 fun v106_77 s77 =>
 veq v106_77 v106_77 = true ∧ I.wop (.load 79 (.const v3_0)) 79 s77 fun v108_78 s78 =>
 veq v108_78 v108_78 = true ∧ I.wop (.alloc 47) 0 s78 fun v8_79 s79 =>
 FreshOk s78 s79 ∧ I.call 77 [v104_76] s79 fun v105_80 s80 =>
 Grew s79 s80 ∧ I.call 76 [v106_77, (.int .i64 5)] s80 fun v107_81 s81 =>
 Grew s80 s81 ∧ I.call 78 [v108_78, (.int .i64 7)] s81 fun v109_82 s82 =>
 Grew s81 s82 ∧ I.call 17 [a0, v105_80, v107_81, v109_82] s82 fun v110_83 s83 =>
 Grew s82 s83 ∧ I.wop (.store 47 (.const v8_79) (.const v110_83)) 0 s83 fun _ s84 =>
 s83.n ≤ s84.n ∧ I.wop (.slice 47 (.const v8_79) none none none) 30 s84 fun v111_85 s85 =>
 I.fin si K v111_85 s85)
 (I.wop (.binOp .eql 5 (.const v15_3) (.const (.int .u8 11)) 5) 4 s75 fun v113_86 s86 =>
 wdec v113_86
 (I.wop (.load 79 (.const v3_0)) 79 s86 fun v115_87 s87 =>
 veq v115_87 v115_87 = true ∧ I.wop (.load 79 (.const v3_0)) 79 s87 fun v117_88 s88 =>
 veq v117_88 v117_88 = true ∧ I.wop (.alloc 47) 0 s88 fun v9_89 s89 =>
 FreshOk s88 s89 ∧ I.call 77 [v115_87] s89 fun v116_90 s90 =>
 Grew s89 s90 ∧ I.call 78 [v117_88, (.int .i64 4)] s90 fun v118_91 s91 =>
 Grew s90 s91 ∧ I.call 32 [a0, v116_90, v118_91] s91 fun v119_92 s92 =>
 Grew s91 s92 ∧ I.wop (.store 47 (.const v9_89) (.const v119_92)) 0 s92 fun _ s93 =>
 s92.n ≤ s93.n ∧ I.wop (.slice 47 (.const v9_89) none none none) 30 s93 fun v120_94 s94 =>
 I.fin si K v120_94 s94)
 (I.wop (.binOp .eql 5 (.const v15_3) (.const (.int .u8 12)) 5) 4 s86 fun v122_95 s95 =>
 wdec v122_95
 (I.wop (.load 79 (.const v3_0)) 79 s95 fun v124_96 s96 =>
 veq v124_96 v124_96 = true ∧ I.wop (.load 79 (.const v3_0)) 79 s96 fun v126_97 s97 =>
 veq v126_97 v126_97 = true ∧ I.wop (.alloc 53) 0 s97 fun v10_98 s98 =>
 FreshOk s97 s98 ∧ I.call 75 [v124_96, (.int .i64 0)] s98 fun v125_99 s99 =>
 Grew s98 s99 ∧ I.call 73 [v126_97, (.int .i64 4)] s99 fun v127_100 s100 =>
 Grew s99 s100 ∧ I.call 25 [a0, v125_99, v127_100] s100 fun v128_101 s101 =>
 Grew s100 s101 ∧ I.wop (.store 53 (.const v10_98) (.const v128_101)) 0 s101 fun _ s102 =>
 s101.n ≤ s102.n ∧ I.wop (.slice 53 (.const v10_98) none none none) 30 s102 fun v129_103 s103 =>
 I.fin si K v129_103 s103)
 (I.wop (.binOp .eql 5 (.const v15_3) (.const (.int .u8 13)) 5) 4 s95 fun v131_104 s104 =>
 wdec v131_104
 (I.wop (.load 79 (.const v3_0)) 79 s104 fun v134_105 s105 =>
 I.call 75 [v134_105, (.int .i64 0)] s105 fun v135_106 s106 =>
 I.call 26 [a0, v135_106] s106 fun v136_107 s107 =>
 I.wop (.extract (.const v136_107) 0) 53 s107 fun v137_108 s108 =>
 I.wop (.extract (.const v136_107) 1) 3 s108 fun v138_109 s109 =>
 I.wop (.alloc 53) 0 s109 fun v11_110 s110 =>
 I.wop (.store 53 (.const v11_110) (.const v137_108)) 0 s110 fun _ s111 =>
 I.wop (.indexAddr 53 (.const v11_110) (.const (.int .i64 0))) 0 s111 fun v139_112 s112 =>
 I.wop (.load 3 (.const v139_112)) 3 s112 fun v140_113 s113 =>
 I.wop (.indexAddr 53 (.const v11_110) (.const (.int .i64 1))) 0 s113 fun v141_114 s114 =>
 I.wop (.load 3 (.const v141_114)) 3 s114 fun v142_115 s115 =>
 I.wop (.indexAddr 53 (.const v11_110) (.const (.int .i64 2))) 0 s115 fun v143_116 s116 =>
 I.wop (.load 3 (.const v143_116)) 3 s116 fun v144_117 s117 =>
 I.wop (.indexAddr 53 (.const v11_110) (.const (.int .i64 3))) 0 s117 fun v145_118 s118 =>
 I.wop (.load 3 (.const v145_118)) 3 s118 fun v146_119 s119 =>
 I.wop (.buildSlice 30 5 ⟨[(0, (.const v140_113)), (1, (.const v142_115)), (2, (.const v144_117)), (3, (.const v146_119)), (4, (.const v138_109))]⟩) 30 s119 fun v148_120 s120 =>
 I.fin si K v148_120 s120)
 (I.wop (.binOp .eql 5 (.const v15_3) (.const (.int .u8 14)) 5) 4 s104 fun v150_121 s121 =>
 wdec v150_121
 (I.wop (.fieldAddr 79 (.const v3_0) 1) 0 s121 fun v152_122 s122 =>
 I.wop (.load 30 (.const v152_122)) 30 s122 fun v153_123 s123 =>
 I.call 30 [a0, v153_123] s123 fun v154_124 s124 =>
 I.wop (.buildSlice 30 1 ⟨[(0, (.const v154_124))]⟩) 30 s124 fun v155_125 s125 =>
 I.fin si K v155_125 s125)
 (I.wop (.binOp .eql 5 (.const v15_3) (.const (.int .u8 15)) 5) 4 s121 fun v157_126 s126 =>
 wdec v157_126
 (I.wop (.fieldAddr 79 (.const v3_0) 1) 0 s126 fun v159_127 s127 =>
 I.wop (.load 30 (.const v159_127)) 30 s127 fun v160_128 s128 =>
 I.call 10 [a0, v160_128] s128 fun _ s129 =>
 I.fin si K (.slice none 0 0) s129)
 (I.wop (.binOp .eql 5 (.const v15_3) (.const (.int .u8 16)) 5) 4 s126 fun v163_130 s130 =>
 wdec v163_130
 (I.wop (.fieldAddr 79 (.const v3_0) 1) 0 s130 fun v165_131 s131 =>
 I.wop (.load 30 (.const v165_131)) 30 s131 fun v166_132 s132 =>
 I.wop (.fieldAddr 79 (.const v3_0) 2) 0 s132 fun v167_133 s133 =>
 I.wop (.load 24 (.const v167_133)) 24 s133 fun v168_134 s134 =>
 I.call 31 [a0, v166_132, v168_134] s134 fun v169_135 s135 =>
 I.wop (.buildSlice 30 1 ⟨[(0, (.const v169_135))]⟩) 30 s135 fun v170_136 s136 =>
 I.fin si K v170_136 s136)
 (I.fin si K (.slice none 0 0) s130)))))))))))))))))
theorem x35 (I : Prims) (a0 a1 : Value) (si : St) (K : Value → St → Prop) : xbody I 171 k35 Tryd.f35 c35 [a0, a1] si K = v35 I a0 a1 si K := by kernel_rfl
theorem n35 [Memo] (ro : Nat) (a0 a1 : Value) (si : St) (K : Value → St → Prop) : wbody P ro 171 Tryd.f35 c35 [a0, a1] si K = v35 (prims P ro) a0 a1 si K := xbody_eq 171 P ro (x35 _ a0 a1 si K)
theorem r35 (I : Prims) (si : St) (K : Value → St → Prop) (τ : Tau) (ds : List Deferred) (s : St) : xleave I si Tryd.f35.results.toList K .ret τ [] ds s =
 (xdefers I ds s fun s0 =>
 I.fin si K (τ 4) s0) := by kernel_rfl
/- attestor/attestorlaw30.same -/
noncomputable def c36 : Code := bodyOf Tryd.f36
noncomputable def c36_110100 : Code := subCode [1, 1, 0, 1, 0, 0] c36
def k36 : List (List Nat) := []
def k36_110100 : List (List Nat) := []
theorem l36_110100 : ltCode 26 c36_110100 = true := by kernel_rfl
theorem m36_110100 : notMap c36_110100 = true := by kernel_rfl
theorem b36 : BodyOk P 26 2 36 Tryd.f36 c36 := ⟨Tryd.func36, by kernel_rfl, by kernel_rfl, by kernel_rfl, by kernel_rfl, by kernel_rfl⟩
def v36_110100 (I : Prims) (rnd : Option Nat) (τ : Tau) (ds : List Deferred) (s : St) (Q : Ex → WK) : Prop :=
 I.wop (.call ⟨.builtin .len, ⟨[(.const (τ 0))]⟩, #[30]⟩) 3 s fun v13_0 s0 =>
 I.wop (.binOp .lss 3 (.const (τ 5)) (.const v13_0) 3) 4 s0 fun v14_1 s1 =>
 wdec v14_1
 (I.wop (.indexAddr 30 (.const (τ 0)) (.const (τ 5))) 0 s1 fun v19_2 s2 =>
 I.wop (.load 3 (.const v19_2)) 3 s2 fun v20_3 s3 =>
 I.wop (.indexAddr 30 (.const (τ 1)) (.const (τ 5))) 0 s3 fun v23_4 s4 =>
 I.wop (.load 3 (.const v23_4)) 3 s4 fun v24_5 s5 =>
 I.wop (.binOp .neq 3 (.const v20_3) (.const v24_5) 3) 4 s5 fun v25_6 s6 =>
 wdec v25_6
 (Q .ret (U τ [(4, (.bool false)), (25, (.bool true)), (25, v25_6), (24, v24_5), (23, v23_4), (22, (τ 5)), (21, (τ 1)), (20, v20_3), (19, v19_2), (18, (τ 5)), (17, (τ 0)), (14, (.bool true)), (14, v14_1), (13, v13_0), (12, (τ 0)), (11, (τ 5))]) ds s6)
 (I.wop (.binOp .add 3 (.const (τ 5)) (.const (.int .i64 1)) 3) 3 s6 fun v16_7 s7 =>
 Q .normal (U τ [(5, v16_7), (16, v16_7), (15, (τ 5)), (25, (.bool false)), (25, v25_6), (24, v24_5), (23, v23_4), (22, (τ 5)), (21, (τ 1)), (20, v20_3), (19, v19_2), (18, (τ 5)), (17, (τ 0)), (14, (.bool true)), (14, v14_1), (13, v13_0), (12, (τ 0)), (11, (τ 5))]) ds s7))
 (Q (.exit 0) (U τ [(14, (.bool false)), (14, v14_1), (13, v13_0), (12, (τ 0)), (11, (τ 5))]) ds s1)
theorem x36_110100 (I : Prims) (rnd : Option Nat) (τ : Tau) (ds : List Deferred) (s : St) (Q : Ex → WK) : xp I rnd 26 k36_110100 c36_110100 [] τ [] ds s (lift Q) = v36_110100 I rnd τ ds s Q := by kernel_rfl
theorem n36_110100 [Memo] (ro : Nat) (rnd : Option Nat) (τ : Tau) (ds : List Deferred) (s : St) (Q : Ex → WK) : wp P ro 26 rnd c36_110100 τ ds s Q = v36_110100 (prims P ro) rnd τ ds s Q := xp_wp rnd 26 P ro (x36_110100 _ rnd τ ds s Q)
def v36 (I : Prims) (a0 a1 : Value) (si : St) (K : Value → St → Prop) : Prop :=
 I.wop (.call ⟨.builtin .len, ⟨[(.const a0)]⟩, #[30]⟩) 3 (ent si) fun v7_0 s0 =>
 I.wop (.call ⟨.builtin .len, ⟨[(.const a1)]⟩, #[30]⟩) 3 s0 fun v9_1 s1 =>
 I.wop (.binOp .neq 3 (.const v7_0) (.const v9_1) 3) 4 s1 fun v10_2 s2 =>
 wdec v10_2
 (I.fin si K (.bool false) s2)
 (I.loop 26 none c36_110100 (U undefT [(5, (.int .i64 0)), (10, (.bool false)), (10, v10_2), (9, v9_1), (8, a1), (7, v7_0), (6, a0), (4, (.bool false)), (0, a0), (1, a1)]) [] s2 (fun τ ds s => ((xleave I si Tryd.f36.results.toList K) .ret) τ [] ds s) [(0, fun _ ds3 s3 =>
 xdefers I ds3 s3 fun s4 =>
 I.fin si K (.bool true) s4)])
theorem x36 (I : Prims) (a0 a1 : Value) (si : St) (K : Value → St → Prop) : xbody I 26 k36 Tryd.f36 c36 [a0, a1] si K = v36 I a0 a1 si K := by kernel_rfl
theorem n36 [Memo] (ro : Nat) (a0 a1 : Value) (si : St) (K : Value → St → Prop) : wbody P ro 26 Tryd.f36 c36 [a0, a1] si K = v36 (prims P ro) a0 a1 si K := xbody_eq 26 P ro (x36 _ a0 a1 si K)
theorem r36 (I : Prims) (si : St) (K : Value → St → Prop) (τ : Tau) (ds : List Deferred) (s : St) : xleave I si Tryd.f36.results.toList K .ret τ [] ds s =
 (xdefers I ds s fun s0 =>
 I.fin si K (τ 4) s0) := by kernel_rfl
/- attestor/field.Valid -/
noncomputable def c37 : Code := bodyOf Tryd.f37
def k37 : List (List Nat) := []
theorem b37 : BodyOk P 9 1 37 Tryd.f37 c37 := ⟨Tryd.func37, by kernel_rfl, by kernel_rfl, by kernel_rfl, by kernel_rfl, by kernel_rfl⟩
def v37 (I : Prims) (a0 : Value) (si : St) (K : Value → St → Prop) : Prop :=
 I.wop (.binOp .geq 3 (.const a0) (.const (.int .i64 0)) 3) 4 (ent si) fun v4_0 s0 =>
 wdec v4_0
 (I.wop (.binOp .lss 3 (.const a0) (.const (.int .i64 4)) 3) 4 s0 fun v7_1 s1 =>
 I.fin si K v7_1 s1)
 (I.fin si K (.bool false) s0)
theorem x37 (I : Prims) (a0 : Value) (si : St) (K : Value → St → Prop) : xbody I 9 k37 Tryd.f37 c37 [a0] si K = v37 I a0 si K := by kernel_rfl
theorem n37 [Memo] (ro : Nat) (a0 : Value) (si : St) (K : Value → St → Prop) : wbody P ro 9 Tryd.f37 c37 [a0] si K = v37 (prims P ro) a0 si K := xbody_eq 9 P ro (x37 _ a0 si K)
theorem r37 (I : Prims) (si : St) (K : Value → St → Prop) (τ : Tau) (ds : List Deferred) (s : St) : xleave I si Tryd.f37.results.toList K .ret τ [] ds s =
 (xdefers I ds s fun s0 =>
 I.fin si K (τ 2) s0) := by kernel_rfl
/- (*attestor/circuit.Builder).ready -/
noncomputable def c38 : Code := bodyOf Tryd.f38
def k38 : List (List Nat) := []
theorem b38 : BodyOk P 36 3 38 Tryd.f38 c38 := ⟨Tryd.func38, by kernel_rfl, by kernel_rfl, by kernel_rfl, by kernel_rfl, by kernel_rfl⟩
def v38 (I : Prims) (a0 a1 a2 : Value) (si : St) (K : Value → St → Prop) : Prop :=
 I.call 23 [a0] (ent si) fun v8_0 s0 =>
 I.wop (.binOp .neq 26 (.const v8_0) (.const (.int .i64 0)) 26) 4 s0 fun v9_1 s1 =>
 wdec v9_1
 (I.fin si K (.bool false) s1)
 (I.wop (.unOp .not 4 (.const a1)) 4 s1 fun v11_2 s2 =>
 wdec v11_2
 (I.wop (.nilCheck (.const a0)) 0 s2 fun v29_3 s3 =>
 I.wop (.fieldAddr 81 (.const v29_3) 2) 0 s3 fun v30_4 s4 =>
 I.wop (.store 26 (.const v30_4) (.const (.int .i64 1))) 0 s4 fun _ s5 =>
 I.wop (.nilCheck (.const a0)) 0 s5 fun v32_6 s6 =>
 I.wop (.fieldAddr 81 (.const v32_6) 2) 0 s6 fun v33_7 s7 =>
 I.wop (.load 26 (.const v33_7)) 26 s7 fun v34_8 s8 =>
 I.wop (.binOp .eql 26 (.const v34_8) (.const (.int .i64 0)) 26) 4 s8 fun v35_9 s9 =>
 I.fin si K v35_9 s9)
 (I.wop (.call ⟨.builtin .len, ⟨[(.const a2)]⟩, #[23]⟩) 3 s2 fun v14_10 s10 =>
 I.wop (.binOp .gtr 3 (.const v14_10) (.const (.int .i64 0)) 3) 4 s10 fun v15_11 s11 =>
 wdec v15_11
 (I.wop (.nilCheck (.const a0)) 0 s11 fun v20_12 s12 =>
 I.wop (.fieldAddr 81 (.const v20_12) 1) 0 s12 fun v21_13 s13 =>
 I.wop (.fieldAddr 34 (.const v21_13) 0) 0 s13 fun v22_14 s14 =>
 I.wop (.load 3 (.const v22_14)) 3 s14 fun v23_15 s15 =>
 veq v23_15 v23_15 = true ∧ I.call 79 [a2] s15 fun v18_16 s16 =>
 Grew s15 s16 ∧ I.call 80 [v23_15] s16 fun v24_17 s17 =>
 I.wop (.binOp .geq 24 (.const v18_16) (.const v24_17) 24) 4 s17 fun v25_18 s18 =>
 wdec v25_18
 (I.wop (.nilCheck (.const a0)) 0 s18 fun v29_19 s19 =>
 I.wop (.fieldAddr 81 (.const v29_19) 2) 0 s19 fun v30_20 s20 =>
 I.wop (.store 26 (.const v30_20) (.const (.int .i64 1))) 0 s20 fun _ s21 =>
 I.wop (.nilCheck (.const a0)) 0 s21 fun v32_22 s22 =>
 I.wop (.fieldAddr 81 (.const v32_22) 2) 0 s22 fun v33_23 s23 =>
 I.wop (.load 26 (.const v33_23)) 26 s23 fun v34_24 s24 =>
 I.wop (.binOp .eql 26 (.const v34_24) (.const (.int .i64 0)) 26) 4 s24 fun v35_25 s25 =>
 I.fin si K v35_25 s25)
 (I.wop (.nilCheck (.const a0)) 0 s18 fun v32_26 s26 =>
 I.wop (.fieldAddr 81 (.const v32_26) 2) 0 s26 fun v33_27 s27 =>
 I.wop (.load 26 (.const v33_27)) 26 s27 fun v34_28 s28 =>
 I.wop (.binOp .eql 26 (.const v34_28) (.const (.int .i64 0)) 26) 4 s28 fun v35_29 s29 =>
 I.fin si K v35_29 s29))
 (I.wop (.nilCheck (.const a0)) 0 s11 fun v32_30 s30 =>
 I.wop (.fieldAddr 81 (.const v32_30) 2) 0 s30 fun v33_31 s31 =>
 I.wop (.load 26 (.const v33_31)) 26 s31 fun v34_32 s32 =>
 I.wop (.binOp .eql 26 (.const v34_32) (.const (.int .i64 0)) 26) 4 s32 fun v35_33 s33 =>
 I.fin si K v35_33 s33)))
theorem x38 (I : Prims) (a0 a1 a2 : Value) (si : St) (K : Value → St → Prop) : xbody I 36 k38 Tryd.f38 c38 [a0, a1, a2] si K = v38 I a0 a1 a2 si K := by kernel_rfl
theorem n38 [Memo] (ro : Nat) (a0 a1 a2 : Value) (si : St) (K : Value → St → Prop) : wbody P ro 36 Tryd.f38 c38 [a0, a1, a2] si K = v38 (prims P ro) a0 a1 a2 si K := xbody_eq 36 P ro (x38 _ a0 a1 a2 si K)
theorem r38 (I : Prims) (si : St) (K : Value → St → Prop) (τ : Tau) (ds : List Deferred) (s : St) : xleave I si Tryd.f38.results.toList K .ret τ [] ds s =
 (xdefers I ds s fun s0 =>
 I.fin si K (τ 6) s0) := by kernel_rfl
/- (*attestor/circuit.Builder).known -/
noncomputable def c39 : Code := bodyOf Tryd.f39
def k39 : List (List Nat) := []
theorem b39 : BodyOk P 14 2 39 Tryd.f39 c39 := ⟨Tryd.func39, by kernel_rfl, by kernel_rfl, by kernel_rfl, by kernel_rfl, by kernel_rfl⟩
def v39 (I : Prims) (a0 a1 : Value) (si : St) (K : Value → St → Prop) : Prop :=
 I.wop (.box 25 (.const a0)) 0 (ent si) fun v2_0 s0 =>
 I.wop (.load 25 (.const v2_0)) 25 s0 fun v5_1 s1 =>
 I.call 23 [v5_1] s1 fun v6_2 s2 =>
 I.wop (.binOp .eql 26 (.const v6_2) (.const (.int .i64 0)) 26) 4 s2 fun v7_3 s3 =>
 wdec v7_3
 (I.call 81 [a1, (.func (.func 82) (.mk []) (.mk [v2_0]))] s3 fun v11_4 s4 =>
 I.wop (.unOp .not 4 (.const v11_4)) 4 s4 fun v12_5 s5 =>
 I.fin si K v12_5 s5)
 (I.fin si K (.bool false) s3)
theorem x39 (I : Prims) (a0 a1 : Value) (si : St) (K : Value → St → Prop) : xbody I 14 k39 Tryd.f39 c39 [a0, a1] si K = v39 I a0 a1 si K := by kernel_rfl
theorem n39 [Memo] (ro : Nat) (a0 a1 : Value) (si : St) (K : Value → St → Prop) : wbody P ro 14 Tryd.f39 c39 [a0, a1] si K = v39 (prims P ro) a0 a1 si K := xbody_eq 14 P ro (x39 _ a0 a1 si K)
theorem r39 (I : Prims) (si : St) (K : Value → St → Prop) (τ : Tau) (ds : List Deferred) (s : St) : xleave I si Tryd.f39.results.toList K .ret τ [] ds s =
 (xdefers I ds s fun s0 =>
 I.fin si K (τ 4) s0) := by kernel_rfl
/- (*attestor/circuit.Builder).Zero -/
noncomputable def c42 : Code := bodyOf Tryd.f42
def k42 : List (List Nat) := []
theorem b42 : BodyOk P 15 2 42 Tryd.f42 c42 := ⟨Tryd.func42, by kernel_rfl, by kernel_rfl, by kernel_rfl, by kernel_rfl, by kernel_rfl⟩
def v42 (I : Prims) (a0 a1 : Value) (si : St) (K : Value → St → Prop) : Prop :=
 I.wop (.buildSlice 30 1 ⟨[(0, (.const a1))]⟩) 30 (ent si) fun v7_0 s0 =>
 I.call 39 [a0, v7_0] s0 fun v8_1 s1 =>
 I.call 38 [a0, v8_1, (.slice none 0 0)] s1 fun v9_2 s2 =>
 wdec v9_2
 (I.call 63 [a1, (.int .i64 (-1)), (.int .i64 (-1)), (.int .u64 1), (.int .u64 0), (.int .u64 0), (.int .u64 0), (.int .u64 0)] s2 fun v12_3 s3 =>
 I.wop (.buildSlice 32 1 ⟨[(0, (.const v12_3))]⟩) 32 s3 fun v13_4 s4 =>
 I.call 62 [a0, (.int .i64 0), v13_4] s4 fun _ s5 =>
 I.fin si K (.tuple (.mk [])) s5)
 (I.fin si K (.tuple (.mk [])) s2)
theorem x42 (I : Prims) (a0 a1 : Value) (si : St) (K : Value → St → Prop) : xbody I 15 k42 Tryd.f42 c42 [a0, a1] si K = v42 I a0 a1 si K := by kernel_rfl
theorem n42 [Memo] (ro : Nat) (a0 a1 : Value) (si : St) (K : Value → St → Prop) : wbody P ro 15 Tryd.f42 c42 [a0, a1] si K = v42 (prims P ro) a0 a1 si K := xbody_eq 15 P ro (x42 _ a0 a1 si K)
theorem r42 (I : Prims) (si : St) (K : Value → St → Prop) (τ : Tau) (ds : List Deferred) (s : St) : xleave I si Tryd.f42.results.toList K .ret τ [] ds s =
 (xdefers I ds s fun s0 =>
 I.fin si K (.tuple (.mk [])) s0) := by kernel_rfl
/- (*attestor/circuit.Builder).Linear -/
noncomputable def c43 : Code := bodyOf Tryd.f43
def k43 : List (List Nat) := []
theorem b43 : BodyOk P 41 6 43 Tryd.f43 c43 := ⟨Tryd.func43, by kernel_rfl, by kernel_rfl, by kernel_rfl, by kernel_rfl, by kernel_rfl⟩
def v43 (I : Prims) (a0 a1 a2 a3 a4 a5 : Value) (si : St) (K : Value → St → Prop) : Prop :=
 I.wop (.buildSlice 30 2 ⟨[(0, (.const a1)), (1, (.const a2))]⟩) 30 (ent si) fun v17_0 s0 =>
 I.call 39 [a0, v17_0] s0 fun v18_1 s1 =>
 I.wop (.buildSlice 23 3 ⟨[(0, (.const a3)), (1, (.const a4)), (2, (.const a5))]⟩) 23 s1 fun v22_2 s2 =>
 I.call 38 [a0, v18_1, v22_2] s2 fun v23_3 s3 =>
 I.wop (.unOp .not 4 (.const v23_3)) 4 s3 fun v24_4 s4 =>
 wdec v24_4
 (I.fin si K (.int .i64 (-1)) s4)
 (I.wop (.nilCheck (.const a0)) 0 s4 fun v29_5 s5 =>
 I.wop (.fieldAddr 81 (.const v29_5) 1) 0 s5 fun v30_6 s6 =>
 I.wop (.fieldAddr 34 (.const v30_6) 1) 0 s6 fun v31_7 s7 =>
 I.wop (.load 3 (.const v31_7)) 3 s7 fun v32_8 s8 =>
 veq v32_8 v32_8 = true ∧ I.call 44 [a0] s8 fun v36_9 s9 =>
 Grew s8 s9 ∧ I.call 63 [a1, a2, v32_8, a3, a4, (.int .u64 0), v36_9, a5] s9 fun v38_10 s10 =>
 s9.n ≤ s10.n ∧ I.wop (.buildSlice 32 1 ⟨[(0, (.const v38_10))]⟩) 32 s10 fun v39_11 s11 =>
 FreshOk s10 s11 ∧ I.call 62 [a0, (.int .i64 1), v39_11] s11 fun v40_12 s12 =>
 s11.n ≤ s12.n ∧ I.fin si K v40_12 s12)
theorem x43 (I : Prims) (a0 a1 a2 a3 a4 a5 : Value) (si : St) (K : Value → St → Prop) : xbody I 41 k43 Tryd.f43 c43 [a0, a1, a2, a3, a4, a5] si K = v43 I a0 a1 a2 a3 a4 a5 si K := by kernel_rfl
theorem n43 [Memo] (ro : Nat) (a0 a1 a2 a3 a4 a5 : Value) (si : St) (K : Value → St → Prop) : wbody P ro 41 Tryd.f43 c43 [a0, a1, a2, a3, a4, a5] si K = v43 (prims P ro) a0 a1 a2 a3 a4 a5 si K := xbody_eq 41 P ro (x43 _ a0 a1 a2 a3 a4 a5 si K)
theorem r43 (I : Prims) (si : St) (K : Value → St → Prop) (τ : Tau) (ds : List Deferred) (s : St) : xleave I si Tryd.f43.results.toList K .ret τ [] ds s =
 (xdefers I ds s fun s0 =>
 I.fin si K (τ 12) s0) := by kernel_rfl
/- attestor/attestorref01.Neg -/
noncomputable def c48 : Code := bodyOf Tryd.f48
def k48 : List (List Nat) := []
theorem b48 : BodyOk P 8 2 48 Tryd.f48 c48 := ⟨Tryd.func48, by kernel_rfl, by kernel_rfl, by kernel_rfl, by kernel_rfl, by kernel_rfl⟩
def v48 (I : Prims) (a0 a1 : Value) (si : St) (K : Value → St → Prop) : Prop :=
 I.call 86 [a0, (.int .u64 0), a1] (ent si) fun v7_0 s0 =>
 I.fin si K v7_0 s0
theorem x48 (I : Prims) (a0 a1 : Value) (si : St) (K : Value → St → Prop) : xbody I 8 k48 Tryd.f48 c48 [a0, a1] si K = v48 I a0 a1 si K := by kernel_rfl
theorem n48 [Memo] (ro : Nat) (a0 a1 : Value) (si : St) (K : Value → St → Prop) : wbody P ro 8 Tryd.f48 c48 [a0, a1] si K = v48 (prims P ro) a0 a1 si K := xbody_eq 8 P ro (x48 _ a0 a1 si K)
theorem r48 (I : Prims) (si : St) (K : Value → St → Prop) (τ : Tau) (ds : List Deferred) (s : St) : xleave I si Tryd.f48.results.toList K .ret τ [] ds s =
 (xdefers I ds s fun s0 =>
 I.fin si K (τ 4) s0) := by kernel_rfl
/- attestor/attestorref01.Div -/
noncomputable def c49 : Code := bodyOf Tryd.f49
def k49 : List (List Nat) := []
theorem b49 : BodyOk P 13 3 49 Tryd.f49 c49 := ⟨Tryd.func49, by kernel_rfl, by kernel_rfl, by kernel_rfl, by kernel_rfl, by kernel_rfl⟩
def v49 (I : Prims) (a0 a1 a2 : Value) (si : St) (K : Value → St → Prop) : Prop :=
 I.call 87 [a0, a2] (ent si) fun v11_0 s0 =>
 I.call 72 [a0, a1, v11_0] s0 fun v12_1 s1 =>
 I.fin si K v12_1 s1
theorem x49 (I : Prims) (a0 a1 a2 : Value) (si : St) (K : Value → St → Prop) : xbody I 13 k49 Tryd.f49 c49 [a0, a1, a2] si K = v49 I a0 a1 a2 si K := by kernel_rfl
theorem n49 [Memo] (ro : Nat) (a0 a1 a2 : Value) (si : St) (K : Value → St → Prop) : wbody P ro 13 Tryd.f49 c49 [a0, a1, a2] si K = v49 (prims P ro) a0 a1 a2 si K := xbody_eq 13 P ro (x49 _ a0 a1 a2 si K)
theorem r49 (I : Prims) (si : St) (K : Value → St → Prop) (τ : Tau) (ds : List Deferred) (s : St) : xleave I si Tryd.f49.results.toList K .ret τ [] ds s =
 (xdefers I ds s fun s0 =>
 I.fin si K (τ 6) s0) := by kernel_rfl
/- (*attestor/circuit.Builder).Select -/
noncomputable def c55 : Code := bodyOf Tryd.f55
def k55 : List (List Nat) := []
theorem b55 : BodyOk P 34 4 55 Tryd.f55 c55 := ⟨Tryd.func55, by kernel_rfl, by kernel_rfl, by kernel_rfl, by kernel_rfl, by kernel_rfl⟩
def v55 (I : Prims) (a0 a1 a2 a3 : Value) (si : St) (K : Value → St → Prop) : Prop :=
 I.wop (.buildSlice 30 3 ⟨[(0, (.const a1)), (1, (.const a2)), (2, (.const a3))]⟩) 30 (ent si) fun v15_0 s0 =>
 I.call 39 [a0, v15_0] s0 fun v16_1 s1 =>
 I.call 38 [a0, v16_1, (.slice none 0 0)] s1 fun v17_2 s2 =>
 I.wop (.unOp .not 4 (.const v17_2)) 4 s2 fun v18_3 s3 =>
 wdec v18_3
 (I.fin si K (.int .i64 (-1)) s3)
 (I.call 40 [a0] s3 fun v20_4 s4 =>
 (none : Option Nat) = none ∧ I.wdefer (.defer ⟨.value (.const v20_4), ⟨[]⟩, #[]⟩) 0 s4 fun d5 s5 =>
 I.call 44 [a0] s5 fun v25_6 s6 =>
 I.call 43 [a0, a2, a3, v25_6, (.int .u64 1), (.int .u64 0)] s6 fun v26_7 s7 =>
 I.call 21 [a0, a1, v26_7] s7 fun v32_8 s8 =>
 I.call 43 [a0, a2, v32_8, (.int .u64 1), (.int .u64 1), (.int .u64 0)] s8 fun v33_9 s9 =>
 xdefers I (d5 :: []) s9 fun s10 =>
 I.fin si K v33_9 s10)
theorem x55 (I : Prims) (a0 a1 a2 a3 : Value) (si : St) (K : Value → St → Prop) : xbody I 34 k55 Tryd.f55 c55 [a0, a1, a2, a3] si K = v55 I a0 a1 a2 a3 si K := by kernel_rfl
theorem n55 [Memo] (ro : Nat) (a0 a1 a2 a3 : Value) (si : St) (K : Value → St → Prop) : wbody P ro 34 Tryd.f55 c55 [a0, a1, a2, a3] si K = v55 (prims P ro) a0 a1 a2 a3 si K := xbody_eq 34 P ro (x55 _ a0 a1 a2 a3 si K)
theorem r55 (I : Prims) (si : St) (K : Value → St → Prop) (τ : Tau) (ds : List Deferred) (s : St) : xleave I si Tryd.f55.results.toList K .ret τ [] ds s =
 (xdefers I ds s fun s0 =>
 I.fin si K (τ 8) s0) := by kernel_rfl
/- (*attestor/circuit.Builder).Node -/
noncomputable def c56 : Code := bodyOf Tryd.f56
def k56 : List (List Nat) := []
theorem b56 : BodyOk P 52 3 56 Tryd.f56 c56 := ⟨Tryd.func56, by kernel_rfl, by kernel_rfl, by kernel_rfl, by kernel_rfl, by kernel_rfl⟩
def v56 (I : Prims) (a0 a1 a2 : Value) (si : St) (K : Value → St → Prop) : Prop :=
 I.wop (.box 47 (.const a1)) 0 (ent si) fun v4_0 s0 =>
 I.wop (.box 47 (.const a2)) 0 s0 fun v5_1 s1 =>
 I.wop (.alloc 47) 0 s1 fun v6_2 s2 =>
 I.wop (.indexAddr 47 (.const v4_0) (.const (.int .i64 0))) 0 s2 fun v11_3 s3 =>
 I.wop (.load 3 (.const v11_3)) 3 s3 fun v12_4 s4 =>
 I.wop (.indexAddr 47 (.const v4_0) (.const (.int .i64 1))) 0 s4 fun v13_5 s5 =>
 I.wop (.load 3 (.const v13_5)) 3 s5 fun v14_6 s6 =>
 I.wop (.indexAddr 47 (.const v5_1) (.const (.int .i64 0))) 0 s6 fun v15_7 s7 =>
 I.wop (.load 3 (.const v15_7)) 3 s7 fun v16_8 s8 =>
 I.wop (.indexAddr 47 (.const v5_1) (.const (.int .i64 1))) 0 s8 fun v17_9 s9 =>
 I.wop (.load 3 (.const v17_9)) 3 s9 fun v18_10 s10 =>
 I.wop (.buildSlice 30 4 ⟨[(0, (.const v12_4)), (1, (.const v14_6)), (2, (.const v16_8)), (3, (.const v18_10))]⟩) 30 s10 fun v19_11 s11 =>
 I.call 39 [a0, v19_11] s11 fun v20_12 s12 =>
 I.call 38 [a0, v20_12, (.slice none 0 0)] s12 fun v21_13 s13 =>
 I.wop (.unOp .not 4 (.const v21_13)) 4 s13 fun v22_14 s14 =>
 wdec v22_14
 (I.wop (.build 47 ⟨[(0, (.const (.int .i64 (-1)))), (1, (.const (.int .i64 (-1))))]⟩) 47 s14 fun v23_15 s15 =>
 I.wop (.store 47 (.const v6_2) (.const v23_15)) 0 s15 fun _ s16 =>
 I.wop (.load 47 (.const v6_2)) 47 s16 fun v6_17 _ =>
 I.fin si K v6_17 s16)
 (I.call 40 [a0] s14 fun v25_18 s18 =>
 (none : Option Nat) = none ∧ I.wdefer (.defer ⟨.value (.const v25_18), ⟨[]⟩, #[]⟩) 0 s18 fun d19 s19 =>
 I.wop (.indexAddr 47 (.const v4_0) (.const (.int .i64 0))) 0 s19 fun v27_20 s20 =>
 I.wop (.load 3 (.const v27_20)) 3 s20 fun v28_21 s21 =>
 I.wop (.indexAddr 47 (.const v4_0) (.const (.int .i64 1))) 0 s21 fun v29_22 s22 =>
 I.wop (.load 3 (.const v29_22)) 3 s22 fun v30_23 s23 =>
 I.wop (.indexAddr 47 (.const v5_1) (.const (.int .i64 0))) 0 s23 fun v31_24 s24 =>
 I.wop (.load 3 (.const v31_24)) 3 s24 fun v32_25 s25 =>
 I.wop (.indexAddr 47 (.const v5_1) (.const (.int .i64 1))) 0 s25 fun v33_26 s26 =>
 I.wop (.load 3 (.const v33_26)) 3 s26 fun v34_27 s27 =>
 I.wop (.build 53 ⟨[(0, (.const v28_21)), (1, (.const v30_23)), (2, (.const v32_25)), (3, (.const v34_27))]⟩) 53 s27 fun v35_28 s28 =>
 I.call 20 [a0, v35_28] s28 fun v36_29 s29 =>
 I.wop (.alloc 53) 0 s29 fun v7_30 s30 =>
 I.wop (.store 53 (.const v7_30) (.const v36_29)) 0 s30 fun _ s31 =>
 I.wop (.indexAddr 53 (.const v7_30) (.const (.int .i64 0))) 0 s31 fun v38_32 s32 =>
 I.wop (.load 3 (.const v38_32)) 3 s32 fun v39_33 s33 =>
 I.wop (.indexAddr 47 (.const v4_0) (.const (.int .i64 0))) 0 s33 fun v40_34 s34 =>
 I.wop (.load 3 (.const v40_34)) 3 s34 fun v41_35 s35 =>
 I.call 43 [a0, v39_33, v41_35, (.int .u64 1), (.int .u64 1), (.int .u64 0)] s35 fun v42_36 s36 =>
 I.wop (.indexAddr 53 (.const v7_30) (.const (.int .i64 1))) 0 s36 fun v46_37 s37 =>
 I.wop (.load 3 (.const v46_37)) 3 s37 fun v47_38 s38 =>
 I.wop (.indexAddr 47 (.const v4_0) (.const (.int .i64 1))) 0 s38 fun v48_39 s39 =>
 I.wop (.load 3 (.const v48_39)) 3 s39 fun v49_40 s40 =>
 I.call 43 [a0, v47_38, v49_40, (.int .u64 1), (.int .u64 1), (.int .u64 0)] s40 fun v50_41 s41 =>
 I.call 57 [a0, v42_36, v50_41] s41 fun v51_42 s42 =>
 I.wop (.store 47 (.const v6_2) (.const v51_42)) 0 s42 fun _ s43 =>
 xdefers I (d19 :: []) s43 fun s44 =>
 I.wop (.load 47 (.const v6_2)) 47 s44 fun v6_45 _ =>
 I.fin si K v6_45 s44)
theorem x56 (I : Prims) (a0 a1 a2 : Value) (si : St) (K : Value → St → Prop) : xbody I 52 k56 Tryd.f56 c56 [a0, a1, a2] si K = v56 I a0 a1 a2 si K := by kernel_rfl
theorem n56 [Memo] (ro : Nat) (a0 a1 a2 : Value) (si : St) (K : Value → St → Prop) : wbody P ro 52 Tryd.f56 c56 [a0, a1, a2] si K = v56 (prims P ro) a0 a1 a2 si K := xbody_eq 52 P ro (x56 _ a0 a1 a2 si K)
theorem r56 (I : Prims) (si : St) (K : Value → St → Prop) (τ : Tau) (ds : List Deferred) (s : St) : xleave I si Tryd.f56.results.toList K .ret τ [] ds s =
 (xdefers I ds s fun s0 =>
 I.wop (.load 47 (.const (τ 6))) 47 s0 fun v6_1 _ =>
 I.fin si K v6_1 s0) := by kernel_rfl
/- attestor/field.Add -/
noncomputable def c64 : Code := bodyOf Tryd.f64
def k64 : List (List Nat) := []
theorem b64 : BodyOk P 27 3 64 Tryd.f64 c64 := ⟨Tryd.func64, by kernel_rfl, by kernel_rfl, by kernel_rfl, by kernel_rfl, by kernel_rfl⟩
def v64 (I : Prims) (a0 a1 a2 : Value) (si : St) (K : Value → St → Prop) : Prop :=
 I.call 80 [a0] (ent si) fun v10_0 s0 =>
 I.wop (.binOp .eql 24 (.const v10_0) (.const (.int .u64 0)) 24) 4 s0 fun v12_1 s1 =>
 wdec v12_1
 (I.fin si K (.int .u64 0) s1)
 (I.wop (.binOp .rem 24 (.const a1) (.const v10_0) 24) 24 s1 fun v15_2 s2 =>
 I.wop (.binOp .rem 24 (.const a2) (.const v10_0) 24) 24 s2 fun v18_3 s3 =>
 I.wop (.binOp .add 24 (.const v15_2) (.const v18_3) 24) 24 s3 fun v19_4 s4 =>
 I.wop (.binOp .geq 24 (.const v19_4) (.const v10_0) 24) 4 s4 fun v22_5 s5 =>
 wdec v22_5
 (I.wop (.binOp .sub 24 (.const v19_4) (.const v10_0) 24) 24 s5 fun v25_6 s6 =>
 I.fin si K v25_6 s6)
 (I.fin si K v19_4 s5))
theorem x64 (I : Prims) (a0 a1 a2 : Value) (si : St) (K : Value → St → Prop) : xbody I 27 k64 Tryd.f64 c64 [a0, a1, a2] si K = v64 I a0 a1 a2 si K := by kernel_rfl
theorem n64 [Memo] (ro : Nat) (a0 a1 a2 : Value) (si : St) (K : Value → St → Prop) : wbody P ro 27 Tryd.f64 c64 [a0, a1, a2] si K = v64 (prims P ro) a0 a1 a2 si K := xbody_eq 27 P ro (x64 _ a0 a1 a2 si K)
theorem r64 (I : Prims) (si : St) (K : Value → St → Prop) (τ : Tau) (ds : List Deferred) (s : St) : xleave I si Tryd.f64.results.toList K .ret τ [] ds s =
 (xdefers I ds s fun s0 =>
 I.fin si K (τ 6) s0) := by kernel_rfl
/- attestor/attestorref01.Add -/
noncomputable def c66 : Code := bodyOf Tryd.f66
def k66 : List (List Nat) := []
theorem b66 : BodyOk P 22 3 66 Tryd.f66 c66 := ⟨Tryd.func66, by kernel_rfl, by kernel_rfl, by kernel_rfl, by kernel_rfl, by kernel_rfl⟩
def v66 (I : Prims) (a0 a1 a2 : Value) (si : St) (K : Value → St → Prop) : Prop :=
 I.call 16 [a0] (ent si) fun v8_0 s0 =>
 I.wop (.unOp .not 4 (.const v8_0)) 4 s0 fun v9_1 s1 =>
 wdec v9_1
 (I.fin si K (.int .u64 0) s1)
 (I.call 14 [a0] s1 fun v12_2 s2 =>
 I.wop (.binOp .rem 24 (.const a1) (.const v12_2) 24) 24 s2 fun v13_3 s3 =>
 I.call 14 [a0] s3 fun v16_4 s4 =>
 I.wop (.binOp .rem 24 (.const a2) (.const v16_4) 24) 24 s4 fun v17_5 s5 =>
 I.wop (.binOp .add 24 (.const v13_3) (.const v17_5) 24) 24 s5 fun v18_6 s6 =>
 I.call 14 [a0] s6 fun v20_7 s7 =>
 I.wop (.binOp .rem 24 (.const v18_6) (.const v20_7) 24) 24 s7 fun v21_8 s8 =>
 I.fin si K v21_8 s8)
theorem x66 (I : Prims) (a0 a1 a2 : Value) (si : St) (K : Value → St → Prop) : xbody I 22 k66 Tryd.f66 c66 [a0, a1, a2] si K = v66 I a0 a1 a2 si K := by kernel_rfl
theorem n66 [Memo] (ro : Nat) (a0 a1 a2 : Value) (si : St) (K : Value → St → Prop) : wbody P ro 22 Tryd.f66 c66 [a0, a1, a2] si K = v66 (prims P ro) a0 a1 a2 si K := xbody_eq 22 P ro (x66 _ a0 a1 a2 si K)
theorem r66 (I : Prims) (si : St) (K : Value → St → Prop) (τ : Tau) (ds : List Deferred) (s : St) : xleave I si Tryd.f66.results.toList K .ret τ [] ds s =
 (xdefers I ds s fun s0 =>
 I.fin si K (τ 6) s0) := by kernel_rfl
/- attestor/field.Sub -/
noncomputable def c69 : Code := bodyOf Tryd.f69
def k69 : List (List Nat) := []
theorem b69 : BodyOk P 13 3 69 Tryd.f69 c69 := ⟨Tryd.func69, by kernel_rfl, by kernel_rfl, by kernel_rfl, by kernel_rfl, by kernel_rfl⟩
def v69 (I : Prims) (a0 a1 a2 : Value) (si : St) (K : Value → St → Prop) : Prop :=
 I.call 93 [a0, a2] (ent si) fun v11_0 s0 =>
 I.call 64 [a0, a1, v11_0] s0 fun v12_1 s1 =>
 I.fin si K v12_1 s1
theorem x69 (I : Prims) (a0 a1 a2 : Value) (si : St) (K : Value → St → Prop) : xbody I 13 k69 Tryd.f69 c69 [a0, a1, a2] si K = v69 I a0 a1 a2 si K := by kernel_rfl
theorem n69 [Memo] (ro : Nat) (a0 a1 a2 : Value) (si : St) (K : Value → St → Prop) : wbody P ro 13 Tryd.f69 c69 [a0, a1, a2] si K = v69 (prims P ro) a0 a1 a2 si K := xbody_eq 13 P ro (x69 _ a0 a1 a2 si K)
theorem r69 (I : Prims) (si : St) (K : Value → St → Prop) (τ : Tau) (ds : List Deferred) (s : St) : xleave I si Tryd.f69.results.toList K .ret τ [] ds s =
 (xdefers I ds s fun s0 =>
 I.fin si K (τ 6) s0) := by kernel_rfl
/- attestor/field.Mul -/
noncomputable def c70 : Code := bodyOf Tryd.f70
def k70 : List (List Nat) := []
theorem b70 : BodyOk P 21 3 70 Tryd.f70 c70 := ⟨Tryd.func70, by kernel_rfl, by kernel_rfl, by kernel_rfl, by kernel_rfl, by kernel_rfl⟩
def v70 (I : Prims) (a0 a1 a2 : Value) (si : St) (K : Value → St → Prop) : Prop :=
 I.call 80 [a0] (ent si) fun v9_0 s0 =>
 I.wop (.binOp .eql 24 (.const v9_0) (.const (.int .u64 0)) 24) 4 s0 fun v11_1 s1 =>
 wdec v11_1
 (I.fin si K (.int .u64 0) s1)
 (I.wop (.binOp .rem 24 (.const a1) (.const v9_0) 24) 24 s1 fun v14_2 s2 =>
 I.wop (.binOp .rem 24 (.const a2) (.const v9_0) 24) 24 s2 fun v17_3 s3 =>
 I.wop (.binOp .mul 24 (.const v14_2) (.const v17_3) 24) 24 s3 fun v18_4 s4 =>
 I.wop (.binOp .rem 24 (.const v18_4) (.const v9_0) 24) 24 s4 fun v20_5 s5 =>
 I.fin si K v20_5 s5)
theorem x70 (I : Prims) (a0 a1 a2 : Value) (si : St) (K : Value → St → Prop) : xbody I 21 k70 Tryd.f70 c70 [a0, a1, a2] si K = v70 I a0 a1 a2 si K := by kernel_rfl
theorem n70 [Memo] (ro : Nat) (a0 a1 a2 : Value) (si : St) (K : Value → St → Prop) : wbody P ro 21 Tryd.f70 c70 [a0, a1, a2] si K = v70 (prims P ro) a0 a1 a2 si K := xbody_eq 21 P ro (x70 _ a0 a1 a2 si K)
theorem r70 (I : Prims) (si : St) (K : Value → St → Prop) (τ : Tau) (ds : List Deferred) (s : St) : xleave I si Tryd.f70.results.toList K .ret τ [] ds s =
 (xdefers I ds s fun s0 =>
 I.fin si K (τ 6) s0) := by kernel_rfl
/- attestor/attestorref01.Mul -/
noncomputable def c72 : Code := bodyOf Tryd.f72
def k72 : List (List Nat) := []
theorem b72 : BodyOk P 22 3 72 Tryd.f72 c72 := ⟨Tryd.func72, by kernel_rfl, by kernel_rfl, by kernel_rfl, by kernel_rfl, by kernel_rfl⟩
def v72 (I : Prims) (a0 a1 a2 : Value) (si : St) (K : Value → St → Prop) : Prop :=
 I.call 16 [a0] (ent si) fun v8_0 s0 =>
 I.wop (.unOp .not 4 (.const v8_0)) 4 s0 fun v9_1 s1 =>
 wdec v9_1
 (I.fin si K (.int .u64 0) s1)
 (I.call 14 [a0] s1 fun v12_2 s2 =>
 I.wop (.binOp .rem 24 (.const a1) (.const v12_2) 24) 24 s2 fun v13_3 s3 =>
 I.call 14 [a0] s3 fun v16_4 s4 =>
 I.wop (.binOp .rem 24 (.const a2) (.const v16_4) 24) 24 s4 fun v17_5 s5 =>
 I.wop (.binOp .mul 24 (.const v13_3) (.const v17_5) 24) 24 s5 fun v18_6 s6 =>
 I.call 14 [a0] s6 fun v20_7 s7 =>
 I.wop (.binOp .rem 24 (.const v18_6) (.const v20_7) 24) 24 s7 fun v21_8 s8 =>
 I.fin si K v21_8 s8)
theorem x72 (I : Prims) (a0 a1 a2 : Value) (si : St) (K : Value → St → Prop) : xbody I 22 k72 Tryd.f72 c72 [a0, a1, a2] si K = v72 I a0 a1 a2 si K := by kernel_rfl
theorem n72 [Memo] (ro : Nat) (a0 a1 a2 : Value) (si : St) (K : Value → St → Prop) : wbody P ro 22 Tryd.f72 c72 [a0, a1, a2] si K = v72 (prims P ro) a0 a1 a2 si K := xbody_eq 22 P ro (x72 _ a0 a1 a2 si K)
theorem r72 (I : Prims) (si : St) (K : Value → St → Prop) (τ : Tau) (ds : List Deferred) (s : St) : xleave I si Tryd.f72.results.toList K .ret τ [] ds s =
 (xdefers I ds s fun s0 =>
 I.fin si K (τ 6) s0) := by kernel_rfl
/- attestor/attestorlaw30.at -/
noncomputable def c73 : Code := bodyOf Tryd.f73
def k73 : List (List Nat) := []
theorem b73 : BodyOk P 15 2 73 Tryd.f73 c73 := ⟨Tryd.func73, by kernel_rfl, by kernel_rfl, by kernel_rfl, by kernel_rfl, by kernel_rfl⟩
def v73 (I : Prims) (a0 a1 : Value) (si : St) (K : Value → St → Prop) : Prop :=
 I.wop (.box 79 (.const a0)) 0 (ent si) fun v2_0 s0 =>
 I.wop (.fieldAddr 79 (.const v2_0) 1) 0 s0 fun v6_1 s1 =>
 I.wop (.load 30 (.const v6_1)) 30 s1 fun v7_2 s2 =>
 I.wop (.call ⟨.builtin .len, ⟨[(.const v7_2)]⟩, #[30]⟩) 3 s2 fun v8_3 s3 =>
 I.wop (.binOp .lss 3 (.const a1) (.const v8_3) 3) 4 s3 fun v9_4 s4 =>
 wdec v9_4
 (I.wop (.fieldAddr 79 (.const v2_0) 1) 0 s4 fun v10_5 s5 =>
 I.wop (.load 30 (.const v10_5)) 30 s5 fun v11_6 s6 =>
 I.wop (.indexAddr 30 (.const v11_6) (.const a1)) 0 s6 fun v13_7 s7 =>
 I.wop (.load 3 (.const v13_7)) 3 s7 fun v14_8 s8 =>
 I.fin si K v14_8 s8)
 (I.fin si K (.int .i64 0) s4)
theorem x73 (I : Prims) (a0 a1 : Value) (si : St) (K : Value → St → Prop) : xbody I 15 k73 Tryd.f73 c73 [a0, a1] si K = v73 I a0 a1 si K := by kernel_rfl
theorem n73 [Memo] (ro : Nat) (a0 a1 : Value) (si : St) (K : Value → St → Prop) : wbody P ro 15 Tryd.f73 c73 [a0, a1] si K = v73 (prims P ro) a0 a1 si K := xbody_eq 15 P ro (x73 _ a0 a1 si K)
theorem r73 (I : Prims) (si : St) (K : Value → St → Prop) (τ : Tau) (ds : List Deferred) (s : St) : xleave I si Tryd.f73.results.toList K .ret τ [] ds s =
 (xdefers I ds s fun s0 =>
 I.fin si K (τ 4) s0) := by kernel_rfl
/- (*attestor/circuit.Builder).Equal -/
noncomputable def c74 : Code := bodyOf Tryd.f74
def k74 : List (List Nat) := []
theorem b74 : BodyOk P 21 3 74 Tryd.f74 c74 := ⟨Tryd.func74, by kernel_rfl, by kernel_rfl, by kernel_rfl, by kernel_rfl, by kernel_rfl⟩
def v74 (I : Prims) (a0 a1 a2 : Value) (si : St) (K : Value → St → Prop) : Prop :=
 I.wop (.buildSlice 30 2 ⟨[(0, (.const a1)), (1, (.const a2))]⟩) 30 (ent si) fun v10_0 s0 =>
 I.call 39 [a0, v10_0] s0 fun v11_1 s1 =>
 I.call 38 [a0, v11_1, (.slice none 0 0)] s1 fun v12_2 s2 =>
 wdec v12_2
 (I.call 44 [a0] s2 fun v17_3 s3 =>
 I.call 63 [a1, a2, (.int .i64 (-1)), (.int .u64 1), v17_3, (.int .u64 0), (.int .u64 0), (.int .u64 0)] s3 fun v18_4 s4 =>
 I.wop (.buildSlice 32 1 ⟨[(0, (.const v18_4))]⟩) 32 s4 fun v19_5 s5 =>
 I.call 62 [a0, (.int .i64 0), v19_5] s5 fun _ s6 =>
 I.fin si K (.tuple (.mk [])) s6)
 (I.fin si K (.tuple (.mk [])) s2)
theorem x74 (I : Prims) (a0 a1 a2 : Value) (si : St) (K : Value → St → Prop) : xbody I 21 k74 Tryd.f74 c74 [a0, a1, a2] si K = v74 I a0 a1 a2 si K := by kernel_rfl
theorem n74 [Memo] (ro : Nat) (a0 a1 a2 : Value) (si : St) (K : Value → St → Prop) : wbody P ro 21 Tryd.f74 c74 [a0, a1, a2] si K = v74 (prims P ro) a0 a1 a2 si K := xbody_eq 21 P ro (x74 _ a0 a1 a2 si K)
theorem r74 (I : Prims) (si : St) (K : Value → St → Prop) (τ : Tau) (ds : List Deferred) (s : St) : xleave I si Tryd.f74.results.toList K .ret τ [] ds s =
 (xdefers I ds s fun s0 =>
 I.fin si K (.tuple (.mk [])) s0) := by kernel_rfl
/- attestor/attestorlaw30.four -/
noncomputable def c75 : Code := bodyOf Tryd.f75
def k75 : List (List Nat) := []
theorem b75 : BodyOk P 21 2 75 Tryd.f75 c75 := ⟨Tryd.func75, by kernel_rfl, by kernel_rfl, by kernel_rfl, by kernel_rfl, by kernel_rfl⟩
def v75 (I : Prims) (a0 a1 : Value) (si : St) (K : Value → St → Prop) : Prop :=
 I.wop (.box 79 (.const a0)) 0 (ent si) fun v2_0 s0 =>
 I.wop (.alloc 53) 0 s0 fun v4_1 s1 =>
 I.wop (.load 79 (.const v2_0)) 79 s1 fun v5_2 s2 =>
 veq v5_2 v5_2 = true ∧ I.wop (.load 79 (.const v2_0)) 79 s2 fun v8_3 s3 =>
 veq v8_3 v8_3 = true ∧ I.wop (.binOp .add 3 (.const a1) (.const (.int .i64 1)) 3) 3 s3 fun v10_4 s4 =>
 I.wop (.load 79 (.const v2_0)) 79 s4 fun v12_5 s5 =>
 veq v12_5 v12_5 = true ∧ I.wop (.binOp .add 3 (.const a1) (.const (.int .i64 2)) 3) 3 s5 fun v14_6 s6 =>
 I.wop (.load 79 (.const v2_0)) 79 s6 fun v16_7 s7 =>
 veq v16_7 v16_7 = true ∧ I.wop (.binOp .add 3 (.const a1) (.const (.int .i64 3)) 3) 3 s7 fun v18_8 s8 =>
 I.call 73 [v5_2, a1] s8 fun v7_9 s9 =>
 Grew s8 s9 ∧ I.call 73 [v8_3, v10_4] s9 fun v11_10 s10 =>
 Grew s9 s10 ∧ I.call 73 [v12_5, v14_6] s10 fun v15_11 s11 =>
 Grew s10 s11 ∧ I.call 73 [v16_7, v18_8] s11 fun v19_12 s12 =>
 I.wop (.build 53 ⟨[(0, (.const v7_9)), (1, (.const v11_10)), (2, (.const v15_11)), (3, (.const v19_12))]⟩) 53 s12 fun v20_13 s13 =>
 I.wop (.store 53 (.const v4_1) (.const v20_13)) 0 s13 fun _ s14 =>
 I.wop (.load 53 (.const v4_1)) 53 s14 fun v4_15 _ =>
 I.fin si K v4_15 s14
theorem x75 (I : Prims) (a0 a1 : Value) (si : St) (K : Value → St → Prop) : xbody I 21 k75 Tryd.f75 c75 [a0, a1] si K = v75 I a0 a1 si K := by kernel_rfl
theorem n75 [Memo] (ro : Nat) (a0 a1 : Value) (si : St) (K : Value → St → Prop) : wbody P ro 21 Tryd.f75 c75 [a0, a1] si K = v75 (prims P ro) a0 a1 si K := xbody_eq 21 P ro (x75 _ a0 a1 si K)
theorem r75 (I : Prims) (si : St) (K : Value → St → Prop) (τ : Tau) (ds : List Deferred) (s : St) : xleave I si Tryd.f75.results.toList K .ret τ [] ds s =
 (xdefers I ds s fun s0 =>
 I.wop (.load 53 (.const (τ 4))) 53 s0 fun v4_1 _ =>
 I.fin si K v4_1 s0) := by kernel_rfl
/- attestor/attestorlaw30.pair -/
noncomputable def c76 : Code := bodyOf Tryd.f76
def k76 : List (List Nat) := []
theorem b76 : BodyOk P 13 2 76 Tryd.f76 c76 := ⟨Tryd.func76, by kernel_rfl, by kernel_rfl, by kernel_rfl, by kernel_rfl, by kernel_rfl⟩
def v76 (I : Prims) (a0 a1 : Value) (si : St) (K : Value → St → Prop) : Prop :=
 I.wop (.box 79 (.const a0)) 0 (ent si) fun v2_0 s0 =>
 I.wop (.alloc 47) 0 s0 fun v4_1 s1 =>
 I.wop (.load 79 (.const v2_0)) 79 s1 fun v5_2 s2 =>
 veq v5_2 v5_2 = true ∧ I.wop (.load 79 (.const v2_0)) 79 s2 fun v8_3 s3 =>
 veq v8_3 v8_3 = true ∧ I.wop (.binOp .add 3 (.const a1) (.const (.int .i64 1)) 3) 3 s3 fun v10_4 s4 =>
 I.call 73 [v5_2, a1] s4 fun v7_5 s5 =>
 Grew s4 s5 ∧ I.call 73 [v8_3, v10_4] s5 fun v11_6 s6 =>
 I.wop (.build 47 ⟨[(0, (.const v7_5)), (1, (.const v11_6))]⟩) 47 s6 fun v12_7 s7 =>
 I.wop (.store 47 (.const v4_1) (.const v12_7)) 0 s7 fun _ s8 =>
 I.wop (.load 47 (.const v4_1)) 47 s8 fun v4_9 _ =>
 I.fin si K v4_9 s8
theorem x76 (I : Prims) (a0 a1 : Value) (si : St) (K : Value → St → Prop) : xbody I 13 k76 Tryd.f76 c76 [a0, a1] si K = v76 I a0 a1 si K := by kernel_rfl
theorem n76 [Memo] (ro : Nat) (a0 a1 : Value) (si : St) (K : Value → St → Prop) : wbody P ro 13 Tryd.f76 c76 [a0, a1] si K = v76 (prims P ro) a0 a1 si K := xbody_eq 13 P ro (x76 _ a0 a1 si K)
theorem r76 (I : Prims) (si : St) (K : Value → St → Prop) (τ : Tau) (ds : List Deferred) (s : St) : xleave I si Tryd.f76.results.toList K .ret τ [] ds s =
 (xdefers I ds s fun s0 =>
 I.wop (.load 47 (.const (τ 4))) 47 s0 fun v4_1 _ =>
 I.fin si K v4_1 s0) := by kernel_rfl
/- attestor/attestorlaw30.bits -/
noncomputable def c77 : Code := bodyOf Tryd.f77
def k77 : List (List Nat) := []
theorem b77 : BodyOk P 14 1 77 Tryd.f77 c77 := ⟨Tryd.func77, by kernel_rfl, by kernel_rfl, by kernel_rfl, by kernel_rfl, by kernel_rfl⟩
def v77 (I : Prims) (a0 : Value) (si : St) (K : Value → St → Prop) : Prop :=
 I.wop (.box 79 (.const a0)) 0 (ent si) fun v1_0 s0 =>
 I.wop (.fieldAddr 79 (.const v1_0) 1) 0 s0 fun v3_1 s1 =>
 I.wop (.load 30 (.const v3_1)) 30 s1 fun v4_2 s2 =>
 I.wop (.fieldAddr 79 (.const v1_0) 1) 0 s2 fun v5_3 s3 =>
 I.wop (.load 30 (.const v5_3)) 30 s3 fun v6_4 s4 =>
 I.wop (.call ⟨.builtin .len, ⟨[(.const v6_4)]⟩, #[30]⟩) 3 s4 fun v7_5 s5 =>
 I.wop (.fieldAddr 79 (.const v1_0) 4) 0 s5 fun v8_6 s6 =>
 I.wop (.load 24 (.const v8_6)) 24 s6 fun v9_7 s7 =>
 I.wop (.binOp .rem 24 (.const v9_7) (.const (.int .u64 5)) 24) 24 s7 fun v10_8 s8 =>
 I.wop (.convert 24 3 (.const v10_8)) 3 s8 fun v11_9 s9 =>
 I.wop (.call ⟨.builtin .min, ⟨[(.const v7_5), (.const v11_9)]⟩, #[3, 3]⟩) 3 s9 fun v12_10 s10 =>
 I.wop (.slice 30 (.const v4_2) none (some (.const v12_10)) none) 30 s10 fun v13_11 s11 =>
 I.fin si K v13_11 s11
theorem x77 (I : Prims) (a0 : Value) (si : St) (K : Value → St → Prop) : xbody I 14 k77 Tryd.f77 c77 [a0] si K = v77 I a0 si K := by kernel_rfl
theorem n77 [Memo] (ro : Nat) (a0 : Value) (si : St) (K : Value → St → Prop) : wbody P ro 14 Tryd.f77 c77 [a0] si K = v77 (prims P ro) a0 si K := xbody_eq 14 P ro (x77 _ a0 si K)
theorem r77 (I : Prims) (si : St) (K : Value → St → Prop) (τ : Tau) (ds : List Deferred) (s : St) : xleave I si Tryd.f77.results.toList K .ret τ [] ds s =
 (xdefers I ds s fun s0 =>
 I.fin si K (τ 2) s0) := by kernel_rfl
/- attestor/attestorlaw30.pairs -/
noncomputable def c78 : Code := bodyOf Tryd.f78
noncomputable def c78_11000 : Code := subCode [1, 1, 0, 0, 0] c78
def k78 : List (List Nat) := []
def k78_11000 : List (List Nat) := []
theorem l78_11000 : ltCode 21 c78_11000 = true := by kernel_rfl
theorem m78_11000 : notMap c78_11000 = true := by kernel_rfl
theorem b78 : BodyOk P 21 2 78 Tryd.f78 c78 := ⟨Tryd.func78, by kernel_rfl, by kernel_rfl, by kernel_rfl, by kernel_rfl, by kernel_rfl⟩
def v78_11000 (I : Prims) (rnd : Option Nat) (τ : Tau) (ds : List Deferred) (s : St) (Q : Ex → WK) : Prop :=
 I.wop (.binOp .add 3 (.const (τ 1)) (.const (.int .i64 1)) 3) 3 s fun v7_0 s0 =>
 I.wop (.fieldAddr 79 (.const (τ 2)) 1) 0 s0 fun v8_1 s1 =>
 I.wop (.load 30 (.const v8_1)) 30 s1 fun v9_2 s2 =>
 I.wop (.call ⟨.builtin .len, ⟨[(.const v9_2)]⟩, #[30]⟩) 3 s2 fun v10_3 s3 =>
 I.wop (.binOp .lss 3 (.const v7_0) (.const v10_3) 3) 4 s3 fun v11_4 s4 =>
 wdec v11_4
 (I.wop (.load 79 (.const (τ 2))) 79 s4 fun v15_5 s5 =>
 I.call 76 [v15_5, (τ 1)] s5 fun v17_6 s6 =>
 I.wop (.buildSlice 46 1 ⟨[(0, (.const v17_6))]⟩) 46 s6 fun v18_7 s7 =>
 I.wop (.call ⟨.builtin .append, ⟨[(.const (τ 5)), (.const v18_7)]⟩, #[46, 46]⟩) 46 s7 fun v19_8 s8 =>
 I.wop (.binOp .add 3 (.const (τ 1)) (.const (.int .i64 2)) 3) 3 s8 fun v13_9 s9 =>
 Q .normal (U τ [(1, v13_9), (13, v13_9), (12, (τ 1)), (5, v19_8), (19, v19_8), (18, v18_7), (17, v17_6), (16, (τ 1)), (15, v15_5), (14, (τ 5)), (11, (.bool true)), (11, v11_4), (10, v10_3), (9, v9_2), (8, v8_1), (7, v7_0), (6, (τ 1))]) ds s9)
 (Q (.exit 0) (U τ [(11, (.bool false)), (11, v11_4), (10, v10_3), (9, v9_2), (8, v8_1), (7, v7_0), (6, (τ 1))]) ds s4)
theorem x78_11000 (I : Prims) (rnd : Option Nat) (τ : Tau) (ds : List Deferred) (s : St) (Q : Ex → WK) : xp I rnd 21 k78_11000 c78_11000 [] τ [] ds s (lift Q) = v78_11000 I rnd τ ds s Q := by kernel_rfl
theorem n78_11000 [Memo] (ro : Nat) (rnd : Option Nat) (τ : Tau) (ds : List Deferred) (s : St) (Q : Ex → WK) : wp P ro 21 rnd c78_11000 τ ds s Q = v78_11000 (prims P ro) rnd τ ds s Q := xp_wp rnd 21 P ro (x78_11000 _ rnd τ ds s Q)
def v78 (I : Prims) (a0 a1 : Value) (si : St) (K : Value → St → Prop) : Prop :=
 I.wop (.box 79 (.const a0)) 0 (ent si) fun v2_0 s0 =>
 I.loop 21 none c78_11000 (U undefT [(5, (.slice none 0 0)), (4, (.slice none 0 0)), (2, v2_0), (0, a0), (1, a1)]) [] s0 (fun τ ds s => ((xleave I si Tryd.f78.results.toList K) .ret) τ [] ds s) [(0, fun τ1 ds1 s1 =>
 xdefers I ds1 s1 fun s2 =>
 I.fin si K (τ1 5) s2)]
theorem x78 (I : Prims) (a0 a1 : Value) (si : St) (K : Value → St → Prop) : xbody I 21 k78 Tryd.f78 c78 [a0, a1] si K = v78 I a0 a1 si K := by kernel_rfl
theorem n78 [Memo] (ro : Nat) (a0 a1 : Value) (si : St) (K : Value → St → Prop) : wbody P ro 21 Tryd.f78 c78 [a0, a1] si K = v78 (prims P ro) a0 a1 si K := xbody_eq 21 P ro (x78 _ a0 a1 si K)
theorem r78 (I : Prims) (si : St) (K : Value → St → Prop) (τ : Tau) (ds : List Deferred) (s : St) : xleave I si Tryd.f78.results.toList K .ret τ [] ds s =
 (xdefers I ds s fun s0 =>
 I.fin si K (τ 4) s0) := by kernel_rfl
/- attestor/field.P -/
noncomputable def c80 : Code := bodyOf Tryd.f80
def k80 : List (List Nat) := []
theorem b80 : BodyOk P 6 1 80 Tryd.f80 c80 := ⟨Tryd.func80, by kernel_rfl, by kernel_rfl, by kernel_rfl, by kernel_rfl, by kernel_rfl⟩
def v80 (I : Prims) (a0 : Value) (si : St) (K : Value → St → Prop) : Prop :=
 I.call 95 [a0] (ent si) fun v4_0 s0 =>
 I.wop (.field 140 (.const v4_0) 0) 24 s0 fun v5_1 s1 =>
 I.fin si K v5_1 s1
theorem x80 (I : Prims) (a0 : Value) (si : St) (K : Value → St → Prop) : xbody I 6 k80 Tryd.f80 c80 [a0] si K = v80 I a0 si K := by kernel_rfl
theorem n80 [Memo] (ro : Nat) (a0 : Value) (si : St) (K : Value → St → Prop) : wbody P ro 6 Tryd.f80 c80 [a0] si K = v80 (prims P ro) a0 si K := xbody_eq 6 P ro (x80 _ a0 si K)
theorem r80 (I : Prims) (si : St) (K : Value → St → Prop) (τ : Tau) (ds : List Deferred) (s : St) : xleave I si Tryd.f80.results.toList K .ret τ [] ds s =
 (xdefers I ds s fun s0 =>
 I.fin si K (τ 2) s0) := by kernel_rfl
/- attestor/attestorref01.Sub -/
noncomputable def c86 : Code := bodyOf Tryd.f86
def k86 : List (List Nat) := []
theorem b86 : BodyOk P 25 3 86 Tryd.f86 c86 := ⟨Tryd.func86, by kernel_rfl, by kernel_rfl, by kernel_rfl, by kernel_rfl, by kernel_rfl⟩
def v86 (I : Prims) (a0 a1 a2 : Value) (si : St) (K : Value → St → Prop) : Prop :=
 I.call 16 [a0] (ent si) fun v8_0 s0 =>
 I.wop (.unOp .not 4 (.const v8_0)) 4 s0 fun v9_1 s1 =>
 wdec v9_1
 (I.fin si K (.int .u64 0) s1)
 (I.call 14 [a0] s1 fun v12_2 s2 =>
 I.wop (.binOp .rem 24 (.const a1) (.const v12_2) 24) 24 s2 fun v13_3 s3 =>
 I.call 14 [a0] s3 fun v15_4 s4 =>
 I.wop (.binOp .add 24 (.const v13_3) (.const v15_4) 24) 24 s4 fun v16_5 s5 =>
 I.call 14 [a0] s5 fun v19_6 s6 =>
 I.wop (.binOp .rem 24 (.const a2) (.const v19_6) 24) 24 s6 fun v20_7 s7 =>
 I.wop (.binOp .sub 24 (.const v16_5) (.const v20_7) 24) 24 s7 fun v21_8 s8 =>
 I.call 14 [a0] s8 fun v23_9 s9 =>
 I.wop (.binOp .rem 24 (.const v21_8) (.const v23_9) 24) 24 s9 fun v24_10 s10 =>
 I.fin si K v24_10 s10)
theorem x86 (I : Prims) (a0 a1 a2 : Value) (si : St) (K : Value → St → Prop) : xbody I 25 k86 Tryd.f86 c86 [a0, a1, a2] si K = v86 I a0 a1 a2 si K := by kernel_rfl
theorem n86 [Memo] (ro : Nat) (a0 a1 a2 : Value) (si : St) (K : Value → St → Prop) : wbody P ro 25 Tryd.f86 c86 [a0, a1, a2] si K = v86 (prims P ro) a0 a1 a2 si K := xbody_eq 25 P ro (x86 _ a0 a1 a2 si K)
theorem r86 (I : Prims) (si : St) (K : Value → St → Prop) (τ : Tau) (ds : List Deferred) (s : St) : xleave I si Tryd.f86.results.toList K .ret τ [] ds s =
 (xdefers I ds s fun s0 =>
 I.fin si K (τ 6) s0) := by kernel_rfl
/- attestor/attestorref01.Inv -/
noncomputable def c87 : Code := bodyOf Tryd.f87
def k87 : List (List Nat) := []
theorem b87 : BodyOk P 14 2 87 Tryd.f87 c87 := ⟨Tryd.func87, by kernel_rfl, by kernel_rfl, by kernel_rfl, by kernel_rfl, by kernel_rfl⟩
def v87 (I : Prims) (a0 a1 : Value) (si : St) (K : Value → St → Prop) : Prop :=
 I.call 16 [a0] (ent si) fun v6_0 s0 =>
 I.wop (.unOp .not 4 (.const v6_0)) 4 s0 fun v7_1 s1 =>
 wdec v7_1
 (I.fin si K (.int .u64 0) s1)
 (I.call 14 [a0] s1 fun v11_2 s2 =>
 I.wop (.binOp .sub 24 (.const v11_2) (.const (.int .u64 2)) 24) 24 s2 fun v12_3 s3 =>
 I.call 33 [a0, a1, v12_3] s3 fun v13_4 s4 =>
 I.fin si K v13_4 s4)
theorem x87 (I : Prims) (a0 a1 : Value) (si : St) (K : Value → St → Prop) : xbody I 14 k87 Tryd.f87 c87 [a0, a1] si K = v87 I a0 a1 si K := by kernel_rfl
theorem n87 [Memo] (ro : Nat) (a0 a1 : Value) (si : St) (K : Value → St → Prop) : wbody P ro 14 Tryd.f87 c87 [a0, a1] si K = v87 (prims P ro) a0 a1 si K := xbody_eq 14 P ro (x87 _ a0 a1 si K)
theorem r87 (I : Prims) (si : St) (K : Value → St → Prop) (τ : Tau) (ds : List Deferred) (s : St) : xleave I si Tryd.f87.results.toList K .ret τ [] ds s =
 (xdefers I ds s fun s0 =>
 I.fin si K (τ 4) s0) := by kernel_rfl
/- attestor/field.Neg -/
noncomputable def c93 : Code := bodyOf Tryd.f93
def k93 : List (List Nat) := []
theorem b93 : BodyOk P 21 2 93 Tryd.f93 c93 := ⟨Tryd.func93, by kernel_rfl, by kernel_rfl, by kernel_rfl, by kernel_rfl, by kernel_rfl⟩
def v93 (I : Prims) (a0 a1 : Value) (si : St) (K : Value → St → Prop) : Prop :=
 I.call 80 [a0] (ent si) fun v7_0 s0 =>
 I.wop (.binOp .eql 24 (.const v7_0) (.const (.int .u64 0)) 24) 4 s0 fun v9_1 s1 =>
 wdec v9_1
 (I.fin si K (.int .u64 0) s1)
 (I.wop (.binOp .rem 24 (.const a1) (.const v7_0) 24) 24 s1 fun v13_2 s2 =>
 I.wop (.binOp .eql 24 (.const v13_2) (.const (.int .u64 0)) 24) 4 s2 fun v14_3 s3 =>
 wdec v14_3
 (I.fin si K (.int .u64 0) s3)
 (I.wop (.binOp .rem 24 (.const a1) (.const v7_0) 24) 24 s3 fun v19_4 s4 =>
 I.wop (.binOp .sub 24 (.const v7_0) (.const v19_4) 24) 24 s4 fun v20_5 s5 =>
 I.fin si K v20_5 s5))
theorem x93 (I : Prims) (a0 a1 : Value) (si : St) (K : Value → St → Prop) : xbody I 21 k93 Tryd.f93 c93 [a0, a1] si K = v93 I a0 a1 si K := by kernel_rfl
theorem n93 [Memo] (ro : Nat) (a0 a1 : Value) (si : St) (K : Value → St → Prop) : wbody P ro 21 Tryd.f93 c93 [a0, a1] si K = v93 (prims P ro) a0 a1 si K := xbody_eq 21 P ro (x93 _ a0 a1 si K)
theorem r93 (I : Prims) (si : St) (K : Value → St → Prop) (τ : Tau) (ds : List Deferred) (s : St) : xleave I si Tryd.f93.results.toList K .ret τ [] ds s =
 (xdefers I ds s fun s0 =>
 I.fin si K (τ 4) s0) := by kernel_rfl
/- attestor/field.of -/
noncomputable def c95 : Code := bodyOf Tryd.f95
def k95 : List (List Nat) := []
theorem b95 : BodyOk P 10 1 95 Tryd.f95 c95 := ⟨Tryd.func95, by kernel_rfl, by kernel_rfl, by kernel_rfl, by kernel_rfl, by kernel_rfl⟩
def v95 (I : Prims) (a0 : Value) (si : St) (K : Value → St → Prop) : Prop :=
 I.wop (.alloc 140) 0 (ent si) fun v2_0 s0 =>
 I.call 37 [a0] s0 fun v4_1 s1 =>
 I.wop (.unOp .not 4 (.const v4_1)) 4 s1 fun v5_2 s2 =>
 wdec v5_2
 (I.wop (.build 140 ⟨[]⟩) 140 s2 fun v6_3 s3 =>
 I.wop (.store 140 (.const v2_0) (.const v6_3)) 0 s3 fun _ s4 =>
 I.wop (.load 140 (.const v2_0)) 140 s4 fun v2_5 _ =>
 I.fin si K v2_5 s4)
 (I.wop (.indexAddr 149 (.const (.pointer (some ⟨0, 0, none⟩))) (.const a0)) 0 s2 fun v8_6 s6 =>
 I.wop (.load 140 (.const v8_6)) 140 s6 fun v9_7 s7 =>
 I.wop (.store 140 (.const v2_0) (.const v9_7)) 0 s7 fun _ s8 =>
 I.wop (.load 140 (.const v2_0)) 140 s8 fun v2_9 _ =>
 I.fin si K v2_9 s8)
theorem x95 (I : Prims) (a0 : Value) (si : St) (K : Value → St → Prop) : xbody I 10 k95 Tryd.f95 c95 [a0] si K = v95 I a0 si K := by kernel_rfl
theorem n95 [Memo] (ro : Nat) (a0 : Value) (si : St) (K : Value → St → Prop) : wbody P ro 10 Tryd.f95 c95 [a0] si K = v95 (prims P ro) a0 si K := xbody_eq 10 P ro (x95 _ a0 si K)
theorem r95 (I : Prims) (si : St) (K : Value → St → Prop) (τ : Tau) (ds : List Deferred) (s : St) : xleave I si Tryd.f95.results.toList K .ret τ [] ds s =
 (xdefers I ds s fun s0 =>
 I.wop (.load 140 (.const (τ 2))) 140 s0 fun v2_1 _ =>
 I.fin si K v2_1 s0) := by kernel_rfl
/- attestor/attestorref01.Exponent -/
noncomputable def c100 : Code := bodyOf Tryd.f100
def k100 : List (List Nat) := []
theorem b100 : BodyOk P 10 1 100 Tryd.f100 c100 := ⟨Tryd.func100, by kernel_rfl, by kernel_rfl, by kernel_rfl, by kernel_rfl, by kernel_rfl⟩
def v100 (I : Prims) (a0 : Value) (si : St) (K : Value → St → Prop) : Prop :=
 I.wop (.binOp .eql 3 (.const a0) (.const (.int .i64 0)) 3) 4 (ent si) fun v5_0 s0 =>
 wdec v5_0
 (I.fin si K (.int .i64 5) s0)
 (I.wop (.binOp .eql 3 (.const a0) (.const (.int .i64 2)) 3) 4 s0 fun v6_1 s1 =>
 wdec v6_1
 (I.fin si K (.int .i64 5) s1)
 (I.wop (.binOp .eql 3 (.const a0) (.const (.int .i64 1)) 3) 4 s1 fun v8_2 s2 =>
 wdec v8_2
 (I.fin si K (.int .i64 3) s2)
 (I.wop (.binOp .eql 3 (.const a0) (.const (.int .i64 3)) 3) 4 s2 fun v9_3 s3 =>
 wdec v9_3
 (I.fin si K (.int .i64 3) s3)
 (I.fin si K (.int .i64 0) s3))))
theorem x100 (I : Prims) (a0 : Value) (si : St) (K : Value → St → Prop) : xbody I 10 k100 Tryd.f100 c100 [a0] si K = v100 I a0 si K := by kernel_rfl
theorem n100 [Memo] (ro : Nat) (a0 : Value) (si : St) (K : Value → St → Prop) : wbody P ro 10 Tryd.f100 c100 [a0] si K = v100 (prims P ro) a0 si K := xbody_eq 10 P ro (x100 _ a0 si K)
theorem r100 (I : Prims) (si : St) (K : Value → St → Prop) (τ : Tau) (ds : List Deferred) (s : St) : xleave I si Tryd.f100.results.toList K .ret τ [] ds s =
 (xdefers I ds s fun s0 =>
 I.fin si K (τ 2) s0) := by kernel_rfl
/- attestor/attestorref01.Generator -/
noncomputable def c103 : Code := bodyOf Tryd.f103
def k103 : List (List Nat) := []
theorem b103 : BodyOk P 11 1 103 Tryd.f103 c103 := ⟨Tryd.func103, by kernel_rfl, by kernel_rfl, by kernel_rfl, by kernel_rfl, by kernel_rfl⟩
def v103 (I : Prims) (a0 : Value) (si : St) (K : Value → St → Prop) : Prop :=
 I.wop (.binOp .eql 3 (.const a0) (.const (.int .i64 0)) 3) 4 (ent si) fun v5_0 s0 =>
 wdec v5_0
 (I.fin si K (.int .u64 5) s0)
 (I.wop (.binOp .eql 3 (.const a0) (.const (.int .i64 1)) 3) 4 s0 fun v7_1 s1 =>
 wdec v7_1
 (I.fin si K (.int .u64 3) s1)
 (I.wop (.binOp .eql 3 (.const a0) (.const (.int .i64 3)) 3) 4 s1 fun v8_2 s2 =>
 wdec v8_2
 (I.fin si K (.int .u64 3) s2)
 (I.wop (.binOp .eql 3 (.const a0) (.const (.int .i64 2)) 3) 4 s2 fun v10_3 s3 =>
 wdec v10_3
 (I.fin si K (.int .u64 11) s3)
 (I.fin si K (.int .u64 0) s3))))
theorem x103 (I : Prims) (a0 : Value) (si : St) (K : Value → St → Prop) : xbody I 11 k103 Tryd.f103 c103 [a0] si K = v103 I a0 si K := by kernel_rfl
theorem n103 [Memo] (ro : Nat) (a0 : Value) (si : St) (K : Value → St → Prop) : wbody P ro 11 Tryd.f103 c103 [a0] si K = v103 (prims P ro) a0 si K := xbody_eq 11 P ro (x103 _ a0 si K)
theorem r103 (I : Prims) (si : St) (K : Value → St → Prop) (τ : Tau) (ds : List Deferred) (s : St) : xleave I si Tryd.f103.results.toList K .ret τ [] ds s =
 (xdefers I ds s fun s0 =>
 I.fin si K (τ 2) s0) := by kernel_rfl

end Go.VE
