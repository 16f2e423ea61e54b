/-
  What the functions' code does, operation by operation.
-/
import Derived.Test.YtkadjemloffhnaaDoorTy
set_option linter.unusedSimpArgs false
set_option linter.unusedVariables false
namespace Go.VE
open Go Go.Proofs
/- attestor/attestorlaw23.GatesFunction -/
noncomputable def c4 : Code := bodyOf Tryd.f4
noncomputable def c4_1110100 : Code := subCode [1, 1, 1, 0, 1, 0, 0] c4
noncomputable def c4_1111111 : Code := subCode [1, 1, 1, 1, 1, 1, 1] c4
noncomputable def c4_111111110100 : Code := subCode [1, 1, 1, 1, 1, 1, 1, 1, 0, 1, 0, 0] c4
def k4 : List (List Nat) := [[1, 1, 1, 1, 1, 1, 1]]
def k4_1110100 : List (List Nat) := []
theorem l4_1110100 : ltCode 126 c4_1110100 = true := by kernel_rfl
theorem m4_1110100 : notMap c4_1110100 = true := by kernel_rfl
def k4_111111110100 : List (List Nat) := []
theorem l4_111111110100 : ltCode 126 c4_111111110100 = true := by kernel_rfl
theorem m4_111111110100 : notMap c4_111111110100 = true := by kernel_rfl
theorem b4 : BodyOk P 126 2 4 Tryd.f4 c4 := ⟨Tryd.func4, by kernel_rfl, by kernel_rfl, by kernel_rfl, by kernel_rfl, by kernel_rfl⟩
def v4_1110100 (I : Prims) (rnd : Option Nat) (τ : Tau) (ds : List Deferred) (s : St) (Q : Ex → WK) : Prop :=
 I.wop (.fieldAddr 24 (.const (τ 2)) 4) 0 s fun v33_0 s0 =>
 I.wop (.load 22 (.const v33_0)) 22 s0 fun v34_1 s1 =>
 I.wop (.call ⟨.builtin .len, ⟨[(.const v34_1)]⟩, #[22]⟩) 3 s1 fun v35_2 s2 =>
 I.wop (.binOp .lss 3 (.const (τ 6)) (.const v35_2) 3) 4 s2 fun v36_3 s3 =>
 wdec v36_3
 (I.wop (.load 24 (.const (τ 2))) 24 s3 fun v40_4 s4 =>
 I.call 10 [v40_4, (τ 1), (τ 6)] s4 fun v43_5 s5 =>
 I.wop (.extract (.const v43_5) 0) 4 s5 fun v44_6 s6 =>
 I.wop (.extract (.const v43_5) 1) 28 s6 fun v45_7 s7 =>
 I.wop (.binOp .neq 28 (.const v45_7) (.const (.int .i64 0)) 28) 4 s7 fun v47_8 s8 =>
 wdec v47_8
 (I.wop (.binOp .eql 28 (.const v45_7) (.const (.int .i64 1)) 28) 4 s8 fun v49_9 s9 =>
 wdec v49_9
 (I.call 9 [] s9 fun v51_10 s10 =>
 Q .ret (U τ [(4, v51_10), (52, v51_10), (50, (.bool true)), (51, v51_10), (50, (.bool true)), (50, v49_9), (49, v49_9), (48, v45_7), (47, (.bool true)), (47, v47_8), (46, v45_7), (8, v45_7), (7, v44_6), (45, v45_7), (44, v44_6), (39, v43_5), (43, v43_5), (42, (τ 6)), (41, (τ 1)), (40, v40_4), (36, (.bool true)), (36, v36_3), (35, v35_2), (34, v34_1), (33, v33_0), (32, (τ 6))]) ds s10)
 (Q .ret (U τ [(4, (.bool false)), (52, (.bool false)), (50, (.bool false)), (51, undef), (50, (.bool false)), (50, v49_9), (49, v49_9), (48, v45_7), (47, (.bool true)), (47, v47_8), (46, v45_7), (8, v45_7), (7, v44_6), (45, v45_7), (44, v44_6), (39, v43_5), (43, v43_5), (42, (τ 6)), (41, (τ 1)), (40, v40_4), (36, (.bool true)), (36, v36_3), (35, v35_2), (34, v34_1), (33, v33_0), (32, (τ 6))]) ds s9))
 (wdec (τ 5)
 (I.wop (.binOp .add 3 (.const (τ 6)) (.const (.int .i64 1)) 3) 3 s8 fun v38_11 s11 =>
 Q .normal (U τ [(6, v38_11), (38, v38_11), (37, (τ 6)), (5, v44_6), (56, v44_6), (54, (.bool true)), (55, v44_6), (54, (.bool true)), (54, (τ 5)), (53, (τ 5)), (47, (.bool false)), (47, v47_8), (46, v45_7), (8, v45_7), (7, v44_6), (45, v45_7), (44, v44_6), (39, v43_5), (43, v43_5), (42, (τ 6)), (41, (τ 1)), (40, v40_4), (36, (.bool true)), (36, v36_3), (35, v35_2), (34, v34_1), (33, v33_0), (32, (τ 6))]) ds s11)
 (I.wop (.binOp .add 3 (.const (τ 6)) (.const (.int .i64 1)) 3) 3 s8 fun v38_12 s12 =>
 Q .normal (U τ [(6, v38_12), (38, v38_12), (37, (τ 6)), (5, (.bool false)), (56, (.bool false)), (54, (.bool false)), (55, undef), (54, (.bool false)), (54, (τ 5)), (53, (τ 5)), (47, (.bool false)), (47, v47_8), (46, v45_7), (8, v45_7), (7, v44_6), (45, v45_7), (44, v44_6), (39, v43_5), (43, v43_5), (42, (τ 6)), (41, (τ 1)), (40, v40_4), (36, (.bool true)), (36, v36_3), (35, v35_2), (34, v34_1), (33, v33_0), (32, (τ 6))]) ds s12)))
 (Q (.exit 0) (U τ [(36, (.bool false)), (36, v36_3), (35, v35_2), (34, v34_1), (33, v33_0), (32, (τ 6))]) ds s3)
theorem x4_1110100 (I : Prims) (rnd : Option Nat) (τ : Tau) (ds : List Deferred) (s : St) (Q : Ex → WK) : xp I rnd 126 k4_1110100 c4_1110100 [] τ [] ds s (lift Q) = v4_1110100 I rnd τ ds s Q := by kernel_rfl
theorem n4_1110100 [Memo] (ro : Nat) (rnd : Option Nat) (τ : Tau) (ds : List Deferred) (s : St) (Q : Ex → WK) : wp P ro 126 rnd c4_1110100 τ ds s Q = v4_1110100 (prims P ro) rnd τ ds s Q := xp_wp rnd 126 P ro (x4_1110100 _ rnd τ ds s Q)
def v4_1111111 (I : Prims) (τ : Tau) (ds : List Deferred) (s : St) (Q : Ex → XK) : Prop :=
 I.loop 126 none c4_111111110100 (U τ [(13, (.int .i64 0)), (12, (.bool true))]) ds s (fun τ ds s => (Q .ret) τ [] ds s) [(2, fun τ0 ds0 s0 =>
 I.wop (.binOp .eql 4 (.const (τ0 10)) (.const (τ0 12)) 4) 4 s0 fun v122_1 s1 =>
 wdec v122_1
 (I.call 9 [] s1 fun v124_2 s2 =>
 Q .ret τ0 [(4, v124_2), (125, v124_2), (123, (.bool true)), (124, v124_2), (123, (.bool true)), (123, v122_1), (122, v122_1), (121, (τ0 12)), (120, (τ0 10))] ds0 s2)
 (Q .ret τ0 [(4, (.bool false)), (125, (.bool false)), (123, (.bool false)), (124, undef), (123, (.bool false)), (123, v122_1), (122, v122_1), (121, (τ0 12)), (120, (τ0 10))] ds0 s1))]
theorem n4_1111111 (I : Prims) (τ : Tau) (ds : List Deferred) (s : St) (Q : Ex → XK) : xp I none 126 k4 c4_1111111 [1, 1, 1, 1, 1, 1, 1] τ [] ds s Q = v4_1111111 I τ ds s Q := by kernel_rfl
def v4_111111110100 (I : Prims) (rnd : Option Nat) (τ : Tau) (ds : List Deferred) (s : St) (Q : Ex → WK) : Prop :=
 I.wop (.fieldAddr 24 (.const (τ 2)) 4) 0 s fun v101_0 s0 =>
 I.wop (.load 22 (.const v101_0)) 22 s0 fun v102_1 s1 =>
 I.wop (.call ⟨.builtin .len, ⟨[(.const v102_1)]⟩, #[22]⟩) 3 s1 fun v103_2 s2 =>
 I.wop (.binOp .lss 3 (.const (τ 13)) (.const v103_2) 3) 4 s2 fun v104_3 s3 =>
 wdec v104_3
 (I.wop (.load 24 (.const (τ 2))) 24 s3 fun v108_4 s4 =>
 I.call 10 [v108_4, (τ 9), (τ 13)] s4 fun v111_5 s5 =>
 I.wop (.extract (.const v111_5) 0) 4 s5 fun v112_6 s6 =>
 I.wop (.extract (.const v111_5) 1) 28 s6 fun v113_7 s7 =>
 I.wop (.binOp .neq 28 (.const v113_7) (.const (.int .i64 0)) 28) 4 s7 fun v115_8 s8 =>
 wdec v115_8
 (Q .ret (U τ [(4, (.bool false)), (115, (.bool true)), (115, v115_8), (114, v113_7), (15, v113_7), (14, v112_6), (113, v113_7), (112, v112_6), (107, v111_5), (111, v111_5), (110, (τ 13)), (109, (τ 9)), (108, v108_4), (104, (.bool true)), (104, v104_3), (103, v103_2), (102, v102_1), (101, v101_0), (100, (τ 13))]) ds s8)
 (wdec (τ 12)
 (I.wop (.binOp .add 3 (.const (τ 13)) (.const (.int .i64 1)) 3) 3 s8 fun v106_9 s9 =>
 Q .normal (U τ [(13, v106_9), (106, v106_9), (105, (τ 13)), (12, v112_6), (119, v112_6), (117, (.bool true)), (118, v112_6), (117, (.bool true)), (117, (τ 12)), (116, (τ 12)), (115, (.bool false)), (115, v115_8), (114, v113_7), (15, v113_7), (14, v112_6), (113, v113_7), (112, v112_6), (107, v111_5), (111, v111_5), (110, (τ 13)), (109, (τ 9)), (108, v108_4), (104, (.bool true)), (104, v104_3), (103, v103_2), (102, v102_1), (101, v101_0), (100, (τ 13))]) ds s9)
 (I.wop (.binOp .add 3 (.const (τ 13)) (.const (.int .i64 1)) 3) 3 s8 fun v106_10 s10 =>
 Q .normal (U τ [(13, v106_10), (106, v106_10), (105, (τ 13)), (12, (.bool false)), (119, (.bool false)), (117, (.bool false)), (118, undef), (117, (.bool false)), (117, (τ 12)), (116, (τ 12)), (115, (.bool false)), (115, v115_8), (114, v113_7), (15, v113_7), (14, v112_6), (113, v113_7), (112, v112_6), (107, v111_5), (111, v111_5), (110, (τ 13)), (109, (τ 9)), (108, v108_4), (104, (.bool true)), (104, v104_3), (103, v103_2), (102, v102_1), (101, v101_0), (100, (τ 13))]) ds s10)))
 (Q (.exit 2) (U τ [(104, (.bool false)), (104, v104_3), (103, v103_2), (102, v102_1), (101, v101_0), (100, (τ 13))]) ds s3)
theorem x4_111111110100 (I : Prims) (rnd : Option Nat) (τ : Tau) (ds : List Deferred) (s : St) (Q : Ex → WK) : xp I rnd 126 k4_111111110100 c4_111111110100 [] τ [] ds s (lift Q) = v4_111111110100 I rnd τ ds s Q := by kernel_rfl
theorem n4_111111110100 [Memo] (ro : Nat) (rnd : Option Nat) (τ : Tau) (ds : List Deferred) (s : St) (Q : Ex → WK) : wp P ro 126 rnd c4_111111110100 τ ds s Q = v4_111111110100 (prims P ro) rnd τ ds s Q := xp_wp rnd 126 P ro (x4_111111110100 _ rnd τ ds s Q)
def v4 (I : Prims) (a0 a1 : Value) (si : St) (K : Value → St → Prop) : Prop :=
 I.wop (.box 24 (.const a0)) 0 (ent si) fun v2_0 s0 =>
 I.wop (.load 24 (.const v2_0)) 24 s0 fun v16_1 s1 =>
 I.call 8 [v16_1] s1 fun v17_2 s2 =>
 I.wop (.unOp .not 4 (.const v17_2)) 4 s2 fun v18_3 s3 =>
 wdec v18_3
 (I.call 9 [] s3 fun v31_4 s4 =>
 I.fin si K v31_4 s4)
 (I.wop (.load 24 (.const v2_0)) 24 s3 fun v20_5 s5 =>
 I.call 12 [v20_5] s5 fun v21_6 s6 =>
 I.wop (.unOp .not 4 (.const v21_6)) 4 s6 fun v22_7 s7 =>
 wdec v22_7
 (I.call 9 [] s7 fun v31_8 s8 =>
 I.fin si K v31_8 s8)
 (I.wop (.call ⟨.builtin .len, ⟨[(.const a1)]⟩, #[25]⟩) 3 s7 fun v26_9 s9 =>
 I.wop (.fieldAddr 24 (.const v2_0) 1) 0 s9 fun v27_10 s10 =>
 I.wop (.load 3 (.const v27_10)) 3 s10 fun v28_11 s11 =>
 I.wop (.binOp .neq 3 (.const v26_9) (.const v28_11) 3) 4 s11 fun v29_12 s12 =>
 wdec v29_12
 (I.call 9 [] s12 fun v31_13 s13 =>
 I.fin si K v31_13 s13)
 (I.loop 126 none c4_1110100 (U undefT [(6, (.int .i64 0)), (5, (.bool true)), (30, (.bool false)), (30, v29_12), (24, (.bool false)), (29, v29_12), (24, (.bool false)), (28, v28_11), (24, (.bool false)), (27, v27_10), (24, (.bool false)), (26, v26_9), (24, (.bool false)), (25, a1), (24, (.bool false)), (24, v22_7), (23, v22_7), (19, (.bool false)), (22, v22_7), (19, (.bool false)), (21, v21_6), (19, (.bool false)), (20, v20_5), (19, (.bool false)), (19, v18_3), (18, v18_3), (17, v17_2), (16, v16_1), (4, (.bool false)), (2, v2_0), (0, a0), (1, a1)]) [] s12 (fun τ ds s => ((xleave I si Tryd.f4.results.toList K) .ret) τ [] ds s) [(0, fun τ14 ds14 s14 =>
 I.wop (.load 24 (.const (τ14 2))) 24 s14 fun v58_15 s15 =>
 veq v58_15 v58_15 = true ∧ I.wop (.fieldAddr 24 (.const (τ14 2)) 2) 0 s15 fun v60_16 s16 =>
 I.wop (.load 3 (.const v60_16)) 3 s16 fun v61_17 s17 =>
 veq v61_17 v61_17 = true ∧ I.wop (.slice 25 (.const (τ14 1)) none (some (.const v61_17)) none) 25 s17 fun v62_18 s18 =>
 I.wop (.fieldAddr 24 (.const (τ14 2)) 2) 0 s18 fun v64_19 s19 =>
 I.wop (.load 3 (.const v64_19)) 3 s19 fun v65_20 s20 =>
 veq v65_20 v65_20 = true ∧ I.wop (.fieldAddr 24 (.const (τ14 2)) 2) 0 s20 fun v66_21 s21 =>
 I.wop (.load 3 (.const v66_21)) 3 s21 fun v67_22 s22 =>
 veq v67_22 v67_22 = true ∧ I.wop (.fieldAddr 24 (.const (τ14 2)) 3) 0 s22 fun v68_23 s23 =>
 I.wop (.load 3 (.const v68_23)) 3 s23 fun v69_24 s24 =>
 veq v69_24 v69_24 = true ∧ I.wop (.binOp .add 3 (.const v67_22) (.const v69_24) 3) 3 s24 fun v70_25 s25 =>
 I.wop (.slice 25 (.const (τ14 1)) (some (.const v65_20)) (some (.const v70_25)) none) 25 s25 fun v71_26 s26 =>
 I.call 13 [v58_15, v62_18, v71_26] s26 fun v72_27 s27 =>
 I.wop (.extract (.const v72_27) 0) 25 s27 fun v73_28 s28 =>
 I.wop (.extract (.const v72_27) 1) 4 s28 fun v74_29 s29 =>
 I.wop (.extract (.const v72_27) 2) 28 s29 fun v75_30 s30 =>
 I.wop (.binOp .neq 28 (.const v75_30) (.const (.int .i64 0)) 28) 4 s30 fun v77_31 s31 =>
 wdec v77_31
 (I.wop (.binOp .eql 28 (.const v75_30) (.const (.int .i64 1)) 28) 4 s31 fun v79_32 s32 =>
 wdec v79_32
 (I.wop (.fieldAddr 24 (.const (τ14 2)) 4) 0 s32 fun v81_33 s33 =>
 I.wop (.load 22 (.const v81_33)) 22 s33 fun v82_34 s34 =>
 I.wop (.call ⟨.builtin .len, ⟨[(.const v82_34)]⟩, #[22]⟩) 3 s34 fun v83_35 s35 =>
 I.wop (.binOp .eql 3 (.const v83_35) (.const (.int .i64 0)) 3) 4 s35 fun v84_36 s36 =>
 wdec v84_36
 (I.call 9 [] s36 fun v87_37 s37 =>
 xdefers I ds14 s37 fun s38 =>
 I.fin si K v87_37 s38)
 (xdefers I ds14 s36 fun s39 =>
 I.fin si K (.bool false) s39))
 (xdefers I ds14 s32 fun s40 =>
 I.fin si K (.bool false) s40))
 (wdec (τ14 5)
 (I.wop (.unOp .not 4 (.const v74_29)) 4 s31 fun v92_41 s41 =>
 wdec v92_41
 (xdefers I ds14 s41 fun s42 =>
 I.fin si K (.bool false) s42)
 (I.call 14 [v73_28, (τ14 1)] s41 fun v96_43 s43 =>
 I.wop (.unOp .not 4 (.const v96_43)) 4 s43 fun v97_44 s44 =>
 wdec v97_44
 (xdefers I ds14 s44 fun s45 =>
 I.fin si K (.bool false) s45)
 (I.hold (xp I none 126 k4 c4_1111111 [1, 1, 1, 1, 1, 1, 1] (U τ14 [(99, (.bool false)), (99, v97_44), (90, (.bool true)), (98, v97_44), (93, (.bool false)), (90, (.bool true)), (97, v97_44), (93, (.bool false)), (96, v96_43), (93, (.bool false)), (95, (τ14 1)), (93, (.bool false)), (94, v73_28), (93, (.bool false)), (93, v92_41), (90, (.bool true)), (92, v92_41), (90, (.bool true)), (91, v74_29), (90, (.bool true)), (90, (τ14 5)), (89, (τ14 5)), (77, (.bool false)), (77, v77_31), (76, v75_30), (11, v75_30), (10, v74_29), (9, v73_28), (75, v75_30), (74, v74_29), (73, v73_28), (57, v72_27), (72, v72_27), (71, v71_26), (70, v70_25), (69, v69_24), (68, v68_23), (67, v67_22), (66, v66_21), (65, v65_20), (64, v64_19), (63, (τ14 1)), (62, v62_18), (61, v61_17), (60, v60_16), (59, (τ14 1)), (58, v58_15)]) [] ds14 s44 (xleave I si Tryd.f4.results.toList K)))))
 (I.hold (xp I none 126 k4 c4_1111111 [1, 1, 1, 1, 1, 1, 1] (U τ14 [(99, (.bool false)), (99, (.bool false)), (90, (.bool false)), (98, undef), (90, (.bool false)), (97, undef), (96, undef), (95, undef), (94, undef), (93, undef), (90, (.bool false)), (92, undef), (90, (.bool false)), (91, undef), (90, (.bool false)), (90, (τ14 5)), (89, (τ14 5)), (77, (.bool false)), (77, v77_31), (76, v75_30), (11, v75_30), (10, v74_29), (9, v73_28), (75, v75_30), (74, v74_29), (73, v73_28), (57, v72_27), (72, v72_27), (71, v71_26), (70, v70_25), (69, v69_24), (68, v68_23), (67, v67_22), (66, v66_21), (65, v65_20), (64, v64_19), (63, (τ14 1)), (62, v62_18), (61, v61_17), (60, v60_16), (59, (τ14 1)), (58, v58_15)]) [] ds14 s31 (xleave I si Tryd.f4.results.toList K)))))])))
theorem x4 (I : Prims) (a0 a1 : Value) (si : St) (K : Value → St → Prop) : xbody I 126 k4 Tryd.f4 c4 [a0, a1] si K = v4 I a0 a1 si K := by kernel_rfl
theorem n4 [Memo] (ro : Nat) (a0 a1 : Value) (si : St) (K : Value → St → Prop) : wbody P ro 126 Tryd.f4 c4 [a0, a1] si K = v4 (prims P ro) a0 a1 si K := xbody_eq 126 P ro (x4 _ a0 a1 si K)
theorem r4 (I : Prims) (si : St) (K : Value → St → Prop) (τ : Tau) (ds : List Deferred) (s : St) : xleave I si Tryd.f4.results.toList K .ret τ [] ds s =
 (xdefers I ds s fun s0 =>
 I.fin si K (τ 4) s0) := by kernel_rfl
/- attestor/attestorlaw23.small -/
noncomputable def c8 : Code := bodyOf Tryd.f8
def k8 : List (List Nat) := []
theorem b8 : BodyOk P 12 1 8 Tryd.f8 c8 := ⟨Tryd.func8, by kernel_rfl, by kernel_rfl, by kernel_rfl, by kernel_rfl, by kernel_rfl⟩
def v8 (I : Prims) (a0 : Value) (si : St) (K : Value → St → Prop) : Prop :=
 I.wop (.box 24 (.const a0)) 0 (ent si) fun v1_0 s0 =>
 I.wop (.fieldAddr 24 (.const v1_0) 1) 0 s0 fun v3_1 s1 =>
 I.wop (.load 3 (.const v3_1)) 3 s1 fun v4_2 s2 =>
 I.wop (.binOp .leq 3 (.const v4_2) (.const (.int .i64 300)) 3) 4 s2 fun v5_3 s3 =>
 wdec v5_3
 (I.wop (.fieldAddr 24 (.const v1_0) 4) 0 s3 fun v7_4 s4 =>
 I.wop (.load 22 (.const v7_4)) 22 s4 fun v8_5 s5 =>
 I.wop (.call ⟨.builtin .len, ⟨[(.const v8_5)]⟩, #[22]⟩) 3 s5 fun v9_6 s6 =>
 I.wop (.binOp .leq 3 (.const v9_6) (.const (.int .i64 300)) 3) 4 s6 fun v10_7 s7 =>
 I.fin si K v10_7 s7)
 (I.fin si K (.bool false) s3)
theorem x8 (I : Prims) (a0 : Value) (si : St) (K : Value → St → Prop) : xbody I 12 k8 Tryd.f8 c8 [a0] si K = v8 I a0 si K := by kernel_rfl
theorem n8 [Memo] (ro : Nat) (a0 : Value) (si : St) (K : Value → St → Prop) : wbody P ro 12 Tryd.f8 c8 [a0] si K = v8 (prims P ro) a0 si K := xbody_eq 12 P ro (x8 _ a0 si K)
theorem r8 (I : Prims) (si : St) (K : Value → St → Prop) (τ : Tau) (ds : List Deferred) (s : St) : xleave I si Tryd.f8.results.toList K .ret τ [] ds s =
 (xdefers I ds s fun s0 =>
 I.fin si K (τ 2) s0) := by kernel_rfl
/- attestor/gates.Holds -/
noncomputable def c10 : Code := bodyOf Tryd.f10
def k10 : List (List Nat) := []
theorem b10 : BodyOk P 40 3 10 Tryd.f10 c10 := ⟨Tryd.func10, by kernel_rfl, by kernel_rfl, by kernel_rfl, by kernel_rfl, by kernel_rfl⟩
def v10 (I : Prims) (a0 a1 a2 : Value) (si : St) (K : Value → St → Prop) : Prop :=
 I.wop (.box 24 (.const a0)) 0 (ent si) fun v3_0 s0 =>
 I.wop (.load 24 (.const v3_0)) 24 s0 fun v8_1 s1 =>
 I.call 16 [v8_1] s1 fun v9_2 s2 =>
 I.wop (.unOp .not 4 (.const v9_2)) 4 s2 fun v10_3 s3 =>
 wdec v10_3
 (I.fin si K (.tuple (.mk [(.bool false), (.int .i64 1)])) s3)
 (I.wop (.call ⟨.builtin .len, ⟨[(.const a1)]⟩, #[25]⟩) 3 s3 fun v13_4 s4 =>
 I.wop (.fieldAddr 24 (.const v3_0) 1) 0 s4 fun v14_5 s5 =>
 I.wop (.load 3 (.const v14_5)) 3 s5 fun v15_6 s6 =>
 I.wop (.binOp .neq 3 (.const v13_4) (.const v15_6) 3) 4 s6 fun v16_7 s7 =>
 wdec v16_7
 (I.fin si K (.tuple (.mk [(.bool false), (.int .i64 1)])) s7)
 (I.wop (.fieldAddr 24 (.const v3_0) 0) 0 s7 fun v19_8 s8 =>
 I.wop (.load 3 (.const v19_8)) 3 s8 fun v20_9 s9 =>
 I.call 22 [v20_9, a1] s9 fun v22_10 s10 =>
 I.wop (.unOp .not 4 (.const v22_10)) 4 s10 fun v23_11 s11 =>
 wdec v23_11
 (I.fin si K (.tuple (.mk [(.bool false), (.int .i64 1)])) s11)
 (I.wop (.binOp .lss 3 (.const a2) (.const (.int .i64 0)) 3) 4 s11 fun v27_12 s12 =>
 wdec v27_12
 (I.fin si K (.tuple (.mk [(.bool false), (.int .i64 1)])) s12)
 (I.wop (.fieldAddr 24 (.const v3_0) 4) 0 s12 fun v31_13 s13 =>
 I.wop (.load 22 (.const v31_13)) 22 s13 fun v32_14 s14 =>
 I.wop (.call ⟨.builtin .len, ⟨[(.const v32_14)]⟩, #[22]⟩) 3 s14 fun v33_15 s15 =>
 I.wop (.binOp .geq 3 (.const a2) (.const v33_15) 3) 4 s15 fun v34_16 s16 =>
 wdec v34_16
 (I.fin si K (.tuple (.mk [(.bool false), (.int .i64 1)])) s16)
 (I.wop (.load 24 (.const v3_0)) 24 s16 fun v36_17 s17 =>
 I.call 23 [v36_17, a1, a2] s17 fun v39_18 s18 =>
 I.fin si K (.tuple (.mk [v39_18, (.int .i64 0)])) s18)))))
theorem x10 (I : Prims) (a0 a1 a2 : Value) (si : St) (K : Value → St → Prop) : xbody I 40 k10 Tryd.f10 c10 [a0, a1, a2] si K = v10 I a0 a1 a2 si K := by kernel_rfl
theorem n10 [Memo] (ro : Nat) (a0 a1 a2 : Value) (si : St) (K : Value → St → Prop) : wbody P ro 40 Tryd.f10 c10 [a0, a1, a2] si K = v10 (prims P ro) a0 a1 a2 si K := xbody_eq 40 P ro (x10 _ a0 a1 a2 si K)
/- attestor/attestorref23.Valid -/
noncomputable def c12 : Code := bodyOf Tryd.f12
def k12 : List (List Nat) := []
theorem b12 : BodyOk P 14 1 12 Tryd.f12 c12 := ⟨Tryd.func12, by kernel_rfl, by kernel_rfl, by kernel_rfl, by kernel_rfl, by kernel_rfl⟩
def v12 (I : Prims) (a0 : Value) (si : St) (K : Value → St → Prop) : Prop :=
 I.wop (.box 24 (.const a0)) 0 (ent si) fun v1_0 s0 =>
 I.wop (.load 24 (.const v1_0)) 24 s0 fun v5_1 s1 =>
 I.call 26 [v5_1] s1 fun v6_2 s2 =>
 I.wop (.unOp .not 4 (.const v6_2)) 4 s2 fun v7_3 s3 =>
 wdec v7_3
 (I.fin si K (.bool false) s3)
 (I.wop (.load 24 (.const v1_0)) 24 s3 fun v9_4 s4 =>
 I.call 27 [v9_4] s4 fun v10_5 s5 =>
 I.wop (.extract (.const v10_5) 0) 49 s5 fun _ s6 =>
 I.wop (.extract (.const v10_5) 1) 4 s6 fun v12_7 s7 =>
 I.fin si K v12_7 s7)
theorem x12 (I : Prims) (a0 : Value) (si : St) (K : Value → St → Prop) : xbody I 14 k12 Tryd.f12 c12 [a0] si K = v12 I a0 si K := by kernel_rfl
theorem n12 [Memo] (ro : Nat) (a0 : Value) (si : St) (K : Value → St → Prop) : wbody P ro 14 Tryd.f12 c12 [a0] si K = v12 (prims P ro) a0 si K := xbody_eq 14 P ro (x12 _ a0 si K)
/- attestor/gates.Run -/
noncomputable def c13 : Code := bodyOf Tryd.f13
noncomputable def c13_1111110100 : Code := subCode [1, 1, 1, 1, 1, 1, 0, 1, 0, 0] c13
noncomputable def c13_111111110100 : Code := subCode [1, 1, 1, 1, 1, 1, 1, 1, 0, 1, 0, 0] c13
noncomputable def c13_11111111110100 : Code := subCode [1, 1, 1, 1, 1, 1, 1, 1, 1, 1, 0, 1, 0, 0] c13
noncomputable def c13_11111111010011001010100 : Code := subCode [1, 1, 1, 1, 1, 1, 1, 1, 0, 1, 0, 0, 1, 1, 0, 0, 1, 0, 1, 0, 1, 0, 0] c13
noncomputable def c13_111111110100110010111 : Code := subCode [1, 1, 1, 1, 1, 1, 1, 1, 0, 1, 0, 0, 1, 1, 0, 0, 1, 0, 1, 1, 1] c13
noncomputable def c13_111111110100111 : Code := subCode [1, 1, 1, 1, 1, 1, 1, 1, 0, 1, 0, 0, 1, 1, 1] c13
def k13 : List (List Nat) := []
def k13_1111110100 : List (List Nat) := []
theorem l13_1111110100 : ltCode 160 c13_1111110100 = true := by kernel_rfl
theorem m13_1111110100 : notMap c13_1111110100 = true := by kernel_rfl
def k13_111111110100 : List (List Nat) := [[1, 1, 1, 0, 1, 0, 0, 1, 1]]
theorem l13_111111110100 : ltCode 160 c13_111111110100 = true := by kernel_rfl
theorem m13_111111110100 : notMap c13_111111110100 = true := by kernel_rfl
def k13_11111111110100 : List (List Nat) := []
theorem l13_11111111110100 : ltCode 160 c13_11111111110100 = true := by kernel_rfl
theorem m13_11111111110100 : notMap c13_11111111110100 = true := by kernel_rfl
def k13_11111111010011001010100 : List (List Nat) := []
theorem l13_11111111010011001010100 : ltCode 160 c13_11111111010011001010100 = true := by kernel_rfl
theorem m13_11111111010011001010100 : notMap c13_11111111010011001010100 = true := by kernel_rfl
theorem b13 : BodyOk P 160 3 13 Tryd.f13 c13 := ⟨Tryd.func13, by kernel_rfl, by kernel_rfl, by kernel_rfl, by kernel_rfl, by kernel_rfl⟩
def v13_1111110100 (I : Prims) (rnd : Option Nat) (τ : Tau) (ds : List Deferred) (s : St) (Q : Ex → WK) : Prop :=
 I.wop (.binOp .lss 3 (.const (τ 70)) (.const (τ 69)) 3) 4 s fun v71_0 s0 =>
 wdec v71_0
 (I.wop (.load 52 (.const (τ 10))) 52 s0 fun v73_1 s1 =>
 I.wop (.indexAddr 52 (.const v73_1) (.const (τ 70))) 0 s1 fun v75_2 s2 =>
 I.wop (.store 4 (.const v75_2) (.const (.bool true))) 0 s2 fun _ s3 =>
 I.wop (.binOp .add 3 (.const (τ 70)) (.const (.int .i64 1)) 3) 3 s3 fun v76_4 s4 =>
 Q .normal (U τ [(70, v76_4), (76, v76_4), (75, v75_2), (74, (τ 70)), (73, v73_1), (11, (τ 70)), (72, (τ 70)), (71, (.bool true)), (71, v71_0)]) ds s4)
 (Q (.exit 0) (U τ [(71, (.bool false)), (71, v71_0)]) ds s0)
theorem x13_1111110100 (I : Prims) (rnd : Option Nat) (τ : Tau) (ds : List Deferred) (s : St) (Q : Ex → WK) : xp I rnd 160 k13_1111110100 c13_1111110100 [] τ [] ds s (lift Q) = v13_1111110100 I rnd τ ds s Q := by kernel_rfl
theorem n13_1111110100 [Memo] (ro : Nat) (rnd : Option Nat) (τ : Tau) (ds : List Deferred) (s : St) (Q : Ex → WK) : wp P ro 160 rnd c13_1111110100 τ ds s Q = v13_1111110100 (prims P ro) rnd τ ds s Q := xp_wp rnd 160 P ro (x13_1111110100 _ rnd τ ds s Q)
def v13_111111110100 (I : Prims) (rnd : Option Nat) (τ : Tau) (ds : List Deferred) (s : St) (Q : Ex → WK) : Prop :=
 I.wop (.binOp .lss 3 (.const (τ 81)) (.const (τ 80)) 3) 0 s fun v82_0 s0 =>
 wdec v82_0
 (I.wop (.indexAddr 22 (.const (τ 79)) (.const (τ 81))) 0 s0 fun v84_1 s1 =>
 I.wop (.load 43 (.const v84_1)) 43 s1 fun v85_2 s2 =>
 I.wop (.alloc 43) 0 s2 fun v14_3 s3 =>
 I.wop (.store 43 (.const v14_3) (.const v85_2)) 0 s3 fun _ s4 =>
 I.wop (.fieldAddr 43 (.const v14_3) 0) 0 s4 fun v87_5 s5 =>
 I.wop (.load 40 (.const v87_5)) 40 s5 fun v88_6 s6 =>
 I.wop (.binOp .eql 40 (.const v88_6) (.const (.int .u8 3)) 40) 4 s6 fun v89_7 s7 =>
 wdec v89_7
 (I.wop (.fieldAddr 24 (.const (τ 3)) 0) 0 s7 fun v90_8 s8 =>
 I.wop (.load 3 (.const v90_8)) 3 s8 fun v91_9 s9 =>
 I.wop (.load 43 (.const v14_3)) 43 s9 fun v92_10 s10 =>
 I.wop (.load 25 (.const (τ 9))) 25 s10 fun v93_11 s11 =>
 I.call 29 [v91_9, v92_10, v93_11] s11 fun v94_12 s12 =>
 I.loop 160 rnd c13_11111111010011001010100 (U τ [(95, (.int .i64 0)), (94, v94_12), (93, v93_11), (92, v92_10), (91, v91_9), (90, v90_8), (86, (.bool true)), (86, v89_7), (89, v89_7), (88, v88_6), (87, v87_5), (13, (τ 81)), (14, v14_3), (85, v85_2), (84, v84_1), (83, (τ 81)), (82, (.bool true)), (82, v82_0)]) ds s12 (fun τ ds s => ((lift Q) .ret) τ [] ds s) [(5, fun τ13 ds13 s13 =>
 I.wop (.binOp .add 3 (.const (τ13 81)) (.const (.int .i64 1)) 3) 3 s13 fun v143_14 s14 =>
 Q .normal (U τ13 [(81, v143_14), (143, v143_14)]) ds13 s14)])
 (I.wop (.fieldAddr 43 (.const v14_3) 5) 0 s7 fun v113_15 s15 =>
 I.wop (.load 38 (.const v113_15)) 38 s15 fun v114_16 s16 =>
 I.wop (.binOp .neq 38 (.const v114_16) (.const (.int .u64 0)) 38) 4 s16 fun v115_17 s17 =>
 wdec v115_17
 (I.wop (.load 52 (.const (τ 10))) 52 s17 fun v117_18 s18 =>
 I.wop (.fieldAddr 43 (.const v14_3) 1) 0 s18 fun v118_19 s19 =>
 I.wop (.indexAddr 41 (.const v118_19) (.const (.int .i64 2))) 0 s19 fun v119_20 s20 =>
 I.wop (.load 3 (.const v119_20)) 3 s20 fun v120_21 s21 =>
 I.wop (.indexAddr 52 (.const v117_18) (.const v120_21)) 0 s21 fun v121_22 s22 =>
 I.wop (.load 4 (.const v121_22)) 4 s22 fun v122_23 s23 =>
 I.wop (.unOp .not 4 (.const v122_23)) 4 s23 fun v123_24 s24 =>
 I.hold (xp I rnd 160 k13_111111110100 c13_111111110100110010111 [1, 1, 1, 0, 1, 0, 0, 1, 1] (U τ [(112, v123_24), (124, v123_24), (116, (.bool true)), (123, v123_24), (116, (.bool true)), (122, v122_23), (116, (.bool true)), (121, v121_22), (116, (.bool true)), (120, v120_21), (116, (.bool true)), (119, v119_20), (116, (.bool true)), (118, v118_19), (116, (.bool true)), (117, v117_18), (116, (.bool true)), (116, v115_17), (115, v115_17), (114, v114_16), (113, v113_15), (86, (.bool false)), (86, v89_7), (89, v89_7), (88, v88_6), (87, v87_5), (13, (τ 81)), (14, v14_3), (85, v85_2), (84, v84_1), (83, (τ 81)), (82, (.bool true)), (82, v82_0)]) [] ds s24 (blkX 4 (blkX 3 (sX I rnd 160 k13_111111110100 c13_111111110100111 [1, 1, 1] (lift Q))))))
 (I.hold (xp I rnd 160 k13_111111110100 c13_111111110100110010111 [1, 1, 1, 0, 1, 0, 0, 1, 1] (U τ [(112, (.bool false)), (124, (.bool false)), (116, (.bool false)), (123, undef), (116, (.bool false)), (122, undef), (116, (.bool false)), (121, undef), (116, (.bool false)), (120, undef), (116, (.bool false)), (119, undef), (116, (.bool false)), (118, undef), (116, (.bool false)), (117, undef), (116, (.bool false)), (116, v115_17), (115, v115_17), (114, v114_16), (113, v113_15), (86, (.bool false)), (86, v89_7), (89, v89_7), (88, v88_6), (87, v87_5), (13, (τ 81)), (14, v14_3), (85, v85_2), (84, v84_1), (83, (τ 81)), (82, (.bool true)), (82, v82_0)]) [] ds s17 (blkX 4 (blkX 3 (sX I rnd 160 k13_111111110100 c13_111111110100111 [1, 1, 1] (lift Q))))))))
 (Q (.exit 2) (U τ [(82, (.bool false)), (82, v82_0)]) ds s0)
theorem x13_111111110100 (I : Prims) (rnd : Option Nat) (τ : Tau) (ds : List Deferred) (s : St) (Q : Ex → WK) : xp I rnd 160 k13_111111110100 c13_111111110100 [] τ [] ds s (lift Q) = v13_111111110100 I rnd τ ds s Q := by kernel_rfl
theorem n13_111111110100 [Memo] (ro : Nat) (rnd : Option Nat) (τ : Tau) (ds : List Deferred) (s : St) (Q : Ex → WK) : wp P ro 160 rnd c13_111111110100 τ ds s Q = v13_111111110100 (prims P ro) rnd τ ds s Q := xp_wp rnd 160 P ro (x13_111111110100 _ rnd τ ds s Q)
def v13_11111111110100 (I : Prims) (rnd : Option Nat) (τ : Tau) (ds : List Deferred) (s : St) (Q : Ex → WK) : Prop :=
 I.wop (.binOp .lss 3 (.const (τ 147)) (.const (τ 146)) 3) 0 s fun v148_0 s0 =>
 wdec v148_0
 (wdec (τ 17)
 (I.wop (.load 24 (.const (τ 3))) 24 s0 fun v152_1 s1 =>
 I.wop (.load 25 (.const (τ 9))) 25 s1 fun v153_2 s2 =>
 I.call 23 [v152_1, v153_2, (τ 147)] s2 fun v155_3 s3 =>
 I.wop (.binOp .add 3 (.const (τ 147)) (.const (.int .i64 1)) 3) 3 s3 fun v157_4 s4 =>
 Q .normal (U τ [(147, v157_4), (157, v157_4), (17, v155_3), (156, v155_3), (151, (.bool true)), (155, v155_3), (151, (.bool true)), (154, (τ 147)), (151, (.bool true)), (153, v153_2), (151, (.bool true)), (152, v152_1), (151, (.bool true)), (151, (τ 17)), (150, (τ 17)), (18, (τ 147)), (149, (τ 147)), (148, (.bool true)), (148, v148_0)]) ds s4)
 (I.wop (.binOp .add 3 (.const (τ 147)) (.const (.int .i64 1)) 3) 3 s0 fun v157_5 s5 =>
 Q .normal (U τ [(147, v157_5), (157, v157_5), (17, (.bool false)), (156, (.bool false)), (151, (.bool false)), (155, undef), (151, (.bool false)), (154, undef), (151, (.bool false)), (153, undef), (151, (.bool false)), (152, undef), (151, (.bool false)), (151, (τ 17)), (150, (τ 17)), (18, (τ 147)), (149, (τ 147)), (148, (.bool true)), (148, v148_0)]) ds s5))
 (Q (.exit 7) (U τ [(148, (.bool false)), (148, v148_0)]) ds s0)
theorem x13_11111111110100 (I : Prims) (rnd : Option Nat) (τ : Tau) (ds : List Deferred) (s : St) (Q : Ex → WK) : xp I rnd 160 k13_11111111110100 c13_11111111110100 [] τ [] ds s (lift Q) = v13_11111111110100 I rnd τ ds s Q := by kernel_rfl
theorem n13_11111111110100 [Memo] (ro : Nat) (rnd : Option Nat) (τ : Tau) (ds : List Deferred) (s : St) (Q : Ex → WK) : wp P ro 160 rnd c13_11111111110100 τ ds s Q = v13_11111111110100 (prims P ro) rnd τ ds s Q := xp_wp rnd 160 P ro (x13_11111111110100 _ rnd τ ds s Q)
def v13_11111111010011001010100 (I : Prims) (rnd : Option Nat) (τ : Tau) (ds : List Deferred) (s : St) (Q : Ex → WK) : Prop :=
 I.wop (.binOp .lss 3 (.const (τ 95)) (.const (.int .i64 4)) 3) 0 s fun v96_0 s0 =>
 wdec v96_0
 (I.wop (.index 39 (.const (τ 94)) (.const (τ 95))) 38 s0 fun v98_1 s1 =>
 I.wop (.fieldAddr 24 (.const (τ 3)) 4) 0 s1 fun v100_2 s2 =>
 I.wop (.load 22 (.const v100_2)) 22 s2 fun v101_3 s3 =>
 I.wop (.binOp .add 3 (.const (τ 13)) (.const (.int .i64 1)) 3) 3 s3 fun v103_4 s4 =>
 I.wop (.indexAddr 22 (.const v101_3) (.const v103_4)) 0 s4 fun v105_5 s5 =>
 I.wop (.fieldAddr 43 (.const v105_5) 1) 0 s5 fun v106_6 s6 =>
 I.wop (.indexAddr 41 (.const v106_6) (.const (τ 95))) 0 s6 fun v107_7 s7 =>
 I.wop (.load 3 (.const v107_7)) 3 s7 fun v108_8 s8 =>
 xcallv I (τ 12) [v108_8, v98_1] s8 fun v110_9 s9 =>
 I.wop (.binOp .add 3 (.const (τ 95)) (.const (.int .i64 1)) 3) 3 s9 fun v111_10 s10 =>
 Q .normal (U τ [(95, v111_10), (111, v111_10), (110, v110_9), (109, v98_1), (108, v108_8), (107, v107_7), (106, v106_6), (105, v105_5), (104, (τ 95)), (103, v103_4), (102, (τ 13)), (101, v101_3), (100, v100_2), (99, (τ 12)), (16, v98_1), (15, (τ 95)), (98, v98_1), (97, (τ 95)), (96, (.bool true)), (96, v96_0)]) ds s10)
 (Q (.exit 5) (U τ [(96, (.bool false)), (96, v96_0)]) ds s0)
theorem x13_11111111010011001010100 (I : Prims) (rnd : Option Nat) (τ : Tau) (ds : List Deferred) (s : St) (Q : Ex → WK) : xp I rnd 160 k13_11111111010011001010100 c13_11111111010011001010100 [] τ [] ds s (lift Q) = v13_11111111010011001010100 I rnd τ ds s Q := by kernel_rfl
theorem n13_11111111010011001010100 [Memo] (ro : Nat) (rnd : Option Nat) (τ : Tau) (ds : List Deferred) (s : St) (Q : Ex → WK) : wp P ro 160 rnd c13_11111111010011001010100 τ ds s Q = v13_11111111010011001010100 (prims P ro) rnd τ ds s Q := xp_wp rnd 160 P ro (x13_11111111010011001010100 _ rnd τ ds s Q)
def v13_111111110100110010111 (I : Prims) (rnd : Option Nat) (τ : Tau) (ds : List Deferred) (s : St) (Q : Ex → XK) : Prop :=
 wdec (τ 112)
 (I.wop (.fieldAddr 43 (.const (τ 14)) 1) 0 s fun v126_0 s0 =>
 I.wop (.indexAddr 41 (.const v126_0) (.const (.int .i64 2))) 0 s0 fun v127_1 s1 =>
 I.wop (.load 3 (.const v127_1)) 3 s1 fun v128_2 s2 =>
 veq v128_2 v128_2 = true ∧ I.wop (.fieldAddr 24 (.const (τ 3)) 0) 0 s2 fun v129_3 s3 =>
 I.wop (.load 3 (.const v129_3)) 3 s3 fun v130_4 s4 =>
 veq v130_4 v130_4 = true ∧ I.wop (.fieldAddr 24 (.const (τ 3)) 0) 0 s4 fun v131_5 s5 =>
 I.wop (.load 3 (.const v131_5)) 3 s5 fun v132_6 s6 =>
 veq v132_6 v132_6 = true ∧ I.wop (.fieldAddr 24 (.const (τ 3)) 0) 0 s6 fun v133_7 s7 =>
 I.wop (.load 3 (.const v133_7)) 3 s7 fun v134_8 s8 =>
 veq v134_8 v134_8 = true ∧ I.wop (.load 43 (.const (τ 14))) 43 s8 fun v135_9 s9 =>
 veq v135_9 v135_9 = true ∧ I.wop (.load 25 (.const (τ 9))) 25 s9 fun v136_10 s10 =>
 veq v136_10 v136_10 = true ∧ I.wop (.fieldAddr 43 (.const (τ 14)) 5) 0 s10 fun v138_11 s11 =>
 I.wop (.load 38 (.const v138_11)) 38 s11 fun v139_12 s12 =>
 veq v139_12 v139_12 = true ∧ I.call 32 [v134_8, v135_9, v136_10] s12 fun v137_13 s13 =>
 Keeps [(14, .ptr v138_11), (7, .ptr v131_5), (5, .ptr v129_3), (3, .ptr v127_1)] s12 s13 ∧ I.call 31 [v132_6, v137_13, v139_12] s13 fun v140_14 s14 =>
 Keeps [(5, .ptr v129_3), (3, .ptr v127_1)] s13 s14 ∧ I.call 30 [v130_4, v140_14] s14 fun v141_15 s15 =>
 Keeps [(3, .ptr v127_1)] s14 s15 ∧ xcallv I (τ 12) [v128_2, v141_15] s15 fun v142_16 s16 =>
 Q .normal τ [(142, v142_16), (141, v141_15), (140, v140_14), (137, v137_13), (139, v139_12), (138, v138_11), (136, v136_10), (135, v135_9), (134, v134_8), (133, v133_7), (132, v132_6), (131, v131_5), (130, v130_4), (129, v129_3), (128, v128_2), (127, v127_1), (126, v126_0), (125, (τ 12)), (112, (.bool true))] ds s16)
 (Q .normal τ [(112, (.bool false))] ds s)
theorem n13_111111110100110010111 (I : Prims) (rnd : Option Nat) (τ : Tau) (ds : List Deferred) (s : St) (Q : Ex → XK) : xp I rnd 160 k13_111111110100 c13_111111110100110010111 [1, 1, 1, 0, 1, 0, 0, 1, 1] τ [] ds s Q = v13_111111110100110010111 I rnd τ ds s Q := by kernel_rfl
def v13_111111110100111 (I : Prims) (rnd : Option Nat) (τ : Tau) (ds : List Deferred) (s : St) (Q : Ex → XK) : Prop :=
 I.wop (.binOp .add 3 (.const (τ 81)) (.const (.int .i64 1)) 3) 3 s fun v143_0 s0 =>
 Q .normal τ [(81, v143_0), (143, v143_0)] ds s0
theorem n13_111111110100111 (I : Prims) (rnd : Option Nat) (τ : Tau) (ds : List Deferred) (s : St) (Q : Ex → XK) : xp I rnd 160 k13_111111110100 c13_111111110100111 [1, 1, 1] τ [] ds s Q = v13_111111110100111 I rnd τ ds s Q := by kernel_rfl
def v13 (I : Prims) (a0 a1 a2 : Value) (si : St) (K : Value → St → Prop) : Prop :=
 I.wop (.box 24 (.const a0)) 0 (ent si) fun v3_0 s0 =>
 I.wop (.load 24 (.const v3_0)) 24 s0 fun v19_1 s1 =>
 I.call 16 [v19_1] s1 fun v20_2 s2 =>
 I.wop (.unOp .not 4 (.const v20_2)) 4 s2 fun v21_3 s3 =>
 wdec v21_3
 (I.fin si K (.tuple (.mk [(.slice none 0 0), (.bool false), (.int .i64 1)])) s3)
 (I.wop (.call ⟨.builtin .len, ⟨[(.const a1)]⟩, #[25]⟩) 3 s3 fun v24_4 s4 =>
 I.wop (.fieldAddr 24 (.const v3_0) 2) 0 s4 fun v25_5 s5 =>
 I.wop (.load 3 (.const v25_5)) 3 s5 fun v26_6 s6 =>
 I.wop (.binOp .neq 3 (.const v24_4) (.const v26_6) 3) 4 s6 fun v27_7 s7 =>
 wdec v27_7
 (I.fin si K (.tuple (.mk [(.slice none 0 0), (.bool false), (.int .i64 1)])) s7)
 (I.wop (.call ⟨.builtin .len, ⟨[(.const a2)]⟩, #[25]⟩) 3 s7 fun v31_8 s8 =>
 I.wop (.fieldAddr 24 (.const v3_0) 3) 0 s8 fun v32_9 s9 =>
 I.wop (.load 3 (.const v32_9)) 3 s9 fun v33_10 s10 =>
 I.wop (.binOp .neq 3 (.const v31_8) (.const v33_10) 3) 4 s10 fun v34_11 s11 =>
 wdec v34_11
 (I.fin si K (.tuple (.mk [(.slice none 0 0), (.bool false), (.int .i64 1)])) s11)
 (I.wop (.fieldAddr 24 (.const v3_0) 0) 0 s11 fun v37_12 s12 =>
 I.wop (.load 3 (.const v37_12)) 3 s12 fun v38_13 s13 =>
 I.call 22 [v38_13, a1] s13 fun v40_14 s14 =>
 I.wop (.unOp .not 4 (.const v40_14)) 4 s14 fun v41_15 s15 =>
 wdec v41_15
 (I.fin si K (.tuple (.mk [(.slice none 0 0), (.bool false), (.int .i64 1)])) s15)
 (I.wop (.fieldAddr 24 (.const v3_0) 0) 0 s15 fun v44_16 s16 =>
 I.wop (.load 3 (.const v44_16)) 3 s16 fun v45_17 s17 =>
 I.call 22 [v45_17, a2] s17 fun v47_18 s18 =>
 I.wop (.unOp .not 4 (.const v47_18)) 4 s18 fun v48_19 s19 =>
 wdec v48_19
 (I.fin si K (.tuple (.mk [(.slice none 0 0), (.bool false), (.int .i64 1)])) s19)
 (I.wop (.fieldAddr 24 (.const v3_0) 1) 0 s19 fun v50_20 s20 =>
 I.wop (.load 3 (.const v50_20)) 3 s20 fun v51_21 s21 =>
 I.wop (.makeSlice 25 (.const v51_21) (.const v51_21)) 25 s21 fun v52_22 s22 =>
 I.wop (.alloc 25) 0 s22 fun v9_23 s23 =>
 I.wop (.store 25 (.const v9_23) (.const v52_22)) 0 s23 fun _ s24 =>
 I.wop (.fieldAddr 24 (.const v3_0) 1) 0 s24 fun v53_25 s25 =>
 I.wop (.load 3 (.const v53_25)) 3 s25 fun v54_26 s26 =>
 I.wop (.makeSlice 52 (.const v54_26) (.const v54_26)) 52 s26 fun v55_27 s27 =>
 I.wop (.alloc 52) 0 s27 fun v10_28 s28 =>
 I.wop (.store 52 (.const v10_28) (.const v55_27)) 0 s28 fun _ s29 =>
 I.wop (.load 25 (.const v9_23)) 25 s29 fun v56_30 s30 =>
 I.wop (.call ⟨.builtin .copy, ⟨[(.const v56_30), (.const a1)]⟩, #[25, 25]⟩) 3 s30 fun v58_31 s31 =>
 I.wop (.load 25 (.const v9_23)) 25 s31 fun v59_32 s32 =>
 I.wop (.fieldAddr 24 (.const v3_0) 2) 0 s32 fun v60_33 s33 =>
 I.wop (.load 3 (.const v60_33)) 3 s33 fun v61_34 s34 =>
 I.wop (.slice 25 (.const v59_32) (some (.const v61_34)) none none) 25 s34 fun v62_35 s35 =>
 I.wop (.call ⟨.builtin .copy, ⟨[(.const v62_35), (.const a2)]⟩, #[25, 25]⟩) 3 s35 fun v64_36 s36 =>
 I.wop (.fieldAddr 24 (.const v3_0) 2) 0 s36 fun v65_37 s37 =>
 I.wop (.load 3 (.const v65_37)) 3 s37 fun v66_38 s38 =>
 I.wop (.fieldAddr 24 (.const v3_0) 3) 0 s38 fun v67_39 s39 =>
 I.wop (.load 3 (.const v67_39)) 3 s39 fun v68_40 s40 =>
 I.wop (.binOp .add 3 (.const v66_38) (.const v68_40) 3) 3 s40 fun v69_41 s41 =>
 I.loop 160 none c13_1111110100 (U undefT [(70, (.int .i64 0)), (69, v69_41), (68, v68_40), (67, v67_39), (66, v66_38), (65, v65_37), (64, v64_36), (63, a2), (62, v62_35), (61, v61_34), (60, v60_33), (59, v59_32), (58, v58_31), (57, a1), (56, v56_30), (10, v10_28), (55, v55_27), (54, v54_26), (53, v53_25), (9, v9_23), (52, v52_22), (51, v51_21), (50, v50_20), (49, (.bool false)), (49, v48_19), (43, (.bool false)), (48, v48_19), (43, (.bool false)), (47, v47_18), (43, (.bool false)), (46, a2), (43, (.bool false)), (45, v45_17), (43, (.bool false)), (44, v44_16), (43, (.bool false)), (43, v41_15), (42, v41_15), (36, (.bool false)), (41, v41_15), (36, (.bool false)), (40, v40_14), (36, (.bool false)), (39, a1), (36, (.bool false)), (38, v38_13), (36, (.bool false)), (37, v37_12), (36, (.bool false)), (36, v34_11), (35, v34_11), (29, (.bool false)), (34, v34_11), (29, (.bool false)), (33, v33_10), (29, (.bool false)), (32, v32_9), (29, (.bool false)), (31, v31_8), (29, (.bool false)), (30, a2), (29, (.bool false)), (29, v27_7), (28, v27_7), (22, (.bool false)), (27, v27_7), (22, (.bool false)), (26, v26_6), (22, (.bool false)), (25, v25_5), (22, (.bool false)), (24, v24_4), (22, (.bool false)), (23, a1), (22, (.bool false)), (22, v21_3), (21, v21_3), (20, v20_2), (19, v19_1), (8, (.int .i64 0)), (7, (.bool false)), (6, (.slice none 0 0)), (3, v3_0), (0, a0), (1, a1), (2, a2)]) [] s41 (fun τ ds s => ((xleave I si Tryd.f13.results.toList K) .ret) τ [] ds s) [(0, fun τ42 ds42 s42 =>
 I.wop (.fieldAddr 24 (.const (τ42 3)) 4) 0 s42 fun v78_43 s43 =>
 I.wop (.load 22 (.const v78_43)) 22 s43 fun v79_44 s44 =>
 I.wop (.call ⟨.builtin .len, ⟨[(.const v79_44)]⟩, #[22]⟩) 3 s44 fun v80_45 s45 =>
 I.loop 160 none c13_111111110100 (U τ42 [(81, (.int .i64 0)), (80, v80_45), (79, v79_44), (78, v78_43), (12, (.func (.func 28) (.mk []) (.mk [(τ42 10), (τ42 9)]))), (77, (.func (.func 28) (.mk []) (.mk [(τ42 10), (τ42 9)])))]) ds42 s45 (fun τ ds s => ((xleave I si Tryd.f13.results.toList K) .ret) τ [] ds s) [(2, fun τ46 ds46 s46 =>
 I.wop (.fieldAddr 24 (.const (τ46 3)) 4) 0 s46 fun v144_47 s47 =>
 I.wop (.load 22 (.const v144_47)) 22 s47 fun v145_48 s48 =>
 I.wop (.call ⟨.builtin .len, ⟨[(.const v145_48)]⟩, #[22]⟩) 3 s48 fun v146_49 s49 =>
 I.loop 160 none c13_11111111110100 (U τ46 [(147, (.int .i64 0)), (146, v146_49), (145, v145_48), (144, v144_47), (17, (.bool true))]) ds46 s49 (fun τ ds s => ((xleave I si Tryd.f13.results.toList K) .ret) τ [] ds s) [(7, fun τ50 ds50 s50 =>
 I.wop (.load 25 (.const (τ50 9))) 25 s50 fun v158_51 s51 =>
 xdefers I ds50 s51 fun s52 =>
 I.fin si K (.tuple (.mk [v158_51, (τ50 17), (.int .i64 0)])) s52)]), (5, fun _ _ _ =>
 False)])])))))
theorem x13 (I : Prims) (a0 a1 a2 : Value) (si : St) (K : Value → St → Prop) : xbody I 160 k13 Tryd.f13 c13 [a0, a1, a2] si K = v13 I a0 a1 a2 si K := by kernel_rfl
theorem n13 [Memo] (ro : Nat) (a0 a1 a2 : Value) (si : St) (K : Value → St → Prop) : wbody P ro 160 Tryd.f13 c13 [a0, a1, a2] si K = v13 (prims P ro) a0 a1 a2 si K := xbody_eq 160 P ro (x13 _ a0 a1 a2 si K)
/- attestor/attestorref13.Equal -/
noncomputable def c14 : Code := bodyOf Tryd.f14
noncomputable def c14_110100 : Code := subCode [1, 1, 0, 1, 0, 0] c14
def k14 : List (List Nat) := []
def k14_110100 : List (List Nat) := []
theorem l14_110100 : ltCode 26 c14_110100 = true := by kernel_rfl
theorem m14_110100 : notMap c14_110100 = true := by kernel_rfl
theorem b14 : BodyOk P 26 2 14 Tryd.f14 c14 := ⟨Tryd.func14, by kernel_rfl, by kernel_rfl, by kernel_rfl, by kernel_rfl, by kernel_rfl⟩
def v14_110100 (I : Prims) (rnd : Option Nat) (τ : Tau) (ds : List Deferred) (s : St) (Q : Ex → WK) : Prop :=
 I.wop (.call ⟨.builtin .len, ⟨[(.const (τ 0))]⟩, #[25]⟩) 3 s fun v13_0 s0 =>
 I.wop (.binOp .lss 3 (.const (τ 5)) (.const v13_0) 3) 4 s0 fun v14_1 s1 =>
 wdec v14_1
 (I.wop (.indexAddr 25 (.const (τ 0)) (.const (τ 5))) 0 s1 fun v19_2 s2 =>
 I.wop (.load 38 (.const v19_2)) 38 s2 fun v20_3 s3 =>
 I.wop (.indexAddr 25 (.const (τ 1)) (.const (τ 5))) 0 s3 fun v23_4 s4 =>
 I.wop (.load 38 (.const v23_4)) 38 s4 fun v24_5 s5 =>
 I.wop (.binOp .neq 38 (.const v20_3) (.const v24_5) 38) 4 s5 fun v25_6 s6 =>
 wdec v25_6
 (Q .ret (U τ [(4, (.bool false)), (25, (.bool true)), (25, v25_6), (24, v24_5), (23, v23_4), (22, (τ 5)), (21, (τ 1)), (20, v20_3), (19, v19_2), (18, (τ 5)), (17, (τ 0)), (14, (.bool true)), (14, v14_1), (13, v13_0), (12, (τ 0)), (11, (τ 5))]) ds s6)
 (I.wop (.binOp .add 3 (.const (τ 5)) (.const (.int .i64 1)) 3) 3 s6 fun v16_7 s7 =>
 Q .normal (U τ [(5, v16_7), (16, v16_7), (15, (τ 5)), (25, (.bool false)), (25, v25_6), (24, v24_5), (23, v23_4), (22, (τ 5)), (21, (τ 1)), (20, v20_3), (19, v19_2), (18, (τ 5)), (17, (τ 0)), (14, (.bool true)), (14, v14_1), (13, v13_0), (12, (τ 0)), (11, (τ 5))]) ds s7))
 (Q (.exit 0) (U τ [(14, (.bool false)), (14, v14_1), (13, v13_0), (12, (τ 0)), (11, (τ 5))]) ds s1)
theorem x14_110100 (I : Prims) (rnd : Option Nat) (τ : Tau) (ds : List Deferred) (s : St) (Q : Ex → WK) : xp I rnd 26 k14_110100 c14_110100 [] τ [] ds s (lift Q) = v14_110100 I rnd τ ds s Q := by kernel_rfl
theorem n14_110100 [Memo] (ro : Nat) (rnd : Option Nat) (τ : Tau) (ds : List Deferred) (s : St) (Q : Ex → WK) : wp P ro 26 rnd c14_110100 τ ds s Q = v14_110100 (prims P ro) rnd τ ds s Q := xp_wp rnd 26 P ro (x14_110100 _ rnd τ ds s Q)
def v14 (I : Prims) (a0 a1 : Value) (si : St) (K : Value → St → Prop) : Prop :=
 I.wop (.call ⟨.builtin .len, ⟨[(.const a0)]⟩, #[25]⟩) 3 (ent si) fun v7_0 s0 =>
 I.wop (.call ⟨.builtin .len, ⟨[(.const a1)]⟩, #[25]⟩) 3 s0 fun v9_1 s1 =>
 I.wop (.binOp .neq 3 (.const v7_0) (.const v9_1) 3) 4 s1 fun v10_2 s2 =>
 wdec v10_2
 (I.fin si K (.bool false) s2)
 (I.loop 26 none c14_110100 (U undefT [(5, (.int .i64 0)), (10, (.bool false)), (10, v10_2), (9, v9_1), (8, a1), (7, v7_0), (6, a0), (4, (.bool false)), (0, a0), (1, a1)]) [] s2 (fun τ ds s => ((xleave I si Tryd.f14.results.toList K) .ret) τ [] ds s) [(0, fun _ ds3 s3 =>
 xdefers I ds3 s3 fun s4 =>
 I.fin si K (.bool true) s4)])
theorem x14 (I : Prims) (a0 a1 : Value) (si : St) (K : Value → St → Prop) : xbody I 26 k14 Tryd.f14 c14 [a0, a1] si K = v14 I a0 a1 si K := by kernel_rfl
theorem n14 [Memo] (ro : Nat) (a0 a1 : Value) (si : St) (K : Value → St → Prop) : wbody P ro 26 Tryd.f14 c14 [a0, a1] si K = v14 (prims P ro) a0 a1 si K := xbody_eq 26 P ro (x14 _ a0 a1 si K)
theorem r14 (I : Prims) (si : St) (K : Value → St → Prop) (τ : Tau) (ds : List Deferred) (s : St) : xleave I si Tryd.f14.results.toList K .ret τ [] ds s =
 (xdefers I ds s fun s0 =>
 I.fin si K (τ 4) s0) := by kernel_rfl
/- attestor/gates.Valid -/
noncomputable def c16 : Code := bodyOf Tryd.f16
def k16 : List (List Nat) := []
theorem b16 : BodyOk P 11 1 16 Tryd.f16 c16 := ⟨Tryd.func16, by kernel_rfl, by kernel_rfl, by kernel_rfl, by kernel_rfl, by kernel_rfl⟩
def v16 (I : Prims) (a0 : Value) (si : St) (K : Value → St → Prop) : Prop :=
 I.wop (.box 24 (.const a0)) 0 (ent si) fun v1_0 s0 =>
 I.wop (.load 24 (.const v1_0)) 24 s0 fun v6_1 s1 =>
 I.call 37 [v6_1] s1 fun v7_2 s2 =>
 I.wop (.extract (.const v7_2) 0) 49 s2 fun _ s3 =>
 I.wop (.extract (.const v7_2) 1) 4 s3 fun v9_4 s4 =>
 I.fin si K v9_4 s4
theorem x16 (I : Prims) (a0 : Value) (si : St) (K : Value → St → Prop) : xbody I 11 k16 Tryd.f16 c16 [a0] si K = v16 I a0 si K := by kernel_rfl
theorem n16 [Memo] (ro : Nat) (a0 : Value) (si : St) (K : Value → St → Prop) : wbody P ro 11 Tryd.f16 c16 [a0] si K = v16 (prims P ro) a0 si K := xbody_eq 11 P ro (x16 _ a0 si K)
/- attestor/gates.elements -/
noncomputable def c22 : Code := bodyOf Tryd.f22
def k22 : List (List Nat) := []
theorem b22 : BodyOk P 15 2 22 Tryd.f22 c22 := ⟨Tryd.func22, by kernel_rfl, by kernel_rfl, by kernel_rfl, by kernel_rfl, by kernel_rfl⟩
def v22 (I : Prims) (a0 a1 : Value) (si : St) (K : Value → St → Prop) : Prop :=
 I.wop (.call ⟨.builtin .len, ⟨[(.const a1)]⟩, #[25]⟩) 3 (ent si) fun v6_0 s0 =>
 I.wop (.binOp .eql 3 (.const v6_0) (.const (.int .i64 0)) 3) 4 s0 fun v7_1 s1 =>
 wdec v7_1
 (I.fin si K (.bool true) s1)
 (I.call 46 [a1] s1 fun v10_2 s2 =>
 I.call 47 [a0] s2 fun v12_3 s3 =>
 I.wop (.binOp .lss 38 (.const v10_2) (.const v12_3) 38) 4 s3 fun v13_4 s4 =>
 I.fin si K v13_4 s4)
theorem x22 (I : Prims) (a0 a1 : Value) (si : St) (K : Value → St → Prop) : xbody I 15 k22 Tryd.f22 c22 [a0, a1] si K = v22 I a0 a1 si K := by kernel_rfl
theorem n22 [Memo] (ro : Nat) (a0 a1 : Value) (si : St) (K : Value → St → Prop) : wbody P ro 15 Tryd.f22 c22 [a0, a1] si K = v22 (prims P ro) a0 a1 si K := xbody_eq 15 P ro (x22 _ a0 a1 si K)
/- attestor/gates.holds -/
noncomputable def c23 : Code := bodyOf Tryd.f23
noncomputable def c23_11010111110100 : Code := subCode [1, 1, 0, 1, 0, 1, 1, 1, 1, 1, 0, 1, 0, 0] c23
def k23 : List (List Nat) := []
def k23_11010111110100 : List (List Nat) := []
theorem l23_11010111110100 : ltCode 71 c23_11010111110100 = true := by kernel_rfl
theorem m23_11010111110100 : notMap c23_11010111110100 = true := by kernel_rfl
theorem b23 : BodyOk P 71 3 23 Tryd.f23 c23 := ⟨Tryd.func23, by kernel_rfl, by kernel_rfl, by kernel_rfl, by kernel_rfl, by kernel_rfl⟩
def v23_11010111110100 (I : Prims) (rnd : Option Nat) (τ : Tau) (ds : List Deferred) (s : St) (Q : Ex → WK) : Prop :=
 I.wop (.binOp .lss 3 (.const (τ 52)) (.const (.int .i64 4)) 3) 0 s fun v53_0 s0 =>
 wdec v53_0
 (I.wop (.index 39 (.const (τ 51)) (.const (τ 52))) 38 s0 fun v55_1 s1 =>
 I.wop (.fieldAddr 24 (.const (τ 3)) 4) 0 s1 fun v57_2 s2 =>
 I.wop (.load 22 (.const v57_2)) 22 s2 fun v58_3 s3 =>
 I.wop (.binOp .add 3 (.const (τ 2)) (.const (.int .i64 1)) 3) 3 s3 fun v60_4 s4 =>
 I.wop (.indexAddr 22 (.const v58_3) (.const v60_4)) 0 s4 fun v62_5 s5 =>
 I.wop (.fieldAddr 43 (.const v62_5) 1) 0 s5 fun v63_6 s6 =>
 I.wop (.indexAddr 41 (.const v63_6) (.const (τ 52))) 0 s6 fun v64_7 s7 =>
 I.wop (.load 3 (.const v64_7)) 3 s7 fun v65_8 s8 =>
 I.wop (.indexAddr 25 (.const (τ 1)) (.const v65_8)) 0 s8 fun v66_9 s9 =>
 I.wop (.load 38 (.const v66_9)) 38 s9 fun v67_10 s10 =>
 I.wop (.binOp .neq 38 (.const v67_10) (.const v55_1) 38) 4 s10 fun v69_11 s11 =>
 wdec v69_11
 (Q .ret (U τ [(6, (.bool false)), (69, (.bool true)), (69, v69_11), (68, v55_1), (67, v67_10), (66, v66_9), (65, v65_8), (64, v64_7), (63, v63_6), (62, v62_5), (61, (τ 52)), (60, v60_4), (59, (τ 2)), (58, v58_3), (57, v57_2), (56, (τ 1)), (9, v55_1), (8, (τ 52)), (55, v55_1), (54, (τ 52)), (53, (.bool true)), (53, v53_0)]) ds s11)
 (I.wop (.binOp .add 3 (.const (τ 52)) (.const (.int .i64 1)) 3) 3 s11 fun v70_12 s12 =>
 Q .normal (U τ [(52, v70_12), (70, v70_12), (69, (.bool false)), (69, v69_11), (68, v55_1), (67, v67_10), (66, v66_9), (65, v65_8), (64, v64_7), (63, v63_6), (62, v62_5), (61, (τ 52)), (60, v60_4), (59, (τ 2)), (58, v58_3), (57, v57_2), (56, (τ 1)), (9, v55_1), (8, (τ 52)), (55, v55_1), (54, (τ 52)), (53, (.bool true)), (53, v53_0)]) ds s12))
 (Q (.exit 1) (U τ [(53, (.bool false)), (53, v53_0)]) ds s0)
theorem x23_11010111110100 (I : Prims) (rnd : Option Nat) (τ : Tau) (ds : List Deferred) (s : St) (Q : Ex → WK) : xp I rnd 71 k23_11010111110100 c23_11010111110100 [] τ [] ds s (lift Q) = v23_11010111110100 I rnd τ ds s Q := by kernel_rfl
theorem n23_11010111110100 [Memo] (ro : Nat) (rnd : Option Nat) (τ : Tau) (ds : List Deferred) (s : St) (Q : Ex → WK) : wp P ro 71 rnd c23_11010111110100 τ ds s Q = v23_11010111110100 (prims P ro) rnd τ ds s Q := xp_wp rnd 71 P ro (x23_11010111110100 _ rnd τ ds s Q)
def v23 (I : Prims) (a0 a1 a2 : Value) (si : St) (K : Value → St → Prop) : Prop :=
 I.wop (.box 24 (.const a0)) 0 (ent si) fun v3_0 s0 =>
 I.wop (.fieldAddr 24 (.const v3_0) 4) 0 s0 fun v10_1 s1 =>
 I.wop (.load 22 (.const v10_1)) 22 s1 fun v11_2 s2 =>
 I.wop (.indexAddr 22 (.const v11_2) (.const a2)) 0 s2 fun v13_3 s3 =>
 I.wop (.load 43 (.const v13_3)) 43 s3 fun v14_4 s4 =>
 I.wop (.alloc 43) 0 s4 fun v7_5 s5 =>
 I.wop (.store 43 (.const v7_5) (.const v14_4)) 0 s5 fun _ s6 =>
 I.wop (.fieldAddr 43 (.const v7_5) 0) 0 s6 fun v15_7 s7 =>
 I.wop (.load 40 (.const v15_7)) 40 s7 fun v16_8 s8 =>
 I.wop (.binOp .eql 40 (.const v16_8) (.const (.int .u8 1)) 40) 4 s8 fun v18_9 s9 =>
 wdec v18_9
 (I.wop (.fieldAddr 24 (.const v3_0) 0) 0 s9 fun v19_10 s10 =>
 I.wop (.load 3 (.const v19_10)) 3 s10 fun v20_11 s11 =>
 veq v20_11 v20_11 = true ∧ I.wop (.fieldAddr 24 (.const v3_0) 0) 0 s11 fun v21_12 s12 =>
 I.wop (.load 3 (.const v21_12)) 3 s12 fun v22_13 s13 =>
 veq v22_13 v22_13 = true ∧ I.wop (.load 43 (.const v7_5)) 43 s13 fun v23_14 s14 =>
 veq v23_14 v23_14 = true ∧ I.wop (.fieldAddr 24 (.const v3_0) 0) 0 s14 fun v26_15 s15 =>
 I.wop (.load 3 (.const v26_15)) 3 s15 fun v27_16 s16 =>
 veq v27_16 v27_16 = true ∧ I.wop (.fieldAddr 43 (.const v7_5) 5) 0 s16 fun v28_17 s17 =>
 I.wop (.load 38 (.const v28_17)) 38 s17 fun v29_18 s18 =>
 veq v29_18 v29_18 = true ∧ I.wop (.load 43 (.const v7_5)) 43 s18 fun v30_19 s19 =>
 veq v30_19 v30_19 = true ∧ I.call 32 [v22_13, v23_14, a1] s19 fun v25_20 s20 =>
 Keeps [(11, .ptr v7_5), (10, .ptr v28_17), (8, .ptr v26_15), (1, .ptr v19_10)] s19 s20 ∧ I.call 50 [v30_19, a1, (.int .i64 2)] s20 fun v32_21 s21 =>
 Keeps [(10, .ptr v28_17), (8, .ptr v26_15), (1, .ptr v19_10)] s20 s21 ∧ I.call 49 [v27_16, v29_18, v32_21] s21 fun v33_22 s22 =>
 Keeps [(1, .ptr v19_10)] s21 s22 ∧ I.call 48 [v20_11, v25_20, v33_22] s22 fun v34_23 s23 =>
 I.wop (.binOp .eql 38 (.const v34_23) (.const (.int .u64 0)) 38) 4 s23 fun v35_24 s24 =>
 I.fin si K v35_24 s24)
 (I.wop (.binOp .eql 40 (.const v16_8) (.const (.int .u8 2)) 40) 4 s9 fun v37_25 s25 =>
 wdec v37_25
 (I.wop (.fieldAddr 43 (.const v7_5) 1) 0 s25 fun v39_26 s26 =>
 I.wop (.indexAddr 41 (.const v39_26) (.const (.int .i64 0))) 0 s26 fun v40_27 s27 =>
 I.wop (.load 3 (.const v40_27)) 3 s27 fun v41_28 s28 =>
 I.wop (.indexAddr 25 (.const a1) (.const v41_28)) 0 s28 fun v42_29 s29 =>
 I.wop (.load 38 (.const v42_29)) 38 s29 fun v43_30 s30 =>
 I.wop (.binOp .lss 38 (.const v43_30) (.const (.int .u64 16)) 38) 4 s30 fun v44_31 s31 =>
 I.fin si K v44_31 s31)
 (I.wop (.binOp .eql 40 (.const v16_8) (.const (.int .u8 3)) 40) 4 s25 fun v46_32 s32 =>
 wdec v46_32
 (I.wop (.fieldAddr 24 (.const v3_0) 0) 0 s32 fun v47_33 s33 =>
 I.wop (.load 3 (.const v47_33)) 3 s33 fun v48_34 s34 =>
 I.wop (.load 43 (.const v7_5)) 43 s34 fun v49_35 s35 =>
 I.call 29 [v48_34, v49_35, a1] s35 fun v51_36 s36 =>
 I.loop 71 none c23_11010111110100 (U undefT [(52, (.int .i64 0)), (51, v51_36), (50, a1), (49, v49_35), (48, v48_34), (47, v47_33), (45, (.bool true)), (45, v46_32), (46, v46_32), (36, (.bool false)), (36, v37_25), (37, v37_25), (17, (.bool false)), (17, v18_9), (18, v18_9), (16, v16_8), (15, v15_7), (7, v7_5), (14, v14_4), (13, v13_3), (12, a2), (11, v11_2), (10, v10_1), (6, (.bool false)), (3, v3_0), (0, a0), (1, a1), (2, a2)]) [] s36 (fun τ ds s => ((xleave I si Tryd.f23.results.toList K) .ret) τ [] ds s) [(1, fun _ ds37 s37 =>
 xdefers I ds37 s37 fun s38 =>
 I.fin si K (.bool true) s38)])
 (I.fin si K (.bool true) s32)))
theorem x23 (I : Prims) (a0 a1 a2 : Value) (si : St) (K : Value → St → Prop) : xbody I 71 k23 Tryd.f23 c23 [a0, a1, a2] si K = v23 I a0 a1 a2 si K := by kernel_rfl
theorem n23 [Memo] (ro : Nat) (a0 a1 a2 : Value) (si : St) (K : Value → St → Prop) : wbody P ro 71 Tryd.f23 c23 [a0, a1, a2] si K = v23 (prims P ro) a0 a1 a2 si K := xbody_eq 71 P ro (x23 _ a0 a1 a2 si K)
theorem r23 (I : Prims) (si : St) (K : Value → St → Prop) (τ : Tau) (ds : List Deferred) (s : St) : xleave I si Tryd.f23.results.toList K .ret τ [] ds s =
 (xdefers I ds s fun s0 =>
 I.fin si K (τ 6) s0) := by kernel_rfl
/- attestor/attestorref23.limits -/
noncomputable def c26 : Code := bodyOf Tryd.f26
noncomputable def c26_110100 : Code := subCode [1, 1, 0, 1, 0, 0] c26
noncomputable def c26_110100100111100 : Code := subCode [1, 1, 0, 1, 0, 0, 1, 0, 0, 1, 1, 1, 1, 0, 0] c26
def k26 : List (List Nat) := []
def k26_110100 : List (List Nat) := []
theorem l26_110100 : ltCode 92 c26_110100 = true := by kernel_rfl
theorem m26_110100 : notMap c26_110100 = true := by kernel_rfl
def k26_110100100111100 : List (List Nat) := []
theorem l26_110100100111100 : ltCode 92 c26_110100100111100 = true := by kernel_rfl
theorem m26_110100100111100 : notMap c26_110100100111100 = true := by kernel_rfl
theorem b26 : BodyOk P 92 1 26 Tryd.f26 c26 := ⟨Tryd.func26, by kernel_rfl, by kernel_rfl, by kernel_rfl, by kernel_rfl, by kernel_rfl⟩
def v26_110100 (I : Prims) (rnd : Option Nat) (τ : Tau) (ds : List Deferred) (s : St) (Q : Ex → WK) : Prop :=
 I.wop (.fieldAddr 24 (.const (τ 1)) 4) 0 s fun v51_0 s0 =>
 I.wop (.load 22 (.const v51_0)) 22 s0 fun v52_1 s1 =>
 I.wop (.call ⟨.builtin .len, ⟨[(.const v52_1)]⟩, #[22]⟩) 3 s1 fun v53_2 s2 =>
 I.wop (.binOp .lss 3 (.const (τ 3)) (.const v53_2) 3) 4 s2 fun v54_3 s3 =>
 wdec v54_3
 (I.wop (.load 24 (.const (τ 1))) 24 s3 fun v57_4 s4 =>
 veq v57_4 v57_4 = true ∧ I.wop (.fieldAddr 24 (.const (τ 1)) 4) 0 s4 fun v58_5 s5 =>
 I.wop (.load 22 (.const v58_5)) 22 s5 fun v59_6 s6 =>
 veq v59_6 v59_6 = true ∧ I.wop (.indexAddr 22 (.const v59_6) (.const (τ 3))) 0 s6 fun v61_7 s7 =>
 I.wop (.load 43 (.const v61_7)) 43 s7 fun v62_8 s8 =>
 veq v62_8 v62_8 = true ∧ I.call 52 [v57_4, v62_8] s8 fun v63_9 s9 =>
 I.wop (.unOp .not 4 (.const v63_9)) 4 s9 fun v64_10 s10 =>
 wdec v64_10
 (Q .ret (U τ [(2, (.bool false)), (64, (.bool true)), (64, v64_10), (63, v63_9), (62, v62_8), (61, v61_7), (60, (τ 3)), (59, v59_6), (58, v58_5), (57, v57_4), (54, (.bool true)), (54, v54_3), (53, v53_2), (52, v52_1), (51, v51_0), (50, (τ 3))]) ds s10)
 (I.wop (.fieldAddr 24 (.const (τ 1)) 4) 0 s10 fun v65_11 s11 =>
 I.wop (.load 22 (.const v65_11)) 22 s11 fun v66_12 s12 =>
 I.wop (.indexAddr 22 (.const v66_12) (.const (τ 3))) 0 s12 fun v68_13 s13 =>
 I.wop (.fieldAddr 43 (.const v68_13) 0) 0 s13 fun v69_14 s14 =>
 I.wop (.load 40 (.const v69_14)) 40 s14 fun v70_15 s15 =>
 I.wop (.binOp .neq 40 (.const v70_15) (.const (.int .u8 3)) 40) 4 s15 fun v71_16 s16 =>
 wdec v71_16
 (I.wop (.binOp .add 3 (.const (τ 3)) (.const (.int .i64 1)) 3) 3 s16 fun v56_17 s17 =>
 Q .normal (U τ [(3, v56_17), (56, v56_17), (55, (τ 3)), (71, (.bool true)), (71, v71_16), (70, v70_15), (69, v69_14), (68, v68_13), (67, (τ 3)), (66, v66_12), (65, v65_11), (64, (.bool false)), (64, v64_10), (63, v63_9), (62, v62_8), (61, v61_7), (60, (τ 3)), (59, v59_6), (58, v58_5), (57, v57_4), (54, (.bool true)), (54, v54_3), (53, v53_2), (52, v52_1), (51, v51_0), (50, (τ 3))]) ds s17)
 (I.wop (.binOp .add 3 (.const (τ 3)) (.const (.int .i64 1)) 3) 3 s16 fun v73_18 s18 =>
 I.wop (.fieldAddr 24 (.const (τ 1)) 4) 0 s18 fun v74_19 s19 =>
 I.wop (.load 22 (.const v74_19)) 22 s19 fun v75_20 s20 =>
 I.wop (.call ⟨.builtin .len, ⟨[(.const v75_20)]⟩, #[22]⟩) 3 s20 fun v76_21 s21 =>
 I.wop (.binOp .geq 3 (.const v73_18) (.const v76_21) 3) 4 s21 fun v77_22 s22 =>
 wdec v77_22
 (Q .ret (U τ [(2, (.bool false)), (77, (.bool true)), (77, v77_22), (76, v76_21), (75, v75_20), (74, v74_19), (73, v73_18), (72, (τ 3)), (71, (.bool false)), (71, v71_16), (70, v70_15), (69, v69_14), (68, v68_13), (67, (τ 3)), (66, v66_12), (65, v65_11), (64, (.bool false)), (64, v64_10), (63, v63_9), (62, v62_8), (61, v61_7), (60, (τ 3)), (59, v59_6), (58, v58_5), (57, v57_4), (54, (.bool true)), (54, v54_3), (53, v53_2), (52, v52_1), (51, v51_0), (50, (τ 3))]) ds s22)
 (I.loop 92 rnd c26_110100100111100 (U τ [(4, (.int .i64 0)), (77, (.bool false)), (77, v77_22), (76, v76_21), (75, v75_20), (74, v74_19), (73, v73_18), (72, (τ 3)), (71, (.bool false)), (71, v71_16), (70, v70_15), (69, v69_14), (68, v68_13), (67, (τ 3)), (66, v66_12), (65, v65_11), (64, (.bool false)), (64, v64_10), (63, v63_9), (62, v62_8), (61, v61_7), (60, (τ 3)), (59, v59_6), (58, v58_5), (57, v57_4), (54, (.bool true)), (54, v54_3), (53, v53_2), (52, v52_1), (51, v51_0), (50, (τ 3))]) ds s22 (fun τ ds s => ((lift Q) .ret) τ [] ds s) [(2, fun τ23 ds23 s23 =>
 I.wop (.binOp .add 3 (.const (τ23 3)) (.const (.int .i64 1)) 3) 3 s23 fun v56_24 s24 =>
 Q .normal (U τ23 [(3, v56_24), (56, v56_24), (55, (τ23 3))]) ds23 s24)]))))
 (Q (.exit 0) (U τ [(54, (.bool false)), (54, v54_3), (53, v53_2), (52, v52_1), (51, v51_0), (50, (τ 3))]) ds s3)
theorem x26_110100 (I : Prims) (rnd : Option Nat) (τ : Tau) (ds : List Deferred) (s : St) (Q : Ex → WK) : xp I rnd 92 k26_110100 c26_110100 [] τ [] ds s (lift Q) = v26_110100 I rnd τ ds s Q := by kernel_rfl
theorem n26_110100 [Memo] (ro : Nat) (rnd : Option Nat) (τ : Tau) (ds : List Deferred) (s : St) (Q : Ex → WK) : wp P ro 92 rnd c26_110100 τ ds s Q = v26_110100 (prims P ro) rnd τ ds s Q := xp_wp rnd 92 P ro (x26_110100 _ rnd τ ds s Q)
def v26_110100100111100 (I : Prims) (rnd : Option Nat) (τ : Tau) (ds : List Deferred) (s : St) (Q : Ex → WK) : Prop :=
 I.wop (.binOp .lss 3 (.const (τ 4)) (.const (.int .i64 4)) 3) 4 s fun v79_0 s0 =>
 wdec v79_0
 (I.wop (.fieldAddr 24 (.const (τ 1)) 4) 0 s0 fun v82_1 s1 =>
 I.wop (.load 22 (.const v82_1)) 22 s1 fun v83_2 s2 =>
 I.wop (.binOp .add 3 (.const (τ 3)) (.const (.int .i64 1)) 3) 3 s2 fun v85_3 s3 =>
 I.wop (.indexAddr 22 (.const v83_2) (.const v85_3)) 0 s3 fun v87_4 s4 =>
 I.wop (.fieldAddr 43 (.const v87_4) 1) 0 s4 fun v88_5 s5 =>
 I.wop (.indexAddr 41 (.const v88_5) (.const (τ 4))) 0 s5 fun v89_6 s6 =>
 I.wop (.load 3 (.const v89_6)) 3 s6 fun v90_7 s7 =>
 I.wop (.binOp .lss 3 (.const v90_7) (.const (.int .i64 0)) 3) 4 s7 fun v91_8 s8 =>
 wdec v91_8
 (Q .ret (U τ [(2, (.bool false)), (91, (.bool true)), (91, v91_8), (90, v90_7), (89, v89_6), (88, v88_5), (87, v87_4), (86, (τ 4)), (85, v85_3), (84, (τ 3)), (83, v83_2), (82, v82_1), (79, (.bool true)), (79, v79_0), (78, (τ 4))]) ds s8)
 (I.wop (.binOp .add 3 (.const (τ 4)) (.const (.int .i64 1)) 3) 3 s8 fun v81_9 s9 =>
 Q .normal (U τ [(4, v81_9), (81, v81_9), (80, (τ 4)), (91, (.bool false)), (91, v91_8), (90, v90_7), (89, v89_6), (88, v88_5), (87, v87_4), (86, (τ 4)), (85, v85_3), (84, (τ 3)), (83, v83_2), (82, v82_1), (79, (.bool true)), (79, v79_0), (78, (τ 4))]) ds s9))
 (Q (.exit 2) (U τ [(79, (.bool false)), (79, v79_0), (78, (τ 4))]) ds s0)
theorem x26_110100100111100 (I : Prims) (rnd : Option Nat) (τ : Tau) (ds : List Deferred) (s : St) (Q : Ex → WK) : xp I rnd 92 k26_110100100111100 c26_110100100111100 [] τ [] ds s (lift Q) = v26_110100100111100 I rnd τ ds s Q := by kernel_rfl
theorem n26_110100100111100 [Memo] (ro : Nat) (rnd : Option Nat) (τ : Tau) (ds : List Deferred) (s : St) (Q : Ex → WK) : wp P ro 92 rnd c26_110100100111100 τ ds s Q = v26_110100100111100 (prims P ro) rnd τ ds s Q := xp_wp rnd 92 P ro (x26_110100100111100 _ rnd τ ds s Q)
def v26 (I : Prims) (a0 : Value) (si : St) (K : Value → St → Prop) : Prop :=
 I.wop (.box 24 (.const a0)) 0 (ent si) fun v1_0 s0 =>
 I.wop (.fieldAddr 24 (.const v1_0) 0) 0 s0 fun v5_1 s1 =>
 I.wop (.load 3 (.const v5_1)) 3 s1 fun v6_2 s2 =>
 I.call 39 [v6_2] s2 fun v7_3 s3 =>
 I.wop (.unOp .not 4 (.const v7_3)) 4 s3 fun v8_4 s4 =>
 wdec v8_4
 (I.fin si K (.bool false) s4)
 (I.wop (.fieldAddr 24 (.const v1_0) 2) 0 s4 fun v10_5 s5 =>
 I.wop (.load 3 (.const v10_5)) 3 s5 fun v11_6 s6 =>
 I.wop (.binOp .lss 3 (.const v11_6) (.const (.int .i64 0)) 3) 4 s6 fun v12_7 s7 =>
 wdec v12_7
 (I.fin si K (.bool false) s7)
 (I.wop (.fieldAddr 24 (.const v1_0) 2) 0 s7 fun v15_8 s8 =>
 I.wop (.load 3 (.const v15_8)) 3 s8 fun v16_9 s9 =>
 I.wop (.binOp .gtr 3 (.const v16_9) (.const (.int .i64 16)) 3) 4 s9 fun v17_10 s10 =>
 wdec v17_10
 (I.fin si K (.bool false) s10)
 (I.wop (.fieldAddr 24 (.const v1_0) 3) 0 s10 fun v20_11 s11 =>
 I.wop (.load 3 (.const v20_11)) 3 s11 fun v21_12 s12 =>
 I.wop (.binOp .lss 3 (.const v21_12) (.const (.int .i64 0)) 3) 4 s12 fun v22_13 s13 =>
 wdec v22_13
 (I.fin si K (.bool false) s13)
 (I.wop (.fieldAddr 24 (.const v1_0) 3) 0 s13 fun v25_14 s14 =>
 I.wop (.load 3 (.const v25_14)) 3 s14 fun v26_15 s15 =>
 I.wop (.binOp .gtr 3 (.const v26_15) (.const (.int .i64 20000)) 3) 4 s15 fun v27_16 s16 =>
 wdec v27_16
 (I.fin si K (.bool false) s16)
 (I.wop (.fieldAddr 24 (.const v1_0) 1) 0 s16 fun v30_17 s17 =>
 I.wop (.load 3 (.const v30_17)) 3 s17 fun v31_18 s18 =>
 I.wop (.fieldAddr 24 (.const v1_0) 2) 0 s18 fun v32_19 s19 =>
 I.wop (.load 3 (.const v32_19)) 3 s19 fun v33_20 s20 =>
 I.wop (.fieldAddr 24 (.const v1_0) 3) 0 s20 fun v34_21 s21 =>
 I.wop (.load 3 (.const v34_21)) 3 s21 fun v35_22 s22 =>
 I.wop (.binOp .add 3 (.const v33_20) (.const v35_22) 3) 3 s22 fun v36_23 s23 =>
 I.wop (.binOp .lss 3 (.const v31_18) (.const v36_23) 3) 4 s23 fun v37_24 s24 =>
 wdec v37_24
 (I.fin si K (.bool false) s24)
 (I.wop (.fieldAddr 24 (.const v1_0) 1) 0 s24 fun v40_25 s25 =>
 I.wop (.load 3 (.const v40_25)) 3 s25 fun v41_26 s26 =>
 I.wop (.binOp .gtr 3 (.const v41_26) (.const (.int .i64 40000)) 3) 4 s26 fun v42_27 s27 =>
 wdec v42_27
 (I.fin si K (.bool false) s27)
 (I.wop (.fieldAddr 24 (.const v1_0) 4) 0 s27 fun v45_28 s28 =>
 I.wop (.load 22 (.const v45_28)) 22 s28 fun v46_29 s29 =>
 I.wop (.call ⟨.builtin .len, ⟨[(.const v46_29)]⟩, #[22]⟩) 3 s29 fun v47_30 s30 =>
 I.wop (.binOp .gtr 3 (.const v47_30) (.const (.int .i64 8000)) 3) 4 s30 fun v48_31 s31 =>
 wdec v48_31
 (I.fin si K (.bool false) s31)
 (I.loop 92 none c26_110100 (U undefT [(3, (.int .i64 0)), (49, (.bool false)), (49, v48_31), (44, (.bool false)), (48, v48_31), (44, (.bool false)), (47, v47_30), (44, (.bool false)), (46, v46_29), (44, (.bool false)), (45, v45_28), (44, (.bool false)), (44, v42_27), (43, v42_27), (39, (.bool false)), (42, v42_27), (39, (.bool false)), (41, v41_26), (39, (.bool false)), (40, v40_25), (39, (.bool false)), (39, v37_24), (38, v37_24), (29, (.bool false)), (37, v37_24), (29, (.bool false)), (36, v36_23), (29, (.bool false)), (35, v35_22), (29, (.bool false)), (34, v34_21), (29, (.bool false)), (33, v33_20), (29, (.bool false)), (32, v32_19), (29, (.bool false)), (31, v31_18), (29, (.bool false)), (30, v30_17), (29, (.bool false)), (29, v27_16), (28, v27_16), (24, (.bool false)), (27, v27_16), (24, (.bool false)), (26, v26_15), (24, (.bool false)), (25, v25_14), (24, (.bool false)), (24, v22_13), (23, v22_13), (19, (.bool false)), (22, v22_13), (19, (.bool false)), (21, v21_12), (19, (.bool false)), (20, v20_11), (19, (.bool false)), (19, v17_10), (18, v17_10), (14, (.bool false)), (17, v17_10), (14, (.bool false)), (16, v16_9), (14, (.bool false)), (15, v15_8), (14, (.bool false)), (14, v12_7), (13, v12_7), (9, (.bool false)), (12, v12_7), (9, (.bool false)), (11, v11_6), (9, (.bool false)), (10, v10_5), (9, (.bool false)), (9, v8_4), (8, v8_4), (7, v7_3), (6, v6_2), (5, v5_1), (2, (.bool false)), (1, v1_0), (0, a0)]) [] s31 (fun τ ds s => ((xleave I si Tryd.f26.results.toList K) .ret) τ [] ds s) [(0, fun _ ds32 s32 =>
 xdefers I ds32 s32 fun s33 =>
 I.fin si K (.bool true) s33), (1, fun _ _ _ =>
 False), (2, fun _ _ _ =>
 False)]))))))))
theorem x26 (I : Prims) (a0 : Value) (si : St) (K : Value → St → Prop) : xbody I 92 k26 Tryd.f26 c26 [a0] si K = v26 I a0 si K := by kernel_rfl
theorem n26 [Memo] (ro : Nat) (a0 : Value) (si : St) (K : Value → St → Prop) : wbody P ro 92 Tryd.f26 c26 [a0] si K = v26 (prims P ro) a0 si K := xbody_eq 92 P ro (x26 _ a0 si K)
theorem r26 (I : Prims) (si : St) (K : Value → St → Prop) (τ : Tau) (ds : List Deferred) (s : St) : xleave I si Tryd.f26.results.toList K .ret τ [] ds s =
 (xdefers I ds s fun s0 =>
 I.fin si K (τ 2) s0) := by kernel_rfl
/- attestor/attestorref23.order -/
noncomputable def c27 : Code := bodyOf Tryd.f27
noncomputable def c27_110100 : Code := subCode [1, 1, 0, 1, 0, 0] c27
noncomputable def c27_1110100 : Code := subCode [1, 1, 1, 0, 1, 0, 0] c27
noncomputable def c27_11110100 : Code := subCode [1, 1, 1, 1, 0, 1, 0, 0] c27
noncomputable def c27_11101001001110100 : Code := subCode [1, 1, 1, 0, 1, 0, 0, 1, 0, 0, 1, 1, 1, 0, 1, 0, 0] c27
noncomputable def c27_1110100100111101 : Code := subCode [1, 1, 1, 0, 1, 0, 0, 1, 0, 0, 1, 1, 1, 1, 0, 1] c27
noncomputable def c27_111010010011111 : Code := subCode [1, 1, 1, 0, 1, 0, 0, 1, 0, 0, 1, 1, 1, 1, 1] c27
noncomputable def c27_111010011 : Code := subCode [1, 1, 1, 0, 1, 0, 0, 1, 1] c27
noncomputable def c27_11101001001111110100 : Code := subCode [1, 1, 1, 0, 1, 0, 0, 1, 0, 0, 1, 1, 1, 1, 1, 1, 0, 1, 0, 0] c27
def k27 : List (List Nat) := []
def k27_110100 : List (List Nat) := []
theorem l27_110100 : ltCode 153 c27_110100 = true := by kernel_rfl
theorem m27_110100 : notMap c27_110100 = true := by kernel_rfl
def k27_1110100 : List (List Nat) := [[1, 0, 1, 1, 1, 1, 0, 0, 1]]
theorem l27_1110100 : ltCode 153 c27_1110100 = true := by kernel_rfl
theorem m27_1110100 : notMap c27_1110100 = true := by kernel_rfl
def k27_11110100 : List (List Nat) := []
theorem l27_11110100 : ltCode 153 c27_11110100 = true := by kernel_rfl
theorem m27_11110100 : notMap c27_11110100 = true := by kernel_rfl
def k27_11101001001110100 : List (List Nat) := []
theorem l27_11101001001110100 : ltCode 153 c27_11101001001110100 = true := by kernel_rfl
theorem m27_11101001001110100 : notMap c27_11101001001110100 = true := by kernel_rfl
def k27_11101001001111110100 : List (List Nat) := []
theorem l27_11101001001111110100 : ltCode 153 c27_11101001001111110100 = true := by kernel_rfl
theorem m27_11101001001111110100 : notMap c27_11101001001111110100 = true := by kernel_rfl
theorem b27 : BodyOk P 153 1 27 Tryd.f27 c27 := ⟨Tryd.func27, by kernel_rfl, by kernel_rfl, by kernel_rfl, by kernel_rfl, by kernel_rfl⟩
def v27_110100 (I : Prims) (rnd : Option Nat) (τ : Tau) (ds : List Deferred) (s : St) (Q : Ex → WK) : Prop :=
 I.wop (.call ⟨.builtin .len, ⟨[(.const (τ 4))]⟩, #[49]⟩) 3 s fun v19_0 s0 =>
 I.wop (.binOp .lss 3 (.const (τ 5)) (.const v19_0) 3) 4 s0 fun v20_1 s1 =>
 wdec v20_1
 (I.wop (.indexAddr 49 (.const (τ 4)) (.const (τ 5))) 0 s1 fun v25_2 s2 =>
 I.wop (.store 3 (.const v25_2) (.const (.int .i64 (-1)))) 0 s2 fun _ s3 =>
 I.wop (.fieldAddr 24 (.const (τ 1)) 2) 0 s3 fun v27_4 s4 =>
 I.wop (.load 3 (.const v27_4)) 3 s4 fun v28_5 s5 =>
 I.wop (.fieldAddr 24 (.const (τ 1)) 3) 0 s5 fun v29_6 s6 =>
 I.wop (.load 3 (.const v29_6)) 3 s6 fun v30_7 s7 =>
 I.wop (.binOp .add 3 (.const v28_5) (.const v30_7) 3) 3 s7 fun v31_8 s8 =>
 I.wop (.binOp .lss 3 (.const (τ 5)) (.const v31_8) 3) 4 s8 fun v32_9 s9 =>
 wdec v32_9
 (I.wop (.indexAddr 49 (.const (τ 4)) (.const (τ 5))) 0 s9 fun v35_10 s10 =>
 I.wop (.store 3 (.const v35_10) (.const (.int .i64 0))) 0 s10 fun _ s11 =>
 I.wop (.binOp .add 3 (.const (τ 5)) (.const (.int .i64 1)) 3) 3 s11 fun v22_12 s12 =>
 Q .normal (U τ [(5, v22_12), (22, v22_12), (21, (τ 5)), (35, v35_10), (34, (τ 5)), (33, (τ 4)), (32, (.bool true)), (32, v32_9), (31, v31_8), (30, v30_7), (29, v29_6), (28, v28_5), (27, v27_4), (26, (τ 5)), (25, v25_2), (24, (τ 5)), (23, (τ 4)), (20, (.bool true)), (20, v20_1), (19, v19_0), (18, (τ 4)), (17, (τ 5))]) ds s12)
 (I.wop (.binOp .add 3 (.const (τ 5)) (.const (.int .i64 1)) 3) 3 s9 fun v22_13 s13 =>
 Q .normal (U τ [(5, v22_13), (22, v22_13), (21, (τ 5)), (32, (.bool false)), (32, v32_9), (31, v31_8), (30, v30_7), (29, v29_6), (28, v28_5), (27, v27_4), (26, (τ 5)), (25, v25_2), (24, (τ 5)), (23, (τ 4)), (20, (.bool true)), (20, v20_1), (19, v19_0), (18, (τ 4)), (17, (τ 5))]) ds s13))
 (Q (.exit 0) (U τ [(20, (.bool false)), (20, v20_1), (19, v19_0), (18, (τ 4)), (17, (τ 5))]) ds s1)
theorem x27_110100 (I : Prims) (rnd : Option Nat) (τ : Tau) (ds : List Deferred) (s : St) (Q : Ex → WK) : xp I rnd 153 k27_110100 c27_110100 [] τ [] ds s (lift Q) = v27_110100 I rnd τ ds s Q := by kernel_rfl
theorem n27_110100 [Memo] (ro : Nat) (rnd : Option Nat) (τ : Tau) (ds : List Deferred) (s : St) (Q : Ex → WK) : wp P ro 153 rnd c27_110100 τ ds s Q = v27_110100 (prims P ro) rnd τ ds s Q := xp_wp rnd 153 P ro (x27_110100 _ rnd τ ds s Q)
def v27_1110100 (I : Prims) (rnd : Option Nat) (τ : Tau) (ds : List Deferred) (s : St) (Q : Ex → WK) : Prop :=
 I.wop (.fieldAddr 24 (.const (τ 1)) 4) 0 s fun v37_0 s0 =>
 I.wop (.load 22 (.const v37_0)) 22 s0 fun v38_1 s1 =>
 I.wop (.call ⟨.builtin .len, ⟨[(.const v38_1)]⟩, #[22]⟩) 3 s1 fun v39_2 s2 =>
 I.wop (.binOp .lss 3 (.const (τ 6)) (.const v39_2) 3) 4 s2 fun v40_3 s3 =>
 wdec v40_3
 (I.wop (.fieldAddr 24 (.const (τ 1)) 4) 0 s3 fun v43_4 s4 =>
 I.wop (.load 22 (.const v43_4)) 22 s4 fun v44_5 s5 =>
 I.wop (.indexAddr 22 (.const v44_5) (.const (τ 6))) 0 s5 fun v46_6 s6 =>
 I.wop (.load 43 (.const v46_6)) 43 s6 fun v47_7 s7 =>
 I.wop (.alloc 43) 0 s7 fun v7_8 s8 =>
 I.wop (.store 43 (.const v7_8) (.const v47_7)) 0 s8 fun _ s9 =>
 I.wop (.load 43 (.const v7_8)) 43 s9 fun v48_10 s10 =>
 I.call 53 [v48_10] s10 fun v49_11 s11 =>
 I.loop 153 rnd c27_11101001001110100 (U τ [(10, (.int .i64 0)), (9, (.int .i64 0)), (8, v49_11), (49, v49_11), (48, v48_10), (7, v7_8), (47, v47_7), (46, v46_6), (45, (τ 6)), (44, v44_5), (43, v43_4), (40, (.bool true)), (40, v40_3), (39, v39_2), (38, v38_1), (37, v37_0), (36, (τ 6))]) ds s11 (fun τ ds s => ((lift Q) .ret) τ [] ds s) [(4, fun τ12 ds12 s12 =>
 I.wop (.fieldAddr 43 (.const (τ12 7)) 0) 0 s12 fun v84_13 s13 =>
 I.wop (.load 40 (.const v84_13)) 40 s13 fun v85_14 s14 =>
 I.wop (.binOp .eql 40 (.const v85_14) (.const (.int .u8 1)) 40) 4 s14 fun v86_15 s15 =>
 wdec v86_15
 (I.wop (.fieldAddr 43 (.const (τ12 7)) 5) 0 s15 fun v88_16 s16 =>
 I.wop (.load 38 (.const v88_16)) 38 s16 fun v89_17 s17 =>
 I.wop (.binOp .neq 38 (.const v89_17) (.const (.int .u64 0)) 38) 4 s17 fun v90_18 s18 =>
 wdec v90_18
 (I.wop (.fieldAddr 43 (.const (τ12 7)) 1) 0 s18 fun v94_19 s19 =>
 I.wop (.indexAddr 41 (.const v94_19) (.const (.int .i64 2))) 0 s19 fun v95_20 s20 =>
 I.wop (.load 3 (.const v95_20)) 3 s20 fun v96_21 s21 =>
 I.wop (.indexAddr 49 (.const (τ12 4)) (.const v96_21)) 0 s21 fun v97_22 s22 =>
 I.wop (.load 3 (.const v97_22)) 3 s22 fun v98_23 s23 =>
 I.wop (.binOp .lss 3 (.const v98_23) (.const (.int .i64 0)) 3) 4 s23 fun v99_24 s24 =>
 I.hold (xp I rnd 153 k27_1110100 c27_1110100100111101 [1, 0, 1, 1, 1, 1, 0, 0, 1] (U τ12 [(100, v99_24), (92, (.bool true)), (99, v99_24), (92, (.bool true)), (98, v98_23), (92, (.bool true)), (97, v97_22), (92, (.bool true)), (96, v96_21), (92, (.bool true)), (95, v95_20), (92, (.bool true)), (94, v94_19), (92, (.bool true)), (93, (τ12 4)), (92, (.bool true)), (92, v90_18), (91, v90_18), (87, (.bool true)), (90, v90_18), (87, (.bool true)), (89, v89_17), (87, (.bool true)), (88, v88_16), (87, (.bool true)), (87, v86_15), (86, v86_15), (85, v85_14), (84, v84_13)]) [] ds12 s24 (sX I rnd 153 k27_1110100 c27_111010010011111 [1, 1, 1, 1, 1, 0, 0, 1] (blkX 3 (sX I rnd 153 k27_1110100 c27_111010011 [1, 1] (lift Q))))))
 (I.hold (xp I rnd 153 k27_1110100 c27_1110100100111101 [1, 0, 1, 1, 1, 1, 0, 0, 1] (U τ12 [(100, (.bool false)), (92, (.bool false)), (99, undef), (92, (.bool false)), (98, undef), (92, (.bool false)), (97, undef), (92, (.bool false)), (96, undef), (92, (.bool false)), (95, undef), (92, (.bool false)), (94, undef), (92, (.bool false)), (93, undef), (92, (.bool false)), (92, v90_18), (91, v90_18), (87, (.bool true)), (90, v90_18), (87, (.bool true)), (89, v89_17), (87, (.bool true)), (88, v88_16), (87, (.bool true)), (87, v86_15), (86, v86_15), (85, v85_14), (84, v84_13)]) [] ds12 s18 (sX I rnd 153 k27_1110100 c27_111010010011111 [1, 1, 1, 1, 1, 0, 0, 1] (blkX 3 (sX I rnd 153 k27_1110100 c27_111010011 [1, 1] (lift Q)))))))
 (I.hold (xp I rnd 153 k27_1110100 c27_1110100100111101 [1, 0, 1, 1, 1, 1, 0, 0, 1] (U τ12 [(100, (.bool false)), (92, (.bool false)), (99, undef), (92, (.bool false)), (98, undef), (92, (.bool false)), (97, undef), (92, (.bool false)), (96, undef), (92, (.bool false)), (95, undef), (92, (.bool false)), (94, undef), (92, (.bool false)), (93, undef), (92, (.bool false)), (92, (.bool false)), (91, (.bool false)), (87, (.bool false)), (90, undef), (87, (.bool false)), (89, undef), (87, (.bool false)), (88, undef), (87, (.bool false)), (87, v86_15), (86, v86_15), (85, v85_14), (84, v84_13)]) [] ds12 s15 (sX I rnd 153 k27_1110100 c27_111010010011111 [1, 1, 1, 1, 1, 0, 0, 1] (blkX 3 (sX I rnd 153 k27_1110100 c27_111010011 [1, 1] (lift Q)))))))])
 (Q (.exit 2) (U τ [(40, (.bool false)), (40, v40_3), (39, v39_2), (38, v38_1), (37, v37_0), (36, (τ 6))]) ds s3)
theorem x27_1110100 (I : Prims) (rnd : Option Nat) (τ : Tau) (ds : List Deferred) (s : St) (Q : Ex → WK) : xp I rnd 153 k27_1110100 c27_1110100 [] τ [] ds s (lift Q) = v27_1110100 I rnd τ ds s Q := by kernel_rfl
theorem n27_1110100 [Memo] (ro : Nat) (rnd : Option Nat) (τ : Tau) (ds : List Deferred) (s : St) (Q : Ex → WK) : wp P ro 153 rnd c27_1110100 τ ds s Q = v27_1110100 (prims P ro) rnd τ ds s Q := xp_wp rnd 153 P ro (x27_1110100 _ rnd τ ds s Q)
def v27_11110100 (I : Prims) (rnd : Option Nat) (τ : Tau) (ds : List Deferred) (s : St) (Q : Ex → WK) : Prop :=
 I.wop (.call ⟨.builtin .len, ⟨[(.const (τ 4))]⟩, #[49]⟩) 3 s fun v143_0 s0 =>
 I.wop (.binOp .lss 3 (.const (τ 13)) (.const v143_0) 3) 4 s0 fun v144_1 s1 =>
 wdec v144_1
 (I.wop (.indexAddr 49 (.const (τ 4)) (.const (τ 13))) 0 s1 fun v149_2 s2 =>
 I.wop (.load 3 (.const v149_2)) 3 s2 fun v150_3 s3 =>
 I.wop (.binOp .lss 3 (.const v150_3) (.const (.int .i64 0)) 3) 4 s3 fun v151_4 s4 =>
 wdec v151_4
 (Q .ret (U τ [(3, (.bool false)), (2, (.slice none 0 0)), (151, (.bool true)), (151, v151_4), (150, v150_3), (149, v149_2), (148, (τ 13)), (147, (τ 4)), (144, (.bool true)), (144, v144_1), (143, v143_0), (142, (τ 4)), (141, (τ 13))]) ds s4)
 (I.wop (.binOp .add 3 (.const (τ 13)) (.const (.int .i64 1)) 3) 3 s4 fun v146_5 s5 =>
 Q .normal (U τ [(13, v146_5), (146, v146_5), (145, (τ 13)), (151, (.bool false)), (151, v151_4), (150, v150_3), (149, v149_2), (148, (τ 13)), (147, (τ 4)), (144, (.bool true)), (144, v144_1), (143, v143_0), (142, (τ 4)), (141, (τ 13))]) ds s5))
 (Q (.exit 8) (U τ [(144, (.bool false)), (144, v144_1), (143, v143_0), (142, (τ 4)), (141, (τ 13))]) ds s1)
theorem x27_11110100 (I : Prims) (rnd : Option Nat) (τ : Tau) (ds : List Deferred) (s : St) (Q : Ex → WK) : xp I rnd 153 k27_11110100 c27_11110100 [] τ [] ds s (lift Q) = v27_11110100 I rnd τ ds s Q := by kernel_rfl
theorem n27_11110100 [Memo] (ro : Nat) (rnd : Option Nat) (τ : Tau) (ds : List Deferred) (s : St) (Q : Ex → WK) : wp P ro 153 rnd c27_11110100 τ ds s Q = v27_11110100 (prims P ro) rnd τ ds s Q := xp_wp rnd 153 P ro (x27_11110100 _ rnd τ ds s Q)
def v27_11101001001110100 (I : Prims) (rnd : Option Nat) (τ : Tau) (ds : List Deferred) (s : St) (Q : Ex → WK) : Prop :=
 I.wop (.call ⟨.builtin .len, ⟨[(.const (τ 8))]⟩, #[49]⟩) 3 s fun v52_0 s0 =>
 I.wop (.binOp .lss 3 (.const (τ 10)) (.const v52_0) 3) 4 s0 fun v53_1 s1 =>
 wdec v53_1
 (I.wop (.indexAddr 49 (.const (τ 8)) (.const (τ 10))) 0 s1 fun v59_2 s2 =>
 I.wop (.load 3 (.const v59_2)) 3 s2 fun v60_3 s3 =>
 I.wop (.fieldAddr 43 (.const (τ 7)) 1) 0 s3 fun v61_4 s4 =>
 I.wop (.indexAddr 41 (.const v61_4) (.const v60_3)) 0 s4 fun v62_5 s5 =>
 I.wop (.load 3 (.const v62_5)) 3 s5 fun v63_6 s6 =>
 I.wop (.indexAddr 49 (.const (τ 4)) (.const v63_6)) 0 s6 fun v64_7 s7 =>
 I.wop (.load 3 (.const v64_7)) 3 s7 fun v65_8 s8 =>
 I.wop (.binOp .lss 3 (.const v65_8) (.const (.int .i64 0)) 3) 4 s8 fun v67_9 s9 =>
 wdec v67_9
 (I.wop (.fieldAddr 43 (.const (τ 7)) 0) 0 s9 fun v69_10 s10 =>
 I.wop (.load 40 (.const v69_10)) 40 s10 fun v70_11 s11 =>
 I.wop (.binOp .eql 40 (.const v70_11) (.const (.int .u8 1)) 40) 4 s11 fun v71_12 s12 =>
 wdec v71_12
 (I.wop (.indexAddr 49 (.const (τ 8)) (.const (τ 10))) 0 s12 fun v75_13 s13 =>
 I.wop (.load 3 (.const v75_13)) 3 s13 fun v76_14 s14 =>
 I.wop (.binOp .eql 3 (.const v76_14) (.const (.int .i64 2)) 3) 4 s14 fun v77_15 s15 =>
 I.wop (.unOp .not 4 (.const v77_15)) 4 s15 fun v79_16 s16 =>
 wdec v79_16
 (Q .ret (U τ [(3, (.bool false)), (2, (.slice none 0 0)), (80, (.bool true)), (80, v79_16), (68, (.bool true)), (79, v79_16), (68, (.bool true)), (78, v77_15), (72, (.bool true)), (68, (.bool true)), (77, v77_15), (72, (.bool true)), (76, v76_14), (72, (.bool true)), (75, v75_13), (72, (.bool true)), (74, (τ 10)), (72, (.bool true)), (73, (τ 8)), (72, (.bool true)), (72, v71_12), (68, (.bool true)), (71, v71_12), (68, (.bool true)), (70, v70_11), (68, (.bool true)), (69, v69_10), (68, (.bool true)), (68, v67_9), (67, v67_9), (66, v65_8), (11, v65_8), (65, v65_8), (64, v64_7), (63, v63_6), (62, v62_5), (61, v61_4), (60, v60_3), (59, v59_2), (58, (τ 10)), (57, (τ 8)), (56, (τ 4)), (53, (.bool true)), (53, v53_1), (52, v52_0), (51, (τ 8)), (50, (τ 10))]) ds s16)
 (I.wop (.call ⟨.builtin .max, ⟨[(.const (τ 9)), (.const v65_8)]⟩, #[3, 3]⟩) 3 s16 fun v83_17 s17 =>
 I.wop (.binOp .add 3 (.const (τ 10)) (.const (.int .i64 1)) 3) 3 s17 fun v55_18 s18 =>
 Q .normal (U τ [(10, v55_18), (55, v55_18), (54, (τ 10)), (9, v83_17), (83, v83_17), (82, v65_8), (81, (τ 9)), (80, (.bool false)), (80, v79_16), (68, (.bool true)), (79, v79_16), (68, (.bool true)), (78, v77_15), (72, (.bool true)), (68, (.bool true)), (77, v77_15), (72, (.bool true)), (76, v76_14), (72, (.bool true)), (75, v75_13), (72, (.bool true)), (74, (τ 10)), (72, (.bool true)), (73, (τ 8)), (72, (.bool true)), (72, v71_12), (68, (.bool true)), (71, v71_12), (68, (.bool true)), (70, v70_11), (68, (.bool true)), (69, v69_10), (68, (.bool true)), (68, v67_9), (67, v67_9), (66, v65_8), (11, v65_8), (65, v65_8), (64, v64_7), (63, v63_6), (62, v62_5), (61, v61_4), (60, v60_3), (59, v59_2), (58, (τ 10)), (57, (τ 8)), (56, (τ 4)), (53, (.bool true)), (53, v53_1), (52, v52_0), (51, (τ 8)), (50, (τ 10))]) ds s18))
 (I.wop (.unOp .not 4 (.const (.bool false))) 4 s12 fun v79_19 s19 =>
 wdec v79_19
 (Q .ret (U τ [(3, (.bool false)), (2, (.slice none 0 0)), (80, (.bool true)), (80, v79_19), (68, (.bool true)), (79, v79_19), (68, (.bool true)), (78, (.bool false)), (72, (.bool false)), (68, (.bool true)), (77, undef), (72, (.bool false)), (76, undef), (72, (.bool false)), (75, undef), (72, (.bool false)), (74, undef), (72, (.bool false)), (73, undef), (72, (.bool false)), (72, v71_12), (68, (.bool true)), (71, v71_12), (68, (.bool true)), (70, v70_11), (68, (.bool true)), (69, v69_10), (68, (.bool true)), (68, v67_9), (67, v67_9), (66, v65_8), (11, v65_8), (65, v65_8), (64, v64_7), (63, v63_6), (62, v62_5), (61, v61_4), (60, v60_3), (59, v59_2), (58, (τ 10)), (57, (τ 8)), (56, (τ 4)), (53, (.bool true)), (53, v53_1), (52, v52_0), (51, (τ 8)), (50, (τ 10))]) ds s19)
 (I.wop (.call ⟨.builtin .max, ⟨[(.const (τ 9)), (.const v65_8)]⟩, #[3, 3]⟩) 3 s19 fun v83_20 s20 =>
 I.wop (.binOp .add 3 (.const (τ 10)) (.const (.int .i64 1)) 3) 3 s20 fun v55_21 s21 =>
 Q .normal (U τ [(10, v55_21), (55, v55_21), (54, (τ 10)), (9, v83_20), (83, v83_20), (82, v65_8), (81, (τ 9)), (80, (.bool false)), (80, v79_19), (68, (.bool true)), (79, v79_19), (68, (.bool true)), (78, (.bool false)), (72, (.bool false)), (68, (.bool true)), (77, undef), (72, (.bool false)), (76, undef), (72, (.bool false)), (75, undef), (72, (.bool false)), (74, undef), (72, (.bool false)), (73, undef), (72, (.bool false)), (72, v71_12), (68, (.bool true)), (71, v71_12), (68, (.bool true)), (70, v70_11), (68, (.bool true)), (69, v69_10), (68, (.bool true)), (68, v67_9), (67, v67_9), (66, v65_8), (11, v65_8), (65, v65_8), (64, v64_7), (63, v63_6), (62, v62_5), (61, v61_4), (60, v60_3), (59, v59_2), (58, (τ 10)), (57, (τ 8)), (56, (τ 4)), (53, (.bool true)), (53, v53_1), (52, v52_0), (51, (τ 8)), (50, (τ 10))]) ds s21)))
 (I.wop (.call ⟨.builtin .max, ⟨[(.const (τ 9)), (.const v65_8)]⟩, #[3, 3]⟩) 3 s9 fun v83_22 s22 =>
 I.wop (.binOp .add 3 (.const (τ 10)) (.const (.int .i64 1)) 3) 3 s22 fun v55_23 s23 =>
 Q .normal (U τ [(10, v55_23), (55, v55_23), (54, (τ 10)), (9, v83_22), (83, v83_22), (82, v65_8), (81, (τ 9)), (80, (.bool false)), (80, (.bool false)), (68, (.bool false)), (79, undef), (68, (.bool false)), (78, undef), (68, (.bool false)), (77, undef), (76, undef), (75, undef), (74, undef), (73, undef), (72, undef), (68, (.bool false)), (71, undef), (68, (.bool false)), (70, undef), (68, (.bool false)), (69, undef), (68, (.bool false)), (68, v67_9), (67, v67_9), (66, v65_8), (11, v65_8), (65, v65_8), (64, v64_7), (63, v63_6), (62, v62_5), (61, v61_4), (60, v60_3), (59, v59_2), (58, (τ 10)), (57, (τ 8)), (56, (τ 4)), (53, (.bool true)), (53, v53_1), (52, v52_0), (51, (τ 8)), (50, (τ 10))]) ds s23))
 (Q (.exit 4) (U τ [(53, (.bool false)), (53, v53_1), (52, v52_0), (51, (τ 8)), (50, (τ 10))]) ds s1)
theorem x27_11101001001110100 (I : Prims) (rnd : Option Nat) (τ : Tau) (ds : List Deferred) (s : St) (Q : Ex → WK) : xp I rnd 153 k27_11101001001110100 c27_11101001001110100 [] τ [] ds s (lift Q) = v27_11101001001110100 I rnd τ ds s Q := by kernel_rfl
theorem n27_11101001001110100 [Memo] (ro : Nat) (rnd : Option Nat) (τ : Tau) (ds : List Deferred) (s : St) (Q : Ex → WK) : wp P ro 153 rnd c27_11101001001110100 τ ds s Q = v27_11101001001110100 (prims P ro) rnd τ ds s Q := xp_wp rnd 153 P ro (x27_11101001001110100 _ rnd τ ds s Q)
def v27_1110100100111101 (I : Prims) (rnd : Option Nat) (τ : Tau) (ds : List Deferred) (s : St) (Q : Ex → XK) : Prop :=
 wdec (τ 100)
 (I.wop (.fieldAddr 43 (.const (τ 7)) 1) 0 s fun v102_0 s0 =>
 I.wop (.indexAddr 41 (.const v102_0) (.const (.int .i64 2))) 0 s0 fun v103_1 s1 =>
 I.wop (.load 3 (.const v103_1)) 3 s1 fun v104_2 s2 =>
 I.wop (.binOp .add 3 (.const (τ 9)) (.const (.int .i64 1)) 3) 3 s2 fun v106_3 s3 =>
 I.wop (.indexAddr 49 (.const (τ 4)) (.const v104_2)) 0 s3 fun v107_4 s4 =>
 I.wop (.store 3 (.const v107_4) (.const v106_3)) 0 s4 fun _ s5 =>
 Q .normal τ [(107, v107_4), (106, v106_3), (105, (τ 9)), (104, v104_2), (103, v103_1), (102, v102_0), (101, (τ 4)), (100, (.bool true))] ds s5)
 (Q .normal τ [(100, (.bool false))] ds s)
theorem n27_1110100100111101 (I : Prims) (rnd : Option Nat) (τ : Tau) (ds : List Deferred) (s : St) (Q : Ex → XK) : xp I rnd 153 k27_1110100 c27_1110100100111101 [1, 0, 1, 1, 1, 1, 0, 0, 1] τ [] ds s Q = v27_1110100100111101 I rnd τ ds s Q := by kernel_rfl
def v27_111010010011111 (I : Prims) (rnd : Option Nat) (τ : Tau) (ds : List Deferred) (s : St) (Q : Ex → XK) : Prop :=
 I.wop (.fieldAddr 43 (.const (τ 7)) 0) 0 s fun v108_0 s0 =>
 I.wop (.load 40 (.const v108_0)) 40 s0 fun v109_1 s1 =>
 I.wop (.binOp .eql 40 (.const v109_1) (.const (.int .u8 3)) 40) 4 s1 fun v110_2 s2 =>
 wdec v110_2
 (I.loop 153 rnd c27_11101001001111110100 (U τ [(12, (.int .i64 0)), (110, (.bool true)), (110, v110_2), (109, v109_1), (108, v108_0)]) ds s2 (fun τ ds s => (Q .ret) τ [] ds s) [(6, fun τ3 ds3 s3 =>
 Q .normal τ3 [] ds3 s3)])
 (Q .normal τ [(110, (.bool false)), (110, v110_2), (109, v109_1), (108, v108_0)] ds s2)
theorem n27_111010010011111 (I : Prims) (rnd : Option Nat) (τ : Tau) (ds : List Deferred) (s : St) (Q : Ex → XK) : xp I rnd 153 k27_1110100 c27_111010010011111 [1, 1, 1, 1, 1, 0, 0, 1] τ [] ds s Q = v27_111010010011111 I rnd τ ds s Q := by kernel_rfl
def v27_111010011 (I : Prims) (rnd : Option Nat) (τ : Tau) (ds : List Deferred) (s : St) (Q : Ex → XK) : Prop :=
 I.wop (.binOp .add 3 (.const (τ 6)) (.const (.int .i64 1)) 3) 3 s fun v42_0 s0 =>
 Q .normal τ [(6, v42_0), (42, v42_0), (41, (τ 6))] ds s0
theorem n27_111010011 (I : Prims) (rnd : Option Nat) (τ : Tau) (ds : List Deferred) (s : St) (Q : Ex → XK) : xp I rnd 153 k27_1110100 c27_111010011 [1, 1] τ [] ds s Q = v27_111010011 I rnd τ ds s Q := by kernel_rfl
def v27_11101001001111110100 (I : Prims) (rnd : Option Nat) (τ : Tau) (ds : List Deferred) (s : St) (Q : Ex → WK) : Prop :=
 I.wop (.binOp .lss 3 (.const (τ 12)) (.const (.int .i64 4)) 3) 4 s fun v112_0 s0 =>
 wdec v112_0
 (I.wop (.fieldAddr 24 (.const (τ 1)) 4) 0 s0 fun v116_1 s1 =>
 I.wop (.load 22 (.const v116_1)) 22 s1 fun v117_2 s2 =>
 I.wop (.binOp .add 3 (.const (τ 6)) (.const (.int .i64 1)) 3) 3 s2 fun v119_3 s3 =>
 I.wop (.indexAddr 22 (.const v117_2) (.const v119_3)) 0 s3 fun v121_4 s4 =>
 I.wop (.fieldAddr 43 (.const v121_4) 1) 0 s4 fun v122_5 s5 =>
 I.wop (.indexAddr 41 (.const v122_5) (.const (τ 12))) 0 s5 fun v123_6 s6 =>
 I.wop (.load 3 (.const v123_6)) 3 s6 fun v124_7 s7 =>
 I.wop (.indexAddr 49 (.const (τ 4)) (.const v124_7)) 0 s7 fun v125_8 s8 =>
 I.wop (.load 3 (.const v125_8)) 3 s8 fun v126_9 s9 =>
 I.wop (.binOp .lss 3 (.const v126_9) (.const (.int .i64 0)) 3) 4 s9 fun v127_10 s10 =>
 wdec v127_10
 (I.wop (.fieldAddr 24 (.const (τ 1)) 4) 0 s10 fun v129_11 s11 =>
 I.wop (.load 22 (.const v129_11)) 22 s11 fun v130_12 s12 =>
 I.wop (.binOp .add 3 (.const (τ 6)) (.const (.int .i64 1)) 3) 3 s12 fun v132_13 s13 =>
 I.wop (.indexAddr 22 (.const v130_12) (.const v132_13)) 0 s13 fun v134_14 s14 =>
 I.wop (.fieldAddr 43 (.const v134_14) 1) 0 s14 fun v135_15 s15 =>
 I.wop (.indexAddr 41 (.const v135_15) (.const (τ 12))) 0 s15 fun v136_16 s16 =>
 I.wop (.load 3 (.const v136_16)) 3 s16 fun v137_17 s17 =>
 I.wop (.binOp .add 3 (.const (τ 9)) (.const (.int .i64 1)) 3) 3 s17 fun v139_18 s18 =>
 I.wop (.indexAddr 49 (.const (τ 4)) (.const v137_17)) 0 s18 fun v140_19 s19 =>
 I.wop (.store 3 (.const v140_19) (.const v139_18)) 0 s19 fun _ s20 =>
 I.wop (.binOp .add 3 (.const (τ 12)) (.const (.int .i64 1)) 3) 3 s20 fun v114_21 s21 =>
 Q .normal (U τ [(12, v114_21), (114, v114_21), (113, (τ 12)), (140, v140_19), (139, v139_18), (138, (τ 9)), (137, v137_17), (136, v136_16), (135, v135_15), (134, v134_14), (133, (τ 12)), (132, v132_13), (131, (τ 6)), (130, v130_12), (129, v129_11), (128, (τ 4)), (127, (.bool true)), (127, v127_10), (126, v126_9), (125, v125_8), (124, v124_7), (123, v123_6), (122, v122_5), (121, v121_4), (120, (τ 12)), (119, v119_3), (118, (τ 6)), (117, v117_2), (116, v116_1), (115, (τ 4)), (112, (.bool true)), (112, v112_0), (111, (τ 12))]) ds s21)
 (I.wop (.binOp .add 3 (.const (τ 12)) (.const (.int .i64 1)) 3) 3 s10 fun v114_22 s22 =>
 Q .normal (U τ [(12, v114_22), (114, v114_22), (113, (τ 12)), (127, (.bool false)), (127, v127_10), (126, v126_9), (125, v125_8), (124, v124_7), (123, v123_6), (122, v122_5), (121, v121_4), (120, (τ 12)), (119, v119_3), (118, (τ 6)), (117, v117_2), (116, v116_1), (115, (τ 4)), (112, (.bool true)), (112, v112_0), (111, (τ 12))]) ds s22))
 (Q (.exit 6) (U τ [(112, (.bool false)), (112, v112_0), (111, (τ 12))]) ds s0)
theorem x27_11101001001111110100 (I : Prims) (rnd : Option Nat) (τ : Tau) (ds : List Deferred) (s : St) (Q : Ex → WK) : xp I rnd 153 k27_11101001001111110100 c27_11101001001111110100 [] τ [] ds s (lift Q) = v27_11101001001111110100 I rnd τ ds s Q := by kernel_rfl
theorem n27_11101001001111110100 [Memo] (ro : Nat) (rnd : Option Nat) (τ : Tau) (ds : List Deferred) (s : St) (Q : Ex → WK) : wp P ro 153 rnd c27_11101001001111110100 τ ds s Q = v27_11101001001111110100 (prims P ro) rnd τ ds s Q := xp_wp rnd 153 P ro (x27_11101001001111110100 _ rnd τ ds s Q)
def v27 (I : Prims) (a0 : Value) (si : St) (K : Value → St → Prop) : Prop :=
 I.wop (.box 24 (.const a0)) 0 (ent si) fun v1_0 s0 =>
 I.wop (.fieldAddr 24 (.const v1_0) 1) 0 s0 fun v14_1 s1 =>
 I.wop (.load 3 (.const v14_1)) 3 s1 fun v15_2 s2 =>
 I.wop (.makeSlice 49 (.const v15_2) (.const v15_2)) 49 s2 fun v16_3 s3 =>
 I.loop 153 none c27_110100 (U undefT [(5, (.int .i64 0)), (4, v16_3), (16, v16_3), (15, v15_2), (14, v14_1), (3, (.bool false)), (2, (.slice none 0 0)), (1, v1_0), (0, a0)]) [] s3 (fun τ ds s => ((xleave I si Tryd.f27.results.toList K) .ret) τ [] ds s) [(0, fun τ4 ds4 s4 =>
 I.loop 153 none c27_1110100 (U τ4 [(6, (.int .i64 0))]) ds4 s4 (fun τ ds s => ((xleave I si Tryd.f27.results.toList K) .ret) τ [] ds s) [(2, fun τ5 ds5 s5 =>
 I.loop 153 none c27_11110100 (U τ5 [(13, (.int .i64 0))]) ds5 s5 (fun τ ds s => ((xleave I si Tryd.f27.results.toList K) .ret) τ [] ds s) [(8, fun τ6 ds6 s6 =>
 xdefers I ds6 s6 fun s7 =>
 I.fin si K (.tuple (.mk [(τ6 4), (.bool true)])) s7)]), (4, fun _ _ _ =>
 False), (6, fun _ _ _ =>
 False)])]
theorem x27 (I : Prims) (a0 : Value) (si : St) (K : Value → St → Prop) : xbody I 153 k27 Tryd.f27 c27 [a0] si K = v27 I a0 si K := by kernel_rfl
theorem n27 [Memo] (ro : Nat) (a0 : Value) (si : St) (K : Value → St → Prop) : wbody P ro 153 Tryd.f27 c27 [a0] si K = v27 (prims P ro) a0 si K := xbody_eq 153 P ro (x27 _ a0 si K)
theorem r27 (I : Prims) (si : St) (K : Value → St → Prop) (τ : Tau) (ds : List Deferred) (s : St) : xleave I si Tryd.f27.results.toList K .ret τ [] ds s =
 (xdefers I ds s fun s0 =>
 I.fin si K (.tuple (.mk [(τ 2), (τ 3)])) s0) := by kernel_rfl
/- attestor/gates.Run$1 -/
noncomputable def c28 : Code := bodyOf Tryd.f28
def k28 : List (List Nat) := []
theorem b28 : BodyOk P 18 4 28 Tryd.f28 c28 := ⟨Tryd.func28, by kernel_rfl, by kernel_rfl, by kernel_rfl, by kernel_rfl, by kernel_rfl⟩
def v28 (I : Prims) (a0 a1 a2 a3 : Value) (si : St) (K : Value → St → Prop) : Prop :=
 I.wop (.load 52 (.const a2)) 52 (ent si) fun v6_0 s0 =>
 I.wop (.indexAddr 52 (.const v6_0) (.const a0)) 0 s0 fun v8_1 s1 =>
 I.wop (.load 4 (.const v8_1)) 4 s1 fun v9_2 s2 =>
 I.wop (.unOp .not 4 (.const v9_2)) 4 s2 fun v10_3 s3 =>
 wdec v10_3
 (I.wop (.load 52 (.const a2)) 52 s3 fun v11_4 s4 =>
 veq v11_4 v11_4 = true ∧ I.wop (.load 25 (.const a3)) 25 s4 fun v13_5 s5 =>
 veq v13_5 v13_5 = true ∧ I.wop (.indexAddr 52 (.const v11_4) (.const a0)) 0 s5 fun v16_6 s6 =>
 I.wop (.store 4 (.const v16_6) (.const (.bool true))) 0 s6 fun _ s7 =>
 Keeps [(2, .ptr a3)] s6 s7 ∧ I.wop (.indexAddr 25 (.const v13_5) (.const a0)) 0 s7 fun v17_8 s8 =>
 I.wop (.store 38 (.const v17_8) (.const a1)) 0 s8 fun _ s9 =>
 I.fin si K (.tuple (.mk [])) s9)
 (I.fin si K (.tuple (.mk [])) s3)
theorem x28 (I : Prims) (a0 a1 a2 a3 : Value) (si : St) (K : Value → St → Prop) : xbody I 18 k28 Tryd.f28 c28 [a0, a1, a2, a3] si K = v28 I a0 a1 a2 a3 si K := by kernel_rfl
theorem n28 [Memo] (ro : Nat) (a0 a1 a2 a3 : Value) (si : St) (K : Value → St → Prop) : wbody P ro 18 Tryd.f28 c28 [a0, a1, a2, a3] si K = v28 (prims P ro) a0 a1 a2 a3 si K := xbody_eq 18 P ro (x28 _ a0 a1 a2 a3 si K)
/- attestor/gates.turned -/
noncomputable def c29 : Code := bodyOf Tryd.f29
noncomputable def c29_110100 : Code := subCode [1, 1, 0, 1, 0, 0] c29
def k29 : List (List Nat) := []
def k29_110100 : List (List Nat) := []
theorem l29_110100 : ltCode 27 c29_110100 = true := by kernel_rfl
theorem m29_110100 : notMap c29_110100 = true := by kernel_rfl
theorem b29 : BodyOk P 27 3 29 Tryd.f29 c29 := ⟨Tryd.func29, by kernel_rfl, by kernel_rfl, by kernel_rfl, by kernel_rfl, by kernel_rfl⟩
def v29_110100 (I : Prims) (rnd : Option Nat) (τ : Tau) (ds : List Deferred) (s : St) (Q : Ex → WK) : Prop :=
 I.wop (.binOp .lss 3 (.const (τ 9)) (.const (.int .i64 4)) 3) 4 s fun v10_0 s0 =>
 wdec v10_0
 (I.wop (.fieldAddr 43 (.const (τ 4)) 1) 0 s0 fun v15_1 s1 =>
 I.wop (.indexAddr 41 (.const v15_1) (.const (τ 9))) 0 s1 fun v16_2 s2 =>
 I.wop (.load 3 (.const v16_2)) 3 s2 fun v17_3 s3 =>
 I.wop (.indexAddr 25 (.const (τ 2)) (.const v17_3)) 0 s3 fun v18_4 s4 =>
 I.wop (.load 38 (.const v18_4)) 38 s4 fun v19_5 s5 =>
 I.wop (.indexAddr 39 (.const (τ 7)) (.const (τ 9))) 0 s5 fun v20_6 s6 =>
 I.wop (.store 38 (.const v20_6) (.const v19_5)) 0 s6 fun _ s7 =>
 I.wop (.binOp .add 3 (.const (τ 9)) (.const (.int .i64 1)) 3) 3 s7 fun v21_8 s8 =>
 Q .normal (U τ [(9, v21_8), (21, v21_8), (20, v20_6), (19, v19_5), (18, v18_4), (17, v17_3), (16, v16_2), (15, v15_1), (14, (τ 9)), (13, (τ 2)), (12, (τ 9)), (8, (τ 9)), (11, (τ 9)), (10, (.bool true)), (10, v10_0)]) ds s8)
 (Q (.exit 0) (U τ [(10, (.bool false)), (10, v10_0)]) ds s0)
theorem x29_110100 (I : Prims) (rnd : Option Nat) (τ : Tau) (ds : List Deferred) (s : St) (Q : Ex → WK) : xp I rnd 27 k29_110100 c29_110100 [] τ [] ds s (lift Q) = v29_110100 I rnd τ ds s Q := by kernel_rfl
theorem n29_110100 [Memo] (ro : Nat) (rnd : Option Nat) (τ : Tau) (ds : List Deferred) (s : St) (Q : Ex → WK) : wp P ro 27 rnd c29_110100 τ ds s Q = v29_110100 (prims P ro) rnd τ ds s Q := xp_wp rnd 27 P ro (x29_110100 _ rnd τ ds s Q)
def v29 (I : Prims) (a0 a1 a2 : Value) (si : St) (K : Value → St → Prop) : Prop :=
 I.wop (.box 43 (.const a1)) 0 (ent si) fun v4_0 s0 =>
 I.wop (.alloc 39) 0 s0 fun v6_1 s1 =>
 I.wop (.alloc 39) 0 s1 fun v7_2 s2 =>
 I.loop 27 none c29_110100 (U undefT [(9, (.int .i64 0)), (7, v7_2), (6, v6_1), (4, v4_0), (0, a0), (1, a1), (2, a2)]) [] s2 (fun τ ds s => ((xleave I si Tryd.f29.results.toList K) .ret) τ [] ds s) [(0, fun τ3 ds3 s3 =>
 I.wop (.fieldAddr 43 (.const (τ3 4)) 7) 0 s3 fun v23_4 s4 =>
 I.wop (.load 3 (.const v23_4)) 3 s4 fun v24_5 s5 =>
 I.wop (.load 39 (.const (τ3 7))) 39 s5 fun v25_6 s6 =>
 I.call 54 [(τ3 0), v24_5, v25_6] s6 fun v26_7 s7 =>
 I.wop (.store 39 (.const (τ3 6)) (.const v26_7)) 0 s7 fun _ s8 =>
 xdefers I ds3 s8 fun s9 =>
 I.wop (.load 39 (.const (τ3 6))) 39 s9 fun v6_10 _ =>
 I.fin si K v6_10 s9)]
theorem x29 (I : Prims) (a0 a1 a2 : Value) (si : St) (K : Value → St → Prop) : xbody I 27 k29 Tryd.f29 c29 [a0, a1, a2] si K = v29 I a0 a1 a2 si K := by kernel_rfl
theorem n29 [Memo] (ro : Nat) (a0 a1 a2 : Value) (si : St) (K : Value → St → Prop) : wbody P ro 27 Tryd.f29 c29 [a0, a1, a2] si K = v29 (prims P ro) a0 a1 a2 si K := xbody_eq 27 P ro (x29 _ a0 a1 a2 si K)
/- attestor/field.Neg -/
noncomputable def c30 : Code := bodyOf Tryd.f30
def k30 : List (List Nat) := []
theorem b30 : BodyOk P 21 2 30 Tryd.f30 c30 := ⟨Tryd.func30, by kernel_rfl, by kernel_rfl, by kernel_rfl, by kernel_rfl, by kernel_rfl⟩
def v30 (I : Prims) (a0 a1 : Value) (si : St) (K : Value → St → Prop) : Prop :=
 I.call 47 [a0] (ent si) fun v7_0 s0 =>
 I.wop (.binOp .eql 38 (.const v7_0) (.const (.int .u64 0)) 38) 4 s0 fun v9_1 s1 =>
 wdec v9_1
 (I.fin si K (.int .u64 0) s1)
 (I.wop (.binOp .rem 38 (.const a1) (.const v7_0) 38) 38 s1 fun v13_2 s2 =>
 I.wop (.binOp .eql 38 (.const v13_2) (.const (.int .u64 0)) 38) 4 s2 fun v14_3 s3 =>
 wdec v14_3
 (I.fin si K (.int .u64 0) s3)
 (I.wop (.binOp .rem 38 (.const a1) (.const v7_0) 38) 38 s3 fun v19_4 s4 =>
 I.wop (.binOp .sub 38 (.const v7_0) (.const v19_4) 38) 38 s4 fun v20_5 s5 =>
 I.fin si K v20_5 s5))
theorem x30 (I : Prims) (a0 a1 : Value) (si : St) (K : Value → St → Prop) : xbody I 21 k30 Tryd.f30 c30 [a0, a1] si K = v30 I a0 a1 si K := by kernel_rfl
theorem n30 [Memo] (ro : Nat) (a0 a1 : Value) (si : St) (K : Value → St → Prop) : wbody P ro 21 Tryd.f30 c30 [a0, a1] si K = v30 (prims P ro) a0 a1 si K := xbody_eq 21 P ro (x30 _ a0 a1 si K)
/- attestor/field.Div -/
noncomputable def c31 : Code := bodyOf Tryd.f31
def k31 : List (List Nat) := []
theorem b31 : BodyOk P 13 3 31 Tryd.f31 c31 := ⟨Tryd.func31, by kernel_rfl, by kernel_rfl, by kernel_rfl, by kernel_rfl, by kernel_rfl⟩
def v31 (I : Prims) (a0 a1 a2 : Value) (si : St) (K : Value → St → Prop) : Prop :=
 I.call 55 [a0, a2] (ent si) fun v11_0 s0 =>
 I.call 49 [a0, a1, v11_0] s0 fun v12_1 s1 =>
 I.fin si K v12_1 s1
theorem x31 (I : Prims) (a0 a1 a2 : Value) (si : St) (K : Value → St → Prop) : xbody I 13 k31 Tryd.f31 c31 [a0, a1, a2] si K = v31 I a0 a1 a2 si K := by kernel_rfl
theorem n31 [Memo] (ro : Nat) (a0 a1 a2 : Value) (si : St) (K : Value → St → Prop) : wbody P ro 13 Tryd.f31 c31 [a0, a1, a2] si K = v31 (prims P ro) a0 a1 a2 si K := xbody_eq 13 P ro (x31 _ a0 a1 a2 si K)
/- attestor/gates.total -/
noncomputable def c32 : Code := bodyOf Tryd.f32
def k32 : List (List Nat) := []
theorem b32 : BodyOk P 43 3 32 Tryd.f32 c32 := ⟨Tryd.func32, by kernel_rfl, by kernel_rfl, by kernel_rfl, by kernel_rfl, by kernel_rfl⟩
def v32 (I : Prims) (a0 a1 a2 : Value) (si : St) (K : Value → St → Prop) : Prop :=
 I.wop (.box 43 (.const a1)) 0 (ent si) fun v4_0 s0 =>
 I.wop (.load 43 (.const v4_0)) 43 s0 fun v10_1 s1 =>
 veq v10_1 v10_1 = true ∧ I.wop (.load 43 (.const v4_0)) 43 s1 fun v13_2 s2 =>
 veq v13_2 v13_2 = true ∧ I.call 50 [v10_1, a2, (.int .i64 0)] s2 fun v12_3 s3 =>
 Keeps [(3, .ptr v4_0)] s2 s3 ∧ I.call 50 [v13_2, a2, (.int .i64 1)] s3 fun v15_4 s4 =>
 I.wop (.fieldAddr 43 (.const v4_0) 2) 0 s4 fun v18_5 s5 =>
 I.wop (.load 38 (.const v18_5)) 38 s5 fun v19_6 s6 =>
 veq v19_6 v19_6 = true ∧ I.wop (.fieldAddr 43 (.const v4_0) 3) 0 s6 fun v23_7 s7 =>
 I.wop (.load 38 (.const v23_7)) 38 s7 fun v24_8 s8 =>
 veq v24_8 v24_8 = true ∧ I.call 49 [a0, v19_6, v12_3] s8 fun v21_9 s9 =>
 Keeps [(8, .ptr v23_7)] s8 s9 ∧ I.call 49 [a0, v24_8, v15_4] s9 fun v26_10 s10 =>
 I.call 48 [a0, v21_9, v26_10] s10 fun v27_11 s11 =>
 I.wop (.fieldAddr 43 (.const v4_0) 4) 0 s11 fun v32_12 s12 =>
 I.wop (.load 38 (.const v32_12)) 38 s12 fun v33_13 s13 =>
 veq v33_13 v33_13 = true ∧ I.wop (.fieldAddr 43 (.const v4_0) 6) 0 s13 fun v39_14 s14 =>
 I.wop (.load 38 (.const v39_14)) 38 s14 fun v40_15 s15 =>
 veq v40_15 v40_15 = true ∧ I.call 49 [a0, v12_3, v15_4] s15 fun v37_16 s16 =>
 Keeps [(12, .ptr v39_14), (5, .ptr v32_12)] s15 s16 ∧ I.call 49 [a0, v33_13, v37_16] s16 fun v38_17 s17 =>
 Keeps [(12, .ptr v39_14)] s16 s17 ∧ I.call 48 [a0, v38_17, v40_15] s17 fun v41_18 s18 =>
 I.call 48 [a0, v27_11, v41_18] s18 fun v42_19 s19 =>
 I.fin si K v42_19 s19
theorem x32 (I : Prims) (a0 a1 a2 : Value) (si : St) (K : Value → St → Prop) : xbody I 43 k32 Tryd.f32 c32 [a0, a1, a2] si K = v32 I a0 a1 a2 si K := by kernel_rfl
theorem n32 [Memo] (ro : Nat) (a0 a1 a2 : Value) (si : St) (K : Value → St → Prop) : wbody P ro 43 Tryd.f32 c32 [a0, a1, a2] si K = v32 (prims P ro) a0 a1 a2 si K := xbody_eq 43 P ro (x32 _ a0 a1 a2 si K)
/- attestor/gates.depths -/
noncomputable def c37 : Code := bodyOf Tryd.f37
noncomputable def c37_11110100 : Code := subCode [1, 1, 1, 1, 0, 1, 0, 0] c37
noncomputable def c37_111110100 : Code := subCode [1, 1, 1, 1, 1, 0, 1, 0, 0] c37
noncomputable def c37_111110100110011 : Code := subCode [1, 1, 1, 1, 1, 0, 1, 0, 0, 1, 1, 0, 0, 1, 1] c37
noncomputable def c37_111110100111 : Code := subCode [1, 1, 1, 1, 1, 0, 1, 0, 0, 1, 1, 1] c37
noncomputable def c37_11111010011001110100 : Code := subCode [1, 1, 1, 1, 1, 0, 1, 0, 0, 1, 1, 0, 0, 1, 1, 1, 0, 1, 0, 0] c37
noncomputable def c37_1111101001100111111100 : Code := subCode [1, 1, 1, 1, 1, 0, 1, 0, 0, 1, 1, 0, 0, 1, 1, 1, 1, 1, 1, 1, 0, 0] c37
noncomputable def c37_111110100110011101001100111 : Code := subCode [1, 1, 1, 1, 1, 0, 1, 0, 0, 1, 1, 0, 0, 1, 1, 1, 0, 1, 0, 0, 1, 1, 0, 0, 1, 1, 1] c37
noncomputable def c37_11111010011001110100111 : Code := subCode [1, 1, 1, 1, 1, 0, 1, 0, 0, 1, 1, 0, 0, 1, 1, 1, 0, 1, 0, 0, 1, 1, 1] c37
def k37 : List (List Nat) := []
def k37_11110100 : List (List Nat) := []
theorem l37_11110100 : ltCode 197 c37_11110100 = true := by kernel_rfl
theorem m37_11110100 : notMap c37_11110100 = true := by kernel_rfl
def k37_111110100 : List (List Nat) := [[1, 1, 0, 0, 1, 1]]
theorem l37_111110100 : ltCode 197 c37_111110100 = true := by kernel_rfl
theorem m37_111110100 : notMap c37_111110100 = true := by kernel_rfl
def k37_11111010011001110100 : List (List Nat) := [[1, 1, 1, 0, 0, 1, 1]]
theorem l37_11111010011001110100 : ltCode 197 c37_11111010011001110100 = true := by kernel_rfl
theorem m37_11111010011001110100 : notMap c37_11111010011001110100 = true := by kernel_rfl
def k37_1111101001100111111100 : List (List Nat) := []
theorem l37_1111101001100111111100 : ltCode 197 c37_1111101001100111111100 = true := by kernel_rfl
theorem m37_1111101001100111111100 : notMap c37_1111101001100111111100 = true := by kernel_rfl
theorem b37 : BodyOk P 197 1 37 Tryd.f37 c37 := ⟨Tryd.func37, by kernel_rfl, by kernel_rfl, by kernel_rfl, by kernel_rfl, by kernel_rfl⟩
def v37_11110100 (I : Prims) (rnd : Option Nat) (τ : Tau) (ds : List Deferred) (s : St) (Q : Ex → WK) : Prop :=
 I.wop (.binOp .lss 3 (.const (τ 66)) (.const (τ 65)) 3) 4 s fun v67_0 s0 =>
 wdec v67_0
 (I.wop (.indexAddr 49 (.const (τ 4)) (.const (τ 66))) 0 s0 fun v71_1 s1 =>
 I.wop (.store 3 (.const v71_1) (.const (.int .i64 0))) 0 s1 fun _ s2 =>
 I.wop (.binOp .add 3 (.const (τ 66)) (.const (.int .i64 1)) 3) 3 s2 fun v72_3 s3 =>
 Q .normal (U τ [(66, v72_3), (72, v72_3), (71, v71_1), (70, (τ 66)), (69, (τ 4)), (5, (τ 66)), (68, (τ 66)), (67, (.bool true)), (67, v67_0)]) ds s3)
 (Q (.exit 0) (U τ [(67, (.bool false)), (67, v67_0)]) ds s0)
theorem x37_11110100 (I : Prims) (rnd : Option Nat) (τ : Tau) (ds : List Deferred) (s : St) (Q : Ex → WK) : xp I rnd 197 k37_11110100 c37_11110100 [] τ [] ds s (lift Q) = v37_11110100 I rnd τ ds s Q := by kernel_rfl
theorem n37_11110100 [Memo] (ro : Nat) (rnd : Option Nat) (τ : Tau) (ds : List Deferred) (s : St) (Q : Ex → WK) : wp P ro 197 rnd c37_11110100 τ ds s Q = v37_11110100 (prims P ro) rnd τ ds s Q := xp_wp rnd 197 P ro (x37_11110100 _ rnd τ ds s Q)
def v37_111110100 (I : Prims) (rnd : Option Nat) (τ : Tau) (ds : List Deferred) (s : St) (Q : Ex → WK) : Prop :=
 I.wop (.binOp .lss 3 (.const (τ 76)) (.const (τ 75)) 3) 0 s fun v77_0 s0 =>
 wdec v77_0
 (I.wop (.indexAddr 22 (.const (τ 74)) (.const (τ 76))) 0 s0 fun v79_1 s1 =>
 I.wop (.load 43 (.const v79_1)) 43 s1 fun v80_2 s2 =>
 I.wop (.alloc 43) 0 s2 fun v7_3 s3 =>
 I.wop (.store 43 (.const v7_3) (.const v80_2)) 0 s3 fun _ s4 =>
 I.wop (.load 24 (.const (τ 1))) 24 s4 fun v81_5 s5 =>
 veq v81_5 v81_5 = true ∧ I.wop (.load 43 (.const v7_3)) 43 s5 fun v82_6 s6 =>
 veq v82_6 v82_6 = true ∧ I.call 60 [v81_5, v82_6] s6 fun v83_7 s7 =>
 I.wop (.unOp .not 4 (.const v83_7)) 4 s7 fun v84_8 s8 =>
 wdec v84_8
 (Q .ret (U τ [(3, (.bool false)), (2, (.slice none 0 0)), (121, (.bool true)), (121, (.bool true)), (85, (.bool true)), (120, undef), (85, (.bool true)), (119, undef), (118, undef), (115, undef), (117, undef), (116, undef), (114, undef), (113, undef), (112, undef), (111, undef), (110, undef), (109, undef), (108, undef), (107, undef), (106, undef), (105, undef), (104, undef), (103, undef), (102, undef), (101, undef), (100, undef), (99, undef), (98, undef), (97, undef), (96, undef), (95, undef), (94, undef), (93, undef), (92, undef), (91, undef), (90, undef), (89, undef), (85, (.bool true)), (88, undef), (85, (.bool true)), (87, undef), (85, (.bool true)), (86, undef), (85, (.bool true)), (85, v84_8), (84, v84_8), (83, v83_7), (82, v82_6), (81, v81_5), (6, (τ 76)), (7, v7_3), (80, v80_2), (79, v79_1), (78, (τ 76)), (77, (.bool true)), (77, v77_0)]) ds s8)
 (I.wop (.fieldAddr 43 (.const v7_3) 0) 0 s8 fun v86_9 s9 =>
 I.wop (.load 40 (.const v86_9)) 40 s9 fun v87_10 s10 =>
 veq v87_10 v87_10 = true ∧ I.wop (.binOp .eql 40 (.const v87_10) (.const (.int .u8 3)) 40) 4 s10 fun v88_11 s11 =>
 wdec v88_11
 (I.wop (.binOp .add 3 (.const (τ 76)) (.const (.int .i64 1)) 3) 3 s11 fun v91_12 s12 =>
 I.wop (.fieldAddr 24 (.const (τ 1)) 4) 0 s12 fun v92_13 s13 =>
 I.wop (.load 22 (.const v92_13)) 22 s13 fun v93_14 s14 =>
 veq v93_14 v93_14 = true ∧ I.wop (.call ⟨.builtin .len, ⟨[(.const v93_14)]⟩, #[22]⟩) 3 s14 fun v94_15 s15 =>
 I.wop (.binOp .eql 3 (.const v91_12) (.const v94_15) 3) 4 s15 fun v95_16 s16 =>
 wdec v95_16
 (Q .ret (U τ [(3, (.bool false)), (2, (.slice none 0 0)), (121, (.bool true)), (121, (.bool true)), (85, (.bool false)), (120, (.bool true)), (89, (.bool true)), (85, (.bool false)), (119, (.bool true)), (107, (.bool true)), (89, (.bool true)), (118, undef), (107, (.bool true)), (115, undef), (107, (.bool true)), (117, undef), (107, (.bool true)), (116, undef), (107, (.bool true)), (114, undef), (107, (.bool true)), (113, undef), (107, (.bool true)), (112, undef), (107, (.bool true)), (111, undef), (107, (.bool true)), (110, undef), (107, (.bool true)), (109, undef), (107, (.bool true)), (108, undef), (107, (.bool true)), (107, (.bool true)), (89, (.bool true)), (106, (.bool true)), (96, (.bool true)), (89, (.bool true)), (105, undef), (96, (.bool true)), (104, undef), (96, (.bool true)), (103, undef), (96, (.bool true)), (102, undef), (96, (.bool true)), (101, undef), (96, (.bool true)), (100, undef), (96, (.bool true)), (99, undef), (96, (.bool true)), (98, undef), (96, (.bool true)), (97, undef), (96, (.bool true)), (96, v95_16), (89, (.bool true)), (95, v95_16), (89, (.bool true)), (94, v94_15), (89, (.bool true)), (93, v93_14), (89, (.bool true)), (92, v92_13), (89, (.bool true)), (91, v91_12), (89, (.bool true)), (90, (τ 76)), (89, (.bool true)), (89, v88_11), (85, (.bool false)), (88, v88_11), (85, (.bool false)), (87, v87_10), (85, (.bool false)), (86, v86_9), (85, (.bool false)), (85, v84_8), (84, v84_8), (83, v83_7), (82, v82_6), (81, v81_5), (6, (τ 76)), (7, v7_3), (80, v80_2), (79, v79_1), (78, (τ 76)), (77, (.bool true)), (77, v77_0)]) ds s16)
 (I.wop (.fieldAddr 24 (.const (τ 1)) 4) 0 s16 fun v97_17 s17 =>
 I.wop (.load 22 (.const v97_17)) 22 s17 fun v98_18 s18 =>
 veq v98_18 v98_18 = true ∧ I.wop (.binOp .add 3 (.const (τ 76)) (.const (.int .i64 1)) 3) 3 s18 fun v100_19 s19 =>
 I.wop (.indexAddr 22 (.const v98_18) (.const v100_19)) 0 s19 fun v101_20 s20 =>
 I.wop (.fieldAddr 43 (.const v101_20) 1) 0 s20 fun v102_21 s21 =>
 I.wop (.slice 41 (.const v102_21) none none none) 49 s21 fun v103_22 s22 =>
 I.call 61 [v103_22] s22 fun v104_23 s23 =>
 I.wop (.binOp .lss 3 (.const v104_23) (.const (.int .i64 0)) 3) 4 s23 fun v105_24 s24 =>
 wdec v105_24
 (Q .ret (U τ [(3, (.bool false)), (2, (.slice none 0 0)), (121, (.bool true)), (121, (.bool true)), (85, (.bool false)), (120, (.bool true)), (89, (.bool true)), (85, (.bool false)), (119, (.bool true)), (107, (.bool true)), (89, (.bool true)), (118, undef), (107, (.bool true)), (115, undef), (107, (.bool true)), (117, undef), (107, (.bool true)), (116, undef), (107, (.bool true)), (114, undef), (107, (.bool true)), (113, undef), (107, (.bool true)), (112, undef), (107, (.bool true)), (111, undef), (107, (.bool true)), (110, undef), (107, (.bool true)), (109, undef), (107, (.bool true)), (108, undef), (107, (.bool true)), (107, v105_24), (89, (.bool true)), (106, v105_24), (96, (.bool false)), (89, (.bool true)), (105, v105_24), (96, (.bool false)), (104, v104_23), (96, (.bool false)), (103, v103_22), (96, (.bool false)), (102, v102_21), (96, (.bool false)), (101, v101_20), (96, (.bool false)), (100, v100_19), (96, (.bool false)), (99, (τ 76)), (96, (.bool false)), (98, v98_18), (96, (.bool false)), (97, v97_17), (96, (.bool false)), (96, v95_16), (89, (.bool true)), (95, v95_16), (89, (.bool true)), (94, v94_15), (89, (.bool true)), (93, v93_14), (89, (.bool true)), (92, v92_13), (89, (.bool true)), (91, v91_12), (89, (.bool true)), (90, (τ 76)), (89, (.bool true)), (89, v88_11), (85, (.bool false)), (88, v88_11), (85, (.bool false)), (87, v87_10), (85, (.bool false)), (86, v86_9), (85, (.bool false)), (85, v84_8), (84, v84_8), (83, v83_7), (82, v82_6), (81, v81_5), (6, (τ 76)), (7, v7_3), (80, v80_2), (79, v79_1), (78, (τ 76)), (77, (.bool true)), (77, v77_0)]) ds s24)
 (I.wop (.fieldAddr 24 (.const (τ 1)) 4) 0 s24 fun v108_25 s25 =>
 I.wop (.load 22 (.const v108_25)) 22 s25 fun v109_26 s26 =>
 veq v109_26 v109_26 = true ∧ I.wop (.binOp .add 3 (.const (τ 76)) (.const (.int .i64 1)) 3) 3 s26 fun v111_27 s27 =>
 I.wop (.indexAddr 22 (.const v109_26) (.const v111_27)) 0 s27 fun v112_28 s28 =>
 I.wop (.fieldAddr 43 (.const v112_28) 1) 0 s28 fun v113_29 s29 =>
 I.wop (.slice 41 (.const v113_29) none none none) 49 s29 fun v114_30 s30 =>
 I.wop (.fieldAddr 24 (.const (τ 1)) 1) 0 s30 fun v116_31 s31 =>
 I.wop (.load 3 (.const v116_31)) 3 s31 fun v117_32 s32 =>
 veq v117_32 v117_32 = true ∧ I.call 62 [v114_30] s32 fun v115_33 s33 =>
 Keeps [(36, .ptr v116_31)] s32 s33 ∧ I.wop (.binOp .geq 3 (.const v115_33) (.const v117_32) 3) 4 s33 fun v118_34 s34 =>
 wdec v118_34
 (Q .ret (U τ [(3, (.bool false)), (2, (.slice none 0 0)), (121, (.bool true)), (121, v118_34), (85, (.bool false)), (120, v118_34), (89, (.bool true)), (85, (.bool false)), (119, v118_34), (107, (.bool false)), (89, (.bool true)), (118, v118_34), (107, (.bool false)), (115, v115_33), (107, (.bool false)), (117, v117_32), (107, (.bool false)), (116, v116_31), (107, (.bool false)), (114, v114_30), (107, (.bool false)), (113, v113_29), (107, (.bool false)), (112, v112_28), (107, (.bool false)), (111, v111_27), (107, (.bool false)), (110, (τ 76)), (107, (.bool false)), (109, v109_26), (107, (.bool false)), (108, v108_25), (107, (.bool false)), (107, v105_24), (89, (.bool true)), (106, v105_24), (96, (.bool false)), (89, (.bool true)), (105, v105_24), (96, (.bool false)), (104, v104_23), (96, (.bool false)), (103, v103_22), (96, (.bool false)), (102, v102_21), (96, (.bool false)), (101, v101_20), (96, (.bool false)), (100, v100_19), (96, (.bool false)), (99, (τ 76)), (96, (.bool false)), (98, v98_18), (96, (.bool false)), (97, v97_17), (96, (.bool false)), (96, v95_16), (89, (.bool true)), (95, v95_16), (89, (.bool true)), (94, v94_15), (89, (.bool true)), (93, v93_14), (89, (.bool true)), (92, v92_13), (89, (.bool true)), (91, v91_12), (89, (.bool true)), (90, (τ 76)), (89, (.bool true)), (89, v88_11), (85, (.bool false)), (88, v88_11), (85, (.bool false)), (87, v87_10), (85, (.bool false)), (86, v86_9), (85, (.bool false)), (85, v84_8), (84, v84_8), (83, v83_7), (82, v82_6), (81, v81_5), (6, (τ 76)), (7, v7_3), (80, v80_2), (79, v79_1), (78, (τ 76)), (77, (.bool true)), (77, v77_0)]) ds s34)
 (I.hold (xp I rnd 197 k37_111110100 c37_111110100110011 [1, 1, 0, 0, 1, 1] (U τ [(121, (.bool false)), (121, v118_34), (85, (.bool false)), (120, v118_34), (89, (.bool true)), (85, (.bool false)), (119, v118_34), (107, (.bool false)), (89, (.bool true)), (118, v118_34), (107, (.bool false)), (115, v115_33), (107, (.bool false)), (117, v117_32), (107, (.bool false)), (116, v116_31), (107, (.bool false)), (114, v114_30), (107, (.bool false)), (113, v113_29), (107, (.bool false)), (112, v112_28), (107, (.bool false)), (111, v111_27), (107, (.bool false)), (110, (τ 76)), (107, (.bool false)), (109, v109_26), (107, (.bool false)), (108, v108_25), (107, (.bool false)), (107, v105_24), (89, (.bool true)), (106, v105_24), (96, (.bool false)), (89, (.bool true)), (105, v105_24), (96, (.bool false)), (104, v104_23), (96, (.bool false)), (103, v103_22), (96, (.bool false)), (102, v102_21), (96, (.bool false)), (101, v101_20), (96, (.bool false)), (100, v100_19), (96, (.bool false)), (99, (τ 76)), (96, (.bool false)), (98, v98_18), (96, (.bool false)), (97, v97_17), (96, (.bool false)), (96, v95_16), (89, (.bool true)), (95, v95_16), (89, (.bool true)), (94, v94_15), (89, (.bool true)), (93, v93_14), (89, (.bool true)), (92, v92_13), (89, (.bool true)), (91, v91_12), (89, (.bool true)), (90, (τ 76)), (89, (.bool true)), (89, v88_11), (85, (.bool false)), (88, v88_11), (85, (.bool false)), (87, v87_10), (85, (.bool false)), (86, v86_9), (85, (.bool false)), (85, v84_8), (84, v84_8), (83, v83_7), (82, v82_6), (81, v81_5), (6, (τ 76)), (7, v7_3), (80, v80_2), (79, v79_1), (78, (τ 76)), (77, (.bool true)), (77, v77_0)]) [] ds s34 (blkX 3 (sX I rnd 197 k37_111110100 c37_111110100111 [1, 1, 1] (lift Q))))))))
 (I.hold (xp I rnd 197 k37_111110100 c37_111110100110011 [1, 1, 0, 0, 1, 1] (U τ [(121, (.bool false)), (121, (.bool false)), (85, (.bool false)), (120, (.bool false)), (89, (.bool false)), (85, (.bool false)), (119, undef), (89, (.bool false)), (118, undef), (115, undef), (117, undef), (116, undef), (114, undef), (113, undef), (112, undef), (111, undef), (110, undef), (109, undef), (108, undef), (107, undef), (89, (.bool false)), (106, undef), (89, (.bool false)), (105, undef), (104, undef), (103, undef), (102, undef), (101, undef), (100, undef), (99, undef), (98, undef), (97, undef), (96, undef), (89, (.bool false)), (95, undef), (89, (.bool false)), (94, undef), (89, (.bool false)), (93, undef), (89, (.bool false)), (92, undef), (89, (.bool false)), (91, undef), (89, (.bool false)), (90, undef), (89, (.bool false)), (89, v88_11), (85, (.bool false)), (88, v88_11), (85, (.bool false)), (87, v87_10), (85, (.bool false)), (86, v86_9), (85, (.bool false)), (85, v84_8), (84, v84_8), (83, v83_7), (82, v82_6), (81, v81_5), (6, (τ 76)), (7, v7_3), (80, v80_2), (79, v79_1), (78, (τ 76)), (77, (.bool true)), (77, v77_0)]) [] ds s11 (blkX 3 (sX I rnd 197 k37_111110100 c37_111110100111 [1, 1, 1] (lift Q)))))))
 (Q (.exit 2) (U τ [(77, (.bool false)), (77, v77_0)]) ds s0)
theorem x37_111110100 (I : Prims) (rnd : Option Nat) (τ : Tau) (ds : List Deferred) (s : St) (Q : Ex → WK) : xp I rnd 197 k37_111110100 c37_111110100 [] τ [] ds s (lift Q) = v37_111110100 I rnd τ ds s Q := by kernel_rfl
theorem n37_111110100 [Memo] (ro : Nat) (rnd : Option Nat) (τ : Tau) (ds : List Deferred) (s : St) (Q : Ex → WK) : wp P ro 197 rnd c37_111110100 τ ds s Q = v37_111110100 (prims P ro) rnd τ ds s Q := xp_wp rnd 197 P ro (x37_111110100 _ rnd τ ds s Q)
def v37_111110100110011 (I : Prims) (rnd : Option Nat) (τ : Tau) (ds : List Deferred) (s : St) (Q : Ex → XK) : Prop :=
 I.wop (.load 43 (.const (τ 7))) 43 s fun v122_0 s0 =>
 I.call 63 [v122_0] s0 fun v123_1 s1 =>
 I.loop 197 rnd c37_11111010011001110100 (U τ [(124, (.int .i64 0)), (123, v123_1), (122, v122_0), (8, (.int .i64 0))]) ds s1 (fun τ ds s => (Q .ret) τ [] ds s) [(4, fun τ2 ds2 s2 =>
 I.wop (.fieldAddr 43 (.const (τ2 7)) 0) 0 s2 fun v159_3 s3 =>
 I.wop (.load 40 (.const v159_3)) 40 s3 fun v160_4 s4 =>
 I.wop (.binOp .eql 40 (.const v160_4) (.const (.int .u8 3)) 40) 4 s4 fun v161_5 s5 =>
 wdec v161_5
 (I.wop (.fieldAddr 24 (.const (τ2 1)) 4) 0 s5 fun v162_6 s6 =>
 I.wop (.load 22 (.const v162_6)) 22 s6 fun v163_7 s7 =>
 I.wop (.binOp .add 3 (.const (τ2 6)) (.const (.int .i64 1)) 3) 3 s7 fun v165_8 s8 =>
 I.wop (.indexAddr 22 (.const v163_7) (.const v165_8)) 0 s8 fun v166_9 s9 =>
 I.wop (.fieldAddr 43 (.const v166_9) 1) 0 s9 fun v167_10 s10 =>
 I.wop (.slice 41 (.const v167_10) none none none) 49 s10 fun v168_11 s11 =>
 I.wop (.call ⟨.builtin .len, ⟨[(.const v168_11)]⟩, #[49]⟩) 3 s11 fun v176_12 s12 =>
 I.loop 197 rnd c37_1111101001100111111100 (U τ2 [(177, (.int .i64 0)), (176, v176_12), (175, v168_11), (11, v168_11), (168, v168_11), (167, v167_10), (166, v166_9), (165, v165_8), (164, (τ2 6)), (163, v163_7), (162, v162_6), (158, (.bool true)), (158, v161_5), (161, v161_5), (160, v160_4), (159, v159_3), (11, (.slice none 0 0))]) ds2 s12 (fun τ ds s => (Q .ret) τ [] ds s) [(7, fun τ13 ds13 s13 =>
 Q .normal τ13 [] ds13 s13)])
 (I.wop (.fieldAddr 43 (.const (τ2 7)) 5) 0 s5 fun v170_14 s14 =>
 I.wop (.load 38 (.const v170_14)) 38 s14 fun v171_15 s15 =>
 I.wop (.binOp .neq 38 (.const v171_15) (.const (.int .u64 0)) 38) 4 s15 fun v172_16 s16 =>
 wdec v172_16
 (I.wop (.fieldAddr 43 (.const (τ2 7)) 1) 0 s16 fun v173_17 s17 =>
 I.wop (.slice 41 (.const v173_17) (some (.const (.int .i64 2))) (some (.const (.int .i64 3))) none) 49 s17 fun v174_18 s18 =>
 I.wop (.call ⟨.builtin .len, ⟨[(.const v174_18)]⟩, #[49]⟩) 3 s18 fun v176_19 s19 =>
 I.loop 197 rnd c37_1111101001100111111100 (U τ2 [(177, (.int .i64 0)), (176, v176_19), (175, v174_18), (11, v174_18), (174, v174_18), (173, v173_17), (169, (.bool true)), (169, v172_16), (172, v172_16), (171, v171_15), (170, v170_14), (158, (.bool false)), (158, v161_5), (161, v161_5), (160, v160_4), (159, v159_3), (11, (.slice none 0 0))]) ds2 s19 (fun τ ds s => (Q .ret) τ [] ds s) [(7, fun τ20 ds20 s20 =>
 Q .normal τ20 [] ds20 s20)])
 (I.wop (.call ⟨.builtin .len, ⟨[(.const (.slice none 0 0))]⟩, #[49]⟩) 3 s16 fun v176_21 s21 =>
 I.loop 197 rnd c37_1111101001100111111100 (U τ2 [(177, (.int .i64 0)), (176, v176_21), (175, (.slice none 0 0)), (169, (.bool false)), (169, v172_16), (172, v172_16), (171, v171_15), (170, v170_14), (158, (.bool false)), (158, v161_5), (161, v161_5), (160, v160_4), (159, v159_3), (11, (.slice none 0 0))]) ds2 s21 (fun τ ds s => (Q .ret) τ [] ds s) [(7, fun τ22 ds22 s22 =>
 Q .normal τ22 [] ds22 s22)]))), (5, fun τ23 ds23 s23 =>
 Q (.exit 5) τ23 [] ds23 s23)]
theorem n37_111110100110011 (I : Prims) (rnd : Option Nat) (τ : Tau) (ds : List Deferred) (s : St) (Q : Ex → XK) : xp I rnd 197 k37_111110100 c37_111110100110011 [1, 1, 0, 0, 1, 1] τ [] ds s Q = v37_111110100110011 I rnd τ ds s Q := by kernel_rfl
def v37_111110100111 (I : Prims) (rnd : Option Nat) (τ : Tau) (ds : List Deferred) (s : St) (Q : Ex → XK) : Prop :=
 I.wop (.binOp .add 3 (.const (τ 76)) (.const (.int .i64 1)) 3) 3 s fun v192_0 s0 =>
 Q .normal τ [(76, v192_0), (192, v192_0)] ds s0
theorem n37_111110100111 (I : Prims) (rnd : Option Nat) (τ : Tau) (ds : List Deferred) (s : St) (Q : Ex → XK) : xp I rnd 197 k37_111110100 c37_111110100111 [1, 1, 1] τ [] ds s Q = v37_111110100111 I rnd τ ds s Q := by kernel_rfl
def v37_11111010011001110100 (I : Prims) (rnd : Option Nat) (τ : Tau) (ds : List Deferred) (s : St) (Q : Ex → WK) : Prop :=
 I.wop (.binOp .lss 3 (.const (τ 124)) (.const (.int .i64 4)) 3) 0 s fun v125_0 s0 =>
 wdec v125_0
 (I.wop (.index 70 (.const (τ 123)) (.const (τ 124))) 4 s0 fun v127_1 s1 =>
 I.wop (.unOp .not 4 (.const v127_1)) 4 s1 fun v129_2 s2 =>
 wdec v129_2
 (I.wop (.binOp .add 3 (.const (τ 124)) (.const (.int .i64 1)) 3) 3 s2 fun v157_3 s3 =>
 Q .normal (U τ [(124, v157_3), (157, v157_3), (129, (.bool true)), (129, v129_2), (128, v127_1), (10, v127_1), (9, (τ 124)), (127, v127_1), (126, (τ 124)), (125, (.bool true)), (125, v125_0)]) ds s3)
 (I.wop (.fieldAddr 43 (.const (τ 7)) 1) 0 s2 fun v132_4 s4 =>
 I.wop (.indexAddr 41 (.const v132_4) (.const (τ 124))) 0 s4 fun v133_5 s5 =>
 I.wop (.load 3 (.const v133_5)) 3 s5 fun v134_6 s6 =>
 I.wop (.indexAddr 49 (.const (τ 4)) (.const v134_6)) 0 s6 fun v135_7 s7 =>
 I.wop (.load 3 (.const v135_7)) 3 s7 fun v136_8 s8 =>
 I.wop (.binOp .lss 3 (.const v136_8) (.const (.int .i64 0)) 3) 4 s8 fun v137_9 s9 =>
 wdec v137_9
 (I.wop (.fieldAddr 43 (.const (τ 7)) 0) 0 s9 fun v139_10 s10 =>
 I.wop (.load 40 (.const v139_10)) 40 s10 fun v140_11 s11 =>
 I.wop (.binOp .neq 40 (.const v140_11) (.const (.int .u8 1)) 40) 4 s11 fun v141_12 s12 =>
 wdec v141_12
 (Q .ret (U τ [(3, (.bool false)), (2, (.slice none 0 0)), (146, (.bool true)), (146, (.bool true)), (138, (.bool true)), (145, (.bool true)), (142, (.bool true)), (138, (.bool true)), (144, undef), (142, (.bool true)), (143, undef), (142, (.bool true)), (142, v141_12), (138, (.bool true)), (141, v141_12), (138, (.bool true)), (140, v140_11), (138, (.bool true)), (139, v139_10), (138, (.bool true)), (138, v137_9), (137, v137_9), (136, v136_8), (135, v135_7), (134, v134_6), (133, v133_5), (132, v132_4), (131, (τ 124)), (130, (τ 4)), (129, (.bool false)), (129, v129_2), (128, v127_1), (10, v127_1), (9, (τ 124)), (127, v127_1), (126, (τ 124)), (125, (.bool true)), (125, v125_0)]) ds s12)
 (I.wop (.binOp .neq 3 (.const (τ 124)) (.const (.int .i64 2)) 3) 4 s12 fun v144_13 s13 =>
 wdec v144_13
 (Q .ret (U τ [(3, (.bool false)), (2, (.slice none 0 0)), (146, (.bool true)), (146, v144_13), (138, (.bool true)), (145, v144_13), (142, (.bool false)), (138, (.bool true)), (144, v144_13), (142, (.bool false)), (143, (τ 124)), (142, (.bool false)), (142, v141_12), (138, (.bool true)), (141, v141_12), (138, (.bool true)), (140, v140_11), (138, (.bool true)), (139, v139_10), (138, (.bool true)), (138, v137_9), (137, v137_9), (136, v136_8), (135, v135_7), (134, v134_6), (133, v133_5), (132, v132_4), (131, (τ 124)), (130, (τ 4)), (129, (.bool false)), (129, v129_2), (128, v127_1), (10, v127_1), (9, (τ 124)), (127, v127_1), (126, (τ 124)), (125, (.bool true)), (125, v125_0)]) ds s13)
 (I.hold (xp I rnd 197 k37_11111010011001110100 c37_111110100110011101001100111 [1, 1, 1, 0, 0, 1, 1] (U τ [(146, (.bool false)), (146, v144_13), (138, (.bool true)), (145, v144_13), (142, (.bool false)), (138, (.bool true)), (144, v144_13), (142, (.bool false)), (143, (τ 124)), (142, (.bool false)), (142, v141_12), (138, (.bool true)), (141, v141_12), (138, (.bool true)), (140, v140_11), (138, (.bool true)), (139, v139_10), (138, (.bool true)), (138, v137_9), (137, v137_9), (136, v136_8), (135, v135_7), (134, v134_6), (133, v133_5), (132, v132_4), (131, (τ 124)), (130, (τ 4)), (129, (.bool false)), (129, v129_2), (128, v127_1), (10, v127_1), (9, (τ 124)), (127, v127_1), (126, (τ 124)), (125, (.bool true)), (125, v125_0)]) [] ds s13 (blkX 5 (sX I rnd 197 k37_11111010011001110100 c37_11111010011001110100111 [1, 1, 1] (lift Q)))))))
 (I.hold (xp I rnd 197 k37_11111010011001110100 c37_111110100110011101001100111 [1, 1, 1, 0, 0, 1, 1] (U τ [(146, (.bool false)), (146, (.bool false)), (138, (.bool false)), (145, undef), (138, (.bool false)), (144, undef), (143, undef), (142, undef), (138, (.bool false)), (141, undef), (138, (.bool false)), (140, undef), (138, (.bool false)), (139, undef), (138, (.bool false)), (138, v137_9), (137, v137_9), (136, v136_8), (135, v135_7), (134, v134_6), (133, v133_5), (132, v132_4), (131, (τ 124)), (130, (τ 4)), (129, (.bool false)), (129, v129_2), (128, v127_1), (10, v127_1), (9, (τ 124)), (127, v127_1), (126, (τ 124)), (125, (.bool true)), (125, v125_0)]) [] ds s9 (blkX 5 (sX I rnd 197 k37_11111010011001110100 c37_11111010011001110100111 [1, 1, 1] (lift Q)))))))
 (Q (.exit 4) (U τ [(125, (.bool false)), (125, v125_0)]) ds s0)
theorem x37_11111010011001110100 (I : Prims) (rnd : Option Nat) (τ : Tau) (ds : List Deferred) (s : St) (Q : Ex → WK) : xp I rnd 197 k37_11111010011001110100 c37_11111010011001110100 [] τ [] ds s (lift Q) = v37_11111010011001110100 I rnd τ ds s Q := by kernel_rfl
theorem n37_11111010011001110100 [Memo] (ro : Nat) (rnd : Option Nat) (τ : Tau) (ds : List Deferred) (s : St) (Q : Ex → WK) : wp P ro 197 rnd c37_11111010011001110100 τ ds s Q = v37_11111010011001110100 (prims P ro) rnd τ ds s Q := xp_wp rnd 197 P ro (x37_11111010011001110100 _ rnd τ ds s Q)
def v37_1111101001100111111100 (I : Prims) (rnd : Option Nat) (τ : Tau) (ds : List Deferred) (s : St) (Q : Ex → WK) : Prop :=
 I.wop (.binOp .lss 3 (.const (τ 177)) (.const (τ 176)) 3) 0 s fun v178_0 s0 =>
 wdec v178_0
 (I.wop (.indexAddr 49 (.const (τ 175)) (.const (τ 177))) 0 s0 fun v179_1 s1 =>
 I.wop (.load 3 (.const v179_1)) 3 s1 fun v180_2 s2 =>
 I.wop (.indexAddr 49 (.const (τ 4)) (.const v180_2)) 0 s2 fun v183_3 s3 =>
 I.wop (.load 3 (.const v183_3)) 3 s3 fun v184_4 s4 =>
 I.wop (.binOp .lss 3 (.const v184_4) (.const (.int .i64 0)) 3) 4 s4 fun v185_5 s5 =>
 wdec v185_5
 (I.wop (.binOp .add 3 (.const (τ 8)) (.const (.int .i64 1)) 3) 3 s5 fun v189_6 s6 =>
 I.wop (.indexAddr 49 (.const (τ 4)) (.const v180_2)) 0 s6 fun v190_7 s7 =>
 I.wop (.store 3 (.const v190_7) (.const v189_6)) 0 s7 fun _ s8 =>
 I.wop (.binOp .add 3 (.const (τ 177)) (.const (.int .i64 1)) 3) 3 s8 fun v191_9 s9 =>
 Q .normal (U τ [(177, v191_9), (191, v191_9), (190, v190_7), (189, v189_6), (188, (τ 8)), (187, v180_2), (186, (τ 4)), (185, (.bool true)), (185, v185_5), (184, v184_4), (183, v183_3), (182, v180_2), (181, (τ 4)), (13, v180_2), (180, v180_2), (179, v179_1), (178, (.bool true)), (178, v178_0)]) ds s9)
 (I.wop (.binOp .add 3 (.const (τ 177)) (.const (.int .i64 1)) 3) 3 s5 fun v191_10 s10 =>
 Q .normal (U τ [(177, v191_10), (191, v191_10), (185, (.bool false)), (185, v185_5), (184, v184_4), (183, v183_3), (182, v180_2), (181, (τ 4)), (13, v180_2), (180, v180_2), (179, v179_1), (178, (.bool true)), (178, v178_0)]) ds s10))
 (Q (.exit 7) (U τ [(178, (.bool false)), (178, v178_0)]) ds s0)
theorem x37_1111101001100111111100 (I : Prims) (rnd : Option Nat) (τ : Tau) (ds : List Deferred) (s : St) (Q : Ex → WK) : xp I rnd 197 k37_1111101001100111111100 c37_1111101001100111111100 [] τ [] ds s (lift Q) = v37_1111101001100111111100 I rnd τ ds s Q := by kernel_rfl
theorem n37_1111101001100111111100 [Memo] (ro : Nat) (rnd : Option Nat) (τ : Tau) (ds : List Deferred) (s : St) (Q : Ex → WK) : wp P ro 197 rnd c37_1111101001100111111100 τ ds s Q = v37_1111101001100111111100 (prims P ro) rnd τ ds s Q := xp_wp rnd 197 P ro (x37_1111101001100111111100 _ rnd τ ds s Q)
def v37_111110100110011101001100111 (I : Prims) (rnd : Option Nat) (τ : Tau) (ds : List Deferred) (s : St) (Q : Ex → XK) : Prop :=
 I.wop (.fieldAddr 43 (.const (τ 7)) 1) 0 s fun v150_0 s0 =>
 I.wop (.indexAddr 41 (.const v150_0) (.const (τ 9))) 0 s0 fun v151_1 s1 =>
 I.wop (.load 3 (.const v151_1)) 3 s1 fun v152_2 s2 =>
 I.wop (.indexAddr 49 (.const (τ 4)) (.const v152_2)) 0 s2 fun v153_3 s3 =>
 I.wop (.load 3 (.const v153_3)) 3 s3 fun v154_4 s4 =>
 I.wop (.buildSlice 49 2 ⟨[(0, (.const (τ 8))), (1, (.const v154_4))]⟩) 49 s4 fun v155_5 s5 =>
 I.call 38 [v155_5] s5 fun v156_6 s6 =>
 Q .normal τ [(8, v156_6), (156, v156_6), (155, v155_5), (154, v154_4), (153, v153_3), (152, v152_2), (151, v151_1), (150, v150_0), (149, (τ 9)), (148, (τ 4)), (147, (τ 8))] ds s6
theorem n37_111110100110011101001100111 (I : Prims) (rnd : Option Nat) (τ : Tau) (ds : List Deferred) (s : St) (Q : Ex → XK) : xp I rnd 197 k37_11111010011001110100 c37_111110100110011101001100111 [1, 1, 1, 0, 0, 1, 1] τ [] ds s Q = v37_111110100110011101001100111 I rnd τ ds s Q := by kernel_rfl
def v37_11111010011001110100111 (I : Prims) (rnd : Option Nat) (τ : Tau) (ds : List Deferred) (s : St) (Q : Ex → XK) : Prop :=
 I.wop (.binOp .add 3 (.const (τ 124)) (.const (.int .i64 1)) 3) 3 s fun v157_0 s0 =>
 Q .normal τ [(124, v157_0), (157, v157_0)] ds s0
theorem n37_11111010011001110100111 (I : Prims) (rnd : Option Nat) (τ : Tau) (ds : List Deferred) (s : St) (Q : Ex → XK) : xp I rnd 197 k37_11111010011001110100 c37_11111010011001110100111 [1, 1, 1] τ [] ds s Q = v37_11111010011001110100111 I rnd τ ds s Q := by kernel_rfl
def v37 (I : Prims) (a0 : Value) (si : St) (K : Value → St → Prop) : Prop :=
 I.wop (.box 24 (.const a0)) 0 (ent si) fun v1_0 s0 =>
 I.wop (.fieldAddr 24 (.const v1_0) 0) 0 s0 fun v14_1 s1 =>
 I.wop (.load 3 (.const v14_1)) 3 s1 fun v15_2 s2 =>
 I.call 58 [v15_2] s2 fun v16_3 s3 =>
 I.wop (.unOp .not 4 (.const v16_3)) 4 s3 fun v17_4 s4 =>
 wdec v17_4
 (I.fin si K (.tuple (.mk [(.slice none 0 0), (.bool false)])) s4)
 (I.wop (.fieldAddr 24 (.const v1_0) 2) 0 s4 fun v19_5 s5 =>
 I.wop (.load 3 (.const v19_5)) 3 s5 fun v20_6 s6 =>
 I.wop (.binOp .lss 3 (.const v20_6) (.const (.int .i64 0)) 3) 4 s6 fun v21_7 s7 =>
 wdec v21_7
 (I.fin si K (.tuple (.mk [(.slice none 0 0), (.bool false)])) s7)
 (I.wop (.fieldAddr 24 (.const v1_0) 2) 0 s7 fun v24_8 s8 =>
 I.wop (.load 3 (.const v24_8)) 3 s8 fun v25_9 s9 =>
 I.wop (.binOp .gtr 3 (.const v25_9) (.const (.int .i64 16)) 3) 4 s9 fun v26_10 s10 =>
 wdec v26_10
 (I.fin si K (.tuple (.mk [(.slice none 0 0), (.bool false)])) s10)
 (I.wop (.fieldAddr 24 (.const v1_0) 3) 0 s10 fun v29_11 s11 =>
 I.wop (.load 3 (.const v29_11)) 3 s11 fun v30_12 s12 =>
 I.wop (.binOp .lss 3 (.const v30_12) (.const (.int .i64 0)) 3) 4 s12 fun v31_13 s13 =>
 wdec v31_13
 (I.fin si K (.tuple (.mk [(.slice none 0 0), (.bool false)])) s13)
 (I.wop (.fieldAddr 24 (.const v1_0) 3) 0 s13 fun v34_14 s14 =>
 I.wop (.load 3 (.const v34_14)) 3 s14 fun v35_15 s15 =>
 I.wop (.binOp .gtr 3 (.const v35_15) (.const (.int .i64 20000)) 3) 4 s15 fun v36_16 s16 =>
 wdec v36_16
 (I.fin si K (.tuple (.mk [(.slice none 0 0), (.bool false)])) s16)
 (I.wop (.fieldAddr 24 (.const v1_0) 1) 0 s16 fun v38_17 s17 =>
 I.wop (.load 3 (.const v38_17)) 3 s17 fun v39_18 s18 =>
 I.wop (.fieldAddr 24 (.const v1_0) 2) 0 s18 fun v40_19 s19 =>
 I.wop (.load 3 (.const v40_19)) 3 s19 fun v41_20 s20 =>
 I.wop (.fieldAddr 24 (.const v1_0) 3) 0 s20 fun v42_21 s21 =>
 I.wop (.load 3 (.const v42_21)) 3 s21 fun v43_22 s22 =>
 I.wop (.binOp .add 3 (.const v41_20) (.const v43_22) 3) 3 s22 fun v44_23 s23 =>
 I.wop (.binOp .lss 3 (.const v39_18) (.const v44_23) 3) 4 s23 fun v45_24 s24 =>
 wdec v45_24
 (I.fin si K (.tuple (.mk [(.slice none 0 0), (.bool false)])) s24)
 (I.wop (.fieldAddr 24 (.const v1_0) 1) 0 s24 fun v47_25 s25 =>
 I.wop (.load 3 (.const v47_25)) 3 s25 fun v48_26 s26 =>
 I.wop (.binOp .gtr 3 (.const v48_26) (.const (.int .i64 40000)) 3) 4 s26 fun v49_27 s27 =>
 wdec v49_27
 (I.fin si K (.tuple (.mk [(.slice none 0 0), (.bool false)])) s27)
 (I.wop (.fieldAddr 24 (.const v1_0) 4) 0 s27 fun v52_28 s28 =>
 I.wop (.load 22 (.const v52_28)) 22 s28 fun v53_29 s29 =>
 I.wop (.call ⟨.builtin .len, ⟨[(.const v53_29)]⟩, #[22]⟩) 3 s29 fun v54_30 s30 =>
 I.wop (.binOp .gtr 3 (.const v54_30) (.const (.int .i64 8000)) 3) 4 s30 fun v55_31 s31 =>
 wdec v55_31
 (I.fin si K (.tuple (.mk [(.slice none 0 0), (.bool false)])) s31)
 (I.wop (.buildSlice 49 1 ⟨[(0, (.const (.int .i64 (-1))))]⟩) 49 s31 fun v57_32 s32 =>
 I.wop (.fieldAddr 24 (.const v1_0) 1) 0 s32 fun v58_33 s33 =>
 I.wop (.load 3 (.const v58_33)) 3 s33 fun v59_34 s34 =>
 I.call 59 [v57_32, v59_34] s34 fun v60_35 s35 =>
 I.wop (.fieldAddr 24 (.const v1_0) 2) 0 s35 fun v61_36 s36 =>
 I.wop (.load 3 (.const v61_36)) 3 s36 fun v62_37 s37 =>
 I.wop (.fieldAddr 24 (.const v1_0) 3) 0 s37 fun v63_38 s38 =>
 I.wop (.load 3 (.const v63_38)) 3 s38 fun v64_39 s39 =>
 I.wop (.binOp .add 3 (.const v62_37) (.const v64_39) 3) 3 s39 fun v65_40 s40 =>
 I.loop 197 none c37_11110100 (U undefT [(66, (.int .i64 0)), (65, v65_40), (64, v64_39), (63, v63_38), (62, v62_37), (61, v61_36), (4, v60_35), (60, v60_35), (59, v59_34), (58, v58_33), (57, v57_32), (56, (.bool false)), (56, v55_31), (51, (.bool false)), (55, v55_31), (51, (.bool false)), (54, v54_30), (51, (.bool false)), (53, v53_29), (51, (.bool false)), (52, v52_28), (51, (.bool false)), (51, v49_27), (50, v49_27), (46, (.bool false)), (49, v49_27), (46, (.bool false)), (48, v48_26), (46, (.bool false)), (47, v47_25), (46, (.bool false)), (46, v45_24), (45, v45_24), (44, v44_23), (43, v43_22), (42, v42_21), (41, v41_20), (40, v40_19), (39, v39_18), (38, v38_17), (37, (.bool false)), (37, v36_16), (33, (.bool false)), (36, v36_16), (33, (.bool false)), (35, v35_15), (33, (.bool false)), (34, v34_14), (33, (.bool false)), (33, v31_13), (32, v31_13), (28, (.bool false)), (31, v31_13), (28, (.bool false)), (30, v30_12), (28, (.bool false)), (29, v29_11), (28, (.bool false)), (28, v26_10), (27, v26_10), (23, (.bool false)), (26, v26_10), (23, (.bool false)), (25, v25_9), (23, (.bool false)), (24, v24_8), (23, (.bool false)), (23, v21_7), (22, v21_7), (18, (.bool false)), (21, v21_7), (18, (.bool false)), (20, v20_6), (18, (.bool false)), (19, v19_5), (18, (.bool false)), (18, v17_4), (17, v17_4), (16, v16_3), (15, v15_2), (14, v14_1), (3, (.bool false)), (2, (.slice none 0 0)), (1, v1_0), (0, a0)]) [] s40 (fun τ ds s => ((xleave I si Tryd.f37.results.toList K) .ret) τ [] ds s) [(0, fun τ41 ds41 s41 =>
 I.wop (.fieldAddr 24 (.const (τ41 1)) 4) 0 s41 fun v73_42 s42 =>
 I.wop (.load 22 (.const v73_42)) 22 s42 fun v74_43 s43 =>
 I.wop (.call ⟨.builtin .len, ⟨[(.const v74_43)]⟩, #[22]⟩) 3 s43 fun v75_44 s44 =>
 I.loop 197 none c37_111110100 (U τ41 [(76, (.int .i64 0)), (75, v75_44), (74, v74_43), (73, v73_42)]) ds41 s44 (fun τ ds s => ((xleave I si Tryd.f37.results.toList K) .ret) τ [] ds s) [(2, fun τ45 ds45 s45 =>
 I.call 64 [(τ45 4), (.int .i64 (-1))] s45 fun v195_46 s46 =>
 I.wop (.unOp .not 4 (.const v195_46)) 4 s46 fun v196_47 s47 =>
 xdefers I ds45 s47 fun s48 =>
 I.fin si K (.tuple (.mk [(τ45 4), v196_47])) s48), (4, fun _ _ _ =>
 False), (5, fun _ _ _ =>
 False), (7, fun _ _ _ =>
 False)])]))))))))
theorem x37 (I : Prims) (a0 : Value) (si : St) (K : Value → St → Prop) : xbody I 197 k37 Tryd.f37 c37 [a0] si K = v37 I a0 si K := by kernel_rfl
theorem n37 [Memo] (ro : Nat) (a0 : Value) (si : St) (K : Value → St → Prop) : wbody P ro 197 Tryd.f37 c37 [a0] si K = v37 (prims P ro) a0 si K := xbody_eq 197 P ro (x37 _ a0 si K)
theorem r37 (I : Prims) (si : St) (K : Value → St → Prop) (τ : Tau) (ds : List Deferred) (s : St) : xleave I si Tryd.f37.results.toList K .ret τ [] ds s =
 (xdefers I ds s fun s0 =>
 I.fin si K (.tuple (.mk [(τ 2), (τ 3)])) s0) := by kernel_rfl
/- attestor/gates.deepest -/
noncomputable def c38 : Code := bodyOf Tryd.f38
noncomputable def c38_110100 : Code := subCode [1, 1, 0, 1, 0, 0] c38
def k38 : List (List Nat) := []
def k38_110100 : List (List Nat) := []
theorem l38_110100 : ltCode 17 c38_110100 = true := by kernel_rfl
theorem m38_110100 : notMap c38_110100 = true := by kernel_rfl
theorem b38 : BodyOk P 17 1 38 Tryd.f38 c38 := ⟨Tryd.func38, by kernel_rfl, by kernel_rfl, by kernel_rfl, by kernel_rfl, by kernel_rfl⟩
def v38_110100 (I : Prims) (rnd : Option Nat) (τ : Tau) (ds : List Deferred) (s : St) (Q : Ex → WK) : Prop :=
 I.wop (.binOp .lss 3 (.const (τ 8)) (.const (τ 7)) 3) 0 s fun v9_0 s0 =>
 wdec v9_0
 (I.wop (.indexAddr 49 (.const (τ 6)) (.const (τ 8))) 0 s0 fun v10_1 s1 =>
 I.wop (.load 3 (.const v10_1)) 3 s1 fun v11_2 s2 =>
 I.wop (.call ⟨.builtin .max, ⟨[(.const (τ 3)), (.const v11_2)]⟩, #[3, 3]⟩) 3 s2 fun v14_3 s3 =>
 I.wop (.binOp .add 3 (.const (τ 8)) (.const (.int .i64 1)) 3) 3 s3 fun v15_4 s4 =>
 Q .normal (U τ [(8, v15_4), (15, v15_4), (3, v14_3), (14, v14_3), (13, v11_2), (12, (τ 3)), (5, v11_2), (11, v11_2), (10, v10_1), (9, (.bool true)), (9, v9_0)]) ds s4)
 (Q (.exit 0) (U τ [(9, (.bool false)), (9, v9_0)]) ds s0)
theorem x38_110100 (I : Prims) (rnd : Option Nat) (τ : Tau) (ds : List Deferred) (s : St) (Q : Ex → WK) : xp I rnd 17 k38_110100 c38_110100 [] τ [] ds s (lift Q) = v38_110100 I rnd τ ds s Q := by kernel_rfl
theorem n38_110100 [Memo] (ro : Nat) (rnd : Option Nat) (τ : Tau) (ds : List Deferred) (s : St) (Q : Ex → WK) : wp P ro 17 rnd c38_110100 τ ds s Q = v38_110100 (prims P ro) rnd τ ds s Q := xp_wp rnd 17 P ro (x38_110100 _ rnd τ ds s Q)
def v38 (I : Prims) (a0 : Value) (si : St) (K : Value → St → Prop) : Prop :=
 I.wop (.call ⟨.builtin .len, ⟨[(.const a0)]⟩, #[49]⟩) 3 (ent si) fun v7_0 s0 =>
 I.loop 17 none c38_110100 (U undefT [(8, (.int .i64 0)), (7, v7_0), (6, a0), (3, (.int .i64 0)), (2, (.int .i64 0)), (0, a0)]) [] s0 (fun τ ds s => ((xleave I si Tryd.f38.results.toList K) .ret) τ [] ds s) [(0, fun τ1 ds1 s1 =>
 xdefers I ds1 s1 fun s2 =>
 I.fin si K (τ1 3) s2)]
theorem x38 (I : Prims) (a0 : Value) (si : St) (K : Value → St → Prop) : xbody I 17 k38 Tryd.f38 c38 [a0] si K = v38 I a0 si K := by kernel_rfl
theorem n38 [Memo] (ro : Nat) (a0 : Value) (si : St) (K : Value → St → Prop) : wbody P ro 17 Tryd.f38 c38 [a0] si K = v38 (prims P ro) a0 si K := xbody_eq 17 P ro (x38 _ a0 si K)
/- attestor/attestorref01.Valid -/
noncomputable def c39 : Code := bodyOf Tryd.f39
def k39 : List (List Nat) := []
theorem b39 : BodyOk P 9 1 39 Tryd.f39 c39 := ⟨Tryd.func39, by kernel_rfl, by kernel_rfl, by kernel_rfl, by kernel_rfl, by kernel_rfl⟩
def v39 (I : Prims) (a0 : Value) (si : St) (K : Value → St → Prop) : Prop :=
 I.wop (.binOp .geq 3 (.const a0) (.const (.int .i64 0)) 3) 4 (ent si) fun v4_0 s0 =>
 wdec v4_0
 (I.wop (.binOp .leq 3 (.const a0) (.const (.int .i64 3)) 3) 4 s0 fun v7_1 s1 =>
 I.fin si K v7_1 s1)
 (I.fin si K (.bool false) s0)
theorem x39 (I : Prims) (a0 : Value) (si : St) (K : Value → St → Prop) : xbody I 9 k39 Tryd.f39 c39 [a0] si K = v39 I a0 si K := by kernel_rfl
theorem n39 [Memo] (ro : Nat) (a0 : Value) (si : St) (K : Value → St → Prop) : wbody P ro 9 Tryd.f39 c39 [a0] si K = v39 (prims P ro) a0 si K := xbody_eq 9 P ro (x39 _ a0 si K)
/- slices.Max[[]uint64,uint64] -/
noncomputable def c46 : Code := bodyOf Tryd.f46
noncomputable def c46_11 : Code := subCode [1, 1] c46
noncomputable def c46_1110100 : Code := subCode [1, 1, 1, 0, 1, 0, 0] c46
def k46 : List (List Nat) := [[1, 1]]
def k46_1110100 : List (List Nat) := []
theorem l46_1110100 : ltCode 25 c46_1110100 = true := by kernel_rfl
theorem m46_1110100 : notMap c46_1110100 = true := by kernel_rfl
theorem b46 : BodyOk P 25 1 46 Tryd.f46 c46 := ⟨Tryd.func46, by kernel_rfl, by kernel_rfl, by kernel_rfl, by kernel_rfl, by kernel_rfl⟩
def v46_11 (I : Prims) (τ : Tau) (ds : List Deferred) (s : St) (Q : Ex → XK) : Prop :=
 I.wop (.indexAddr 25 (.const (τ 0)) (.const (.int .i64 0))) 0 s fun v10_0 s0 =>
 I.wop (.load 38 (.const v10_0)) 38 s0 fun v11_1 s1 =>
 I.loop 25 none c46_1110100 (U τ [(4, (.int .i64 1)), (3, v11_1), (11, v11_1), (10, v10_0), (9, (τ 0))]) ds s1 (fun τ ds s => (Q .ret) τ [] ds s) [(0, fun τ2 ds2 s2 =>
 Q .ret τ2 [(2, (τ2 3)), (24, (τ2 3))] ds2 s2)]
theorem n46_11 (I : Prims) (τ : Tau) (ds : List Deferred) (s : St) (Q : Ex → XK) : xp I none 25 k46 c46_11 [1, 1] τ [] ds s Q = v46_11 I τ ds s Q := by kernel_rfl
def v46_1110100 (I : Prims) (rnd : Option Nat) (τ : Tau) (ds : List Deferred) (s : St) (Q : Ex → WK) : Prop :=
 I.wop (.call ⟨.builtin .len, ⟨[(.const (τ 0))]⟩, #[25]⟩) 3 s fun v14_0 s0 =>
 I.wop (.binOp .lss 3 (.const (τ 4)) (.const v14_0) 3) 4 s0 fun v15_1 s1 =>
 wdec v15_1
 (I.wop (.indexAddr 25 (.const (τ 0)) (.const (τ 4))) 0 s1 fun v21_2 s2 =>
 I.wop (.load 38 (.const v21_2)) 38 s2 fun v22_3 s3 =>
 I.wop (.call ⟨.builtin .max, ⟨[(.const (τ 3)), (.const v22_3)]⟩, #[38, 38]⟩) 38 s3 fun v23_4 s4 =>
 I.wop (.binOp .add 3 (.const (τ 4)) (.const (.int .i64 1)) 3) 3 s4 fun v17_5 s5 =>
 Q .normal (U τ [(4, v17_5), (17, v17_5), (16, (τ 4)), (3, v23_4), (23, v23_4), (22, v22_3), (21, v21_2), (20, (τ 4)), (19, (τ 0)), (18, (τ 3)), (15, (.bool true)), (15, v15_1), (14, v14_0), (13, (τ 0)), (12, (τ 4))]) ds s5)
 (Q (.exit 0) (U τ [(15, (.bool false)), (15, v15_1), (14, v14_0), (13, (τ 0)), (12, (τ 4))]) ds s1)
theorem x46_1110100 (I : Prims) (rnd : Option Nat) (τ : Tau) (ds : List Deferred) (s : St) (Q : Ex → WK) : xp I rnd 25 k46_1110100 c46_1110100 [] τ [] ds s (lift Q) = v46_1110100 I rnd τ ds s Q := by kernel_rfl
theorem n46_1110100 [Memo] (ro : Nat) (rnd : Option Nat) (τ : Tau) (ds : List Deferred) (s : St) (Q : Ex → WK) : wp P ro 25 rnd c46_1110100 τ ds s Q = v46_1110100 (prims P ro) rnd τ ds s Q := xp_wp rnd 25 P ro (x46_1110100 _ rnd τ ds s Q)
def v46 (I : Prims) (a0 : Value) (si : St) (K : Value → St → Prop) : Prop :=
 I.wop (.call ⟨.builtin .len, ⟨[(.const a0)]⟩, #[25]⟩) 3 (ent si) fun v6_0 s0 =>
 I.wop (.binOp .lss 3 (.const v6_0) (.const (.int .i64 1)) 3) 4 s0 fun v7_1 s1 =>
 wdec v7_1
 (I.wop (.makeInterface 9 (.const (.string (ByteArray.mk #[115, 108, 105, 99, 101, 115, 46, 77, 97, 120, 58, 32, 101, 109, 112, 116, 121, 32, 108, 105, 115, 116])))) 20 s1 fun v8_2 s2 =>
 I.wop (.panic (.tmp 8)) 0 s2 fun _ s3 =>
 I.hold (xp I none 25 k46 c46_11 [1, 1] (U undefT [(8, v8_2), (7, (.bool true)), (7, v7_1), (6, v6_0), (5, a0), (2, (.int .u64 0)), (0, a0)]) [] [] s3 (xleave I si Tryd.f46.results.toList K)))
 (I.hold (xp I none 25 k46 c46_11 [1, 1] (U undefT [(7, (.bool false)), (7, v7_1), (6, v6_0), (5, a0), (2, (.int .u64 0)), (0, a0)]) [] [] s1 (xleave I si Tryd.f46.results.toList K)))
theorem x46 (I : Prims) (a0 : Value) (si : St) (K : Value → St → Prop) : xbody I 25 k46 Tryd.f46 c46 [a0] si K = v46 I a0 si K := by kernel_rfl
theorem n46 [Memo] (ro : Nat) (a0 : Value) (si : St) (K : Value → St → Prop) : wbody P ro 25 Tryd.f46 c46 [a0] si K = v46 (prims P ro) a0 si K := xbody_eq 25 P ro (x46 _ a0 si K)
theorem r46 (I : Prims) (si : St) (K : Value → St → Prop) (τ : Tau) (ds : List Deferred) (s : St) : xleave I si Tryd.f46.results.toList K .ret τ [] ds s =
 (xdefers I ds s fun s0 =>
 I.fin si K (τ 2) s0) := by kernel_rfl
/- attestor/field.P -/
noncomputable def c47 : Code := bodyOf Tryd.f47
def k47 : List (List Nat) := []
theorem b47 : BodyOk P 6 1 47 Tryd.f47 c47 := ⟨Tryd.func47, by kernel_rfl, by kernel_rfl, by kernel_rfl, by kernel_rfl, by kernel_rfl⟩
def v47 (I : Prims) (a0 : Value) (si : St) (K : Value → St → Prop) : Prop :=
 I.call 66 [a0] (ent si) fun v4_0 s0 =>
 I.wop (.field 75 (.const v4_0) 0) 38 s0 fun v5_1 s1 =>
 I.fin si K v5_1 s1
theorem x47 (I : Prims) (a0 : Value) (si : St) (K : Value → St → Prop) : xbody I 6 k47 Tryd.f47 c47 [a0] si K = v47 I a0 si K := by kernel_rfl
theorem n47 [Memo] (ro : Nat) (a0 : Value) (si : St) (K : Value → St → Prop) : wbody P ro 6 Tryd.f47 c47 [a0] si K = v47 (prims P ro) a0 si K := xbody_eq 6 P ro (x47 _ a0 si K)
/- attestor/field.Add -/
noncomputable def c48 : Code := bodyOf Tryd.f48
def k48 : List (List Nat) := []
theorem b48 : BodyOk P 27 3 48 Tryd.f48 c48 := ⟨Tryd.func48, by kernel_rfl, by kernel_rfl, by kernel_rfl, by kernel_rfl, by kernel_rfl⟩
def v48 (I : Prims) (a0 a1 a2 : Value) (si : St) (K : Value → St → Prop) : Prop :=
 I.call 47 [a0] (ent si) fun v10_0 s0 =>
 I.wop (.binOp .eql 38 (.const v10_0) (.const (.int .u64 0)) 38) 4 s0 fun v12_1 s1 =>
 wdec v12_1
 (I.fin si K (.int .u64 0) s1)
 (I.wop (.binOp .rem 38 (.const a1) (.const v10_0) 38) 38 s1 fun v15_2 s2 =>
 I.wop (.binOp .rem 38 (.const a2) (.const v10_0) 38) 38 s2 fun v18_3 s3 =>
 I.wop (.binOp .add 38 (.const v15_2) (.const v18_3) 38) 38 s3 fun v19_4 s4 =>
 I.wop (.binOp .geq 38 (.const v19_4) (.const v10_0) 38) 4 s4 fun v22_5 s5 =>
 wdec v22_5
 (I.wop (.binOp .sub 38 (.const v19_4) (.const v10_0) 38) 38 s5 fun v25_6 s6 =>
 I.fin si K v25_6 s6)
 (I.fin si K v19_4 s5))
theorem x48 (I : Prims) (a0 a1 a2 : Value) (si : St) (K : Value → St → Prop) : xbody I 27 k48 Tryd.f48 c48 [a0, a1, a2] si K = v48 I a0 a1 a2 si K := by kernel_rfl
theorem n48 [Memo] (ro : Nat) (a0 a1 a2 : Value) (si : St) (K : Value → St → Prop) : wbody P ro 27 Tryd.f48 c48 [a0, a1, a2] si K = v48 (prims P ro) a0 a1 a2 si K := xbody_eq 27 P ro (x48 _ a0 a1 a2 si K)
/- attestor/field.Mul -/
noncomputable def c49 : Code := bodyOf Tryd.f49
def k49 : List (List Nat) := []
theorem b49 : BodyOk P 21 3 49 Tryd.f49 c49 := ⟨Tryd.func49, by kernel_rfl, by kernel_rfl, by kernel_rfl, by kernel_rfl, by kernel_rfl⟩
def v49 (I : Prims) (a0 a1 a2 : Value) (si : St) (K : Value → St → Prop) : Prop :=
 I.call 47 [a0] (ent si) fun v9_0 s0 =>
 I.wop (.binOp .eql 38 (.const v9_0) (.const (.int .u64 0)) 38) 4 s0 fun v11_1 s1 =>
 wdec v11_1
 (I.fin si K (.int .u64 0) s1)
 (I.wop (.binOp .rem 38 (.const a1) (.const v9_0) 38) 38 s1 fun v14_2 s2 =>
 I.wop (.binOp .rem 38 (.const a2) (.const v9_0) 38) 38 s2 fun v17_3 s3 =>
 I.wop (.binOp .mul 38 (.const v14_2) (.const v17_3) 38) 38 s3 fun v18_4 s4 =>
 I.wop (.binOp .rem 38 (.const v18_4) (.const v9_0) 38) 38 s4 fun v20_5 s5 =>
 I.fin si K v20_5 s5)
theorem x49 (I : Prims) (a0 a1 a2 : Value) (si : St) (K : Value → St → Prop) : xbody I 21 k49 Tryd.f49 c49 [a0, a1, a2] si K = v49 I a0 a1 a2 si K := by kernel_rfl
theorem n49 [Memo] (ro : Nat) (a0 a1 a2 : Value) (si : St) (K : Value → St → Prop) : wbody P ro 21 Tryd.f49 c49 [a0, a1, a2] si K = v49 (prims P ro) a0 a1 a2 si K := xbody_eq 21 P ro (x49 _ a0 a1 a2 si K)
/- attestor/gates.wire -/
noncomputable def c50 : Code := bodyOf Tryd.f50
def k50 : List (List Nat) := []
theorem b50 : BodyOk P 19 3 50 Tryd.f50 c50 := ⟨Tryd.func50, by kernel_rfl, by kernel_rfl, by kernel_rfl, by kernel_rfl, by kernel_rfl⟩
def v50 (I : Prims) (a0 a1 a2 : Value) (si : St) (K : Value → St → Prop) : Prop :=
 I.wop (.box 43 (.const a0)) 0 (ent si) fun v3_0 s0 =>
 I.wop (.load 43 (.const v3_0)) 43 s0 fun v7_1 s1 =>
 I.call 63 [v7_1] s1 fun v8_2 s2 =>
 I.wop (.index 70 (.const v8_2) (.const a2)) 4 s2 fun v10_3 s3 =>
 I.wop (.unOp .not 4 (.const v10_3)) 4 s3 fun v11_4 s4 =>
 wdec v11_4
 (I.fin si K (.int .u64 0) s4)
 (I.wop (.fieldAddr 43 (.const v3_0) 1) 0 s4 fun v14_5 s5 =>
 I.wop (.indexAddr 41 (.const v14_5) (.const a2)) 0 s5 fun v15_6 s6 =>
 I.wop (.load 3 (.const v15_6)) 3 s6 fun v16_7 s7 =>
 I.wop (.indexAddr 25 (.const a1) (.const v16_7)) 0 s7 fun v17_8 s8 =>
 I.wop (.load 38 (.const v17_8)) 38 s8 fun v18_9 s9 =>
 I.fin si K v18_9 s9)
theorem x50 (I : Prims) (a0 a1 a2 : Value) (si : St) (K : Value → St → Prop) : xbody I 19 k50 Tryd.f50 c50 [a0, a1, a2] si K = v50 I a0 a1 a2 si K := by kernel_rfl
theorem n50 [Memo] (ro : Nat) (a0 a1 a2 : Value) (si : St) (K : Value → St → Prop) : wbody P ro 19 Tryd.f50 c50 [a0, a1, a2] si K = v50 (prims P ro) a0 a1 a2 si K := xbody_eq 19 P ro (x50 _ a0 a1 a2 si K)
/- attestor/attestorref01.P -/
noncomputable def c51 : Code := bodyOf Tryd.f51
def k51 : List (List Nat) := []
theorem b51 : BodyOk P 12 1 51 Tryd.f51 c51 := ⟨Tryd.func51, by kernel_rfl, by kernel_rfl, by kernel_rfl, by kernel_rfl, by kernel_rfl⟩
def v51 (I : Prims) (a0 : Value) (si : St) (K : Value → St → Prop) : Prop :=
 I.wop (.binOp .eql 3 (.const a0) (.const (.int .i64 0)) 3) 4 (ent si) fun v5_0 s0 =>
 wdec v5_0
 (I.fin si K (.int .u64 97) s0)
 (I.wop (.binOp .eql 3 (.const a0) (.const (.int .i64 1)) 3) 4 s0 fun v7_1 s1 =>
 wdec v7_1
 (I.fin si K (.int .u64 257) s1)
 (I.wop (.binOp .eql 3 (.const a0) (.const (.int .i64 2)) 3) 4 s1 fun v9_2 s2 =>
 wdec v9_2
 (I.fin si K (.int .u64 12289) s2)
 (I.wop (.binOp .eql 3 (.const a0) (.const (.int .i64 3)) 3) 4 s2 fun v11_3 s3 =>
 wdec v11_3
 (I.fin si K (.int .u64 998244353) s3)
 (I.fin si K (.int .u64 0) s3))))
theorem x51 (I : Prims) (a0 : Value) (si : St) (K : Value → St → Prop) : xbody I 12 k51 Tryd.f51 c51 [a0] si K = v51 I a0 si K := by kernel_rfl
theorem n51 [Memo] (ro : Nat) (a0 : Value) (si : St) (K : Value → St → Prop) : wbody P ro 12 Tryd.f51 c51 [a0] si K = v51 (prims P ro) a0 si K := xbody_eq 12 P ro (x51 _ a0 si K)
/- attestor/attestorref23.formed -/
noncomputable def c52 : Code := bodyOf Tryd.f52
noncomputable def c52_11 : Code := subCode [1, 1] c52
noncomputable def c52_1110100 : Code := subCode [1, 1, 1, 0, 1, 0, 0] c52
noncomputable def c52_11110100 : Code := subCode [1, 1, 1, 1, 0, 1, 0, 0] c52
noncomputable def c52_1111110100 : Code := subCode [1, 1, 1, 1, 1, 1, 0, 1, 0, 0] c52
def k52 : List (List Nat) := [[1, 1]]
def k52_1110100 : List (List Nat) := []
theorem l52_1110100 : ltCode 104 c52_1110100 = true := by kernel_rfl
theorem m52_1110100 : notMap c52_1110100 = true := by kernel_rfl
def k52_11110100 : List (List Nat) := []
theorem l52_11110100 : ltCode 104 c52_11110100 = true := by kernel_rfl
theorem m52_11110100 : notMap c52_11110100 = true := by kernel_rfl
def k52_1111110100 : List (List Nat) := []
theorem l52_1111110100 : ltCode 104 c52_1111110100 = true := by kernel_rfl
theorem m52_1111110100 : notMap c52_1111110100 = true := by kernel_rfl
theorem b52 : BodyOk P 104 2 52 Tryd.f52 c52 := ⟨Tryd.func52, by kernel_rfl, by kernel_rfl, by kernel_rfl, by kernel_rfl, by kernel_rfl⟩
def v52_11 (I : Prims) (τ : Tau) (ds : List Deferred) (s : St) (Q : Ex → XK) : Prop :=
 I.wop (.fieldAddr 43 (.const (τ 3)) 2) 0 s fun v33_0 s0 =>
 I.wop (.load 38 (.const v33_0)) 38 s0 fun v34_1 s1 =>
 I.wop (.fieldAddr 43 (.const (τ 3)) 3) 0 s1 fun v35_2 s2 =>
 I.wop (.load 38 (.const v35_2)) 38 s2 fun v36_3 s3 =>
 I.wop (.fieldAddr 43 (.const (τ 3)) 4) 0 s3 fun v37_4 s4 =>
 I.wop (.load 38 (.const v37_4)) 38 s4 fun v38_5 s5 =>
 I.wop (.fieldAddr 43 (.const (τ 3)) 5) 0 s5 fun v39_6 s6 =>
 I.wop (.load 38 (.const v39_6)) 38 s6 fun v40_7 s7 =>
 I.wop (.fieldAddr 43 (.const (τ 3)) 6) 0 s7 fun v41_8 s8 =>
 I.wop (.load 38 (.const v41_8)) 38 s8 fun v42_9 s9 =>
 I.wop (.buildSlice 25 5 ⟨[(0, (.const v34_1)), (1, (.const v36_3)), (2, (.const v38_5)), (3, (.const v40_7)), (4, (.const v42_9))]⟩) 25 s9 fun v43_10 s10 =>
 I.loop 104 none c52_1110100 (U τ [(6, (.int .i64 0)), (5, v43_10), (43, v43_10), (42, v42_9), (41, v41_8), (40, v40_7), (39, v39_6), (38, v38_5), (37, v37_4), (36, v36_3), (35, v35_2), (34, v34_1), (33, v33_0)]) ds s10 (fun τ ds s => (Q .ret) τ [] ds s) [(0, fun τ11 ds11 s11 =>
 I.loop 104 none c52_11110100 (U τ11 [(7, (.int .i64 0))]) ds11 s11 (fun τ ds s => (Q .ret) τ [] ds s) [(2, fun τ12 ds12 s12 =>
 I.wop (.load 43 (.const (τ12 3))) 43 s12 fun v88_13 s13 =>
 I.call 53 [v88_13] s13 fun v89_14 s14 =>
 I.loop 104 none c52_1111110100 (U τ12 [(9, (.int .i64 0)), (8, v89_14), (89, v89_14), (88, v88_13)]) ds12 s14 (fun τ ds s => (Q .ret) τ [] ds s) [(4, fun τ15 ds15 s15 =>
 Q .ret τ15 [(4, (.bool true))] ds15 s15)])])]
theorem n52_11 (I : Prims) (τ : Tau) (ds : List Deferred) (s : St) (Q : Ex → XK) : xp I none 104 k52 c52_11 [1, 1] τ [] ds s Q = v52_11 I τ ds s Q := by kernel_rfl
def v52_1110100 (I : Prims) (rnd : Option Nat) (τ : Tau) (ds : List Deferred) (s : St) (Q : Ex → WK) : Prop :=
 I.wop (.call ⟨.builtin .len, ⟨[(.const (τ 5))]⟩, #[25]⟩) 3 s fun v46_0 s0 =>
 I.wop (.binOp .lss 3 (.const (τ 6)) (.const v46_0) 3) 4 s0 fun v47_1 s1 =>
 wdec v47_1
 (I.wop (.indexAddr 25 (.const (τ 5)) (.const (τ 6))) 0 s1 fun v52_2 s2 =>
 I.wop (.load 38 (.const v52_2)) 38 s2 fun v53_3 s3 =>
 veq v53_3 v53_3 = true ∧ I.wop (.fieldAddr 24 (.const (τ 2)) 0) 0 s3 fun v54_4 s4 =>
 I.wop (.load 3 (.const v54_4)) 3 s4 fun v55_5 s5 =>
 veq v55_5 v55_5 = true ∧ I.call 51 [v55_5] s5 fun v56_6 s6 =>
 Keeps [(3, .ptr v52_2)] s5 s6 ∧ I.wop (.binOp .geq 38 (.const v53_3) (.const v56_6) 38) 4 s6 fun v57_7 s7 =>
 wdec v57_7
 (Q .ret (U τ [(4, (.bool false)), (69, (.bool true)), (69, (.bool true)), (58, (.bool true)), (68, undef), (58, (.bool true)), (67, undef), (66, undef), (65, undef), (64, undef), (63, undef), (62, undef), (58, (.bool true)), (61, undef), (58, (.bool true)), (60, undef), (58, (.bool true)), (59, undef), (58, (.bool true)), (58, v57_7), (57, v57_7), (56, v56_6), (55, v55_5), (54, v54_4), (53, v53_3), (52, v52_2), (51, (τ 6)), (50, (τ 5)), (47, (.bool true)), (47, v47_1), (46, v46_0), (45, (τ 5)), (44, (τ 6))]) ds s7)
 (I.wop (.fieldAddr 43 (.const (τ 3)) 0) 0 s7 fun v59_8 s8 =>
 I.wop (.load 40 (.const v59_8)) 40 s8 fun v60_9 s9 =>
 veq v60_9 v60_9 = true ∧ I.wop (.binOp .neq 40 (.const v60_9) (.const (.int .u8 1)) 40) 4 s9 fun v61_10 s10 =>
 wdec v61_10
 (I.wop (.indexAddr 25 (.const (τ 5)) (.const (τ 6))) 0 s10 fun v65_11 s11 =>
 I.wop (.load 38 (.const v65_11)) 38 s11 fun v66_12 s12 =>
 veq v66_12 v66_12 = true ∧ I.wop (.binOp .neq 38 (.const v66_12) (.const (.int .u64 0)) 38) 4 s12 fun v67_13 s13 =>
 wdec v67_13
 (Q .ret (U τ [(4, (.bool false)), (69, (.bool true)), (69, v67_13), (58, (.bool false)), (68, v67_13), (62, (.bool true)), (58, (.bool false)), (67, v67_13), (62, (.bool true)), (66, v66_12), (62, (.bool true)), (65, v65_11), (62, (.bool true)), (64, (τ 6)), (62, (.bool true)), (63, (τ 5)), (62, (.bool true)), (62, v61_10), (58, (.bool false)), (61, v61_10), (58, (.bool false)), (60, v60_9), (58, (.bool false)), (59, v59_8), (58, (.bool false)), (58, v57_7), (57, v57_7), (56, v56_6), (55, v55_5), (54, v54_4), (53, v53_3), (52, v52_2), (51, (τ 6)), (50, (τ 5)), (47, (.bool true)), (47, v47_1), (46, v46_0), (45, (τ 5)), (44, (τ 6))]) ds s13)
 (I.wop (.binOp .add 3 (.const (τ 6)) (.const (.int .i64 1)) 3) 3 s13 fun v49_14 s14 =>
 Q .normal (U τ [(6, v49_14), (49, v49_14), (48, (τ 6)), (69, (.bool false)), (69, v67_13), (58, (.bool false)), (68, v67_13), (62, (.bool true)), (58, (.bool false)), (67, v67_13), (62, (.bool true)), (66, v66_12), (62, (.bool true)), (65, v65_11), (62, (.bool true)), (64, (τ 6)), (62, (.bool true)), (63, (τ 5)), (62, (.bool true)), (62, v61_10), (58, (.bool false)), (61, v61_10), (58, (.bool false)), (60, v60_9), (58, (.bool false)), (59, v59_8), (58, (.bool false)), (58, v57_7), (57, v57_7), (56, v56_6), (55, v55_5), (54, v54_4), (53, v53_3), (52, v52_2), (51, (τ 6)), (50, (τ 5)), (47, (.bool true)), (47, v47_1), (46, v46_0), (45, (τ 5)), (44, (τ 6))]) ds s14))
 (I.wop (.binOp .add 3 (.const (τ 6)) (.const (.int .i64 1)) 3) 3 s10 fun v49_15 s15 =>
 Q .normal (U τ [(6, v49_15), (49, v49_15), (48, (τ 6)), (69, (.bool false)), (69, (.bool false)), (58, (.bool false)), (68, (.bool false)), (62, (.bool false)), (58, (.bool false)), (67, undef), (62, (.bool false)), (66, undef), (62, (.bool false)), (65, undef), (62, (.bool false)), (64, undef), (62, (.bool false)), (63, undef), (62, (.bool false)), (62, v61_10), (58, (.bool false)), (61, v61_10), (58, (.bool false)), (60, v60_9), (58, (.bool false)), (59, v59_8), (58, (.bool false)), (58, v57_7), (57, v57_7), (56, v56_6), (55, v55_5), (54, v54_4), (53, v53_3), (52, v52_2), (51, (τ 6)), (50, (τ 5)), (47, (.bool true)), (47, v47_1), (46, v46_0), (45, (τ 5)), (44, (τ 6))]) ds s15)))
 (Q (.exit 0) (U τ [(47, (.bool false)), (47, v47_1), (46, v46_0), (45, (τ 5)), (44, (τ 6))]) ds s1)
theorem x52_1110100 (I : Prims) (rnd : Option Nat) (τ : Tau) (ds : List Deferred) (s : St) (Q : Ex → WK) : xp I rnd 104 k52_1110100 c52_1110100 [] τ [] ds s (lift Q) = v52_1110100 I rnd τ ds s Q := by kernel_rfl
theorem n52_1110100 [Memo] (ro : Nat) (rnd : Option Nat) (τ : Tau) (ds : List Deferred) (s : St) (Q : Ex → WK) : wp P ro 104 rnd c52_1110100 τ ds s Q = v52_1110100 (prims P ro) rnd τ ds s Q := xp_wp rnd 104 P ro (x52_1110100 _ rnd τ ds s Q)
def v52_11110100 (I : Prims) (rnd : Option Nat) (τ : Tau) (ds : List Deferred) (s : St) (Q : Ex → WK) : Prop :=
 I.wop (.binOp .lss 3 (.const (τ 7)) (.const (.int .i64 4)) 3) 4 s fun v71_0 s0 =>
 wdec v71_0
 (I.wop (.fieldAddr 43 (.const (τ 3)) 1) 0 s0 fun v75_1 s1 =>
 I.wop (.indexAddr 41 (.const v75_1) (.const (τ 7))) 0 s1 fun v76_2 s2 =>
 I.wop (.load 3 (.const v76_2)) 3 s2 fun v77_3 s3 =>
 I.wop (.binOp .lss 3 (.const v77_3) (.const (.int .i64 (-1))) 3) 4 s3 fun v78_4 s4 =>
 wdec v78_4
 (Q .ret (U τ [(4, (.bool false)), (87, (.bool true)), (87, (.bool true)), (79, (.bool true)), (86, undef), (79, (.bool true)), (85, undef), (79, (.bool true)), (84, undef), (79, (.bool true)), (83, undef), (79, (.bool true)), (82, undef), (79, (.bool true)), (81, undef), (79, (.bool true)), (80, undef), (79, (.bool true)), (79, v78_4), (78, v78_4), (77, v77_3), (76, v76_2), (75, v75_1), (74, (τ 7)), (71, (.bool true)), (71, v71_0), (70, (τ 7))]) ds s4)
 (I.wop (.fieldAddr 43 (.const (τ 3)) 1) 0 s4 fun v81_5 s5 =>
 I.wop (.indexAddr 41 (.const v81_5) (.const (τ 7))) 0 s5 fun v82_6 s6 =>
 I.wop (.load 3 (.const v82_6)) 3 s6 fun v83_7 s7 =>
 I.wop (.fieldAddr 24 (.const (τ 2)) 1) 0 s7 fun v84_8 s8 =>
 I.wop (.load 3 (.const v84_8)) 3 s8 fun v85_9 s9 =>
 I.wop (.binOp .geq 3 (.const v83_7) (.const v85_9) 3) 4 s9 fun v86_10 s10 =>
 wdec v86_10
 (Q .ret (U τ [(4, (.bool false)), (87, (.bool true)), (87, v86_10), (79, (.bool false)), (86, v86_10), (79, (.bool false)), (85, v85_9), (79, (.bool false)), (84, v84_8), (79, (.bool false)), (83, v83_7), (79, (.bool false)), (82, v82_6), (79, (.bool false)), (81, v81_5), (79, (.bool false)), (80, (τ 7)), (79, (.bool false)), (79, v78_4), (78, v78_4), (77, v77_3), (76, v76_2), (75, v75_1), (74, (τ 7)), (71, (.bool true)), (71, v71_0), (70, (τ 7))]) ds s10)
 (I.wop (.binOp .add 3 (.const (τ 7)) (.const (.int .i64 1)) 3) 3 s10 fun v73_11 s11 =>
 Q .normal (U τ [(7, v73_11), (73, v73_11), (72, (τ 7)), (87, (.bool false)), (87, v86_10), (79, (.bool false)), (86, v86_10), (79, (.bool false)), (85, v85_9), (79, (.bool false)), (84, v84_8), (79, (.bool false)), (83, v83_7), (79, (.bool false)), (82, v82_6), (79, (.bool false)), (81, v81_5), (79, (.bool false)), (80, (τ 7)), (79, (.bool false)), (79, v78_4), (78, v78_4), (77, v77_3), (76, v76_2), (75, v75_1), (74, (τ 7)), (71, (.bool true)), (71, v71_0), (70, (τ 7))]) ds s11)))
 (Q (.exit 2) (U τ [(71, (.bool false)), (71, v71_0), (70, (τ 7))]) ds s0)
theorem x52_11110100 (I : Prims) (rnd : Option Nat) (τ : Tau) (ds : List Deferred) (s : St) (Q : Ex → WK) : xp I rnd 104 k52_11110100 c52_11110100 [] τ [] ds s (lift Q) = v52_11110100 I rnd τ ds s Q := by kernel_rfl
theorem n52_11110100 [Memo] (ro : Nat) (rnd : Option Nat) (τ : Tau) (ds : List Deferred) (s : St) (Q : Ex → WK) : wp P ro 104 rnd c52_11110100 τ ds s Q = v52_11110100 (prims P ro) rnd τ ds s Q := xp_wp rnd 104 P ro (x52_11110100 _ rnd τ ds s Q)
def v52_1111110100 (I : Prims) (rnd : Option Nat) (τ : Tau) (ds : List Deferred) (s : St) (Q : Ex → WK) : Prop :=
 I.wop (.call ⟨.builtin .len, ⟨[(.const (τ 8))]⟩, #[49]⟩) 3 s fun v92_0 s0 =>
 I.wop (.binOp .lss 3 (.const (τ 9)) (.const v92_0) 3) 4 s0 fun v93_1 s1 =>
 wdec v93_1
 (I.wop (.indexAddr 49 (.const (τ 8)) (.const (τ 9))) 0 s1 fun v98_2 s2 =>
 I.wop (.load 3 (.const v98_2)) 3 s2 fun v99_3 s3 =>
 I.wop (.fieldAddr 43 (.const (τ 3)) 1) 0 s3 fun v100_4 s4 =>
 I.wop (.indexAddr 41 (.const v100_4) (.const v99_3)) 0 s4 fun v101_5 s5 =>
 I.wop (.load 3 (.const v101_5)) 3 s5 fun v102_6 s6 =>
 I.wop (.binOp .lss 3 (.const v102_6) (.const (.int .i64 0)) 3) 4 s6 fun v103_7 s7 =>
 wdec v103_7
 (Q .ret (U τ [(4, (.bool false)), (103, (.bool true)), (103, v103_7), (102, v102_6), (101, v101_5), (100, v100_4), (99, v99_3), (98, v98_2), (97, (τ 9)), (96, (τ 8)), (93, (.bool true)), (93, v93_1), (92, v92_0), (91, (τ 8)), (90, (τ 9))]) ds s7)
 (I.wop (.binOp .add 3 (.const (τ 9)) (.const (.int .i64 1)) 3) 3 s7 fun v95_8 s8 =>
 Q .normal (U τ [(9, v95_8), (95, v95_8), (94, (τ 9)), (103, (.bool false)), (103, v103_7), (102, v102_6), (101, v101_5), (100, v100_4), (99, v99_3), (98, v98_2), (97, (τ 9)), (96, (τ 8)), (93, (.bool true)), (93, v93_1), (92, v92_0), (91, (τ 8)), (90, (τ 9))]) ds s8))
 (Q (.exit 4) (U τ [(93, (.bool false)), (93, v93_1), (92, v92_0), (91, (τ 8)), (90, (τ 9))]) ds s1)
theorem x52_1111110100 (I : Prims) (rnd : Option Nat) (τ : Tau) (ds : List Deferred) (s : St) (Q : Ex → WK) : xp I rnd 104 k52_1111110100 c52_1111110100 [] τ [] ds s (lift Q) = v52_1111110100 I rnd τ ds s Q := by kernel_rfl
theorem n52_1111110100 [Memo] (ro : Nat) (rnd : Option Nat) (τ : Tau) (ds : List Deferred) (s : St) (Q : Ex → WK) : wp P ro 104 rnd c52_1111110100 τ ds s Q = v52_1111110100 (prims P ro) rnd τ ds s Q := xp_wp rnd 104 P ro (x52_1111110100 _ rnd τ ds s Q)
def v52 (I : Prims) (a0 a1 : Value) (si : St) (K : Value → St → Prop) : Prop :=
 I.wop (.box 24 (.const a0)) 0 (ent si) fun v2_0 s0 =>
 I.wop (.box 43 (.const a1)) 0 s0 fun v3_1 s1 =>
 I.wop (.fieldAddr 43 (.const v3_1) 0) 0 s1 fun v10_2 s2 =>
 I.wop (.load 40 (.const v10_2)) 40 s2 fun v11_3 s3 =>
 I.wop (.binOp .gtr 40 (.const v11_3) (.const (.int .u8 3)) 40) 4 s3 fun v12_4 s4 =>
 wdec v12_4
 (I.fin si K (.bool false) s4)
 (I.wop (.fieldAddr 43 (.const v3_1) 7) 0 s4 fun v14_5 s5 =>
 I.wop (.load 3 (.const v14_5)) 3 s5 fun v15_6 s6 =>
 I.wop (.binOp .lss 3 (.const v15_6) (.const (.int .i64 0)) 3) 4 s6 fun v16_7 s7 =>
 wdec v16_7
 (I.fin si K (.bool false) s7)
 (I.wop (.fieldAddr 43 (.const v3_1) 7) 0 s7 fun v19_8 s8 =>
 I.wop (.load 3 (.const v19_8)) 3 s8 fun v20_9 s9 =>
 I.wop (.binOp .gtr 3 (.const v20_9) (.const (.int .i64 7)) 3) 4 s9 fun v21_10 s10 =>
 wdec v21_10
 (I.fin si K (.bool false) s10)
 (I.wop (.fieldAddr 43 (.const v3_1) 0) 0 s10 fun v24_11 s11 =>
 I.wop (.load 40 (.const v24_11)) 40 s11 fun v25_12 s12 =>
 I.wop (.binOp .neq 40 (.const v25_12) (.const (.int .u8 3)) 40) 4 s12 fun v26_13 s13 =>
 wdec v26_13
 (I.wop (.fieldAddr 43 (.const v3_1) 7) 0 s13 fun v28_14 s14 =>
 I.wop (.load 3 (.const v28_14)) 3 s14 fun v29_15 s15 =>
 I.wop (.binOp .neq 3 (.const v29_15) (.const (.int .i64 0)) 3) 4 s15 fun v30_16 s16 =>
 wdec v30_16
 (I.fin si K (.bool false) s16)
 (I.hold (xp I none 104 k52 c52_11 [1, 1] (U undefT [(32, (.bool false)), (32, v30_16), (23, (.bool false)), (31, v30_16), (27, (.bool true)), (23, (.bool false)), (30, v30_16), (27, (.bool true)), (29, v29_15), (27, (.bool true)), (28, v28_14), (27, (.bool true)), (27, v26_13), (23, (.bool false)), (26, v26_13), (23, (.bool false)), (25, v25_12), (23, (.bool false)), (24, v24_11), (23, (.bool false)), (23, v21_10), (22, v21_10), (18, (.bool false)), (21, v21_10), (18, (.bool false)), (20, v20_9), (18, (.bool false)), (19, v19_8), (18, (.bool false)), (18, v16_7), (17, v16_7), (13, (.bool false)), (16, v16_7), (13, (.bool false)), (15, v15_6), (13, (.bool false)), (14, v14_5), (13, (.bool false)), (13, v12_4), (12, v12_4), (11, v11_3), (10, v10_2), (4, (.bool false)), (3, v3_1), (2, v2_0), (0, a0), (1, a1)]) [] [] s16 (xleave I si Tryd.f52.results.toList K))))
 (I.hold (xp I none 104 k52 c52_11 [1, 1] (U undefT [(32, (.bool false)), (32, (.bool false)), (23, (.bool false)), (31, (.bool false)), (27, (.bool false)), (23, (.bool false)), (30, undef), (27, (.bool false)), (29, undef), (27, (.bool false)), (28, undef), (27, (.bool false)), (27, v26_13), (23, (.bool false)), (26, v26_13), (23, (.bool false)), (25, v25_12), (23, (.bool false)), (24, v24_11), (23, (.bool false)), (23, v21_10), (22, v21_10), (18, (.bool false)), (21, v21_10), (18, (.bool false)), (20, v20_9), (18, (.bool false)), (19, v19_8), (18, (.bool false)), (18, v16_7), (17, v16_7), (13, (.bool false)), (16, v16_7), (13, (.bool false)), (15, v15_6), (13, (.bool false)), (14, v14_5), (13, (.bool false)), (13, v12_4), (12, v12_4), (11, v11_3), (10, v10_2), (4, (.bool false)), (3, v3_1), (2, v2_0), (0, a0), (1, a1)]) [] [] s13 (xleave I si Tryd.f52.results.toList K))))))
theorem x52 (I : Prims) (a0 a1 : Value) (si : St) (K : Value → St → Prop) : xbody I 104 k52 Tryd.f52 c52 [a0, a1] si K = v52 I a0 a1 si K := by kernel_rfl
theorem n52 [Memo] (ro : Nat) (a0 a1 : Value) (si : St) (K : Value → St → Prop) : wbody P ro 104 Tryd.f52 c52 [a0, a1] si K = v52 (prims P ro) a0 a1 si K := xbody_eq 104 P ro (x52 _ a0 a1 si K)
theorem r52 (I : Prims) (si : St) (K : Value → St → Prop) (τ : Tau) (ds : List Deferred) (s : St) : xleave I si Tryd.f52.results.toList K .ret τ [] ds s =
 (xdefers I ds s fun s0 =>
 I.fin si K (τ 4) s0) := by kernel_rfl
/- attestor/attestorref23.Reads -/
noncomputable def c53 : Code := bodyOf Tryd.f53
noncomputable def c53_11010101 : Code := subCode [1, 1, 0, 1, 0, 1, 0, 1] c53
noncomputable def c53_111 : Code := subCode [1, 1, 1] c53
def k53 : List (List Nat) := [[1, 0, 1, 0, 1, 0, 1, 1]]
theorem b53 : BodyOk P 47 1 53 Tryd.f53 c53 := ⟨Tryd.func53, by kernel_rfl, by kernel_rfl, by kernel_rfl, by kernel_rfl, by kernel_rfl⟩
def v53_11010101 (I : Prims) (τ : Tau) (ds : List Deferred) (s : St) (Q : Ex → XK) : Prop :=
 I.wop (.fieldAddr 43 (.const (τ 1)) 3) 0 s fun v19_0 s0 =>
 I.wop (.load 38 (.const v19_0)) 38 s0 fun v20_1 s1 =>
 I.wop (.binOp .neq 38 (.const v20_1) (.const (.int .u64 0)) 38) 4 s1 fun v21_2 s2 =>
 wdec v21_2
 (I.wop (.buildSlice 49 1 ⟨[(0, (.const (.int .i64 1)))]⟩) 49 s2 fun v28_3 s3 =>
 I.wop (.call ⟨.builtin .append, ⟨[(.const (τ 3)), (.const v28_3)]⟩, #[49, 49]⟩) 49 s3 fun v29_4 s4 =>
 I.wop (.fieldAddr 43 (.const (τ 1)) 5) 0 s4 fun v30_5 s5 =>
 I.wop (.load 38 (.const v30_5)) 38 s5 fun v31_6 s6 =>
 I.wop (.binOp .neq 38 (.const v31_6) (.const (.int .u64 0)) 38) 4 s6 fun v32_7 s7 =>
 wdec v32_7
 (I.wop (.buildSlice 49 1 ⟨[(0, (.const (.int .i64 2)))]⟩) 49 s7 fun v34_8 s8 =>
 I.wop (.call ⟨.builtin .append, ⟨[(.const v29_4), (.const v34_8)]⟩, #[49, 49]⟩) 49 s8 fun v35_9 s9 =>
 Q .normal τ [(3, v35_9), (35, v35_9), (34, v34_8), (33, v29_4), (32, (.bool true)), (32, v32_7), (31, v31_6), (30, v30_5), (3, v29_4), (29, v29_4), (28, v28_3), (27, (τ 3)), (26, (.bool true)), (26, (.bool true)), (22, (.bool true)), (25, undef), (22, (.bool true)), (24, undef), (22, (.bool true)), (23, undef), (22, (.bool true)), (22, v21_2), (21, v21_2), (20, v20_1), (19, v19_0)] ds s9)
 (Q .normal τ [(32, (.bool false)), (32, v32_7), (31, v31_6), (30, v30_5), (3, v29_4), (29, v29_4), (28, v28_3), (27, (τ 3)), (26, (.bool true)), (26, (.bool true)), (22, (.bool true)), (25, undef), (22, (.bool true)), (24, undef), (22, (.bool true)), (23, undef), (22, (.bool true)), (22, v21_2), (21, v21_2), (20, v20_1), (19, v19_0)] ds s7))
 (I.wop (.fieldAddr 43 (.const (τ 1)) 4) 0 s2 fun v23_10 s10 =>
 I.wop (.load 38 (.const v23_10)) 38 s10 fun v24_11 s11 =>
 I.wop (.binOp .neq 38 (.const v24_11) (.const (.int .u64 0)) 38) 4 s11 fun v25_12 s12 =>
 wdec v25_12
 (I.wop (.buildSlice 49 1 ⟨[(0, (.const (.int .i64 1)))]⟩) 49 s12 fun v28_13 s13 =>
 I.wop (.call ⟨.builtin .append, ⟨[(.const (τ 3)), (.const v28_13)]⟩, #[49, 49]⟩) 49 s13 fun v29_14 s14 =>
 I.wop (.fieldAddr 43 (.const (τ 1)) 5) 0 s14 fun v30_15 s15 =>
 I.wop (.load 38 (.const v30_15)) 38 s15 fun v31_16 s16 =>
 I.wop (.binOp .neq 38 (.const v31_16) (.const (.int .u64 0)) 38) 4 s16 fun v32_17 s17 =>
 wdec v32_17
 (I.wop (.buildSlice 49 1 ⟨[(0, (.const (.int .i64 2)))]⟩) 49 s17 fun v34_18 s18 =>
 I.wop (.call ⟨.builtin .append, ⟨[(.const v29_14), (.const v34_18)]⟩, #[49, 49]⟩) 49 s18 fun v35_19 s19 =>
 Q .normal τ [(3, v35_19), (35, v35_19), (34, v34_18), (33, v29_14), (32, (.bool true)), (32, v32_17), (31, v31_16), (30, v30_15), (3, v29_14), (29, v29_14), (28, v28_13), (27, (τ 3)), (26, (.bool true)), (26, v25_12), (22, (.bool false)), (25, v25_12), (22, (.bool false)), (24, v24_11), (22, (.bool false)), (23, v23_10), (22, (.bool false)), (22, v21_2), (21, v21_2), (20, v20_1), (19, v19_0)] ds s19)
 (Q .normal τ [(32, (.bool false)), (32, v32_17), (31, v31_16), (30, v30_15), (3, v29_14), (29, v29_14), (28, v28_13), (27, (τ 3)), (26, (.bool true)), (26, v25_12), (22, (.bool false)), (25, v25_12), (22, (.bool false)), (24, v24_11), (22, (.bool false)), (23, v23_10), (22, (.bool false)), (22, v21_2), (21, v21_2), (20, v20_1), (19, v19_0)] ds s17))
 (I.wop (.fieldAddr 43 (.const (τ 1)) 5) 0 s12 fun v30_20 s20 =>
 I.wop (.load 38 (.const v30_20)) 38 s20 fun v31_21 s21 =>
 I.wop (.binOp .neq 38 (.const v31_21) (.const (.int .u64 0)) 38) 4 s21 fun v32_22 s22 =>
 wdec v32_22
 (I.wop (.buildSlice 49 1 ⟨[(0, (.const (.int .i64 2)))]⟩) 49 s22 fun v34_23 s23 =>
 I.wop (.call ⟨.builtin .append, ⟨[(.const (τ 3)), (.const v34_23)]⟩, #[49, 49]⟩) 49 s23 fun v35_24 s24 =>
 Q .normal τ [(3, v35_24), (35, v35_24), (34, v34_23), (33, (τ 3)), (32, (.bool true)), (32, v32_22), (31, v31_21), (30, v30_20), (26, (.bool false)), (26, v25_12), (22, (.bool false)), (25, v25_12), (22, (.bool false)), (24, v24_11), (22, (.bool false)), (23, v23_10), (22, (.bool false)), (22, v21_2), (21, v21_2), (20, v20_1), (19, v19_0)] ds s24)
 (Q .normal τ [(32, (.bool false)), (32, v32_22), (31, v31_21), (30, v30_20), (26, (.bool false)), (26, v25_12), (22, (.bool false)), (25, v25_12), (22, (.bool false)), (24, v24_11), (22, (.bool false)), (23, v23_10), (22, (.bool false)), (22, v21_2), (21, v21_2), (20, v20_1), (19, v19_0)] ds s22)))
theorem n53_11010101 (I : Prims) (τ : Tau) (ds : List Deferred) (s : St) (Q : Ex → XK) : xp I none 47 k53 c53_11010101 [1, 0, 1, 0, 1, 0, 1, 1] τ [] ds s Q = v53_11010101 I τ ds s Q := by kernel_rfl
def v53_111 (I : Prims) (τ : Tau) (ds : List Deferred) (s : St) (Q : Ex → XK) : Prop :=
 Q .ret τ [(2, (τ 3)), (46, (τ 3))] ds s
theorem n53_111 (I : Prims) (τ : Tau) (ds : List Deferred) (s : St) (Q : Ex → XK) : xp I none 47 k53 c53_111 [1, 1, 1] τ [] ds s Q = v53_111 I τ ds s Q := by kernel_rfl
def v53 (I : Prims) (a0 : Value) (si : St) (K : Value → St → Prop) : Prop :=
 I.wop (.box 43 (.const a0)) 0 (ent si) fun v1_0 s0 =>
 I.wop (.fieldAddr 43 (.const v1_0) 0) 0 s0 fun v4_1 s1 =>
 I.wop (.load 40 (.const v4_1)) 40 s1 fun v5_2 s2 =>
 I.wop (.binOp .eql 40 (.const v5_2) (.const (.int .u8 1)) 40) 4 s2 fun v7_3 s3 =>
 wdec v7_3
 (I.wop (.fieldAddr 43 (.const v1_0) 2) 0 s3 fun v8_4 s4 =>
 I.wop (.load 38 (.const v8_4)) 38 s4 fun v9_5 s5 =>
 I.wop (.binOp .neq 38 (.const v9_5) (.const (.int .u64 0)) 38) 4 s5 fun v10_6 s6 =>
 wdec v10_6
 (I.wop (.buildSlice 49 1 ⟨[(0, (.const (.int .i64 0)))]⟩) 49 s6 fun v17_7 s7 =>
 I.wop (.call ⟨.builtin .append, ⟨[(.const (.slice none 0 0)), (.const v17_7)]⟩, #[49, 49]⟩) 49 s7 fun v18_8 s8 =>
 I.hold (xp I none 47 k53 c53_11010101 [1, 0, 1, 0, 1, 0, 1, 1] (U undefT [(3, v18_8), (18, v18_8), (17, v17_7), (16, (.slice none 0 0)), (15, (.bool true)), (15, (.bool true)), (11, (.bool true)), (14, undef), (11, (.bool true)), (13, undef), (11, (.bool true)), (12, undef), (11, (.bool true)), (11, v10_6), (10, v10_6), (9, v9_5), (8, v8_4), (6, (.bool true)), (6, v7_3), (7, v7_3), (5, v5_2), (4, v4_1), (3, (.slice none 0 0)), (2, (.slice none 0 0)), (1, v1_0), (0, a0)]) [] [] s8 (blkX 0 (sX I none 47 k53 c53_111 [1, 1, 1] (xleave I si Tryd.f53.results.toList K)))))
 (I.wop (.fieldAddr 43 (.const v1_0) 4) 0 s6 fun v12_9 s9 =>
 I.wop (.load 38 (.const v12_9)) 38 s9 fun v13_10 s10 =>
 I.wop (.binOp .neq 38 (.const v13_10) (.const (.int .u64 0)) 38) 4 s10 fun v14_11 s11 =>
 wdec v14_11
 (I.wop (.buildSlice 49 1 ⟨[(0, (.const (.int .i64 0)))]⟩) 49 s11 fun v17_12 s12 =>
 I.wop (.call ⟨.builtin .append, ⟨[(.const (.slice none 0 0)), (.const v17_12)]⟩, #[49, 49]⟩) 49 s12 fun v18_13 s13 =>
 I.hold (xp I none 47 k53 c53_11010101 [1, 0, 1, 0, 1, 0, 1, 1] (U undefT [(3, v18_13), (18, v18_13), (17, v17_12), (16, (.slice none 0 0)), (15, (.bool true)), (15, v14_11), (11, (.bool false)), (14, v14_11), (11, (.bool false)), (13, v13_10), (11, (.bool false)), (12, v12_9), (11, (.bool false)), (11, v10_6), (10, v10_6), (9, v9_5), (8, v8_4), (6, (.bool true)), (6, v7_3), (7, v7_3), (5, v5_2), (4, v4_1), (3, (.slice none 0 0)), (2, (.slice none 0 0)), (1, v1_0), (0, a0)]) [] [] s13 (blkX 0 (sX I none 47 k53 c53_111 [1, 1, 1] (xleave I si Tryd.f53.results.toList K)))))
 (I.hold (xp I none 47 k53 c53_11010101 [1, 0, 1, 0, 1, 0, 1, 1] (U undefT [(15, (.bool false)), (15, v14_11), (11, (.bool false)), (14, v14_11), (11, (.bool false)), (13, v13_10), (11, (.bool false)), (12, v12_9), (11, (.bool false)), (11, v10_6), (10, v10_6), (9, v9_5), (8, v8_4), (6, (.bool true)), (6, v7_3), (7, v7_3), (5, v5_2), (4, v4_1), (3, (.slice none 0 0)), (2, (.slice none 0 0)), (1, v1_0), (0, a0)]) [] [] s11 (blkX 0 (sX I none 47 k53 c53_111 [1, 1, 1] (xleave I si Tryd.f53.results.toList K)))))))
 (I.wop (.binOp .eql 40 (.const v5_2) (.const (.int .u8 2)) 40) 4 s3 fun v37_14 s14 =>
 wdec v37_14
 (I.wop (.buildSlice 49 1 ⟨[(0, (.const (.int .i64 0)))]⟩) 49 s14 fun v39_15 s15 =>
 I.wop (.call ⟨.builtin .append, ⟨[(.const (.slice none 0 0)), (.const v39_15)]⟩, #[49, 49]⟩) 49 s15 fun v40_16 s16 =>
 I.fin si K v40_16 s16)
 (I.wop (.binOp .eql 40 (.const v5_2) (.const (.int .u8 3)) 40) 4 s14 fun v42_17 s17 =>
 wdec v42_17
 (I.wop (.buildSlice 49 4 ⟨[(0, (.const (.int .i64 0))), (1, (.const (.int .i64 1))), (2, (.const (.int .i64 2))), (3, (.const (.int .i64 3)))]⟩) 49 s17 fun v44_18 s18 =>
 I.wop (.call ⟨.builtin .append, ⟨[(.const (.slice none 0 0)), (.const v44_18)]⟩, #[49, 49]⟩) 49 s18 fun v45_19 s19 =>
 I.fin si K v45_19 s19)
 (I.fin si K (.slice none 0 0) s17)))
theorem x53 (I : Prims) (a0 : Value) (si : St) (K : Value → St → Prop) : xbody I 47 k53 Tryd.f53 c53 [a0] si K = v53 I a0 si K := by kernel_rfl
theorem n53 [Memo] (ro : Nat) (a0 : Value) (si : St) (K : Value → St → Prop) : wbody P ro 47 Tryd.f53 c53 [a0] si K = v53 (prims P ro) a0 si K := xbody_eq 47 P ro (x53 _ a0 si K)
theorem r53 (I : Prims) (si : St) (K : Value → St → Prop) (τ : Tau) (ds : List Deferred) (s : St) : xleave I si Tryd.f53.results.toList K .ret τ [] ds s =
 (xdefers I ds s fun s0 =>
 I.fin si K (τ 2) s0) := by kernel_rfl
/- attestor/sponge.Round -/
noncomputable def c54 : Code := bodyOf Tryd.f54
def k54 : List (List Nat) := []
theorem b54 : BodyOk P 33 3 54 Tryd.f54 c54 := ⟨Tryd.func54, by kernel_rfl, by kernel_rfl, by kernel_rfl, by kernel_rfl, by kernel_rfl⟩
def v54 (I : Prims) (a0 a1 a2 : Value) (si : St) (K : Value → St → Prop) : Prop :=
 I.wop (.box 39 (.const a2)) 0 (ent si) fun v5_0 s0 =>
 I.wop (.alloc 39) 0 s0 fun v6_1 s1 =>
 I.call 67 [a0, a1] s1 fun v12_2 s2 =>
 I.wop (.unOp .not 4 (.const v12_2)) 4 s2 fun v13_3 s3 =>
 wdec v13_3
 (I.wop (.build 39 ⟨[]⟩) 39 s3 fun v14_4 s4 =>
 I.wop (.store 39 (.const v6_1) (.const v14_4)) 0 s4 fun _ s5 =>
 I.wop (.load 39 (.const v6_1)) 39 s5 fun v6_6 _ =>
 I.fin si K v6_6 s5)
 (I.call 68 [a0] s3 fun v16_7 s7 =>
 I.wop (.alloc 79) 0 s7 fun v7_8 s8 =>
 I.wop (.store 79 (.const v7_8) (.const v16_7)) 0 s8 fun _ s9 =>
 I.wop (.load 79 (.const v7_8)) 79 s9 fun v18_10 s10 =>
 veq v18_10 v18_10 = true ∧ I.wop (.fieldAddr 79 (.const v7_8) 1) 0 s10 fun v20_11 s11 =>
 I.wop (.load 38 (.const v20_11)) 38 s11 fun v21_12 s12 =>
 veq v21_12 v21_12 = true ∧ I.wop (.binOp .mul 3 (.const (.int .i64 4)) (.const a1) 3) 3 s12 fun v23_13 s13 =>
 I.wop (.convert 3 38 (.const v23_13)) 38 s13 fun v24_14 s14 =>
 s14 = s13 ∧ veq v24_14 v24_14 = true ∧ I.wop (.load 79 (.const v7_8)) 79 s14 fun v26_15 s15 =>
 veq v26_15 v26_15 = true ∧ I.wop (.load 39 (.const v5_0)) 39 s15 fun v27_16 s16 =>
 veq v27_16 v27_16 = true ∧ I.wop (.alloc 39) 0 s16 fun v9_17 s17 =>
 FreshOk s16 s17 ∧ I.call 70 [a0, v21_12, v24_14] s17 fun v25_18 s18 =>
 Keeps [(15, .blk s16.n), (9, .ptr v5_0), (8, .ptr v7_8), (0, .ptr v7_8)] s17 s18 ∧ I.call 71 [v26_15, v27_16] s18 fun v28_19 s19 =>
 Keeps [(15, .blk s16.n), (0, .ptr v7_8)] s18 s19 ∧ I.call 69 [v18_10, v25_18, v28_19] s19 fun v29_20 s20 =>
 Keeps [(15, .blk s16.n)] s19 s20 ∧ I.wop (.extract (.const v29_20) 0) 38 s20 fun _ s21 =>
 I.wop (.extract (.const v29_20) 1) 39 s21 fun v31_22 s22 =>
 I.wop (.store 39 (.const v9_17) (.const v31_22)) 0 s22 fun _ s23 =>
 s22.n ≤ s23.n ∧ I.wop (.load 39 (.const v9_17)) 39 s23 fun v32_24 s24 =>
 I.wop (.store 39 (.const v6_1) (.const v32_24)) 0 s24 fun _ s25 =>
 I.wop (.load 39 (.const v6_1)) 39 s25 fun v6_26 _ =>
 I.fin si K v6_26 s25)
theorem x54 (I : Prims) (a0 a1 a2 : Value) (si : St) (K : Value → St → Prop) : xbody I 33 k54 Tryd.f54 c54 [a0, a1, a2] si K = v54 I a0 a1 a2 si K := by kernel_rfl
theorem n54 [Memo] (ro : Nat) (a0 a1 a2 : Value) (si : St) (K : Value → St → Prop) : wbody P ro 33 Tryd.f54 c54 [a0, a1, a2] si K = v54 (prims P ro) a0 a1 a2 si K := xbody_eq 33 P ro (x54 _ a0 a1 a2 si K)
/- attestor/field.Inv -/
noncomputable def c55 : Code := bodyOf Tryd.f55
noncomputable def c55_11111000 : Code := subCode [1, 1, 1, 1, 1, 0, 0, 0] c55
def k55 : List (List Nat) := []
def k55_11111000 : List (List Nat) := []
theorem l55_11111000 : ltCode 52 c55_11111000 = true := by kernel_rfl
theorem m55_11111000 : notMap c55_11111000 = true := by kernel_rfl
theorem b55 : BodyOk P 52 2 55 Tryd.f55 c55 := ⟨Tryd.func55, by kernel_rfl, by kernel_rfl, by kernel_rfl, by kernel_rfl, by kernel_rfl⟩
def v55_11111000 (I : Prims) (rnd : Option Nat) (τ : Tau) (ds : List Deferred) (s : St) (Q : Ex → WK) : Prop :=
 I.wop (.binOp .neq 2 (.const (τ 7)) (.const (.int .i64 0)) 2) 4 s fun v28_0 s0 =>
 wdec v28_0
 (I.wop (.binOp .quo 2 (.const (τ 6)) (.const (τ 7)) 2) 2 s0 fun v31_1 s1 =>
 I.wop (.binOp .mul 2 (.const v31_1) (.const (τ 7)) 2) 2 s1 fun v36_2 s2 =>
 I.wop (.binOp .sub 2 (.const (τ 6)) (.const v36_2) 2) 2 s2 fun v37_3 s3 =>
 I.wop (.binOp .mul 2 (.const v31_1) (.const (τ 9)) 2) 2 s3 fun v42_4 s4 =>
 I.wop (.binOp .sub 2 (.const (τ 8)) (.const v42_4) 2) 2 s4 fun v43_5 s5 =>
 Q .normal (U τ [(9, v43_5), (8, (τ 9)), (43, v43_5), (42, v42_4), (41, (τ 9)), (40, v31_1), (39, (τ 8)), (38, (τ 9)), (7, v37_3), (6, (τ 7)), (37, v37_3), (36, v36_2), (35, (τ 7)), (34, v31_1), (33, (τ 6)), (32, (τ 7)), (10, v31_1), (31, v31_1), (30, (τ 7)), (29, (τ 6)), (28, (.bool true)), (28, v28_0), (27, (τ 7))]) ds s5)
 (Q (.exit 0) (U τ [(28, (.bool false)), (28, v28_0), (27, (τ 7))]) ds s0)
theorem x55_11111000 (I : Prims) (rnd : Option Nat) (τ : Tau) (ds : List Deferred) (s : St) (Q : Ex → WK) : xp I rnd 52 k55_11111000 c55_11111000 [] τ [] ds s (lift Q) = v55_11111000 I rnd τ ds s Q := by kernel_rfl
theorem n55_11111000 [Memo] (ro : Nat) (rnd : Option Nat) (τ : Tau) (ds : List Deferred) (s : St) (Q : Ex → WK) : wp P ro 52 rnd c55_11111000 τ ds s Q = v55_11111000 (prims P ro) rnd τ ds s Q := xp_wp rnd 52 P ro (x55_11111000 _ rnd τ ds s Q)
def v55 (I : Prims) (a0 a1 : Value) (si : St) (K : Value → St → Prop) : Prop :=
 I.call 47 [a0] (ent si) fun v12_0 s0 =>
 I.wop (.binOp .eql 38 (.const v12_0) (.const (.int .u64 0)) 38) 4 s0 fun v14_1 s1 =>
 wdec v14_1
 (I.fin si K (.int .u64 0) s1)
 (I.wop (.binOp .rem 38 (.const a1) (.const v12_0) 38) 38 s1 fun v18_2 s2 =>
 I.wop (.binOp .eql 38 (.const v18_2) (.const (.int .u64 0)) 38) 4 s2 fun v19_3 s3 =>
 wdec v19_3
 (I.fin si K (.int .u64 0) s3)
 (I.wop (.convert 38 2 (.const v12_0)) 2 s3 fun v22_4 s4 =>
 s4 = s3 ∧ I.wop (.binOp .rem 38 (.const a1) (.const v12_0) 38) 38 s4 fun v25_5 s5 =>
 I.wop (.convert 38 2 (.const v25_5)) 2 s5 fun v26_6 s6 =>
 s6 = s5 ∧ I.loop 52 none c55_11111000 (U undefT [(9, (.int .i64 1)), (8, (.int .i64 0)), (7, v26_6), (6, v22_4), (26, v26_6), (25, v25_5), (24, v12_0), (23, a1), (22, v22_4), (21, v12_0), (20, (.bool false)), (20, v19_3), (15, (.bool false)), (19, v19_3), (15, (.bool false)), (18, v18_2), (15, (.bool false)), (17, v12_0), (15, (.bool false)), (16, a1), (15, (.bool false)), (15, v14_1), (14, v14_1), (13, v12_0), (5, v12_0), (12, v12_0), (11, a0), (4, (.int .u64 0)), (0, a0), (1, a1)]) [] s6 (fun τ ds s => ((xleave I si Tryd.f55.results.toList K) .ret) τ [] ds s) [(0, fun τ7 ds7 s7 =>
 I.wop (.binOp .lss 2 (.const (τ7 8)) (.const (.int .i64 0)) 2) 4 s7 fun v45_8 s8 =>
 wdec v45_8
 (I.wop (.convert 38 2 (.const (τ7 5))) 2 s8 fun v48_9 s9 =>
 I.wop (.binOp .add 2 (.const (τ7 8)) (.const v48_9) 2) 2 s9 fun v49_10 s10 =>
 I.wop (.convert 2 38 (.const v49_10)) 38 s10 fun v51_11 s11 =>
 xdefers I ds7 s11 fun s12 =>
 I.fin si K v51_11 s12)
 (I.wop (.convert 2 38 (.const (τ7 8))) 38 s8 fun v51_13 s13 =>
 xdefers I ds7 s13 fun s14 =>
 I.fin si K v51_13 s14))]))
theorem x55 (I : Prims) (a0 a1 : Value) (si : St) (K : Value → St → Prop) : xbody I 52 k55 Tryd.f55 c55 [a0, a1] si K = v55 I a0 a1 si K := by kernel_rfl
theorem n55 [Memo] (ro : Nat) (a0 a1 : Value) (si : St) (K : Value → St → Prop) : wbody P ro 52 Tryd.f55 c55 [a0, a1] si K = v55 (prims P ro) a0 a1 si K := xbody_eq 52 P ro (x55 _ a0 a1 si K)
/- attestor/field.Valid -/
noncomputable def c58 : Code := bodyOf Tryd.f58
def k58 : List (List Nat) := []
theorem b58 : BodyOk P 9 1 58 Tryd.f58 c58 := ⟨Tryd.func58, by kernel_rfl, by kernel_rfl, by kernel_rfl, by kernel_rfl, by kernel_rfl⟩
def v58 (I : Prims) (a0 : Value) (si : St) (K : Value → St → Prop) : Prop :=
 I.wop (.binOp .geq 3 (.const a0) (.const (.int .i64 0)) 3) 4 (ent si) fun v4_0 s0 =>
 wdec v4_0
 (I.wop (.binOp .lss 3 (.const a0) (.const (.int .i64 4)) 3) 4 s0 fun v7_1 s1 =>
 I.fin si K v7_1 s1)
 (I.fin si K (.bool false) s0)
theorem x58 (I : Prims) (a0 : Value) (si : St) (K : Value → St → Prop) : xbody I 9 k58 Tryd.f58 c58 [a0] si K = v58 I a0 si K := by kernel_rfl
theorem n58 [Memo] (ro : Nat) (a0 : Value) (si : St) (K : Value → St → Prop) : wbody P ro 9 Tryd.f58 c58 [a0] si K = v58 (prims P ro) a0 si K := xbody_eq 9 P ro (x58 _ a0 si K)
/- slices.Repeat[[]int,int] -/
noncomputable def c59 : Code := bodyOf Tryd.f59
noncomputable def c59_11 : Code := subCode [1, 1] c59
noncomputable def c59_1111 : Code := subCode [1, 1, 1, 1] c59
noncomputable def c59_111111000 : Code := subCode [1, 1, 1, 1, 1, 1, 0, 0, 0] c59
def k59 : List (List Nat) := [[1, 1], [1, 1, 1, 1]]
def k59_111111000 : List (List Nat) := []
theorem l59_111111000 : ltCode 48 c59_111111000 = true := by kernel_rfl
theorem m59_111111000 : notMap c59_111111000 = true := by kernel_rfl
theorem b59 : BodyOk P 48 2 59 Tryd.f59 c59 := ⟨Tryd.func59, by kernel_rfl, by kernel_rfl, by kernel_rfl, by kernel_rfl, by kernel_rfl⟩
def v59_11 (I : Prims) (τ : Tau) (ds : List Deferred) (s : St) (Q : Ex → XK) : Prop :=
 I.wop (.call ⟨.builtin .len, ⟨[(.const (τ 0))]⟩, #[49]⟩) 3 s fun v14_0 s0 =>
 I.wop (.convert 3 84 (.const v14_0)) 84 s0 fun v15_1 s1 =>
 I.wop (.convert 3 84 (.const (τ 1))) 84 s1 fun v17_2 s2 =>
 I.call 72 [v15_1, v17_2] s2 fun v18_3 s3 =>
 I.wop (.extract (.const v18_3) 0) 84 s3 fun v19_4 s4 =>
 I.wop (.extract (.const v18_3) 1) 84 s4 fun v20_5 s5 =>
 I.wop (.binOp .gtr 84 (.const v19_4) (.const (.int .u64 0)) 84) 4 s5 fun v22_6 s6 =>
 wdec v22_6
 (I.wop (.makeInterface 9 (.const (.string (ByteArray.mk #[116, 104, 101, 32, 114, 101, 115, 117, 108, 116, 32, 111, 102, 32, 40, 108, 101, 110, 40, 120, 41, 32, 42, 32, 99, 111, 117, 110, 116, 41, 32, 111, 118, 101, 114, 102, 108, 111, 119, 115])))) 20 s6 fun v27_7 s7 =>
 I.wop (.panic (.tmp 27)) 0 s7 fun _ s8 =>
 I.hold (xp I none 48 k59 c59_1111 [1, 1, 1, 1] (U τ [(27, v27_7), (26, (.bool true)), (26, (.bool true)), (23, (.bool true)), (25, undef), (23, (.bool true)), (24, undef), (23, (.bool true)), (23, v22_6), (22, v22_6), (21, v19_4), (6, v20_5), (5, v19_4), (20, v20_5), (19, v19_4), (12, v18_3), (18, v18_3), (17, v17_2), (16, (τ 1)), (15, v15_1), (14, v14_0), (13, (τ 0))]) [] ds s8 Q))
 (I.wop (.binOp .gtr 84 (.const v20_5) (.const (.int .u64 9223372036854775807)) 84) 4 s6 fun v25_9 s9 =>
 wdec v25_9
 (I.wop (.makeInterface 9 (.const (.string (ByteArray.mk #[116, 104, 101, 32, 114, 101, 115, 117, 108, 116, 32, 111, 102, 32, 40, 108, 101, 110, 40, 120, 41, 32, 42, 32, 99, 111, 117, 110, 116, 41, 32, 111, 118, 101, 114, 102, 108, 111, 119, 115])))) 20 s9 fun v27_10 s10 =>
 I.wop (.panic (.tmp 27)) 0 s10 fun _ s11 =>
 I.hold (xp I none 48 k59 c59_1111 [1, 1, 1, 1] (U τ [(27, v27_10), (26, (.bool true)), (26, v25_9), (23, (.bool false)), (25, v25_9), (23, (.bool false)), (24, v20_5), (23, (.bool false)), (23, v22_6), (22, v22_6), (21, v19_4), (6, v20_5), (5, v19_4), (20, v20_5), (19, v19_4), (12, v18_3), (18, v18_3), (17, v17_2), (16, (τ 1)), (15, v15_1), (14, v14_0), (13, (τ 0))]) [] ds s11 Q))
 (I.hold (xp I none 48 k59 c59_1111 [1, 1, 1, 1] (U τ [(26, (.bool false)), (26, v25_9), (23, (.bool false)), (25, v25_9), (23, (.bool false)), (24, v20_5), (23, (.bool false)), (23, v22_6), (22, v22_6), (21, v19_4), (6, v20_5), (5, v19_4), (20, v20_5), (19, v19_4), (12, v18_3), (18, v18_3), (17, v17_2), (16, (τ 1)), (15, v15_1), (14, v14_0), (13, (τ 0))]) [] ds s9 Q)))
theorem n59_11 (I : Prims) (τ : Tau) (ds : List Deferred) (s : St) (Q : Ex → XK) : xp I none 48 k59 c59_11 [1, 1] τ [] ds s Q = v59_11 I τ ds s Q := by kernel_rfl
def v59_1111 (I : Prims) (τ : Tau) (ds : List Deferred) (s : St) (Q : Ex → XK) : Prop :=
 I.wop (.convert 84 3 (.const (τ 6))) 3 s fun v29_0 s0 =>
 I.wop (.makeSlice 49 (.const v29_0) (.const v29_0)) 49 s0 fun v30_1 s1 =>
 I.wop (.call ⟨.builtin .copy, ⟨[(.const v30_1), (.const (τ 0))]⟩, #[49, 49]⟩) 3 s1 fun v33_2 s2 =>
 I.loop 48 none c59_111111000 (U τ [(8, v33_2), (33, v33_2), (32, (τ 0)), (31, v30_1), (7, v30_1), (30, v30_1), (29, v29_0), (28, (τ 6))]) ds s2 (fun τ ds s => (Q .ret) τ [] ds s) [(0, fun τ3 ds3 s3 =>
 Q .ret τ3 [(4, (τ3 7)), (47, (τ3 7))] ds3 s3)]
theorem n59_1111 (I : Prims) (τ : Tau) (ds : List Deferred) (s : St) (Q : Ex → XK) : xp I none 48 k59 c59_1111 [1, 1, 1, 1] τ [] ds s Q = v59_1111 I τ ds s Q := by kernel_rfl
def v59_111111000 (I : Prims) (rnd : Option Nat) (τ : Tau) (ds : List Deferred) (s : St) (Q : Ex → WK) : Prop :=
 I.wop (.call ⟨.builtin .len, ⟨[(.const (τ 7))]⟩, #[49]⟩) 3 s fun v36_0 s0 =>
 I.wop (.binOp .lss 3 (.const (τ 8)) (.const v36_0) 3) 4 s0 fun v37_1 s1 =>
 wdec v37_1
 (I.wop (.slice 49 (.const (τ 7)) (some (.const (τ 8))) none none) 49 s1 fun v41_2 s2 =>
 I.wop (.slice 49 (.const (τ 7)) none (some (.const (τ 8))) none) 49 s2 fun v44_3 s3 =>
 I.wop (.call ⟨.builtin .copy, ⟨[(.const v41_2), (.const v44_3)]⟩, #[49, 49]⟩) 3 s3 fun v45_4 s4 =>
 I.wop (.binOp .add 3 (.const (τ 8)) (.const v45_4) 3) 3 s4 fun v46_5 s5 =>
 Q .normal (U τ [(8, v46_5), (46, v46_5), (45, v45_4), (44, v44_3), (43, (τ 8)), (42, (τ 7)), (41, v41_2), (40, (τ 8)), (39, (τ 7)), (38, (τ 8)), (37, (.bool true)), (37, v37_1), (36, v36_0), (35, (τ 7)), (34, (τ 8))]) ds s5)
 (Q (.exit 0) (U τ [(37, (.bool false)), (37, v37_1), (36, v36_0), (35, (τ 7)), (34, (τ 8))]) ds s1)
theorem x59_111111000 (I : Prims) (rnd : Option Nat) (τ : Tau) (ds : List Deferred) (s : St) (Q : Ex → WK) : xp I rnd 48 k59_111111000 c59_111111000 [] τ [] ds s (lift Q) = v59_111111000 I rnd τ ds s Q := by kernel_rfl
theorem n59_111111000 [Memo] (ro : Nat) (rnd : Option Nat) (τ : Tau) (ds : List Deferred) (s : St) (Q : Ex → WK) : wp P ro 48 rnd c59_111111000 τ ds s Q = v59_111111000 (prims P ro) rnd τ ds s Q := xp_wp rnd 48 P ro (x59_111111000 _ rnd τ ds s Q)
def v59 (I : Prims) (a0 a1 : Value) (si : St) (K : Value → St → Prop) : Prop :=
 I.wop (.binOp .lss 3 (.const a1) (.const (.int .i64 0)) 3) 4 (ent si) fun v10_0 s0 =>
 wdec v10_0
 (I.wop (.makeInterface 9 (.const (.string (ByteArray.mk #[99, 97, 110, 110, 111, 116, 32, 98, 101, 32, 110, 101, 103, 97, 116, 105, 118, 101])))) 20 s0 fun v11_1 s1 =>
 I.wop (.panic (.tmp 11)) 0 s1 fun _ s2 =>
 I.hold (xp I none 48 k59 c59_11 [1, 1] (U undefT [(11, v11_1), (10, (.bool true)), (10, v10_0), (9, a1), (4, (.slice none 0 0)), (0, a0), (1, a1)]) [] [] s2 (xleave I si Tryd.f59.results.toList K)))
 (I.hold (xp I none 48 k59 c59_11 [1, 1] (U undefT [(10, (.bool false)), (10, v10_0), (9, a1), (4, (.slice none 0 0)), (0, a0), (1, a1)]) [] [] s0 (xleave I si Tryd.f59.results.toList K)))
theorem x59 (I : Prims) (a0 a1 : Value) (si : St) (K : Value → St → Prop) : xbody I 48 k59 Tryd.f59 c59 [a0, a1] si K = v59 I a0 a1 si K := by kernel_rfl
theorem n59 [Memo] (ro : Nat) (a0 a1 : Value) (si : St) (K : Value → St → Prop) : wbody P ro 48 Tryd.f59 c59 [a0, a1] si K = v59 (prims P ro) a0 a1 si K := xbody_eq 48 P ro (x59 _ a0 a1 si K)
theorem r59 (I : Prims) (si : St) (K : Value → St → Prop) (τ : Tau) (ds : List Deferred) (s : St) : xleave I si Tryd.f59.results.toList K .ret τ [] ds s =
 (xdefers I ds s fun s0 =>
 I.fin si K (τ 4) s0) := by kernel_rfl
end Go.VE
