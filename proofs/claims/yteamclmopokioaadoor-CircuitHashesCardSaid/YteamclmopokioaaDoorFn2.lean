/-
  What the functions' code does, operation by operation.
-/
import Derived.Test.YteamclmopokioaaDoorFn1
set_option linter.unusedSimpArgs false
set_option linter.unusedVariables false
namespace Go.VE
open Go Go.Proofs
/- attestor/attestorref23.order -/
noncomputable def c85 : Code := bodyOf Tryd.f85
noncomputable def c85_110100 : Code := subCode [1, 1, 0, 1, 0, 0] c85
noncomputable def c85_1110100 : Code := subCode [1, 1, 1, 0, 1, 0, 0] c85
noncomputable def c85_11110100 : Code := subCode [1, 1, 1, 1, 0, 1, 0, 0] c85
noncomputable def c85_11101001001110100 : Code := subCode [1, 1, 1, 0, 1, 0, 0, 1, 0, 0, 1, 1, 1, 0, 1, 0, 0] c85
noncomputable def c85_1110100100111101 : Code := subCode [1, 1, 1, 0, 1, 0, 0, 1, 0, 0, 1, 1, 1, 1, 0, 1] c85
noncomputable def c85_111010010011111 : Code := subCode [1, 1, 1, 0, 1, 0, 0, 1, 0, 0, 1, 1, 1, 1, 1] c85
noncomputable def c85_111010011 : Code := subCode [1, 1, 1, 0, 1, 0, 0, 1, 1] c85
noncomputable def c85_11101001001111110100 : Code := subCode [1, 1, 1, 0, 1, 0, 0, 1, 0, 0, 1, 1, 1, 1, 1, 1, 0, 1, 0, 0] c85
def k85 : List (List Nat) := []
def k85_110100 : List (List Nat) := []
theorem l85_110100 : ltCode 153 c85_110100 = true := by kernel_rfl
theorem m85_110100 : notMap c85_110100 = true := by kernel_rfl
def k85_1110100 : List (List Nat) := [[1, 0, 1, 1, 1, 1, 0, 0, 1]]
theorem l85_1110100 : ltCode 153 c85_1110100 = true := by kernel_rfl
theorem m85_1110100 : notMap c85_1110100 = true := by kernel_rfl
def k85_11110100 : List (List Nat) := []
theorem l85_11110100 : ltCode 153 c85_11110100 = true := by kernel_rfl
theorem m85_11110100 : notMap c85_11110100 = true := by kernel_rfl
def k85_11101001001110100 : List (List Nat) := []
theorem l85_11101001001110100 : ltCode 153 c85_11101001001110100 = true := by kernel_rfl
theorem m85_11101001001110100 : notMap c85_11101001001110100 = true := by kernel_rfl
def k85_11101001001111110100 : List (List Nat) := []
theorem l85_11101001001111110100 : ltCode 153 c85_11101001001111110100 = true := by kernel_rfl
theorem m85_11101001001111110100 : notMap c85_11101001001111110100 = true := by kernel_rfl
theorem b85 : BodyOk P 153 1 85 Tryd.f85 c85 := ⟨Tryd.func85, by kernel_rfl, by kernel_rfl, by kernel_rfl, by kernel_rfl, by kernel_rfl⟩
def v85_110100 (I : Prims) (rnd : Option Nat) (τ : Tau) (ds : List Deferred) (s : St) (Q : Ex → WK) : Prop :=
 I.wop (.call ⟨.builtin .len, ⟨[(.const (τ 4))]⟩, #[30]⟩) 3 s fun v19_0 s0 =>
 I.wop (.binOp .lss 3 (.const (τ 5)) (.const v19_0) 3) 4 s0 fun v20_1 s1 =>
 wdec v20_1
 (I.wop (.indexAddr 30 (.const (τ 4)) (.const (τ 5))) 0 s1 fun v25_2 s2 =>
 I.wop (.store 3 (.const v25_2) (.const (.int .i64 (-1)))) 0 s2 fun _ s3 =>
 I.wop (.fieldAddr 34 (.const (τ 1)) 2) 0 s3 fun v27_4 s4 =>
 I.wop (.load 3 (.const v27_4)) 3 s4 fun v28_5 s5 =>
 I.wop (.fieldAddr 34 (.const (τ 1)) 3) 0 s5 fun v29_6 s6 =>
 I.wop (.load 3 (.const v29_6)) 3 s6 fun v30_7 s7 =>
 I.wop (.binOp .add 3 (.const v28_5) (.const v30_7) 3) 3 s7 fun v31_8 s8 =>
 I.wop (.binOp .lss 3 (.const (τ 5)) (.const v31_8) 3) 4 s8 fun v32_9 s9 =>
 wdec v32_9
 (I.wop (.indexAddr 30 (.const (τ 4)) (.const (τ 5))) 0 s9 fun v35_10 s10 =>
 I.wop (.store 3 (.const v35_10) (.const (.int .i64 0))) 0 s10 fun _ s11 =>
 I.wop (.binOp .add 3 (.const (τ 5)) (.const (.int .i64 1)) 3) 3 s11 fun v22_12 s12 =>
 Q .normal (U τ [(5, v22_12), (22, v22_12), (21, (τ 5)), (35, v35_10), (34, (τ 5)), (33, (τ 4)), (32, (.bool true)), (32, v32_9), (31, v31_8), (30, v30_7), (29, v29_6), (28, v28_5), (27, v27_4), (26, (τ 5)), (25, v25_2), (24, (τ 5)), (23, (τ 4)), (20, (.bool true)), (20, v20_1), (19, v19_0), (18, (τ 4)), (17, (τ 5))]) ds s12)
 (I.wop (.binOp .add 3 (.const (τ 5)) (.const (.int .i64 1)) 3) 3 s9 fun v22_13 s13 =>
 Q .normal (U τ [(5, v22_13), (22, v22_13), (21, (τ 5)), (32, (.bool false)), (32, v32_9), (31, v31_8), (30, v30_7), (29, v29_6), (28, v28_5), (27, v27_4), (26, (τ 5)), (25, v25_2), (24, (τ 5)), (23, (τ 4)), (20, (.bool true)), (20, v20_1), (19, v19_0), (18, (τ 4)), (17, (τ 5))]) ds s13))
 (Q (.exit 0) (U τ [(20, (.bool false)), (20, v20_1), (19, v19_0), (18, (τ 4)), (17, (τ 5))]) ds s1)
theorem x85_110100 (I : Prims) (rnd : Option Nat) (τ : Tau) (ds : List Deferred) (s : St) (Q : Ex → WK) : xp I rnd 153 k85_110100 c85_110100 [] τ [] ds s (lift Q) = v85_110100 I rnd τ ds s Q := by kernel_rfl
theorem n85_110100 [Memo] (ro : Nat) (rnd : Option Nat) (τ : Tau) (ds : List Deferred) (s : St) (Q : Ex → WK) : wp P ro 153 rnd c85_110100 τ ds s Q = v85_110100 (prims P ro) rnd τ ds s Q := xp_wp rnd 153 P ro (x85_110100 _ rnd τ ds s Q)
def v85_1110100 (I : Prims) (rnd : Option Nat) (τ : Tau) (ds : List Deferred) (s : St) (Q : Ex → WK) : Prop :=
 I.wop (.fieldAddr 34 (.const (τ 1)) 4) 0 s fun v37_0 s0 =>
 I.wop (.load 32 (.const v37_0)) 32 s0 fun v38_1 s1 =>
 I.wop (.call ⟨.builtin .len, ⟨[(.const v38_1)]⟩, #[32]⟩) 3 s1 fun v39_2 s2 =>
 I.wop (.binOp .lss 3 (.const (τ 6)) (.const v39_2) 3) 4 s2 fun v40_3 s3 =>
 wdec v40_3
 (I.wop (.fieldAddr 34 (.const (τ 1)) 4) 0 s3 fun v43_4 s4 =>
 I.wop (.load 32 (.const v43_4)) 32 s4 fun v44_5 s5 =>
 I.wop (.indexAddr 32 (.const v44_5) (.const (τ 6))) 0 s5 fun v46_6 s6 =>
 I.wop (.load 94 (.const v46_6)) 94 s6 fun v47_7 s7 =>
 I.wop (.alloc 94) 0 s7 fun v7_8 s8 =>
 I.wop (.store 94 (.const v7_8) (.const v47_7)) 0 s8 fun _ s9 =>
 I.wop (.load 94 (.const v7_8)) 94 s9 fun v48_10 s10 =>
 I.call 98 [v48_10] s10 fun v49_11 s11 =>
 I.loop 153 rnd c85_11101001001110100 (U τ [(10, (.int .i64 0)), (9, (.int .i64 0)), (8, v49_11), (49, v49_11), (48, v48_10), (7, v7_8), (47, v47_7), (46, v46_6), (45, (τ 6)), (44, v44_5), (43, v43_4), (40, (.bool true)), (40, v40_3), (39, v39_2), (38, v38_1), (37, v37_0), (36, (τ 6))]) ds s11 (fun τ ds s => ((lift Q) .ret) τ [] ds s) [(4, fun τ12 ds12 s12 =>
 I.wop (.fieldAddr 94 (.const (τ12 7)) 0) 0 s12 fun v84_13 s13 =>
 I.wop (.load 92 (.const v84_13)) 92 s13 fun v85_14 s14 =>
 I.wop (.binOp .eql 92 (.const v85_14) (.const (.int .u8 1)) 92) 4 s14 fun v86_15 s15 =>
 wdec v86_15
 (I.wop (.fieldAddr 94 (.const (τ12 7)) 5) 0 s15 fun v88_16 s16 =>
 I.wop (.load 24 (.const v88_16)) 24 s16 fun v89_17 s17 =>
 I.wop (.binOp .neq 24 (.const v89_17) (.const (.int .u64 0)) 24) 4 s17 fun v90_18 s18 =>
 wdec v90_18
 (I.wop (.fieldAddr 94 (.const (τ12 7)) 1) 0 s18 fun v94_19 s19 =>
 I.wop (.indexAddr 53 (.const v94_19) (.const (.int .i64 2))) 0 s19 fun v95_20 s20 =>
 I.wop (.load 3 (.const v95_20)) 3 s20 fun v96_21 s21 =>
 I.wop (.indexAddr 30 (.const (τ12 4)) (.const v96_21)) 0 s21 fun v97_22 s22 =>
 I.wop (.load 3 (.const v97_22)) 3 s22 fun v98_23 s23 =>
 I.wop (.binOp .lss 3 (.const v98_23) (.const (.int .i64 0)) 3) 4 s23 fun v99_24 s24 =>
 I.hold (xp I rnd 153 k85_1110100 c85_1110100100111101 [1, 0, 1, 1, 1, 1, 0, 0, 1] (U τ12 [(100, v99_24), (92, (.bool true)), (99, v99_24), (92, (.bool true)), (98, v98_23), (92, (.bool true)), (97, v97_22), (92, (.bool true)), (96, v96_21), (92, (.bool true)), (95, v95_20), (92, (.bool true)), (94, v94_19), (92, (.bool true)), (93, (τ12 4)), (92, (.bool true)), (92, v90_18), (91, v90_18), (87, (.bool true)), (90, v90_18), (87, (.bool true)), (89, v89_17), (87, (.bool true)), (88, v88_16), (87, (.bool true)), (87, v86_15), (86, v86_15), (85, v85_14), (84, v84_13)]) [] ds12 s24 (sX I rnd 153 k85_1110100 c85_111010010011111 [1, 1, 1, 1, 1, 0, 0, 1] (blkX 3 (sX I rnd 153 k85_1110100 c85_111010011 [1, 1] (lift Q))))))
 (I.hold (xp I rnd 153 k85_1110100 c85_1110100100111101 [1, 0, 1, 1, 1, 1, 0, 0, 1] (U τ12 [(100, (.bool false)), (92, (.bool false)), (99, undef), (92, (.bool false)), (98, undef), (92, (.bool false)), (97, undef), (92, (.bool false)), (96, undef), (92, (.bool false)), (95, undef), (92, (.bool false)), (94, undef), (92, (.bool false)), (93, undef), (92, (.bool false)), (92, v90_18), (91, v90_18), (87, (.bool true)), (90, v90_18), (87, (.bool true)), (89, v89_17), (87, (.bool true)), (88, v88_16), (87, (.bool true)), (87, v86_15), (86, v86_15), (85, v85_14), (84, v84_13)]) [] ds12 s18 (sX I rnd 153 k85_1110100 c85_111010010011111 [1, 1, 1, 1, 1, 0, 0, 1] (blkX 3 (sX I rnd 153 k85_1110100 c85_111010011 [1, 1] (lift Q)))))))
 (I.hold (xp I rnd 153 k85_1110100 c85_1110100100111101 [1, 0, 1, 1, 1, 1, 0, 0, 1] (U τ12 [(100, (.bool false)), (92, (.bool false)), (99, undef), (92, (.bool false)), (98, undef), (92, (.bool false)), (97, undef), (92, (.bool false)), (96, undef), (92, (.bool false)), (95, undef), (92, (.bool false)), (94, undef), (92, (.bool false)), (93, undef), (92, (.bool false)), (92, (.bool false)), (91, (.bool false)), (87, (.bool false)), (90, undef), (87, (.bool false)), (89, undef), (87, (.bool false)), (88, undef), (87, (.bool false)), (87, v86_15), (86, v86_15), (85, v85_14), (84, v84_13)]) [] ds12 s15 (sX I rnd 153 k85_1110100 c85_111010010011111 [1, 1, 1, 1, 1, 0, 0, 1] (blkX 3 (sX I rnd 153 k85_1110100 c85_111010011 [1, 1] (lift Q)))))))])
 (Q (.exit 2) (U τ [(40, (.bool false)), (40, v40_3), (39, v39_2), (38, v38_1), (37, v37_0), (36, (τ 6))]) ds s3)
theorem x85_1110100 (I : Prims) (rnd : Option Nat) (τ : Tau) (ds : List Deferred) (s : St) (Q : Ex → WK) : xp I rnd 153 k85_1110100 c85_1110100 [] τ [] ds s (lift Q) = v85_1110100 I rnd τ ds s Q := by kernel_rfl
theorem n85_1110100 [Memo] (ro : Nat) (rnd : Option Nat) (τ : Tau) (ds : List Deferred) (s : St) (Q : Ex → WK) : wp P ro 153 rnd c85_1110100 τ ds s Q = v85_1110100 (prims P ro) rnd τ ds s Q := xp_wp rnd 153 P ro (x85_1110100 _ rnd τ ds s Q)
def v85_11110100 (I : Prims) (rnd : Option Nat) (τ : Tau) (ds : List Deferred) (s : St) (Q : Ex → WK) : Prop :=
 I.wop (.call ⟨.builtin .len, ⟨[(.const (τ 4))]⟩, #[30]⟩) 3 s fun v143_0 s0 =>
 I.wop (.binOp .lss 3 (.const (τ 13)) (.const v143_0) 3) 4 s0 fun v144_1 s1 =>
 wdec v144_1
 (I.wop (.indexAddr 30 (.const (τ 4)) (.const (τ 13))) 0 s1 fun v149_2 s2 =>
 I.wop (.load 3 (.const v149_2)) 3 s2 fun v150_3 s3 =>
 I.wop (.binOp .lss 3 (.const v150_3) (.const (.int .i64 0)) 3) 4 s3 fun v151_4 s4 =>
 wdec v151_4
 (Q .ret (U τ [(3, (.bool false)), (2, (.slice none 0 0)), (151, (.bool true)), (151, v151_4), (150, v150_3), (149, v149_2), (148, (τ 13)), (147, (τ 4)), (144, (.bool true)), (144, v144_1), (143, v143_0), (142, (τ 4)), (141, (τ 13))]) ds s4)
 (I.wop (.binOp .add 3 (.const (τ 13)) (.const (.int .i64 1)) 3) 3 s4 fun v146_5 s5 =>
 Q .normal (U τ [(13, v146_5), (146, v146_5), (145, (τ 13)), (151, (.bool false)), (151, v151_4), (150, v150_3), (149, v149_2), (148, (τ 13)), (147, (τ 4)), (144, (.bool true)), (144, v144_1), (143, v143_0), (142, (τ 4)), (141, (τ 13))]) ds s5))
 (Q (.exit 8) (U τ [(144, (.bool false)), (144, v144_1), (143, v143_0), (142, (τ 4)), (141, (τ 13))]) ds s1)
theorem x85_11110100 (I : Prims) (rnd : Option Nat) (τ : Tau) (ds : List Deferred) (s : St) (Q : Ex → WK) : xp I rnd 153 k85_11110100 c85_11110100 [] τ [] ds s (lift Q) = v85_11110100 I rnd τ ds s Q := by kernel_rfl
theorem n85_11110100 [Memo] (ro : Nat) (rnd : Option Nat) (τ : Tau) (ds : List Deferred) (s : St) (Q : Ex → WK) : wp P ro 153 rnd c85_11110100 τ ds s Q = v85_11110100 (prims P ro) rnd τ ds s Q := xp_wp rnd 153 P ro (x85_11110100 _ rnd τ ds s Q)
def v85_11101001001110100 (I : Prims) (rnd : Option Nat) (τ : Tau) (ds : List Deferred) (s : St) (Q : Ex → WK) : Prop :=
 I.wop (.call ⟨.builtin .len, ⟨[(.const (τ 8))]⟩, #[30]⟩) 3 s fun v52_0 s0 =>
 I.wop (.binOp .lss 3 (.const (τ 10)) (.const v52_0) 3) 4 s0 fun v53_1 s1 =>
 wdec v53_1
 (I.wop (.indexAddr 30 (.const (τ 8)) (.const (τ 10))) 0 s1 fun v59_2 s2 =>
 I.wop (.load 3 (.const v59_2)) 3 s2 fun v60_3 s3 =>
 I.wop (.fieldAddr 94 (.const (τ 7)) 1) 0 s3 fun v61_4 s4 =>
 I.wop (.indexAddr 53 (.const v61_4) (.const v60_3)) 0 s4 fun v62_5 s5 =>
 I.wop (.load 3 (.const v62_5)) 3 s5 fun v63_6 s6 =>
 I.wop (.indexAddr 30 (.const (τ 4)) (.const v63_6)) 0 s6 fun v64_7 s7 =>
 I.wop (.load 3 (.const v64_7)) 3 s7 fun v65_8 s8 =>
 I.wop (.binOp .lss 3 (.const v65_8) (.const (.int .i64 0)) 3) 4 s8 fun v67_9 s9 =>
 wdec v67_9
 (I.wop (.fieldAddr 94 (.const (τ 7)) 0) 0 s9 fun v69_10 s10 =>
 I.wop (.load 92 (.const v69_10)) 92 s10 fun v70_11 s11 =>
 I.wop (.binOp .eql 92 (.const v70_11) (.const (.int .u8 1)) 92) 4 s11 fun v71_12 s12 =>
 wdec v71_12
 (I.wop (.indexAddr 30 (.const (τ 8)) (.const (τ 10))) 0 s12 fun v75_13 s13 =>
 I.wop (.load 3 (.const v75_13)) 3 s13 fun v76_14 s14 =>
 I.wop (.binOp .eql 3 (.const v76_14) (.const (.int .i64 2)) 3) 4 s14 fun v77_15 s15 =>
 I.wop (.unOp .not 4 (.const v77_15)) 4 s15 fun v79_16 s16 =>
 wdec v79_16
 (Q .ret (U τ [(3, (.bool false)), (2, (.slice none 0 0)), (80, (.bool true)), (80, v79_16), (68, (.bool true)), (79, v79_16), (68, (.bool true)), (78, v77_15), (72, (.bool true)), (68, (.bool true)), (77, v77_15), (72, (.bool true)), (76, v76_14), (72, (.bool true)), (75, v75_13), (72, (.bool true)), (74, (τ 10)), (72, (.bool true)), (73, (τ 8)), (72, (.bool true)), (72, v71_12), (68, (.bool true)), (71, v71_12), (68, (.bool true)), (70, v70_11), (68, (.bool true)), (69, v69_10), (68, (.bool true)), (68, v67_9), (67, v67_9), (66, v65_8), (11, v65_8), (65, v65_8), (64, v64_7), (63, v63_6), (62, v62_5), (61, v61_4), (60, v60_3), (59, v59_2), (58, (τ 10)), (57, (τ 8)), (56, (τ 4)), (53, (.bool true)), (53, v53_1), (52, v52_0), (51, (τ 8)), (50, (τ 10))]) ds s16)
 (I.wop (.call ⟨.builtin .max, ⟨[(.const (τ 9)), (.const v65_8)]⟩, #[3, 3]⟩) 3 s16 fun v83_17 s17 =>
 I.wop (.binOp .add 3 (.const (τ 10)) (.const (.int .i64 1)) 3) 3 s17 fun v55_18 s18 =>
 Q .normal (U τ [(10, v55_18), (55, v55_18), (54, (τ 10)), (9, v83_17), (83, v83_17), (82, v65_8), (81, (τ 9)), (80, (.bool false)), (80, v79_16), (68, (.bool true)), (79, v79_16), (68, (.bool true)), (78, v77_15), (72, (.bool true)), (68, (.bool true)), (77, v77_15), (72, (.bool true)), (76, v76_14), (72, (.bool true)), (75, v75_13), (72, (.bool true)), (74, (τ 10)), (72, (.bool true)), (73, (τ 8)), (72, (.bool true)), (72, v71_12), (68, (.bool true)), (71, v71_12), (68, (.bool true)), (70, v70_11), (68, (.bool true)), (69, v69_10), (68, (.bool true)), (68, v67_9), (67, v67_9), (66, v65_8), (11, v65_8), (65, v65_8), (64, v64_7), (63, v63_6), (62, v62_5), (61, v61_4), (60, v60_3), (59, v59_2), (58, (τ 10)), (57, (τ 8)), (56, (τ 4)), (53, (.bool true)), (53, v53_1), (52, v52_0), (51, (τ 8)), (50, (τ 10))]) ds s18))
 (I.wop (.unOp .not 4 (.const (.bool false))) 4 s12 fun v79_19 s19 =>
 wdec v79_19
 (Q .ret (U τ [(3, (.bool false)), (2, (.slice none 0 0)), (80, (.bool true)), (80, v79_19), (68, (.bool true)), (79, v79_19), (68, (.bool true)), (78, (.bool false)), (72, (.bool false)), (68, (.bool true)), (77, undef), (72, (.bool false)), (76, undef), (72, (.bool false)), (75, undef), (72, (.bool false)), (74, undef), (72, (.bool false)), (73, undef), (72, (.bool false)), (72, v71_12), (68, (.bool true)), (71, v71_12), (68, (.bool true)), (70, v70_11), (68, (.bool true)), (69, v69_10), (68, (.bool true)), (68, v67_9), (67, v67_9), (66, v65_8), (11, v65_8), (65, v65_8), (64, v64_7), (63, v63_6), (62, v62_5), (61, v61_4), (60, v60_3), (59, v59_2), (58, (τ 10)), (57, (τ 8)), (56, (τ 4)), (53, (.bool true)), (53, v53_1), (52, v52_0), (51, (τ 8)), (50, (τ 10))]) ds s19)
 (I.wop (.call ⟨.builtin .max, ⟨[(.const (τ 9)), (.const v65_8)]⟩, #[3, 3]⟩) 3 s19 fun v83_20 s20 =>
 I.wop (.binOp .add 3 (.const (τ 10)) (.const (.int .i64 1)) 3) 3 s20 fun v55_21 s21 =>
 Q .normal (U τ [(10, v55_21), (55, v55_21), (54, (τ 10)), (9, v83_20), (83, v83_20), (82, v65_8), (81, (τ 9)), (80, (.bool false)), (80, v79_19), (68, (.bool true)), (79, v79_19), (68, (.bool true)), (78, (.bool false)), (72, (.bool false)), (68, (.bool true)), (77, undef), (72, (.bool false)), (76, undef), (72, (.bool false)), (75, undef), (72, (.bool false)), (74, undef), (72, (.bool false)), (73, undef), (72, (.bool false)), (72, v71_12), (68, (.bool true)), (71, v71_12), (68, (.bool true)), (70, v70_11), (68, (.bool true)), (69, v69_10), (68, (.bool true)), (68, v67_9), (67, v67_9), (66, v65_8), (11, v65_8), (65, v65_8), (64, v64_7), (63, v63_6), (62, v62_5), (61, v61_4), (60, v60_3), (59, v59_2), (58, (τ 10)), (57, (τ 8)), (56, (τ 4)), (53, (.bool true)), (53, v53_1), (52, v52_0), (51, (τ 8)), (50, (τ 10))]) ds s21)))
 (I.wop (.call ⟨.builtin .max, ⟨[(.const (τ 9)), (.const v65_8)]⟩, #[3, 3]⟩) 3 s9 fun v83_22 s22 =>
 I.wop (.binOp .add 3 (.const (τ 10)) (.const (.int .i64 1)) 3) 3 s22 fun v55_23 s23 =>
 Q .normal (U τ [(10, v55_23), (55, v55_23), (54, (τ 10)), (9, v83_22), (83, v83_22), (82, v65_8), (81, (τ 9)), (80, (.bool false)), (80, (.bool false)), (68, (.bool false)), (79, undef), (68, (.bool false)), (78, undef), (68, (.bool false)), (77, undef), (76, undef), (75, undef), (74, undef), (73, undef), (72, undef), (68, (.bool false)), (71, undef), (68, (.bool false)), (70, undef), (68, (.bool false)), (69, undef), (68, (.bool false)), (68, v67_9), (67, v67_9), (66, v65_8), (11, v65_8), (65, v65_8), (64, v64_7), (63, v63_6), (62, v62_5), (61, v61_4), (60, v60_3), (59, v59_2), (58, (τ 10)), (57, (τ 8)), (56, (τ 4)), (53, (.bool true)), (53, v53_1), (52, v52_0), (51, (τ 8)), (50, (τ 10))]) ds s23))
 (Q (.exit 4) (U τ [(53, (.bool false)), (53, v53_1), (52, v52_0), (51, (τ 8)), (50, (τ 10))]) ds s1)
theorem x85_11101001001110100 (I : Prims) (rnd : Option Nat) (τ : Tau) (ds : List Deferred) (s : St) (Q : Ex → WK) : xp I rnd 153 k85_11101001001110100 c85_11101001001110100 [] τ [] ds s (lift Q) = v85_11101001001110100 I rnd τ ds s Q := by kernel_rfl
theorem n85_11101001001110100 [Memo] (ro : Nat) (rnd : Option Nat) (τ : Tau) (ds : List Deferred) (s : St) (Q : Ex → WK) : wp P ro 153 rnd c85_11101001001110100 τ ds s Q = v85_11101001001110100 (prims P ro) rnd τ ds s Q := xp_wp rnd 153 P ro (x85_11101001001110100 _ rnd τ ds s Q)
def v85_1110100100111101 (I : Prims) (rnd : Option Nat) (τ : Tau) (ds : List Deferred) (s : St) (Q : Ex → XK) : Prop :=
 wdec (τ 100)
 (I.wop (.fieldAddr 94 (.const (τ 7)) 1) 0 s fun v102_0 s0 =>
 I.wop (.indexAddr 53 (.const v102_0) (.const (.int .i64 2))) 0 s0 fun v103_1 s1 =>
 I.wop (.load 3 (.const v103_1)) 3 s1 fun v104_2 s2 =>
 I.wop (.binOp .add 3 (.const (τ 9)) (.const (.int .i64 1)) 3) 3 s2 fun v106_3 s3 =>
 I.wop (.indexAddr 30 (.const (τ 4)) (.const v104_2)) 0 s3 fun v107_4 s4 =>
 I.wop (.store 3 (.const v107_4) (.const v106_3)) 0 s4 fun _ s5 =>
 Q .normal τ [(107, v107_4), (106, v106_3), (105, (τ 9)), (104, v104_2), (103, v103_1), (102, v102_0), (101, (τ 4)), (100, (.bool true))] ds s5)
 (Q .normal τ [(100, (.bool false))] ds s)
theorem n85_1110100100111101 (I : Prims) (rnd : Option Nat) (τ : Tau) (ds : List Deferred) (s : St) (Q : Ex → XK) : xp I rnd 153 k85_1110100 c85_1110100100111101 [1, 0, 1, 1, 1, 1, 0, 0, 1] τ [] ds s Q = v85_1110100100111101 I rnd τ ds s Q := by kernel_rfl
def v85_111010010011111 (I : Prims) (rnd : Option Nat) (τ : Tau) (ds : List Deferred) (s : St) (Q : Ex → XK) : Prop :=
 I.wop (.fieldAddr 94 (.const (τ 7)) 0) 0 s fun v108_0 s0 =>
 I.wop (.load 92 (.const v108_0)) 92 s0 fun v109_1 s1 =>
 I.wop (.binOp .eql 92 (.const v109_1) (.const (.int .u8 3)) 92) 4 s1 fun v110_2 s2 =>
 wdec v110_2
 (I.loop 153 rnd c85_11101001001111110100 (U τ [(12, (.int .i64 0)), (110, (.bool true)), (110, v110_2), (109, v109_1), (108, v108_0)]) ds s2 (fun τ ds s => (Q .ret) τ [] ds s) [(6, fun τ3 ds3 s3 =>
 Q .normal τ3 [] ds3 s3)])
 (Q .normal τ [(110, (.bool false)), (110, v110_2), (109, v109_1), (108, v108_0)] ds s2)
theorem n85_111010010011111 (I : Prims) (rnd : Option Nat) (τ : Tau) (ds : List Deferred) (s : St) (Q : Ex → XK) : xp I rnd 153 k85_1110100 c85_111010010011111 [1, 1, 1, 1, 1, 0, 0, 1] τ [] ds s Q = v85_111010010011111 I rnd τ ds s Q := by kernel_rfl
def v85_111010011 (I : Prims) (rnd : Option Nat) (τ : Tau) (ds : List Deferred) (s : St) (Q : Ex → XK) : Prop :=
 I.wop (.binOp .add 3 (.const (τ 6)) (.const (.int .i64 1)) 3) 3 s fun v42_0 s0 =>
 Q .normal τ [(6, v42_0), (42, v42_0), (41, (τ 6))] ds s0
theorem n85_111010011 (I : Prims) (rnd : Option Nat) (τ : Tau) (ds : List Deferred) (s : St) (Q : Ex → XK) : xp I rnd 153 k85_1110100 c85_111010011 [1, 1] τ [] ds s Q = v85_111010011 I rnd τ ds s Q := by kernel_rfl
def v85_11101001001111110100 (I : Prims) (rnd : Option Nat) (τ : Tau) (ds : List Deferred) (s : St) (Q : Ex → WK) : Prop :=
 I.wop (.binOp .lss 3 (.const (τ 12)) (.const (.int .i64 4)) 3) 4 s fun v112_0 s0 =>
 wdec v112_0
 (I.wop (.fieldAddr 34 (.const (τ 1)) 4) 0 s0 fun v116_1 s1 =>
 I.wop (.load 32 (.const v116_1)) 32 s1 fun v117_2 s2 =>
 I.wop (.binOp .add 3 (.const (τ 6)) (.const (.int .i64 1)) 3) 3 s2 fun v119_3 s3 =>
 I.wop (.indexAddr 32 (.const v117_2) (.const v119_3)) 0 s3 fun v121_4 s4 =>
 I.wop (.fieldAddr 94 (.const v121_4) 1) 0 s4 fun v122_5 s5 =>
 I.wop (.indexAddr 53 (.const v122_5) (.const (τ 12))) 0 s5 fun v123_6 s6 =>
 I.wop (.load 3 (.const v123_6)) 3 s6 fun v124_7 s7 =>
 I.wop (.indexAddr 30 (.const (τ 4)) (.const v124_7)) 0 s7 fun v125_8 s8 =>
 I.wop (.load 3 (.const v125_8)) 3 s8 fun v126_9 s9 =>
 I.wop (.binOp .lss 3 (.const v126_9) (.const (.int .i64 0)) 3) 4 s9 fun v127_10 s10 =>
 wdec v127_10
 (I.wop (.fieldAddr 34 (.const (τ 1)) 4) 0 s10 fun v129_11 s11 =>
 I.wop (.load 32 (.const v129_11)) 32 s11 fun v130_12 s12 =>
 I.wop (.binOp .add 3 (.const (τ 6)) (.const (.int .i64 1)) 3) 3 s12 fun v132_13 s13 =>
 I.wop (.indexAddr 32 (.const v130_12) (.const v132_13)) 0 s13 fun v134_14 s14 =>
 I.wop (.fieldAddr 94 (.const v134_14) 1) 0 s14 fun v135_15 s15 =>
 I.wop (.indexAddr 53 (.const v135_15) (.const (τ 12))) 0 s15 fun v136_16 s16 =>
 I.wop (.load 3 (.const v136_16)) 3 s16 fun v137_17 s17 =>
 I.wop (.binOp .add 3 (.const (τ 9)) (.const (.int .i64 1)) 3) 3 s17 fun v139_18 s18 =>
 I.wop (.indexAddr 30 (.const (τ 4)) (.const v137_17)) 0 s18 fun v140_19 s19 =>
 I.wop (.store 3 (.const v140_19) (.const v139_18)) 0 s19 fun _ s20 =>
 I.wop (.binOp .add 3 (.const (τ 12)) (.const (.int .i64 1)) 3) 3 s20 fun v114_21 s21 =>
 Q .normal (U τ [(12, v114_21), (114, v114_21), (113, (τ 12)), (140, v140_19), (139, v139_18), (138, (τ 9)), (137, v137_17), (136, v136_16), (135, v135_15), (134, v134_14), (133, (τ 12)), (132, v132_13), (131, (τ 6)), (130, v130_12), (129, v129_11), (128, (τ 4)), (127, (.bool true)), (127, v127_10), (126, v126_9), (125, v125_8), (124, v124_7), (123, v123_6), (122, v122_5), (121, v121_4), (120, (τ 12)), (119, v119_3), (118, (τ 6)), (117, v117_2), (116, v116_1), (115, (τ 4)), (112, (.bool true)), (112, v112_0), (111, (τ 12))]) ds s21)
 (I.wop (.binOp .add 3 (.const (τ 12)) (.const (.int .i64 1)) 3) 3 s10 fun v114_22 s22 =>
 Q .normal (U τ [(12, v114_22), (114, v114_22), (113, (τ 12)), (127, (.bool false)), (127, v127_10), (126, v126_9), (125, v125_8), (124, v124_7), (123, v123_6), (122, v122_5), (121, v121_4), (120, (τ 12)), (119, v119_3), (118, (τ 6)), (117, v117_2), (116, v116_1), (115, (τ 4)), (112, (.bool true)), (112, v112_0), (111, (τ 12))]) ds s22))
 (Q (.exit 6) (U τ [(112, (.bool false)), (112, v112_0), (111, (τ 12))]) ds s0)
theorem x85_11101001001111110100 (I : Prims) (rnd : Option Nat) (τ : Tau) (ds : List Deferred) (s : St) (Q : Ex → WK) : xp I rnd 153 k85_11101001001111110100 c85_11101001001111110100 [] τ [] ds s (lift Q) = v85_11101001001111110100 I rnd τ ds s Q := by kernel_rfl
theorem n85_11101001001111110100 [Memo] (ro : Nat) (rnd : Option Nat) (τ : Tau) (ds : List Deferred) (s : St) (Q : Ex → WK) : wp P ro 153 rnd c85_11101001001111110100 τ ds s Q = v85_11101001001111110100 (prims P ro) rnd τ ds s Q := xp_wp rnd 153 P ro (x85_11101001001111110100 _ rnd τ ds s Q)
def v85 (I : Prims) (a0 : Value) (si : St) (K : Value → St → Prop) : Prop :=
 I.wop (.box 34 (.const a0)) 0 (ent si) fun v1_0 s0 =>
 I.wop (.fieldAddr 34 (.const v1_0) 1) 0 s0 fun v14_1 s1 =>
 I.wop (.load 3 (.const v14_1)) 3 s1 fun v15_2 s2 =>
 I.wop (.makeSlice 30 (.const v15_2) (.const v15_2)) 30 s2 fun v16_3 s3 =>
 I.loop 153 none c85_110100 (U undefT [(5, (.int .i64 0)), (4, v16_3), (16, v16_3), (15, v15_2), (14, v14_1), (3, (.bool false)), (2, (.slice none 0 0)), (1, v1_0), (0, a0)]) [] s3 (fun τ ds s => ((xleave I si Tryd.f85.results.toList K) .ret) τ [] ds s) [(0, fun τ4 ds4 s4 =>
 I.loop 153 none c85_1110100 (U τ4 [(6, (.int .i64 0))]) ds4 s4 (fun τ ds s => ((xleave I si Tryd.f85.results.toList K) .ret) τ [] ds s) [(2, fun τ5 ds5 s5 =>
 I.loop 153 none c85_11110100 (U τ5 [(13, (.int .i64 0))]) ds5 s5 (fun τ ds s => ((xleave I si Tryd.f85.results.toList K) .ret) τ [] ds s) [(8, fun τ6 ds6 s6 =>
 xdefers I ds6 s6 fun s7 =>
 I.fin si K (.tuple (.mk [(τ6 4), (.bool true)])) s7)]), (4, fun _ _ _ =>
 False), (6, fun _ _ _ =>
 False)])]
theorem x85 (I : Prims) (a0 : Value) (si : St) (K : Value → St → Prop) : xbody I 153 k85 Tryd.f85 c85 [a0] si K = v85 I a0 si K := by kernel_rfl
theorem n85 [Memo] (ro : Nat) (a0 : Value) (si : St) (K : Value → St → Prop) : wbody P ro 153 Tryd.f85 c85 [a0] si K = v85 (prims P ro) a0 si K := xbody_eq 153 P ro (x85 _ a0 si K)
theorem r85 (I : Prims) (si : St) (K : Value → St → Prop) (τ : Tau) (ds : List Deferred) (s : St) : xleave I si Tryd.f85.results.toList K .ret τ [] ds s =
 (xdefers I ds s fun s0 =>
 I.fin si K (.tuple (.mk [(τ 2), (τ 3)])) s0) := by kernel_rfl
/- attestor/attestorref01.Sub -/
noncomputable def c86 : Code := bodyOf Tryd.f86
def k86 : List (List Nat) := []
theorem b86 : BodyOk P 25 3 86 Tryd.f86 c86 := ⟨Tryd.func86, by kernel_rfl, by kernel_rfl, by kernel_rfl, by kernel_rfl, by kernel_rfl⟩
def v86 (I : Prims) (a0 a1 a2 : Value) (si : St) (K : Value → St → Prop) : Prop :=
 I.call 16 [a0] (ent si) fun v8_0 s0 =>
 I.wop (.unOp .not 4 (.const v8_0)) 4 s0 fun v9_1 s1 =>
 wdec v9_1
 (I.fin si K (.int .u64 0) s1)
 (I.call 14 [a0] s1 fun v12_2 s2 =>
 I.wop (.binOp .rem 24 (.const a1) (.const v12_2) 24) 24 s2 fun v13_3 s3 =>
 I.call 14 [a0] s3 fun v15_4 s4 =>
 I.wop (.binOp .add 24 (.const v13_3) (.const v15_4) 24) 24 s4 fun v16_5 s5 =>
 I.call 14 [a0] s5 fun v19_6 s6 =>
 I.wop (.binOp .rem 24 (.const a2) (.const v19_6) 24) 24 s6 fun v20_7 s7 =>
 I.wop (.binOp .sub 24 (.const v16_5) (.const v20_7) 24) 24 s7 fun v21_8 s8 =>
 I.call 14 [a0] s8 fun v23_9 s9 =>
 I.wop (.binOp .rem 24 (.const v21_8) (.const v23_9) 24) 24 s9 fun v24_10 s10 =>
 I.fin si K v24_10 s10)
theorem x86 (I : Prims) (a0 a1 a2 : Value) (si : St) (K : Value → St → Prop) : xbody I 25 k86 Tryd.f86 c86 [a0, a1, a2] si K = v86 I a0 a1 a2 si K := by kernel_rfl
theorem n86 [Memo] (ro : Nat) (a0 a1 a2 : Value) (si : St) (K : Value → St → Prop) : wbody P ro 25 Tryd.f86 c86 [a0, a1, a2] si K = v86 (prims P ro) a0 a1 a2 si K := xbody_eq 25 P ro (x86 _ a0 a1 a2 si K)
/- attestor/attestorref01.Inv -/
noncomputable def c87 : Code := bodyOf Tryd.f87
def k87 : List (List Nat) := []
theorem b87 : BodyOk P 14 2 87 Tryd.f87 c87 := ⟨Tryd.func87, by kernel_rfl, by kernel_rfl, by kernel_rfl, by kernel_rfl, by kernel_rfl⟩
def v87 (I : Prims) (a0 a1 : Value) (si : St) (K : Value → St → Prop) : Prop :=
 I.call 16 [a0] (ent si) fun v6_0 s0 =>
 I.wop (.unOp .not 4 (.const v6_0)) 4 s0 fun v7_1 s1 =>
 wdec v7_1
 (I.fin si K (.int .u64 0) s1)
 (I.call 14 [a0] s1 fun v11_2 s2 =>
 I.wop (.binOp .sub 24 (.const v11_2) (.const (.int .u64 2)) 24) 24 s2 fun v12_3 s3 =>
 I.call 33 [a0, a1, v12_3] s3 fun v13_4 s4 =>
 I.fin si K v13_4 s4)
theorem x87 (I : Prims) (a0 a1 : Value) (si : St) (K : Value → St → Prop) : xbody I 14 k87 Tryd.f87 c87 [a0, a1] si K = v87 I a0 a1 si K := by kernel_rfl
theorem n87 [Memo] (ro : Nat) (a0 a1 : Value) (si : St) (K : Value → St → Prop) : wbody P ro 14 Tryd.f87 c87 [a0, a1] si K = v87 (prims P ro) a0 a1 si K := xbody_eq 14 P ro (x87 _ a0 a1 si K)
/- attestor/attestorref06.Round -/
noncomputable def c88 : Code := bodyOf Tryd.f88
noncomputable def c88_110100 : Code := subCode [1, 1, 0, 1, 0, 0] c88
noncomputable def c88_1110100 : Code := subCode [1, 1, 1, 0, 1, 0, 0] c88
noncomputable def c88_111110100 : Code := subCode [1, 1, 1, 1, 1, 0, 1, 0, 0] c88
noncomputable def c88_1111101001001100 : Code := subCode [1, 1, 1, 1, 1, 0, 1, 0, 0, 1, 0, 0, 1, 1, 0, 0] c88
def k88 : List (List Nat) := []
def k88_110100 : List (List Nat) := []
theorem l88_110100 : ltCode 80 c88_110100 = true := by kernel_rfl
theorem m88_110100 : notMap c88_110100 = true := by kernel_rfl
def k88_1110100 : List (List Nat) := []
theorem l88_1110100 : ltCode 80 c88_1110100 = true := by kernel_rfl
theorem m88_1110100 : notMap c88_1110100 = true := by kernel_rfl
def k88_111110100 : List (List Nat) := []
theorem l88_111110100 : ltCode 80 c88_111110100 = true := by kernel_rfl
theorem m88_111110100 : notMap c88_111110100 = true := by kernel_rfl
def k88_1111101001001100 : List (List Nat) := []
theorem l88_1111101001001100 : ltCode 80 c88_1111101001001100 = true := by kernel_rfl
theorem m88_1111101001001100 : notMap c88_1111101001001100 = true := by kernel_rfl
theorem b88 : BodyOk P 80 3 88 Tryd.f88 c88 := ⟨Tryd.func88, by kernel_rfl, by kernel_rfl, by kernel_rfl, by kernel_rfl, by kernel_rfl⟩
def v88_110100 (I : Prims) (rnd : Option Nat) (τ : Tau) (ds : List Deferred) (s : St) (Q : Ex → WK) : Prop :=
 I.wop (.binOp .lss 3 (.const (τ 7)) (.const (.int .i64 4)) 3) 4 s fun v26_0 s0 =>
 wdec v26_0
 (I.wop (.indexAddr 58 (.const (τ 5)) (.const (τ 7))) 0 s0 fun v32_1 s1 =>
 I.wop (.load 24 (.const v32_1)) 24 s1 fun v33_2 s2 =>
 veq v33_2 v33_2 = true ∧ I.call 99 [(τ 0), (τ 1), (τ 7)] s2 fun v37_3 s3 =>
 Keeps [(4, .ptr v32_1)] s2 s3 ∧ I.call 66 [(τ 0), v33_2, v37_3] s3 fun v38_4 s4 =>
 I.wop (.indexAddr 58 (.const (τ 5)) (.const (τ 7))) 0 s4 fun v39_5 s5 =>
 I.wop (.store 24 (.const v39_5) (.const v38_4)) 0 s5 fun _ s6 =>
 I.wop (.binOp .add 3 (.const (τ 7)) (.const (.int .i64 1)) 3) 3 s6 fun v28_7 s7 =>
 Q .normal (U τ [(7, v28_7), (28, v28_7), (27, (τ 7)), (39, v39_5), (38, v38_4), (37, v37_3), (36, (τ 7)), (35, (τ 1)), (34, (τ 0)), (33, v33_2), (32, v32_1), (31, (τ 7)), (30, (τ 0)), (29, (τ 7)), (26, (.bool true)), (26, v26_0), (25, (τ 7))]) ds s7)
 (Q (.exit 0) (U τ [(26, (.bool false)), (26, v26_0), (25, (τ 7))]) ds s0)
theorem x88_110100 (I : Prims) (rnd : Option Nat) (τ : Tau) (ds : List Deferred) (s : St) (Q : Ex → WK) : xp I rnd 80 k88_110100 c88_110100 [] τ [] ds s (lift Q) = v88_110100 I rnd τ ds s Q := by kernel_rfl
theorem n88_110100 [Memo] (ro : Nat) (rnd : Option Nat) (τ : Tau) (ds : List Deferred) (s : St) (Q : Ex → WK) : wp P ro 80 rnd c88_110100 τ ds s Q = v88_110100 (prims P ro) rnd τ ds s Q := xp_wp rnd 80 P ro (x88_110100 _ rnd τ ds s Q)
def v88_1110100 (I : Prims) (rnd : Option Nat) (τ : Tau) (ds : List Deferred) (s : St) (Q : Ex → WK) : Prop :=
 I.wop (.binOp .lss 3 (.const (τ 8)) (.const (.int .i64 4)) 3) 4 s fun v41_0 s0 =>
 wdec v41_0
 (I.wop (.indexAddr 58 (.const (τ 5)) (.const (τ 8))) 0 s0 fun v47_1 s1 =>
 I.wop (.load 24 (.const v47_1)) 24 s1 fun v48_2 s2 =>
 veq v48_2 v48_2 = true ∧ I.call 100 [(τ 0)] s2 fun v50_3 s3 =>
 Keeps [(4, .ptr v47_1)] s2 s3 ∧ I.wop (.convert 3 24 (.const v50_3)) 24 s3 fun v51_4 s4 =>
 s4 = s3 ∧ veq v51_4 v51_4 = true ∧ I.call 33 [(τ 0), v48_2, v51_4] s4 fun v52_5 s5 =>
 I.wop (.indexAddr 58 (.const (τ 5)) (.const (τ 8))) 0 s5 fun v53_6 s6 =>
 I.wop (.store 24 (.const v53_6) (.const v52_5)) 0 s6 fun _ s7 =>
 I.wop (.binOp .add 3 (.const (τ 8)) (.const (.int .i64 1)) 3) 3 s7 fun v43_8 s8 =>
 Q .normal (U τ [(8, v43_8), (43, v43_8), (42, (τ 8)), (53, v53_6), (52, v52_5), (51, v51_4), (50, v50_3), (49, (τ 0)), (48, v48_2), (47, v47_1), (46, (τ 8)), (45, (τ 0)), (44, (τ 8)), (41, (.bool true)), (41, v41_0), (40, (τ 8))]) ds s8)
 (Q (.exit 2) (U τ [(41, (.bool false)), (41, v41_0), (40, (τ 8))]) ds s0)
theorem x88_1110100 (I : Prims) (rnd : Option Nat) (τ : Tau) (ds : List Deferred) (s : St) (Q : Ex → WK) : xp I rnd 80 k88_1110100 c88_1110100 [] τ [] ds s (lift Q) = v88_1110100 I rnd τ ds s Q := by kernel_rfl
theorem n88_1110100 [Memo] (ro : Nat) (rnd : Option Nat) (τ : Tau) (ds : List Deferred) (s : St) (Q : Ex → WK) : wp P ro 80 rnd c88_1110100 τ ds s Q = v88_1110100 (prims P ro) rnd τ ds s Q := xp_wp rnd 80 P ro (x88_1110100 _ rnd τ ds s Q)
def v88_111110100 (I : Prims) (rnd : Option Nat) (τ : Tau) (ds : List Deferred) (s : St) (Q : Ex → WK) : Prop :=
 I.wop (.binOp .lss 3 (.const (τ 10)) (.const (.int .i64 4)) 3) 4 s fun v55_0 s0 =>
 wdec v55_0
 (I.call 101 [(τ 10)] s0 fun v59_1 s1 =>
 I.wop (.alloc 58) 0 s1 fun v11_2 s2 =>
 I.wop (.store 58 (.const v11_2) (.const v59_1)) 0 s2 fun _ s3 =>
 I.loop 80 rnd c88_1111101001001100 (U τ [(12, (.int .i64 0)), (11, v11_2), (59, v59_1), (58, (τ 10)), (55, (.bool true)), (55, v55_0), (54, (τ 10))]) ds s3 (fun τ ds s => ((lift Q) .ret) τ [] ds s) [(6, fun τ4 ds4 s4 =>
 I.wop (.binOp .add 3 (.const (τ4 10)) (.const (.int .i64 1)) 3) 3 s4 fun v57_5 s5 =>
 Q .normal (U τ4 [(10, v57_5), (57, v57_5), (56, (τ4 10))]) ds4 s5)])
 (Q (.exit 4) (U τ [(55, (.bool false)), (55, v55_0), (54, (τ 10))]) ds s0)
theorem x88_111110100 (I : Prims) (rnd : Option Nat) (τ : Tau) (ds : List Deferred) (s : St) (Q : Ex → WK) : xp I rnd 80 k88_111110100 c88_111110100 [] τ [] ds s (lift Q) = v88_111110100 I rnd τ ds s Q := by kernel_rfl
theorem n88_111110100 [Memo] (ro : Nat) (rnd : Option Nat) (τ : Tau) (ds : List Deferred) (s : St) (Q : Ex → WK) : wp P ro 80 rnd c88_111110100 τ ds s Q = v88_111110100 (prims P ro) rnd τ ds s Q := xp_wp rnd 80 P ro (x88_111110100 _ rnd τ ds s Q)
def v88_1111101001001100 (I : Prims) (rnd : Option Nat) (τ : Tau) (ds : List Deferred) (s : St) (Q : Ex → WK) : Prop :=
 I.wop (.binOp .lss 3 (.const (τ 12)) (.const (.int .i64 4)) 3) 4 s fun v61_0 s0 =>
 wdec v61_0
 (I.wop (.indexAddr 58 (.const (τ 9)) (.const (τ 10))) 0 s0 fun v67_1 s1 =>
 I.wop (.load 24 (.const v67_1)) 24 s1 fun v68_2 s2 =>
 veq v68_2 v68_2 = true ∧ I.wop (.indexAddr 58 (.const (τ 11)) (.const (τ 12))) 0 s2 fun v71_3 s3 =>
 I.wop (.load 24 (.const v71_3)) 24 s3 fun v72_4 s4 =>
 veq v72_4 v72_4 = true ∧ I.wop (.indexAddr 58 (.const (τ 5)) (.const (τ 12))) 0 s4 fun v74_5 s5 =>
 I.wop (.load 24 (.const v74_5)) 24 s5 fun v75_6 s6 =>
 veq v75_6 v75_6 = true ∧ I.call 72 [(τ 0), v72_4, v75_6] s6 fun v76_7 s7 =>
 Keeps [(4, .ptr v67_1)] s6 s7 ∧ I.call 66 [(τ 0), v68_2, v76_7] s7 fun v77_8 s8 =>
 I.wop (.indexAddr 58 (.const (τ 9)) (.const (τ 10))) 0 s8 fun v78_9 s9 =>
 I.wop (.store 24 (.const v78_9) (.const v77_8)) 0 s9 fun _ s10 =>
 I.wop (.binOp .add 3 (.const (τ 12)) (.const (.int .i64 1)) 3) 3 s10 fun v63_11 s11 =>
 Q .normal (U τ [(12, v63_11), (63, v63_11), (62, (τ 12)), (78, v78_9), (77, v77_8), (76, v76_7), (75, v75_6), (74, v74_5), (73, (τ 12)), (72, v72_4), (71, v71_3), (70, (τ 12)), (69, (τ 0)), (68, v68_2), (67, v67_1), (66, (τ 10)), (65, (τ 0)), (64, (τ 10)), (61, (.bool true)), (61, v61_0), (60, (τ 12))]) ds s11)
 (Q (.exit 6) (U τ [(61, (.bool false)), (61, v61_0), (60, (τ 12))]) ds s0)
theorem x88_1111101001001100 (I : Prims) (rnd : Option Nat) (τ : Tau) (ds : List Deferred) (s : St) (Q : Ex → WK) : xp I rnd 80 k88_1111101001001100 c88_1111101001001100 [] τ [] ds s (lift Q) = v88_1111101001001100 I rnd τ ds s Q := by kernel_rfl
theorem n88_1111101001001100 [Memo] (ro : Nat) (rnd : Option Nat) (τ : Tau) (ds : List Deferred) (s : St) (Q : Ex → WK) : wp P ro 80 rnd c88_1111101001001100 τ ds s Q = v88_1111101001001100 (prims P ro) rnd τ ds s Q := xp_wp rnd 80 P ro (x88_1111101001001100 _ rnd τ ds s Q)
def v88 (I : Prims) (a0 a1 a2 : Value) (si : St) (K : Value → St → Prop) : Prop :=
 I.wop (.box 58 (.const a2)) 0 (ent si) fun v5_0 s0 =>
 I.wop (.alloc 58) 0 s0 fun v6_1 s1 =>
 I.call 16 [a0] s1 fun v14_2 s2 =>
 I.wop (.unOp .not 4 (.const v14_2)) 4 s2 fun v15_3 s3 =>
 wdec v15_3
 (I.wop (.build 58 ⟨[]⟩) 58 s3 fun v24_4 s4 =>
 I.wop (.store 58 (.const v6_1) (.const v24_4)) 0 s4 fun _ s5 =>
 I.wop (.load 58 (.const v6_1)) 58 s5 fun v6_6 _ =>
 I.fin si K v6_6 s5)
 (I.wop (.binOp .lss 3 (.const a1) (.const (.int .i64 0)) 3) 4 s3 fun v18_7 s7 =>
 wdec v18_7
 (I.wop (.build 58 ⟨[]⟩) 58 s7 fun v24_8 s8 =>
 I.wop (.store 58 (.const v6_1) (.const v24_8)) 0 s8 fun _ s9 =>
 I.wop (.load 58 (.const v6_1)) 58 s9 fun v6_10 _ =>
 I.fin si K v6_10 s9)
 (I.wop (.binOp .gtr 3 (.const a1) (.const (.int .i64 7)) 3) 4 s7 fun v22_11 s11 =>
 wdec v22_11
 (I.wop (.build 58 ⟨[]⟩) 58 s11 fun v24_12 s12 =>
 I.wop (.store 58 (.const v6_1) (.const v24_12)) 0 s12 fun _ s13 =>
 I.wop (.load 58 (.const v6_1)) 58 s13 fun v6_14 _ =>
 I.fin si K v6_14 s13)
 (I.loop 80 none c88_110100 (U undefT [(7, (.int .i64 0)), (23, (.bool false)), (23, v22_11), (20, (.bool false)), (22, v22_11), (20, (.bool false)), (21, a1), (20, (.bool false)), (20, v18_7), (19, v18_7), (16, (.bool false)), (18, v18_7), (16, (.bool false)), (17, a1), (16, (.bool false)), (16, v15_3), (15, v15_3), (14, v14_2), (13, a0), (6, v6_1), (5, v5_0), (0, a0), (1, a1), (2, a2)]) [] s11 (fun τ ds s => ((xleave I si Tryd.f88.results.toList K) .ret) τ [] ds s) [(0, fun τ15 ds15 s15 =>
 I.loop 80 none c88_1110100 (U τ15 [(8, (.int .i64 0))]) ds15 s15 (fun τ ds s => ((xleave I si Tryd.f88.results.toList K) .ret) τ [] ds s) [(2, fun τ16 ds16 s16 =>
 I.wop (.alloc 58) 0 s16 fun v9_17 s17 =>
 I.loop 80 none c88_111110100 (U τ16 [(10, (.int .i64 0)), (9, v9_17)]) ds16 s17 (fun τ ds s => ((xleave I si Tryd.f88.results.toList K) .ret) τ [] ds s) [(4, fun τ18 ds18 s18 =>
 I.wop (.load 58 (.const (τ18 9))) 58 s18 fun v79_19 s19 =>
 I.wop (.store 58 (.const (τ18 6)) (.const v79_19)) 0 s19 fun _ s20 =>
 xdefers I ds18 s20 fun s21 =>
 I.wop (.load 58 (.const (τ18 6))) 58 s21 fun v6_22 _ =>
 I.fin si K v6_22 s21), (6, fun _ _ _ =>
 False)])])])))
theorem x88 (I : Prims) (a0 a1 a2 : Value) (si : St) (K : Value → St → Prop) : xbody I 80 k88 Tryd.f88 c88 [a0, a1, a2] si K = v88 I a0 a1 a2 si K := by kernel_rfl
theorem n88 [Memo] (ro : Nat) (a0 a1 a2 : Value) (si : St) (K : Value → St → Prop) : wbody P ro 80 Tryd.f88 c88 [a0, a1, a2] si K = v88 (prims P ro) a0 a1 a2 si K := xbody_eq 80 P ro (x88 _ a0 a1 a2 si K)
/- slices.Chunk[[]int,int]$1 -/
noncomputable def c91 : Code := bodyOf Tryd.f91
noncomputable def c91_100 : Code := subCode [1, 0, 0] c91
def k91 : List (List Nat) := []
def k91_100 : List (List Nat) := []
theorem l91_100 : ltCode 31 c91_100 = true := by kernel_rfl
theorem m91_100 : notMap c91_100 = true := by kernel_rfl
theorem b91 : BodyOk P 31 3 91 Tryd.f91 c91 := ⟨Tryd.func91, by kernel_rfl, by kernel_rfl, by kernel_rfl, by kernel_rfl, by kernel_rfl⟩
def v91_100 (I : Prims) (rnd : Option Nat) (τ : Tau) (ds : List Deferred) (s : St) (Q : Ex → WK) : Prop :=
 I.wop (.load 30 (.const (τ 1))) 30 s fun v7_0 s0 =>
 I.wop (.call ⟨.builtin .len, ⟨[(.const v7_0)]⟩, #[30]⟩) 3 s0 fun v8_1 s1 =>
 I.wop (.binOp .lss 3 (.const (τ 4)) (.const v8_1) 3) 4 s1 fun v9_2 s2 =>
 wdec v9_2
 (I.wop (.load 3 (.const (τ 2))) 3 s2 fun v13_3 s3 =>
 I.wop (.load 30 (.const (τ 1))) 30 s3 fun v14_4 s4 =>
 I.wop (.slice 30 (.const v14_4) (some (.const (τ 4))) none none) 30 s4 fun v16_5 s5 =>
 I.wop (.call ⟨.builtin .len, ⟨[(.const v16_5)]⟩, #[30]⟩) 3 s5 fun v17_6 s6 =>
 I.wop (.call ⟨.builtin .min, ⟨[(.const v13_3), (.const v17_6)]⟩, #[3, 3]⟩) 3 s6 fun v18_7 s7 =>
 I.wop (.load 30 (.const (τ 1))) 30 s7 fun v20_8 s8 =>
 I.wop (.binOp .add 3 (.const (τ 4)) (.const v18_7) 3) 3 s8 fun v24_9 s9 =>
 I.wop (.binOp .add 3 (.const (τ 4)) (.const v18_7) 3) 3 s9 fun v27_10 s10 =>
 I.wop (.slice 30 (.const v20_8) (some (.const (τ 4))) (some (.const v24_9)) (some (.const v27_10))) 30 s10 fun v28_11 s11 =>
 xcallv I (τ 0) [v28_11] s11 fun v29_12 s12 =>
 I.wop (.unOp .not 4 (.const v29_12)) 4 s12 fun v30_13 s13 =>
 wdec v30_13
 (Q .ret (U τ [(30, (.bool true)), (30, v30_13), (29, v29_12), (28, v28_11), (27, v27_10), (26, v18_7), (25, (τ 4)), (24, v24_9), (23, v18_7), (22, (τ 4)), (21, (τ 4)), (20, v20_8), (19, (τ 0)), (5, v18_7), (18, v18_7), (17, v17_6), (16, v16_5), (15, (τ 4)), (14, v14_4), (13, v13_3), (9, (.bool true)), (9, v9_2), (8, v8_1), (7, v7_0), (6, (τ 4))]) ds s13)
 (I.wop (.load 3 (.const (τ 2))) 3 s13 fun v11_14 s14 =>
 I.wop (.binOp .add 3 (.const (τ 4)) (.const v11_14) 3) 3 s14 fun v12_15 s15 =>
 Q .normal (U τ [(4, v12_15), (12, v12_15), (11, v11_14), (10, (τ 4)), (30, (.bool false)), (30, v30_13), (29, v29_12), (28, v28_11), (27, v27_10), (26, v18_7), (25, (τ 4)), (24, v24_9), (23, v18_7), (22, (τ 4)), (21, (τ 4)), (20, v20_8), (19, (τ 0)), (5, v18_7), (18, v18_7), (17, v17_6), (16, v16_5), (15, (τ 4)), (14, v14_4), (13, v13_3), (9, (.bool true)), (9, v9_2), (8, v8_1), (7, v7_0), (6, (τ 4))]) ds s15))
 (Q (.exit 0) (U τ [(9, (.bool false)), (9, v9_2), (8, v8_1), (7, v7_0), (6, (τ 4))]) ds s2)
theorem x91_100 (I : Prims) (rnd : Option Nat) (τ : Tau) (ds : List Deferred) (s : St) (Q : Ex → WK) : xp I rnd 31 k91_100 c91_100 [] τ [] ds s (lift Q) = v91_100 I rnd τ ds s Q := by kernel_rfl
theorem n91_100 [Memo] (ro : Nat) (rnd : Option Nat) (τ : Tau) (ds : List Deferred) (s : St) (Q : Ex → WK) : wp P ro 31 rnd c91_100 τ ds s Q = v91_100 (prims P ro) rnd τ ds s Q := xp_wp rnd 31 P ro (x91_100 _ rnd τ ds s Q)
def v91 (I : Prims) (a0 a1 a2 : Value) (si : St) (K : Value → St → Prop) : Prop :=
 I.loop 31 none c91_100 (U undefT [(4, (.int .i64 0)), (0, a0), (1, a1), (2, a2)]) [] (ent si) (fun τ ds s => ((xleave I si Tryd.f91.results.toList K) .ret) τ [] ds s) [(0, fun _ ds0 s0 =>
 xdefers I ds0 s0 fun s1 =>
 I.fin si K (.tuple (.mk [])) s1)]
theorem x91 (I : Prims) (a0 a1 a2 : Value) (si : St) (K : Value → St → Prop) : xbody I 31 k91 Tryd.f91 c91 [a0, a1, a2] si K = v91 I a0 a1 a2 si K := by kernel_rfl
theorem n91 [Memo] (ro : Nat) (a0 a1 a2 : Value) (si : St) (K : Value → St → Prop) : wbody P ro 31 Tryd.f91 c91 [a0, a1, a2] si K = v91 (prims P ro) a0 a1 a2 si K := xbody_eq 31 P ro (x91 _ a0 a1 a2 si K)
/- attestor/field.of -/
noncomputable def c95 : Code := bodyOf Tryd.f95
def k95 : List (List Nat) := []
theorem b95 : BodyOk P 10 1 95 Tryd.f95 c95 := ⟨Tryd.func95, by kernel_rfl, by kernel_rfl, by kernel_rfl, by kernel_rfl, by kernel_rfl⟩
def v95 (I : Prims) (a0 : Value) (si : St) (K : Value → St → Prop) : Prop :=
 I.wop (.alloc 140) 0 (ent si) fun v2_0 s0 =>
 I.call 37 [a0] s0 fun v4_1 s1 =>
 I.wop (.unOp .not 4 (.const v4_1)) 4 s1 fun v5_2 s2 =>
 wdec v5_2
 (I.wop (.build 140 ⟨[]⟩) 140 s2 fun v6_3 s3 =>
 I.wop (.store 140 (.const v2_0) (.const v6_3)) 0 s3 fun _ s4 =>
 I.wop (.load 140 (.const v2_0)) 140 s4 fun v2_5 _ =>
 I.fin si K v2_5 s4)
 (I.wop (.indexAddr 149 (.const (.pointer (some ⟨0, 0, none⟩))) (.const a0)) 0 s2 fun v8_6 s6 =>
 I.wop (.load 140 (.const v8_6)) 140 s6 fun v9_7 s7 =>
 I.wop (.store 140 (.const v2_0) (.const v9_7)) 0 s7 fun _ s8 =>
 I.wop (.load 140 (.const v2_0)) 140 s8 fun v2_9 _ =>
 I.fin si K v2_9 s8)
theorem x95 (I : Prims) (a0 : Value) (si : St) (K : Value → St → Prop) : xbody I 10 k95 Tryd.f95 c95 [a0] si K = v95 I a0 si K := by kernel_rfl
theorem n95 [Memo] (ro : Nat) (a0 : Value) (si : St) (K : Value → St → Prop) : wbody P ro 10 Tryd.f95 c95 [a0] si K = v95 (prims P ro) a0 si K := xbody_eq 10 P ro (x95 _ a0 si K)
/- slices.IndexFunc[[]int,int] -/
noncomputable def c96 : Code := bodyOf Tryd.f96
noncomputable def c96_10100 : Code := subCode [1, 0, 1, 0, 0] c96
def k96 : List (List Nat) := []
def k96_10100 : List (List Nat) := []
theorem l96_10100 : ltCode 19 c96_10100 = true := by kernel_rfl
theorem m96_10100 : notMap c96_10100 = true := by kernel_rfl
theorem b96 : BodyOk P 19 2 96 Tryd.f96 c96 := ⟨Tryd.func96, by kernel_rfl, by kernel_rfl, by kernel_rfl, by kernel_rfl, by kernel_rfl⟩
def v96_10100 (I : Prims) (rnd : Option Nat) (τ : Tau) (ds : List Deferred) (s : St) (Q : Ex → WK) : Prop :=
 I.wop (.binOp .lss 3 (.const (τ 8)) (.const (τ 7)) 3) 0 s fun v9_0 s0 =>
 wdec v9_0
 (I.wop (.indexAddr 30 (.const (τ 0)) (.const (τ 8))) 0 s0 fun v14_1 s1 =>
 I.wop (.load 3 (.const v14_1)) 3 s1 fun v15_2 s2 =>
 xcallv I (τ 1) [v15_2] s2 fun v16_3 s3 =>
 wdec v16_3
 (Q .ret (U τ [(4, (τ 8)), (17, (τ 8)), (16, (.bool true)), (16, v16_3), (15, v15_2), (14, v14_1), (13, (τ 8)), (12, (τ 0)), (11, (τ 1)), (5, (τ 8)), (10, (τ 8)), (9, (.bool true)), (9, v9_0)]) ds s3)
 (I.wop (.binOp .add 3 (.const (τ 8)) (.const (.int .i64 1)) 3) 3 s3 fun v18_4 s4 =>
 Q .normal (U τ [(8, v18_4), (18, v18_4), (16, (.bool false)), (16, v16_3), (15, v15_2), (14, v14_1), (13, (τ 8)), (12, (τ 0)), (11, (τ 1)), (5, (τ 8)), (10, (τ 8)), (9, (.bool true)), (9, v9_0)]) ds s4))
 (Q (.exit 0) (U τ [(9, (.bool false)), (9, v9_0)]) ds s0)
theorem x96_10100 (I : Prims) (rnd : Option Nat) (τ : Tau) (ds : List Deferred) (s : St) (Q : Ex → WK) : xp I rnd 19 k96_10100 c96_10100 [] τ [] ds s (lift Q) = v96_10100 I rnd τ ds s Q := by kernel_rfl
theorem n96_10100 [Memo] (ro : Nat) (rnd : Option Nat) (τ : Tau) (ds : List Deferred) (s : St) (Q : Ex → WK) : wp P ro 19 rnd c96_10100 τ ds s Q = v96_10100 (prims P ro) rnd τ ds s Q := xp_wp rnd 19 P ro (x96_10100 _ rnd τ ds s Q)
def v96 (I : Prims) (a0 a1 : Value) (si : St) (K : Value → St → Prop) : Prop :=
 I.wop (.call ⟨.builtin .len, ⟨[(.const a0)]⟩, #[30]⟩) 3 (ent si) fun v7_0 s0 =>
 I.loop 19 none c96_10100 (U undefT [(8, (.int .i64 0)), (7, v7_0), (6, a0), (4, (.int .i64 0)), (0, a0), (1, a1)]) [] s0 (fun τ ds s => ((xleave I si Tryd.f96.results.toList K) .ret) τ [] ds s) [(0, fun _ ds1 s1 =>
 xdefers I ds1 s1 fun s2 =>
 I.fin si K (.int .i64 (-1)) s2)]
theorem x96 (I : Prims) (a0 a1 : Value) (si : St) (K : Value → St → Prop) : xbody I 19 k96 Tryd.f96 c96 [a0, a1] si K = v96 I a0 a1 si K := by kernel_rfl
theorem n96 [Memo] (ro : Nat) (a0 a1 : Value) (si : St) (K : Value → St → Prop) : wbody P ro 19 Tryd.f96 c96 [a0, a1] si K = v96 (prims P ro) a0 a1 si K := xbody_eq 19 P ro (x96 _ a0 a1 si K)
theorem r96 (I : Prims) (si : St) (K : Value → St → Prop) (τ : Tau) (ds : List Deferred) (s : St) : xleave I si Tryd.f96.results.toList K .ret τ [] ds s =
 (xdefers I ds s fun s0 =>
 I.fin si K (τ 4) s0) := by kernel_rfl
/- attestor/attestorref23.formed -/
noncomputable def c97 : Code := bodyOf Tryd.f97
noncomputable def c97_11 : Code := subCode [1, 1] c97
noncomputable def c97_1110100 : Code := subCode [1, 1, 1, 0, 1, 0, 0] c97
noncomputable def c97_11110100 : Code := subCode [1, 1, 1, 1, 0, 1, 0, 0] c97
noncomputable def c97_1111110100 : Code := subCode [1, 1, 1, 1, 1, 1, 0, 1, 0, 0] c97
def k97 : List (List Nat) := [[1, 1]]
def k97_1110100 : List (List Nat) := []
theorem l97_1110100 : ltCode 104 c97_1110100 = true := by kernel_rfl
theorem m97_1110100 : notMap c97_1110100 = true := by kernel_rfl
def k97_11110100 : List (List Nat) := []
theorem l97_11110100 : ltCode 104 c97_11110100 = true := by kernel_rfl
theorem m97_11110100 : notMap c97_11110100 = true := by kernel_rfl
def k97_1111110100 : List (List Nat) := []
theorem l97_1111110100 : ltCode 104 c97_1111110100 = true := by kernel_rfl
theorem m97_1111110100 : notMap c97_1111110100 = true := by kernel_rfl
theorem b97 : BodyOk P 104 2 97 Tryd.f97 c97 := ⟨Tryd.func97, by kernel_rfl, by kernel_rfl, by kernel_rfl, by kernel_rfl, by kernel_rfl⟩
def v97_11 (I : Prims) (τ : Tau) (ds : List Deferred) (s : St) (Q : Ex → XK) : Prop :=
 I.wop (.fieldAddr 94 (.const (τ 3)) 2) 0 s fun v33_0 s0 =>
 I.wop (.load 24 (.const v33_0)) 24 s0 fun v34_1 s1 =>
 I.wop (.fieldAddr 94 (.const (τ 3)) 3) 0 s1 fun v35_2 s2 =>
 I.wop (.load 24 (.const v35_2)) 24 s2 fun v36_3 s3 =>
 I.wop (.fieldAddr 94 (.const (τ 3)) 4) 0 s3 fun v37_4 s4 =>
 I.wop (.load 24 (.const v37_4)) 24 s4 fun v38_5 s5 =>
 I.wop (.fieldAddr 94 (.const (τ 3)) 5) 0 s5 fun v39_6 s6 =>
 I.wop (.load 24 (.const v39_6)) 24 s6 fun v40_7 s7 =>
 I.wop (.fieldAddr 94 (.const (τ 3)) 6) 0 s7 fun v41_8 s8 =>
 I.wop (.load 24 (.const v41_8)) 24 s8 fun v42_9 s9 =>
 I.wop (.buildSlice 23 5 ⟨[(0, (.const v34_1)), (1, (.const v36_3)), (2, (.const v38_5)), (3, (.const v40_7)), (4, (.const v42_9))]⟩) 23 s9 fun v43_10 s10 =>
 I.loop 104 none c97_1110100 (U τ [(6, (.int .i64 0)), (5, v43_10), (43, v43_10), (42, v42_9), (41, v41_8), (40, v40_7), (39, v39_6), (38, v38_5), (37, v37_4), (36, v36_3), (35, v35_2), (34, v34_1), (33, v33_0)]) ds s10 (fun τ ds s => (Q .ret) τ [] ds s) [(0, fun τ11 ds11 s11 =>
 I.loop 104 none c97_11110100 (U τ11 [(7, (.int .i64 0))]) ds11 s11 (fun τ ds s => (Q .ret) τ [] ds s) [(2, fun τ12 ds12 s12 =>
 I.wop (.load 94 (.const (τ12 3))) 94 s12 fun v88_13 s13 =>
 I.call 98 [v88_13] s13 fun v89_14 s14 =>
 I.loop 104 none c97_1111110100 (U τ12 [(9, (.int .i64 0)), (8, v89_14), (89, v89_14), (88, v88_13)]) ds12 s14 (fun τ ds s => (Q .ret) τ [] ds s) [(4, fun τ15 ds15 s15 =>
 Q .ret τ15 [(4, (.bool true))] ds15 s15)])])]
theorem n97_11 (I : Prims) (τ : Tau) (ds : List Deferred) (s : St) (Q : Ex → XK) : xp I none 104 k97 c97_11 [1, 1] τ [] ds s Q = v97_11 I τ ds s Q := by kernel_rfl
def v97_1110100 (I : Prims) (rnd : Option Nat) (τ : Tau) (ds : List Deferred) (s : St) (Q : Ex → WK) : Prop :=
 I.wop (.call ⟨.builtin .len, ⟨[(.const (τ 5))]⟩, #[23]⟩) 3 s fun v46_0 s0 =>
 I.wop (.binOp .lss 3 (.const (τ 6)) (.const v46_0) 3) 4 s0 fun v47_1 s1 =>
 wdec v47_1
 (I.wop (.indexAddr 23 (.const (τ 5)) (.const (τ 6))) 0 s1 fun v52_2 s2 =>
 I.wop (.load 24 (.const v52_2)) 24 s2 fun v53_3 s3 =>
 veq v53_3 v53_3 = true ∧ I.wop (.fieldAddr 34 (.const (τ 2)) 0) 0 s3 fun v54_4 s4 =>
 I.wop (.load 3 (.const v54_4)) 3 s4 fun v55_5 s5 =>
 veq v55_5 v55_5 = true ∧ I.call 14 [v55_5] s5 fun v56_6 s6 =>
 Keeps [(3, .ptr v52_2)] s5 s6 ∧ I.wop (.binOp .geq 24 (.const v53_3) (.const v56_6) 24) 4 s6 fun v57_7 s7 =>
 wdec v57_7
 (Q .ret (U τ [(4, (.bool false)), (69, (.bool true)), (69, (.bool true)), (58, (.bool true)), (68, undef), (58, (.bool true)), (67, undef), (66, undef), (65, undef), (64, undef), (63, undef), (62, undef), (58, (.bool true)), (61, undef), (58, (.bool true)), (60, undef), (58, (.bool true)), (59, undef), (58, (.bool true)), (58, v57_7), (57, v57_7), (56, v56_6), (55, v55_5), (54, v54_4), (53, v53_3), (52, v52_2), (51, (τ 6)), (50, (τ 5)), (47, (.bool true)), (47, v47_1), (46, v46_0), (45, (τ 5)), (44, (τ 6))]) ds s7)
 (I.wop (.fieldAddr 94 (.const (τ 3)) 0) 0 s7 fun v59_8 s8 =>
 I.wop (.load 92 (.const v59_8)) 92 s8 fun v60_9 s9 =>
 veq v60_9 v60_9 = true ∧ I.wop (.binOp .neq 92 (.const v60_9) (.const (.int .u8 1)) 92) 4 s9 fun v61_10 s10 =>
 wdec v61_10
 (I.wop (.indexAddr 23 (.const (τ 5)) (.const (τ 6))) 0 s10 fun v65_11 s11 =>
 I.wop (.load 24 (.const v65_11)) 24 s11 fun v66_12 s12 =>
 veq v66_12 v66_12 = true ∧ I.wop (.binOp .neq 24 (.const v66_12) (.const (.int .u64 0)) 24) 4 s12 fun v67_13 s13 =>
 wdec v67_13
 (Q .ret (U τ [(4, (.bool false)), (69, (.bool true)), (69, v67_13), (58, (.bool false)), (68, v67_13), (62, (.bool true)), (58, (.bool false)), (67, v67_13), (62, (.bool true)), (66, v66_12), (62, (.bool true)), (65, v65_11), (62, (.bool true)), (64, (τ 6)), (62, (.bool true)), (63, (τ 5)), (62, (.bool true)), (62, v61_10), (58, (.bool false)), (61, v61_10), (58, (.bool false)), (60, v60_9), (58, (.bool false)), (59, v59_8), (58, (.bool false)), (58, v57_7), (57, v57_7), (56, v56_6), (55, v55_5), (54, v54_4), (53, v53_3), (52, v52_2), (51, (τ 6)), (50, (τ 5)), (47, (.bool true)), (47, v47_1), (46, v46_0), (45, (τ 5)), (44, (τ 6))]) ds s13)
 (I.wop (.binOp .add 3 (.const (τ 6)) (.const (.int .i64 1)) 3) 3 s13 fun v49_14 s14 =>
 Q .normal (U τ [(6, v49_14), (49, v49_14), (48, (τ 6)), (69, (.bool false)), (69, v67_13), (58, (.bool false)), (68, v67_13), (62, (.bool true)), (58, (.bool false)), (67, v67_13), (62, (.bool true)), (66, v66_12), (62, (.bool true)), (65, v65_11), (62, (.bool true)), (64, (τ 6)), (62, (.bool true)), (63, (τ 5)), (62, (.bool true)), (62, v61_10), (58, (.bool false)), (61, v61_10), (58, (.bool false)), (60, v60_9), (58, (.bool false)), (59, v59_8), (58, (.bool false)), (58, v57_7), (57, v57_7), (56, v56_6), (55, v55_5), (54, v54_4), (53, v53_3), (52, v52_2), (51, (τ 6)), (50, (τ 5)), (47, (.bool true)), (47, v47_1), (46, v46_0), (45, (τ 5)), (44, (τ 6))]) ds s14))
 (I.wop (.binOp .add 3 (.const (τ 6)) (.const (.int .i64 1)) 3) 3 s10 fun v49_15 s15 =>
 Q .normal (U τ [(6, v49_15), (49, v49_15), (48, (τ 6)), (69, (.bool false)), (69, (.bool false)), (58, (.bool false)), (68, (.bool false)), (62, (.bool false)), (58, (.bool false)), (67, undef), (62, (.bool false)), (66, undef), (62, (.bool false)), (65, undef), (62, (.bool false)), (64, undef), (62, (.bool false)), (63, undef), (62, (.bool false)), (62, v61_10), (58, (.bool false)), (61, v61_10), (58, (.bool false)), (60, v60_9), (58, (.bool false)), (59, v59_8), (58, (.bool false)), (58, v57_7), (57, v57_7), (56, v56_6), (55, v55_5), (54, v54_4), (53, v53_3), (52, v52_2), (51, (τ 6)), (50, (τ 5)), (47, (.bool true)), (47, v47_1), (46, v46_0), (45, (τ 5)), (44, (τ 6))]) ds s15)))
 (Q (.exit 0) (U τ [(47, (.bool false)), (47, v47_1), (46, v46_0), (45, (τ 5)), (44, (τ 6))]) ds s1)
theorem x97_1110100 (I : Prims) (rnd : Option Nat) (τ : Tau) (ds : List Deferred) (s : St) (Q : Ex → WK) : xp I rnd 104 k97_1110100 c97_1110100 [] τ [] ds s (lift Q) = v97_1110100 I rnd τ ds s Q := by kernel_rfl
theorem n97_1110100 [Memo] (ro : Nat) (rnd : Option Nat) (τ : Tau) (ds : List Deferred) (s : St) (Q : Ex → WK) : wp P ro 104 rnd c97_1110100 τ ds s Q = v97_1110100 (prims P ro) rnd τ ds s Q := xp_wp rnd 104 P ro (x97_1110100 _ rnd τ ds s Q)
def v97_11110100 (I : Prims) (rnd : Option Nat) (τ : Tau) (ds : List Deferred) (s : St) (Q : Ex → WK) : Prop :=
 I.wop (.binOp .lss 3 (.const (τ 7)) (.const (.int .i64 4)) 3) 4 s fun v71_0 s0 =>
 wdec v71_0
 (I.wop (.fieldAddr 94 (.const (τ 3)) 1) 0 s0 fun v75_1 s1 =>
 I.wop (.indexAddr 53 (.const v75_1) (.const (τ 7))) 0 s1 fun v76_2 s2 =>
 I.wop (.load 3 (.const v76_2)) 3 s2 fun v77_3 s3 =>
 I.wop (.binOp .lss 3 (.const v77_3) (.const (.int .i64 (-1))) 3) 4 s3 fun v78_4 s4 =>
 wdec v78_4
 (Q .ret (U τ [(4, (.bool false)), (87, (.bool true)), (87, (.bool true)), (79, (.bool true)), (86, undef), (79, (.bool true)), (85, undef), (79, (.bool true)), (84, undef), (79, (.bool true)), (83, undef), (79, (.bool true)), (82, undef), (79, (.bool true)), (81, undef), (79, (.bool true)), (80, undef), (79, (.bool true)), (79, v78_4), (78, v78_4), (77, v77_3), (76, v76_2), (75, v75_1), (74, (τ 7)), (71, (.bool true)), (71, v71_0), (70, (τ 7))]) ds s4)
 (I.wop (.fieldAddr 94 (.const (τ 3)) 1) 0 s4 fun v81_5 s5 =>
 I.wop (.indexAddr 53 (.const v81_5) (.const (τ 7))) 0 s5 fun v82_6 s6 =>
 I.wop (.load 3 (.const v82_6)) 3 s6 fun v83_7 s7 =>
 I.wop (.fieldAddr 34 (.const (τ 2)) 1) 0 s7 fun v84_8 s8 =>
 I.wop (.load 3 (.const v84_8)) 3 s8 fun v85_9 s9 =>
 I.wop (.binOp .geq 3 (.const v83_7) (.const v85_9) 3) 4 s9 fun v86_10 s10 =>
 wdec v86_10
 (Q .ret (U τ [(4, (.bool false)), (87, (.bool true)), (87, v86_10), (79, (.bool false)), (86, v86_10), (79, (.bool false)), (85, v85_9), (79, (.bool false)), (84, v84_8), (79, (.bool false)), (83, v83_7), (79, (.bool false)), (82, v82_6), (79, (.bool false)), (81, v81_5), (79, (.bool false)), (80, (τ 7)), (79, (.bool false)), (79, v78_4), (78, v78_4), (77, v77_3), (76, v76_2), (75, v75_1), (74, (τ 7)), (71, (.bool true)), (71, v71_0), (70, (τ 7))]) ds s10)
 (I.wop (.binOp .add 3 (.const (τ 7)) (.const (.int .i64 1)) 3) 3 s10 fun v73_11 s11 =>
 Q .normal (U τ [(7, v73_11), (73, v73_11), (72, (τ 7)), (87, (.bool false)), (87, v86_10), (79, (.bool false)), (86, v86_10), (79, (.bool false)), (85, v85_9), (79, (.bool false)), (84, v84_8), (79, (.bool false)), (83, v83_7), (79, (.bool false)), (82, v82_6), (79, (.bool false)), (81, v81_5), (79, (.bool false)), (80, (τ 7)), (79, (.bool false)), (79, v78_4), (78, v78_4), (77, v77_3), (76, v76_2), (75, v75_1), (74, (τ 7)), (71, (.bool true)), (71, v71_0), (70, (τ 7))]) ds s11)))
 (Q (.exit 2) (U τ [(71, (.bool false)), (71, v71_0), (70, (τ 7))]) ds s0)
theorem x97_11110100 (I : Prims) (rnd : Option Nat) (τ : Tau) (ds : List Deferred) (s : St) (Q : Ex → WK) : xp I rnd 104 k97_11110100 c97_11110100 [] τ [] ds s (lift Q) = v97_11110100 I rnd τ ds s Q := by kernel_rfl
theorem n97_11110100 [Memo] (ro : Nat) (rnd : Option Nat) (τ : Tau) (ds : List Deferred) (s : St) (Q : Ex → WK) : wp P ro 104 rnd c97_11110100 τ ds s Q = v97_11110100 (prims P ro) rnd τ ds s Q := xp_wp rnd 104 P ro (x97_11110100 _ rnd τ ds s Q)
def v97_1111110100 (I : Prims) (rnd : Option Nat) (τ : Tau) (ds : List Deferred) (s : St) (Q : Ex → WK) : Prop :=
 I.wop (.call ⟨.builtin .len, ⟨[(.const (τ 8))]⟩, #[30]⟩) 3 s fun v92_0 s0 =>
 I.wop (.binOp .lss 3 (.const (τ 9)) (.const v92_0) 3) 4 s0 fun v93_1 s1 =>
 wdec v93_1
 (I.wop (.indexAddr 30 (.const (τ 8)) (.const (τ 9))) 0 s1 fun v98_2 s2 =>
 I.wop (.load 3 (.const v98_2)) 3 s2 fun v99_3 s3 =>
 I.wop (.fieldAddr 94 (.const (τ 3)) 1) 0 s3 fun v100_4 s4 =>
 I.wop (.indexAddr 53 (.const v100_4) (.const v99_3)) 0 s4 fun v101_5 s5 =>
 I.wop (.load 3 (.const v101_5)) 3 s5 fun v102_6 s6 =>
 I.wop (.binOp .lss 3 (.const v102_6) (.const (.int .i64 0)) 3) 4 s6 fun v103_7 s7 =>
 wdec v103_7
 (Q .ret (U τ [(4, (.bool false)), (103, (.bool true)), (103, v103_7), (102, v102_6), (101, v101_5), (100, v100_4), (99, v99_3), (98, v98_2), (97, (τ 9)), (96, (τ 8)), (93, (.bool true)), (93, v93_1), (92, v92_0), (91, (τ 8)), (90, (τ 9))]) ds s7)
 (I.wop (.binOp .add 3 (.const (τ 9)) (.const (.int .i64 1)) 3) 3 s7 fun v95_8 s8 =>
 Q .normal (U τ [(9, v95_8), (95, v95_8), (94, (τ 9)), (103, (.bool false)), (103, v103_7), (102, v102_6), (101, v101_5), (100, v100_4), (99, v99_3), (98, v98_2), (97, (τ 9)), (96, (τ 8)), (93, (.bool true)), (93, v93_1), (92, v92_0), (91, (τ 8)), (90, (τ 9))]) ds s8))
 (Q (.exit 4) (U τ [(93, (.bool false)), (93, v93_1), (92, v92_0), (91, (τ 8)), (90, (τ 9))]) ds s1)
theorem x97_1111110100 (I : Prims) (rnd : Option Nat) (τ : Tau) (ds : List Deferred) (s : St) (Q : Ex → WK) : xp I rnd 104 k97_1111110100 c97_1111110100 [] τ [] ds s (lift Q) = v97_1111110100 I rnd τ ds s Q := by kernel_rfl
theorem n97_1111110100 [Memo] (ro : Nat) (rnd : Option Nat) (τ : Tau) (ds : List Deferred) (s : St) (Q : Ex → WK) : wp P ro 104 rnd c97_1111110100 τ ds s Q = v97_1111110100 (prims P ro) rnd τ ds s Q := xp_wp rnd 104 P ro (x97_1111110100 _ rnd τ ds s Q)
def v97 (I : Prims) (a0 a1 : Value) (si : St) (K : Value → St → Prop) : Prop :=
 I.wop (.box 34 (.const a0)) 0 (ent si) fun v2_0 s0 =>
 I.wop (.box 94 (.const a1)) 0 s0 fun v3_1 s1 =>
 I.wop (.fieldAddr 94 (.const v3_1) 0) 0 s1 fun v10_2 s2 =>
 I.wop (.load 92 (.const v10_2)) 92 s2 fun v11_3 s3 =>
 I.wop (.binOp .gtr 92 (.const v11_3) (.const (.int .u8 3)) 92) 4 s3 fun v12_4 s4 =>
 wdec v12_4
 (I.fin si K (.bool false) s4)
 (I.wop (.fieldAddr 94 (.const v3_1) 7) 0 s4 fun v14_5 s5 =>
 I.wop (.load 3 (.const v14_5)) 3 s5 fun v15_6 s6 =>
 I.wop (.binOp .lss 3 (.const v15_6) (.const (.int .i64 0)) 3) 4 s6 fun v16_7 s7 =>
 wdec v16_7
 (I.fin si K (.bool false) s7)
 (I.wop (.fieldAddr 94 (.const v3_1) 7) 0 s7 fun v19_8 s8 =>
 I.wop (.load 3 (.const v19_8)) 3 s8 fun v20_9 s9 =>
 I.wop (.binOp .gtr 3 (.const v20_9) (.const (.int .i64 7)) 3) 4 s9 fun v21_10 s10 =>
 wdec v21_10
 (I.fin si K (.bool false) s10)
 (I.wop (.fieldAddr 94 (.const v3_1) 0) 0 s10 fun v24_11 s11 =>
 I.wop (.load 92 (.const v24_11)) 92 s11 fun v25_12 s12 =>
 I.wop (.binOp .neq 92 (.const v25_12) (.const (.int .u8 3)) 92) 4 s12 fun v26_13 s13 =>
 wdec v26_13
 (I.wop (.fieldAddr 94 (.const v3_1) 7) 0 s13 fun v28_14 s14 =>
 I.wop (.load 3 (.const v28_14)) 3 s14 fun v29_15 s15 =>
 I.wop (.binOp .neq 3 (.const v29_15) (.const (.int .i64 0)) 3) 4 s15 fun v30_16 s16 =>
 wdec v30_16
 (I.fin si K (.bool false) s16)
 (I.hold (xp I none 104 k97 c97_11 [1, 1] (U undefT [(32, (.bool false)), (32, v30_16), (23, (.bool false)), (31, v30_16), (27, (.bool true)), (23, (.bool false)), (30, v30_16), (27, (.bool true)), (29, v29_15), (27, (.bool true)), (28, v28_14), (27, (.bool true)), (27, v26_13), (23, (.bool false)), (26, v26_13), (23, (.bool false)), (25, v25_12), (23, (.bool false)), (24, v24_11), (23, (.bool false)), (23, v21_10), (22, v21_10), (18, (.bool false)), (21, v21_10), (18, (.bool false)), (20, v20_9), (18, (.bool false)), (19, v19_8), (18, (.bool false)), (18, v16_7), (17, v16_7), (13, (.bool false)), (16, v16_7), (13, (.bool false)), (15, v15_6), (13, (.bool false)), (14, v14_5), (13, (.bool false)), (13, v12_4), (12, v12_4), (11, v11_3), (10, v10_2), (4, (.bool false)), (3, v3_1), (2, v2_0), (0, a0), (1, a1)]) [] [] s16 (xleave I si Tryd.f97.results.toList K))))
 (I.hold (xp I none 104 k97 c97_11 [1, 1] (U undefT [(32, (.bool false)), (32, (.bool false)), (23, (.bool false)), (31, (.bool false)), (27, (.bool false)), (23, (.bool false)), (30, undef), (27, (.bool false)), (29, undef), (27, (.bool false)), (28, undef), (27, (.bool false)), (27, v26_13), (23, (.bool false)), (26, v26_13), (23, (.bool false)), (25, v25_12), (23, (.bool false)), (24, v24_11), (23, (.bool false)), (23, v21_10), (22, v21_10), (18, (.bool false)), (21, v21_10), (18, (.bool false)), (20, v20_9), (18, (.bool false)), (19, v19_8), (18, (.bool false)), (18, v16_7), (17, v16_7), (13, (.bool false)), (16, v16_7), (13, (.bool false)), (15, v15_6), (13, (.bool false)), (14, v14_5), (13, (.bool false)), (13, v12_4), (12, v12_4), (11, v11_3), (10, v10_2), (4, (.bool false)), (3, v3_1), (2, v2_0), (0, a0), (1, a1)]) [] [] s13 (xleave I si Tryd.f97.results.toList K))))))
theorem x97 (I : Prims) (a0 a1 : Value) (si : St) (K : Value → St → Prop) : xbody I 104 k97 Tryd.f97 c97 [a0, a1] si K = v97 I a0 a1 si K := by kernel_rfl
theorem n97 [Memo] (ro : Nat) (a0 a1 : Value) (si : St) (K : Value → St → Prop) : wbody P ro 104 Tryd.f97 c97 [a0, a1] si K = v97 (prims P ro) a0 a1 si K := xbody_eq 104 P ro (x97 _ a0 a1 si K)
theorem r97 (I : Prims) (si : St) (K : Value → St → Prop) (τ : Tau) (ds : List Deferred) (s : St) : xleave I si Tryd.f97.results.toList K .ret τ [] ds s =
 (xdefers I ds s fun s0 =>
 I.fin si K (τ 4) s0) := by kernel_rfl
/- attestor/attestorref23.Reads -/
noncomputable def c98 : Code := bodyOf Tryd.f98
noncomputable def c98_11010101 : Code := subCode [1, 1, 0, 1, 0, 1, 0, 1] c98
noncomputable def c98_111 : Code := subCode [1, 1, 1] c98
def k98 : List (List Nat) := [[1, 0, 1, 0, 1, 0, 1, 1]]
theorem b98 : BodyOk P 47 1 98 Tryd.f98 c98 := ⟨Tryd.func98, by kernel_rfl, by kernel_rfl, by kernel_rfl, by kernel_rfl, by kernel_rfl⟩
def v98_11010101 (I : Prims) (τ : Tau) (ds : List Deferred) (s : St) (Q : Ex → XK) : Prop :=
 I.wop (.fieldAddr 94 (.const (τ 1)) 3) 0 s fun v19_0 s0 =>
 I.wop (.load 24 (.const v19_0)) 24 s0 fun v20_1 s1 =>
 I.wop (.binOp .neq 24 (.const v20_1) (.const (.int .u64 0)) 24) 4 s1 fun v21_2 s2 =>
 wdec v21_2
 (I.wop (.buildSlice 30 1 ⟨[(0, (.const (.int .i64 1)))]⟩) 30 s2 fun v28_3 s3 =>
 I.wop (.call ⟨.builtin .append, ⟨[(.const (τ 3)), (.const v28_3)]⟩, #[30, 30]⟩) 30 s3 fun v29_4 s4 =>
 I.wop (.fieldAddr 94 (.const (τ 1)) 5) 0 s4 fun v30_5 s5 =>
 I.wop (.load 24 (.const v30_5)) 24 s5 fun v31_6 s6 =>
 I.wop (.binOp .neq 24 (.const v31_6) (.const (.int .u64 0)) 24) 4 s6 fun v32_7 s7 =>
 wdec v32_7
 (I.wop (.buildSlice 30 1 ⟨[(0, (.const (.int .i64 2)))]⟩) 30 s7 fun v34_8 s8 =>
 I.wop (.call ⟨.builtin .append, ⟨[(.const v29_4), (.const v34_8)]⟩, #[30, 30]⟩) 30 s8 fun v35_9 s9 =>
 Q .normal τ [(3, v35_9), (35, v35_9), (34, v34_8), (33, v29_4), (32, (.bool true)), (32, v32_7), (31, v31_6), (30, v30_5), (3, v29_4), (29, v29_4), (28, v28_3), (27, (τ 3)), (26, (.bool true)), (26, (.bool true)), (22, (.bool true)), (25, undef), (22, (.bool true)), (24, undef), (22, (.bool true)), (23, undef), (22, (.bool true)), (22, v21_2), (21, v21_2), (20, v20_1), (19, v19_0)] ds s9)
 (Q .normal τ [(32, (.bool false)), (32, v32_7), (31, v31_6), (30, v30_5), (3, v29_4), (29, v29_4), (28, v28_3), (27, (τ 3)), (26, (.bool true)), (26, (.bool true)), (22, (.bool true)), (25, undef), (22, (.bool true)), (24, undef), (22, (.bool true)), (23, undef), (22, (.bool true)), (22, v21_2), (21, v21_2), (20, v20_1), (19, v19_0)] ds s7))
 (I.wop (.fieldAddr 94 (.const (τ 1)) 4) 0 s2 fun v23_10 s10 =>
 I.wop (.load 24 (.const v23_10)) 24 s10 fun v24_11 s11 =>
 I.wop (.binOp .neq 24 (.const v24_11) (.const (.int .u64 0)) 24) 4 s11 fun v25_12 s12 =>
 wdec v25_12
 (I.wop (.buildSlice 30 1 ⟨[(0, (.const (.int .i64 1)))]⟩) 30 s12 fun v28_13 s13 =>
 I.wop (.call ⟨.builtin .append, ⟨[(.const (τ 3)), (.const v28_13)]⟩, #[30, 30]⟩) 30 s13 fun v29_14 s14 =>
 I.wop (.fieldAddr 94 (.const (τ 1)) 5) 0 s14 fun v30_15 s15 =>
 I.wop (.load 24 (.const v30_15)) 24 s15 fun v31_16 s16 =>
 I.wop (.binOp .neq 24 (.const v31_16) (.const (.int .u64 0)) 24) 4 s16 fun v32_17 s17 =>
 wdec v32_17
 (I.wop (.buildSlice 30 1 ⟨[(0, (.const (.int .i64 2)))]⟩) 30 s17 fun v34_18 s18 =>
 I.wop (.call ⟨.builtin .append, ⟨[(.const v29_14), (.const v34_18)]⟩, #[30, 30]⟩) 30 s18 fun v35_19 s19 =>
 Q .normal τ [(3, v35_19), (35, v35_19), (34, v34_18), (33, v29_14), (32, (.bool true)), (32, v32_17), (31, v31_16), (30, v30_15), (3, v29_14), (29, v29_14), (28, v28_13), (27, (τ 3)), (26, (.bool true)), (26, v25_12), (22, (.bool false)), (25, v25_12), (22, (.bool false)), (24, v24_11), (22, (.bool false)), (23, v23_10), (22, (.bool false)), (22, v21_2), (21, v21_2), (20, v20_1), (19, v19_0)] ds s19)
 (Q .normal τ [(32, (.bool false)), (32, v32_17), (31, v31_16), (30, v30_15), (3, v29_14), (29, v29_14), (28, v28_13), (27, (τ 3)), (26, (.bool true)), (26, v25_12), (22, (.bool false)), (25, v25_12), (22, (.bool false)), (24, v24_11), (22, (.bool false)), (23, v23_10), (22, (.bool false)), (22, v21_2), (21, v21_2), (20, v20_1), (19, v19_0)] ds s17))
 (I.wop (.fieldAddr 94 (.const (τ 1)) 5) 0 s12 fun v30_20 s20 =>
 I.wop (.load 24 (.const v30_20)) 24 s20 fun v31_21 s21 =>
 I.wop (.binOp .neq 24 (.const v31_21) (.const (.int .u64 0)) 24) 4 s21 fun v32_22 s22 =>
 wdec v32_22
 (I.wop (.buildSlice 30 1 ⟨[(0, (.const (.int .i64 2)))]⟩) 30 s22 fun v34_23 s23 =>
 I.wop (.call ⟨.builtin .append, ⟨[(.const (τ 3)), (.const v34_23)]⟩, #[30, 30]⟩) 30 s23 fun v35_24 s24 =>
 Q .normal τ [(3, v35_24), (35, v35_24), (34, v34_23), (33, (τ 3)), (32, (.bool true)), (32, v32_22), (31, v31_21), (30, v30_20), (26, (.bool false)), (26, v25_12), (22, (.bool false)), (25, v25_12), (22, (.bool false)), (24, v24_11), (22, (.bool false)), (23, v23_10), (22, (.bool false)), (22, v21_2), (21, v21_2), (20, v20_1), (19, v19_0)] ds s24)
 (Q .normal τ [(32, (.bool false)), (32, v32_22), (31, v31_21), (30, v30_20), (26, (.bool false)), (26, v25_12), (22, (.bool false)), (25, v25_12), (22, (.bool false)), (24, v24_11), (22, (.bool false)), (23, v23_10), (22, (.bool false)), (22, v21_2), (21, v21_2), (20, v20_1), (19, v19_0)] ds s22)))
theorem n98_11010101 (I : Prims) (τ : Tau) (ds : List Deferred) (s : St) (Q : Ex → XK) : xp I none 47 k98 c98_11010101 [1, 0, 1, 0, 1, 0, 1, 1] τ [] ds s Q = v98_11010101 I τ ds s Q := by kernel_rfl
def v98_111 (I : Prims) (τ : Tau) (ds : List Deferred) (s : St) (Q : Ex → XK) : Prop :=
 Q .ret τ [(2, (τ 3)), (46, (τ 3))] ds s
theorem n98_111 (I : Prims) (τ : Tau) (ds : List Deferred) (s : St) (Q : Ex → XK) : xp I none 47 k98 c98_111 [1, 1, 1] τ [] ds s Q = v98_111 I τ ds s Q := by kernel_rfl
def v98 (I : Prims) (a0 : Value) (si : St) (K : Value → St → Prop) : Prop :=
 I.wop (.box 94 (.const a0)) 0 (ent si) fun v1_0 s0 =>
 I.wop (.fieldAddr 94 (.const v1_0) 0) 0 s0 fun v4_1 s1 =>
 I.wop (.load 92 (.const v4_1)) 92 s1 fun v5_2 s2 =>
 I.wop (.binOp .eql 92 (.const v5_2) (.const (.int .u8 1)) 92) 4 s2 fun v7_3 s3 =>
 wdec v7_3
 (I.wop (.fieldAddr 94 (.const v1_0) 2) 0 s3 fun v8_4 s4 =>
 I.wop (.load 24 (.const v8_4)) 24 s4 fun v9_5 s5 =>
 I.wop (.binOp .neq 24 (.const v9_5) (.const (.int .u64 0)) 24) 4 s5 fun v10_6 s6 =>
 wdec v10_6
 (I.wop (.buildSlice 30 1 ⟨[(0, (.const (.int .i64 0)))]⟩) 30 s6 fun v17_7 s7 =>
 I.wop (.call ⟨.builtin .append, ⟨[(.const (.slice none 0 0)), (.const v17_7)]⟩, #[30, 30]⟩) 30 s7 fun v18_8 s8 =>
 I.hold (xp I none 47 k98 c98_11010101 [1, 0, 1, 0, 1, 0, 1, 1] (U undefT [(3, v18_8), (18, v18_8), (17, v17_7), (16, (.slice none 0 0)), (15, (.bool true)), (15, (.bool true)), (11, (.bool true)), (14, undef), (11, (.bool true)), (13, undef), (11, (.bool true)), (12, undef), (11, (.bool true)), (11, v10_6), (10, v10_6), (9, v9_5), (8, v8_4), (6, (.bool true)), (6, v7_3), (7, v7_3), (5, v5_2), (4, v4_1), (3, (.slice none 0 0)), (2, (.slice none 0 0)), (1, v1_0), (0, a0)]) [] [] s8 (blkX 0 (sX I none 47 k98 c98_111 [1, 1, 1] (xleave I si Tryd.f98.results.toList K)))))
 (I.wop (.fieldAddr 94 (.const v1_0) 4) 0 s6 fun v12_9 s9 =>
 I.wop (.load 24 (.const v12_9)) 24 s9 fun v13_10 s10 =>
 I.wop (.binOp .neq 24 (.const v13_10) (.const (.int .u64 0)) 24) 4 s10 fun v14_11 s11 =>
 wdec v14_11
 (I.wop (.buildSlice 30 1 ⟨[(0, (.const (.int .i64 0)))]⟩) 30 s11 fun v17_12 s12 =>
 I.wop (.call ⟨.builtin .append, ⟨[(.const (.slice none 0 0)), (.const v17_12)]⟩, #[30, 30]⟩) 30 s12 fun v18_13 s13 =>
 I.hold (xp I none 47 k98 c98_11010101 [1, 0, 1, 0, 1, 0, 1, 1] (U undefT [(3, v18_13), (18, v18_13), (17, v17_12), (16, (.slice none 0 0)), (15, (.bool true)), (15, v14_11), (11, (.bool false)), (14, v14_11), (11, (.bool false)), (13, v13_10), (11, (.bool false)), (12, v12_9), (11, (.bool false)), (11, v10_6), (10, v10_6), (9, v9_5), (8, v8_4), (6, (.bool true)), (6, v7_3), (7, v7_3), (5, v5_2), (4, v4_1), (3, (.slice none 0 0)), (2, (.slice none 0 0)), (1, v1_0), (0, a0)]) [] [] s13 (blkX 0 (sX I none 47 k98 c98_111 [1, 1, 1] (xleave I si Tryd.f98.results.toList K)))))
 (I.hold (xp I none 47 k98 c98_11010101 [1, 0, 1, 0, 1, 0, 1, 1] (U undefT [(15, (.bool false)), (15, v14_11), (11, (.bool false)), (14, v14_11), (11, (.bool false)), (13, v13_10), (11, (.bool false)), (12, v12_9), (11, (.bool false)), (11, v10_6), (10, v10_6), (9, v9_5), (8, v8_4), (6, (.bool true)), (6, v7_3), (7, v7_3), (5, v5_2), (4, v4_1), (3, (.slice none 0 0)), (2, (.slice none 0 0)), (1, v1_0), (0, a0)]) [] [] s11 (blkX 0 (sX I none 47 k98 c98_111 [1, 1, 1] (xleave I si Tryd.f98.results.toList K)))))))
 (I.wop (.binOp .eql 92 (.const v5_2) (.const (.int .u8 2)) 92) 4 s3 fun v37_14 s14 =>
 wdec v37_14
 (I.wop (.buildSlice 30 1 ⟨[(0, (.const (.int .i64 0)))]⟩) 30 s14 fun v39_15 s15 =>
 I.wop (.call ⟨.builtin .append, ⟨[(.const (.slice none 0 0)), (.const v39_15)]⟩, #[30, 30]⟩) 30 s15 fun v40_16 s16 =>
 I.fin si K v40_16 s16)
 (I.wop (.binOp .eql 92 (.const v5_2) (.const (.int .u8 3)) 92) 4 s14 fun v42_17 s17 =>
 wdec v42_17
 (I.wop (.buildSlice 30 4 ⟨[(0, (.const (.int .i64 0))), (1, (.const (.int .i64 1))), (2, (.const (.int .i64 2))), (3, (.const (.int .i64 3)))]⟩) 30 s17 fun v44_18 s18 =>
 I.wop (.call ⟨.builtin .append, ⟨[(.const (.slice none 0 0)), (.const v44_18)]⟩, #[30, 30]⟩) 30 s18 fun v45_19 s19 =>
 I.fin si K v45_19 s19)
 (I.fin si K (.slice none 0 0) s17)))
theorem x98 (I : Prims) (a0 : Value) (si : St) (K : Value → St → Prop) : xbody I 47 k98 Tryd.f98 c98 [a0] si K = v98 I a0 si K := by kernel_rfl
theorem n98 [Memo] (ro : Nat) (a0 : Value) (si : St) (K : Value → St → Prop) : wbody P ro 47 Tryd.f98 c98 [a0] si K = v98 (prims P ro) a0 si K := xbody_eq 47 P ro (x98 _ a0 si K)
theorem r98 (I : Prims) (si : St) (K : Value → St → Prop) (τ : Tau) (ds : List Deferred) (s : St) : xleave I si Tryd.f98.results.toList K .ret τ [] ds s =
 (xdefers I ds s fun s0 =>
 I.fin si K (τ 2) s0) := by kernel_rfl
/- attestor/attestorref06.Constant -/
noncomputable def c99 : Code := bodyOf Tryd.f99
def k99 : List (List Nat) := []
theorem b99 : BodyOk P 38 3 99 Tryd.f99 c99 := ⟨Tryd.func99, by kernel_rfl, by kernel_rfl, by kernel_rfl, by kernel_rfl, by kernel_rfl⟩
def v99 (I : Prims) (a0 a1 a2 : Value) (si : St) (K : Value → St → Prop) : Prop :=
 I.call 16 [a0] (ent si) fun v8_0 s0 =>
 I.wop (.unOp .not 4 (.const v8_0)) 4 s0 fun v9_1 s1 =>
 wdec v9_1
 (I.fin si K (.int .u64 0) s1)
 (I.wop (.binOp .lss 3 (.const a1) (.const (.int .i64 0)) 3) 4 s1 fun v12_2 s2 =>
 wdec v12_2
 (I.fin si K (.int .u64 0) s2)
 (I.wop (.binOp .gtr 3 (.const a1) (.const (.int .i64 7)) 3) 4 s2 fun v16_3 s3 =>
 wdec v16_3
 (I.fin si K (.int .u64 0) s3)
 (I.wop (.binOp .lss 3 (.const a2) (.const (.int .i64 0)) 3) 4 s3 fun v20_4 s4 =>
 wdec v20_4
 (I.fin si K (.int .u64 0) s4)
 (I.wop (.binOp .gtr 3 (.const a2) (.const (.int .i64 3)) 3) 4 s4 fun v24_5 s5 =>
 wdec v24_5
 (I.fin si K (.int .u64 0) s5)
 (I.call 103 [a0] s5 fun v29_6 s6 =>
 I.wop (.binOp .mul 3 (.const (.int .i64 4)) (.const a1) 3) 3 s6 fun v31_7 s7 =>
 I.wop (.binOp .add 3 (.const v31_7) (.const a2) 3) 3 s7 fun v33_8 s8 =>
 I.wop (.binOp .add 3 (.const v33_8) (.const (.int .i64 1)) 3) 3 s8 fun v34_9 s9 =>
 I.wop (.convert 3 24 (.const v34_9)) 24 s9 fun v35_10 s10 =>
 I.call 33 [a0, v29_6, v35_10] s10 fun v36_11 s11 =>
 I.call 66 [a0, v36_11, (.int .u64 7)] s11 fun v37_12 s12 =>
 I.fin si K v37_12 s12)))))
theorem x99 (I : Prims) (a0 a1 a2 : Value) (si : St) (K : Value → St → Prop) : xbody I 38 k99 Tryd.f99 c99 [a0, a1, a2] si K = v99 I a0 a1 a2 si K := by kernel_rfl
theorem n99 [Memo] (ro : Nat) (a0 a1 a2 : Value) (si : St) (K : Value → St → Prop) : wbody P ro 38 Tryd.f99 c99 [a0, a1, a2] si K = v99 (prims P ro) a0 a1 a2 si K := xbody_eq 38 P ro (x99 _ a0 a1 a2 si K)
/- attestor/attestorref01.Exponent -/
noncomputable def c100 : Code := bodyOf Tryd.f100
def k100 : List (List Nat) := []
theorem b100 : BodyOk P 10 1 100 Tryd.f100 c100 := ⟨Tryd.func100, by kernel_rfl, by kernel_rfl, by kernel_rfl, by kernel_rfl, by kernel_rfl⟩
def v100 (I : Prims) (a0 : Value) (si : St) (K : Value → St → Prop) : Prop :=
 I.wop (.binOp .eql 3 (.const a0) (.const (.int .i64 0)) 3) 4 (ent si) fun v5_0 s0 =>
 wdec v5_0
 (I.fin si K (.int .i64 5) s0)
 (I.wop (.binOp .eql 3 (.const a0) (.const (.int .i64 2)) 3) 4 s0 fun v6_1 s1 =>
 wdec v6_1
 (I.fin si K (.int .i64 5) s1)
 (I.wop (.binOp .eql 3 (.const a0) (.const (.int .i64 1)) 3) 4 s1 fun v8_2 s2 =>
 wdec v8_2
 (I.fin si K (.int .i64 3) s2)
 (I.wop (.binOp .eql 3 (.const a0) (.const (.int .i64 3)) 3) 4 s2 fun v9_3 s3 =>
 wdec v9_3
 (I.fin si K (.int .i64 3) s3)
 (I.fin si K (.int .i64 0) s3))))
theorem x100 (I : Prims) (a0 : Value) (si : St) (K : Value → St → Prop) : xbody I 10 k100 Tryd.f100 c100 [a0] si K = v100 I a0 si K := by kernel_rfl
theorem n100 [Memo] (ro : Nat) (a0 : Value) (si : St) (K : Value → St → Prop) : wbody P ro 10 Tryd.f100 c100 [a0] si K = v100 (prims P ro) a0 si K := xbody_eq 10 P ro (x100 _ a0 si K)
/- attestor/attestorref06.row -/
noncomputable def c101 : Code := bodyOf Tryd.f101
def k101 : List (List Nat) := []
theorem b101 : BodyOk P 12 1 101 Tryd.f101 c101 := ⟨Tryd.func101, by kernel_rfl, by kernel_rfl, by kernel_rfl, by kernel_rfl, by kernel_rfl⟩
def v101 (I : Prims) (a0 : Value) (si : St) (K : Value → St → Prop) : Prop :=
 I.wop (.alloc 58) 0 (ent si) fun v2_0 s0 =>
 I.wop (.build 58 ⟨[(0, (.const (.int .u64 2))), (1, (.const (.int .u64 3))), (2, (.const (.int .u64 1))), (3, (.const (.int .u64 1)))]⟩) 58 s0 fun v4_1 s1 =>
 I.wop (.build 58 ⟨[(0, (.const (.int .u64 1))), (1, (.const (.int .u64 2))), (2, (.const (.int .u64 3))), (3, (.const (.int .u64 1)))]⟩) 58 s1 fun v5_2 s2 =>
 I.wop (.build 58 ⟨[(0, (.const (.int .u64 1))), (1, (.const (.int .u64 1))), (2, (.const (.int .u64 2))), (3, (.const (.int .u64 3)))]⟩) 58 s2 fun v6_3 s3 =>
 I.wop (.build 58 ⟨[(0, (.const (.int .u64 3))), (1, (.const (.int .u64 1))), (2, (.const (.int .u64 1))), (3, (.const (.int .u64 2)))]⟩) 58 s3 fun v7_4 s4 =>
 I.wop (.build 150 ⟨[(0, (.const v4_1)), (1, (.const v5_2)), (2, (.const v6_3)), (3, (.const v7_4))]⟩) 150 s4 fun v8_5 s5 =>
 I.wop (.alloc 150) 0 s5 fun v3_6 s6 =>
 I.wop (.store 150 (.const v3_6) (.const v8_5)) 0 s6 fun _ s7 =>
 I.wop (.indexAddr 150 (.const v3_6) (.const a0)) 0 s7 fun v10_8 s8 =>
 I.wop (.load 58 (.const v10_8)) 58 s8 fun v11_9 s9 =>
 I.wop (.store 58 (.const v2_0) (.const v11_9)) 0 s9 fun _ s10 =>
 I.wop (.load 58 (.const v2_0)) 58 s10 fun v2_11 _ =>
 I.fin si K v2_11 s10
theorem x101 (I : Prims) (a0 : Value) (si : St) (K : Value → St → Prop) : xbody I 12 k101 Tryd.f101 c101 [a0] si K = v101 I a0 si K := by kernel_rfl
theorem n101 [Memo] (ro : Nat) (a0 : Value) (si : St) (K : Value → St → Prop) : wbody P ro 12 Tryd.f101 c101 [a0] si K = v101 (prims P ro) a0 si K := xbody_eq 12 P ro (x101 _ a0 si K)
/- attestor/attestorref01.Generator -/
noncomputable def c103 : Code := bodyOf Tryd.f103
def k103 : List (List Nat) := []
theorem b103 : BodyOk P 11 1 103 Tryd.f103 c103 := ⟨Tryd.func103, by kernel_rfl, by kernel_rfl, by kernel_rfl, by kernel_rfl, by kernel_rfl⟩
def v103 (I : Prims) (a0 : Value) (si : St) (K : Value → St → Prop) : Prop :=
 I.wop (.binOp .eql 3 (.const a0) (.const (.int .i64 0)) 3) 4 (ent si) fun v5_0 s0 =>
 wdec v5_0
 (I.fin si K (.int .u64 5) s0)
 (I.wop (.binOp .eql 3 (.const a0) (.const (.int .i64 1)) 3) 4 s0 fun v7_1 s1 =>
 wdec v7_1
 (I.fin si K (.int .u64 3) s1)
 (I.wop (.binOp .eql 3 (.const a0) (.const (.int .i64 3)) 3) 4 s1 fun v8_2 s2 =>
 wdec v8_2
 (I.fin si K (.int .u64 3) s2)
 (I.wop (.binOp .eql 3 (.const a0) (.const (.int .i64 2)) 3) 4 s2 fun v10_3 s3 =>
 wdec v10_3
 (I.fin si K (.int .u64 11) s3)
 (I.fin si K (.int .u64 0) s3))))
theorem x103 (I : Prims) (a0 : Value) (si : St) (K : Value → St → Prop) : xbody I 11 k103 Tryd.f103 c103 [a0] si K = v103 I a0 si K := by kernel_rfl
theorem n103 [Memo] (ro : Nat) (a0 : Value) (si : St) (K : Value → St → Prop) : wbody P ro 11 Tryd.f103 c103 [a0] si K = v103 (prims P ro) a0 si K := xbody_eq 11 P ro (x103 _ a0 si K)
end Go.VE
