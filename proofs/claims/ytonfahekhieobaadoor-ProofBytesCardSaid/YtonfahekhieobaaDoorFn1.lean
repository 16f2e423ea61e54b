/-
  What the functions' code does, operation by operation.
-/
import Derived.Test.YtonfahekhieobaaDoorTy
set_option linter.unusedSimpArgs false
set_option linter.unusedVariables false
namespace Go.VE
open Go Go.Proofs
/- attestor/attestorlaw17.ProofBytes -/
noncomputable def c6 : Code := bodyOf Tryd.f6
noncomputable def c6_1101 : Code := subCode [1, 1, 0, 1] c6
noncomputable def c6_111 : Code := subCode [1, 1, 1] c6
def k6 : List (List Nat) := [[1, 0, 1, 1]]
theorem b6 : BodyOk P 181 4 6 Tryd.f6 c6 := ⟨Tryd.func6, by kernel_rfl, by kernel_rfl, by kernel_rfl, by kernel_rfl, by kernel_rfl⟩
def v6_1101 (I : Prims) (τ : Tau) (ds : List Deferred) (s : St) (Q : Ex → XK) : Prop :=
 wdec (τ 34)
 (I.wop (.binOp .gtr 3 (.const (τ 9)) (.const (.int .i64 0)) 3) 4 s fun v36_0 s0 =>
 I.wop (.load 23 (.const (τ 4))) 23 s0 fun v37_1 s1 =>
 I.call 12 [v37_1] s1 fun v38_2 s2 =>
 I.wop (.binOp .eql 4 (.const v36_0) (.const v38_2) 4) 4 s2 fun v39_3 s3 =>
 wdec v39_3
 (I.call 16 [] s3 fun v41_4 s4 =>
 Q .ret τ [(8, v41_4), (42, v41_4), (40, (.bool true)), (41, v41_4), (40, (.bool true)), (40, v39_3), (39, v39_3), (38, v38_2), (37, v37_1), (36, v36_0), (35, (τ 9)), (34, (.bool true))] ds s4)
 (Q .ret τ [(8, (.bool false)), (42, (.bool false)), (40, (.bool false)), (41, undef), (40, (.bool false)), (40, v39_3), (39, v39_3), (38, v38_2), (37, v37_1), (36, v36_0), (35, (τ 9)), (34, (.bool true))] ds s3))
 (Q .normal τ [(34, (.bool false))] ds s)
theorem n6_1101 (I : Prims) (τ : Tau) (ds : List Deferred) (s : St) (Q : Ex → XK) : xp I none 181 k6 c6_1101 [1, 0, 1, 1] τ [] ds s Q = v6_1101 I τ ds s Q := by kernel_rfl
def v6_111 (I : Prims) (τ : Tau) (ds : List Deferred) (s : St) (Q : Ex → XK) : Prop :=
 I.wop (.fieldAddr 23 (.const (τ 4)) 0) 0 s fun v43_0 s0 =>
 I.wop (.load 3 (.const v43_0)) 3 s0 fun v44_1 s1 =>
 I.call 21 [v44_1] s1 fun v45_2 s2 =>
 I.call 20 [(τ 9), v45_2, (τ 1)] s2 fun v49_3 s3 =>
 I.wop (.load 23 (.const (τ 4))) 23 s3 fun v51_4 s4 =>
 I.call 17 [v51_4, v49_3] s4 fun v53_5 s5 =>
 I.wop (.extract (.const v53_5) 0) 39 s5 fun v54_6 s6 =>
 I.wop (.extract (.const v53_5) 1) 3 s6 fun v55_7 s7 =>
 I.wop (.extract (.const v53_5) 2) 40 s7 fun v56_8 s8 =>
 I.wop (.alloc 39) 0 s8 fun v12_9 s9 =>
 I.wop (.store 39 (.const v12_9) (.const v54_6)) 0 s9 fun _ s10 =>
 I.wop (.convert 51 3 (.const (τ 2))) 3 s10 fun v58_11 s11 =>
 I.wop (.binOp .rem 3 (.const v58_11) (.const (τ 9)) 3) 3 s11 fun v60_12 s12 =>
 I.wop (.binOp .neq 40 (.const v56_8) (.const (.int .i64 0)) 40) 4 s12 fun v62_13 s13 =>
 wdec v62_13
 (Q .ret τ [(8, (.bool false)), (68, (.bool true)), (68, (.bool true)), (63, (.bool true)), (67, undef), (63, (.bool true)), (66, undef), (63, (.bool true)), (65, undef), (63, (.bool true)), (64, undef), (63, (.bool true)), (63, v62_13), (62, v62_13), (61, v56_8), (15, v60_12), (60, v60_12), (59, (τ 9)), (58, v58_11), (57, (τ 2)), (14, v56_8), (13, v55_7), (12, v12_9), (56, v56_8), (55, v55_7), (54, v54_6), (50, v53_5), (53, v53_5), (52, v49_3), (51, v51_4), (11, v49_3), (49, v49_3), (48, (τ 1)), (47, v45_2), (46, (τ 9)), (10, v45_2), (45, v45_2), (44, v44_1), (43, v43_0)] ds s13)
 (I.wop (.call ⟨.builtin .len, ⟨[(.const v49_3)]⟩, #[32]⟩) 3 s13 fun v65_14 s14 =>
 I.wop (.binOp .neq 3 (.const v65_14) (.const (τ 9)) 3) 4 s14 fun v67_15 s15 =>
 wdec v67_15
 (Q .ret τ [(8, (.bool false)), (68, (.bool true)), (68, v67_15), (63, (.bool false)), (67, v67_15), (63, (.bool false)), (66, (τ 9)), (63, (.bool false)), (65, v65_14), (63, (.bool false)), (64, v49_3), (63, (.bool false)), (63, v62_13), (62, v62_13), (61, v56_8), (15, v60_12), (60, v60_12), (59, (τ 9)), (58, v58_11), (57, (τ 2)), (14, v56_8), (13, v55_7), (12, v12_9), (56, v56_8), (55, v55_7), (54, v54_6), (50, v53_5), (53, v53_5), (52, v49_3), (51, v51_4), (11, v49_3), (49, v49_3), (48, (τ 1)), (47, v45_2), (46, (τ 9)), (10, v45_2), (45, v45_2), (44, v44_1), (43, v43_0)] ds s15)
 (I.wop (.load 23 (.const (τ 4))) 23 s15 fun v70_16 s16 =>
 veq v70_16 v70_16 = true ∧ I.wop (.slice 32 (.const v49_3) none (some (.const v60_12)) none) 32 s16 fun v73_17 s17 =>
 I.wop (.alloc 39) 0 s17 fun v16_18 s18 =>
 FreshOk s17 s18 ∧ I.call 17 [v70_16, v73_17] s18 fun v74_19 s19 =>
 Keeps [(9, .blk s17.n)] s18 s19 ∧ I.wop (.extract (.const v74_19) 0) 39 s19 fun v75_20 s20 =>
 I.wop (.extract (.const v74_19) 1) 3 s20 fun v76_21 s21 =>
 I.wop (.extract (.const v74_19) 2) 40 s21 fun v77_22 s22 =>
 I.wop (.store 39 (.const v16_18) (.const v75_20)) 0 s22 fun _ s23 =>
 s22.n ≤ s23.n ∧ I.wop (.load 23 (.const (τ 4))) 23 s23 fun v79_24 s24 =>
 veq v79_24 v79_24 = true ∧ I.wop (.buildSlice 32 0 ⟨[]⟩) 32 s24 fun v80_25 s25 =>
 FreshOk s24 s25 ∧ I.wop (.buildSlice 32 1 ⟨[(0, (.const (τ 3)))]⟩) 32 s25 fun v84_26 s26 =>
 FreshOk s25 s26 ∧ I.wop (.alloc 39) 0 s26 fun v19_27 s27 =>
 FreshOk s26 s27 ∧ I.wop (.call ⟨.builtin .append, ⟨[(.const v80_25), (.const v49_3)]⟩, #[32, 32]⟩) 32 s27 fun v82_28 s28 =>
 Keeps [(12, .blk s26.n), (5, .blk s25.n), (0, .ptr (τ 4))] s27 s28 ∧ I.wop (.call ⟨.builtin .append, ⟨[(.const v82_28), (.const v84_26)]⟩, #[32, 32]⟩) 32 s28 fun v85_29 s29 =>
 Keeps [(12, .blk s26.n), (0, .ptr (τ 4))] s28 s29 ∧ I.call 17 [v79_24, v85_29] s29 fun v86_30 s30 =>
 Keeps [(12, .blk s26.n)] s29 s30 ∧ I.wop (.extract (.const v86_30) 0) 39 s30 fun v87_31 s31 =>
 I.wop (.extract (.const v86_30) 1) 3 s31 fun v88_32 s32 =>
 I.wop (.extract (.const v86_30) 2) 40 s32 fun v89_33 s33 =>
 I.wop (.store 39 (.const v19_27) (.const v87_31)) 0 s33 fun _ s34 =>
 s33.n ≤ s34.n ∧ I.wop (.binOp .neq 3 (.const v76_21) (.const v60_12) 3) 4 s34 fun v92_35 s35 =>
 wdec v92_35
 (Q .ret τ [(8, (.bool false)), (105, (.bool true)), (105, (.bool true)), (102, (.bool true)), (104, undef), (102, (.bool true)), (103, undef), (102, (.bool true)), (102, (.bool true)), (101, (.bool true)), (97, (.bool true)), (100, undef), (97, (.bool true)), (99, undef), (97, (.bool true)), (98, undef), (97, (.bool true)), (97, (.bool true)), (96, (.bool true)), (93, (.bool true)), (95, undef), (93, (.bool true)), (94, undef), (93, (.bool true)), (93, v92_35), (92, v92_35), (91, v60_12), (90, v76_21), (21, v89_33), (20, v88_32), (89, v89_33), (88, v88_32), (87, v87_31), (78, v86_30), (86, v86_30), (85, v85_29), (82, v82_28), (19, v19_27), (84, v84_26), (83, (τ 3)), (81, v49_3), (80, v80_25), (79, v79_24), (18, v77_22), (17, v76_21), (77, v77_22), (76, v76_21), (75, v75_20), (69, v74_19), (74, v74_19), (16, v16_18), (73, v73_17), (72, v60_12), (71, v49_3), (70, v70_16), (68, (.bool false)), (68, v67_15), (63, (.bool false)), (67, v67_15), (63, (.bool false)), (66, (τ 9)), (63, (.bool false)), (65, v65_14), (63, (.bool false)), (64, v49_3), (63, (.bool false)), (63, v62_13), (62, v62_13), (61, v56_8), (15, v60_12), (60, v60_12), (59, (τ 9)), (58, v58_11), (57, (τ 2)), (14, v56_8), (13, v55_7), (12, v12_9), (56, v56_8), (55, v55_7), (54, v54_6), (50, v53_5), (53, v53_5), (52, v49_3), (51, v51_4), (11, v49_3), (49, v49_3), (48, (τ 1)), (47, v45_2), (46, (τ 9)), (10, v45_2), (45, v45_2), (44, v44_1), (43, v43_0)] ds s35)
 (I.wop (.binOp .neq 40 (.const v77_22) (.const (.int .i64 5)) 40) 4 s35 fun v95_36 s36 =>
 wdec v95_36
 (Q .ret τ [(8, (.bool false)), (105, (.bool true)), (105, (.bool true)), (102, (.bool true)), (104, undef), (102, (.bool true)), (103, undef), (102, (.bool true)), (102, (.bool true)), (101, (.bool true)), (97, (.bool true)), (100, undef), (97, (.bool true)), (99, undef), (97, (.bool true)), (98, undef), (97, (.bool true)), (97, v95_36), (96, v95_36), (93, (.bool false)), (95, v95_36), (93, (.bool false)), (94, v77_22), (93, (.bool false)), (93, v92_35), (92, v92_35), (91, v60_12), (90, v76_21), (21, v89_33), (20, v88_32), (89, v89_33), (88, v88_32), (87, v87_31), (78, v86_30), (86, v86_30), (85, v85_29), (82, v82_28), (19, v19_27), (84, v84_26), (83, (τ 3)), (81, v49_3), (80, v80_25), (79, v79_24), (18, v77_22), (17, v76_21), (77, v77_22), (76, v76_21), (75, v75_20), (69, v74_19), (74, v74_19), (16, v16_18), (73, v73_17), (72, v60_12), (71, v49_3), (70, v70_16), (68, (.bool false)), (68, v67_15), (63, (.bool false)), (67, v67_15), (63, (.bool false)), (66, (τ 9)), (63, (.bool false)), (65, v65_14), (63, (.bool false)), (64, v49_3), (63, (.bool false)), (63, v62_13), (62, v62_13), (61, v56_8), (15, v60_12), (60, v60_12), (59, (τ 9)), (58, v58_11), (57, (τ 2)), (14, v56_8), (13, v55_7), (12, v12_9), (56, v56_8), (55, v55_7), (54, v54_6), (50, v53_5), (53, v53_5), (52, v49_3), (51, v51_4), (11, v49_3), (49, v49_3), (48, (τ 1)), (47, v45_2), (46, (τ 9)), (10, v45_2), (45, v45_2), (44, v44_1), (43, v43_0)] ds s36)
 (I.wop (.binOp .neq 3 (.const v88_32) (.const (τ 9)) 3) 4 s36 fun v100_37 s37 =>
 wdec v100_37
 (Q .ret τ [(8, (.bool false)), (105, (.bool true)), (105, (.bool true)), (102, (.bool true)), (104, undef), (102, (.bool true)), (103, undef), (102, (.bool true)), (102, v100_37), (101, v100_37), (97, (.bool false)), (100, v100_37), (97, (.bool false)), (99, (τ 9)), (97, (.bool false)), (98, v88_32), (97, (.bool false)), (97, v95_36), (96, v95_36), (93, (.bool false)), (95, v95_36), (93, (.bool false)), (94, v77_22), (93, (.bool false)), (93, v92_35), (92, v92_35), (91, v60_12), (90, v76_21), (21, v89_33), (20, v88_32), (89, v89_33), (88, v88_32), (87, v87_31), (78, v86_30), (86, v86_30), (85, v85_29), (82, v82_28), (19, v19_27), (84, v84_26), (83, (τ 3)), (81, v49_3), (80, v80_25), (79, v79_24), (18, v77_22), (17, v76_21), (77, v77_22), (76, v76_21), (75, v75_20), (69, v74_19), (74, v74_19), (16, v16_18), (73, v73_17), (72, v60_12), (71, v49_3), (70, v70_16), (68, (.bool false)), (68, v67_15), (63, (.bool false)), (67, v67_15), (63, (.bool false)), (66, (τ 9)), (63, (.bool false)), (65, v65_14), (63, (.bool false)), (64, v49_3), (63, (.bool false)), (63, v62_13), (62, v62_13), (61, v56_8), (15, v60_12), (60, v60_12), (59, (τ 9)), (58, v58_11), (57, (τ 2)), (14, v56_8), (13, v55_7), (12, v12_9), (56, v56_8), (55, v55_7), (54, v54_6), (50, v53_5), (53, v53_5), (52, v49_3), (51, v51_4), (11, v49_3), (49, v49_3), (48, (τ 1)), (47, v45_2), (46, (τ 9)), (10, v45_2), (45, v45_2), (44, v44_1), (43, v43_0)] ds s37)
 (I.wop (.binOp .neq 40 (.const v89_33) (.const (.int .i64 3)) 40) 4 s37 fun v104_38 s38 =>
 wdec v104_38
 (Q .ret τ [(8, (.bool false)), (105, (.bool true)), (105, v104_38), (102, (.bool false)), (104, v104_38), (102, (.bool false)), (103, v89_33), (102, (.bool false)), (102, v100_37), (101, v100_37), (97, (.bool false)), (100, v100_37), (97, (.bool false)), (99, (τ 9)), (97, (.bool false)), (98, v88_32), (97, (.bool false)), (97, v95_36), (96, v95_36), (93, (.bool false)), (95, v95_36), (93, (.bool false)), (94, v77_22), (93, (.bool false)), (93, v92_35), (92, v92_35), (91, v60_12), (90, v76_21), (21, v89_33), (20, v88_32), (89, v89_33), (88, v88_32), (87, v87_31), (78, v86_30), (86, v86_30), (85, v85_29), (82, v82_28), (19, v19_27), (84, v84_26), (83, (τ 3)), (81, v49_3), (80, v80_25), (79, v79_24), (18, v77_22), (17, v76_21), (77, v77_22), (76, v76_21), (75, v75_20), (69, v74_19), (74, v74_19), (16, v16_18), (73, v73_17), (72, v60_12), (71, v49_3), (70, v70_16), (68, (.bool false)), (68, v67_15), (63, (.bool false)), (67, v67_15), (63, (.bool false)), (66, (τ 9)), (63, (.bool false)), (65, v65_14), (63, (.bool false)), (64, v49_3), (63, (.bool false)), (63, v62_13), (62, v62_13), (61, v56_8), (15, v60_12), (60, v60_12), (59, (τ 9)), (58, v58_11), (57, (τ 2)), (14, v56_8), (13, v55_7), (12, v12_9), (56, v56_8), (55, v55_7), (54, v54_6), (50, v53_5), (53, v53_5), (52, v49_3), (51, v51_4), (11, v49_3), (49, v49_3), (48, (τ 1)), (47, v45_2), (46, (τ 9)), (10, v45_2), (45, v45_2), (44, v44_1), (43, v43_0)] ds s38)
 (I.wop (.indexAddr 32 (.const v49_3) (.const v60_12)) 0 s38 fun v110_39 s39 =>
 I.wop (.load 5 (.const v110_39)) 5 s39 fun v111_40 s40 =>
 I.wop (.binOp .xor 5 (.const v111_40) (.const (τ 3)) 5) 5 s40 fun v113_41 s41 =>
 I.wop (.indexAddr 32 (.const v49_3) (.const v60_12)) 0 s41 fun v114_42 s42 =>
 I.wop (.store 5 (.const v114_42) (.const v113_41)) 0 s42 fun _ s43 =>
 I.wop (.binOp .rem 3 (.const v60_12) (.const (.int .i64 4)) 3) 3 s43 fun v117_44 s44 =>
 I.wop (.binOp .sub 3 (.const v60_12) (.const v117_44) 3) 3 s44 fun v118_45 s45 =>
 I.wop (.indexAddr 32 (.const v49_3) (.const v118_45)) 0 s45 fun v121_46 s46 =>
 I.wop (.load 5 (.const v121_46)) 5 s46 fun v122_47 s47 =>
 I.wop (.convert 5 34 (.const v122_47)) 34 s47 fun v123_48 s48 =>
 s48 = s47 ∧ I.wop (.binOp .add 3 (.const v118_45) (.const (.int .i64 1)) 3) 3 s48 fun v126_49 s49 =>
 I.wop (.indexAddr 32 (.const v49_3) (.const v126_49)) 0 s49 fun v127_50 s50 =>
 I.wop (.load 5 (.const v127_50)) 5 s50 fun v128_51 s51 =>
 I.wop (.convert 5 34 (.const v128_51)) 34 s51 fun v129_52 s52 =>
 s52 = s51 ∧ I.wop (.binOp .shl 34 (.const v129_52) (.const (.int .u64 8)) 52) 34 s52 fun v130_53 s53 =>
 I.wop (.binOp .or 34 (.const v123_48) (.const v130_53) 34) 34 s53 fun v131_54 s54 =>
 I.wop (.binOp .add 3 (.const v118_45) (.const (.int .i64 2)) 3) 3 s54 fun v134_55 s55 =>
 I.wop (.indexAddr 32 (.const v49_3) (.const v134_55)) 0 s55 fun v135_56 s56 =>
 I.wop (.load 5 (.const v135_56)) 5 s56 fun v136_57 s57 =>
 I.wop (.convert 5 34 (.const v136_57)) 34 s57 fun v137_58 s58 =>
 s58 = s57 ∧ I.wop (.binOp .shl 34 (.const v137_58) (.const (.int .u64 16)) 52) 34 s58 fun v138_59 s59 =>
 I.wop (.binOp .or 34 (.const v131_54) (.const v138_59) 34) 34 s59 fun v139_60 s60 =>
 I.wop (.binOp .add 3 (.const v118_45) (.const (.int .i64 3)) 3) 3 s60 fun v142_61 s61 =>
 I.wop (.indexAddr 32 (.const v49_3) (.const v142_61)) 0 s61 fun v143_62 s62 =>
 I.wop (.load 5 (.const v143_62)) 5 s62 fun v144_63 s63 =>
 I.wop (.convert 5 34 (.const v144_63)) 34 s63 fun v145_64 s64 =>
 s64 = s63 ∧ I.wop (.binOp .shl 34 (.const v145_64) (.const (.int .u64 24)) 52) 34 s64 fun v146_65 s65 =>
 I.wop (.binOp .or 34 (.const v139_60) (.const v146_65) 34) 34 s65 fun v147_66 s66 =>
 I.wop (.load 23 (.const (τ 4))) 23 s66 fun v149_67 s67 =>
 I.call 17 [v149_67, v49_3] s67 fun v151_68 s68 =>
 I.wop (.extract (.const v151_68) 0) 39 s68 fun v152_69 s69 =>
 I.wop (.extract (.const v151_68) 1) 3 s69 fun v153_70 s70 =>
 I.wop (.extract (.const v151_68) 2) 40 s70 fun v154_71 s71 =>
 I.wop (.alloc 39) 0 s71 fun v24_72 s72 =>
 I.wop (.store 39 (.const v24_72) (.const v152_69)) 0 s72 fun _ s73 =>
 I.wop (.binOp .geq 34 (.const v147_66) (.const v45_2) 34) 4 s73 fun v157_74 s74 =>
 wdec v157_74
 (I.wop (.binOp .eql 40 (.const v154_71) (.const (.int .i64 2)) 40) 4 s74 fun v159_75 s75 =>
 wdec v159_75
 (I.wop (.binOp .eql 3 (.const v153_70) (.const v118_45) 3) 4 s75 fun v163_76 s76 =>
 wdec v163_76
 (I.call 16 [] s76 fun v166_77 s77 =>
 Q .ret τ [(8, v166_77), (167, v166_77), (165, (.bool true)), (166, v166_77), (165, (.bool true)), (165, v163_76), (164, v163_76), (160, (.bool true)), (163, v163_76), (160, (.bool true)), (162, v118_45), (160, (.bool true)), (161, v153_70), (160, (.bool true)), (160, v159_75), (159, v159_75), (158, v154_71), (157, (.bool true)), (157, v157_74), (156, v45_2), (155, v147_66), (26, v154_71), (25, v153_70), (24, v24_72), (154, v154_71), (153, v153_70), (152, v152_69), (148, v151_68), (151, v151_68), (150, v49_3), (149, v149_67), (23, v147_66), (147, v147_66), (146, v146_65), (145, v145_64), (144, v144_63), (143, v143_62), (142, v142_61), (141, v118_45), (140, v49_3), (139, v139_60), (138, v138_59), (137, v137_58), (136, v136_57), (135, v135_56), (134, v134_55), (133, v118_45), (132, v49_3), (131, v131_54), (130, v130_53), (129, v129_52), (128, v128_51), (127, v127_50), (126, v126_49), (125, v118_45), (124, v49_3), (123, v123_48), (122, v122_47), (121, v121_46), (120, v118_45), (119, v49_3), (22, v118_45), (118, v118_45), (117, v117_44), (116, v60_12), (115, v60_12), (114, v114_42), (113, v113_41), (112, (τ 3)), (111, v111_40), (110, v110_39), (109, v60_12), (108, v49_3), (107, v60_12), (106, v49_3), (105, (.bool false)), (105, v104_38), (102, (.bool false)), (104, v104_38), (102, (.bool false)), (103, v89_33), (102, (.bool false)), (102, v100_37), (101, v100_37), (97, (.bool false)), (100, v100_37), (97, (.bool false)), (99, (τ 9)), (97, (.bool false)), (98, v88_32), (97, (.bool false)), (97, v95_36), (96, v95_36), (93, (.bool false)), (95, v95_36), (93, (.bool false)), (94, v77_22), (93, (.bool false)), (93, v92_35), (92, v92_35), (91, v60_12), (90, v76_21), (21, v89_33), (20, v88_32), (89, v89_33), (88, v88_32), (87, v87_31), (78, v86_30), (86, v86_30), (85, v85_29), (82, v82_28), (19, v19_27), (84, v84_26), (83, (τ 3)), (81, v49_3), (80, v80_25), (79, v79_24), (18, v77_22), (17, v76_21), (77, v77_22), (76, v76_21), (75, v75_20), (69, v74_19), (74, v74_19), (16, v16_18), (73, v73_17), (72, v60_12), (71, v49_3), (70, v70_16), (68, (.bool false)), (68, v67_15), (63, (.bool false)), (67, v67_15), (63, (.bool false)), (66, (τ 9)), (63, (.bool false)), (65, v65_14), (63, (.bool false)), (64, v49_3), (63, (.bool false)), (63, v62_13), (62, v62_13), (61, v56_8), (15, v60_12), (60, v60_12), (59, (τ 9)), (58, v58_11), (57, (τ 2)), (14, v56_8), (13, v55_7), (12, v12_9), (56, v56_8), (55, v55_7), (54, v54_6), (50, v53_5), (53, v53_5), (52, v49_3), (51, v51_4), (11, v49_3), (49, v49_3), (48, (τ 1)), (47, v45_2), (46, (τ 9)), (10, v45_2), (45, v45_2), (44, v44_1), (43, v43_0)] ds s77)
 (Q .ret τ [(8, (.bool false)), (167, (.bool false)), (165, (.bool false)), (166, undef), (165, (.bool false)), (165, v163_76), (164, v163_76), (160, (.bool true)), (163, v163_76), (160, (.bool true)), (162, v118_45), (160, (.bool true)), (161, v153_70), (160, (.bool true)), (160, v159_75), (159, v159_75), (158, v154_71), (157, (.bool true)), (157, v157_74), (156, v45_2), (155, v147_66), (26, v154_71), (25, v153_70), (24, v24_72), (154, v154_71), (153, v153_70), (152, v152_69), (148, v151_68), (151, v151_68), (150, v49_3), (149, v149_67), (23, v147_66), (147, v147_66), (146, v146_65), (145, v145_64), (144, v144_63), (143, v143_62), (142, v142_61), (141, v118_45), (140, v49_3), (139, v139_60), (138, v138_59), (137, v137_58), (136, v136_57), (135, v135_56), (134, v134_55), (133, v118_45), (132, v49_3), (131, v131_54), (130, v130_53), (129, v129_52), (128, v128_51), (127, v127_50), (126, v126_49), (125, v118_45), (124, v49_3), (123, v123_48), (122, v122_47), (121, v121_46), (120, v118_45), (119, v49_3), (22, v118_45), (118, v118_45), (117, v117_44), (116, v60_12), (115, v60_12), (114, v114_42), (113, v113_41), (112, (τ 3)), (111, v111_40), (110, v110_39), (109, v60_12), (108, v49_3), (107, v60_12), (106, v49_3), (105, (.bool false)), (105, v104_38), (102, (.bool false)), (104, v104_38), (102, (.bool false)), (103, v89_33), (102, (.bool false)), (102, v100_37), (101, v100_37), (97, (.bool false)), (100, v100_37), (97, (.bool false)), (99, (τ 9)), (97, (.bool false)), (98, v88_32), (97, (.bool false)), (97, v95_36), (96, v95_36), (93, (.bool false)), (95, v95_36), (93, (.bool false)), (94, v77_22), (93, (.bool false)), (93, v92_35), (92, v92_35), (91, v60_12), (90, v76_21), (21, v89_33), (20, v88_32), (89, v89_33), (88, v88_32), (87, v87_31), (78, v86_30), (86, v86_30), (85, v85_29), (82, v82_28), (19, v19_27), (84, v84_26), (83, (τ 3)), (81, v49_3), (80, v80_25), (79, v79_24), (18, v77_22), (17, v76_21), (77, v77_22), (76, v76_21), (75, v75_20), (69, v74_19), (74, v74_19), (16, v16_18), (73, v73_17), (72, v60_12), (71, v49_3), (70, v70_16), (68, (.bool false)), (68, v67_15), (63, (.bool false)), (67, v67_15), (63, (.bool false)), (66, (τ 9)), (63, (.bool false)), (65, v65_14), (63, (.bool false)), (64, v49_3), (63, (.bool false)), (63, v62_13), (62, v62_13), (61, v56_8), (15, v60_12), (60, v60_12), (59, (τ 9)), (58, v58_11), (57, (τ 2)), (14, v56_8), (13, v55_7), (12, v12_9), (56, v56_8), (55, v55_7), (54, v54_6), (50, v53_5), (53, v53_5), (52, v49_3), (51, v51_4), (11, v49_3), (49, v49_3), (48, (τ 1)), (47, v45_2), (46, (τ 9)), (10, v45_2), (45, v45_2), (44, v44_1), (43, v43_0)] ds s76))
 (Q .ret τ [(8, (.bool false)), (167, (.bool false)), (165, (.bool false)), (166, undef), (165, (.bool false)), (165, (.bool false)), (164, (.bool false)), (160, (.bool false)), (163, undef), (160, (.bool false)), (162, undef), (160, (.bool false)), (161, undef), (160, (.bool false)), (160, v159_75), (159, v159_75), (158, v154_71), (157, (.bool true)), (157, v157_74), (156, v45_2), (155, v147_66), (26, v154_71), (25, v153_70), (24, v24_72), (154, v154_71), (153, v153_70), (152, v152_69), (148, v151_68), (151, v151_68), (150, v49_3), (149, v149_67), (23, v147_66), (147, v147_66), (146, v146_65), (145, v145_64), (144, v144_63), (143, v143_62), (142, v142_61), (141, v118_45), (140, v49_3), (139, v139_60), (138, v138_59), (137, v137_58), (136, v136_57), (135, v135_56), (134, v134_55), (133, v118_45), (132, v49_3), (131, v131_54), (130, v130_53), (129, v129_52), (128, v128_51), (127, v127_50), (126, v126_49), (125, v118_45), (124, v49_3), (123, v123_48), (122, v122_47), (121, v121_46), (120, v118_45), (119, v49_3), (22, v118_45), (118, v118_45), (117, v117_44), (116, v60_12), (115, v60_12), (114, v114_42), (113, v113_41), (112, (τ 3)), (111, v111_40), (110, v110_39), (109, v60_12), (108, v49_3), (107, v60_12), (106, v49_3), (105, (.bool false)), (105, v104_38), (102, (.bool false)), (104, v104_38), (102, (.bool false)), (103, v89_33), (102, (.bool false)), (102, v100_37), (101, v100_37), (97, (.bool false)), (100, v100_37), (97, (.bool false)), (99, (τ 9)), (97, (.bool false)), (98, v88_32), (97, (.bool false)), (97, v95_36), (96, v95_36), (93, (.bool false)), (95, v95_36), (93, (.bool false)), (94, v77_22), (93, (.bool false)), (93, v92_35), (92, v92_35), (91, v60_12), (90, v76_21), (21, v89_33), (20, v88_32), (89, v89_33), (88, v88_32), (87, v87_31), (78, v86_30), (86, v86_30), (85, v85_29), (82, v82_28), (19, v19_27), (84, v84_26), (83, (τ 3)), (81, v49_3), (80, v80_25), (79, v79_24), (18, v77_22), (17, v76_21), (77, v77_22), (76, v76_21), (75, v75_20), (69, v74_19), (74, v74_19), (16, v16_18), (73, v73_17), (72, v60_12), (71, v49_3), (70, v70_16), (68, (.bool false)), (68, v67_15), (63, (.bool false)), (67, v67_15), (63, (.bool false)), (66, (τ 9)), (63, (.bool false)), (65, v65_14), (63, (.bool false)), (64, v49_3), (63, (.bool false)), (63, v62_13), (62, v62_13), (61, v56_8), (15, v60_12), (60, v60_12), (59, (τ 9)), (58, v58_11), (57, (τ 2)), (14, v56_8), (13, v55_7), (12, v12_9), (56, v56_8), (55, v55_7), (54, v54_6), (50, v53_5), (53, v53_5), (52, v49_3), (51, v51_4), (11, v49_3), (49, v49_3), (48, (τ 1)), (47, v45_2), (46, (τ 9)), (10, v45_2), (45, v45_2), (44, v44_1), (43, v43_0)] ds s75))
 (I.wop (.binOp .eql 40 (.const v154_71) (.const (.int .i64 0)) 40) 4 s74 fun v169_78 s78 =>
 wdec v169_78
 (I.wop (.load 39 (.const v12_9)) 39 s78 fun v171_79 s79 =>
 I.wop (.load 39 (.const v24_72)) 39 s79 fun v172_80 s80 =>
 I.call 19 [v171_79, v172_80] s80 fun v173_81 s81 =>
 I.wop (.binOp .eql 5 (.const (τ 3)) (.const (.int .u8 0)) 5) 4 s81 fun v175_82 s82 =>
 I.wop (.binOp .eql 4 (.const v173_81) (.const v175_82) 4) 4 s82 fun v176_83 s83 =>
 wdec v176_83
 (I.call 16 [] s83 fun v179_84 s84 =>
 Q .ret τ [(8, v179_84), (180, v179_84), (178, (.bool true)), (179, v179_84), (178, (.bool true)), (178, v176_83), (177, v176_83), (170, (.bool true)), (176, v176_83), (170, (.bool true)), (175, v175_82), (170, (.bool true)), (174, (τ 3)), (170, (.bool true)), (173, v173_81), (170, (.bool true)), (172, v172_80), (170, (.bool true)), (171, v171_79), (170, (.bool true)), (170, v169_78), (169, v169_78), (168, v154_71), (157, (.bool false)), (157, v157_74), (156, v45_2), (155, v147_66), (26, v154_71), (25, v153_70), (24, v24_72), (154, v154_71), (153, v153_70), (152, v152_69), (148, v151_68), (151, v151_68), (150, v49_3), (149, v149_67), (23, v147_66), (147, v147_66), (146, v146_65), (145, v145_64), (144, v144_63), (143, v143_62), (142, v142_61), (141, v118_45), (140, v49_3), (139, v139_60), (138, v138_59), (137, v137_58), (136, v136_57), (135, v135_56), (134, v134_55), (133, v118_45), (132, v49_3), (131, v131_54), (130, v130_53), (129, v129_52), (128, v128_51), (127, v127_50), (126, v126_49), (125, v118_45), (124, v49_3), (123, v123_48), (122, v122_47), (121, v121_46), (120, v118_45), (119, v49_3), (22, v118_45), (118, v118_45), (117, v117_44), (116, v60_12), (115, v60_12), (114, v114_42), (113, v113_41), (112, (τ 3)), (111, v111_40), (110, v110_39), (109, v60_12), (108, v49_3), (107, v60_12), (106, v49_3), (105, (.bool false)), (105, v104_38), (102, (.bool false)), (104, v104_38), (102, (.bool false)), (103, v89_33), (102, (.bool false)), (102, v100_37), (101, v100_37), (97, (.bool false)), (100, v100_37), (97, (.bool false)), (99, (τ 9)), (97, (.bool false)), (98, v88_32), (97, (.bool false)), (97, v95_36), (96, v95_36), (93, (.bool false)), (95, v95_36), (93, (.bool false)), (94, v77_22), (93, (.bool false)), (93, v92_35), (92, v92_35), (91, v60_12), (90, v76_21), (21, v89_33), (20, v88_32), (89, v89_33), (88, v88_32), (87, v87_31), (78, v86_30), (86, v86_30), (85, v85_29), (82, v82_28), (19, v19_27), (84, v84_26), (83, (τ 3)), (81, v49_3), (80, v80_25), (79, v79_24), (18, v77_22), (17, v76_21), (77, v77_22), (76, v76_21), (75, v75_20), (69, v74_19), (74, v74_19), (16, v16_18), (73, v73_17), (72, v60_12), (71, v49_3), (70, v70_16), (68, (.bool false)), (68, v67_15), (63, (.bool false)), (67, v67_15), (63, (.bool false)), (66, (τ 9)), (63, (.bool false)), (65, v65_14), (63, (.bool false)), (64, v49_3), (63, (.bool false)), (63, v62_13), (62, v62_13), (61, v56_8), (15, v60_12), (60, v60_12), (59, (τ 9)), (58, v58_11), (57, (τ 2)), (14, v56_8), (13, v55_7), (12, v12_9), (56, v56_8), (55, v55_7), (54, v54_6), (50, v53_5), (53, v53_5), (52, v49_3), (51, v51_4), (11, v49_3), (49, v49_3), (48, (τ 1)), (47, v45_2), (46, (τ 9)), (10, v45_2), (45, v45_2), (44, v44_1), (43, v43_0)] ds s84)
 (Q .ret τ [(8, (.bool false)), (180, (.bool false)), (178, (.bool false)), (179, undef), (178, (.bool false)), (178, v176_83), (177, v176_83), (170, (.bool true)), (176, v176_83), (170, (.bool true)), (175, v175_82), (170, (.bool true)), (174, (τ 3)), (170, (.bool true)), (173, v173_81), (170, (.bool true)), (172, v172_80), (170, (.bool true)), (171, v171_79), (170, (.bool true)), (170, v169_78), (169, v169_78), (168, v154_71), (157, (.bool false)), (157, v157_74), (156, v45_2), (155, v147_66), (26, v154_71), (25, v153_70), (24, v24_72), (154, v154_71), (153, v153_70), (152, v152_69), (148, v151_68), (151, v151_68), (150, v49_3), (149, v149_67), (23, v147_66), (147, v147_66), (146, v146_65), (145, v145_64), (144, v144_63), (143, v143_62), (142, v142_61), (141, v118_45), (140, v49_3), (139, v139_60), (138, v138_59), (137, v137_58), (136, v136_57), (135, v135_56), (134, v134_55), (133, v118_45), (132, v49_3), (131, v131_54), (130, v130_53), (129, v129_52), (128, v128_51), (127, v127_50), (126, v126_49), (125, v118_45), (124, v49_3), (123, v123_48), (122, v122_47), (121, v121_46), (120, v118_45), (119, v49_3), (22, v118_45), (118, v118_45), (117, v117_44), (116, v60_12), (115, v60_12), (114, v114_42), (113, v113_41), (112, (τ 3)), (111, v111_40), (110, v110_39), (109, v60_12), (108, v49_3), (107, v60_12), (106, v49_3), (105, (.bool false)), (105, v104_38), (102, (.bool false)), (104, v104_38), (102, (.bool false)), (103, v89_33), (102, (.bool false)), (102, v100_37), (101, v100_37), (97, (.bool false)), (100, v100_37), (97, (.bool false)), (99, (τ 9)), (97, (.bool false)), (98, v88_32), (97, (.bool false)), (97, v95_36), (96, v95_36), (93, (.bool false)), (95, v95_36), (93, (.bool false)), (94, v77_22), (93, (.bool false)), (93, v92_35), (92, v92_35), (91, v60_12), (90, v76_21), (21, v89_33), (20, v88_32), (89, v89_33), (88, v88_32), (87, v87_31), (78, v86_30), (86, v86_30), (85, v85_29), (82, v82_28), (19, v19_27), (84, v84_26), (83, (τ 3)), (81, v49_3), (80, v80_25), (79, v79_24), (18, v77_22), (17, v76_21), (77, v77_22), (76, v76_21), (75, v75_20), (69, v74_19), (74, v74_19), (16, v16_18), (73, v73_17), (72, v60_12), (71, v49_3), (70, v70_16), (68, (.bool false)), (68, v67_15), (63, (.bool false)), (67, v67_15), (63, (.bool false)), (66, (τ 9)), (63, (.bool false)), (65, v65_14), (63, (.bool false)), (64, v49_3), (63, (.bool false)), (63, v62_13), (62, v62_13), (61, v56_8), (15, v60_12), (60, v60_12), (59, (τ 9)), (58, v58_11), (57, (τ 2)), (14, v56_8), (13, v55_7), (12, v12_9), (56, v56_8), (55, v55_7), (54, v54_6), (50, v53_5), (53, v53_5), (52, v49_3), (51, v51_4), (11, v49_3), (49, v49_3), (48, (τ 1)), (47, v45_2), (46, (τ 9)), (10, v45_2), (45, v45_2), (44, v44_1), (43, v43_0)] ds s83))
 (Q .ret τ [(8, (.bool false)), (180, (.bool false)), (178, (.bool false)), (179, undef), (178, (.bool false)), (178, (.bool false)), (177, (.bool false)), (170, (.bool false)), (176, undef), (170, (.bool false)), (175, undef), (170, (.bool false)), (174, undef), (170, (.bool false)), (173, undef), (170, (.bool false)), (172, undef), (170, (.bool false)), (171, undef), (170, (.bool false)), (170, v169_78), (169, v169_78), (168, v154_71), (157, (.bool false)), (157, v157_74), (156, v45_2), (155, v147_66), (26, v154_71), (25, v153_70), (24, v24_72), (154, v154_71), (153, v153_70), (152, v152_69), (148, v151_68), (151, v151_68), (150, v49_3), (149, v149_67), (23, v147_66), (147, v147_66), (146, v146_65), (145, v145_64), (144, v144_63), (143, v143_62), (142, v142_61), (141, v118_45), (140, v49_3), (139, v139_60), (138, v138_59), (137, v137_58), (136, v136_57), (135, v135_56), (134, v134_55), (133, v118_45), (132, v49_3), (131, v131_54), (130, v130_53), (129, v129_52), (128, v128_51), (127, v127_50), (126, v126_49), (125, v118_45), (124, v49_3), (123, v123_48), (122, v122_47), (121, v121_46), (120, v118_45), (119, v49_3), (22, v118_45), (118, v118_45), (117, v117_44), (116, v60_12), (115, v60_12), (114, v114_42), (113, v113_41), (112, (τ 3)), (111, v111_40), (110, v110_39), (109, v60_12), (108, v49_3), (107, v60_12), (106, v49_3), (105, (.bool false)), (105, v104_38), (102, (.bool false)), (104, v104_38), (102, (.bool false)), (103, v89_33), (102, (.bool false)), (102, v100_37), (101, v100_37), (97, (.bool false)), (100, v100_37), (97, (.bool false)), (99, (τ 9)), (97, (.bool false)), (98, v88_32), (97, (.bool false)), (97, v95_36), (96, v95_36), (93, (.bool false)), (95, v95_36), (93, (.bool false)), (94, v77_22), (93, (.bool false)), (93, v92_35), (92, v92_35), (91, v60_12), (90, v76_21), (21, v89_33), (20, v88_32), (89, v89_33), (88, v88_32), (87, v87_31), (78, v86_30), (86, v86_30), (85, v85_29), (82, v82_28), (19, v19_27), (84, v84_26), (83, (τ 3)), (81, v49_3), (80, v80_25), (79, v79_24), (18, v77_22), (17, v76_21), (77, v77_22), (76, v76_21), (75, v75_20), (69, v74_19), (74, v74_19), (16, v16_18), (73, v73_17), (72, v60_12), (71, v49_3), (70, v70_16), (68, (.bool false)), (68, v67_15), (63, (.bool false)), (67, v67_15), (63, (.bool false)), (66, (τ 9)), (63, (.bool false)), (65, v65_14), (63, (.bool false)), (64, v49_3), (63, (.bool false)), (63, v62_13), (62, v62_13), (61, v56_8), (15, v60_12), (60, v60_12), (59, (τ 9)), (58, v58_11), (57, (τ 2)), (14, v56_8), (13, v55_7), (12, v12_9), (56, v56_8), (55, v55_7), (54, v54_6), (50, v53_5), (53, v53_5), (52, v49_3), (51, v51_4), (11, v49_3), (49, v49_3), (48, (τ 1)), (47, v45_2), (46, (τ 9)), (10, v45_2), (45, v45_2), (44, v44_1), (43, v43_0)] ds s78))))))))
theorem n6_111 (I : Prims) (τ : Tau) (ds : List Deferred) (s : St) (Q : Ex → XK) : xp I none 181 k6 c6_111 [1, 1, 1] τ [] ds s Q = v6_111 I τ ds s Q := by kernel_rfl
def v6 (I : Prims) (a0 a1 a2 a3 : Value) (si : St) (K : Value → St → Prop) : Prop :=
 I.wop (.box 23 (.const a0)) 0 (ent si) fun v4_0 s0 =>
 I.wop (.load 23 (.const v4_0)) 23 s0 fun v27_1 s1 =>
 I.call 14 [v27_1] s1 fun v28_2 s2 =>
 I.wop (.binOp .leq 3 (.const v28_2) (.const (.int .i64 0)) 3) 4 s2 fun v30_3 s3 =>
 wdec v30_3
 (I.hold (xp I none 181 k6 c6_1101 [1, 0, 1, 1] (U undefT [(34, (.bool true)), (31, (.bool true)), (33, undef), (31, (.bool true)), (32, undef), (31, (.bool true)), (31, v30_3), (30, v30_3), (29, v28_2), (9, v28_2), (28, v28_2), (27, v27_1), (8, (.bool false)), (4, v4_0), (0, a0), (1, a1), (2, a2), (3, a3)]) [] [] s3 (sX I none 181 k6 c6_111 [1, 1, 1] (xleave I si Tryd.f6.results.toList K))))
 (I.wop (.binOp .gtr 3 (.const v28_2) (.const (.int .i64 20000)) 3) 4 s3 fun v33_4 s4 =>
 I.hold (xp I none 181 k6 c6_1101 [1, 0, 1, 1] (U undefT [(34, v33_4), (31, (.bool false)), (33, v33_4), (31, (.bool false)), (32, v28_2), (31, (.bool false)), (31, v30_3), (30, v30_3), (29, v28_2), (9, v28_2), (28, v28_2), (27, v27_1), (8, (.bool false)), (4, v4_0), (0, a0), (1, a1), (2, a2), (3, a3)]) [] [] s4 (sX I none 181 k6 c6_111 [1, 1, 1] (xleave I si Tryd.f6.results.toList K))))
theorem x6 (I : Prims) (a0 a1 a2 a3 : Value) (si : St) (K : Value → St → Prop) : xbody I 181 k6 Tryd.f6 c6 [a0, a1, a2, a3] si K = v6 I a0 a1 a2 a3 si K := by kernel_rfl
theorem n6 [Memo] (ro : Nat) (a0 a1 a2 a3 : Value) (si : St) (K : Value → St → Prop) : wbody P ro 181 Tryd.f6 c6 [a0, a1, a2, a3] si K = v6 (prims P ro) a0 a1 a2 a3 si K := xbody_eq 181 P ro (x6 _ a0 a1 a2 a3 si K)
theorem r6 (I : Prims) (si : St) (K : Value → St → Prop) (τ : Tau) (ds : List Deferred) (s : St) : xleave I si Tryd.f6.results.toList K .ret τ [] ds s =
 (xdefers I ds s fun s0 =>
 I.fin si K (τ 8) s0) := by kernel_rfl
/- attestor/proof.Parts -/
noncomputable def c10 : Code := bodyOf Tryd.f10
def k10 : List (List Nat) := []
theorem b10 : BodyOk P 10 1 10 Tryd.f10 c10 := ⟨Tryd.func10, by kernel_rfl, by kernel_rfl, by kernel_rfl, by kernel_rfl, by kernel_rfl⟩
def v10 (I : Prims) (a0 : Value) (si : St) (K : Value → St → Prop) : Prop :=
 I.wop (.box 23 (.const a0)) 0 (ent si) fun v1_0 s0 =>
 I.wop (.load 23 (.const v1_0)) 23 s0 fun v3_1 s1 =>
 I.call 12 [v3_1] s1 fun v4_2 s2 =>
 I.wop (.unOp .not 4 (.const v4_2)) 4 s2 fun v5_3 s3 =>
 wdec v5_3
 (I.fin si K (.slice none 0 0) s3)
 (I.wop (.load 23 (.const v1_0)) 23 s3 fun v6_4 s4 =>
 I.call 32 [v6_4] s4 fun v7_5 s5 =>
 I.call 31 [v7_5] s5 fun v8_6 s6 =>
 I.call 30 [v8_6, (.func (.func 33) (.mk []) (.mk []))] s6 fun v9_7 s7 =>
 I.fin si K v9_7 s7)
theorem x10 (I : Prims) (a0 : Value) (si : St) (K : Value → St → Prop) : xbody I 10 k10 Tryd.f10 c10 [a0] si K = v10 I a0 si K := by kernel_rfl
theorem n10 [Memo] (ro : Nat) (a0 : Value) (si : St) (K : Value → St → Prop) : wbody P ro 10 Tryd.f10 c10 [a0] si K = v10 (prims P ro) a0 si K := xbody_eq 10 P ro (x10 _ a0 si K)
/- attestor/proof.Valid -/
noncomputable def c12 : Code := bodyOf Tryd.f12
noncomputable def c12_1001 : Code := subCode [1, 0, 0, 1] c12
noncomputable def c12_11 : Code := subCode [1, 1] c12
def k12 : List (List Nat) := [[1, 0, 0, 1]]
theorem b12 : BodyOk P 60 1 12 Tryd.f12 c12 := ⟨Tryd.func12, by kernel_rfl, by kernel_rfl, by kernel_rfl, by kernel_rfl, by kernel_rfl⟩
def v12_1001 (I : Prims) (τ : Tau) (ds : List Deferred) (s : St) (Q : Ex → XK) : Prop :=
 wdec (τ 3)
 (Q .ret τ [(2, (.bool false)), (3, (.bool true))] ds s)
 (I.wop (.fieldAddr 23 (.const (τ 1)) 3) 0 s fun v32_0 s0 =>
 I.wop (.load 3 (.const v32_0)) 3 s0 fun v33_1 s1 =>
 I.call 41 [v33_1, (.int .i64 0), (.int .i64 8)] s1 fun v34_2 s2 =>
 I.wop (.unOp .not 4 (.const v34_2)) 4 s2 fun v35_3 s3 =>
 wdec v35_3
 (Q .ret τ [(2, (.bool false)), (31, (.bool true)), (31, (.bool true)), (41, (.bool true)), (36, (.bool true)), (40, undef), (36, (.bool true)), (39, undef), (36, (.bool true)), (38, undef), (36, (.bool true)), (37, undef), (36, (.bool true)), (36, v35_3), (35, v35_3), (34, v34_2), (33, v33_1), (32, v32_0), (3, (.bool false))] ds s3)
 (I.wop (.fieldAddr 23 (.const (τ 1)) 4) 0 s3 fun v37_4 s4 =>
 I.wop (.load 3 (.const v37_4)) 3 s4 fun v38_5 s5 =>
 I.call 41 [v38_5, (.int .i64 1), (.int .i64 64)] s5 fun v39_6 s6 =>
 I.wop (.unOp .not 4 (.const v39_6)) 4 s6 fun v40_7 s7 =>
 wdec v40_7
 (Q .ret τ [(2, (.bool false)), (31, (.bool true)), (31, v40_7), (41, v40_7), (36, (.bool false)), (40, v40_7), (36, (.bool false)), (39, v39_6), (36, (.bool false)), (38, v38_5), (36, (.bool false)), (37, v37_4), (36, (.bool false)), (36, v35_3), (35, v35_3), (34, v34_2), (33, v33_1), (32, v32_0), (3, (.bool false))] ds s7)
 (Q .normal τ [(31, (.bool false)), (31, v40_7), (41, v40_7), (36, (.bool false)), (40, v40_7), (36, (.bool false)), (39, v39_6), (36, (.bool false)), (38, v38_5), (36, (.bool false)), (37, v37_4), (36, (.bool false)), (36, v35_3), (35, v35_3), (34, v34_2), (33, v33_1), (32, v32_0), (3, (.bool false))] ds s7)))
theorem n12_1001 (I : Prims) (τ : Tau) (ds : List Deferred) (s : St) (Q : Ex → XK) : xp I none 60 k12 c12_1001 [1, 0, 0, 1] τ [] ds s Q = v12_1001 I τ ds s Q := by kernel_rfl
def v12_11 (I : Prims) (τ : Tau) (ds : List Deferred) (s : St) (Q : Ex → XK) : Prop :=
 I.wop (.fieldAddr 23 (.const (τ 1)) 5) 0 s fun v42_0 s0 =>
 I.wop (.load 3 (.const v42_0)) 3 s0 fun v43_1 s1 =>
 I.call 41 [v43_1, (.int .i64 0), (.int .i64 64)] s1 fun v44_2 s2 =>
 wdec v44_2
 (I.wop (.fieldAddr 23 (.const (τ 1)) 6) 0 s2 fun v46_3 s3 =>
 I.wop (.load 3 (.const v46_3)) 3 s3 fun v47_4 s4 =>
 I.call 41 [v47_4, (.int .i64 1), (.int .i64 64)] s4 fun v48_5 s5 =>
 wdec v48_5
 (I.wop (.fieldAddr 23 (.const (τ 1)) 7) 0 s5 fun v51_6 s6 =>
 I.wop (.load 3 (.const v51_6)) 3 s6 fun v52_7 s7 =>
 I.call 41 [v52_7, (.int .i64 0), (.int .i64 16)] s7 fun v53_8 s8 =>
 wdec v53_8
 (I.wop (.fieldAddr 23 (.const (τ 1)) 8) 0 s8 fun v56_9 s9 =>
 I.wop (.load 3 (.const v56_9)) 3 s9 fun v57_10 s10 =>
 I.call 41 [v57_10, (.int .i64 1), (.int .i64 16)] s10 fun v58_11 s11 =>
 Q .ret τ [(2, v58_11), (59, v58_11), (55, (.bool true)), (58, v58_11), (55, (.bool true)), (57, v57_10), (55, (.bool true)), (56, v56_9), (55, (.bool true)), (55, v53_8), (54, v53_8), (50, (.bool true)), (53, v53_8), (50, (.bool true)), (52, v52_7), (50, (.bool true)), (51, v51_6), (50, (.bool true)), (50, v48_5), (49, v48_5), (45, (.bool true)), (48, v48_5), (45, (.bool true)), (47, v47_4), (45, (.bool true)), (46, v46_3), (45, (.bool true)), (45, v44_2), (44, v44_2), (43, v43_1), (42, v42_0)] ds s11)
 (Q .ret τ [(2, (.bool false)), (59, (.bool false)), (55, (.bool false)), (58, undef), (55, (.bool false)), (57, undef), (55, (.bool false)), (56, undef), (55, (.bool false)), (55, v53_8), (54, v53_8), (50, (.bool true)), (53, v53_8), (50, (.bool true)), (52, v52_7), (50, (.bool true)), (51, v51_6), (50, (.bool true)), (50, v48_5), (49, v48_5), (45, (.bool true)), (48, v48_5), (45, (.bool true)), (47, v47_4), (45, (.bool true)), (46, v46_3), (45, (.bool true)), (45, v44_2), (44, v44_2), (43, v43_1), (42, v42_0)] ds s8))
 (Q .ret τ [(2, (.bool false)), (59, (.bool false)), (55, (.bool false)), (58, undef), (55, (.bool false)), (57, undef), (55, (.bool false)), (56, undef), (55, (.bool false)), (55, (.bool false)), (54, (.bool false)), (50, (.bool false)), (53, undef), (50, (.bool false)), (52, undef), (50, (.bool false)), (51, undef), (50, (.bool false)), (50, v48_5), (49, v48_5), (45, (.bool true)), (48, v48_5), (45, (.bool true)), (47, v47_4), (45, (.bool true)), (46, v46_3), (45, (.bool true)), (45, v44_2), (44, v44_2), (43, v43_1), (42, v42_0)] ds s5))
 (Q .ret τ [(2, (.bool false)), (59, (.bool false)), (55, (.bool false)), (58, undef), (55, (.bool false)), (57, undef), (55, (.bool false)), (56, undef), (55, (.bool false)), (55, (.bool false)), (54, (.bool false)), (50, (.bool false)), (53, undef), (50, (.bool false)), (52, undef), (50, (.bool false)), (51, undef), (50, (.bool false)), (50, (.bool false)), (49, (.bool false)), (45, (.bool false)), (48, undef), (45, (.bool false)), (47, undef), (45, (.bool false)), (46, undef), (45, (.bool false)), (45, v44_2), (44, v44_2), (43, v43_1), (42, v42_0)] ds s2)
theorem n12_11 (I : Prims) (τ : Tau) (ds : List Deferred) (s : St) (Q : Ex → XK) : xp I none 60 k12 c12_11 [1, 1] τ [] ds s Q = v12_11 I τ ds s Q := by kernel_rfl
def v12 (I : Prims) (a0 : Value) (si : St) (K : Value → St → Prop) : Prop :=
 I.wop (.box 23 (.const a0)) 0 (ent si) fun v1_0 s0 =>
 I.wop (.fieldAddr 23 (.const v1_0) 0) 0 s0 fun v4_1 s1 =>
 I.wop (.load 3 (.const v4_1)) 3 s1 fun v5_2 s2 =>
 veq v5_2 v5_2 = true ∧ I.call 40 [v5_2] s2 fun v6_3 s3 =>
 I.wop (.unOp .not 4 (.const v6_3)) 4 s3 fun v7_4 s4 =>
 wdec v7_4
 (I.hold (xp I none 60 k12 c12_1001 [1, 0, 0, 1] (U undefT [(3, (.bool true)), (30, (.bool true)), (20, (.bool true)), (29, undef), (20, (.bool true)), (28, undef), (20, (.bool true)), (27, undef), (20, (.bool true)), (26, undef), (20, (.bool true)), (25, undef), (20, (.bool true)), (24, undef), (20, (.bool true)), (23, undef), (20, (.bool true)), (22, undef), (20, (.bool true)), (21, undef), (20, (.bool true)), (20, (.bool true)), (19, (.bool true)), (14, (.bool true)), (18, undef), (14, (.bool true)), (17, undef), (14, (.bool true)), (16, undef), (14, (.bool true)), (15, undef), (14, (.bool true)), (14, (.bool true)), (13, (.bool true)), (8, (.bool true)), (12, undef), (8, (.bool true)), (11, undef), (8, (.bool true)), (10, undef), (8, (.bool true)), (9, undef), (8, (.bool true)), (8, v7_4), (7, v7_4), (6, v6_3), (5, v5_2), (4, v4_1), (2, (.bool false)), (1, v1_0), (0, a0)]) [] [] s4 (blkX 0 (sX I none 60 k12 c12_11 [1, 1] (xleave I si Tryd.f12.results.toList K)))))
 (I.wop (.fieldAddr 23 (.const v1_0) 1) 0 s4 fun v9_5 s5 =>
 I.wop (.load 3 (.const v9_5)) 3 s5 fun v10_6 s6 =>
 veq v10_6 v10_6 = true ∧ I.call 41 [v10_6, (.int .i64 1), (.int .i64 13)] s6 fun v11_7 s7 =>
 I.wop (.unOp .not 4 (.const v11_7)) 4 s7 fun v12_8 s8 =>
 wdec v12_8
 (I.hold (xp I none 60 k12 c12_1001 [1, 0, 0, 1] (U undefT [(3, (.bool true)), (30, (.bool true)), (20, (.bool true)), (29, undef), (20, (.bool true)), (28, undef), (20, (.bool true)), (27, undef), (20, (.bool true)), (26, undef), (20, (.bool true)), (25, undef), (20, (.bool true)), (24, undef), (20, (.bool true)), (23, undef), (20, (.bool true)), (22, undef), (20, (.bool true)), (21, undef), (20, (.bool true)), (20, (.bool true)), (19, (.bool true)), (14, (.bool true)), (18, undef), (14, (.bool true)), (17, undef), (14, (.bool true)), (16, undef), (14, (.bool true)), (15, undef), (14, (.bool true)), (14, v12_8), (13, v12_8), (8, (.bool false)), (12, v12_8), (8, (.bool false)), (11, v11_7), (8, (.bool false)), (10, v10_6), (8, (.bool false)), (9, v9_5), (8, (.bool false)), (8, v7_4), (7, v7_4), (6, v6_3), (5, v5_2), (4, v4_1), (2, (.bool false)), (1, v1_0), (0, a0)]) [] [] s8 (blkX 0 (sX I none 60 k12 c12_11 [1, 1] (xleave I si Tryd.f12.results.toList K)))))
 (I.wop (.fieldAddr 23 (.const v1_0) 2) 0 s8 fun v15_9 s9 =>
 I.wop (.load 3 (.const v15_9)) 3 s9 fun v16_10 s10 =>
 veq v16_10 v16_10 = true ∧ I.call 41 [v16_10, (.int .i64 1), (.int .i64 5)] s10 fun v17_11 s11 =>
 I.wop (.unOp .not 4 (.const v17_11)) 4 s11 fun v18_12 s12 =>
 wdec v18_12
 (I.hold (xp I none 60 k12 c12_1001 [1, 0, 0, 1] (U undefT [(3, (.bool true)), (30, (.bool true)), (20, (.bool true)), (29, undef), (20, (.bool true)), (28, undef), (20, (.bool true)), (27, undef), (20, (.bool true)), (26, undef), (20, (.bool true)), (25, undef), (20, (.bool true)), (24, undef), (20, (.bool true)), (23, undef), (20, (.bool true)), (22, undef), (20, (.bool true)), (21, undef), (20, (.bool true)), (20, v18_12), (19, v18_12), (14, (.bool false)), (18, v18_12), (14, (.bool false)), (17, v17_11), (14, (.bool false)), (16, v16_10), (14, (.bool false)), (15, v15_9), (14, (.bool false)), (14, v12_8), (13, v12_8), (8, (.bool false)), (12, v12_8), (8, (.bool false)), (11, v11_7), (8, (.bool false)), (10, v10_6), (8, (.bool false)), (9, v9_5), (8, (.bool false)), (8, v7_4), (7, v7_4), (6, v6_3), (5, v5_2), (4, v4_1), (2, (.bool false)), (1, v1_0), (0, a0)]) [] [] s12 (blkX 0 (sX I none 60 k12 c12_11 [1, 1] (xleave I si Tryd.f12.results.toList K)))))
 (I.wop (.fieldAddr 23 (.const v1_0) 1) 0 s12 fun v21_13 s13 =>
 I.wop (.load 3 (.const v21_13)) 3 s13 fun v22_14 s14 =>
 veq v22_14 v22_14 = true ∧ I.wop (.fieldAddr 23 (.const v1_0) 2) 0 s14 fun v23_15 s15 =>
 I.wop (.load 3 (.const v23_15)) 3 s15 fun v24_16 s16 =>
 veq v24_16 v24_16 = true ∧ I.wop (.binOp .add 3 (.const v22_14) (.const v24_16) 3) 3 s16 fun v25_17 s17 =>
 I.wop (.fieldAddr 23 (.const v1_0) 0) 0 s17 fun v26_18 s18 =>
 I.wop (.load 3 (.const v26_18)) 3 s18 fun v27_19 s19 =>
 veq v27_19 v27_19 = true ∧ I.call 42 [v27_19] s19 fun v28_20 s20 =>
 Keeps [(20, .ptr v23_15), (18, .ptr v21_13)] s19 s20 ∧ I.wop (.binOp .gtr 3 (.const v25_17) (.const v28_20) 3) 4 s20 fun v29_21 s21 =>
 I.hold (xp I none 60 k12 c12_1001 [1, 0, 0, 1] (U undefT [(3, v29_21), (30, v29_21), (20, (.bool false)), (29, v29_21), (20, (.bool false)), (28, v28_20), (20, (.bool false)), (27, v27_19), (20, (.bool false)), (26, v26_18), (20, (.bool false)), (25, v25_17), (20, (.bool false)), (24, v24_16), (20, (.bool false)), (23, v23_15), (20, (.bool false)), (22, v22_14), (20, (.bool false)), (21, v21_13), (20, (.bool false)), (20, v18_12), (19, v18_12), (14, (.bool false)), (18, v18_12), (14, (.bool false)), (17, v17_11), (14, (.bool false)), (16, v16_10), (14, (.bool false)), (15, v15_9), (14, (.bool false)), (14, v12_8), (13, v12_8), (8, (.bool false)), (12, v12_8), (8, (.bool false)), (11, v11_7), (8, (.bool false)), (10, v10_6), (8, (.bool false)), (9, v9_5), (8, (.bool false)), (8, v7_4), (7, v7_4), (6, v6_3), (5, v5_2), (4, v4_1), (2, (.bool false)), (1, v1_0), (0, a0)]) [] [] s21 (blkX 0 (sX I none 60 k12 c12_11 [1, 1] (xleave I si Tryd.f12.results.toList K)))))))
theorem x12 (I : Prims) (a0 : Value) (si : St) (K : Value → St → Prop) : xbody I 60 k12 Tryd.f12 c12 [a0] si K = v12 I a0 si K := by kernel_rfl
theorem n12 [Memo] (ro : Nat) (a0 : Value) (si : St) (K : Value → St → Prop) : wbody P ro 60 Tryd.f12 c12 [a0] si K = v12 (prims P ro) a0 si K := xbody_eq 60 P ro (x12 _ a0 si K)
theorem r12 (I : Prims) (si : St) (K : Value → St → Prop) (τ : Tau) (ds : List Deferred) (s : St) : xleave I si Tryd.f12.results.toList K .ret τ [] ds s =
 (xdefers I ds s fun s0 =>
 I.fin si K (τ 2) s0) := by kernel_rfl
/- attestor/proof.Size -/
noncomputable def c14 : Code := bodyOf Tryd.f14
noncomputable def c14_110100 : Code := subCode [1, 1, 0, 1, 0, 0] c14
def k14 : List (List Nat) := []
def k14_110100 : List (List Nat) := []
theorem l14_110100 : ltCode 20 c14_110100 = true := by kernel_rfl
theorem m14_110100 : notMap c14_110100 = true := by kernel_rfl
theorem b14 : BodyOk P 20 1 14 Tryd.f14 c14 := ⟨Tryd.func14, by kernel_rfl, by kernel_rfl, by kernel_rfl, by kernel_rfl, by kernel_rfl⟩
def v14_110100 (I : Prims) (rnd : Option Nat) (τ : Tau) (ds : List Deferred) (s : St) (Q : Ex → WK) : Prop :=
 I.wop (.binOp .lss 3 (.const (τ 9)) (.const (τ 8)) 3) 0 s fun v10_0 s0 =>
 wdec v10_0
 (I.wop (.indexAddr 24 (.const (τ 7)) (.const (τ 9))) 0 s0 fun v11_1 s1 =>
 I.wop (.load 30 (.const v11_1)) 30 s1 fun v12_2 s2 =>
 I.wop (.alloc 30) 0 s2 fun v5_3 s3 =>
 I.wop (.store 30 (.const v5_3) (.const v12_2)) 0 s3 fun _ s4 =>
 I.wop (.fieldAddr 30 (.const v5_3) 3) 0 s4 fun v14_5 s5 =>
 I.wop (.load 3 (.const v14_5)) 3 s5 fun v15_6 s6 =>
 I.wop (.binOp .mul 3 (.const (.int .i64 4)) (.const v15_6) 3) 3 s6 fun v16_7 s7 =>
 I.wop (.binOp .add 3 (.const (τ 3)) (.const v16_7) 3) 3 s7 fun v17_8 s8 =>
 I.wop (.binOp .add 3 (.const (τ 9)) (.const (.int .i64 1)) 3) 3 s8 fun v18_9 s9 =>
 Q .normal (U τ [(9, v18_9), (18, v18_9), (3, v17_8), (17, v17_8), (16, v16_7), (15, v15_6), (14, v14_5), (13, (τ 3)), (5, v5_3), (12, v12_2), (11, v11_1), (10, (.bool true)), (10, v10_0)]) ds s9)
 (Q (.exit 0) (U τ [(10, (.bool false)), (10, v10_0)]) ds s0)
theorem x14_110100 (I : Prims) (rnd : Option Nat) (τ : Tau) (ds : List Deferred) (s : St) (Q : Ex → WK) : xp I rnd 20 k14_110100 c14_110100 [] τ [] ds s (lift Q) = v14_110100 I rnd τ ds s Q := by kernel_rfl
theorem n14_110100 [Memo] (ro : Nat) (rnd : Option Nat) (τ : Tau) (ds : List Deferred) (s : St) (Q : Ex → WK) : wp P ro 20 rnd c14_110100 τ ds s Q = v14_110100 (prims P ro) rnd τ ds s Q := xp_wp rnd 20 P ro (x14_110100 _ rnd τ ds s Q)
def v14 (I : Prims) (a0 : Value) (si : St) (K : Value → St → Prop) : Prop :=
 I.wop (.box 23 (.const a0)) 0 (ent si) fun v1_0 s0 =>
 I.wop (.load 23 (.const v1_0)) 23 s0 fun v6_1 s1 =>
 I.call 10 [v6_1] s1 fun v7_2 s2 =>
 I.wop (.call ⟨.builtin .len, ⟨[(.const v7_2)]⟩, #[24]⟩) 3 s2 fun v8_3 s3 =>
 I.loop 20 none c14_110100 (U undefT [(9, (.int .i64 0)), (8, v8_3), (7, v7_2), (6, v6_1), (3, (.int .i64 0)), (2, (.int .i64 0)), (1, v1_0), (0, a0)]) [] s3 (fun τ ds s => ((xleave I si Tryd.f14.results.toList K) .ret) τ [] ds s) [(0, fun τ4 ds4 s4 =>
 xdefers I ds4 s4 fun s5 =>
 I.fin si K (τ4 3) s5)]
theorem x14 (I : Prims) (a0 : Value) (si : St) (K : Value → St → Prop) : xbody I 20 k14 Tryd.f14 c14 [a0] si K = v14 I a0 si K := by kernel_rfl
theorem n14 [Memo] (ro : Nat) (a0 : Value) (si : St) (K : Value → St → Prop) : wbody P ro 20 Tryd.f14 c14 [a0] si K = v14 (prims P ro) a0 si K := xbody_eq 20 P ro (x14 _ a0 si K)
/- attestor/attestorlaw17.awake -/
noncomputable def c16 : Code := bodyOf Tryd.f16
def k16 : List (List Nat) := []
theorem b16 : BodyOk P 93 0 16 Tryd.f16 c16 := ⟨Tryd.func16, by kernel_rfl, by kernel_rfl, by kernel_rfl, by kernel_rfl, by kernel_rfl⟩
def v16 (I : Prims) (si : St) (K : Value → St → Prop) : Prop :=
 I.call 25 [] (ent si) fun v8_0 s0 =>
 I.call 10 [v8_0] s0 fun v9_1 s1 =>
 I.wop (.call ⟨.builtin .len, ⟨[(.const v9_1)]⟩, #[24]⟩) 3 s1 fun v11_2 s2 =>
 I.wop (.binOp .neq 3 (.const v11_2) (.const (.int .i64 17)) 3) 4 s2 fun v12_3 s3 =>
 wdec v12_3
 (I.fin si K (.bool false) s3)
 (I.wop (.indexAddr 24 (.const v9_1) (.const (.int .i64 0))) 0 s3 fun v15_4 s4 =>
 I.wop (.load 30 (.const v15_4)) 30 s4 fun v16_5 s5 =>
 I.wop (.build 30 ⟨[(0, (.const (.int .u8 1))), (3, (.const (.int .i64 4)))]⟩) 30 s5 fun v17_6 s6 =>
 I.wop (.binOp .neq 30 (.const v16_5) (.const v17_6) 30) 4 s6 fun v18_7 s7 =>
 wdec v18_7
 (I.fin si K (.bool false) s7)
 (I.wop (.indexAddr 24 (.const v9_1) (.const (.int .i64 3))) 0 s7 fun v22_8 s8 =>
 I.wop (.fieldAddr 30 (.const v22_8) 0) 0 s8 fun v23_9 s9 =>
 I.wop (.load 28 (.const v23_9)) 28 s9 fun v24_10 s10 =>
 I.wop (.binOp .neq 28 (.const v24_10) (.const (.int .u8 6)) 28) 4 s10 fun v25_11 s11 =>
 wdec v25_11
 (I.fin si K (.bool false) s11)
 (I.wop (.indexAddr 24 (.const v9_1) (.const (.int .i64 3))) 0 s11 fun v29_12 s12 =>
 I.wop (.fieldAddr 30 (.const v29_12) 3) 0 s12 fun v30_13 s13 =>
 I.wop (.load 3 (.const v30_13)) 3 s13 fun v31_14 s14 =>
 I.wop (.binOp .neq 3 (.const v31_14) (.const (.int .i64 4)) 3) 4 s14 fun v32_15 s15 =>
 wdec v32_15
 (I.fin si K (.bool false) s15)
 (I.wop (.indexAddr 24 (.const v9_1) (.const (.int .i64 8))) 0 s15 fun v36_16 s16 =>
 I.wop (.load 30 (.const v36_16)) 30 s16 fun v37_17 s17 =>
 I.wop (.build 30 ⟨[(0, (.const (.int .u8 9))), (2, (.const (.int .i64 1))), (3, (.const (.int .i64 4)))]⟩) 30 s17 fun v38_18 s18 =>
 I.wop (.binOp .neq 30 (.const v37_17) (.const v38_18) 30) 4 s18 fun v39_19 s19 =>
 wdec v39_19
 (I.fin si K (.bool false) s19)
 (I.call 25 [] s19 fun v42_20 s20 =>
 I.call 14 [v42_20] s20 fun v43_21 s21 =>
 I.wop (.binOp .neq 3 (.const v43_21) (.const (.int .i64 176)) 3) 4 s21 fun v44_22 s22 =>
 wdec v44_22
 (I.fin si K (.bool false) s22)
 (I.wop (.makeSlice 32 (.const (.int .i64 176)) (.const (.int .i64 176))) 32 s22 fun v46_23 s23 =>
 I.wop (.indexAddr 32 (.const v46_23) (.const (.int .i64 4))) 0 s23 fun v48_24 s24 =>
 I.wop (.store 5 (.const v48_24) (.const (.int .u8 7))) 0 s24 fun _ s25 =>
 I.call 25 [] s25 fun v50_26 s26 =>
 I.call 17 [v50_26, v46_23] s26 fun v52_27 s27 =>
 I.wop (.extract (.const v52_27) 0) 39 s27 fun v53_28 s28 =>
 I.wop (.extract (.const v52_27) 1) 3 s28 fun v54_29 s29 =>
 I.wop (.extract (.const v52_27) 2) 40 s29 fun v55_30 s30 =>
 I.wop (.alloc 39) 0 s30 fun v3_31 s31 =>
 I.wop (.store 39 (.const v3_31) (.const v53_28)) 0 s31 fun _ s32 =>
 I.wop (.load 39 (.const v3_31)) 39 s32 fun v58_33 s33 =>
 veq v58_33 v58_33 = true ∧ I.call 25 [] s33 fun v57_34 s34 =>
 Keeps [(1, .ptr v3_31)] s33 s34 ∧ I.call 23 [v57_34, v58_33] s34 fun v59_35 s35 =>
 I.wop (.extract (.const v59_35) 0) 32 s35 fun v60_36 s36 =>
 I.wop (.extract (.const v59_35) 1) 40 s36 fun v61_37 s37 =>
 I.wop (.binOp .eql 3 (.const v54_29) (.const (.int .i64 0)) 3) 4 s37 fun v63_38 s38 =>
 wdec v63_38
 (I.wop (.binOp .eql 40 (.const v55_30) (.const (.int .i64 0)) 40) 4 s38 fun v66_39 s39 =>
 wdec v66_39
 (I.wop (.fieldAddr 39 (.const v3_31) 0) 0 s39 fun v69_40 s40 =>
 I.wop (.load 33 (.const v69_40)) 33 s40 fun v70_41 s41 =>
 I.wop (.call ⟨.builtin .len, ⟨[(.const v70_41)]⟩, #[33]⟩) 3 s41 fun v71_42 s42 =>
 I.wop (.binOp .eql 3 (.const v71_42) (.const (.int .i64 2)) 3) 4 s42 fun v72_43 s43 =>
 wdec v72_43
 (I.wop (.fieldAddr 39 (.const v3_31) 0) 0 s43 fun v75_44 s44 =>
 I.wop (.load 33 (.const v75_44)) 33 s44 fun v76_45 s45 =>
 I.wop (.indexAddr 33 (.const v76_45) (.const (.int .i64 0))) 0 s45 fun v77_46 s46 =>
 I.wop (.load 55 (.const v77_46)) 55 s46 fun v78_47 s47 =>
 I.wop (.build 55 ⟨[(0, (.const (.int .u64 0))), (1, (.const (.int .u64 7)))]⟩) 55 s47 fun v79_48 s48 =>
 I.wop (.binOp .eql 55 (.const v78_47) (.const v79_48) 55) 4 s48 fun v80_49 s49 =>
 wdec v80_49
 (I.wop (.binOp .eql 40 (.const v61_37) (.const (.int .i64 0)) 40) 4 s49 fun v84_50 s50 =>
 wdec v84_50
 (I.wop (.convert 32 9 (.const v46_23)) 9 s50 fun v88_51 s51 =>
 I.wop (.convert 32 9 (.const v60_36)) 9 s51 fun v90_52 s52 =>
 I.wop (.binOp .eql 9 (.const v88_51) (.const v90_52) 9) 4 s52 fun v91_53 s53 =>
 I.fin si K v91_53 s53)
 (I.fin si K (.bool false) s50))
 (I.fin si K (.bool false) s49))
 (I.fin si K (.bool false) s43))
 (I.fin si K (.bool false) s39))
 (I.fin si K (.bool false) s38)))))))
theorem x16 (I : Prims) (si : St) (K : Value → St → Prop) : xbody I 93 k16 Tryd.f16 c16 [] si K = v16 I si K := by kernel_rfl
theorem n16 [Memo] (ro : Nat) (si : St) (K : Value → St → Prop) : wbody P ro 93 Tryd.f16 c16 [] si K = v16 (prims P ro) si K := xbody_eq 93 P ro (x16 _ si K)
/- attestor/proof.Decode -/
noncomputable def c17 : Code := bodyOf Tryd.f17
noncomputable def c17_11110100 : Code := subCode [1, 1, 1, 1, 0, 1, 0, 0] c17
noncomputable def c17_111101001100110100 : Code := subCode [1, 1, 1, 1, 0, 1, 0, 0, 1, 1, 0, 0, 1, 1, 0, 1, 0, 0] c17
noncomputable def c17_1111010011001101001100110100 : Code := subCode [1, 1, 1, 1, 0, 1, 0, 0, 1, 1, 0, 0, 1, 1, 0, 1, 0, 0, 1, 1, 0, 0, 1, 1, 0, 1, 0, 0] c17
def k17 : List (List Nat) := []
def k17_11110100 : List (List Nat) := []
theorem l17_11110100 : ltCode 93 c17_11110100 = true := by kernel_rfl
theorem m17_11110100 : notMap c17_11110100 = true := by kernel_rfl
def k17_111101001100110100 : List (List Nat) := []
theorem l17_111101001100110100 : ltCode 93 c17_111101001100110100 = true := by kernel_rfl
theorem m17_111101001100110100 : notMap c17_111101001100110100 = true := by kernel_rfl
def k17_1111010011001101001100110100 : List (List Nat) := []
theorem l17_1111010011001101001100110100 : ltCode 93 c17_1111010011001101001100110100 = true := by kernel_rfl
theorem m17_1111010011001101001100110100 : notMap c17_1111010011001101001100110100 = true := by kernel_rfl
theorem b17 : BodyOk P 93 2 17 Tryd.f17 c17 := ⟨Tryd.func17, by kernel_rfl, by kernel_rfl, by kernel_rfl, by kernel_rfl, by kernel_rfl⟩
def v17_11110100 (I : Prims) (rnd : Option Nat) (τ : Tau) (ds : List Deferred) (s : St) (Q : Ex → WK) : Prop :=
 I.wop (.binOp .lss 3 (.const (τ 24)) (.const (τ 23)) 3) 0 s fun v25_0 s0 =>
 wdec v25_0
 (I.wop (.indexAddr 24 (.const (τ 22)) (.const (τ 24))) 0 s0 fun v26_1 s1 =>
 I.wop (.load 30 (.const v26_1)) 30 s1 fun v27_2 s2 =>
 I.wop (.alloc 30) 0 s2 fun v10_3 s3 =>
 I.wop (.store 30 (.const v10_3) (.const v27_2)) 0 s3 fun _ s4 =>
 I.wop (.fieldAddr 30 (.const v10_3) 3) 0 s4 fun v28_5 s5 =>
 I.wop (.load 3 (.const v28_5)) 3 s5 fun v29_6 s6 =>
 I.wop (.makeSlice 36 (.const (.int .i64 0)) (.const v29_6)) 36 s6 fun v30_7 s7 =>
 I.wop (.fieldAddr 30 (.const v10_3) 3) 0 s7 fun v31_8 s8 =>
 I.wop (.load 3 (.const v31_8)) 3 s8 fun v32_9 s9 =>
 I.loop 93 rnd c17_111101001100110100 (U τ [(33, (.int .i64 0)), (32, v32_9), (31, v31_8), (11, v30_7), (30, v30_7), (29, v29_6), (28, v28_5), (10, v10_3), (27, v27_2), (26, v26_1), (25, (.bool true)), (25, v25_0)]) ds s9 (fun τ ds s => ((lift Q) .ret) τ [] ds s) [(2, fun τ10 ds10 s10 =>
 I.wop (.fieldAddr 30 (.const (τ10 10)) 0) 0 s10 fun v77_11 s11 =>
 I.wop (.load 28 (.const v77_11)) 28 s11 fun v78_12 s12 =>
 veq v78_12 v78_12 = true ∧ I.wop (.load 30 (.const (τ10 10))) 30 s12 fun v81_13 s13 =>
 veq v81_13 v81_13 = true ∧ I.call 48 [] s13 fun v76_14 s14 =>
 Keeps [(5, .ptr (τ10 10)), (2, .ptr v77_11)] s13 s14 ∧ I.wop (.indexAddr 84 (.const v76_14) (.const v78_12)) 0 s14 fun v79_15 s15 =>
 I.wop (.load 83 (.const v79_15)) 83 s15 fun v80_16 s16 =>
 veq v80_16 v80_16 = true ∧ xcallv I v80_16 [(τ10 7), v81_13] s16 fun v82_17 s17 =>
 I.call 49 [v82_17, (τ10 11)] s17 fun v84_18 s18 =>
 I.wop (.binOp .add 3 (.const (τ10 24)) (.const (.int .i64 1)) 3) 3 s18 fun v85_19 s19 =>
 Q .normal (U τ10 [(24, v85_19), (85, v85_19), (84, v84_18), (82, v82_17), (80, v80_16), (79, v79_15), (76, v76_14), (83, (τ10 11)), (81, v81_13), (78, v78_12), (77, v77_11)]) ds10 s19), (4, fun τ20 ds20 s20 =>
 Q (.exit 4) τ20 ds20 s20)])
 (Q (.exit 0) (U τ [(25, (.bool false)), (25, v25_0)]) ds s0)
theorem x17_11110100 (I : Prims) (rnd : Option Nat) (τ : Tau) (ds : List Deferred) (s : St) (Q : Ex → WK) : xp I rnd 93 k17_11110100 c17_11110100 [] τ [] ds s (lift Q) = v17_11110100 I rnd τ ds s Q := by kernel_rfl
theorem n17_11110100 [Memo] (ro : Nat) (rnd : Option Nat) (τ : Tau) (ds : List Deferred) (s : St) (Q : Ex → WK) : wp P ro 93 rnd c17_11110100 τ ds s Q = v17_11110100 (prims P ro) rnd τ ds s Q := xp_wp rnd 93 P ro (x17_11110100 _ rnd τ ds s Q)
def v17_111101001100110100 (I : Prims) (rnd : Option Nat) (τ : Tau) (ds : List Deferred) (s : St) (Q : Ex → WK) : Prop :=
 I.wop (.binOp .lss 3 (.const (τ 33)) (.const (τ 32)) 3) 4 s fun v34_0 s0 =>
 wdec v34_0
 (I.wop (.binOp .add 3 (.const (τ 8)) (.const (.int .i64 4)) 3) 3 s0 fun v36_1 s1 =>
 I.wop (.call ⟨.builtin .len, ⟨[(.const (τ 1))]⟩, #[32]⟩) 3 s1 fun v38_2 s2 =>
 I.wop (.binOp .gtr 3 (.const v36_1) (.const v38_2) 3) 4 s2 fun v39_3 s3 =>
 wdec v39_3
 (I.wop (.build 39 ⟨[]⟩) 39 s3 fun v40_4 s4 =>
 I.wop (.call ⟨.builtin .len, ⟨[(.const (τ 1))]⟩, #[32]⟩) 3 s4 fun v42_5 s5 =>
 I.wop (.store 39 (.const (τ 4)) (.const v40_4)) 0 s5 fun _ s6 =>
 Q .ret (U τ [(6, (.int .i64 5)), (5, v42_5), (42, v42_5), (41, (τ 1)), (40, v40_4), (39, (.bool true)), (39, v39_3), (38, v38_2), (37, (τ 1)), (36, v36_1), (35, (τ 8)), (34, (.bool true)), (34, v34_0)]) ds s6)
 (I.wop (.binOp .add 3 (.const (τ 8)) (.const (.int .i64 4)) 3) 3 s3 fun v46_7 s7 =>
 I.wop (.slice 32 (.const (τ 1)) (some (.const (τ 8))) (some (.const v46_7)) none) 32 s7 fun v47_8 s8 =>
 I.wop (.call ⟨.builtin .len, ⟨[(.const v47_8)]⟩, #[32]⟩) 3 s8 fun v48_9 s9 =>
 I.loop 93 rnd c17_1111010011001101001100110100 (U τ [(49, (.int .i64 0)), (48, v48_9), (47, v47_8), (46, v46_7), (45, (τ 8)), (44, (τ 8)), (43, (τ 1)), (12, (.int .u64 0)), (39, (.bool false)), (39, v39_3), (38, v38_2), (37, (τ 1)), (36, v36_1), (35, (τ 8)), (34, (.bool true)), (34, v34_0)]) ds s9 (fun τ ds s => ((lift Q) .ret) τ [] ds s) [(4, fun τ10 ds10 s10 =>
 I.wop (.fieldAddr 23 (.const (τ10 2)) 0) 0 s10 fun v63_11 s11 =>
 I.wop (.load 3 (.const v63_11)) 3 s11 fun v64_12 s12 =>
 I.call 47 [v64_12] s12 fun v65_13 s13 =>
 I.wop (.binOp .geq 34 (.const (τ10 12)) (.const v65_13) 34) 4 s13 fun v66_14 s14 =>
 wdec v66_14
 (I.wop (.build 39 ⟨[]⟩) 39 s14 fun v67_15 s15 =>
 I.wop (.store 39 (.const (τ10 4)) (.const v67_15)) 0 s15 fun _ s16 =>
 Q .ret (U τ10 [(6, (.int .i64 2)), (5, (τ10 8)), (68, (τ10 8)), (67, v67_15), (66, (.bool true)), (66, v66_14), (65, v65_13), (64, v64_12), (63, v63_11), (62, (τ10 12))]) ds10 s16)
 (I.wop (.buildSlice 36 1 ⟨[(0, (.const (τ10 12)))]⟩) 36 s14 fun v71_17 s17 =>
 I.wop (.call ⟨.builtin .append, ⟨[(.const (τ10 11)), (.const v71_17)]⟩, #[36, 36]⟩) 36 s17 fun v72_18 s18 =>
 I.wop (.binOp .add 3 (.const (τ10 8)) (.const (.int .i64 4)) 3) 3 s18 fun v74_19 s19 =>
 I.wop (.binOp .add 3 (.const (τ10 33)) (.const (.int .i64 1)) 3) 3 s19 fun v75_20 s20 =>
 Q .normal (U τ10 [(33, v75_20), (75, v75_20), (8, v74_19), (74, v74_19), (73, (τ10 8)), (11, v72_18), (72, v72_18), (71, v71_17), (70, (τ10 12)), (69, (τ10 11)), (66, (.bool false)), (66, v66_14), (65, v65_13), (64, v64_12), (63, v63_11), (62, (τ10 12))]) ds10 s20))]))
 (Q (.exit 2) (U τ [(34, (.bool false)), (34, v34_0)]) ds s0)
theorem x17_111101001100110100 (I : Prims) (rnd : Option Nat) (τ : Tau) (ds : List Deferred) (s : St) (Q : Ex → WK) : xp I rnd 93 k17_111101001100110100 c17_111101001100110100 [] τ [] ds s (lift Q) = v17_111101001100110100 I rnd τ ds s Q := by kernel_rfl
theorem n17_111101001100110100 [Memo] (ro : Nat) (rnd : Option Nat) (τ : Tau) (ds : List Deferred) (s : St) (Q : Ex → WK) : wp P ro 93 rnd c17_111101001100110100 τ ds s Q = v17_111101001100110100 (prims P ro) rnd τ ds s Q := xp_wp rnd 93 P ro (x17_111101001100110100 _ rnd τ ds s Q)
def v17_1111010011001101001100110100 (I : Prims) (rnd : Option Nat) (τ : Tau) (ds : List Deferred) (s : St) (Q : Ex → WK) : Prop :=
 I.wop (.binOp .lss 3 (.const (τ 49)) (.const (τ 48)) 3) 0 s fun v50_0 s0 =>
 wdec v50_0
 (I.wop (.indexAddr 32 (.const (τ 47)) (.const (τ 49))) 0 s0 fun v52_1 s1 =>
 I.wop (.load 5 (.const v52_1)) 5 s1 fun v53_2 s2 =>
 I.wop (.convert 5 34 (.const v53_2)) 34 s2 fun v56_3 s3 =>
 I.wop (.binOp .mul 3 (.const (.int .i64 8)) (.const (τ 49)) 3) 3 s3 fun v58_4 s4 =>
 I.wop (.binOp .shl 34 (.const v56_3) (.const v58_4) 3) 34 s4 fun v59_5 s5 =>
 I.wop (.binOp .or 34 (.const (τ 12)) (.const v59_5) 34) 34 s5 fun v60_6 s6 =>
 I.wop (.binOp .add 3 (.const (τ 49)) (.const (.int .i64 1)) 3) 3 s6 fun v61_7 s7 =>
 Q .normal (U τ [(49, v61_7), (61, v61_7), (12, v60_6), (60, v60_6), (59, v59_5), (58, v58_4), (57, (τ 49)), (56, v56_3), (55, v53_2), (54, (τ 12)), (14, v53_2), (13, (τ 49)), (53, v53_2), (52, v52_1), (51, (τ 49)), (50, (.bool true)), (50, v50_0)]) ds s7)
 (Q (.exit 4) (U τ [(50, (.bool false)), (50, v50_0)]) ds s0)
theorem x17_1111010011001101001100110100 (I : Prims) (rnd : Option Nat) (τ : Tau) (ds : List Deferred) (s : St) (Q : Ex → WK) : xp I rnd 93 k17_1111010011001101001100110100 c17_1111010011001101001100110100 [] τ [] ds s (lift Q) = v17_1111010011001101001100110100 I rnd τ ds s Q := by kernel_rfl
theorem n17_1111010011001101001100110100 [Memo] (ro : Nat) (rnd : Option Nat) (τ : Tau) (ds : List Deferred) (s : St) (Q : Ex → WK) : wp P ro 93 rnd c17_1111010011001101001100110100 τ ds s Q = v17_1111010011001101001100110100 (prims P ro) rnd τ ds s Q := xp_wp rnd 93 P ro (x17_1111010011001101001100110100 _ rnd τ ds s Q)
def v17 (I : Prims) (a0 a1 : Value) (si : St) (K : Value → St → Prop) : Prop :=
 I.wop (.box 23 (.const a0)) 0 (ent si) fun v2_0 s0 =>
 I.wop (.alloc 39) 0 s0 fun v4_1 s1 =>
 I.wop (.load 23 (.const v2_0)) 23 s1 fun v15_2 s2 =>
 I.call 12 [v15_2] s2 fun v16_3 s3 =>
 I.wop (.unOp .not 4 (.const v16_3)) 4 s3 fun v17_4 s4 =>
 wdec v17_4
 (I.wop (.build 39 ⟨[]⟩) 39 s4 fun v18_5 s5 =>
 I.wop (.store 39 (.const v4_1) (.const v18_5)) 0 s5 fun _ s6 =>
 I.wop (.load 39 (.const v4_1)) 39 s6 fun v4_7 _ =>
 I.fin si K (.tuple (.mk [v4_7, (.int .i64 0), (.int .i64 1)])) s6)
 (I.wop (.load 23 (.const v2_0)) 23 s4 fun v19_8 s8 =>
 I.call 46 [v19_8] s8 fun v20_9 s9 =>
 I.wop (.alloc 39) 0 s9 fun v7_10 s10 =>
 I.wop (.store 39 (.const v7_10) (.const v20_9)) 0 s10 fun _ s11 =>
 I.wop (.load 23 (.const v2_0)) 23 s11 fun v21_12 s12 =>
 I.call 10 [v21_12] s12 fun v22_13 s13 =>
 I.wop (.call ⟨.builtin .len, ⟨[(.const v22_13)]⟩, #[24]⟩) 3 s13 fun v23_14 s14 =>
 I.loop 93 none c17_11110100 (U undefT [(24, (.int .i64 0)), (23, v23_14), (22, v22_13), (21, v21_12), (8, (.int .i64 0)), (7, v7_10), (20, v20_9), (19, v19_8), (17, (.bool false)), (17, v17_4), (16, v16_3), (15, v15_2), (6, (.int .i64 0)), (5, (.int .i64 0)), (4, v4_1), (2, v2_0), (0, a0), (1, a1)]) [] s14 (fun τ ds s => ((xleave I si Tryd.f17.results.toList K) .ret) τ [] ds s) [(0, fun τ15 ds15 s15 =>
 I.wop (.call ⟨.builtin .len, ⟨[(.const (τ15 1))]⟩, #[32]⟩) 3 s15 fun v88_16 s16 =>
 I.wop (.binOp .lss 3 (.const (τ15 8)) (.const v88_16) 3) 4 s16 fun v89_17 s17 =>
 wdec v89_17
 (I.wop (.build 39 ⟨[]⟩) 39 s17 fun v90_18 s18 =>
 I.wop (.store 39 (.const (τ15 4)) (.const v90_18)) 0 s18 fun _ s19 =>
 xdefers I ds15 s19 fun s20 =>
 I.wop (.load 39 (.const (τ15 4))) 39 s20 fun v4_21 _ =>
 I.fin si K (.tuple (.mk [v4_21, (τ15 8), (.int .i64 3)])) s20)
 (I.wop (.load 39 (.const (τ15 7))) 39 s17 fun v92_22 s22 =>
 I.wop (.store 39 (.const (τ15 4)) (.const v92_22)) 0 s22 fun _ s23 =>
 xdefers I ds15 s23 fun s24 =>
 I.wop (.load 39 (.const (τ15 4))) 39 s24 fun v4_25 _ =>
 I.fin si K (.tuple (.mk [v4_25, (.int .i64 0), (.int .i64 0)])) s24)), (2, fun _ _ _ =>
 False), (4, fun _ _ _ =>
 False)])
theorem x17 (I : Prims) (a0 a1 : Value) (si : St) (K : Value → St → Prop) : xbody I 93 k17 Tryd.f17 c17 [a0, a1] si K = v17 I a0 a1 si K := by kernel_rfl
theorem n17 [Memo] (ro : Nat) (a0 a1 : Value) (si : St) (K : Value → St → Prop) : wbody P ro 93 Tryd.f17 c17 [a0, a1] si K = v17 (prims P ro) a0 a1 si K := xbody_eq 93 P ro (x17 _ a0 a1 si K)
theorem r17 (I : Prims) (si : St) (K : Value → St → Prop) (τ : Tau) (ds : List Deferred) (s : St) : xleave I si Tryd.f17.results.toList K .ret τ [] ds s =
 (xdefers I ds s fun s0 =>
 I.wop (.load 39 (.const (τ 4))) 39 s0 fun v4_1 _ =>
 I.fin si K (.tuple (.mk [v4_1, (τ 5), (τ 6)])) s0) := by kernel_rfl
/- attestor/attestorref17.Same -/
noncomputable def c19 : Code := bodyOf Tryd.f19
noncomputable def c19_110100 : Code := subCode [1, 1, 0, 1, 0, 0] c19
noncomputable def c19_1110100 : Code := subCode [1, 1, 1, 0, 1, 0, 0] c19
def k19 : List (List Nat) := []
def k19_110100 : List (List Nat) := []
theorem l19_110100 : ltCode 107 c19_110100 = true := by kernel_rfl
theorem m19_110100 : notMap c19_110100 = true := by kernel_rfl
def k19_1110100 : List (List Nat) := []
theorem l19_1110100 : ltCode 107 c19_1110100 = true := by kernel_rfl
theorem m19_1110100 : notMap c19_1110100 = true := by kernel_rfl
theorem b19 : BodyOk P 107 2 19 Tryd.f19 c19 := ⟨Tryd.func19, by kernel_rfl, by kernel_rfl, by kernel_rfl, by kernel_rfl, by kernel_rfl⟩
def v19_110100 (I : Prims) (rnd : Option Nat) (τ : Tau) (ds : List Deferred) (s : St) (Q : Ex → WK) : Prop :=
 I.wop (.fieldAddr 39 (.const (τ 2)) 4) 0 s fun v70_0 s0 =>
 I.wop (.load 35 (.const v70_0)) 35 s0 fun v71_1 s1 =>
 I.wop (.call ⟨.builtin .len, ⟨[(.const v71_1)]⟩, #[35]⟩) 3 s1 fun v72_2 s2 =>
 I.wop (.binOp .lss 3 (.const (τ 5)) (.const v72_2) 3) 4 s2 fun v73_3 s3 =>
 wdec v73_3
 (I.wop (.fieldAddr 39 (.const (τ 2)) 4) 0 s3 fun v76_4 s4 =>
 I.wop (.load 35 (.const v76_4)) 35 s4 fun v77_5 s5 =>
 veq v77_5 v77_5 = true ∧ I.wop (.indexAddr 35 (.const v77_5) (.const (τ 5))) 0 s5 fun v79_6 s6 =>
 I.wop (.load 33 (.const v79_6)) 33 s6 fun v80_7 s7 =>
 veq v80_7 v80_7 = true ∧ I.wop (.fieldAddr 39 (.const (τ 3)) 4) 0 s7 fun v81_8 s8 =>
 I.wop (.load 35 (.const v81_8)) 35 s8 fun v82_9 s9 =>
 veq v82_9 v82_9 = true ∧ I.wop (.indexAddr 35 (.const v82_9) (.const (τ 5))) 0 s9 fun v84_10 s10 =>
 I.wop (.load 33 (.const v84_10)) 33 s10 fun v85_11 s11 =>
 veq v85_11 v85_11 = true ∧ I.call 51 [v80_7, v85_11] s11 fun v86_12 s12 =>
 I.wop (.unOp .not 4 (.const v86_12)) 4 s12 fun v87_13 s13 =>
 wdec v87_13
 (Q .ret (U τ [(4, (.bool false)), (87, (.bool true)), (87, v87_13), (86, v86_12), (85, v85_11), (84, v84_10), (83, (τ 5)), (82, v82_9), (81, v81_8), (80, v80_7), (79, v79_6), (78, (τ 5)), (77, v77_5), (76, v76_4), (73, (.bool true)), (73, v73_3), (72, v72_2), (71, v71_1), (70, v70_0), (69, (τ 5))]) ds s13)
 (I.wop (.binOp .add 3 (.const (τ 5)) (.const (.int .i64 1)) 3) 3 s13 fun v75_14 s14 =>
 Q .normal (U τ [(5, v75_14), (75, v75_14), (74, (τ 5)), (87, (.bool false)), (87, v87_13), (86, v86_12), (85, v85_11), (84, v84_10), (83, (τ 5)), (82, v82_9), (81, v81_8), (80, v80_7), (79, v79_6), (78, (τ 5)), (77, v77_5), (76, v76_4), (73, (.bool true)), (73, v73_3), (72, v72_2), (71, v71_1), (70, v70_0), (69, (τ 5))]) ds s14))
 (Q (.exit 0) (U τ [(73, (.bool false)), (73, v73_3), (72, v72_2), (71, v71_1), (70, v70_0), (69, (τ 5))]) ds s3)
theorem x19_110100 (I : Prims) (rnd : Option Nat) (τ : Tau) (ds : List Deferred) (s : St) (Q : Ex → WK) : xp I rnd 107 k19_110100 c19_110100 [] τ [] ds s (lift Q) = v19_110100 I rnd τ ds s Q := by kernel_rfl
theorem n19_110100 [Memo] (ro : Nat) (rnd : Option Nat) (τ : Tau) (ds : List Deferred) (s : St) (Q : Ex → WK) : wp P ro 107 rnd c19_110100 τ ds s Q = v19_110100 (prims P ro) rnd τ ds s Q := xp_wp rnd 107 P ro (x19_110100 _ rnd τ ds s Q)
def v19_1110100 (I : Prims) (rnd : Option Nat) (τ : Tau) (ds : List Deferred) (s : St) (Q : Ex → WK) : Prop :=
 I.wop (.fieldAddr 39 (.const (τ 2)) 7) 0 s fun v89_0 s0 =>
 I.wop (.load 37 (.const v89_0)) 37 s0 fun v90_1 s1 =>
 I.wop (.call ⟨.builtin .len, ⟨[(.const v90_1)]⟩, #[37]⟩) 3 s1 fun v91_2 s2 =>
 I.wop (.binOp .lss 3 (.const (τ 6)) (.const v91_2) 3) 4 s2 fun v92_3 s3 =>
 wdec v92_3
 (I.wop (.fieldAddr 39 (.const (τ 2)) 7) 0 s3 fun v95_4 s4 =>
 I.wop (.load 37 (.const v95_4)) 37 s4 fun v96_5 s5 =>
 veq v96_5 v96_5 = true ∧ I.wop (.indexAddr 37 (.const v96_5) (.const (τ 6))) 0 s5 fun v98_6 s6 =>
 I.wop (.load 59 (.const v98_6)) 59 s6 fun v99_7 s7 =>
 veq v99_7 v99_7 = true ∧ I.wop (.fieldAddr 39 (.const (τ 3)) 7) 0 s7 fun v100_8 s8 =>
 I.wop (.load 37 (.const v100_8)) 37 s8 fun v101_9 s9 =>
 veq v101_9 v101_9 = true ∧ I.wop (.indexAddr 37 (.const v101_9) (.const (τ 6))) 0 s9 fun v103_10 s10 =>
 I.wop (.load 59 (.const v103_10)) 59 s10 fun v104_11 s11 =>
 veq v104_11 v104_11 = true ∧ I.call 53 [v99_7, v104_11] s11 fun v105_12 s12 =>
 I.wop (.unOp .not 4 (.const v105_12)) 4 s12 fun v106_13 s13 =>
 wdec v106_13
 (Q .ret (U τ [(4, (.bool false)), (106, (.bool true)), (106, v106_13), (105, v105_12), (104, v104_11), (103, v103_10), (102, (τ 6)), (101, v101_9), (100, v100_8), (99, v99_7), (98, v98_6), (97, (τ 6)), (96, v96_5), (95, v95_4), (92, (.bool true)), (92, v92_3), (91, v91_2), (90, v90_1), (89, v89_0), (88, (τ 6))]) ds s13)
 (I.wop (.binOp .add 3 (.const (τ 6)) (.const (.int .i64 1)) 3) 3 s13 fun v94_14 s14 =>
 Q .normal (U τ [(6, v94_14), (94, v94_14), (93, (τ 6)), (106, (.bool false)), (106, v106_13), (105, v105_12), (104, v104_11), (103, v103_10), (102, (τ 6)), (101, v101_9), (100, v100_8), (99, v99_7), (98, v98_6), (97, (τ 6)), (96, v96_5), (95, v95_4), (92, (.bool true)), (92, v92_3), (91, v91_2), (90, v90_1), (89, v89_0), (88, (τ 6))]) ds s14))
 (Q (.exit 2) (U τ [(92, (.bool false)), (92, v92_3), (91, v91_2), (90, v90_1), (89, v89_0), (88, (τ 6))]) ds s3)
theorem x19_1110100 (I : Prims) (rnd : Option Nat) (τ : Tau) (ds : List Deferred) (s : St) (Q : Ex → WK) : xp I rnd 107 k19_1110100 c19_1110100 [] τ [] ds s (lift Q) = v19_1110100 I rnd τ ds s Q := by kernel_rfl
theorem n19_1110100 [Memo] (ro : Nat) (rnd : Option Nat) (τ : Tau) (ds : List Deferred) (s : St) (Q : Ex → WK) : wp P ro 107 rnd c19_1110100 τ ds s Q = v19_1110100 (prims P ro) rnd τ ds s Q := xp_wp rnd 107 P ro (x19_1110100 _ rnd τ ds s Q)
def v19 (I : Prims) (a0 a1 : Value) (si : St) (K : Value → St → Prop) : Prop :=
 I.wop (.box 39 (.const a0)) 0 (ent si) fun v2_0 s0 =>
 I.wop (.box 39 (.const a1)) 0 s0 fun v3_1 s1 =>
 I.wop (.fieldAddr 39 (.const v2_0) 3) 0 s1 fun v7_2 s2 =>
 I.wop (.load 34 (.const v7_2)) 34 s2 fun v8_3 s3 =>
 I.wop (.fieldAddr 39 (.const v3_1) 3) 0 s3 fun v9_4 s4 =>
 I.wop (.load 34 (.const v9_4)) 34 s4 fun v10_5 s5 =>
 I.wop (.binOp .neq 34 (.const v8_3) (.const v10_5) 34) 4 s5 fun v11_6 s6 =>
 wdec v11_6
 (I.fin si K (.bool false) s6)
 (I.wop (.fieldAddr 39 (.const v2_0) 6) 0 s6 fun v13_7 s7 =>
 I.wop (.load 34 (.const v13_7)) 34 s7 fun v14_8 s8 =>
 I.wop (.fieldAddr 39 (.const v3_1) 6) 0 s8 fun v15_9 s9 =>
 I.wop (.load 34 (.const v15_9)) 34 s9 fun v16_10 s10 =>
 I.wop (.binOp .neq 34 (.const v14_8) (.const v16_10) 34) 4 s10 fun v17_11 s11 =>
 wdec v17_11
 (I.fin si K (.bool false) s11)
 (I.wop (.fieldAddr 39 (.const v2_0) 4) 0 s11 fun v20_12 s12 =>
 I.wop (.load 35 (.const v20_12)) 35 s12 fun v21_13 s13 =>
 I.wop (.call ⟨.builtin .len, ⟨[(.const v21_13)]⟩, #[35]⟩) 3 s13 fun v22_14 s14 =>
 I.wop (.fieldAddr 39 (.const v3_1) 4) 0 s14 fun v23_15 s15 =>
 I.wop (.load 35 (.const v23_15)) 35 s15 fun v24_16 s16 =>
 I.wop (.call ⟨.builtin .len, ⟨[(.const v24_16)]⟩, #[35]⟩) 3 s16 fun v25_17 s17 =>
 I.wop (.binOp .neq 3 (.const v22_14) (.const v25_17) 3) 4 s17 fun v26_18 s18 =>
 wdec v26_18
 (I.fin si K (.bool false) s18)
 (I.wop (.fieldAddr 39 (.const v2_0) 7) 0 s18 fun v29_19 s19 =>
 I.wop (.load 37 (.const v29_19)) 37 s19 fun v30_20 s20 =>
 I.wop (.call ⟨.builtin .len, ⟨[(.const v30_20)]⟩, #[37]⟩) 3 s20 fun v31_21 s21 =>
 I.wop (.fieldAddr 39 (.const v3_1) 7) 0 s21 fun v32_22 s22 =>
 I.wop (.load 37 (.const v32_22)) 37 s22 fun v33_23 s23 =>
 I.wop (.call ⟨.builtin .len, ⟨[(.const v33_23)]⟩, #[37]⟩) 3 s23 fun v34_24 s24 =>
 I.wop (.binOp .neq 3 (.const v31_21) (.const v34_24) 3) 4 s24 fun v35_25 s25 =>
 wdec v35_25
 (I.fin si K (.bool false) s25)
 (I.wop (.fieldAddr 39 (.const v2_0) 0) 0 s25 fun v38_26 s26 =>
 I.wop (.load 33 (.const v38_26)) 33 s26 fun v39_27 s27 =>
 I.wop (.fieldAddr 39 (.const v3_1) 0) 0 s27 fun v40_28 s28 =>
 I.wop (.load 33 (.const v40_28)) 33 s28 fun v41_29 s29 =>
 I.call 51 [v39_27, v41_29] s29 fun v42_30 s30 =>
 I.wop (.unOp .not 4 (.const v42_30)) 4 s30 fun v43_31 s31 =>
 wdec v43_31
 (I.fin si K (.bool false) s31)
 (I.wop (.fieldAddr 39 (.const v2_0) 1) 0 s31 fun v46_32 s32 =>
 I.wop (.load 33 (.const v46_32)) 33 s32 fun v47_33 s33 =>
 I.wop (.fieldAddr 39 (.const v3_1) 1) 0 s33 fun v48_34 s34 =>
 I.wop (.load 33 (.const v48_34)) 33 s34 fun v49_35 s35 =>
 I.call 51 [v47_33, v49_35] s35 fun v50_36 s36 =>
 I.wop (.unOp .not 4 (.const v50_36)) 4 s36 fun v51_37 s37 =>
 wdec v51_37
 (I.fin si K (.bool false) s37)
 (I.wop (.fieldAddr 39 (.const v2_0) 2) 0 s37 fun v54_38 s38 =>
 I.wop (.load 33 (.const v54_38)) 33 s38 fun v55_39 s39 =>
 I.wop (.fieldAddr 39 (.const v3_1) 2) 0 s39 fun v56_40 s40 =>
 I.wop (.load 33 (.const v56_40)) 33 s40 fun v57_41 s41 =>
 I.call 51 [v55_39, v57_41] s41 fun v58_42 s42 =>
 I.wop (.unOp .not 4 (.const v58_42)) 4 s42 fun v59_43 s43 =>
 wdec v59_43
 (I.fin si K (.bool false) s43)
 (I.wop (.fieldAddr 39 (.const v2_0) 5) 0 s43 fun v62_44 s44 =>
 I.wop (.load 36 (.const v62_44)) 36 s44 fun v63_45 s45 =>
 I.wop (.fieldAddr 39 (.const v3_1) 5) 0 s45 fun v64_46 s46 =>
 I.wop (.load 36 (.const v64_46)) 36 s46 fun v65_47 s47 =>
 I.call 52 [v63_45, v65_47] s47 fun v66_48 s48 =>
 I.wop (.unOp .not 4 (.const v66_48)) 4 s48 fun v67_49 s49 =>
 wdec v67_49
 (I.fin si K (.bool false) s49)
 (I.loop 107 none c19_110100 (U undefT [(5, (.int .i64 0)), (68, (.bool false)), (68, v67_49), (61, (.bool false)), (67, v67_49), (61, (.bool false)), (66, v66_48), (61, (.bool false)), (65, v65_47), (61, (.bool false)), (64, v64_46), (61, (.bool false)), (63, v63_45), (61, (.bool false)), (62, v62_44), (61, (.bool false)), (61, v59_43), (60, v59_43), (53, (.bool false)), (59, v59_43), (53, (.bool false)), (58, v58_42), (53, (.bool false)), (57, v57_41), (53, (.bool false)), (56, v56_40), (53, (.bool false)), (55, v55_39), (53, (.bool false)), (54, v54_38), (53, (.bool false)), (53, v51_37), (52, v51_37), (45, (.bool false)), (51, v51_37), (45, (.bool false)), (50, v50_36), (45, (.bool false)), (49, v49_35), (45, (.bool false)), (48, v48_34), (45, (.bool false)), (47, v47_33), (45, (.bool false)), (46, v46_32), (45, (.bool false)), (45, v43_31), (44, v43_31), (37, (.bool false)), (43, v43_31), (37, (.bool false)), (42, v42_30), (37, (.bool false)), (41, v41_29), (37, (.bool false)), (40, v40_28), (37, (.bool false)), (39, v39_27), (37, (.bool false)), (38, v38_26), (37, (.bool false)), (37, v35_25), (36, v35_25), (28, (.bool false)), (35, v35_25), (28, (.bool false)), (34, v34_24), (28, (.bool false)), (33, v33_23), (28, (.bool false)), (32, v32_22), (28, (.bool false)), (31, v31_21), (28, (.bool false)), (30, v30_20), (28, (.bool false)), (29, v29_19), (28, (.bool false)), (28, v26_18), (27, v26_18), (19, (.bool false)), (26, v26_18), (19, (.bool false)), (25, v25_17), (19, (.bool false)), (24, v24_16), (19, (.bool false)), (23, v23_15), (19, (.bool false)), (22, v22_14), (19, (.bool false)), (21, v21_13), (19, (.bool false)), (20, v20_12), (19, (.bool false)), (19, v17_11), (18, v17_11), (12, (.bool false)), (17, v17_11), (12, (.bool false)), (16, v16_10), (12, (.bool false)), (15, v15_9), (12, (.bool false)), (14, v14_8), (12, (.bool false)), (13, v13_7), (12, (.bool false)), (12, v11_6), (11, v11_6), (10, v10_5), (9, v9_4), (8, v8_3), (7, v7_2), (4, (.bool false)), (3, v3_1), (2, v2_0), (0, a0), (1, a1)]) [] s49 (fun τ ds s => ((xleave I si Tryd.f19.results.toList K) .ret) τ [] ds s) [(0, fun τ50 ds50 s50 =>
 I.loop 107 none c19_1110100 (U τ50 [(6, (.int .i64 0))]) ds50 s50 (fun τ ds s => ((xleave I si Tryd.f19.results.toList K) .ret) τ [] ds s) [(2, fun _ ds51 s51 =>
 xdefers I ds51 s51 fun s52 =>
 I.fin si K (.bool true) s52)])]))))))))
theorem x19 (I : Prims) (a0 a1 : Value) (si : St) (K : Value → St → Prop) : xbody I 107 k19 Tryd.f19 c19 [a0, a1] si K = v19 I a0 a1 si K := by kernel_rfl
theorem n19 [Memo] (ro : Nat) (a0 a1 : Value) (si : St) (K : Value → St → Prop) : wbody P ro 107 Tryd.f19 c19 [a0, a1] si K = v19 (prims P ro) a0 a1 si K := xbody_eq 107 P ro (x19 _ a0 a1 si K)
theorem r19 (I : Prims) (si : St) (K : Value → St → Prop) (τ : Tau) (ds : List Deferred) (s : St) : xleave I si Tryd.f19.results.toList K .ret τ [] ds s =
 (xdefers I ds s fun s0 =>
 I.fin si K (τ 4) s0) := by kernel_rfl
/- attestor/attestorlaw17.bytes -/
noncomputable def c20 : Code := bodyOf Tryd.f20
noncomputable def c20_11000 : Code := subCode [1, 1, 0, 0, 0] c20
def k20 : List (List Nat) := []
def k20_11000 : List (List Nat) := []
theorem l20_11000 : ltCode 38 c20_11000 = true := by kernel_rfl
theorem m20_11000 : notMap c20_11000 = true := by kernel_rfl
theorem b20 : BodyOk P 38 3 20 Tryd.f20 c20 := ⟨Tryd.func20, by kernel_rfl, by kernel_rfl, by kernel_rfl, by kernel_rfl, by kernel_rfl⟩
def v20_11000 (I : Prims) (rnd : Option Nat) (τ : Tau) (ds : List Deferred) (s : St) (Q : Ex → WK) : Prop :=
 I.wop (.call ⟨.builtin .len, ⟨[(.const (τ 7))]⟩, #[32]⟩) 3 s fun v12_0 s0 =>
 I.wop (.binOp .add 3 (.const v12_0) (.const (.int .i64 4)) 3) 3 s0 fun v13_1 s1 =>
 I.wop (.binOp .leq 3 (.const v13_1) (.const (τ 0)) 3) 4 s1 fun v15_2 s2 =>
 wdec v15_2
 (I.wop (.binOp .mul 34 (.const (τ 2)) (.const (.int .u64 6364136223846793005)) 34) 34 s2 fun v17_3 s3 =>
 I.wop (.binOp .add 34 (.const v17_3) (.const (.int .u64 1442695040888963407)) 34) 34 s3 fun v18_4 s4 =>
 I.wop (.binOp .shr 34 (.const v18_4) (.const (.int .u64 33)) 52) 34 s4 fun v20_5 s5 =>
 I.wop (.binOp .rem 34 (.const v20_5) (.const (τ 1)) 34) 34 s5 fun v22_6 s6 =>
 I.wop (.convert 34 5 (.const v22_6)) 5 s6 fun v25_7 s7 =>
 I.wop (.binOp .shr 34 (.const v22_6) (.const (.int .u64 8)) 52) 34 s7 fun v27_8 s8 =>
 I.wop (.convert 34 5 (.const v27_8)) 5 s8 fun v28_9 s9 =>
 I.wop (.binOp .shr 34 (.const v22_6) (.const (.int .u64 16)) 52) 34 s9 fun v30_10 s10 =>
 I.wop (.convert 34 5 (.const v30_10)) 5 s10 fun v31_11 s11 =>
 I.wop (.binOp .shr 34 (.const v22_6) (.const (.int .u64 24)) 52) 34 s11 fun v33_12 s12 =>
 I.wop (.convert 34 5 (.const v33_12)) 5 s12 fun v34_13 s13 =>
 I.wop (.buildSlice 32 4 ⟨[(0, (.const v25_7)), (1, (.const v28_9)), (2, (.const v31_11)), (3, (.const v34_13))]⟩) 32 s13 fun v35_14 s14 =>
 I.wop (.call ⟨.builtin .append, ⟨[(.const (τ 7)), (.const v35_14)]⟩, #[32, 32]⟩) 32 s14 fun v36_15 s15 =>
 Q .normal (U τ [(7, v36_15), (36, v36_15), (35, v35_14), (34, v34_13), (33, v33_12), (32, v22_6), (31, v31_11), (30, v30_10), (29, v22_6), (28, v28_9), (27, v27_8), (26, v22_6), (25, v25_7), (24, v22_6), (23, (τ 7)), (8, v22_6), (22, v22_6), (21, (τ 1)), (20, v20_5), (19, v18_4), (2, v18_4), (18, v18_4), (17, v17_3), (16, (τ 2)), (15, (.bool true)), (15, v15_2), (14, (τ 0)), (13, v13_1), (12, v12_0), (11, (τ 7))]) ds s15)
 (Q (.exit 0) (U τ [(15, (.bool false)), (15, v15_2), (14, (τ 0)), (13, v13_1), (12, v12_0), (11, (τ 7))]) ds s2)
theorem x20_11000 (I : Prims) (rnd : Option Nat) (τ : Tau) (ds : List Deferred) (s : St) (Q : Ex → WK) : xp I rnd 38 k20_11000 c20_11000 [] τ [] ds s (lift Q) = v20_11000 I rnd τ ds s Q := by kernel_rfl
theorem n20_11000 [Memo] (ro : Nat) (rnd : Option Nat) (τ : Tau) (ds : List Deferred) (s : St) (Q : Ex → WK) : wp P ro 38 rnd c20_11000 τ ds s Q = v20_11000 (prims P ro) rnd τ ds s Q := xp_wp rnd 38 P ro (x20_11000 _ rnd τ ds s Q)
def v20 (I : Prims) (a0 a1 a2 : Value) (si : St) (K : Value → St → Prop) : Prop :=
 I.wop (.makeSlice 32 (.const (.int .i64 0)) (.const a0)) 32 (ent si) fun v10_0 s0 =>
 I.loop 38 none c20_11000 (U undefT [(7, v10_0), (10, v10_0), (9, a0), (6, (.slice none 0 0)), (0, a0), (1, a1), (2, a2)]) [] s0 (fun τ ds s => ((xleave I si Tryd.f20.results.toList K) .ret) τ [] ds s) [(0, fun τ1 ds1 s1 =>
 xdefers I ds1 s1 fun s2 =>
 I.fin si K (τ1 7) s2)]
theorem x20 (I : Prims) (a0 a1 a2 : Value) (si : St) (K : Value → St → Prop) : xbody I 38 k20 Tryd.f20 c20 [a0, a1, a2] si K = v20 I a0 a1 a2 si K := by kernel_rfl
theorem n20 [Memo] (ro : Nat) (a0 a1 a2 : Value) (si : St) (K : Value → St → Prop) : wbody P ro 38 Tryd.f20 c20 [a0, a1, a2] si K = v20 (prims P ro) a0 a1 a2 si K := xbody_eq 38 P ro (x20 _ a0 a1 a2 si K)
/- attestor/attestorref01.P -/
noncomputable def c21 : Code := bodyOf Tryd.f21
def k21 : List (List Nat) := []
theorem b21 : BodyOk P 12 1 21 Tryd.f21 c21 := ⟨Tryd.func21, by kernel_rfl, by kernel_rfl, by kernel_rfl, by kernel_rfl, by kernel_rfl⟩
def v21 (I : Prims) (a0 : Value) (si : St) (K : Value → St → Prop) : Prop :=
 I.wop (.binOp .eql 3 (.const a0) (.const (.int .i64 0)) 3) 4 (ent si) fun v5_0 s0 =>
 wdec v5_0
 (I.fin si K (.int .u64 97) s0)
 (I.wop (.binOp .eql 3 (.const a0) (.const (.int .i64 1)) 3) 4 s0 fun v7_1 s1 =>
 wdec v7_1
 (I.fin si K (.int .u64 257) s1)
 (I.wop (.binOp .eql 3 (.const a0) (.const (.int .i64 2)) 3) 4 s1 fun v9_2 s2 =>
 wdec v9_2
 (I.fin si K (.int .u64 12289) s2)
 (I.wop (.binOp .eql 3 (.const a0) (.const (.int .i64 3)) 3) 4 s2 fun v11_3 s3 =>
 wdec v11_3
 (I.fin si K (.int .u64 998244353) s3)
 (I.fin si K (.int .u64 0) s3))))
theorem x21 (I : Prims) (a0 : Value) (si : St) (K : Value → St → Prop) : xbody I 12 k21 Tryd.f21 c21 [a0] si K = v21 I a0 si K := by kernel_rfl
theorem n21 [Memo] (ro : Nat) (a0 : Value) (si : St) (K : Value → St → Prop) : wbody P ro 12 Tryd.f21 c21 [a0] si K = v21 (prims P ro) a0 si K := xbody_eq 12 P ro (x21 _ a0 si K)
/- attestor/proof.Fits -/
noncomputable def c22 : Code := bodyOf Tryd.f22
noncomputable def c22_1110100 : Code := subCode [1, 1, 1, 0, 1, 0, 0] c22
noncomputable def c22_1110101 : Code := subCode [1, 1, 1, 0, 1, 0, 1] c22
def k22 : List (List Nat) := []
def k22_1110100 : List (List Nat) := []
theorem l22_1110100 : ltCode 53 c22_1110100 = true := by kernel_rfl
def k22_1110101 : List (List Nat) := []
theorem l22_1110101 : ltCode 53 c22_1110101 = true := by kernel_rfl
theorem b22 : BodyOk P 53 2 22 Tryd.f22 c22 := ⟨Tryd.func22, by kernel_rfl, by kernel_rfl, by kernel_rfl, by kernel_rfl, by kernel_rfl⟩
def v22_1110100 (I : Prims) (rnd : Option Nat) (τ : Tau) (ds : List Deferred) (s : St) (Q : Ex → WK) : Prop :=
 I.wop (.alloc 30) 0 s fun v5_0 s0 =>
 I.wop (.store 30 (.const v5_0) (.const (τ 32))) 0 s0 fun _ s1 =>
 Q .normal (U τ [(5, v5_0)]) ds s1
theorem x22_1110100 (I : Prims) (rnd : Option Nat) (τ : Tau) (ds : List Deferred) (s : St) (Q : Ex → WK) : xp I rnd 53 k22_1110100 c22_1110100 [] τ [] ds s (lift Q) = v22_1110100 I rnd τ ds s Q := by kernel_rfl
theorem n22_1110100 [Memo] (ro : Nat) (rnd : Option Nat) (τ : Tau) (ds : List Deferred) (s : St) (Q : Ex → WK) : wp P ro 53 rnd c22_1110100 τ ds s Q = v22_1110100 (prims P ro) rnd τ ds s Q := xp_wp rnd 53 P ro (x22_1110100 _ rnd τ ds s Q)
def v22_1110101 (I : Prims) (rnd : Option Nat) (τ : Tau) (ds : List Deferred) (s : St) (Q : Ex → WK) : Prop :=
 I.wop (.fieldAddr 30 (.const (τ 5)) 0) 0 s fun v34_0 s0 =>
 I.wop (.load 28 (.const v34_0)) 28 s0 fun v35_1 s1 =>
 veq v35_1 v35_1 = true ∧ I.wop (.load 30 (.const (τ 5))) 30 s1 fun v38_2 s2 =>
 veq v38_2 v38_2 = true ∧ I.call 48 [] s2 fun v33_3 s3 =>
 Keeps [(5, .ptr (τ 5)), (2, .ptr v34_0)] s2 s3 ∧ I.wop (.indexAddr 84 (.const v33_3) (.const v35_1)) 0 s3 fun v36_4 s4 =>
 I.wop (.load 83 (.const v36_4)) 83 s4 fun v37_5 s5 =>
 veq v37_5 v37_5 = true ∧ xcallv I v37_5 [(τ 3), v38_2] s5 fun v39_6 s6 =>
 I.call 57 [v39_6] s6 fun v40_7 s7 =>
 I.wop (.call ⟨.builtin .len, ⟨[(.const v40_7)]⟩, #[36]⟩) 3 s7 fun v42_8 s8 =>
 I.wop (.fieldAddr 30 (.const (τ 5)) 3) 0 s8 fun v43_9 s9 =>
 I.wop (.load 3 (.const v43_9)) 3 s9 fun v44_10 s10 =>
 I.wop (.binOp .neq 3 (.const v42_8) (.const v44_10) 3) 4 s10 fun v45_11 s11 =>
 wdec v45_11
 (I.wop (.store 4 (.const (τ 4)) (.const (.bool false))) 0 s11 fun _ s12 =>
 Q .ret (U τ [(52, (.bool true)), (52, (.bool true)), (46, (.bool true)), (51, undef), (46, (.bool true)), (50, undef), (46, (.bool true)), (49, undef), (46, (.bool true)), (48, undef), (46, (.bool true)), (47, undef), (46, (.bool true)), (46, v45_11), (45, v45_11), (44, v44_10), (43, v43_9), (42, v42_8), (41, v40_7), (6, v40_7), (40, v40_7), (39, v39_6), (37, v37_5), (36, v36_4), (33, v33_3), (38, v38_2), (35, v35_1), (34, v34_0)]) ds s12)
 (I.wop (.fieldAddr 23 (.const (τ 2)) 0) 0 s11 fun v47_13 s13 =>
 I.wop (.load 3 (.const v47_13)) 3 s13 fun v48_14 s14 =>
 I.call 58 [v48_14, v40_7] s14 fun v50_15 s15 =>
 I.wop (.unOp .not 4 (.const v50_15)) 4 s15 fun v51_16 s16 =>
 wdec v51_16
 (I.wop (.store 4 (.const (τ 4)) (.const (.bool false))) 0 s16 fun _ s17 =>
 Q .ret (U τ [(52, (.bool true)), (52, v51_16), (46, (.bool false)), (51, v51_16), (46, (.bool false)), (50, v50_15), (46, (.bool false)), (49, v40_7), (46, (.bool false)), (48, v48_14), (46, (.bool false)), (47, v47_13), (46, (.bool false)), (46, v45_11), (45, v45_11), (44, v44_10), (43, v43_9), (42, v42_8), (41, v40_7), (6, v40_7), (40, v40_7), (39, v39_6), (37, v37_5), (36, v36_4), (33, v33_3), (38, v38_2), (35, v35_1), (34, v34_0)]) ds s17)
 (Q .normal (U τ [(52, (.bool false)), (52, v51_16), (46, (.bool false)), (51, v51_16), (46, (.bool false)), (50, v50_15), (46, (.bool false)), (49, v40_7), (46, (.bool false)), (48, v48_14), (46, (.bool false)), (47, v47_13), (46, (.bool false)), (46, v45_11), (45, v45_11), (44, v44_10), (43, v43_9), (42, v42_8), (41, v40_7), (6, v40_7), (40, v40_7), (39, v39_6), (37, v37_5), (36, v36_4), (33, v33_3), (38, v38_2), (35, v35_1), (34, v34_0)]) ds s16))
theorem x22_1110101 (I : Prims) (rnd : Option Nat) (τ : Tau) (ds : List Deferred) (s : St) (Q : Ex → WK) : xp I rnd 53 k22_1110101 c22_1110101 [] τ [] ds s (lift Q) = v22_1110101 I rnd τ ds s Q := by kernel_rfl
theorem n22_1110101 [Memo] (ro : Nat) (rnd : Option Nat) (τ : Tau) (ds : List Deferred) (s : St) (Q : Ex → WK) : wp P ro 53 rnd c22_1110101 τ ds s Q = v22_1110101 (prims P ro) rnd τ ds s Q := xp_wp rnd 53 P ro (x22_1110101 _ rnd τ ds s Q)
def v22 (I : Prims) (a0 a1 : Value) (si : St) (K : Value → St → Prop) : Prop :=
 I.wop (.box 23 (.const a0)) 0 (ent si) fun v2_0 s0 =>
 I.wop (.box 39 (.const a1)) 0 s0 fun v3_1 s1 =>
 I.wop (.alloc 4) 0 s1 fun v4_2 s2 =>
 I.wop (.load 23 (.const v2_0)) 23 s2 fun v7_3 s3 =>
 veq v7_3 v7_3 = true ∧ I.call 12 [v7_3] s3 fun v8_4 s4 =>
 I.wop (.unOp .not 4 (.const v8_4)) 4 s4 fun v9_5 s5 =>
 wdec v9_5
 (I.wop (.store 4 (.const v4_2) (.const (.bool false))) 0 s5 fun _ s6 =>
 I.wop (.load 4 (.const v4_2)) 4 s6 fun v4_7 _ =>
 I.fin si K v4_7 s6)
 (I.wop (.fieldAddr 39 (.const v3_1) 4) 0 s5 fun v11_8 s8 =>
 I.wop (.load 35 (.const v11_8)) 35 s8 fun v12_9 s9 =>
 veq v12_9 v12_9 = true ∧ I.wop (.call ⟨.builtin .len, ⟨[(.const v12_9)]⟩, #[35]⟩) 3 s9 fun v13_10 s10 =>
 I.wop (.load 23 (.const v2_0)) 23 s10 fun v14_11 s11 =>
 veq v14_11 v14_11 = true ∧ I.call 54 [v14_11] s11 fun v15_12 s12 =>
 Keeps [(5, .ptr v11_8)] s11 s12 ∧ I.wop (.binOp .neq 3 (.const v13_10) (.const v15_12) 3) 4 s12 fun v16_13 s13 =>
 wdec v16_13
 (I.wop (.store 4 (.const v4_2) (.const (.bool false))) 0 s13 fun _ s14 =>
 I.wop (.load 4 (.const v4_2)) 4 s14 fun v4_15 _ =>
 I.fin si K v4_15 s14)
 (I.wop (.fieldAddr 39 (.const v3_1) 7) 0 s13 fun v19_16 s16 =>
 I.wop (.load 37 (.const v19_16)) 37 s16 fun v20_17 s17 =>
 veq v20_17 v20_17 = true ∧ I.wop (.call ⟨.builtin .len, ⟨[(.const v20_17)]⟩, #[37]⟩) 3 s17 fun v21_18 s18 =>
 I.wop (.fieldAddr 23 (.const v2_0) 4) 0 s18 fun v22_19 s19 =>
 I.wop (.load 3 (.const v22_19)) 3 s19 fun v23_20 s20 =>
 veq v23_20 v23_20 = true ∧ I.wop (.binOp .neq 3 (.const v21_18) (.const v23_20) 3) 4 s20 fun v24_21 s21 =>
 wdec v24_21
 (I.wop (.store 4 (.const v4_2) (.const (.bool false))) 0 s21 fun _ s22 =>
 I.wop (.load 4 (.const v4_2)) 4 s22 fun v4_23 _ =>
 I.fin si K v4_23 s22)
 (I.wop (.fieldAddr 39 (.const v3_1) 7) 0 s21 fun v26_24 s24 =>
 I.wop (.load 37 (.const v26_24)) 37 s24 fun v27_25 s25 =>
 I.call 55 [v27_25, (.func (.func 56) (.mk []) (.mk [v2_0]))] s25 fun v29_26 s26 =>
 wdec v29_26
 (I.wop (.store 4 (.const v4_2) (.const (.bool false))) 0 s26 fun _ s27 =>
 I.wop (.load 4 (.const v4_2)) 4 s27 fun v4_28 _ =>
 I.fin si K v4_28 s27)
 (I.wop (.load 23 (.const v2_0)) 23 s26 fun v30_29 s29 =>
 I.call 32 [v30_29] s29 fun v31_30 s30 =>
 I.range 53 none v31_30 #[32] c22_1110100 c22_1110101 (U undefT [(31, v31_30), (30, v30_29), (29, (.bool false)), (29, v29_26), (28, (.func (.func 56) (.mk []) (.mk [v2_0]))), (27, v27_25), (26, v26_24), (25, (.bool false)), (25, v24_21), (18, (.bool false)), (24, v24_21), (18, (.bool false)), (23, v23_20), (18, (.bool false)), (22, v22_19), (18, (.bool false)), (21, v21_18), (18, (.bool false)), (20, v20_17), (18, (.bool false)), (19, v19_16), (18, (.bool false)), (18, v16_13), (17, v16_13), (10, (.bool false)), (16, v16_13), (10, (.bool false)), (15, v15_12), (10, (.bool false)), (14, v14_11), (10, (.bool false)), (13, v13_10), (10, (.bool false)), (12, v12_9), (10, (.bool false)), (11, v11_8), (10, (.bool false)), (10, v9_5), (9, v9_5), (8, v8_4), (7, v7_3), (4, v4_2), (3, v3_1), (2, v2_0), (0, a0), (1, a1)]) [] s30 (fun τ31 ds31 s31 =>
 I.wop (.store 4 (.const (τ31 4)) (.const (.bool true))) 0 s31 fun _ s32 =>
 xdefers I ds31 s32 fun s33 =>
 I.wop (.load 4 (.const (τ31 4))) 4 s33 fun v4_34 _ =>
 I.fin si K v4_34 s33) (fun τ ds s => ((xleave I si Tryd.f22.results.toList K) .ret) τ [] ds s) []))))
theorem x22 (I : Prims) (a0 a1 : Value) (si : St) (K : Value → St → Prop) : xbody I 53 k22 Tryd.f22 c22 [a0, a1] si K = v22 I a0 a1 si K := by kernel_rfl
theorem n22 [Memo] (ro : Nat) (a0 a1 : Value) (si : St) (K : Value → St → Prop) : wbody P ro 53 Tryd.f22 c22 [a0, a1] si K = v22 (prims P ro) a0 a1 si K := xbody_eq 53 P ro (x22 _ a0 a1 si K)
theorem r22 (I : Prims) (si : St) (K : Value → St → Prop) (τ : Tau) (ds : List Deferred) (s : St) : xleave I si Tryd.f22.results.toList K .ret τ [] ds s =
 (xdefers I ds s fun s0 =>
 I.wop (.load 4 (.const (τ 4))) 4 s0 fun v4_1 _ =>
 I.fin si K v4_1 s0) := by kernel_rfl
/- attestor/proof.Encode -/
noncomputable def c23 : Code := bodyOf Tryd.f23
noncomputable def c23_1110100 : Code := subCode [1, 1, 1, 0, 1, 0, 0] c23
noncomputable def c23_1110101 : Code := subCode [1, 1, 1, 0, 1, 0, 1] c23
noncomputable def c23_11101010100 : Code := subCode [1, 1, 1, 0, 1, 0, 1, 0, 1, 0, 0] c23
noncomputable def c23_1110101010011001100 : Code := subCode [1, 1, 1, 0, 1, 0, 1, 0, 1, 0, 0, 1, 1, 0, 0, 1, 1, 0, 0] c23
def k23 : List (List Nat) := []
def k23_1110100 : List (List Nat) := []
theorem l23_1110100 : ltCode 48 c23_1110100 = true := by kernel_rfl
def k23_1110101 : List (List Nat) := []
theorem l23_1110101 : ltCode 48 c23_1110101 = true := by kernel_rfl
def k23_11101010100 : List (List Nat) := []
theorem l23_11101010100 : ltCode 48 c23_11101010100 = true := by kernel_rfl
theorem m23_11101010100 : notMap c23_11101010100 = true := by kernel_rfl
def k23_1110101010011001100 : List (List Nat) := []
theorem l23_1110101010011001100 : ltCode 48 c23_1110101010011001100 = true := by kernel_rfl
theorem m23_1110101010011001100 : notMap c23_1110101010011001100 = true := by kernel_rfl
theorem b23 : BodyOk P 48 2 23 Tryd.f23 c23 := ⟨Tryd.func23, by kernel_rfl, by kernel_rfl, by kernel_rfl, by kernel_rfl, by kernel_rfl⟩
def v23_1110100 (I : Prims) (rnd : Option Nat) (τ : Tau) (ds : List Deferred) (s : St) (Q : Ex → WK) : Prop :=
 I.wop (.alloc 30) 0 s fun v7_0 s0 =>
 I.wop (.store 30 (.const v7_0) (.const (τ 20))) 0 s0 fun _ s1 =>
 Q .normal (U τ [(7, v7_0)]) ds s1
theorem x23_1110100 (I : Prims) (rnd : Option Nat) (τ : Tau) (ds : List Deferred) (s : St) (Q : Ex → WK) : xp I rnd 48 k23_1110100 c23_1110100 [] τ [] ds s (lift Q) = v23_1110100 I rnd τ ds s Q := by kernel_rfl
theorem n23_1110100 [Memo] (ro : Nat) (rnd : Option Nat) (τ : Tau) (ds : List Deferred) (s : St) (Q : Ex → WK) : wp P ro 48 rnd c23_1110100 τ ds s Q = v23_1110100 (prims P ro) rnd τ ds s Q := xp_wp rnd 48 P ro (x23_1110100 _ rnd τ ds s Q)
def v23_1110101 (I : Prims) (rnd : Option Nat) (τ : Tau) (ds : List Deferred) (s : St) (Q : Ex → WK) : Prop :=
 I.wop (.fieldAddr 30 (.const (τ 7)) 0) 0 s fun v22_0 s0 =>
 I.wop (.load 28 (.const v22_0)) 28 s0 fun v23_1 s1 =>
 veq v23_1 v23_1 = true ∧ I.wop (.load 30 (.const (τ 7))) 30 s1 fun v26_2 s2 =>
 veq v26_2 v26_2 = true ∧ I.call 48 [] s2 fun v21_3 s3 =>
 Keeps [(5, .ptr (τ 7)), (2, .ptr v22_0)] s2 s3 ∧ I.wop (.indexAddr 84 (.const v21_3) (.const v23_1)) 0 s3 fun v24_4 s4 =>
 I.wop (.load 83 (.const v24_4)) 83 s4 fun v25_5 s5 =>
 veq v25_5 v25_5 = true ∧ xcallv I v25_5 [(τ 3), v26_2] s5 fun v27_6 s6 =>
 I.call 57 [v27_6] s6 fun v28_7 s7 =>
 I.wop (.call ⟨.builtin .len, ⟨[(.const v28_7)]⟩, #[36]⟩) 3 s7 fun v29_8 s8 =>
 I.loop 48 rnd c23_11101010100 (U τ [(29, v29_8), (28, v28_7), (27, v27_6), (25, v25_5), (24, v24_4), (21, v21_3), (30, (.int .i64 0)), (26, v26_2), (23, v23_1), (22, v22_0)]) ds s8 (fun τ ds s => ((lift Q) .ret) τ [] ds s) [(2, fun τ9 ds9 s9 =>
 Q .normal τ9 ds9 s9), (4, fun τ10 ds10 s10 =>
 Q (.exit 4) τ10 ds10 s10)]
theorem x23_1110101 (I : Prims) (rnd : Option Nat) (τ : Tau) (ds : List Deferred) (s : St) (Q : Ex → WK) : xp I rnd 48 k23_1110101 c23_1110101 [] τ [] ds s (lift Q) = v23_1110101 I rnd τ ds s Q := by kernel_rfl
theorem n23_1110101 [Memo] (ro : Nat) (rnd : Option Nat) (τ : Tau) (ds : List Deferred) (s : St) (Q : Ex → WK) : wp P ro 48 rnd c23_1110101 τ ds s Q = v23_1110101 (prims P ro) rnd τ ds s Q := xp_wp rnd 48 P ro (x23_1110101 _ rnd τ ds s Q)
def v23_11101010100 (I : Prims) (rnd : Option Nat) (τ : Tau) (ds : List Deferred) (s : St) (Q : Ex → WK) : Prop :=
 I.wop (.binOp .lss 3 (.const (τ 30)) (.const (τ 29)) 3) 0 s fun v31_0 s0 =>
 wdec v31_0
 (I.wop (.indexAddr 36 (.const (τ 28)) (.const (τ 30))) 0 s0 fun v32_1 s1 =>
 I.wop (.load 34 (.const v32_1)) 34 s1 fun v33_2 s2 =>
 I.loop 48 rnd c23_1110101010011001100 (U τ [(34, (.int .i64 0)), (9, v33_2), (33, v33_2), (32, v32_1), (31, (.bool true)), (31, v31_0)]) ds s2 (fun τ ds s => ((lift Q) .ret) τ [] ds s) [(4, fun τ3 ds3 s3 =>
 I.wop (.binOp .add 3 (.const (τ3 30)) (.const (.int .i64 1)) 3) 3 s3 fun v46_4 s4 =>
 Q .normal (U τ3 [(30, v46_4), (46, v46_4)]) ds3 s4)])
 (Q (.exit 2) (U τ [(31, (.bool false)), (31, v31_0)]) ds s0)
theorem x23_11101010100 (I : Prims) (rnd : Option Nat) (τ : Tau) (ds : List Deferred) (s : St) (Q : Ex → WK) : xp I rnd 48 k23_11101010100 c23_11101010100 [] τ [] ds s (lift Q) = v23_11101010100 I rnd τ ds s Q := by kernel_rfl
theorem n23_11101010100 [Memo] (ro : Nat) (rnd : Option Nat) (τ : Tau) (ds : List Deferred) (s : St) (Q : Ex → WK) : wp P ro 48 rnd c23_11101010100 τ ds s Q = v23_11101010100 (prims P ro) rnd τ ds s Q := xp_wp rnd 48 P ro (x23_11101010100 _ rnd τ ds s Q)
def v23_1110101010011001100 (I : Prims) (rnd : Option Nat) (τ : Tau) (ds : List Deferred) (s : St) (Q : Ex → WK) : Prop :=
 I.wop (.binOp .lss 3 (.const (τ 34)) (.const (.int .i64 4)) 3) 4 s fun v35_0 s0 =>
 wdec v35_0
 (I.wop (.load 32 (.const (τ 6))) 32 s0 fun v37_1 s1 =>
 veq v37_1 v37_1 = true ∧ I.wop (.binOp .mul 3 (.const (.int .i64 8)) (.const (τ 34)) 3) 3 s1 fun v40_2 s2 =>
 I.wop (.binOp .shr 34 (.const (τ 9)) (.const v40_2) 3) 34 s2 fun v41_3 s3 =>
 I.wop (.convert 34 5 (.const v41_3)) 5 s3 fun v42_4 s4 =>
 s4 = s3 ∧ veq v42_4 v42_4 = true ∧ I.wop (.buildSlice 32 1 ⟨[(0, (.const v42_4))]⟩) 32 s4 fun v43_5 s5 =>
 FreshOk s4 s5 ∧ I.wop (.call ⟨.builtin .append, ⟨[(.const v37_1), (.const v43_5)]⟩, #[32, 32]⟩) 32 s5 fun v44_6 s6 =>
 s5.n ≤ s6.n ∧ I.wop (.store 32 (.const (τ 6)) (.const v44_6)) 0 s6 fun _ s7 =>
 s6.n ≤ s7.n ∧ I.wop (.binOp .add 3 (.const (τ 34)) (.const (.int .i64 1)) 3) 3 s7 fun v45_8 s8 =>
 Q .normal (U τ [(34, v45_8), (45, v45_8), (44, v44_6), (43, v43_5), (42, v42_4), (41, v41_3), (40, v40_2), (39, (τ 34)), (38, (τ 9)), (37, v37_1), (10, (τ 34)), (36, (τ 34)), (35, (.bool true)), (35, v35_0)]) ds s8)
 (Q (.exit 4) (U τ [(35, (.bool false)), (35, v35_0)]) ds s0)
theorem x23_1110101010011001100 (I : Prims) (rnd : Option Nat) (τ : Tau) (ds : List Deferred) (s : St) (Q : Ex → WK) : xp I rnd 48 k23_1110101010011001100 c23_1110101010011001100 [] τ [] ds s (lift Q) = v23_1110101010011001100 I rnd τ ds s Q := by kernel_rfl
theorem n23_1110101010011001100 [Memo] (ro : Nat) (rnd : Option Nat) (τ : Tau) (ds : List Deferred) (s : St) (Q : Ex → WK) : wp P ro 48 rnd c23_1110101010011001100 τ ds s Q = v23_1110101010011001100 (prims P ro) rnd τ ds s Q := xp_wp rnd 48 P ro (x23_1110101010011001100 _ rnd τ ds s Q)
def v23 (I : Prims) (a0 a1 : Value) (si : St) (K : Value → St → Prop) : Prop :=
 I.wop (.box 23 (.const a0)) 0 (ent si) fun v2_0 s0 =>
 I.wop (.box 39 (.const a1)) 0 s0 fun v3_1 s1 =>
 I.wop (.load 23 (.const v2_0)) 23 s1 fun v11_2 s2 =>
 I.wop (.load 39 (.const v3_1)) 39 s2 fun v12_3 s3 =>
 I.call 22 [v11_2, v12_3] s3 fun v13_4 s4 =>
 I.wop (.unOp .not 4 (.const v13_4)) 4 s4 fun v14_5 s5 =>
 wdec v14_5
 (I.fin si K (.tuple (.mk [(.slice none 0 0), (.int .i64 1)])) s5)
 (I.wop (.load 23 (.const v2_0)) 23 s5 fun v15_6 s6 =>
 I.call 14 [v15_6] s6 fun v16_7 s7 =>
 I.wop (.makeSlice 32 (.const (.int .i64 0)) (.const v16_7)) 32 s7 fun v17_8 s8 =>
 I.wop (.alloc 32) 0 s8 fun v6_9 s9 =>
 I.wop (.store 32 (.const v6_9) (.const v17_8)) 0 s9 fun _ s10 =>
 I.wop (.load 23 (.const v2_0)) 23 s10 fun v18_11 s11 =>
 I.call 32 [v18_11] s11 fun v19_12 s12 =>
 I.range 48 none v19_12 #[20] c23_1110100 c23_1110101 (U undefT [(19, v19_12), (18, v18_11), (6, v6_9), (17, v17_8), (16, v16_7), (15, v15_6), (14, (.bool false)), (14, v14_5), (13, v13_4), (12, v12_3), (11, v11_2), (5, (.int .i64 0)), (4, (.slice none 0 0)), (3, v3_1), (2, v2_0), (0, a0), (1, a1)]) [] s12 (fun τ15 ds15 s15 =>
 I.wop (.load 32 (.const (τ15 6))) 32 s15 fun v47_16 s16 =>
 xdefers I ds15 s16 fun s17 =>
 I.fin si K (.tuple (.mk [v47_16, (.int .i64 0)])) s17) (fun τ ds s => ((xleave I si Tryd.f23.results.toList K) .ret) τ [] ds s) [(2, fun _ _ _ =>
 False), (4, fun _ _ _ =>
 False)])
theorem x23 (I : Prims) (a0 a1 : Value) (si : St) (K : Value → St → Prop) : xbody I 48 k23 Tryd.f23 c23 [a0, a1] si K = v23 I a0 a1 si K := by kernel_rfl
theorem n23 [Memo] (ro : Nat) (a0 a1 : Value) (si : St) (K : Value → St → Prop) : wbody P ro 48 Tryd.f23 c23 [a0, a1] si K = v23 (prims P ro) a0 a1 si K := xbody_eq 48 P ro (x23 _ a0 a1 si K)
/- attestor/attestorlaw17.tiny -/
noncomputable def c25 : Code := bodyOf Tryd.f25
def k25 : List (List Nat) := []
theorem b25 : BodyOk P 2 0 25 Tryd.f25 c25 := ⟨Tryd.func25, by kernel_rfl, by kernel_rfl, by kernel_rfl, by kernel_rfl, by kernel_rfl⟩
def v25 (I : Prims) (si : St) (K : Value → St → Prop) : Prop :=
 I.wop (.alloc 23) 0 (ent si) fun v0_0 s0 =>
 I.wop (.build 23 ⟨[(1, (.const (.int .i64 2))), (2, (.const (.int .i64 1))), (3, (.const (.int .i64 1))), (4, (.const (.int .i64 2))), (6, (.const (.int .i64 1))), (8, (.const (.int .i64 1)))]⟩) 23 s0 fun v1_1 s1 =>
 I.wop (.store 23 (.const v0_0) (.const v1_1)) 0 s1 fun _ s2 =>
 I.wop (.load 23 (.const v0_0)) 23 s2 fun v0_3 _ =>
 I.fin si K v0_3 s2
theorem x25 (I : Prims) (si : St) (K : Value → St → Prop) : xbody I 2 k25 Tryd.f25 c25 [] si K = v25 I si K := by kernel_rfl
theorem n25 [Memo] (ro : Nat) (si : St) (K : Value → St → Prop) : wbody P ro 2 Tryd.f25 c25 [] si K = v25 (prims P ro) si K := xbody_eq 2 P ro (x25 _ si K)
/- slices.DeleteFunc[[]attestor/api.Part,attestor/api.Part] -/
noncomputable def c30 : Code := bodyOf Tryd.f30
noncomputable def c30_1110100 : Code := subCode [1, 1, 1, 0, 1, 0, 0] c30
def k30 : List (List Nat) := []
def k30_1110100 : List (List Nat) := []
theorem l30_1110100 : ltCode 42 c30_1110100 = true := by kernel_rfl
theorem m30_1110100 : notMap c30_1110100 = true := by kernel_rfl
theorem b30 : BodyOk P 42 2 30 Tryd.f30 c30 := ⟨Tryd.func30, by kernel_rfl, by kernel_rfl, by kernel_rfl, by kernel_rfl, by kernel_rfl⟩
def v30_1110100 (I : Prims) (rnd : Option Nat) (τ : Tau) (ds : List Deferred) (s : St) (Q : Ex → WK) : Prop :=
 I.wop (.call ⟨.builtin .len, ⟨[(.const (τ 0))]⟩, #[24]⟩) 3 s fun v18_0 s0 =>
 I.wop (.binOp .lss 3 (.const (τ 6)) (.const v18_0) 3) 4 s0 fun v19_1 s1 =>
 wdec v19_1
 (I.wop (.indexAddr 24 (.const (τ 0)) (.const (τ 6))) 0 s1 fun v24_2 s2 =>
 I.wop (.load 30 (.const v24_2)) 30 s2 fun v25_3 s3 =>
 I.wop (.alloc 30) 0 s3 fun v7_4 s4 =>
 I.wop (.store 30 (.const v7_4) (.const v25_3)) 0 s4 fun _ s5 =>
 I.wop (.load 30 (.const v7_4)) 30 s5 fun v27_6 s6 =>
 xcallv I (τ 1) [v27_6] s6 fun v28_7 s7 =>
 I.wop (.unOp .not 4 (.const v28_7)) 4 s7 fun v29_8 s8 =>
 wdec v29_8
 (I.wop (.load 30 (.const v7_4)) 30 s8 fun v32_9 s9 =>
 I.wop (.indexAddr 24 (.const (τ 0)) (.const (τ 5))) 0 s9 fun v33_10 s10 =>
 I.wop (.store 30 (.const v33_10) (.const v32_9)) 0 s10 fun _ s11 =>
 I.wop (.binOp .add 3 (.const (τ 5)) (.const (.int .i64 1)) 3) 3 s11 fun v35_12 s12 =>
 I.wop (.binOp .add 3 (.const (τ 6)) (.const (.int .i64 1)) 3) 3 s12 fun v21_13 s13 =>
 Q .normal (U τ [(6, v21_13), (21, v21_13), (20, (τ 6)), (5, v35_12), (35, v35_12), (34, (τ 5)), (33, v33_10), (32, v32_9), (31, (τ 5)), (30, (τ 0)), (29, (.bool true)), (29, v29_8), (28, v28_7), (27, v27_6), (26, (τ 1)), (7, v7_4), (25, v25_3), (24, v24_2), (23, (τ 6)), (22, (τ 0)), (19, (.bool true)), (19, v19_1), (18, v18_0), (17, (τ 0)), (16, (τ 6))]) ds s13)
 (I.wop (.binOp .add 3 (.const (τ 6)) (.const (.int .i64 1)) 3) 3 s8 fun v21_14 s14 =>
 Q .normal (U τ [(6, v21_14), (21, v21_14), (20, (τ 6)), (29, (.bool false)), (29, v29_8), (28, v28_7), (27, v27_6), (26, (τ 1)), (7, v7_4), (25, v25_3), (24, v24_2), (23, (τ 6)), (22, (τ 0)), (19, (.bool true)), (19, v19_1), (18, v18_0), (17, (τ 0)), (16, (τ 6))]) ds s14))
 (Q (.exit 0) (U τ [(19, (.bool false)), (19, v19_1), (18, v18_0), (17, (τ 0)), (16, (τ 6))]) ds s1)
theorem x30_1110100 (I : Prims) (rnd : Option Nat) (τ : Tau) (ds : List Deferred) (s : St) (Q : Ex → WK) : xp I rnd 42 k30_1110100 c30_1110100 [] τ [] ds s (lift Q) = v30_1110100 I rnd τ ds s Q := by kernel_rfl
theorem n30_1110100 [Memo] (ro : Nat) (rnd : Option Nat) (τ : Tau) (ds : List Deferred) (s : St) (Q : Ex → WK) : wp P ro 42 rnd c30_1110100 τ ds s Q = v30_1110100 (prims P ro) rnd τ ds s Q := xp_wp rnd 42 P ro (x30_1110100 _ rnd τ ds s Q)
def v30 (I : Prims) (a0 a1 : Value) (si : St) (K : Value → St → Prop) : Prop :=
 I.call 67 [a0, a1] (ent si) fun v10_0 s0 =>
 I.wop (.binOp .eql 3 (.const v10_0) (.const (.int .i64 (-1))) 3) 4 s0 fun v12_1 s1 =>
 wdec v12_1
 (I.fin si K a0 s1)
 (I.wop (.binOp .add 3 (.const v10_0) (.const (.int .i64 1)) 3) 3 s1 fun v15_2 s2 =>
 I.loop 42 none c30_1110100 (U undefT [(6, v15_2), (15, v15_2), (14, v10_0), (12, (.bool false)), (12, v12_1), (11, v10_0), (5, v10_0), (10, v10_0), (9, a1), (8, a0), (4, (.slice none 0 0)), (0, a0), (1, a1)]) [] s2 (fun τ ds s => ((xleave I si Tryd.f30.results.toList K) .ret) τ [] ds s) [(0, fun τ3 ds3 s3 =>
 I.wop (.slice 24 (.const (τ3 0)) (some (.const (τ3 5))) none none) 24 s3 fun v38_4 s4 =>
 I.wop (.call ⟨.builtin .clear, ⟨[(.const v38_4)]⟩, #[24]⟩) 0 s4 fun _ s5 =>
 I.wop (.slice 24 (.const (τ3 0)) none (some (.const (τ3 5))) none) 24 s5 fun v41_6 s6 =>
 xdefers I ds3 s6 fun s7 =>
 I.fin si K v41_6 s7)])
theorem x30 (I : Prims) (a0 a1 : Value) (si : St) (K : Value → St → Prop) : xbody I 42 k30 Tryd.f30 c30 [a0, a1] si K = v30 I a0 a1 si K := by kernel_rfl
theorem n30 [Memo] (ro : Nat) (a0 a1 : Value) (si : St) (K : Value → St → Prop) : wbody P ro 42 Tryd.f30 c30 [a0, a1] si K = v30 (prims P ro) a0 a1 si K := xbody_eq 42 P ro (x30 _ a0 a1 si K)
theorem r30 (I : Prims) (si : St) (K : Value → St → Prop) (τ : Tau) (ds : List Deferred) (s : St) : xleave I si Tryd.f30.results.toList K .ret τ [] ds s =
 (xdefers I ds s fun s0 =>
 I.fin si K (τ 4) s0) := by kernel_rfl
/- slices.Collect[attestor/api.Part] -/
noncomputable def c31 : Code := bodyOf Tryd.f31
def k31 : List (List Nat) := []
theorem b31 : BodyOk P 5 1 31 Tryd.f31 c31 := ⟨Tryd.func31, by kernel_rfl, by kernel_rfl, by kernel_rfl, by kernel_rfl, by kernel_rfl⟩
def v31 (I : Prims) (a0 : Value) (si : St) (K : Value → St → Prop) : Prop :=
 I.call 68 [(.slice none 0 0), a0] (ent si) fun v4_0 s0 =>
 I.fin si K v4_0 s0
theorem x31 (I : Prims) (a0 : Value) (si : St) (K : Value → St → Prop) : xbody I 5 k31 Tryd.f31 c31 [a0] si K = v31 I a0 si K := by kernel_rfl
theorem n31 [Memo] (ro : Nat) (a0 : Value) (si : St) (K : Value → St → Prop) : wbody P ro 5 Tryd.f31 c31 [a0] si K = v31 (prims P ro) a0 si K := xbody_eq 5 P ro (x31 _ a0 si K)
/- attestor/proof.all -/
noncomputable def c32 : Code := bodyOf Tryd.f32
def k32 : List (List Nat) := []
theorem b32 : BodyOk P 4 1 32 Tryd.f32 c32 := ⟨Tryd.func32, by kernel_rfl, by kernel_rfl, by kernel_rfl, by kernel_rfl, by kernel_rfl⟩
def v32 (I : Prims) (a0 : Value) (si : St) (K : Value → St → Prop) : Prop :=
 I.wop (.box 23 (.const a0)) 0 (ent si) fun v1_0 s0 =>
 I.fin si K (.func (.func 69) (.mk []) (.mk [v1_0])) s0
theorem x32 (I : Prims) (a0 : Value) (si : St) (K : Value → St → Prop) : xbody I 4 k32 Tryd.f32 c32 [a0] si K = v32 I a0 si K := by kernel_rfl
theorem n32 [Memo] (ro : Nat) (a0 : Value) (si : St) (K : Value → St → Prop) : wbody P ro 4 Tryd.f32 c32 [a0] si K = v32 (prims P ro) a0 si K := xbody_eq 4 P ro (x32 _ a0 si K)
/- attestor/proof.Parts$1 -/
noncomputable def c33 : Code := bodyOf Tryd.f33
def k33 : List (List Nat) := []
theorem b33 : BodyOk P 6 1 33 Tryd.f33 c33 := ⟨Tryd.func33, by kernel_rfl, by kernel_rfl, by kernel_rfl, by kernel_rfl, by kernel_rfl⟩
def v33 (I : Prims) (a0 : Value) (si : St) (K : Value → St → Prop) : Prop :=
 I.wop (.box 30 (.const a0)) 0 (ent si) fun v1_0 s0 =>
 I.wop (.fieldAddr 30 (.const v1_0) 3) 0 s0 fun v3_1 s1 =>
 I.wop (.load 3 (.const v3_1)) 3 s1 fun v4_2 s2 =>
 I.wop (.binOp .eql 3 (.const v4_2) (.const (.int .i64 0)) 3) 4 s2 fun v5_3 s3 =>
 I.fin si K v5_3 s3
theorem x33 (I : Prims) (a0 : Value) (si : St) (K : Value → St → Prop) : xbody I 6 k33 Tryd.f33 c33 [a0] si K = v33 I a0 si K := by kernel_rfl
theorem n33 [Memo] (ro : Nat) (a0 : Value) (si : St) (K : Value → St → Prop) : wbody P ro 6 Tryd.f33 c33 [a0] si K = v33 (prims P ro) a0 si K := xbody_eq 6 P ro (x33 _ a0 si K)
theorem r33 (I : Prims) (si : St) (K : Value → St → Prop) (τ : Tau) (ds : List Deferred) (s : St) : xleave I si Tryd.f33.results.toList K .ret τ [] ds s =
 (xdefers I ds s fun s0 =>
 I.fin si K (τ 2) s0) := by kernel_rfl
/- attestor/attestorref17.put -/
noncomputable def c34 : Code := bodyOf Tryd.f34
def k34 : List (List Nat) := []
theorem b34 : BodyOk P 22 5 34 Tryd.f34 c34 := ⟨Tryd.func34, by kernel_rfl, by kernel_rfl, by kernel_rfl, by kernel_rfl, by kernel_rfl⟩
def v34 (I : Prims) (a0 a1 a2 a3 a4 : Value) (si : St) (K : Value → St → Prop) : Prop :=
 I.wop (.binOp .eql 3 (.const a4) (.const (.int .i64 0)) 3) 4 (ent si) fun v12_0 s0 =>
 wdec v12_0
 (I.fin si K a0 s0)
 (I.wop (.build 30 ⟨[(0, (.const a1)), (1, (.const a2)), (2, (.const a3)), (3, (.const a4))]⟩) 30 s0 fun v19_1 s1 =>
 I.wop (.buildSlice 24 1 ⟨[(0, (.const v19_1))]⟩) 24 s1 fun v20_2 s2 =>
 I.wop (.call ⟨.builtin .append, ⟨[(.const a0), (.const v20_2)]⟩, #[24, 24]⟩) 24 s2 fun v21_3 s3 =>
 I.fin si K v21_3 s3)
theorem x34 (I : Prims) (a0 a1 a2 a3 a4 : Value) (si : St) (K : Value → St → Prop) : xbody I 22 k34 Tryd.f34 c34 [a0, a1, a2, a3, a4] si K = v34 I a0 a1 a2 a3 a4 si K := by kernel_rfl
theorem n34 [Memo] (ro : Nat) (a0 a1 a2 a3 a4 : Value) (si : St) (K : Value → St → Prop) : wbody P ro 22 Tryd.f34 c34 [a0, a1, a2, a3, a4] si K = v34 (prims P ro) a0 a1 a2 a3 a4 si K := xbody_eq 22 P ro (x34 _ a0 a1 a2 a3 a4 si K)
/- attestor/field.Valid -/
noncomputable def c40 : Code := bodyOf Tryd.f40
def k40 : List (List Nat) := []
theorem b40 : BodyOk P 9 1 40 Tryd.f40 c40 := ⟨Tryd.func40, by kernel_rfl, by kernel_rfl, by kernel_rfl, by kernel_rfl, by kernel_rfl⟩
def v40 (I : Prims) (a0 : Value) (si : St) (K : Value → St → Prop) : Prop :=
 I.wop (.binOp .geq 3 (.const a0) (.const (.int .i64 0)) 3) 4 (ent si) fun v4_0 s0 =>
 wdec v4_0
 (I.wop (.binOp .lss 3 (.const a0) (.const (.int .i64 4)) 3) 4 s0 fun v7_1 s1 =>
 I.fin si K v7_1 s1)
 (I.fin si K (.bool false) s0)
theorem x40 (I : Prims) (a0 : Value) (si : St) (K : Value → St → Prop) : xbody I 9 k40 Tryd.f40 c40 [a0] si K = v40 I a0 si K := by kernel_rfl
theorem n40 [Memo] (ro : Nat) (a0 : Value) (si : St) (K : Value → St → Prop) : wbody P ro 9 Tryd.f40 c40 [a0] si K = v40 (prims P ro) a0 si K := xbody_eq 9 P ro (x40 _ a0 si K)
/- attestor/proof.within -/
noncomputable def c41 : Code := bodyOf Tryd.f41
def k41 : List (List Nat) := []
theorem b41 : BodyOk P 15 3 41 Tryd.f41 c41 := ⟨Tryd.func41, by kernel_rfl, by kernel_rfl, by kernel_rfl, by kernel_rfl, by kernel_rfl⟩
def v41 (I : Prims) (a0 a1 a2 : Value) (si : St) (K : Value → St → Prop) : Prop :=
 I.wop (.binOp .geq 3 (.const a0) (.const a1) 3) 4 (ent si) fun v9_0 s0 =>
 wdec v9_0
 (I.wop (.binOp .leq 3 (.const a0) (.const a2) 3) 4 s0 fun v13_1 s1 =>
 I.fin si K v13_1 s1)
 (I.fin si K (.bool false) s0)
theorem x41 (I : Prims) (a0 a1 a2 : Value) (si : St) (K : Value → St → Prop) : xbody I 15 k41 Tryd.f41 c41 [a0, a1, a2] si K = v41 I a0 a1 a2 si K := by kernel_rfl
theorem n41 [Memo] (ro : Nat) (a0 a1 a2 : Value) (si : St) (K : Value → St → Prop) : wbody P ro 15 Tryd.f41 c41 [a0, a1, a2] si K = v41 (prims P ro) a0 a1 a2 si K := xbody_eq 15 P ro (x41 _ a0 a1 a2 si K)
/- attestor/field.Twos -/
noncomputable def c42 : Code := bodyOf Tryd.f42
def k42 : List (List Nat) := []
theorem b42 : BodyOk P 6 1 42 Tryd.f42 c42 := ⟨Tryd.func42, by kernel_rfl, by kernel_rfl, by kernel_rfl, by kernel_rfl, by kernel_rfl⟩
def v42 (I : Prims) (a0 : Value) (si : St) (K : Value → St → Prop) : Prop :=
 I.call 74 [a0] (ent si) fun v4_0 s0 =>
 I.wop (.field 107 (.const v4_0) 2) 3 s0 fun v5_1 s1 =>
 I.fin si K v5_1 s1
theorem x42 (I : Prims) (a0 : Value) (si : St) (K : Value → St → Prop) : xbody I 6 k42 Tryd.f42 c42 [a0] si K = v42 I a0 si K := by kernel_rfl
theorem n42 [Memo] (ro : Nat) (a0 : Value) (si : St) (K : Value → St → Prop) : wbody P ro 6 Tryd.f42 c42 [a0] si K = v42 (prims P ro) a0 si K := xbody_eq 6 P ro (x42 _ a0 si K)
/- attestor/proof.blank -/
noncomputable def c46 : Code := bodyOf Tryd.f46
noncomputable def c46_110100 : Code := subCode [1, 1, 0, 1, 0, 0] c46
def k46 : List (List Nat) := []
def k46_110100 : List (List Nat) := []
theorem l46_110100 : ltCode 28 c46_110100 = true := by kernel_rfl
theorem m46_110100 : notMap c46_110100 = true := by kernel_rfl
theorem b46 : BodyOk P 28 1 46 Tryd.f46 c46 := ⟨Tryd.func46, by kernel_rfl, by kernel_rfl, by kernel_rfl, by kernel_rfl, by kernel_rfl⟩
def v46_110100 (I : Prims) (rnd : Option Nat) (τ : Tau) (ds : List Deferred) (s : St) (Q : Ex → WK) : Prop :=
 I.wop (.binOp .lss 3 (.const (τ 15)) (.const (τ 14)) 3) 0 s fun v16_0 s0 =>
 wdec v16_0
 (I.wop (.fieldAddr 39 (.const (τ 3)) 7) 0 s0 fun v18_1 s1 =>
 I.wop (.load 37 (.const v18_1)) 37 s1 fun v19_2 s2 =>
 veq v19_2 v19_2 = true ∧ I.wop (.load 23 (.const (τ 1))) 23 s2 fun v21_3 s3 =>
 veq v21_3 v21_3 = true ∧ I.call 54 [v21_3] s3 fun v22_4 s4 =>
 Keeps [(1, .ptr v18_1)] s3 s4 ∧ I.wop (.makeSlice 57 (.const v22_4) (.const v22_4)) 57 s4 fun v23_5 s5 =>
 FreshOk s4 s5 ∧ I.wop (.indexAddr 37 (.const v19_2) (.const (τ 15))) 0 s5 fun v24_6 s6 =>
 I.wop (.fieldAddr 59 (.const v24_6) 12) 0 s6 fun v25_7 s7 =>
 I.wop (.store 57 (.const v25_7) (.const v23_5)) 0 s7 fun _ s8 =>
 s7.n ≤ s8.n ∧ I.wop (.binOp .add 3 (.const (τ 15)) (.const (.int .i64 1)) 3) 3 s8 fun v26_9 s9 =>
 Q .normal (U τ [(15, v26_9), (26, v26_9), (25, v25_7), (24, v24_6), (23, v23_5), (22, v22_4), (21, v21_3), (20, (τ 15)), (19, v19_2), (18, v18_1), (4, (τ 15)), (17, (τ 15)), (16, (.bool true)), (16, v16_0)]) ds s9)
 (Q (.exit 0) (U τ [(16, (.bool false)), (16, v16_0)]) ds s0)
theorem x46_110100 (I : Prims) (rnd : Option Nat) (τ : Tau) (ds : List Deferred) (s : St) (Q : Ex → WK) : xp I rnd 28 k46_110100 c46_110100 [] τ [] ds s (lift Q) = v46_110100 I rnd τ ds s Q := by kernel_rfl
theorem n46_110100 [Memo] (ro : Nat) (rnd : Option Nat) (τ : Tau) (ds : List Deferred) (s : St) (Q : Ex → WK) : wp P ro 28 rnd c46_110100 τ ds s Q = v46_110100 (prims P ro) rnd τ ds s Q := xp_wp rnd 28 P ro (x46_110100 _ rnd τ ds s Q)
def v46 (I : Prims) (a0 : Value) (si : St) (K : Value → St → Prop) : Prop :=
 I.wop (.box 23 (.const a0)) 0 (ent si) fun v1_0 s0 =>
 I.wop (.alloc 39) 0 s0 fun v2_1 s1 =>
 I.wop (.load 23 (.const v1_0)) 23 s1 fun v5_2 s2 =>
 veq v5_2 v5_2 = true ∧ I.wop (.fieldAddr 23 (.const v1_0) 4) 0 s2 fun v8_3 s3 =>
 I.wop (.load 3 (.const v8_3)) 3 s3 fun v9_4 s4 =>
 veq v9_4 v9_4 = true ∧ I.wop (.makeSlice 37 (.const v9_4) (.const v9_4)) 37 s4 fun v10_5 s5 =>
 FreshOk s4 s5 ∧ I.wop (.alloc 39) 0 s5 fun v3_6 s6 =>
 FreshOk s5 s6 ∧ I.call 54 [v5_2] s6 fun v6_7 s7 =>
 Keeps [(7, .blk s5.n), (5, .blk s4.n), (4, .ptr v8_3)] s6 s7 ∧ I.wop (.makeSlice 35 (.const v6_7) (.const v6_7)) 35 s7 fun v7_8 s8 =>
 FreshOk s7 s8 ∧ I.wop (.build 39 ⟨[(4, (.const v7_8)), (7, (.const v10_5))]⟩) 39 s8 fun v11_9 s9 =>
 I.wop (.store 39 (.const v3_6) (.const v11_9)) 0 s9 fun _ s10 =>
 s9.n ≤ s10.n ∧ I.wop (.fieldAddr 39 (.const v3_6) 7) 0 s10 fun v12_11 s11 =>
 I.wop (.load 37 (.const v12_11)) 37 s11 fun v13_12 s12 =>
 I.wop (.call ⟨.builtin .len, ⟨[(.const v13_12)]⟩, #[37]⟩) 3 s12 fun v14_13 s13 =>
 I.loop 28 none c46_110100 (U undefT [(15, (.int .i64 0)), (14, v14_13), (13, v13_12), (12, v12_11), (11, v11_9), (7, v7_8), (6, v6_7), (3, v3_6), (10, v10_5), (9, v9_4), (8, v8_3), (5, v5_2), (2, v2_1), (1, v1_0), (0, a0)]) [] s13 (fun τ ds s => ((xleave I si Tryd.f46.results.toList K) .ret) τ [] ds s) [(0, fun τ14 ds14 s14 =>
 I.wop (.load 39 (.const (τ14 3))) 39 s14 fun v27_15 s15 =>
 I.wop (.store 39 (.const (τ14 2)) (.const v27_15)) 0 s15 fun _ s16 =>
 xdefers I ds14 s16 fun s17 =>
 I.wop (.load 39 (.const (τ14 2))) 39 s17 fun v2_18 _ =>
 I.fin si K v2_18 s17)]
theorem x46 (I : Prims) (a0 : Value) (si : St) (K : Value → St → Prop) : xbody I 28 k46 Tryd.f46 c46 [a0] si K = v46 I a0 si K := by kernel_rfl
theorem n46 [Memo] (ro : Nat) (a0 : Value) (si : St) (K : Value → St → Prop) : wbody P ro 28 Tryd.f46 c46 [a0] si K = v46 (prims P ro) a0 si K := xbody_eq 28 P ro (x46 _ a0 si K)
/- attestor/field.P -/
noncomputable def c47 : Code := bodyOf Tryd.f47
def k47 : List (List Nat) := []
theorem b47 : BodyOk P 6 1 47 Tryd.f47 c47 := ⟨Tryd.func47, by kernel_rfl, by kernel_rfl, by kernel_rfl, by kernel_rfl, by kernel_rfl⟩
def v47 (I : Prims) (a0 : Value) (si : St) (K : Value → St → Prop) : Prop :=
 I.call 74 [a0] (ent si) fun v4_0 s0 =>
 I.wop (.field 107 (.const v4_0) 0) 34 s0 fun v5_1 s1 =>
 I.fin si K v5_1 s1
theorem x47 (I : Prims) (a0 : Value) (si : St) (K : Value → St → Prop) : xbody I 6 k47 Tryd.f47 c47 [a0] si K = v47 I a0 si K := by kernel_rfl
theorem n47 [Memo] (ro : Nat) (a0 : Value) (si : St) (K : Value → St → Prop) : wbody P ro 6 Tryd.f47 c47 [a0] si K = v47 (prims P ro) a0 si K := xbody_eq 6 P ro (x47 _ a0 si K)
/- attestor/proof.places -/
noncomputable def c48 : Code := bodyOf Tryd.f48
def k48 : List (List Nat) := []
theorem b48 : BodyOk P 2 0 48 Tryd.f48 c48 := ⟨Tryd.func48, by kernel_rfl, by kernel_rfl, by kernel_rfl, by kernel_rfl, by kernel_rfl⟩
def v48 (I : Prims) (si : St) (K : Value → St → Prop) : Prop :=
 I.wop (.buildSlice 84 12 ⟨[(1, (.const (.func (.func 75) (.mk []) (.mk [])))), (2, (.const (.func (.func 76) (.mk []) (.mk [])))), (3, (.const (.func (.func 77) (.mk []) (.mk [])))), (4, (.const (.func (.func 78) (.mk []) (.mk [])))), (5, (.const (.func (.func 79) (.mk []) (.mk [])))), (6, (.const (.func (.func 80) (.mk []) (.mk [])))), (7, (.const (.func (.func 81) (.mk []) (.mk [])))), (8, (.const (.func (.func 82) (.mk []) (.mk [])))), (9, (.const (.func (.func 83) (.mk []) (.mk [])))), (10, (.const (.func (.func 84) (.mk []) (.mk [])))), (11, (.const (.func (.func 85) (.mk []) (.mk []))))]⟩) 84 (ent si) fun v1_0 s0 =>
 I.fin si K v1_0 s0
theorem x48 (I : Prims) (si : St) (K : Value → St → Prop) : xbody I 2 k48 Tryd.f48 c48 [] si K = v48 I si K := by kernel_rfl
theorem n48 [Memo] (ro : Nat) (si : St) (K : Value → St → Prop) : wbody P ro 2 Tryd.f48 c48 [] si K = v48 (prims P ro) si K := xbody_eq 2 P ro (x48 _ si K)
/- (attestor/proof.list).set -/
noncomputable def c49 : Code := bodyOf Tryd.f49
noncomputable def c49_101111111100 : Code := subCode [1, 0, 1, 1, 1, 1, 1, 1, 1, 1, 0, 0] c49
noncomputable def c49_101111111101 : Code := subCode [1, 0, 1, 1, 1, 1, 1, 1, 1, 1, 0, 1] c49
def k49 : List (List Nat) := []
def k49_101111111100 : List (List Nat) := []
theorem l49_101111111100 : ltCode 51 c49_101111111100 = true := by kernel_rfl
def k49_101111111101 : List (List Nat) := []
theorem l49_101111111101 : ltCode 51 c49_101111111101 = true := by kernel_rfl
theorem b49 : BodyOk P 51 2 49 Tryd.f49 c49 := ⟨Tryd.func49, by kernel_rfl, by kernel_rfl, by kernel_rfl, by kernel_rfl, by kernel_rfl⟩
def v49_101111111100 (I : Prims) (rnd : Option Nat) (τ : Tau) (ds : List Deferred) (s : St) (Q : Ex → WK) : Prop :=
 Q .normal (U τ [(4, (τ 10))]) ds s
theorem x49_101111111100 (I : Prims) (rnd : Option Nat) (τ : Tau) (ds : List Deferred) (s : St) (Q : Ex → WK) : xp I rnd 51 k49_101111111100 c49_101111111100 [] τ [] ds s (lift Q) = v49_101111111100 I rnd τ ds s Q := by kernel_rfl
theorem n49_101111111100 [Memo] (ro : Nat) (rnd : Option Nat) (τ : Tau) (ds : List Deferred) (s : St) (Q : Ex → WK) : wp P ro 51 rnd c49_101111111100 τ ds s Q = v49_101111111100 (prims P ro) rnd τ ds s Q := xp_wp rnd 51 P ro (x49_101111111100 _ rnd τ ds s Q)
def v49_101111111101 (I : Prims) (rnd : Option Nat) (τ : Tau) (ds : List Deferred) (s : St) (Q : Ex → WK) : Prop :=
 I.wop (.fieldAddr 82 (.const (τ 2)) 1) 0 s fun v11_0 s0 =>
 I.wop (.load 78 (.const v11_0)) 78 s0 fun v12_1 s1 =>
 veq v12_1 v12_1 = true ∧ I.wop (.fieldAddr 82 (.const (τ 2)) 1) 0 s1 fun v13_2 s2 =>
 I.wop (.load 78 (.const v13_2)) 78 s2 fun v14_3 s3 =>
 veq v14_3 v14_3 = true ∧ I.wop (.nilCheck (.const v14_3)) 0 s3 fun v15_4 s4 =>
 I.wop (.load 33 (.const v15_4)) 33 s4 fun v16_5 s5 =>
 veq v16_5 v16_5 = true ∧ I.wop (.sliceToArrayPointer 55 (.const (τ 4))) 0 s5 fun v18_6 s6 =>
 I.wop (.load 55 (.const v18_6)) 55 s6 fun v19_7 s7 =>
 veq v19_7 v19_7 = true ∧ I.wop (.buildSlice 33 1 ⟨[(0, (.const v19_7))]⟩) 33 s7 fun v20_8 s8 =>
 FreshOk s7 s8 ∧ I.wop (.call ⟨.builtin .append, ⟨[(.const v16_5), (.const v20_8)]⟩, #[33, 33]⟩) 33 s8 fun v21_9 s9 =>
 Keeps [(1, .ptr v11_0)] s8 s9 ∧ I.wop (.nilCheck (.const v12_1)) 0 s9 fun v22_10 s10 =>
 I.wop (.store 33 (.const v22_10) (.const v21_9)) 0 s10 fun _ s11 =>
 s10.n ≤ s11.n ∧ Q .normal (U τ [(22, v22_10), (21, v21_9), (20, v20_8), (19, v19_7), (18, v18_6), (17, (τ 4)), (16, v16_5), (15, v15_4), (14, v14_3), (13, v13_2), (12, v12_1), (11, v11_0)]) ds s11
theorem x49_101111111101 (I : Prims) (rnd : Option Nat) (τ : Tau) (ds : List Deferred) (s : St) (Q : Ex → WK) : xp I rnd 51 k49_101111111101 c49_101111111101 [] τ [] ds s (lift Q) = v49_101111111101 I rnd τ ds s Q := by kernel_rfl
theorem n49_101111111101 [Memo] (ro : Nat) (rnd : Option Nat) (τ : Tau) (ds : List Deferred) (s : St) (Q : Ex → WK) : wp P ro 51 rnd c49_101111111101 τ ds s Q = v49_101111111101 (prims P ro) rnd τ ds s Q := xp_wp rnd 51 P ro (x49_101111111101 _ rnd τ ds s Q)
def v49 (I : Prims) (a0 a1 : Value) (si : St) (K : Value → St → Prop) : Prop :=
 I.wop (.box 82 (.const a0)) 0 (ent si) fun v2_0 s0 =>
 I.wop (.fieldAddr 82 (.const v2_0) 0) 0 s0 fun v24_1 s1 =>
 I.wop (.load 77 (.const v24_1)) 77 s1 fun v25_2 s2 =>
 I.wop (.binOp .neq 77 (.const v25_2) (.const (.pointer none)) 77) 4 s2 fun v26_3 s3 =>
 wdec v26_3
 (I.wop (.fieldAddr 82 (.const v2_0) 0) 0 s3 fun v27_4 s4 =>
 I.wop (.load 77 (.const v27_4)) 77 s4 fun v28_5 s5 =>
 I.wop (.nilCheck (.const v28_5)) 0 s5 fun v30_6 s6 =>
 I.wop (.store 36 (.const v30_6) (.const a1)) 0 s6 fun _ s7 =>
 I.fin si K (.tuple (.mk [])) s7)
 (I.wop (.fieldAddr 82 (.const v2_0) 2) 0 s3 fun v32_8 s8 =>
 I.wop (.load 79 (.const v32_8)) 79 s8 fun v33_9 s9 =>
 I.wop (.binOp .neq 79 (.const v33_9) (.const (.pointer none)) 79) 4 s9 fun v34_10 s10 =>
 wdec v34_10
 (I.wop (.fieldAddr 82 (.const v2_0) 2) 0 s10 fun v35_11 s11 =>
 I.wop (.load 79 (.const v35_11)) 79 s11 fun v36_12 s12 =>
 veq v36_12 v36_12 = true ∧ I.wop (.indexAddr 36 (.const a1) (.const (.int .i64 0))) 0 s12 fun v38_13 s13 =>
 I.wop (.load 34 (.const v38_13)) 34 s13 fun v39_14 s14 =>
 veq v39_14 v39_14 = true ∧ I.wop (.nilCheck (.const v36_12)) 0 s14 fun v40_15 s15 =>
 I.wop (.store 34 (.const v40_15) (.const v39_14)) 0 s15 fun _ s16 =>
 I.fin si K (.tuple (.mk [])) s16)
 (I.wop (.fieldAddr 82 (.const v2_0) 3) 0 s10 fun v42_17 s17 =>
 I.wop (.load 80 (.const v42_17)) 80 s17 fun v43_18 s18 =>
 I.wop (.binOp .neq 80 (.const v43_18) (.const (.pointer none)) 80) 4 s18 fun v44_19 s19 =>
 wdec v44_19
 (I.wop (.fieldAddr 82 (.const v2_0) 3) 0 s19 fun v45_20 s20 =>
 I.wop (.load 80 (.const v45_20)) 80 s20 fun v46_21 s21 =>
 I.wop (.nilCheck (.const v46_21)) 80 s21 fun v47_22 s22 =>
 I.wop (.slice 112 (.const v47_22) none none none) 36 s22 fun v48_23 s23 =>
 I.wop (.call ⟨.builtin .copy, ⟨[(.const v48_23), (.const a1)]⟩, #[36, 36]⟩) 3 s23 fun _ s24 =>
 I.fin si K (.tuple (.mk [])) s24)
 (I.wop (.fieldAddr 82 (.const v2_0) 1) 0 s19 fun v5_25 s25 =>
 I.wop (.load 78 (.const v5_25)) 78 s25 fun v6_26 s26 =>
 I.wop (.nilCheck (.const v6_26)) 0 s26 fun v7_27 s27 =>
 I.wop (.store 33 (.const v7_27) (.const (.slice none 0 0))) 0 s27 fun _ s28 =>
 I.call 86 [a1, (.int .i64 2)] s28 fun v9_29 s29 =>
 I.range 51 none v9_29 #[10] c49_101111111100 c49_101111111101 (U undefT [(9, v9_29), (8, a1), (7, v7_27), (6, v6_26), (5, v5_25), (41, (.bool false)), (41, v44_19), (44, v44_19), (43, v43_18), (42, v42_17), (31, (.bool false)), (31, v34_10), (34, v34_10), (33, v33_9), (32, v32_8), (23, (.bool false)), (23, v26_3), (26, v26_3), (25, v25_2), (24, v24_1), (2, v2_0), (0, a0), (1, a1)]) [] s29 (fun _ ds30 s30 =>
 xdefers I ds30 s30 fun s31 =>
 I.fin si K (.tuple (.mk [])) s31) (fun τ ds s => ((xleave I si Tryd.f49.results.toList K) .ret) τ [] ds s) [])))
theorem x49 (I : Prims) (a0 a1 : Value) (si : St) (K : Value → St → Prop) : xbody I 51 k49 Tryd.f49 c49 [a0, a1] si K = v49 I a0 a1 si K := by kernel_rfl
theorem n49 [Memo] (ro : Nat) (a0 a1 : Value) (si : St) (K : Value → St → Prop) : wbody P ro 51 Tryd.f49 c49 [a0, a1] si K = v49 (prims P ro) a0 a1 si K := xbody_eq 51 P ro (x49 _ a0 a1 si K)
/- attestor/attestorref17.SameDigests -/
noncomputable def c51 : Code := bodyOf Tryd.f51
noncomputable def c51_110100 : Code := subCode [1, 1, 0, 1, 0, 0] c51
def k51 : List (List Nat) := []
def k51_110100 : List (List Nat) := []
theorem l51_110100 : ltCode 26 c51_110100 = true := by kernel_rfl
theorem m51_110100 : notMap c51_110100 = true := by kernel_rfl
theorem b51 : BodyOk P 26 2 51 Tryd.f51 c51 := ⟨Tryd.func51, by kernel_rfl, by kernel_rfl, by kernel_rfl, by kernel_rfl, by kernel_rfl⟩
def v51_110100 (I : Prims) (rnd : Option Nat) (τ : Tau) (ds : List Deferred) (s : St) (Q : Ex → WK) : Prop :=
 I.wop (.call ⟨.builtin .len, ⟨[(.const (τ 0))]⟩, #[33]⟩) 3 s fun v13_0 s0 =>
 I.wop (.binOp .lss 3 (.const (τ 5)) (.const v13_0) 3) 4 s0 fun v14_1 s1 =>
 wdec v14_1
 (I.wop (.indexAddr 33 (.const (τ 0)) (.const (τ 5))) 0 s1 fun v19_2 s2 =>
 I.wop (.load 55 (.const v19_2)) 55 s2 fun v20_3 s3 =>
 I.wop (.indexAddr 33 (.const (τ 1)) (.const (τ 5))) 0 s3 fun v23_4 s4 =>
 I.wop (.load 55 (.const v23_4)) 55 s4 fun v24_5 s5 =>
 I.wop (.binOp .neq 55 (.const v20_3) (.const v24_5) 55) 4 s5 fun v25_6 s6 =>
 wdec v25_6
 (Q .ret (U τ [(4, (.bool false)), (25, (.bool true)), (25, v25_6), (24, v24_5), (23, v23_4), (22, (τ 5)), (21, (τ 1)), (20, v20_3), (19, v19_2), (18, (τ 5)), (17, (τ 0)), (14, (.bool true)), (14, v14_1), (13, v13_0), (12, (τ 0)), (11, (τ 5))]) ds s6)
 (I.wop (.binOp .add 3 (.const (τ 5)) (.const (.int .i64 1)) 3) 3 s6 fun v16_7 s7 =>
 Q .normal (U τ [(5, v16_7), (16, v16_7), (15, (τ 5)), (25, (.bool false)), (25, v25_6), (24, v24_5), (23, v23_4), (22, (τ 5)), (21, (τ 1)), (20, v20_3), (19, v19_2), (18, (τ 5)), (17, (τ 0)), (14, (.bool true)), (14, v14_1), (13, v13_0), (12, (τ 0)), (11, (τ 5))]) ds s7))
 (Q (.exit 0) (U τ [(14, (.bool false)), (14, v14_1), (13, v13_0), (12, (τ 0)), (11, (τ 5))]) ds s1)
theorem x51_110100 (I : Prims) (rnd : Option Nat) (τ : Tau) (ds : List Deferred) (s : St) (Q : Ex → WK) : xp I rnd 26 k51_110100 c51_110100 [] τ [] ds s (lift Q) = v51_110100 I rnd τ ds s Q := by kernel_rfl
theorem n51_110100 [Memo] (ro : Nat) (rnd : Option Nat) (τ : Tau) (ds : List Deferred) (s : St) (Q : Ex → WK) : wp P ro 26 rnd c51_110100 τ ds s Q = v51_110100 (prims P ro) rnd τ ds s Q := xp_wp rnd 26 P ro (x51_110100 _ rnd τ ds s Q)
def v51 (I : Prims) (a0 a1 : Value) (si : St) (K : Value → St → Prop) : Prop :=
 I.wop (.call ⟨.builtin .len, ⟨[(.const a0)]⟩, #[33]⟩) 3 (ent si) fun v7_0 s0 =>
 I.wop (.call ⟨.builtin .len, ⟨[(.const a1)]⟩, #[33]⟩) 3 s0 fun v9_1 s1 =>
 I.wop (.binOp .neq 3 (.const v7_0) (.const v9_1) 3) 4 s1 fun v10_2 s2 =>
 wdec v10_2
 (I.fin si K (.bool false) s2)
 (I.loop 26 none c51_110100 (U undefT [(5, (.int .i64 0)), (10, (.bool false)), (10, v10_2), (9, v9_1), (8, a1), (7, v7_0), (6, a0), (4, (.bool false)), (0, a0), (1, a1)]) [] s2 (fun τ ds s => ((xleave I si Tryd.f51.results.toList K) .ret) τ [] ds s) [(0, fun _ ds3 s3 =>
 xdefers I ds3 s3 fun s4 =>
 I.fin si K (.bool true) s4)])
theorem x51 (I : Prims) (a0 a1 : Value) (si : St) (K : Value → St → Prop) : xbody I 26 k51 Tryd.f51 c51 [a0, a1] si K = v51 I a0 a1 si K := by kernel_rfl
theorem n51 [Memo] (ro : Nat) (a0 a1 : Value) (si : St) (K : Value → St → Prop) : wbody P ro 26 Tryd.f51 c51 [a0, a1] si K = v51 (prims P ro) a0 a1 si K := xbody_eq 26 P ro (x51 _ a0 a1 si K)
theorem r51 (I : Prims) (si : St) (K : Value → St → Prop) (τ : Tau) (ds : List Deferred) (s : St) : xleave I si Tryd.f51.results.toList K .ret τ [] ds s =
 (xdefers I ds s fun s0 =>
 I.fin si K (τ 4) s0) := by kernel_rfl
/- attestor/attestorref01.Same -/
noncomputable def c52 : Code := bodyOf Tryd.f52
noncomputable def c52_110100 : Code := subCode [1, 1, 0, 1, 0, 0] c52
def k52 : List (List Nat) := []
def k52_110100 : List (List Nat) := []
theorem l52_110100 : ltCode 26 c52_110100 = true := by kernel_rfl
theorem m52_110100 : notMap c52_110100 = true := by kernel_rfl
theorem b52 : BodyOk P 26 2 52 Tryd.f52 c52 := ⟨Tryd.func52, by kernel_rfl, by kernel_rfl, by kernel_rfl, by kernel_rfl, by kernel_rfl⟩
def v52_110100 (I : Prims) (rnd : Option Nat) (τ : Tau) (ds : List Deferred) (s : St) (Q : Ex → WK) : Prop :=
 I.wop (.call ⟨.builtin .len, ⟨[(.const (τ 0))]⟩, #[36]⟩) 3 s fun v13_0 s0 =>
 I.wop (.binOp .lss 3 (.const (τ 5)) (.const v13_0) 3) 4 s0 fun v14_1 s1 =>
 wdec v14_1
 (I.wop (.indexAddr 36 (.const (τ 0)) (.const (τ 5))) 0 s1 fun v19_2 s2 =>
 I.wop (.load 34 (.const v19_2)) 34 s2 fun v20_3 s3 =>
 I.wop (.indexAddr 36 (.const (τ 1)) (.const (τ 5))) 0 s3 fun v23_4 s4 =>
 I.wop (.load 34 (.const v23_4)) 34 s4 fun v24_5 s5 =>
 I.wop (.binOp .neq 34 (.const v20_3) (.const v24_5) 34) 4 s5 fun v25_6 s6 =>
 wdec v25_6
 (Q .ret (U τ [(4, (.bool false)), (25, (.bool true)), (25, v25_6), (24, v24_5), (23, v23_4), (22, (τ 5)), (21, (τ 1)), (20, v20_3), (19, v19_2), (18, (τ 5)), (17, (τ 0)), (14, (.bool true)), (14, v14_1), (13, v13_0), (12, (τ 0)), (11, (τ 5))]) ds s6)
 (I.wop (.binOp .add 3 (.const (τ 5)) (.const (.int .i64 1)) 3) 3 s6 fun v16_7 s7 =>
 Q .normal (U τ [(5, v16_7), (16, v16_7), (15, (τ 5)), (25, (.bool false)), (25, v25_6), (24, v24_5), (23, v23_4), (22, (τ 5)), (21, (τ 1)), (20, v20_3), (19, v19_2), (18, (τ 5)), (17, (τ 0)), (14, (.bool true)), (14, v14_1), (13, v13_0), (12, (τ 0)), (11, (τ 5))]) ds s7))
 (Q (.exit 0) (U τ [(14, (.bool false)), (14, v14_1), (13, v13_0), (12, (τ 0)), (11, (τ 5))]) ds s1)
theorem x52_110100 (I : Prims) (rnd : Option Nat) (τ : Tau) (ds : List Deferred) (s : St) (Q : Ex → WK) : xp I rnd 26 k52_110100 c52_110100 [] τ [] ds s (lift Q) = v52_110100 I rnd τ ds s Q := by kernel_rfl
theorem n52_110100 [Memo] (ro : Nat) (rnd : Option Nat) (τ : Tau) (ds : List Deferred) (s : St) (Q : Ex → WK) : wp P ro 26 rnd c52_110100 τ ds s Q = v52_110100 (prims P ro) rnd τ ds s Q := xp_wp rnd 26 P ro (x52_110100 _ rnd τ ds s Q)
def v52 (I : Prims) (a0 a1 : Value) (si : St) (K : Value → St → Prop) : Prop :=
 I.wop (.call ⟨.builtin .len, ⟨[(.const a0)]⟩, #[36]⟩) 3 (ent si) fun v7_0 s0 =>
 I.wop (.call ⟨.builtin .len, ⟨[(.const a1)]⟩, #[36]⟩) 3 s0 fun v9_1 s1 =>
 I.wop (.binOp .neq 3 (.const v7_0) (.const v9_1) 3) 4 s1 fun v10_2 s2 =>
 wdec v10_2
 (I.fin si K (.bool false) s2)
 (I.loop 26 none c52_110100 (U undefT [(5, (.int .i64 0)), (10, (.bool false)), (10, v10_2), (9, v9_1), (8, a1), (7, v7_0), (6, a0), (4, (.bool false)), (0, a0), (1, a1)]) [] s2 (fun τ ds s => ((xleave I si Tryd.f52.results.toList K) .ret) τ [] ds s) [(0, fun _ ds3 s3 =>
 xdefers I ds3 s3 fun s4 =>
 I.fin si K (.bool true) s4)])
theorem x52 (I : Prims) (a0 a1 : Value) (si : St) (K : Value → St → Prop) : xbody I 26 k52 Tryd.f52 c52 [a0, a1] si K = v52 I a0 a1 si K := by kernel_rfl
theorem n52 [Memo] (ro : Nat) (a0 a1 : Value) (si : St) (K : Value → St → Prop) : wbody P ro 26 Tryd.f52 c52 [a0, a1] si K = v52 (prims P ro) a0 a1 si K := xbody_eq 26 P ro (x52 _ a0 a1 si K)
theorem r52 (I : Prims) (si : St) (K : Value → St → Prop) (τ : Tau) (ds : List Deferred) (s : St) : xleave I si Tryd.f52.results.toList K .ret τ [] ds s =
 (xdefers I ds s fun s0 =>
 I.fin si K (τ 4) s0) := by kernel_rfl
/- attestor/attestorref17.sameOpening -/
noncomputable def c53 : Code := bodyOf Tryd.f53
noncomputable def c53_1110100 : Code := subCode [1, 1, 1, 0, 1, 0, 0] c53
noncomputable def c53_111110100 : Code := subCode [1, 1, 1, 1, 1, 0, 1, 0, 0] c53
def k53 : List (List Nat) := []
def k53_1110100 : List (List Nat) := []
theorem l53_1110100 : ltCode 84 c53_1110100 = true := by kernel_rfl
theorem m53_1110100 : notMap c53_1110100 = true := by kernel_rfl
def k53_111110100 : List (List Nat) := []
theorem l53_111110100 : ltCode 84 c53_111110100 = true := by kernel_rfl
theorem m53_111110100 : notMap c53_111110100 = true := by kernel_rfl
theorem b53 : BodyOk P 84 2 53 Tryd.f53 c53 := ⟨Tryd.func53, by kernel_rfl, by kernel_rfl, by kernel_rfl, by kernel_rfl, by kernel_rfl⟩
def v53_1110100 (I : Prims) (rnd : Option Nat) (τ : Tau) (ds : List Deferred) (s : St) (Q : Ex → WK) : Prop :=
 I.wop (.binOp .lss 3 (.const (τ 9)) (.const (.int .i64 6)) 3) 4 s fun v20_0 s0 =>
 wdec v20_0
 (I.wop (.indexAddr 120 (.const (τ 5)) (.const (τ 9))) 0 s0 fun v24_1 s1 =>
 I.wop (.load 36 (.const v24_1)) 36 s1 fun v25_2 s2 =>
 veq v25_2 v25_2 = true ∧ I.wop (.indexAddr 120 (.const (τ 6)) (.const (τ 9))) 0 s2 fun v27_3 s3 =>
 I.wop (.load 36 (.const v27_3)) 36 s3 fun v28_4 s4 =>
 veq v28_4 v28_4 = true ∧ I.call 52 [v25_2, v28_4] s4 fun v29_5 s5 =>
 I.wop (.unOp .not 4 (.const v29_5)) 4 s5 fun v30_6 s6 =>
 wdec v30_6
 (Q .ret (U τ [(4, (.bool false)), (40, (.bool true)), (40, (.bool true)), (31, (.bool true)), (39, undef), (31, (.bool true)), (38, undef), (31, (.bool true)), (37, undef), (31, (.bool true)), (36, undef), (31, (.bool true)), (35, undef), (31, (.bool true)), (34, undef), (31, (.bool true)), (33, undef), (31, (.bool true)), (32, undef), (31, (.bool true)), (31, v30_6), (30, v30_6), (29, v29_5), (28, v28_4), (27, v27_3), (26, (τ 9)), (25, v25_2), (24, v24_1), (23, (τ 9)), (20, (.bool true)), (20, v20_0), (19, (τ 9))]) ds s6)
 (I.wop (.indexAddr 122 (.const (τ 7)) (.const (τ 9))) 0 s6 fun v33_7 s7 =>
 I.wop (.load 33 (.const v33_7)) 33 s7 fun v34_8 s8 =>
 veq v34_8 v34_8 = true ∧ I.wop (.indexAddr 122 (.const (τ 8)) (.const (τ 9))) 0 s8 fun v36_9 s9 =>
 I.wop (.load 33 (.const v36_9)) 33 s9 fun v37_10 s10 =>
 veq v37_10 v37_10 = true ∧ I.call 51 [v34_8, v37_10] s10 fun v38_11 s11 =>
 I.wop (.unOp .not 4 (.const v38_11)) 4 s11 fun v39_12 s12 =>
 wdec v39_12
 (Q .ret (U τ [(4, (.bool false)), (40, (.bool true)), (40, v39_12), (31, (.bool false)), (39, v39_12), (31, (.bool false)), (38, v38_11), (31, (.bool false)), (37, v37_10), (31, (.bool false)), (36, v36_9), (31, (.bool false)), (35, (τ 9)), (31, (.bool false)), (34, v34_8), (31, (.bool false)), (33, v33_7), (31, (.bool false)), (32, (τ 9)), (31, (.bool false)), (31, v30_6), (30, v30_6), (29, v29_5), (28, v28_4), (27, v27_3), (26, (τ 9)), (25, v25_2), (24, v24_1), (23, (τ 9)), (20, (.bool true)), (20, v20_0), (19, (τ 9))]) ds s12)
 (I.wop (.binOp .add 3 (.const (τ 9)) (.const (.int .i64 1)) 3) 3 s12 fun v22_13 s13 =>
 Q .normal (U τ [(9, v22_13), (22, v22_13), (21, (τ 9)), (40, (.bool false)), (40, v39_12), (31, (.bool false)), (39, v39_12), (31, (.bool false)), (38, v38_11), (31, (.bool false)), (37, v37_10), (31, (.bool false)), (36, v36_9), (31, (.bool false)), (35, (τ 9)), (31, (.bool false)), (34, v34_8), (31, (.bool false)), (33, v33_7), (31, (.bool false)), (32, (τ 9)), (31, (.bool false)), (31, v30_6), (30, v30_6), (29, v29_5), (28, v28_4), (27, v27_3), (26, (τ 9)), (25, v25_2), (24, v24_1), (23, (τ 9)), (20, (.bool true)), (20, v20_0), (19, (τ 9))]) ds s13)))
 (Q (.exit 0) (U τ [(20, (.bool false)), (20, v20_0), (19, (τ 9))]) ds s0)
theorem x53_1110100 (I : Prims) (rnd : Option Nat) (τ : Tau) (ds : List Deferred) (s : St) (Q : Ex → WK) : xp I rnd 84 k53_1110100 c53_1110100 [] τ [] ds s (lift Q) = v53_1110100 I rnd τ ds s Q := by kernel_rfl
theorem n53_1110100 [Memo] (ro : Nat) (rnd : Option Nat) (τ : Tau) (ds : List Deferred) (s : St) (Q : Ex → WK) : wp P ro 84 rnd c53_1110100 τ ds s Q = v53_1110100 (prims P ro) rnd τ ds s Q := xp_wp rnd 84 P ro (x53_1110100 _ rnd τ ds s Q)
def v53_111110100 (I : Prims) (rnd : Option Nat) (τ : Tau) (ds : List Deferred) (s : St) (Q : Ex → WK) : Prop :=
 I.wop (.fieldAddr 59 (.const (τ 2)) 12) 0 s fun v49_0 s0 =>
 I.wop (.load 57 (.const v49_0)) 57 s0 fun v50_1 s1 =>
 I.wop (.call ⟨.builtin .len, ⟨[(.const v50_1)]⟩, #[57]⟩) 3 s1 fun v51_2 s2 =>
 I.wop (.binOp .lss 3 (.const (τ 10)) (.const v51_2) 3) 4 s2 fun v52_3 s3 =>
 wdec v52_3
 (I.wop (.fieldAddr 59 (.const (τ 2)) 12) 0 s3 fun v55_4 s4 =>
 I.wop (.load 57 (.const v55_4)) 57 s4 fun v56_5 s5 =>
 veq v56_5 v56_5 = true ∧ I.wop (.indexAddr 57 (.const v56_5) (.const (τ 10))) 0 s5 fun v58_6 s6 =>
 I.wop (.fieldAddr 114 (.const v58_6) 0) 0 s6 fun v59_7 s7 =>
 I.wop (.load 112 (.const v59_7)) 112 s7 fun v60_8 s8 =>
 veq v60_8 v60_8 = true ∧ I.wop (.fieldAddr 59 (.const (τ 3)) 12) 0 s8 fun v61_9 s9 =>
 I.wop (.load 57 (.const v61_9)) 57 s9 fun v62_10 s10 =>
 veq v62_10 v62_10 = true ∧ I.wop (.indexAddr 57 (.const v62_10) (.const (τ 10))) 0 s10 fun v64_11 s11 =>
 I.wop (.fieldAddr 114 (.const v64_11) 0) 0 s11 fun v65_12 s12 =>
 I.wop (.load 112 (.const v65_12)) 112 s12 fun v66_13 s13 =>
 veq v66_13 v66_13 = true ∧ I.wop (.binOp .neq 112 (.const v60_8) (.const v66_13) 112) 4 s13 fun v67_14 s14 =>
 wdec v67_14
 (Q .ret (U τ [(4, (.bool false)), (83, (.bool true)), (83, (.bool true)), (68, (.bool true)), (82, undef), (68, (.bool true)), (81, undef), (68, (.bool true)), (80, undef), (68, (.bool true)), (79, undef), (68, (.bool true)), (78, undef), (68, (.bool true)), (77, undef), (68, (.bool true)), (76, undef), (68, (.bool true)), (75, undef), (68, (.bool true)), (74, undef), (68, (.bool true)), (73, undef), (68, (.bool true)), (72, undef), (68, (.bool true)), (71, undef), (68, (.bool true)), (70, undef), (68, (.bool true)), (69, undef), (68, (.bool true)), (68, v67_14), (67, v67_14), (66, v66_13), (65, v65_12), (64, v64_11), (63, (τ 10)), (62, v62_10), (61, v61_9), (60, v60_8), (59, v59_7), (58, v58_6), (57, (τ 10)), (56, v56_5), (55, v55_4), (52, (.bool true)), (52, v52_3), (51, v51_2), (50, v50_1), (49, v49_0), (48, (τ 10))]) ds s14)
 (I.wop (.fieldAddr 59 (.const (τ 2)) 12) 0 s14 fun v69_15 s15 =>
 I.wop (.load 57 (.const v69_15)) 57 s15 fun v70_16 s16 =>
 veq v70_16 v70_16 = true ∧ I.wop (.indexAddr 57 (.const v70_16) (.const (τ 10))) 0 s16 fun v72_17 s17 =>
 I.wop (.fieldAddr 114 (.const v72_17) 1) 0 s17 fun v73_18 s18 =>
 I.wop (.load 33 (.const v73_18)) 33 s18 fun v74_19 s19 =>
 veq v74_19 v74_19 = true ∧ I.wop (.fieldAddr 59 (.const (τ 3)) 12) 0 s19 fun v75_20 s20 =>
 I.wop (.load 57 (.const v75_20)) 57 s20 fun v76_21 s21 =>
 veq v76_21 v76_21 = true ∧ I.wop (.indexAddr 57 (.const v76_21) (.const (τ 10))) 0 s21 fun v78_22 s22 =>
 I.wop (.fieldAddr 114 (.const v78_22) 1) 0 s22 fun v79_23 s23 =>
 I.wop (.load 33 (.const v79_23)) 33 s23 fun v80_24 s24 =>
 veq v80_24 v80_24 = true ∧ I.call 51 [v74_19, v80_24] s24 fun v81_25 s25 =>
 I.wop (.unOp .not 4 (.const v81_25)) 4 s25 fun v82_26 s26 =>
 wdec v82_26
 (Q .ret (U τ [(4, (.bool false)), (83, (.bool true)), (83, v82_26), (68, (.bool false)), (82, v82_26), (68, (.bool false)), (81, v81_25), (68, (.bool false)), (80, v80_24), (68, (.bool false)), (79, v79_23), (68, (.bool false)), (78, v78_22), (68, (.bool false)), (77, (τ 10)), (68, (.bool false)), (76, v76_21), (68, (.bool false)), (75, v75_20), (68, (.bool false)), (74, v74_19), (68, (.bool false)), (73, v73_18), (68, (.bool false)), (72, v72_17), (68, (.bool false)), (71, (τ 10)), (68, (.bool false)), (70, v70_16), (68, (.bool false)), (69, v69_15), (68, (.bool false)), (68, v67_14), (67, v67_14), (66, v66_13), (65, v65_12), (64, v64_11), (63, (τ 10)), (62, v62_10), (61, v61_9), (60, v60_8), (59, v59_7), (58, v58_6), (57, (τ 10)), (56, v56_5), (55, v55_4), (52, (.bool true)), (52, v52_3), (51, v51_2), (50, v50_1), (49, v49_0), (48, (τ 10))]) ds s26)
 (I.wop (.binOp .add 3 (.const (τ 10)) (.const (.int .i64 1)) 3) 3 s26 fun v54_27 s27 =>
 Q .normal (U τ [(10, v54_27), (54, v54_27), (53, (τ 10)), (83, (.bool false)), (83, v82_26), (68, (.bool false)), (82, v82_26), (68, (.bool false)), (81, v81_25), (68, (.bool false)), (80, v80_24), (68, (.bool false)), (79, v79_23), (68, (.bool false)), (78, v78_22), (68, (.bool false)), (77, (τ 10)), (68, (.bool false)), (76, v76_21), (68, (.bool false)), (75, v75_20), (68, (.bool false)), (74, v74_19), (68, (.bool false)), (73, v73_18), (68, (.bool false)), (72, v72_17), (68, (.bool false)), (71, (τ 10)), (68, (.bool false)), (70, v70_16), (68, (.bool false)), (69, v69_15), (68, (.bool false)), (68, v67_14), (67, v67_14), (66, v66_13), (65, v65_12), (64, v64_11), (63, (τ 10)), (62, v62_10), (61, v61_9), (60, v60_8), (59, v59_7), (58, v58_6), (57, (τ 10)), (56, v56_5), (55, v55_4), (52, (.bool true)), (52, v52_3), (51, v51_2), (50, v50_1), (49, v49_0), (48, (τ 10))]) ds s27)))
 (Q (.exit 2) (U τ [(52, (.bool false)), (52, v52_3), (51, v51_2), (50, v50_1), (49, v49_0), (48, (τ 10))]) ds s3)
theorem x53_111110100 (I : Prims) (rnd : Option Nat) (τ : Tau) (ds : List Deferred) (s : St) (Q : Ex → WK) : xp I rnd 84 k53_111110100 c53_111110100 [] τ [] ds s (lift Q) = v53_111110100 I rnd τ ds s Q := by kernel_rfl
theorem n53_111110100 [Memo] (ro : Nat) (rnd : Option Nat) (τ : Tau) (ds : List Deferred) (s : St) (Q : Ex → WK) : wp P ro 84 rnd c53_111110100 τ ds s Q = v53_111110100 (prims P ro) rnd τ ds s Q := xp_wp rnd 84 P ro (x53_111110100 _ rnd τ ds s Q)
def v53 (I : Prims) (a0 a1 : Value) (si : St) (K : Value → St → Prop) : Prop :=
 I.wop (.box 59 (.const a0)) 0 (ent si) fun v2_0 s0 =>
 I.wop (.box 59 (.const a1)) 0 s0 fun v3_1 s1 =>
 I.wop (.load 59 (.const v2_0)) 59 s1 fun v11_2 s2 =>
 veq v11_2 v11_2 = true ∧ I.wop (.load 59 (.const v3_1)) 59 s2 fun v13_3 s3 =>
 veq v13_3 v13_3 = true ∧ I.wop (.alloc 120) 0 s3 fun v5_4 s4 =>
 FreshOk s3 s4 ∧ I.wop (.alloc 120) 0 s4 fun v6_5 s5 =>
 FreshOk s4 s5 ∧ I.call 89 [v11_2] s5 fun v12_6 s6 =>
 Keeps [(5, .blk s4.n), (4, .blk s3.n), (2, .ptr v3_1)] s5 s6 ∧ I.call 89 [v13_3] s6 fun v14_7 s7 =>
 Keeps [(5, .blk s4.n), (4, .blk s3.n)] s6 s7 ∧ I.wop (.store 120 (.const v5_4) (.const v12_6)) 0 s7 fun _ s8 =>
 s7.n ≤ s8.n ∧ I.wop (.store 120 (.const v6_5) (.const v14_7)) 0 s8 fun _ s9 =>
 s8.n ≤ s9.n ∧ I.wop (.load 59 (.const v2_0)) 59 s9 fun v15_10 s10 =>
 veq v15_10 v15_10 = true ∧ I.wop (.load 59 (.const v3_1)) 59 s10 fun v17_11 s11 =>
 veq v17_11 v17_11 = true ∧ I.wop (.alloc 122) 0 s11 fun v7_12 s12 =>
 FreshOk s11 s12 ∧ I.wop (.alloc 122) 0 s12 fun v8_13 s13 =>
 FreshOk s12 s13 ∧ I.call 90 [v15_10] s13 fun v16_14 s14 =>
 Keeps [(5, .blk s12.n), (4, .blk s11.n), (2, .ptr v3_1)] s13 s14 ∧ I.call 90 [v17_11] s14 fun v18_15 s15 =>
 Keeps [(5, .blk s12.n), (4, .blk s11.n)] s14 s15 ∧ I.wop (.store 122 (.const v7_12) (.const v16_14)) 0 s15 fun _ s16 =>
 s15.n ≤ s16.n ∧ I.wop (.store 122 (.const v8_13) (.const v18_15)) 0 s16 fun _ s17 =>
 s16.n ≤ s17.n ∧ I.loop 84 none c53_1110100 (U undefT [(9, (.int .i64 0)), (18, v18_15), (16, v16_14), (8, v8_13), (7, v7_12), (17, v17_11), (15, v15_10), (14, v14_7), (12, v12_6), (6, v6_5), (5, v5_4), (13, v13_3), (11, v11_2), (4, (.bool false)), (3, v3_1), (2, v2_0), (0, a0), (1, a1)]) [] s17 (fun τ ds s => ((xleave I si Tryd.f53.results.toList K) .ret) τ [] ds s) [(0, fun τ18 ds18 s18 =>
 I.wop (.fieldAddr 59 (.const (τ18 2)) 12) 0 s18 fun v41_19 s19 =>
 I.wop (.load 57 (.const v41_19)) 57 s19 fun v42_20 s20 =>
 I.wop (.call ⟨.builtin .len, ⟨[(.const v42_20)]⟩, #[57]⟩) 3 s20 fun v43_21 s21 =>
 I.wop (.fieldAddr 59 (.const (τ18 3)) 12) 0 s21 fun v44_22 s22 =>
 I.wop (.load 57 (.const v44_22)) 57 s22 fun v45_23 s23 =>
 I.wop (.call ⟨.builtin .len, ⟨[(.const v45_23)]⟩, #[57]⟩) 3 s23 fun v46_24 s24 =>
 I.wop (.binOp .neq 3 (.const v43_21) (.const v46_24) 3) 4 s24 fun v47_25 s25 =>
 wdec v47_25
 (xdefers I ds18 s25 fun s26 =>
 I.fin si K (.bool false) s26)
 (I.loop 84 none c53_111110100 (U τ18 [(10, (.int .i64 0)), (47, (.bool false)), (47, v47_25), (46, v46_24), (45, v45_23), (44, v44_22), (43, v43_21), (42, v42_20), (41, v41_19)]) ds18 s25 (fun τ ds s => ((xleave I si Tryd.f53.results.toList K) .ret) τ [] ds s) [(2, fun _ ds27 s27 =>
 xdefers I ds27 s27 fun s28 =>
 I.fin si K (.bool true) s28)]))]
theorem x53 (I : Prims) (a0 a1 : Value) (si : St) (K : Value → St → Prop) : xbody I 84 k53 Tryd.f53 c53 [a0, a1] si K = v53 I a0 a1 si K := by kernel_rfl
theorem n53 [Memo] (ro : Nat) (a0 a1 : Value) (si : St) (K : Value → St → Prop) : wbody P ro 84 Tryd.f53 c53 [a0, a1] si K = v53 (prims P ro) a0 a1 si K := xbody_eq 84 P ro (x53 _ a0 a1 si K)
theorem r53 (I : Prims) (si : St) (K : Value → St → Prop) (τ : Tau) (ds : List Deferred) (s : St) : xleave I si Tryd.f53.results.toList K .ret τ [] ds s =
 (xdefers I ds s fun s0 =>
 I.fin si K (τ 4) s0) := by kernel_rfl
/- attestor/proof.rounds -/
noncomputable def c54 : Code := bodyOf Tryd.f54
def k54 : List (List Nat) := []
theorem b54 : BodyOk P 6 1 54 Tryd.f54 c54 := ⟨Tryd.func54, by kernel_rfl, by kernel_rfl, by kernel_rfl, by kernel_rfl, by kernel_rfl⟩
def v54 (I : Prims) (a0 : Value) (si : St) (K : Value → St → Prop) : Prop :=
 I.wop (.box 23 (.const a0)) 0 (ent si) fun v1_0 s0 =>
 I.wop (.fieldAddr 23 (.const v1_0) 1) 0 s0 fun v3_1 s1 =>
 I.wop (.load 3 (.const v3_1)) 3 s1 fun v4_2 s2 =>
 I.wop (.binOp .quo 3 (.const v4_2) (.const (.int .i64 3)) 3) 3 s2 fun v5_3 s3 =>
 I.fin si K v5_3 s3
theorem x54 (I : Prims) (a0 : Value) (si : St) (K : Value → St → Prop) : xbody I 6 k54 Tryd.f54 c54 [a0] si K = v54 I a0 si K := by kernel_rfl
theorem n54 [Memo] (ro : Nat) (a0 : Value) (si : St) (K : Value → St → Prop) : wbody P ro 6 Tryd.f54 c54 [a0] si K = v54 (prims P ro) a0 si K := xbody_eq 6 P ro (x54 _ a0 si K)
/- slices.ContainsFunc[[]attestor/api.Opening,attestor/api.Opening] -/
noncomputable def c55 : Code := bodyOf Tryd.f55
def k55 : List (List Nat) := []
theorem b55 : BodyOk P 9 2 55 Tryd.f55 c55 := ⟨Tryd.func55, by kernel_rfl, by kernel_rfl, by kernel_rfl, by kernel_rfl, by kernel_rfl⟩
def v55 (I : Prims) (a0 a1 : Value) (si : St) (K : Value → St → Prop) : Prop :=
 I.call 91 [a0, a1] (ent si) fun v7_0 s0 =>
 I.wop (.binOp .geq 3 (.const v7_0) (.const (.int .i64 0)) 3) 4 s0 fun v8_1 s1 =>
 I.fin si K v8_1 s1
theorem x55 (I : Prims) (a0 a1 : Value) (si : St) (K : Value → St → Prop) : xbody I 9 k55 Tryd.f55 c55 [a0, a1] si K = v55 I a0 a1 si K := by kernel_rfl
theorem n55 [Memo] (ro : Nat) (a0 a1 : Value) (si : St) (K : Value → St → Prop) : wbody P ro 9 Tryd.f55 c55 [a0, a1] si K = v55 (prims P ro) a0 a1 si K := xbody_eq 9 P ro (x55 _ a0 a1 si K)
/- attestor/proof.Fits$1 -/
noncomputable def c56 : Code := bodyOf Tryd.f56
def k56 : List (List Nat) := []
theorem b56 : BodyOk P 10 2 56 Tryd.f56 c56 := ⟨Tryd.func56, by kernel_rfl, by kernel_rfl, by kernel_rfl, by kernel_rfl, by kernel_rfl⟩
def v56 (I : Prims) (a0 a1 : Value) (si : St) (K : Value → St → Prop) : Prop :=
 I.wop (.box 59 (.const a0)) 0 (ent si) fun v2_0 s0 =>
 I.wop (.fieldAddr 59 (.const v2_0) 12) 0 s0 fun v4_1 s1 =>
 I.wop (.load 57 (.const v4_1)) 57 s1 fun v5_2 s2 =>
 veq v5_2 v5_2 = true ∧ I.wop (.call ⟨.builtin .len, ⟨[(.const v5_2)]⟩, #[57]⟩) 3 s2 fun v6_3 s3 =>
 I.wop (.load 23 (.const a1)) 23 s3 fun v7_4 s4 =>
 veq v7_4 v7_4 = true ∧ I.call 54 [v7_4] s4 fun v8_5 s5 =>
 Keeps [(1, .ptr v4_1)] s4 s5 ∧ I.wop (.binOp .neq 3 (.const v6_3) (.const v8_5) 3) 4 s5 fun v9_6 s6 =>
 I.fin si K v9_6 s6
theorem x56 (I : Prims) (a0 a1 : Value) (si : St) (K : Value → St → Prop) : xbody I 10 k56 Tryd.f56 c56 [a0, a1] si K = v56 I a0 a1 si K := by kernel_rfl
theorem n56 [Memo] (ro : Nat) (a0 a1 : Value) (si : St) (K : Value → St → Prop) : wbody P ro 10 Tryd.f56 c56 [a0, a1] si K = v56 (prims P ro) a0 a1 si K := xbody_eq 10 P ro (x56 _ a0 a1 si K)
/- (attestor/proof.list).get -/
noncomputable def c57 : Code := bodyOf Tryd.f57
noncomputable def c57_1110100 : Code := subCode [1, 1, 1, 0, 1, 0, 0] c57
def k57 : List (List Nat) := []
def k57_1110100 : List (List Nat) := []
theorem l57_1110100 : ltCode 52 c57_1110100 = true := by kernel_rfl
theorem m57_1110100 : notMap c57_1110100 = true := by kernel_rfl
theorem b57 : BodyOk P 52 1 57 Tryd.f57 c57 := ⟨Tryd.func57, by kernel_rfl, by kernel_rfl, by kernel_rfl, by kernel_rfl, by kernel_rfl⟩
def v57_1110100 (I : Prims) (rnd : Option Nat) (τ : Tau) (ds : List Deferred) (s : St) (Q : Ex → WK) : Prop :=
 I.wop (.binOp .lss 3 (.const (τ 43)) (.const (τ 42)) 3) 0 s fun v44_0 s0 =>
 wdec v44_0
 (I.wop (.indexAddr 33 (.const (τ 41)) (.const (τ 43))) 0 s0 fun v45_1 s1 =>
 I.wop (.load 55 (.const v45_1)) 55 s1 fun v46_2 s2 =>
 I.wop (.alloc 55) 0 s2 fun v5_3 s3 =>
 I.wop (.store 55 (.const v5_3) (.const v46_2)) 0 s3 fun _ s4 =>
 I.wop (.slice 55 (.const v5_3) none none none) 36 s4 fun v48_5 s5 =>
 I.wop (.call ⟨.builtin .append, ⟨[(.const (τ 3)), (.const v48_5)]⟩, #[36, 36]⟩) 36 s5 fun v49_6 s6 =>
 I.wop (.binOp .add 3 (.const (τ 43)) (.const (.int .i64 1)) 3) 3 s6 fun v50_7 s7 =>
 Q .normal (U τ [(43, v50_7), (50, v50_7), (3, v49_6), (49, v49_6), (48, v48_5), (47, (τ 3)), (5, v5_3), (46, v46_2), (45, v45_1), (44, (.bool true)), (44, v44_0)]) ds s7)
 (Q (.exit 1) (U τ [(44, (.bool false)), (44, v44_0)]) ds s0)
theorem x57_1110100 (I : Prims) (rnd : Option Nat) (τ : Tau) (ds : List Deferred) (s : St) (Q : Ex → WK) : xp I rnd 52 k57_1110100 c57_1110100 [] τ [] ds s (lift Q) = v57_1110100 I rnd τ ds s Q := by kernel_rfl
theorem n57_1110100 [Memo] (ro : Nat) (rnd : Option Nat) (τ : Tau) (ds : List Deferred) (s : St) (Q : Ex → WK) : wp P ro 52 rnd c57_1110100 τ ds s Q = v57_1110100 (prims P ro) rnd τ ds s Q := xp_wp rnd 52 P ro (x57_1110100 _ rnd τ ds s Q)
def v57 (I : Prims) (a0 : Value) (si : St) (K : Value → St → Prop) : Prop :=
 I.wop (.box 82 (.const a0)) 0 (ent si) fun v1_0 s0 =>
 I.wop (.fieldAddr 82 (.const v1_0) 0) 0 s0 fun v7_1 s1 =>
 I.wop (.load 77 (.const v7_1)) 77 s1 fun v8_2 s2 =>
 I.wop (.binOp .neq 77 (.const v8_2) (.const (.pointer none)) 77) 4 s2 fun v9_3 s3 =>
 wdec v9_3
 (I.wop (.fieldAddr 82 (.const v1_0) 0) 0 s3 fun v10_4 s4 =>
 I.wop (.load 77 (.const v10_4)) 77 s4 fun v11_5 s5 =>
 I.wop (.nilCheck (.const v11_5)) 0 s5 fun v12_6 s6 =>
 I.wop (.load 36 (.const v12_6)) 36 s6 fun v13_7 s7 =>
 I.fin si K v13_7 s7)
 (I.wop (.fieldAddr 82 (.const v1_0) 2) 0 s3 fun v15_8 s8 =>
 I.wop (.load 79 (.const v15_8)) 79 s8 fun v16_9 s9 =>
 I.wop (.binOp .neq 79 (.const v16_9) (.const (.pointer none)) 79) 4 s9 fun v17_10 s10 =>
 wdec v17_10
 (I.wop (.fieldAddr 82 (.const v1_0) 2) 0 s10 fun v18_11 s11 =>
 I.wop (.load 79 (.const v18_11)) 79 s11 fun v19_12 s12 =>
 I.wop (.nilCheck (.const v19_12)) 0 s12 fun v20_13 s13 =>
 I.wop (.load 34 (.const v20_13)) 34 s13 fun v21_14 s14 =>
 I.wop (.buildSlice 36 1 ⟨[(0, (.const v21_14))]⟩) 36 s14 fun v22_15 s15 =>
 I.fin si K v22_15 s15)
 (I.wop (.fieldAddr 82 (.const v1_0) 3) 0 s10 fun v24_16 s16 =>
 I.wop (.load 80 (.const v24_16)) 80 s16 fun v25_17 s17 =>
 I.wop (.binOp .neq 80 (.const v25_17) (.const (.pointer none)) 80) 4 s17 fun v26_18 s18 =>
 wdec v26_18
 (I.wop (.fieldAddr 82 (.const v1_0) 3) 0 s18 fun v27_19 s19 =>
 I.wop (.load 80 (.const v27_19)) 80 s19 fun v28_20 s20 =>
 I.wop (.nilCheck (.const v28_20)) 80 s20 fun v29_21 s21 =>
 I.wop (.slice 112 (.const v29_21) none none none) 36 s21 fun v30_22 s22 =>
 I.fin si K v30_22 s22)
 (I.wop (.fieldAddr 82 (.const v1_0) 1) 0 s18 fun v31_23 s23 =>
 I.wop (.load 78 (.const v31_23)) 78 s23 fun v32_24 s24 =>
 I.wop (.nilCheck (.const v32_24)) 0 s24 fun v33_25 s25 =>
 I.wop (.load 33 (.const v33_25)) 33 s25 fun v34_26 s26 =>
 I.wop (.call ⟨.builtin .len, ⟨[(.const v34_26)]⟩, #[33]⟩) 3 s26 fun v35_27 s27 =>
 I.wop (.binOp .mul 3 (.const (.int .i64 2)) (.const v35_27) 3) 3 s27 fun v36_28 s28 =>
 I.wop (.makeSlice 36 (.const (.int .i64 0)) (.const v36_28)) 36 s28 fun v37_29 s29 =>
 I.wop (.fieldAddr 82 (.const v1_0) 1) 0 s29 fun v38_30 s30 =>
 I.wop (.load 78 (.const v38_30)) 78 s30 fun v39_31 s31 =>
 I.wop (.nilCheck (.const v39_31)) 0 s31 fun v40_32 s32 =>
 I.wop (.load 33 (.const v40_32)) 33 s32 fun v41_33 s33 =>
 I.wop (.call ⟨.builtin .len, ⟨[(.const v41_33)]⟩, #[33]⟩) 3 s33 fun v42_34 s34 =>
 I.loop 52 none c57_1110100 (U undefT [(43, (.int .i64 0)), (42, v42_34), (41, v41_33), (40, v40_32), (39, v39_31), (38, v38_30), (3, v37_29), (37, v37_29), (36, v36_28), (35, v35_27), (34, v34_26), (33, v33_25), (32, v32_24), (31, v31_23), (23, (.bool false)), (23, v26_18), (26, v26_18), (25, v25_17), (24, v24_16), (14, (.bool false)), (14, v17_10), (17, v17_10), (16, v16_9), (15, v15_8), (6, (.bool false)), (6, v9_3), (9, v9_3), (8, v8_2), (7, v7_1), (2, (.slice none 0 0)), (1, v1_0), (0, a0)]) [] s34 (fun τ ds s => ((xleave I si Tryd.f57.results.toList K) .ret) τ [] ds s) [(1, fun τ35 ds35 s35 =>
 xdefers I ds35 s35 fun s36 =>
 I.fin si K (τ35 3) s36)])))
theorem x57 (I : Prims) (a0 : Value) (si : St) (K : Value → St → Prop) : xbody I 52 k57 Tryd.f57 c57 [a0] si K = v57 I a0 si K := by kernel_rfl
theorem n57 [Memo] (ro : Nat) (a0 : Value) (si : St) (K : Value → St → Prop) : wbody P ro 52 Tryd.f57 c57 [a0] si K = v57 (prims P ro) a0 si K := xbody_eq 52 P ro (x57 _ a0 si K)
/- attestor/field.Is -/
noncomputable def c58 : Code := bodyOf Tryd.f58
noncomputable def c58_10100 : Code := subCode [1, 0, 1, 0, 0] c58
def k58 : List (List Nat) := []
def k58_10100 : List (List Nat) := []
theorem l58_10100 : ltCode 20 c58_10100 = true := by kernel_rfl
theorem m58_10100 : notMap c58_10100 = true := by kernel_rfl
theorem b58 : BodyOk P 20 2 58 Tryd.f58 c58 := ⟨Tryd.func58, by kernel_rfl, by kernel_rfl, by kernel_rfl, by kernel_rfl, by kernel_rfl⟩
def v58_10100 (I : Prims) (rnd : Option Nat) (τ : Tau) (ds : List Deferred) (s : St) (Q : Ex → WK) : Prop :=
 I.wop (.binOp .lss 3 (.const (τ 9)) (.const (τ 8)) 3) 0 s fun v10_0 s0 =>
 wdec v10_0
 (I.wop (.indexAddr 36 (.const (τ 7)) (.const (τ 9))) 0 s0 fun v11_1 s1 =>
 I.wop (.load 34 (.const v11_1)) 34 s1 fun v12_2 s2 =>
 I.call 47 [(τ 0)] s2 fun v15_3 s3 =>
 I.wop (.binOp .geq 34 (.const v12_2) (.const v15_3) 34) 4 s3 fun v16_4 s4 =>
 wdec v16_4
 (Q .ret (U τ [(4, (.bool false)), (16, (.bool true)), (16, v16_4), (15, v15_3), (14, (τ 0)), (13, v12_2), (6, v12_2), (12, v12_2), (11, v11_1), (10, (.bool true)), (10, v10_0)]) ds s4)
 (I.wop (.binOp .add 3 (.const (τ 9)) (.const (.int .i64 1)) 3) 3 s4 fun v17_5 s5 =>
 Q .normal (U τ [(9, v17_5), (17, v17_5), (16, (.bool false)), (16, v16_4), (15, v15_3), (14, (τ 0)), (13, v12_2), (6, v12_2), (12, v12_2), (11, v11_1), (10, (.bool true)), (10, v10_0)]) ds s5))
 (Q (.exit 0) (U τ [(10, (.bool false)), (10, v10_0)]) ds s0)
theorem x58_10100 (I : Prims) (rnd : Option Nat) (τ : Tau) (ds : List Deferred) (s : St) (Q : Ex → WK) : xp I rnd 20 k58_10100 c58_10100 [] τ [] ds s (lift Q) = v58_10100 I rnd τ ds s Q := by kernel_rfl
theorem n58_10100 [Memo] (ro : Nat) (rnd : Option Nat) (τ : Tau) (ds : List Deferred) (s : St) (Q : Ex → WK) : wp P ro 20 rnd c58_10100 τ ds s Q = v58_10100 (prims P ro) rnd τ ds s Q := xp_wp rnd 20 P ro (x58_10100 _ rnd τ ds s Q)
def v58 (I : Prims) (a0 a1 : Value) (si : St) (K : Value → St → Prop) : Prop :=
 I.wop (.call ⟨.builtin .len, ⟨[(.const a1)]⟩, #[36]⟩) 3 (ent si) fun v8_0 s0 =>
 I.loop 20 none c58_10100 (U undefT [(9, (.int .i64 0)), (8, v8_0), (7, a1), (4, (.bool false)), (0, a0), (1, a1)]) [] s0 (fun τ ds s => ((xleave I si Tryd.f58.results.toList K) .ret) τ [] ds s) [(0, fun τ1 ds1 s1 =>
 I.call 40 [(τ1 0)] s1 fun v19_2 s2 =>
 xdefers I ds1 s2 fun s3 =>
 I.fin si K v19_2 s3)]
theorem x58 (I : Prims) (a0 a1 : Value) (si : St) (K : Value → St → Prop) : xbody I 20 k58 Tryd.f58 c58 [a0, a1] si K = v58 I a0 a1 si K := by kernel_rfl
theorem n58 [Memo] (ro : Nat) (a0 a1 : Value) (si : St) (K : Value → St → Prop) : wbody P ro 20 Tryd.f58 c58 [a0, a1] si K = v58 (prims P ro) a0 a1 si K := xbody_eq 20 P ro (x58 _ a0 a1 si K)
theorem r58 (I : Prims) (si : St) (K : Value → St → Prop) (τ : Tau) (ds : List Deferred) (s : St) : xleave I si Tryd.f58.results.toList K .ret τ [] ds s =
 (xdefers I ds s fun s0 =>
 I.fin si K (τ 4) s0) := by kernel_rfl
/- slices.IndexFunc[[]attestor/api.Part,attestor/api.Part] -/
noncomputable def c67 : Code := bodyOf Tryd.f67
noncomputable def c67_10100 : Code := subCode [1, 0, 1, 0, 0] c67
def k67 : List (List Nat) := []
def k67_10100 : List (List Nat) := []
theorem l67_10100 : ltCode 19 c67_10100 = true := by kernel_rfl
theorem m67_10100 : notMap c67_10100 = true := by kernel_rfl
theorem b67 : BodyOk P 19 2 67 Tryd.f67 c67 := ⟨Tryd.func67, by kernel_rfl, by kernel_rfl, by kernel_rfl, by kernel_rfl, by kernel_rfl⟩
def v67_10100 (I : Prims) (rnd : Option Nat) (τ : Tau) (ds : List Deferred) (s : St) (Q : Ex → WK) : Prop :=
 I.wop (.binOp .lss 3 (.const (τ 8)) (.const (τ 7)) 3) 0 s fun v9_0 s0 =>
 wdec v9_0
 (I.wop (.indexAddr 24 (.const (τ 0)) (.const (τ 8))) 0 s0 fun v14_1 s1 =>
 I.wop (.load 30 (.const v14_1)) 30 s1 fun v15_2 s2 =>
 xcallv I (τ 1) [v15_2] s2 fun v16_3 s3 =>
 wdec v16_3
 (Q .ret (U τ [(4, (τ 8)), (17, (τ 8)), (16, (.bool true)), (16, v16_3), (15, v15_2), (14, v14_1), (13, (τ 8)), (12, (τ 0)), (11, (τ 1)), (5, (τ 8)), (10, (τ 8)), (9, (.bool true)), (9, v9_0)]) ds s3)
 (I.wop (.binOp .add 3 (.const (τ 8)) (.const (.int .i64 1)) 3) 3 s3 fun v18_4 s4 =>
 Q .normal (U τ [(8, v18_4), (18, v18_4), (16, (.bool false)), (16, v16_3), (15, v15_2), (14, v14_1), (13, (τ 8)), (12, (τ 0)), (11, (τ 1)), (5, (τ 8)), (10, (τ 8)), (9, (.bool true)), (9, v9_0)]) ds s4))
 (Q (.exit 0) (U τ [(9, (.bool false)), (9, v9_0)]) ds s0)
theorem x67_10100 (I : Prims) (rnd : Option Nat) (τ : Tau) (ds : List Deferred) (s : St) (Q : Ex → WK) : xp I rnd 19 k67_10100 c67_10100 [] τ [] ds s (lift Q) = v67_10100 I rnd τ ds s Q := by kernel_rfl
theorem n67_10100 [Memo] (ro : Nat) (rnd : Option Nat) (τ : Tau) (ds : List Deferred) (s : St) (Q : Ex → WK) : wp P ro 19 rnd c67_10100 τ ds s Q = v67_10100 (prims P ro) rnd τ ds s Q := xp_wp rnd 19 P ro (x67_10100 _ rnd τ ds s Q)
def v67 (I : Prims) (a0 a1 : Value) (si : St) (K : Value → St → Prop) : Prop :=
 I.wop (.call ⟨.builtin .len, ⟨[(.const a0)]⟩, #[24]⟩) 3 (ent si) fun v7_0 s0 =>
 I.loop 19 none c67_10100 (U undefT [(8, (.int .i64 0)), (7, v7_0), (6, a0), (4, (.int .i64 0)), (0, a0), (1, a1)]) [] s0 (fun τ ds s => ((xleave I si Tryd.f67.results.toList K) .ret) τ [] ds s) [(0, fun _ ds1 s1 =>
 xdefers I ds1 s1 fun s2 =>
 I.fin si K (.int .i64 (-1)) s2)]
theorem x67 (I : Prims) (a0 a1 : Value) (si : St) (K : Value → St → Prop) : xbody I 19 k67 Tryd.f67 c67 [a0, a1] si K = v67 I a0 a1 si K := by kernel_rfl
theorem n67 [Memo] (ro : Nat) (a0 a1 : Value) (si : St) (K : Value → St → Prop) : wbody P ro 19 Tryd.f67 c67 [a0, a1] si K = v67 (prims P ro) a0 a1 si K := xbody_eq 19 P ro (x67 _ a0 a1 si K)
theorem r67 (I : Prims) (si : St) (K : Value → St → Prop) (τ : Tau) (ds : List Deferred) (s : St) : xleave I si Tryd.f67.results.toList K .ret τ [] ds s =
 (xdefers I ds s fun s0 =>
 I.fin si K (τ 4) s0) := by kernel_rfl
/- slices.AppendSeq[[]attestor/api.Part,attestor/api.Part] -/
noncomputable def c68 : Code := bodyOf Tryd.f68
noncomputable def c68_10100 : Code := subCode [1, 0, 1, 0, 0] c68
noncomputable def c68_10101 : Code := subCode [1, 0, 1, 0, 1] c68
def k68 : List (List Nat) := []
def k68_10100 : List (List Nat) := []
theorem l68_10100 : ltCode 13 c68_10100 = true := by kernel_rfl
def k68_10101 : List (List Nat) := []
theorem l68_10101 : ltCode 13 c68_10101 = true := by kernel_rfl
theorem b68 : BodyOk P 13 2 68 Tryd.f68 c68 := ⟨Tryd.func68, by kernel_rfl, by kernel_rfl, by kernel_rfl, by kernel_rfl, by kernel_rfl⟩
def v68_10100 (I : Prims) (rnd : Option Nat) (τ : Tau) (ds : List Deferred) (s : St) (Q : Ex → WK) : Prop :=
 I.wop (.alloc 30) 0 s fun v5_0 s0 =>
 I.wop (.store 30 (.const v5_0) (.const (τ 7))) 0 s0 fun _ s1 =>
 Q .normal (U τ [(5, v5_0)]) ds s1
theorem x68_10100 (I : Prims) (rnd : Option Nat) (τ : Tau) (ds : List Deferred) (s : St) (Q : Ex → WK) : xp I rnd 13 k68_10100 c68_10100 [] τ [] ds s (lift Q) = v68_10100 I rnd τ ds s Q := by kernel_rfl
theorem n68_10100 [Memo] (ro : Nat) (rnd : Option Nat) (τ : Tau) (ds : List Deferred) (s : St) (Q : Ex → WK) : wp P ro 13 rnd c68_10100 τ ds s Q = v68_10100 (prims P ro) rnd τ ds s Q := xp_wp rnd 13 P ro (x68_10100 _ rnd τ ds s Q)
def v68_10101 (I : Prims) (rnd : Option Nat) (τ : Tau) (ds : List Deferred) (s : St) (Q : Ex → WK) : Prop :=
 I.wop (.load 24 (.const (τ 2))) 24 s fun v8_0 s0 =>
 I.wop (.load 30 (.const (τ 5))) 30 s0 fun v9_1 s1 =>
 I.wop (.buildSlice 24 1 ⟨[(0, (.const v9_1))]⟩) 24 s1 fun v10_2 s2 =>
 I.wop (.call ⟨.builtin .append, ⟨[(.const v8_0), (.const v10_2)]⟩, #[24, 24]⟩) 24 s2 fun v11_3 s3 =>
 I.wop (.store 24 (.const (τ 2)) (.const v11_3)) 0 s3 fun _ s4 =>
 Q .normal (U τ [(11, v11_3), (10, v10_2), (9, v9_1), (8, v8_0)]) ds s4
theorem x68_10101 (I : Prims) (rnd : Option Nat) (τ : Tau) (ds : List Deferred) (s : St) (Q : Ex → WK) : xp I rnd 13 k68_10101 c68_10101 [] τ [] ds s (lift Q) = v68_10101 I rnd τ ds s Q := by kernel_rfl
theorem n68_10101 [Memo] (ro : Nat) (rnd : Option Nat) (τ : Tau) (ds : List Deferred) (s : St) (Q : Ex → WK) : wp P ro 13 rnd c68_10101 τ ds s Q = v68_10101 (prims P ro) rnd τ ds s Q := xp_wp rnd 13 P ro (x68_10101 _ rnd τ ds s Q)
def v68 (I : Prims) (a0 a1 : Value) (si : St) (K : Value → St → Prop) : Prop :=
 I.wop (.box 24 (.const a0)) 0 (ent si) fun v2_0 s0 =>
 I.range 13 none a1 #[7] c68_10100 c68_10101 (U undefT [(6, a1), (4, (.slice none 0 0)), (2, v2_0), (0, a0), (1, a1)]) [] s0 (fun τ1 ds1 s1 =>
 I.wop (.load 24 (.const (τ1 2))) 24 s1 fun v12_2 s2 =>
 xdefers I ds1 s2 fun s3 =>
 I.fin si K v12_2 s3) (fun τ ds s => ((xleave I si Tryd.f68.results.toList K) .ret) τ [] ds s) []
theorem x68 (I : Prims) (a0 a1 : Value) (si : St) (K : Value → St → Prop) : xbody I 13 k68 Tryd.f68 c68 [a0, a1] si K = v68 I a0 a1 si K := by kernel_rfl
theorem n68 [Memo] (ro : Nat) (a0 a1 : Value) (si : St) (K : Value → St → Prop) : wbody P ro 13 Tryd.f68 c68 [a0, a1] si K = v68 (prims P ro) a0 a1 si K := xbody_eq 13 P ro (x68 _ a0 a1 si K)
/- attestor/proof.all$1 -/
noncomputable def c69 : Code := bodyOf Tryd.f69
noncomputable def c69_110100 : Code := subCode [1, 1, 0, 1, 0, 0] c69
noncomputable def c69_11110100 : Code := subCode [1, 1, 1, 1, 0, 1, 0, 0] c69
noncomputable def c69_11111100 : Code := subCode [1, 1, 1, 1, 1, 1, 0, 0] c69
noncomputable def c69_11110100110010100 : Code := subCode [1, 1, 1, 1, 0, 1, 0, 0, 1, 1, 0, 0, 1, 0, 1, 0, 0] c69
noncomputable def c69_111101001100110100 : Code := subCode [1, 1, 1, 1, 0, 1, 0, 0, 1, 1, 0, 0, 1, 1, 0, 1, 0, 0] c69
noncomputable def c69_111101001100111100 : Code := subCode [1, 1, 1, 1, 0, 1, 0, 0, 1, 1, 0, 0, 1, 1, 1, 1, 0, 0] c69
def k69 : List (List Nat) := []
def k69_110100 : List (List Nat) := []
theorem l69_110100 : ltCode 131 c69_110100 = true := by kernel_rfl
theorem m69_110100 : notMap c69_110100 = true := by kernel_rfl
def k69_11110100 : List (List Nat) := []
theorem l69_11110100 : ltCode 131 c69_11110100 = true := by kernel_rfl
theorem m69_11110100 : notMap c69_11110100 = true := by kernel_rfl
def k69_11111100 : List (List Nat) := []
theorem l69_11111100 : ltCode 131 c69_11111100 = true := by kernel_rfl
theorem m69_11111100 : notMap c69_11111100 = true := by kernel_rfl
def k69_11110100110010100 : List (List Nat) := []
theorem l69_11110100110010100 : ltCode 131 c69_11110100110010100 = true := by kernel_rfl
theorem m69_11110100110010100 : notMap c69_11110100110010100 = true := by kernel_rfl
def k69_111101001100110100 : List (List Nat) := []
theorem l69_111101001100110100 : ltCode 131 c69_111101001100110100 = true := by kernel_rfl
theorem m69_111101001100110100 : notMap c69_111101001100110100 = true := by kernel_rfl
def k69_111101001100111100 : List (List Nat) := []
theorem l69_111101001100111100 : ltCode 131 c69_111101001100111100 = true := by kernel_rfl
theorem m69_111101001100111100 : notMap c69_111101001100111100 = true := by kernel_rfl
theorem b69 : BodyOk P 131 2 69 Tryd.f69 c69 := ⟨Tryd.func69, by kernel_rfl, by kernel_rfl, by kernel_rfl, by kernel_rfl, by kernel_rfl⟩
def v69_110100 (I : Prims) (rnd : Option Nat) (τ : Tau) (ds : List Deferred) (s : St) (Q : Ex → WK) : Prop :=
 I.wop (.binOp .lss 3 (.const (τ 38)) (.const (τ 37)) 3) 4 s fun v39_0 s0 =>
 wdec v39_0
 (I.wop (.load 23 (.const (τ 1))) 23 s0 fun v43_1 s1 =>
 I.call 73 [v43_1, (τ 38)] s1 fun v45_2 s2 =>
 I.wop (.field 102 (.const v45_2) 0) 3 s2 fun v46_3 s3 =>
 I.wop (.binOp .mul 3 (.const (.int .i64 2)) (.const v46_3) 3) 3 s3 fun v47_4 s4 =>
 I.wop (.build 30 ⟨[(0, (.const (.int .u8 5))), (2, (.const (τ 38))), (3, (.const v47_4))]⟩) 30 s4 fun v48_5 s5 =>
 I.wop (.buildSlice 24 1 ⟨[(0, (.const v48_5))]⟩) 24 s5 fun v49_6 s6 =>
 I.wop (.call ⟨.builtin .append, ⟨[(.const (τ 5)), (.const v49_6)]⟩, #[24, 24]⟩) 24 s6 fun v50_7 s7 =>
 I.wop (.binOp .add 3 (.const (τ 38)) (.const (.int .i64 1)) 3) 3 s7 fun v51_8 s8 =>
 Q .normal (U τ [(38, v51_8), (51, v51_8), (5, v50_7), (50, v50_7), (49, v49_6), (48, v48_5), (47, v47_4), (46, v46_3), (45, v45_2), (44, (τ 38)), (43, v43_1), (42, (τ 38)), (41, (τ 5)), (6, (τ 38)), (40, (τ 38)), (39, (.bool true)), (39, v39_0)]) ds s8)
 (Q (.exit 0) (U τ [(39, (.bool false)), (39, v39_0)]) ds s0)
theorem x69_110100 (I : Prims) (rnd : Option Nat) (τ : Tau) (ds : List Deferred) (s : St) (Q : Ex → WK) : xp I rnd 131 k69_110100 c69_110100 [] τ [] ds s (lift Q) = v69_110100 I rnd τ ds s Q := by kernel_rfl
theorem n69_110100 [Memo] (ro : Nat) (rnd : Option Nat) (τ : Tau) (ds : List Deferred) (s : St) (Q : Ex → WK) : wp P ro 131 rnd c69_110100 τ ds s Q = v69_110100 (prims P ro) rnd τ ds s Q := xp_wp rnd 131 P ro (x69_110100 _ rnd τ ds s Q)
def v69_11110100 (I : Prims) (rnd : Option Nat) (τ : Tau) (ds : List Deferred) (s : St) (Q : Ex → WK) : Prop :=
 I.wop (.binOp .lss 3 (.const (τ 66)) (.const (τ 65)) 3) 4 s fun v67_0 s0 =>
 wdec v67_0
 (I.wop (.load 71 (.const (τ 4))) 71 s0 fun v69_1 s1 =>
 I.loop 131 rnd c69_11110100110010100 (U τ [(70, (.int .i64 0)), (69, v69_1), (7, (τ 66)), (68, (τ 66)), (67, (.bool true)), (67, v67_0)]) ds s1 (fun τ ds s => ((lift Q) .ret) τ [] ds s) [(4, fun τ2 ds2 s2 =>
 I.wop (.load 71 (.const (τ2 4))) 71 s2 fun v82_3 s3 =>
 I.loop 131 rnd c69_111101001100110100 (U τ2 [(83, (.int .i64 0)), (82, v82_3)]) ds2 s3 (fun τ ds s => ((lift Q) .ret) τ [] ds s) [(6, fun τ4 ds4 s4 =>
 I.wop (.load 23 (.const (τ4 1))) 23 s4 fun v99_5 s5 =>
 I.call 54 [v99_5] s5 fun v100_6 s6 =>
 I.loop 131 rnd c69_111101001100111100 (U τ4 [(101, (.int .i64 0)), (100, v100_6), (99, v99_5)]) ds4 s6 (fun τ ds s => ((lift Q) .ret) τ [] ds s) [(8, fun τ7 ds7 s7 =>
 I.wop (.binOp .add 3 (.const (τ7 66)) (.const (.int .i64 1)) 3) 3 s7 fun v119_8 s8 =>
 Q .normal (U τ7 [(66, v119_8), (119, v119_8)]) ds7 s8)])])])
 (Q (.exit 2) (U τ [(67, (.bool false)), (67, v67_0)]) ds s0)
theorem x69_11110100 (I : Prims) (rnd : Option Nat) (τ : Tau) (ds : List Deferred) (s : St) (Q : Ex → WK) : xp I rnd 131 k69_11110100 c69_11110100 [] τ [] ds s (lift Q) = v69_11110100 I rnd τ ds s Q := by kernel_rfl
theorem n69_11110100 [Memo] (ro : Nat) (rnd : Option Nat) (τ : Tau) (ds : List Deferred) (s : St) (Q : Ex → WK) : wp P ro 131 rnd c69_11110100 τ ds s Q = v69_11110100 (prims P ro) rnd τ ds s Q := xp_wp rnd 131 P ro (x69_11110100 _ rnd τ ds s Q)
def v69_11111100 (I : Prims) (rnd : Option Nat) (τ : Tau) (ds : List Deferred) (s : St) (Q : Ex → WK) : Prop :=
 I.wop (.binOp .lss 3 (.const (τ 122)) (.const (τ 121)) 3) 0 s fun v123_0 s0 =>
 wdec v123_0
 (I.wop (.indexAddr 24 (.const (τ 120)) (.const (τ 122))) 0 s0 fun v124_1 s1 =>
 I.wop (.load 30 (.const v124_1)) 30 s1 fun v125_2 s2 =>
 I.wop (.alloc 30) 0 s2 fun v14_3 s3 =>
 I.wop (.store 30 (.const v14_3) (.const v125_2)) 0 s3 fun _ s4 =>
 I.wop (.load 30 (.const v14_3)) 30 s4 fun v127_5 s5 =>
 xcallv I (τ 0) [v127_5] s5 fun v128_6 s6 =>
 I.wop (.unOp .not 4 (.const v128_6)) 4 s6 fun v129_7 s7 =>
 wdec v129_7
 (Q .ret (U τ [(129, (.bool true)), (129, v129_7), (128, v128_6), (127, v127_5), (126, (τ 0)), (14, v14_3), (125, v125_2), (124, v124_1), (123, (.bool true)), (123, v123_0)]) ds s7)
 (I.wop (.binOp .add 3 (.const (τ 122)) (.const (.int .i64 1)) 3) 3 s7 fun v130_8 s8 =>
 Q .normal (U τ [(122, v130_8), (130, v130_8), (129, (.bool false)), (129, v129_7), (128, v128_6), (127, v127_5), (126, (τ 0)), (14, v14_3), (125, v125_2), (124, v124_1), (123, (.bool true)), (123, v123_0)]) ds s8))
 (Q (.exit 10) (U τ [(123, (.bool false)), (123, v123_0)]) ds s0)
theorem x69_11111100 (I : Prims) (rnd : Option Nat) (τ : Tau) (ds : List Deferred) (s : St) (Q : Ex → WK) : xp I rnd 131 k69_11111100 c69_11111100 [] τ [] ds s (lift Q) = v69_11111100 I rnd τ ds s Q := by kernel_rfl
theorem n69_11111100 [Memo] (ro : Nat) (rnd : Option Nat) (τ : Tau) (ds : List Deferred) (s : St) (Q : Ex → WK) : wp P ro 131 rnd c69_11111100 τ ds s Q = v69_11111100 (prims P ro) rnd τ ds s Q := xp_wp rnd 131 P ro (x69_11111100 _ rnd τ ds s Q)
def v69_11110100110010100 (I : Prims) (rnd : Option Nat) (τ : Tau) (ds : List Deferred) (s : St) (Q : Ex → WK) : Prop :=
 I.wop (.binOp .lss 3 (.const (τ 70)) (.const (.int .i64 6)) 3) 0 s fun v71_0 s0 =>
 wdec v71_0
 (I.wop (.index 71 (.const (τ 69)) (.const (τ 70))) 3 s0 fun v73_1 s1 =>
 I.wop (.build 30 ⟨[(0, (.const (.int .u8 8))), (1, (.const (τ 7))), (2, (.const (τ 70))), (3, (.const v73_1))]⟩) 30 s1 fun v78_2 s2 =>
 I.wop (.buildSlice 24 1 ⟨[(0, (.const v78_2))]⟩) 24 s2 fun v79_3 s3 =>
 I.wop (.call ⟨.builtin .append, ⟨[(.const (τ 5)), (.const v79_3)]⟩, #[24, 24]⟩) 24 s3 fun v80_4 s4 =>
 I.wop (.binOp .add 3 (.const (τ 70)) (.const (.int .i64 1)) 3) 3 s4 fun v81_5 s5 =>
 Q .normal (U τ [(70, v81_5), (81, v81_5), (5, v80_4), (80, v80_4), (79, v79_3), (78, v78_2), (77, v73_1), (76, (τ 70)), (75, (τ 7)), (74, (τ 5)), (9, v73_1), (8, (τ 70)), (73, v73_1), (72, (τ 70)), (71, (.bool true)), (71, v71_0)]) ds s5)
 (Q (.exit 4) (U τ [(71, (.bool false)), (71, v71_0)]) ds s0)
theorem x69_11110100110010100 (I : Prims) (rnd : Option Nat) (τ : Tau) (ds : List Deferred) (s : St) (Q : Ex → WK) : xp I rnd 131 k69_11110100110010100 c69_11110100110010100 [] τ [] ds s (lift Q) = v69_11110100110010100 I rnd τ ds s Q := by kernel_rfl
theorem n69_11110100110010100 [Memo] (ro : Nat) (rnd : Option Nat) (τ : Tau) (ds : List Deferred) (s : St) (Q : Ex → WK) : wp P ro 131 rnd c69_11110100110010100 τ ds s Q = v69_11110100110010100 (prims P ro) rnd τ ds s Q := xp_wp rnd 131 P ro (x69_11110100110010100 _ rnd τ ds s Q)
def v69_111101001100110100 (I : Prims) (rnd : Option Nat) (τ : Tau) (ds : List Deferred) (s : St) (Q : Ex → WK) : Prop :=
 I.wop (.binOp .lss 3 (.const (τ 83)) (.const (.int .i64 6)) 3) 0 s fun v84_0 s0 =>
 wdec v84_0
 (I.wop (.index 71 (.const (τ 82)) (.const (τ 83))) 3 s0 fun v86_1 s1 =>
 I.wop (.fieldAddr 102 (.const (τ 3)) 1) 0 s1 fun v91_2 s2 =>
 I.wop (.load 3 (.const v91_2)) 3 s2 fun v92_3 s3 =>
 I.wop (.binOp .mul 3 (.const (.int .i64 2)) (.const v92_3) 3) 3 s3 fun v93_4 s4 =>
 I.call 72 [v86_1, v93_4] s4 fun v94_5 s5 =>
 I.wop (.build 30 ⟨[(0, (.const (.int .u8 9))), (1, (.const (τ 7))), (2, (.const (τ 83))), (3, (.const v94_5))]⟩) 30 s5 fun v95_6 s6 =>
 I.wop (.buildSlice 24 1 ⟨[(0, (.const v95_6))]⟩) 24 s6 fun v96_7 s7 =>
 I.wop (.call ⟨.builtin .append, ⟨[(.const (τ 5)), (.const v96_7)]⟩, #[24, 24]⟩) 24 s7 fun v97_8 s8 =>
 I.wop (.binOp .add 3 (.const (τ 83)) (.const (.int .i64 1)) 3) 3 s8 fun v98_9 s9 =>
 Q .normal (U τ [(83, v98_9), (98, v98_9), (5, v97_8), (97, v97_8), (96, v96_7), (95, v95_6), (94, v94_5), (93, v93_4), (92, v92_3), (91, v91_2), (90, v86_1), (89, (τ 83)), (88, (τ 7)), (87, (τ 5)), (11, v86_1), (10, (τ 83)), (86, v86_1), (85, (τ 83)), (84, (.bool true)), (84, v84_0)]) ds s9)
 (Q (.exit 6) (U τ [(84, (.bool false)), (84, v84_0)]) ds s0)
theorem x69_111101001100110100 (I : Prims) (rnd : Option Nat) (τ : Tau) (ds : List Deferred) (s : St) (Q : Ex → WK) : xp I rnd 131 k69_111101001100110100 c69_111101001100110100 [] τ [] ds s (lift Q) = v69_111101001100110100 I rnd τ ds s Q := by kernel_rfl
theorem n69_111101001100110100 [Memo] (ro : Nat) (rnd : Option Nat) (τ : Tau) (ds : List Deferred) (s : St) (Q : Ex → WK) : wp P ro 131 rnd c69_111101001100110100 τ ds s Q = v69_111101001100110100 (prims P ro) rnd τ ds s Q := xp_wp rnd 131 P ro (x69_111101001100110100 _ rnd τ ds s Q)
def v69_111101001100111100 (I : Prims) (rnd : Option Nat) (τ : Tau) (ds : List Deferred) (s : St) (Q : Ex → WK) : Prop :=
 I.wop (.binOp .lss 3 (.const (τ 101)) (.const (τ 100)) 3) 4 s fun v102_0 s0 =>
 wdec v102_0
 (I.wop (.build 30 ⟨[(0, (.const (.int .u8 10))), (1, (.const (τ 7))), (2, (.const (τ 101))), (3, (.const (.int .i64 8)))]⟩) 30 s0 fun v107_1 s1 =>
 I.wop (.load 23 (.const (τ 1))) 23 s1 fun v110_2 s2 =>
 I.call 73 [v110_2, (τ 101)] s2 fun v112_3 s3 =>
 I.wop (.field 102 (.const v112_3) 1) 3 s3 fun v113_4 s4 =>
 I.wop (.binOp .mul 3 (.const (.int .i64 2)) (.const v113_4) 3) 3 s4 fun v114_5 s5 =>
 I.wop (.build 30 ⟨[(0, (.const (.int .u8 11))), (1, (.const (τ 7))), (2, (.const (τ 101))), (3, (.const v114_5))]⟩) 30 s5 fun v115_6 s6 =>
 I.wop (.buildSlice 24 2 ⟨[(0, (.const v107_1)), (1, (.const v115_6))]⟩) 24 s6 fun v116_7 s7 =>
 I.wop (.call ⟨.builtin .append, ⟨[(.const (τ 5)), (.const v116_7)]⟩, #[24, 24]⟩) 24 s7 fun v117_8 s8 =>
 I.wop (.binOp .add 3 (.const (τ 101)) (.const (.int .i64 1)) 3) 3 s8 fun v118_9 s9 =>
 Q .normal (U τ [(101, v118_9), (118, v118_9), (5, v117_8), (117, v117_8), (116, v116_7), (115, v115_6), (114, v114_5), (113, v113_4), (112, v112_3), (111, (τ 101)), (110, v110_2), (109, (τ 101)), (108, (τ 7)), (107, v107_1), (106, (τ 101)), (105, (τ 7)), (104, (τ 5)), (12, (τ 101)), (103, (τ 101)), (102, (.bool true)), (102, v102_0)]) ds s9)
 (Q (.exit 8) (U τ [(102, (.bool false)), (102, v102_0)]) ds s0)
theorem x69_111101001100111100 (I : Prims) (rnd : Option Nat) (τ : Tau) (ds : List Deferred) (s : St) (Q : Ex → WK) : xp I rnd 131 k69_111101001100111100 c69_111101001100111100 [] τ [] ds s (lift Q) = v69_111101001100111100 I rnd τ ds s Q := by kernel_rfl
theorem n69_111101001100111100 [Memo] (ro : Nat) (rnd : Option Nat) (τ : Tau) (ds : List Deferred) (s : St) (Q : Ex → WK) : wp P ro 131 rnd c69_111101001100111100 τ ds s Q = v69_111101001100111100 (prims P ro) rnd τ ds s Q := xp_wp rnd 131 P ro (x69_111101001100111100 _ rnd τ ds s Q)
def v69 (I : Prims) (a0 a1 : Value) (si : St) (K : Value → St → Prop) : Prop :=
 I.wop (.load 23 (.const a1)) 23 (ent si) fun v15_0 s0 =>
 veq v15_0 v15_0 = true ∧ I.wop (.load 23 (.const a1)) 23 s0 fun v17_1 s1 =>
 veq v17_1 v17_1 = true ∧ I.wop (.alloc 102) 0 s1 fun v3_2 s2 =>
 FreshOk s1 s2 ∧ I.wop (.alloc 71) 0 s2 fun v4_3 s3 =>
 FreshOk s2 s3 ∧ I.call 70 [v15_0] s3 fun v16_4 s4 =>
 Keeps [(5, .blk s2.n), (4, .blk s1.n), (2, .ptr a1)] s3 s4 ∧ I.call 71 [v17_1] s4 fun v18_5 s5 =>
 Keeps [(5, .blk s2.n), (4, .blk s1.n)] s4 s5 ∧ I.wop (.store 102 (.const v3_2) (.const v16_4)) 0 s5 fun _ s6 =>
 s5.n ≤ s6.n ∧ I.wop (.store 71 (.const v4_3) (.const v18_5)) 0 s6 fun _ s7 =>
 s6.n ≤ s7.n ∧ I.wop (.fieldAddr 102 (.const v3_2) 0) 0 s7 fun v19_8 s8 =>
 I.wop (.load 3 (.const v19_8)) 3 s8 fun v20_9 s9 =>
 veq v20_9 v20_9 = true ∧ I.wop (.binOp .mul 3 (.const (.int .i64 2)) (.const v20_9) 3) 3 s9 fun v21_10 s10 =>
 I.wop (.build 30 ⟨[(0, (.const (.int .u8 1))), (3, (.const v21_10))]⟩) 30 s10 fun v22_11 s11 =>
 I.wop (.build 30 ⟨[(0, (.const (.int .u8 2))), (3, (.const (.int .i64 1)))]⟩) 30 s11 fun v23_12 s12 =>
 I.wop (.fieldAddr 23 (.const a1) 7) 0 s12 fun v24_13 s13 =>
 I.wop (.load 3 (.const v24_13)) 3 s13 fun v25_14 s14 =>
 veq v25_14 v25_14 = true ∧ I.wop (.fieldAddr 102 (.const v3_2) 0) 0 s14 fun v26_15 s15 =>
 I.wop (.load 3 (.const v26_15)) 3 s15 fun v27_16 s16 =>
 veq v27_16 v27_16 = true ∧ I.wop (.binOp .mul 3 (.const (.int .i64 2)) (.const v27_16) 3) 3 s16 fun v28_17 s17 =>
 I.wop (.fieldAddr 102 (.const v3_2) 0) 0 s17 fun v31_18 s18 =>
 I.wop (.load 3 (.const v31_18)) 3 s18 fun v32_19 s19 =>
 veq v32_19 v32_19 = true ∧ I.wop (.binOp .mul 3 (.const (.int .i64 2)) (.const v32_19) 3) 3 s19 fun v33_20 s20 =>
 I.wop (.build 30 ⟨[(0, (.const (.int .u8 4))), (3, (.const v33_20))]⟩) 30 s20 fun v34_21 s21 =>
 I.call 72 [v25_14, v28_17] s21 fun v29_22 s22 =>
 Keeps [(13, .ptr v31_18), (1, .ptr v19_8)] s21 s22 ∧ I.wop (.build 30 ⟨[(0, (.const (.int .u8 3))), (3, (.const v29_22))]⟩) 30 s22 fun v30_23 s23 =>
 I.wop (.buildSlice 24 4 ⟨[(0, (.const v22_11)), (1, (.const v23_12)), (2, (.const v30_23)), (3, (.const v34_21))]⟩) 24 s23 fun v35_24 s24 =>
 FreshOk s23 s24 ∧ I.wop (.load 23 (.const a1)) 23 s24 fun v36_25 s25 =>
 I.call 54 [v36_25] s25 fun v37_26 s26 =>
 I.loop 131 none c69_110100 (U undefT [(38, (.int .i64 0)), (37, v37_26), (36, v36_25), (5, v35_24), (35, v35_24), (30, v30_23), (29, v29_22), (34, v34_21), (33, v33_20), (32, v32_19), (31, v31_18), (28, v28_17), (27, v27_16), (26, v26_15), (25, v25_14), (24, v24_13), (23, v23_12), (22, v22_11), (21, v21_10), (20, v20_9), (19, v19_8), (18, v18_5), (16, v16_4), (4, v4_3), (3, v3_2), (17, v17_1), (15, v15_0), (0, a0), (1, a1)]) [] s26 (fun τ ds s => ((xleave I si Tryd.f69.results.toList K) .ret) τ [] ds s) [(0, fun τ27 ds27 s27 =>
 I.wop (.fieldAddr 23 (.const (τ27 1)) 1) 0 s27 fun v53_28 s28 =>
 I.wop (.load 3 (.const v53_28)) 3 s28 fun v54_29 s29 =>
 veq v54_29 v54_29 = true ∧ I.wop (.load 23 (.const (τ27 1))) 23 s29 fun v55_30 s30 =>
 veq v55_30 v55_30 = true ∧ I.wop (.build 30 ⟨[(0, (.const (.int .u8 7))), (3, (.const (.int .i64 1)))]⟩) 30 s30 fun v61_31 s31 =>
 I.call 54 [v55_30] s31 fun v56_32 s32 =>
 Keeps [(2, .ptr v53_28)] s31 s32 ∧ I.wop (.binOp .mul 3 (.const (.int .i64 3)) (.const v56_32) 3) 3 s32 fun v57_33 s33 =>
 I.wop (.binOp .sub 3 (.const v54_29) (.const v57_33) 3) 3 s33 fun v58_34 s34 =>
 I.wop (.binOp .shl 3 (.const (.int .i64 1)) (.const v58_34) 3) 3 s34 fun v59_35 s35 =>
 I.wop (.build 30 ⟨[(0, (.const (.int .u8 6))), (3, (.const v59_35))]⟩) 30 s35 fun v60_36 s36 =>
 I.wop (.buildSlice 24 2 ⟨[(0, (.const v60_36)), (1, (.const v61_31))]⟩) 24 s36 fun v62_37 s37 =>
 FreshOk s36 s37 ∧ I.wop (.call ⟨.builtin .append, ⟨[(.const (τ27 5)), (.const v62_37)]⟩, #[24, 24]⟩) 24 s37 fun v63_38 s38 =>
 s37.n ≤ s38.n ∧ I.wop (.fieldAddr 23 (.const (τ27 1)) 4) 0 s38 fun v64_39 s39 =>
 I.wop (.load 3 (.const v64_39)) 3 s39 fun v65_40 s40 =>
 I.loop 131 none c69_11110100 (U τ27 [(66, (.int .i64 0)), (65, v65_40), (64, v64_39), (5, v63_38), (63, v63_38), (62, v62_37), (60, v60_36), (59, v59_35), (58, v58_34), (57, v57_33), (56, v56_32), (61, v61_31), (55, v55_30), (54, v54_29), (53, v53_28), (52, (τ27 5))]) ds27 s40 (fun τ ds s => ((xleave I si Tryd.f69.results.toList K) .ret) τ [] ds s) [(2, fun τ41 ds41 s41 =>
 I.wop (.call ⟨.builtin .len, ⟨[(.const (τ41 5))]⟩, #[24]⟩) 3 s41 fun v121_42 s42 =>
 I.loop 131 none c69_11111100 (U τ41 [(122, (.int .i64 0)), (121, v121_42), (120, (τ41 5))]) ds41 s42 (fun τ ds s => ((xleave I si Tryd.f69.results.toList K) .ret) τ [] ds s) [(10, fun _ ds43 s43 =>
 xdefers I ds43 s43 fun s44 =>
 I.fin si K (.tuple (.mk [])) s44)]), (4, fun _ _ _ =>
 False), (6, fun _ _ _ =>
 False), (8, fun _ _ _ =>
 False)])]
theorem x69 (I : Prims) (a0 a1 : Value) (si : St) (K : Value → St → Prop) : xbody I 131 k69 Tryd.f69 c69 [a0, a1] si K = v69 I a0 a1 si K := by kernel_rfl
theorem n69 [Memo] (ro : Nat) (a0 a1 : Value) (si : St) (K : Value → St → Prop) : wbody P ro 131 Tryd.f69 c69 [a0, a1] si K = v69 (prims P ro) a0 a1 si K := xbody_eq 131 P ro (x69 _ a0 a1 si K)
theorem r69 (I : Prims) (si : St) (K : Value → St → Prop) (τ : Tau) (ds : List Deferred) (s : St) : xleave I si Tryd.f69.results.toList K .ret τ [] ds s =
 (xdefers I ds s fun s0 =>
 I.fin si K (.tuple (.mk [])) s0) := by kernel_rfl
/- attestor/proof.wide -/
noncomputable def c70 : Code := bodyOf Tryd.f70
def k70 : List (List Nat) := []
theorem b70 : BodyOk P 10 1 70 Tryd.f70 c70 := ⟨Tryd.func70, by kernel_rfl, by kernel_rfl, by kernel_rfl, by kernel_rfl, by kernel_rfl⟩
def v70 (I : Prims) (a0 : Value) (si : St) (K : Value → St → Prop) : Prop :=
 I.wop (.box 23 (.const a0)) 0 (ent si) fun v1_0 s0 =>
 I.wop (.alloc 102) 0 s0 fun v2_1 s1 =>
 I.wop (.load 23 (.const v1_0)) 23 s1 fun v3_2 s2 =>
 I.wop (.fieldAddr 23 (.const v1_0) 1) 0 s2 fun v4_3 s3 =>
 I.wop (.load 3 (.const v4_3)) 3 s3 fun v5_4 s4 =>
 I.wop (.fieldAddr 23 (.const v1_0) 2) 0 s4 fun v6_5 s5 =>
 I.wop (.load 3 (.const v6_5)) 3 s5 fun v7_6 s6 =>
 I.wop (.binOp .add 3 (.const v5_4) (.const v7_6) 3) 3 s6 fun v8_7 s7 =>
 I.call 95 [v3_2, v8_7] s7 fun v9_8 s8 =>
 I.wop (.store 102 (.const v2_1) (.const v9_8)) 0 s8 fun _ s9 =>
 I.wop (.load 102 (.const v2_1)) 102 s9 fun v2_10 _ =>
 I.fin si K v2_10 s9
theorem x70 (I : Prims) (a0 : Value) (si : St) (K : Value → St → Prop) : xbody I 10 k70 Tryd.f70 c70 [a0] si K = v70 I a0 si K := by kernel_rfl
theorem n70 [Memo] (ro : Nat) (a0 : Value) (si : St) (K : Value → St → Prop) : wbody P ro 10 Tryd.f70 c70 [a0] si K = v70 (prims P ro) a0 si K := xbody_eq 10 P ro (x70 _ a0 si K)
/- attestor/proof.columns -/
noncomputable def c71 : Code := bodyOf Tryd.f71
def k71 : List (List Nat) := []
theorem b71 : BodyOk P 16 1 71 Tryd.f71 c71 := ⟨Tryd.func71, by kernel_rfl, by kernel_rfl, by kernel_rfl, by kernel_rfl, by kernel_rfl⟩
def v71 (I : Prims) (a0 : Value) (si : St) (K : Value → St → Prop) : Prop :=
 I.wop (.box 23 (.const a0)) 0 (ent si) fun v1_0 s0 =>
 I.wop (.alloc 71) 0 s0 fun v2_1 s1 =>
 I.wop (.fieldAddr 23 (.const v1_0) 5) 0 s1 fun v3_2 s2 =>
 I.wop (.load 3 (.const v3_2)) 3 s2 fun v4_3 s3 =>
 I.wop (.fieldAddr 23 (.const v1_0) 6) 0 s3 fun v5_4 s4 =>
 I.wop (.load 3 (.const v5_4)) 3 s4 fun v6_5 s5 =>
 I.wop (.fieldAddr 23 (.const v1_0) 7) 0 s5 fun v7_6 s6 =>
 I.wop (.load 3 (.const v7_6)) 3 s6 fun v8_7 s7 =>
 I.wop (.fieldAddr 23 (.const v1_0) 8) 0 s7 fun v9_8 s8 =>
 I.wop (.load 3 (.const v9_8)) 3 s8 fun v10_9 s9 =>
 I.wop (.fieldAddr 23 (.const v1_0) 6) 0 s9 fun v11_10 s10 =>
 I.wop (.load 3 (.const v11_10)) 3 s10 fun v12_11 s11 =>
 I.wop (.fieldAddr 23 (.const v1_0) 7) 0 s11 fun v13_12 s12 =>
 I.wop (.load 3 (.const v13_12)) 3 s12 fun v14_13 s13 =>
 I.wop (.build 71 ⟨[(0, (.const v4_3)), (1, (.const v6_5)), (2, (.const v8_7)), (3, (.const v10_9)), (4, (.const v12_11)), (5, (.const v14_13))]⟩) 71 s13 fun v15_14 s14 =>
 I.wop (.store 71 (.const v2_1) (.const v15_14)) 0 s14 fun _ s15 =>
 I.wop (.load 71 (.const v2_1)) 71 s15 fun v2_16 _ =>
 I.fin si K v2_16 s15
theorem x71 (I : Prims) (a0 : Value) (si : St) (K : Value → St → Prop) : xbody I 16 k71 Tryd.f71 c71 [a0] si K = v71 I a0 si K := by kernel_rfl
theorem n71 [Memo] (ro : Nat) (a0 : Value) (si : St) (K : Value → St → Prop) : wbody P ro 16 Tryd.f71 c71 [a0] si K = v71 (prims P ro) a0 si K := xbody_eq 16 P ro (x71 _ a0 si K)
/- attestor/proof.present -/
noncomputable def c72 : Code := bodyOf Tryd.f72
def k72 : List (List Nat) := []
theorem b72 : BodyOk P 8 2 72 Tryd.f72 c72 := ⟨Tryd.func72, by kernel_rfl, by kernel_rfl, by kernel_rfl, by kernel_rfl, by kernel_rfl⟩
def v72 (I : Prims) (a0 a1 : Value) (si : St) (K : Value → St → Prop) : Prop :=
 I.wop (.binOp .eql 3 (.const a0) (.const (.int .i64 0)) 3) 4 (ent si) fun v6_0 s0 =>
 wdec v6_0
 (I.fin si K (.int .i64 0) s0)
 (I.fin si K a1 s0)
theorem x72 (I : Prims) (a0 a1 : Value) (si : St) (K : Value → St → Prop) : xbody I 8 k72 Tryd.f72 c72 [a0, a1] si K = v72 I a0 a1 si K := by kernel_rfl
theorem n72 [Memo] (ro : Nat) (a0 a1 : Value) (si : St) (K : Value → St → Prop) : wbody P ro 8 Tryd.f72 c72 [a0, a1] si K = v72 (prims P ro) a0 a1 si K := xbody_eq 8 P ro (x72 _ a0 a1 si K)
/- attestor/proof.folded -/
noncomputable def c73 : Code := bodyOf Tryd.f73
def k73 : List (List Nat) := []
theorem b73 : BodyOk P 16 2 73 Tryd.f73 c73 := ⟨Tryd.func73, by kernel_rfl, by kernel_rfl, by kernel_rfl, by kernel_rfl, by kernel_rfl⟩
def v73 (I : Prims) (a0 a1 : Value) (si : St) (K : Value → St → Prop) : Prop :=
 I.wop (.box 23 (.const a0)) 0 (ent si) fun v2_0 s0 =>
 I.wop (.alloc 102) 0 s0 fun v4_1 s1 =>
 I.wop (.load 23 (.const v2_0)) 23 s1 fun v5_2 s2 =>
 I.wop (.fieldAddr 23 (.const v2_0) 1) 0 s2 fun v6_3 s3 =>
 I.wop (.load 3 (.const v6_3)) 3 s3 fun v7_4 s4 =>
 I.wop (.fieldAddr 23 (.const v2_0) 2) 0 s4 fun v8_5 s5 =>
 I.wop (.load 3 (.const v8_5)) 3 s5 fun v9_6 s6 =>
 I.wop (.binOp .add 3 (.const v7_4) (.const v9_6) 3) 3 s6 fun v10_7 s7 =>
 I.wop (.binOp .add 3 (.const a1) (.const (.int .i64 1)) 3) 3 s7 fun v12_8 s8 =>
 I.wop (.binOp .mul 3 (.const (.int .i64 3)) (.const v12_8) 3) 3 s8 fun v13_9 s9 =>
 I.wop (.binOp .sub 3 (.const v10_7) (.const v13_9) 3) 3 s9 fun v14_10 s10 =>
 I.call 95 [v5_2, v14_10] s10 fun v15_11 s11 =>
 I.wop (.store 102 (.const v4_1) (.const v15_11)) 0 s11 fun _ s12 =>
 I.wop (.load 102 (.const v4_1)) 102 s12 fun v4_13 _ =>
 I.fin si K v4_13 s12
theorem x73 (I : Prims) (a0 a1 : Value) (si : St) (K : Value → St → Prop) : xbody I 16 k73 Tryd.f73 c73 [a0, a1] si K = v73 I a0 a1 si K := by kernel_rfl
theorem n73 [Memo] (ro : Nat) (a0 a1 : Value) (si : St) (K : Value → St → Prop) : wbody P ro 16 Tryd.f73 c73 [a0, a1] si K = v73 (prims P ro) a0 a1 si K := xbody_eq 16 P ro (x73 _ a0 a1 si K)
/- attestor/field.of -/
noncomputable def c74 : Code := bodyOf Tryd.f74
def k74 : List (List Nat) := []
theorem b74 : BodyOk P 10 1 74 Tryd.f74 c74 := ⟨Tryd.func74, by kernel_rfl, by kernel_rfl, by kernel_rfl, by kernel_rfl, by kernel_rfl⟩
def v74 (I : Prims) (a0 : Value) (si : St) (K : Value → St → Prop) : Prop :=
 I.wop (.alloc 107) 0 (ent si) fun v2_0 s0 =>
 I.call 40 [a0] s0 fun v4_1 s1 =>
 I.wop (.unOp .not 4 (.const v4_1)) 4 s1 fun v5_2 s2 =>
 wdec v5_2
 (I.wop (.build 107 ⟨[]⟩) 107 s2 fun v6_3 s3 =>
 I.wop (.store 107 (.const v2_0) (.const v6_3)) 0 s3 fun _ s4 =>
 I.wop (.load 107 (.const v2_0)) 107 s4 fun v2_5 _ =>
 I.fin si K v2_5 s4)
 (I.wop (.indexAddr 129 (.const (.pointer (some ⟨0, 0, none⟩))) (.const a0)) 0 s2 fun v8_6 s6 =>
 I.wop (.load 107 (.const v8_6)) 107 s6 fun v9_7 s7 =>
 I.wop (.store 107 (.const v2_0) (.const v9_7)) 0 s7 fun _ s8 =>
 I.wop (.load 107 (.const v2_0)) 107 s8 fun v2_9 _ =>
 I.fin si K v2_9 s8)
theorem x74 (I : Prims) (a0 : Value) (si : St) (K : Value → St → Prop) : xbody I 10 k74 Tryd.f74 c74 [a0] si K = v74 I a0 si K := by kernel_rfl
theorem n74 [Memo] (ro : Nat) (a0 : Value) (si : St) (K : Value → St → Prop) : wbody P ro 10 Tryd.f74 c74 [a0] si K = v74 (prims P ro) a0 si K := xbody_eq 10 P ro (x74 _ a0 si K)
/- attestor/proof.places$1 -/
noncomputable def c75 : Code := bodyOf Tryd.f75
def k75 : List (List Nat) := []
theorem b75 : BodyOk P 9 2 75 Tryd.f75 c75 := ⟨Tryd.func75, by kernel_rfl, by kernel_rfl, by kernel_rfl, by kernel_rfl, by kernel_rfl⟩
def v75 (I : Prims) (a0 a1 : Value) (si : St) (K : Value → St → Prop) : Prop :=
 I.wop (.box 30 (.const a1)) 0 (ent si) fun _ s0 =>
 I.wop (.alloc 82) 0 s0 fun v4_1 s1 =>
 I.wop (.nilCheck (.const a0)) 0 s1 fun v6_2 s2 =>
 I.wop (.fieldAddr 39 (.const v6_2) 0) 0 s2 fun v7_3 s3 =>
 I.wop (.build 82 ⟨[(1, (.const v7_3))]⟩) 82 s3 fun v8_4 s4 =>
 I.wop (.store 82 (.const v4_1) (.const v8_4)) 0 s4 fun _ s5 =>
 I.wop (.load 82 (.const v4_1)) 82 s5 fun v4_6 _ =>
 I.fin si K v4_6 s5
theorem x75 (I : Prims) (a0 a1 : Value) (si : St) (K : Value → St → Prop) : xbody I 9 k75 Tryd.f75 c75 [a0, a1] si K = v75 I a0 a1 si K := by kernel_rfl
theorem n75 [Memo] (ro : Nat) (a0 a1 : Value) (si : St) (K : Value → St → Prop) : wbody P ro 9 Tryd.f75 c75 [a0, a1] si K = v75 (prims P ro) a0 a1 si K := xbody_eq 9 P ro (x75 _ a0 a1 si K)
/- attestor/proof.places$2 -/
noncomputable def c76 : Code := bodyOf Tryd.f76
def k76 : List (List Nat) := []
theorem b76 : BodyOk P 9 2 76 Tryd.f76 c76 := ⟨Tryd.func76, by kernel_rfl, by kernel_rfl, by kernel_rfl, by kernel_rfl, by kernel_rfl⟩
def v76 (I : Prims) (a0 a1 : Value) (si : St) (K : Value → St → Prop) : Prop :=
 I.wop (.box 30 (.const a1)) 0 (ent si) fun _ s0 =>
 I.wop (.alloc 82) 0 s0 fun v4_1 s1 =>
 I.wop (.nilCheck (.const a0)) 0 s1 fun v6_2 s2 =>
 I.wop (.fieldAddr 39 (.const v6_2) 3) 0 s2 fun v7_3 s3 =>
 I.wop (.build 82 ⟨[(2, (.const v7_3))]⟩) 82 s3 fun v8_4 s4 =>
 I.wop (.store 82 (.const v4_1) (.const v8_4)) 0 s4 fun _ s5 =>
 I.wop (.load 82 (.const v4_1)) 82 s5 fun v4_6 _ =>
 I.fin si K v4_6 s5
theorem x76 (I : Prims) (a0 a1 : Value) (si : St) (K : Value → St → Prop) : xbody I 9 k76 Tryd.f76 c76 [a0, a1] si K = v76 I a0 a1 si K := by kernel_rfl
theorem n76 [Memo] (ro : Nat) (a0 a1 : Value) (si : St) (K : Value → St → Prop) : wbody P ro 9 Tryd.f76 c76 [a0, a1] si K = v76 (prims P ro) a0 a1 si K := xbody_eq 9 P ro (x76 _ a0 a1 si K)
/- attestor/proof.places$3 -/
noncomputable def c77 : Code := bodyOf Tryd.f77
def k77 : List (List Nat) := []
theorem b77 : BodyOk P 9 2 77 Tryd.f77 c77 := ⟨Tryd.func77, by kernel_rfl, by kernel_rfl, by kernel_rfl, by kernel_rfl, by kernel_rfl⟩
def v77 (I : Prims) (a0 a1 : Value) (si : St) (K : Value → St → Prop) : Prop :=
 I.wop (.box 30 (.const a1)) 0 (ent si) fun _ s0 =>
 I.wop (.alloc 82) 0 s0 fun v4_1 s1 =>
 I.wop (.nilCheck (.const a0)) 0 s1 fun v6_2 s2 =>
 I.wop (.fieldAddr 39 (.const v6_2) 1) 0 s2 fun v7_3 s3 =>
 I.wop (.build 82 ⟨[(1, (.const v7_3))]⟩) 82 s3 fun v8_4 s4 =>
 I.wop (.store 82 (.const v4_1) (.const v8_4)) 0 s4 fun _ s5 =>
 I.wop (.load 82 (.const v4_1)) 82 s5 fun v4_6 _ =>
 I.fin si K v4_6 s5
theorem x77 (I : Prims) (a0 a1 : Value) (si : St) (K : Value → St → Prop) : xbody I 9 k77 Tryd.f77 c77 [a0, a1] si K = v77 I a0 a1 si K := by kernel_rfl
theorem n77 [Memo] (ro : Nat) (a0 a1 : Value) (si : St) (K : Value → St → Prop) : wbody P ro 9 Tryd.f77 c77 [a0, a1] si K = v77 (prims P ro) a0 a1 si K := xbody_eq 9 P ro (x77 _ a0 a1 si K)
/- attestor/proof.places$4 -/
noncomputable def c78 : Code := bodyOf Tryd.f78
def k78 : List (List Nat) := []
theorem b78 : BodyOk P 9 2 78 Tryd.f78 c78 := ⟨Tryd.func78, by kernel_rfl, by kernel_rfl, by kernel_rfl, by kernel_rfl, by kernel_rfl⟩
def v78 (I : Prims) (a0 a1 : Value) (si : St) (K : Value → St → Prop) : Prop :=
 I.wop (.box 30 (.const a1)) 0 (ent si) fun _ s0 =>
 I.wop (.alloc 82) 0 s0 fun v4_1 s1 =>
 I.wop (.nilCheck (.const a0)) 0 s1 fun v6_2 s2 =>
 I.wop (.fieldAddr 39 (.const v6_2) 2) 0 s2 fun v7_3 s3 =>
 I.wop (.build 82 ⟨[(1, (.const v7_3))]⟩) 82 s3 fun v8_4 s4 =>
 I.wop (.store 82 (.const v4_1) (.const v8_4)) 0 s4 fun _ s5 =>
 I.wop (.load 82 (.const v4_1)) 82 s5 fun v4_6 _ =>
 I.fin si K v4_6 s5
theorem x78 (I : Prims) (a0 a1 : Value) (si : St) (K : Value → St → Prop) : xbody I 9 k78 Tryd.f78 c78 [a0, a1] si K = v78 I a0 a1 si K := by kernel_rfl
theorem n78 [Memo] (ro : Nat) (a0 a1 : Value) (si : St) (K : Value → St → Prop) : wbody P ro 9 Tryd.f78 c78 [a0, a1] si K = v78 (prims P ro) a0 a1 si K := xbody_eq 9 P ro (x78 _ a0 a1 si K)
/- attestor/proof.places$5 -/
noncomputable def c79 : Code := bodyOf Tryd.f79
def k79 : List (List Nat) := []
theorem b79 : BodyOk P 13 2 79 Tryd.f79 c79 := ⟨Tryd.func79, by kernel_rfl, by kernel_rfl, by kernel_rfl, by kernel_rfl, by kernel_rfl⟩
def v79 (I : Prims) (a0 a1 : Value) (si : St) (K : Value → St → Prop) : Prop :=
 I.wop (.box 30 (.const a1)) 0 (ent si) fun v3_0 s0 =>
 I.wop (.alloc 82) 0 s0 fun v4_1 s1 =>
 I.wop (.nilCheck (.const a0)) 0 s1 fun v6_2 s2 =>
 I.wop (.fieldAddr 39 (.const v6_2) 4) 0 s2 fun v7_3 s3 =>
 I.wop (.load 35 (.const v7_3)) 35 s3 fun v8_4 s4 =>
 veq v8_4 v8_4 = true ∧ I.wop (.fieldAddr 30 (.const v3_0) 2) 0 s4 fun v9_5 s5 =>
 I.wop (.load 3 (.const v9_5)) 3 s5 fun v10_6 s6 =>
 veq v10_6 v10_6 = true ∧ I.wop (.indexAddr 35 (.const v8_4) (.const v10_6)) 0 s6 fun v11_7 s7 =>
 I.wop (.build 82 ⟨[(1, (.const v11_7))]⟩) 82 s7 fun v12_8 s8 =>
 I.wop (.store 82 (.const v4_1) (.const v12_8)) 0 s8 fun _ s9 =>
 I.wop (.load 82 (.const v4_1)) 82 s9 fun v4_10 _ =>
 I.fin si K v4_10 s9
theorem x79 (I : Prims) (a0 a1 : Value) (si : St) (K : Value → St → Prop) : xbody I 13 k79 Tryd.f79 c79 [a0, a1] si K = v79 I a0 a1 si K := by kernel_rfl
theorem n79 [Memo] (ro : Nat) (a0 a1 : Value) (si : St) (K : Value → St → Prop) : wbody P ro 13 Tryd.f79 c79 [a0, a1] si K = v79 (prims P ro) a0 a1 si K := xbody_eq 13 P ro (x79 _ a0 a1 si K)
/- attestor/proof.places$6 -/
noncomputable def c80 : Code := bodyOf Tryd.f80
def k80 : List (List Nat) := []
theorem b80 : BodyOk P 9 2 80 Tryd.f80 c80 := ⟨Tryd.func80, by kernel_rfl, by kernel_rfl, by kernel_rfl, by kernel_rfl, by kernel_rfl⟩
def v80 (I : Prims) (a0 a1 : Value) (si : St) (K : Value → St → Prop) : Prop :=
 I.wop (.box 30 (.const a1)) 0 (ent si) fun _ s0 =>
 I.wop (.alloc 82) 0 s0 fun v4_1 s1 =>
 I.wop (.nilCheck (.const a0)) 0 s1 fun v6_2 s2 =>
 I.wop (.fieldAddr 39 (.const v6_2) 5) 0 s2 fun v7_3 s3 =>
 I.wop (.build 82 ⟨[(0, (.const v7_3))]⟩) 82 s3 fun v8_4 s4 =>
 I.wop (.store 82 (.const v4_1) (.const v8_4)) 0 s4 fun _ s5 =>
 I.wop (.load 82 (.const v4_1)) 82 s5 fun v4_6 _ =>
 I.fin si K v4_6 s5
theorem x80 (I : Prims) (a0 a1 : Value) (si : St) (K : Value → St → Prop) : xbody I 9 k80 Tryd.f80 c80 [a0, a1] si K = v80 I a0 a1 si K := by kernel_rfl
theorem n80 [Memo] (ro : Nat) (a0 a1 : Value) (si : St) (K : Value → St → Prop) : wbody P ro 9 Tryd.f80 c80 [a0, a1] si K = v80 (prims P ro) a0 a1 si K := xbody_eq 9 P ro (x80 _ a0 a1 si K)
end Go.VE
