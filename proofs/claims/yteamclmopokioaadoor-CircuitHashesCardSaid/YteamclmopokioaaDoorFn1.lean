/-
  What the functions' code does, operation by operation.
-/
import Derived.Test.YteamclmopokioaaDoorTy
set_option linter.unusedSimpArgs false
set_option linter.unusedVariables false
namespace Go.VE
open Go Go.Proofs
/- attestor/attestorlaw30.CircuitHashes -/
noncomputable def c6 : Code := bodyOf Tryd.f6
noncomputable def c6_1110100 : Code := subCode [1, 1, 1, 0, 1, 0, 0] c6
noncomputable def c6_111110100 : Code := subCode [1, 1, 1, 1, 1, 0, 1, 0, 0] c6
def k6 : List (List Nat) := []
def k6_1110100 : List (List Nat) := []
theorem l6_1110100 : ltCode 235 c6_1110100 = true := by kernel_rfl
theorem m6_1110100 : notMap c6_1110100 = true := by kernel_rfl
def k6_111110100 : List (List Nat) := []
theorem l6_111110100 : ltCode 235 c6_111110100 = true := by kernel_rfl
theorem m6_111110100 : notMap c6_111110100 = true := by kernel_rfl
theorem b6 : BodyOk P 235 4 6 Tryd.f6 c6 := ⟨Tryd.func6, by kernel_rfl, by kernel_rfl, by kernel_rfl, by kernel_rfl, by kernel_rfl⟩
def v6_1110100 (I : Prims) (rnd : Option Nat) (τ : Tau) (ds : List Deferred) (s : St) (Q : Ex → WK) : Prop :=
 I.wop (.binOp .lss 3 (.const (τ 10)) (.const (.int .i64 4)) 3) 4 s fun v33_0 s0 =>
 wdec v33_0
 (I.wop (.indexAddr 58 (.const (τ 6)) (.const (τ 10))) 0 s0 fun v38_1 s1 =>
 I.wop (.load 24 (.const v38_1)) 24 s1 fun v39_2 s2 =>
 veq v39_2 v39_2 = true ∧ I.call 14 [(τ 0)] s2 fun v41_3 s3 =>
 Keeps [(3, .ptr v38_1)] s2 s3 ∧ I.wop (.binOp .rem 24 (.const v39_2) (.const v41_3) 24) 24 s3 fun v42_4 s4 =>
 I.wop (.buildSlice 23 1 ⟨[(0, (.const v42_4))]⟩) 23 s4 fun v43_5 s5 =>
 FreshOk s4 s5 ∧ I.wop (.call ⟨.builtin .append, ⟨[(.const (τ 9)), (.const v43_5)]⟩, #[23, 23]⟩) 23 s5 fun v44_6 s6 =>
 s5.n ≤ s6.n ∧ I.wop (.binOp .add 3 (.const (τ 10)) (.const (.int .i64 1)) 3) 3 s6 fun v35_7 s7 =>
 Q .normal (U τ [(10, v35_7), (35, v35_7), (34, (τ 10)), (9, v44_6), (44, v44_6), (43, v43_5), (42, v42_4), (41, v41_3), (40, (τ 0)), (39, v39_2), (38, v38_1), (37, (τ 10)), (36, (τ 9)), (33, (.bool true)), (33, v33_0), (32, (τ 10))]) ds s7)
 (Q (.exit 0) (U τ [(33, (.bool false)), (33, v33_0), (32, (τ 10))]) ds s0)
theorem x6_1110100 (I : Prims) (rnd : Option Nat) (τ : Tau) (ds : List Deferred) (s : St) (Q : Ex → WK) : xp I rnd 235 k6_1110100 c6_1110100 [] τ [] ds s (lift Q) = v6_1110100 I rnd τ ds s Q := by kernel_rfl
theorem n6_1110100 [Memo] (ro : Nat) (rnd : Option Nat) (τ : Tau) (ds : List Deferred) (s : St) (Q : Ex → WK) : wp P ro 235 rnd c6_1110100 τ ds s Q = v6_1110100 (prims P ro) rnd τ ds s Q := xp_wp rnd 235 P ro (x6_1110100 _ rnd τ ds s Q)
def v6_111110100 (I : Prims) (rnd : Option Nat) (τ : Tau) (ds : List Deferred) (s : St) (Q : Ex → WK) : Prop :=
 I.wop (.call ⟨.builtin .len, ⟨[(.const (τ 1))]⟩, #[23]⟩) 3 s fun v54_0 s0 =>
 I.wop (.binOp .lss 3 (.const (τ 11)) (.const v54_0) 3) 4 s0 fun v55_1 s1 =>
 wdec v55_1
 (I.wop (.indexAddr 23 (.const (τ 1)) (.const (τ 11))) 0 s1 fun v61_2 s2 =>
 I.wop (.load 24 (.const v61_2)) 24 s2 fun v62_3 s3 =>
 veq v62_3 v62_3 = true ∧ I.call 14 [(τ 0)] s3 fun v64_4 s4 =>
 Keeps [(4, .ptr v61_2)] s3 s4 ∧ I.wop (.binOp .rem 24 (.const v62_3) (.const v64_4) 24) 24 s4 fun v65_5 s5 =>
 I.wop (.buildSlice 23 1 ⟨[(0, (.const v65_5))]⟩) 23 s5 fun v66_6 s6 =>
 FreshOk s5 s6 ∧ I.wop (.call ⟨.builtin .append, ⟨[(.const (τ 9)), (.const v66_6)]⟩, #[23, 23]⟩) 23 s6 fun v67_7 s7 =>
 s6.n ≤ s7.n ∧ I.wop (.binOp .add 3 (.const (τ 11)) (.const (.int .i64 1)) 3) 3 s7 fun v57_8 s8 =>
 Q .normal (U τ [(11, v57_8), (57, v57_8), (56, (τ 11)), (9, v67_7), (67, v67_7), (66, v66_6), (65, v65_5), (64, v64_4), (63, (τ 0)), (62, v62_3), (61, v61_2), (60, (τ 11)), (59, (τ 1)), (58, (τ 9)), (55, (.bool true)), (55, v55_1), (54, v54_0), (53, (τ 1)), (52, (τ 11))]) ds s8)
 (Q (.exit 2) (U τ [(55, (.bool false)), (55, v55_1), (54, v54_0), (53, (τ 1)), (52, (τ 11))]) ds s1)
theorem x6_111110100 (I : Prims) (rnd : Option Nat) (τ : Tau) (ds : List Deferred) (s : St) (Q : Ex → WK) : xp I rnd 235 k6_111110100 c6_111110100 [] τ [] ds s (lift Q) = v6_111110100 I rnd τ ds s Q := by kernel_rfl
theorem n6_111110100 [Memo] (ro : Nat) (rnd : Option Nat) (τ : Tau) (ds : List Deferred) (s : St) (Q : Ex → WK) : wp P ro 235 rnd c6_111110100 τ ds s Q = v6_111110100 (prims P ro) rnd τ ds s Q := xp_wp rnd 235 P ro (x6_111110100 _ rnd τ ds s Q)
def v6 (I : Prims) (a0 a1 a2 a3 : Value) (si : St) (K : Value → St → Prop) : Prop :=
 I.wop (.box 58 (.const a2)) 0 (ent si) fun v6_0 s0 =>
 I.call 16 [a0] s0 fun v24_1 s1 =>
 I.wop (.unOp .not 4 (.const v24_1)) 4 s1 fun v25_2 s2 =>
 wdec v25_2
 (I.call 15 [] s2 fun v31_3 s3 =>
 I.fin si K v31_3 s3)
 (I.wop (.call ⟨.builtin .len, ⟨[(.const a1)]⟩, #[23]⟩) 3 s2 fun v28_4 s4 =>
 I.wop (.binOp .gtr 3 (.const v28_4) (.const (.int .i64 8)) 3) 4 s4 fun v29_5 s5 =>
 wdec v29_5
 (I.call 15 [] s5 fun v31_6 s6 =>
 I.fin si K v31_6 s6)
 (I.loop 235 none c6_1110100 (U undefT [(10, (.int .i64 0)), (9, (.slice none 0 0)), (30, (.bool false)), (30, v29_5), (26, (.bool false)), (29, v29_5), (26, (.bool false)), (28, v28_4), (26, (.bool false)), (27, a1), (26, (.bool false)), (26, v25_2), (25, v25_2), (24, v24_1), (23, a0), (8, (.bool false)), (6, v6_0), (0, a0), (1, a1), (2, a2), (3, a3)]) [] s5 (fun τ ds s => ((xleave I si Tryd.f6.results.toList K) .ret) τ [] ds s) [(0, fun τ7 ds7 s7 =>
 I.call 14 [(τ7 0)] s7 fun v48_8 s8 =>
 I.wop (.binOp .rem 24 (.const (τ7 3)) (.const v48_8) 24) 24 s8 fun v49_9 s9 =>
 I.wop (.buildSlice 23 1 ⟨[(0, (.const v49_9))]⟩) 23 s9 fun v50_10 s10 =>
 I.wop (.call ⟨.builtin .append, ⟨[(.const (τ7 9)), (.const v50_10)]⟩, #[23, 23]⟩) 23 s10 fun v51_11 s11 =>
 I.loop 235 none c6_111110100 (U τ7 [(11, (.int .i64 0)), (9, v51_11), (51, v51_11), (50, v50_10), (49, v49_9), (48, v48_8), (47, (τ7 0)), (46, (τ7 3)), (45, (τ7 9))]) ds7 s11 (fun τ ds s => ((xleave I si Tryd.f6.results.toList K) .ret) τ [] ds s) [(2, fun τ12 ds12 s12 =>
 I.wop (.call ⟨.builtin .len, ⟨[(.const (τ12 9))]⟩, #[23]⟩) 3 s12 fun v71_13 s13 =>
 I.call 9 [(τ12 0), (.int .i64 0), v71_13] s13 fun v72_14 s14 =>
 I.wop (.extract (.const v72_14) 0) 25 s14 fun v73_15 s15 =>
 I.wop (.extract (.const v72_14) 1) 26 s15 fun v74_16 s16 =>
 I.wop (.binOp .neq 26 (.const v74_16) (.const (.int .i64 0)) 26) 4 s16 fun v76_17 s17 =>
 wdec v76_17
 (xdefers I ds12 s17 fun s18 =>
 I.fin si K (.bool false) s18)
 (I.wop (.call ⟨.builtin .len, ⟨[(.const (τ12 1))]⟩, #[23]⟩) 3 s17 fun v79_19 s19 =>
 I.call 11 [(.int .i64 5), v79_19] s19 fun v80_20 s20 =>
 I.call 24 [v73_15, v80_20] s20 fun v81_21 s21 =>
 I.wop (.alloc 47) 0 s21 fun v14_22 s22 =>
 I.wop (.store 47 (.const v14_22) (.const v81_21)) 0 s22 fun _ s23 =>
 I.wop (.build 53 ⟨[(0, (.const (.int .i64 0))), (1, (.const (.int .i64 1))), (2, (.const (.int .i64 2))), (3, (.const (.int .i64 3)))]⟩) 53 s23 fun v83_24 s24 =>
 I.call 25 [v73_15, v83_24, (.int .i64 4)] s24 fun v84_25 s25 =>
 I.wop (.alloc 53) 0 s25 fun v15_26 s26 =>
 I.wop (.store 53 (.const v15_26) (.const v84_25)) 0 s26 fun _ s27 =>
 I.wop (.load 53 (.const v15_26)) 53 s27 fun v87_28 s28 =>
 I.call 26 [v73_15, v87_28] s28 fun v88_29 s29 =>
 I.wop (.extract (.const v88_29) 0) 53 s29 fun v89_30 s30 =>
 I.wop (.extract (.const v88_29) 1) 3 s30 fun v90_31 s31 =>
 I.wop (.alloc 53) 0 s31 fun v16_32 s32 =>
 I.wop (.store 53 (.const v16_32) (.const v89_30)) 0 s32 fun _ s33 =>
 I.call 18 [v73_15, (τ12 9)] s33 fun v94_34 s34 =>
 I.wop (.extract (.const v94_34) 0) 23 s34 fun v95_35 s35 =>
 I.wop (.extract (.const v94_34) 1) 4 s35 fun v96_36 s36 =>
 I.wop (.unOp .not 4 (.const v96_36)) 4 s36 fun v98_37 s37 =>
 wdec v98_37
 (xdefers I ds12 s37 fun s38 =>
 I.fin si K (.bool false) s38)
 (I.wop (.indexAddr 47 (.const v14_22) (.const (.int .i64 0))) 0 s37 fun v100_39 s39 =>
 I.wop (.load 3 (.const v100_39)) 3 s39 fun v101_40 s40 =>
 I.wop (.binOp .lss 3 (.const v101_40) (.const (.int .i64 0)) 3) 4 s40 fun v102_41 s41 =>
 wdec v102_41
 (xdefers I ds12 s41 fun s42 =>
 I.fin si K (.bool false) s42)
 (I.wop (.indexAddr 47 (.const v14_22) (.const (.int .i64 1))) 0 s41 fun v105_43 s43 =>
 I.wop (.load 3 (.const v105_43)) 3 s43 fun v106_44 s44 =>
 I.wop (.binOp .lss 3 (.const v106_44) (.const (.int .i64 0)) 3) 4 s44 fun v107_45 s45 =>
 wdec v107_45
 (xdefers I ds12 s45 fun s46 =>
 I.fin si K (.bool false) s46)
 (I.wop (.indexAddr 53 (.const v16_32) (.const (.int .i64 3))) 0 s45 fun v110_47 s47 =>
 I.wop (.load 3 (.const v110_47)) 3 s47 fun v111_48 s48 =>
 I.wop (.binOp .lss 3 (.const v111_48) (.const (.int .i64 0)) 3) 4 s48 fun v112_49 s49 =>
 wdec v112_49
 (xdefers I ds12 s49 fun s50 =>
 I.fin si K (.bool false) s50)
 (I.wop (.indexAddr 53 (.const v16_32) (.const (.int .i64 0))) 0 s49 fun v116_51 s51 =>
 I.wop (.load 3 (.const v116_51)) 3 s51 fun v117_52 s52 =>
 I.wop (.binOp .neq 3 (.const v90_31) (.const v117_52) 3) 4 s52 fun v118_53 s53 =>
 wdec v118_53
 (xdefers I ds12 s53 fun s54 =>
 I.fin si K (.bool false) s54)
 (I.wop (.indexAddr 47 (.const v14_22) (.const (.int .i64 0))) 0 s53 fun v121_55 s55 =>
 I.wop (.load 3 (.const v121_55)) 3 s55 fun v122_56 s56 =>
 I.wop (.indexAddr 47 (.const v14_22) (.const (.int .i64 1))) 0 s56 fun v123_57 s57 =>
 I.wop (.load 3 (.const v123_57)) 3 s57 fun v124_58 s58 =>
 I.wop (.indexAddr 53 (.const v16_32) (.const (.int .i64 0))) 0 s58 fun v125_59 s59 =>
 I.wop (.load 3 (.const v125_59)) 3 s59 fun v126_60 s60 =>
 I.wop (.indexAddr 53 (.const v16_32) (.const (.int .i64 1))) 0 s60 fun v127_61 s61 =>
 I.wop (.load 3 (.const v127_61)) 3 s61 fun v128_62 s62 =>
 I.wop (.indexAddr 53 (.const v16_32) (.const (.int .i64 2))) 0 s62 fun v129_63 s63 =>
 I.wop (.load 3 (.const v129_63)) 3 s63 fun v130_64 s64 =>
 I.wop (.indexAddr 53 (.const v16_32) (.const (.int .i64 3))) 0 s64 fun v131_65 s65 =>
 I.wop (.load 3 (.const v131_65)) 3 s65 fun v132_66 s66 =>
 I.wop (.call ⟨.builtin .max, ⟨[(.const v122_56), (.const v124_58), (.const v126_60), (.const v128_62), (.const v130_64), (.const v132_66)]⟩, #[3, 3, 3, 3, 3, 3]⟩) 3 s66 fun v133_67 s67 =>
 I.wop (.call ⟨.builtin .len, ⟨[(.const v95_35)]⟩, #[23]⟩) 3 s67 fun v135_68 s68 =>
 I.wop (.binOp .geq 3 (.const v133_67) (.const v135_68) 3) 4 s68 fun v136_69 s69 =>
 wdec v136_69
 (xdefers I ds12 s69 fun s70 =>
 I.fin si K (.bool false) s70)
 (I.wop (.indexAddr 53 (.const v16_32) (.const (.int .i64 0))) 0 s69 fun v139_71 s71 =>
 I.wop (.load 3 (.const v139_71)) 3 s71 fun v140_72 s72 =>
 I.wop (.indexAddr 53 (.const v16_32) (.const (.int .i64 1))) 0 s72 fun v141_73 s73 =>
 I.wop (.load 3 (.const v141_73)) 3 s73 fun v142_74 s74 =>
 I.wop (.indexAddr 53 (.const v16_32) (.const (.int .i64 2))) 0 s74 fun v143_75 s75 =>
 I.wop (.load 3 (.const v143_75)) 3 s75 fun v144_76 s76 =>
 I.wop (.call ⟨.builtin .min, ⟨[(.const v140_72), (.const v142_74), (.const v144_76)]⟩, #[3, 3, 3]⟩) 3 s76 fun v145_77 s77 =>
 I.wop (.binOp .lss 3 (.const v145_77) (.const (.int .i64 0)) 3) 4 s77 fun v146_78 s78 =>
 wdec v146_78
 (xdefers I ds12 s78 fun s79 =>
 I.fin si K (.bool false) s79)
 (I.call 27 [(τ12 0), (τ12 1)] s78 fun v150_80 s80 =>
 I.wop (.alloc 43) 0 s80 fun v20_81 s81 =>
 I.wop (.store 43 (.const v20_81) (.const v150_80)) 0 s81 fun _ s82 =>
 I.wop (.load 58 (.const (τ12 6))) 58 s82 fun v152_83 s83 =>
 I.wop (.build 65 ⟨[(0, (.const (τ12 0))), (1, (.const v152_83))]⟩) 65 s83 fun v153_84 s84 =>
 I.wop (.alloc 65) 0 s84 fun v21_85 s85 =>
 I.wop (.store 65 (.const v21_85) (.const v153_84)) 0 s85 fun _ s86 =>
 I.wop (.load 65 (.const v21_85)) 65 s86 fun v155_87 s87 =>
 I.wop (.buildSlice 23 1 ⟨[(0, (.const (τ12 3)))]⟩) 23 s87 fun v157_88 s88 =>
 I.call 29 [v155_87, v157_88] s88 fun v158_89 s89 =>
 I.call 28 [v158_89] s89 fun v159_90 s90 =>
 I.wop (.extract (.const v159_90) 0) 65 s90 fun v160_91 s91 =>
 I.wop (.extract (.const v159_90) 1) 24 s91 fun v161_92 s92 =>
 I.wop (.store 65 (.const v21_85) (.const v160_91)) 0 s92 fun _ s93 =>
 I.wop (.indexAddr 47 (.const v14_22) (.const (.int .i64 0))) 0 s93 fun v163_94 s94 =>
 I.wop (.load 3 (.const v163_94)) 3 s94 fun v164_95 s95 =>
 veq v164_95 v164_95 = true ∧ I.wop (.indexAddr 23 (.const v95_35) (.const v164_95)) 0 s95 fun v165_96 s96 =>
 I.wop (.load 24 (.const v165_96)) 24 s96 fun v166_97 s97 =>
 veq v166_97 v166_97 = true ∧ I.wop (.indexAddr 43 (.const v20_81) (.const (.int .i64 0))) 0 s97 fun v167_98 s98 =>
 I.wop (.load 24 (.const v167_98)) 24 s98 fun v168_99 s99 =>
 veq v168_99 v168_99 = true ∧ I.wop (.binOp .eql 24 (.const v166_97) (.const v168_99) 24) 4 s99 fun v169_100 s100 =>
 wdec v169_100
 (I.wop (.indexAddr 47 (.const v14_22) (.const (.int .i64 1))) 0 s100 fun v172_101 s101 =>
 I.wop (.load 3 (.const v172_101)) 3 s101 fun v173_102 s102 =>
 veq v173_102 v173_102 = true ∧ I.wop (.indexAddr 23 (.const v95_35) (.const v173_102)) 0 s102 fun v174_103 s103 =>
 I.wop (.load 24 (.const v174_103)) 24 s103 fun v175_104 s104 =>
 veq v175_104 v175_104 = true ∧ I.wop (.indexAddr 43 (.const v20_81) (.const (.int .i64 1))) 0 s104 fun v176_105 s105 =>
 I.wop (.load 24 (.const v176_105)) 24 s105 fun v177_106 s106 =>
 veq v177_106 v177_106 = true ∧ I.wop (.binOp .eql 24 (.const v175_104) (.const v177_106) 24) 4 s106 fun v178_107 s107 =>
 wdec v178_107
 (I.wop (.indexAddr 23 (.const v95_35) (.const v90_31)) 0 s107 fun v183_108 s108 =>
 I.wop (.load 24 (.const v183_108)) 24 s108 fun v184_109 s109 =>
 veq v184_109 v184_109 = true ∧ I.wop (.binOp .eql 24 (.const v184_109) (.const v161_92) 24) 4 s109 fun v186_110 s110 =>
 wdec v186_110
 (I.wop (.indexAddr 53 (.const v16_32) (.const (.int .i64 0))) 0 s110 fun v190_111 s111 =>
 I.wop (.load 3 (.const v190_111)) 3 s111 fun v191_112 s112 =>
 veq v191_112 v191_112 = true ∧ I.wop (.indexAddr 23 (.const v95_35) (.const v191_112)) 0 s112 fun v192_113 s113 =>
 I.wop (.load 24 (.const v192_113)) 24 s113 fun v193_114 s114 =>
 veq v193_114 v193_114 = true ∧ I.wop (.fieldAddr 65 (.const v21_85) 1) 0 s114 fun v194_115 s115 =>
 I.wop (.indexAddr 58 (.const v194_115) (.const (.int .i64 0))) 0 s115 fun v195_116 s116 =>
 I.wop (.load 24 (.const v195_116)) 24 s116 fun v196_117 s117 =>
 veq v196_117 v196_117 = true ∧ I.wop (.binOp .eql 24 (.const v193_114) (.const v196_117) 24) 4 s117 fun v197_118 s118 =>
 wdec v197_118
 (I.wop (.indexAddr 53 (.const v16_32) (.const (.int .i64 1))) 0 s118 fun v201_119 s119 =>
 I.wop (.load 3 (.const v201_119)) 3 s119 fun v202_120 s120 =>
 veq v202_120 v202_120 = true ∧ I.wop (.indexAddr 23 (.const v95_35) (.const v202_120)) 0 s120 fun v203_121 s121 =>
 I.wop (.load 24 (.const v203_121)) 24 s121 fun v204_122 s122 =>
 veq v204_122 v204_122 = true ∧ I.wop (.fieldAddr 65 (.const v21_85) 1) 0 s122 fun v205_123 s123 =>
 I.wop (.indexAddr 58 (.const v205_123) (.const (.int .i64 1))) 0 s123 fun v206_124 s124 =>
 I.wop (.load 24 (.const v206_124)) 24 s124 fun v207_125 s125 =>
 veq v207_125 v207_125 = true ∧ I.wop (.binOp .eql 24 (.const v204_122) (.const v207_125) 24) 4 s125 fun v208_126 s126 =>
 wdec v208_126
 (I.wop (.indexAddr 53 (.const v16_32) (.const (.int .i64 2))) 0 s126 fun v212_127 s127 =>
 I.wop (.load 3 (.const v212_127)) 3 s127 fun v213_128 s128 =>
 veq v213_128 v213_128 = true ∧ I.wop (.indexAddr 23 (.const v95_35) (.const v213_128)) 0 s128 fun v214_129 s129 =>
 I.wop (.load 24 (.const v214_129)) 24 s129 fun v215_130 s130 =>
 veq v215_130 v215_130 = true ∧ I.wop (.fieldAddr 65 (.const v21_85) 1) 0 s130 fun v216_131 s131 =>
 I.wop (.indexAddr 58 (.const v216_131) (.const (.int .i64 2))) 0 s131 fun v217_132 s132 =>
 I.wop (.load 24 (.const v217_132)) 24 s132 fun v218_133 s133 =>
 veq v218_133 v218_133 = true ∧ I.wop (.binOp .eql 24 (.const v215_130) (.const v218_133) 24) 4 s133 fun v219_134 s134 =>
 wdec v219_134
 (I.wop (.indexAddr 53 (.const v16_32) (.const (.int .i64 3))) 0 s134 fun v223_135 s135 =>
 I.wop (.load 3 (.const v223_135)) 3 s135 fun v224_136 s136 =>
 veq v224_136 v224_136 = true ∧ I.wop (.indexAddr 23 (.const v95_35) (.const v224_136)) 0 s136 fun v225_137 s137 =>
 I.wop (.load 24 (.const v225_137)) 24 s137 fun v226_138 s138 =>
 veq v226_138 v226_138 = true ∧ I.wop (.fieldAddr 65 (.const v21_85) 1) 0 s138 fun v227_139 s139 =>
 I.wop (.indexAddr 58 (.const v227_139) (.const (.int .i64 3))) 0 s139 fun v228_140 s140 =>
 I.wop (.load 24 (.const v228_140)) 24 s140 fun v229_141 s141 =>
 veq v229_141 v229_141 = true ∧ I.wop (.binOp .eql 24 (.const v226_138) (.const v229_141) 24) 4 s141 fun v230_142 s142 =>
 wdec v230_142
 (I.call 15 [] s142 fun v233_143 s143 =>
 xdefers I ds12 s143 fun s144 =>
 I.fin si K v233_143 s144)
 (xdefers I ds12 s142 fun s145 =>
 I.fin si K (.bool false) s145))
 (xdefers I ds12 s134 fun s146 =>
 I.fin si K (.bool false) s146))
 (xdefers I ds12 s126 fun s147 =>
 I.fin si K (.bool false) s147))
 (xdefers I ds12 s118 fun s148 =>
 I.fin si K (.bool false) s148))
 (xdefers I ds12 s110 fun s149 =>
 I.fin si K (.bool false) s149))
 (xdefers I ds12 s107 fun s150 =>
 I.fin si K (.bool false) s150))
 (xdefers I ds12 s100 fun s151 =>
 I.fin si K (.bool false) s151))))))))))])]))
theorem x6 (I : Prims) (a0 a1 a2 a3 : Value) (si : St) (K : Value → St → Prop) : xbody I 235 k6 Tryd.f6 c6 [a0, a1, a2, a3] si K = v6 I a0 a1 a2 a3 si K := by kernel_rfl
theorem n6 [Memo] (ro : Nat) (a0 a1 a2 a3 : Value) (si : St) (K : Value → St → Prop) : wbody P ro 235 Tryd.f6 c6 [a0, a1, a2, a3] si K = v6 (prims P ro) a0 a1 a2 a3 si K := xbody_eq 235 P ro (x6 _ a0 a1 a2 a3 si K)
theorem r6 (I : Prims) (si : St) (K : Value → St → Prop) (τ : Tau) (ds : List Deferred) (s : St) : xleave I si Tryd.f6.results.toList K .ret τ [] ds s =
 (xdefers I ds s fun s0 =>
 I.fin si K (τ 8) s0) := by kernel_rfl
/- attestor/circuit.New -/
noncomputable def c9 : Code := bodyOf Tryd.f9
def k9 : List (List Nat) := []
theorem b9 : BodyOk P 36 3 9 Tryd.f9 c9 := ⟨Tryd.func9, by kernel_rfl, by kernel_rfl, by kernel_rfl, by kernel_rfl, by kernel_rfl⟩
def v9 (I : Prims) (a0 a1 a2 : Value) (si : St) (K : Value → St → Prop) : Prop :=
 I.call 37 [a0] (ent si) fun v9_0 s0 =>
 I.wop (.unOp .not 4 (.const v9_0)) 4 s0 fun v10_1 s1 =>
 wdec v10_1
 (I.fin si K (.tuple (.mk [(.pointer none), (.int .i64 1)])) s1)
 (I.wop (.binOp .lss 3 (.const a1) (.const (.int .i64 0)) 3) 4 s1 fun v13_2 s2 =>
 wdec v13_2
 (I.fin si K (.tuple (.mk [(.pointer none), (.int .i64 1)])) s2)
 (I.wop (.binOp .gtr 3 (.const a1) (.const (.int .i64 16)) 3) 4 s2 fun v17_3 s3 =>
 wdec v17_3
 (I.fin si K (.tuple (.mk [(.pointer none), (.int .i64 1)])) s3)
 (I.wop (.binOp .lss 3 (.const a2) (.const (.int .i64 0)) 3) 4 s3 fun v21_4 s4 =>
 wdec v21_4
 (I.fin si K (.tuple (.mk [(.pointer none), (.int .i64 1)])) s4)
 (I.wop (.binOp .gtr 3 (.const a2) (.const (.int .i64 20000)) 3) 4 s4 fun v25_5 s5 =>
 wdec v25_5
 (I.fin si K (.tuple (.mk [(.pointer none), (.int .i64 1)])) s5)
 (I.wop (.binOp .add 3 (.const a1) (.const a2) 3) 3 s5 fun v30_6 s6 =>
 I.wop (.build 34 ⟨[(0, (.const a0)), (1, (.const v30_6)), (2, (.const a1)), (3, (.const a2))]⟩) 34 s6 fun v33_7 s7 =>
 I.wop (.build 81 ⟨[(0, (.const (.bool true))), (1, (.const v33_7))]⟩) 81 s7 fun v34_8 s8 =>
 I.wop (.box 81 (.const v34_8)) 25 s8 fun v35_9 s9 =>
 I.fin si K (.tuple (.mk [v35_9, (.int .i64 0)])) s9)))))
theorem x9 (I : Prims) (a0 a1 a2 : Value) (si : St) (K : Value → St → Prop) : xbody I 36 k9 Tryd.f9 c9 [a0, a1, a2] si K = v9 I a0 a1 a2 si K := by kernel_rfl
theorem n9 [Memo] (ro : Nat) (a0 a1 a2 : Value) (si : St) (K : Value → St → Prop) : wbody P ro 36 Tryd.f9 c9 [a0, a1, a2] si K = v9 (prims P ro) a0 a1 a2 si K := xbody_eq 36 P ro (x9 _ a0 a1 a2 si K)
theorem r9 (I : Prims) (si : St) (K : Value → St → Prop) (τ : Tau) (ds : List Deferred) (s : St) : xleave I si Tryd.f9.results.toList K .ret τ [] ds s =
 (xdefers I ds s fun s0 =>
 I.fin si K (.tuple (.mk [(τ 6), (τ 7)])) s0) := by kernel_rfl
/- attestor/attestorlaw30.from -/
noncomputable def c11 : Code := bodyOf Tryd.f11
noncomputable def c11_110100 : Code := subCode [1, 1, 0, 1, 0, 0] c11
def k11 : List (List Nat) := []
def k11_110100 : List (List Nat) := []
theorem l11_110100 : ltCode 19 c11_110100 = true := by kernel_rfl
theorem m11_110100 : notMap c11_110100 = true := by kernel_rfl
theorem b11 : BodyOk P 19 2 11 Tryd.f11 c11 := ⟨Tryd.func11, by kernel_rfl, by kernel_rfl, by kernel_rfl, by kernel_rfl, by kernel_rfl⟩
def v11_110100 (I : Prims) (rnd : Option Nat) (τ : Tau) (ds : List Deferred) (s : St) (Q : Ex → WK) : Prop :=
 I.wop (.binOp .lss 3 (.const (τ 6)) (.const (τ 1)) 3) 4 s fun v9_0 s0 =>
 wdec v9_0
 (I.wop (.binOp .add 3 (.const (τ 0)) (.const (τ 6)) 3) 3 s0 fun v15_1 s1 =>
 I.wop (.buildSlice 30 1 ⟨[(0, (.const v15_1))]⟩) 30 s1 fun v16_2 s2 =>
 I.wop (.call ⟨.builtin .append, ⟨[(.const (τ 5)), (.const v16_2)]⟩, #[30, 30]⟩) 30 s2 fun v17_3 s3 =>
 I.wop (.binOp .add 3 (.const (τ 6)) (.const (.int .i64 1)) 3) 3 s3 fun v11_4 s4 =>
 Q .normal (U τ [(6, v11_4), (11, v11_4), (10, (τ 6)), (5, v17_3), (17, v17_3), (16, v16_2), (15, v15_1), (14, (τ 6)), (13, (τ 0)), (12, (τ 5)), (9, (.bool true)), (9, v9_0), (8, (τ 1)), (7, (τ 6))]) ds s4)
 (Q (.exit 0) (U τ [(9, (.bool false)), (9, v9_0), (8, (τ 1)), (7, (τ 6))]) ds s0)
theorem x11_110100 (I : Prims) (rnd : Option Nat) (τ : Tau) (ds : List Deferred) (s : St) (Q : Ex → WK) : xp I rnd 19 k11_110100 c11_110100 [] τ [] ds s (lift Q) = v11_110100 I rnd τ ds s Q := by kernel_rfl
theorem n11_110100 [Memo] (ro : Nat) (rnd : Option Nat) (τ : Tau) (ds : List Deferred) (s : St) (Q : Ex → WK) : wp P ro 19 rnd c11_110100 τ ds s Q = v11_110100 (prims P ro) rnd τ ds s Q := xp_wp rnd 19 P ro (x11_110100 _ rnd τ ds s Q)
def v11 (I : Prims) (a0 a1 : Value) (si : St) (K : Value → St → Prop) : Prop :=
 I.loop 19 none c11_110100 (U undefT [(6, (.int .i64 0)), (5, (.slice none 0 0)), (4, (.slice none 0 0)), (0, a0), (1, a1)]) [] (ent si) (fun τ ds s => ((xleave I si Tryd.f11.results.toList K) .ret) τ [] ds s) [(0, fun τ0 ds0 s0 =>
 xdefers I ds0 s0 fun s1 =>
 I.fin si K (τ0 5) s1)]
theorem x11 (I : Prims) (a0 a1 : Value) (si : St) (K : Value → St → Prop) : xbody I 19 k11 Tryd.f11 c11 [a0, a1] si K = v11 I a0 a1 si K := by kernel_rfl
theorem n11 [Memo] (ro : Nat) (a0 a1 : Value) (si : St) (K : Value → St → Prop) : wbody P ro 19 Tryd.f11 c11 [a0, a1] si K = v11 (prims P ro) a0 a1 si K := xbody_eq 19 P ro (x11 _ a0 a1 si K)
theorem r11 (I : Prims) (si : St) (K : Value → St → Prop) (τ : Tau) (ds : List Deferred) (s : St) : xleave I si Tryd.f11.results.toList K .ret τ [] ds s =
 (xdefers I ds s fun s0 =>
 I.fin si K (τ 4) s0) := by kernel_rfl
/- (*attestor/circuit.Builder).Gates -/
noncomputable def c12 : Code := bodyOf Tryd.f12
def k12 : List (List Nat) := []
theorem b12 : BodyOk P 21 1 12 Tryd.f12 c12 := ⟨Tryd.func12, by kernel_rfl, by kernel_rfl, by kernel_rfl, by kernel_rfl, by kernel_rfl⟩
def v12 (I : Prims) (a0 : Value) (si : St) (K : Value → St → Prop) : Prop :=
 I.wop (.alloc 34) 0 (ent si) fun v2_0 s0 =>
 I.call 23 [a0] s0 fun v7_1 s1 =>
 I.wop (.binOp .neq 26 (.const v7_1) (.const (.int .i64 0)) 26) 4 s1 fun v9_2 s2 =>
 wdec v9_2
 (I.wop (.build 34 ⟨[]⟩) 34 s2 fun v10_3 s3 =>
 I.wop (.store 34 (.const v2_0) (.const v10_3)) 0 s3 fun _ s4 =>
 I.wop (.load 34 (.const v2_0)) 34 s4 fun v2_5 _ =>
 I.fin si K (.tuple (.mk [v2_5, v7_1])) s4)
 (I.wop (.nilCheck (.const a0)) 0 s2 fun v13_6 s6 =>
 I.wop (.fieldAddr 81 (.const v13_6) 1) 0 s6 fun v14_7 s7 =>
 I.wop (.load 34 (.const v14_7)) 34 s7 fun v15_8 s8 =>
 I.wop (.alloc 34) 0 s8 fun v5_9 s9 =>
 I.wop (.store 34 (.const v5_9) (.const v15_8)) 0 s9 fun _ s10 =>
 I.wop (.fieldAddr 34 (.const v5_9) 4) 0 s10 fun v16_11 s11 =>
 I.wop (.load 32 (.const v16_11)) 32 s11 fun v17_12 s12 =>
 I.call 45 [v17_12] s12 fun v18_13 s13 =>
 I.wop (.fieldAddr 34 (.const v5_9) 4) 0 s13 fun v19_14 s14 =>
 I.wop (.store 32 (.const v19_14) (.const v18_13)) 0 s14 fun _ s15 =>
 I.wop (.load 34 (.const v5_9)) 34 s15 fun v20_16 s16 =>
 I.wop (.store 34 (.const v2_0) (.const v20_16)) 0 s16 fun _ s17 =>
 I.wop (.load 34 (.const v2_0)) 34 s17 fun v2_18 _ =>
 I.fin si K (.tuple (.mk [v2_18, (.int .i64 0)])) s17)
theorem x12 (I : Prims) (a0 : Value) (si : St) (K : Value → St → Prop) : xbody I 21 k12 Tryd.f12 c12 [a0] si K = v12 I a0 si K := by kernel_rfl
theorem n12 [Memo] (ro : Nat) (a0 : Value) (si : St) (K : Value → St → Prop) : wbody P ro 21 Tryd.f12 c12 [a0] si K = v12 (prims P ro) a0 si K := xbody_eq 21 P ro (x12 _ a0 si K)
theorem r12 (I : Prims) (si : St) (K : Value → St → Prop) (τ : Tau) (ds : List Deferred) (s : St) : xleave I si Tryd.f12.results.toList K .ret τ [] ds s =
 (xdefers I ds s fun s0 =>
 I.wop (.load 34 (.const (τ 2))) 34 s0 fun v2_1 _ =>
 I.fin si K (.tuple (.mk [v2_1, (τ 3)])) s0) := by kernel_rfl
/- attestor/attestorref23.Run -/
noncomputable def c13 : Code := bodyOf Tryd.f13
noncomputable def c13_11110100 : Code := subCode [1, 1, 1, 1, 0, 1, 0, 0] c13
noncomputable def c13_111110100 : Code := subCode [1, 1, 1, 1, 1, 0, 1, 0, 0] c13
noncomputable def c13_11111110100 : Code := subCode [1, 1, 1, 1, 1, 1, 1, 0, 1, 0, 0] c13
noncomputable def c13_111110100100101 : Code := subCode [1, 1, 1, 1, 1, 0, 1, 0, 0, 1, 0, 0, 1, 0, 1] c13
noncomputable def c13_11111010010011 : Code := subCode [1, 1, 1, 1, 1, 0, 1, 0, 0, 1, 0, 0, 1, 1] c13
noncomputable def c13_11111010011 : Code := subCode [1, 1, 1, 1, 1, 0, 1, 0, 0, 1, 1] c13
noncomputable def c13_11111010010011101100 : Code := subCode [1, 1, 1, 1, 1, 0, 1, 0, 0, 1, 0, 0, 1, 1, 1, 0, 1, 1, 0, 0] c13
def k13 : List (List Nat) := []
def k13_11110100 : List (List Nat) := []
theorem l13_11110100 : ltCode 192 c13_11110100 = true := by kernel_rfl
theorem m13_11110100 : notMap c13_11110100 = true := by kernel_rfl
def k13_111110100 : List (List Nat) := [[1, 0, 1, 0, 0, 1]]
theorem l13_111110100 : ltCode 192 c13_111110100 = true := by kernel_rfl
theorem m13_111110100 : notMap c13_111110100 = true := by kernel_rfl
def k13_11111110100 : List (List Nat) := []
theorem l13_11111110100 : ltCode 192 c13_11111110100 = true := by kernel_rfl
theorem m13_11111110100 : notMap c13_11111110100 = true := by kernel_rfl
def k13_11111010010011101100 : List (List Nat) := []
theorem l13_11111010010011101100 : ltCode 192 c13_11111010010011101100 = true := by kernel_rfl
theorem m13_11111010010011101100 : notMap c13_11111010010011101100 = true := by kernel_rfl
theorem b13 : BodyOk P 192 3 13 Tryd.f13 c13 := ⟨Tryd.func13, by kernel_rfl, by kernel_rfl, by kernel_rfl, by kernel_rfl, by kernel_rfl⟩
def v13_11110100 (I : Prims) (rnd : Option Nat) (τ : Tau) (ds : List Deferred) (s : St) (Q : Ex → WK) : Prop :=
 I.wop (.fieldAddr 34 (.const (τ 3)) 2) 0 s fun v57_0 s0 =>
 I.wop (.load 3 (.const v57_0)) 3 s0 fun v58_1 s1 =>
 I.wop (.fieldAddr 34 (.const (τ 3)) 3) 0 s1 fun v59_2 s2 =>
 I.wop (.load 3 (.const v59_2)) 3 s2 fun v60_3 s3 =>
 I.wop (.binOp .add 3 (.const v58_1) (.const v60_3) 3) 3 s3 fun v61_4 s4 =>
 I.wop (.binOp .lss 3 (.const (τ 11)) (.const v61_4) 3) 4 s4 fun v62_5 s5 =>
 wdec v62_5
 (I.wop (.indexAddr 97 (.const (τ 10)) (.const (τ 11))) 0 s5 fun v67_6 s6 =>
 I.wop (.store 4 (.const v67_6) (.const (.bool true))) 0 s6 fun _ s7 =>
 I.wop (.fieldAddr 34 (.const (τ 3)) 2) 0 s7 fun v69_8 s8 =>
 I.wop (.load 3 (.const v69_8)) 3 s8 fun v70_9 s9 =>
 I.wop (.binOp .lss 3 (.const (τ 11)) (.const v70_9) 3) 4 s9 fun v71_10 s10 =>
 wdec v71_10
 (I.wop (.indexAddr 23 (.const (τ 1)) (.const (τ 11))) 0 s10 fun v76_11 s11 =>
 I.wop (.load 24 (.const v76_11)) 24 s11 fun v77_12 s12 =>
 I.wop (.indexAddr 23 (.const (τ 9)) (.const (τ 11))) 0 s12 fun v78_13 s13 =>
 I.wop (.store 24 (.const v78_13) (.const v77_12)) 0 s13 fun _ s14 =>
 I.wop (.binOp .add 3 (.const (τ 11)) (.const (.int .i64 1)) 3) 3 s14 fun v64_15 s15 =>
 Q .normal (U τ [(11, v64_15), (64, v64_15), (63, (τ 11)), (78, v78_13), (77, v77_12), (76, v76_11), (75, (τ 11)), (74, (τ 1)), (73, (τ 11)), (72, (τ 9)), (71, (.bool true)), (71, v71_10), (70, v70_9), (69, v69_8), (68, (τ 11)), (67, v67_6), (66, (τ 11)), (65, (τ 10)), (62, (.bool true)), (62, v62_5), (61, v61_4), (60, v60_3), (59, v59_2), (58, v58_1), (57, v57_0), (56, (τ 11))]) ds s15)
 (I.wop (.fieldAddr 34 (.const (τ 3)) 2) 0 s10 fun v83_16 s16 =>
 I.wop (.load 3 (.const v83_16)) 3 s16 fun v84_17 s17 =>
 I.wop (.binOp .sub 3 (.const (τ 11)) (.const v84_17) 3) 3 s17 fun v85_18 s18 =>
 I.wop (.indexAddr 23 (.const (τ 2)) (.const v85_18)) 0 s18 fun v86_19 s19 =>
 I.wop (.load 24 (.const v86_19)) 24 s19 fun v87_20 s20 =>
 I.wop (.indexAddr 23 (.const (τ 9)) (.const (τ 11))) 0 s20 fun v88_21 s21 =>
 I.wop (.store 24 (.const v88_21) (.const v87_20)) 0 s21 fun _ s22 =>
 I.wop (.binOp .add 3 (.const (τ 11)) (.const (.int .i64 1)) 3) 3 s22 fun v64_23 s23 =>
 Q .normal (U τ [(11, v64_23), (64, v64_23), (63, (τ 11)), (88, v88_21), (87, v87_20), (86, v86_19), (85, v85_18), (84, v84_17), (83, v83_16), (82, (τ 11)), (81, (τ 2)), (80, (τ 11)), (79, (τ 9)), (71, (.bool false)), (71, v71_10), (70, v70_9), (69, v69_8), (68, (τ 11)), (67, v67_6), (66, (τ 11)), (65, (τ 10)), (62, (.bool true)), (62, v62_5), (61, v61_4), (60, v60_3), (59, v59_2), (58, v58_1), (57, v57_0), (56, (τ 11))]) ds s23))
 (Q (.exit 0) (U τ [(62, (.bool false)), (62, v62_5), (61, v61_4), (60, v60_3), (59, v59_2), (58, v58_1), (57, v57_0), (56, (τ 11))]) ds s5)
theorem x13_11110100 (I : Prims) (rnd : Option Nat) (τ : Tau) (ds : List Deferred) (s : St) (Q : Ex → WK) : xp I rnd 192 k13_11110100 c13_11110100 [] τ [] ds s (lift Q) = v13_11110100 I rnd τ ds s Q := by kernel_rfl
theorem n13_11110100 [Memo] (ro : Nat) (rnd : Option Nat) (τ : Tau) (ds : List Deferred) (s : St) (Q : Ex → WK) : wp P ro 192 rnd c13_11110100 τ ds s Q = v13_11110100 (prims P ro) rnd τ ds s Q := xp_wp rnd 192 P ro (x13_11110100 _ rnd τ ds s Q)
def v13_111110100 (I : Prims) (rnd : Option Nat) (τ : Tau) (ds : List Deferred) (s : St) (Q : Ex → WK) : Prop :=
 I.wop (.fieldAddr 34 (.const (τ 3)) 4) 0 s fun v90_0 s0 =>
 I.wop (.load 32 (.const v90_0)) 32 s0 fun v91_1 s1 =>
 I.wop (.call ⟨.builtin .len, ⟨[(.const v91_1)]⟩, #[32]⟩) 3 s1 fun v92_2 s2 =>
 I.wop (.binOp .lss 3 (.const (τ 12)) (.const v92_2) 3) 4 s2 fun v93_3 s3 =>
 wdec v93_3
 (I.wop (.fieldAddr 34 (.const (τ 3)) 4) 0 s3 fun v96_4 s4 =>
 I.wop (.load 32 (.const v96_4)) 32 s4 fun v97_5 s5 =>
 I.wop (.indexAddr 32 (.const v97_5) (.const (τ 12))) 0 s5 fun v99_6 s6 =>
 I.wop (.load 94 (.const v99_6)) 94 s6 fun v100_7 s7 =>
 I.wop (.alloc 94) 0 s7 fun v13_8 s8 =>
 I.wop (.store 94 (.const v13_8) (.const v100_7)) 0 s8 fun _ s9 =>
 I.wop (.fieldAddr 94 (.const v13_8) 0) 0 s9 fun v101_10 s10 =>
 I.wop (.load 92 (.const v101_10)) 92 s10 fun v102_11 s11 =>
 I.wop (.binOp .eql 92 (.const v102_11) (.const (.int .u8 1)) 92) 4 s11 fun v103_12 s12 =>
 wdec v103_12
 (I.wop (.fieldAddr 94 (.const v13_8) 5) 0 s12 fun v105_13 s13 =>
 I.wop (.load 24 (.const v105_13)) 24 s13 fun v106_14 s14 =>
 I.wop (.binOp .neq 24 (.const v106_14) (.const (.int .u64 0)) 24) 4 s14 fun v107_15 s15 =>
 wdec v107_15
 (I.wop (.fieldAddr 94 (.const v13_8) 1) 0 s15 fun v111_16 s16 =>
 I.wop (.indexAddr 53 (.const v111_16) (.const (.int .i64 2))) 0 s16 fun v112_17 s17 =>
 I.wop (.load 3 (.const v112_17)) 3 s17 fun v113_18 s18 =>
 I.wop (.indexAddr 97 (.const (τ 10)) (.const v113_18)) 0 s18 fun v114_19 s19 =>
 I.wop (.load 4 (.const v114_19)) 4 s19 fun v115_20 s20 =>
 I.wop (.unOp .not 4 (.const v115_20)) 4 s20 fun v116_21 s21 =>
 I.hold (xp I rnd 192 k13_111110100 c13_111110100100101 [1, 0, 1, 0, 0, 1] (U τ [(117, v116_21), (109, (.bool true)), (116, v116_21), (109, (.bool true)), (115, v115_20), (109, (.bool true)), (114, v114_19), (109, (.bool true)), (113, v113_18), (109, (.bool true)), (112, v112_17), (109, (.bool true)), (111, v111_16), (109, (.bool true)), (110, (τ 10)), (109, (.bool true)), (109, v107_15), (108, v107_15), (104, (.bool true)), (107, v107_15), (104, (.bool true)), (106, v106_14), (104, (.bool true)), (105, v105_13), (104, (.bool true)), (104, v103_12), (103, v103_12), (102, v102_11), (101, v101_10), (13, v13_8), (100, v100_7), (99, v99_6), (98, (τ 12)), (97, v97_5), (96, v96_4), (93, (.bool true)), (93, v93_3), (92, v92_2), (91, v91_1), (90, v90_0), (89, (τ 12))]) [] ds s21 (sX I rnd 192 k13_111110100 c13_11111010010011 [1, 1, 0, 0, 1] (blkX 3 (sX I rnd 192 k13_111110100 c13_11111010011 [1, 1] (lift Q))))))
 (I.hold (xp I rnd 192 k13_111110100 c13_111110100100101 [1, 0, 1, 0, 0, 1] (U τ [(117, (.bool false)), (109, (.bool false)), (116, undef), (109, (.bool false)), (115, undef), (109, (.bool false)), (114, undef), (109, (.bool false)), (113, undef), (109, (.bool false)), (112, undef), (109, (.bool false)), (111, undef), (109, (.bool false)), (110, undef), (109, (.bool false)), (109, v107_15), (108, v107_15), (104, (.bool true)), (107, v107_15), (104, (.bool true)), (106, v106_14), (104, (.bool true)), (105, v105_13), (104, (.bool true)), (104, v103_12), (103, v103_12), (102, v102_11), (101, v101_10), (13, v13_8), (100, v100_7), (99, v99_6), (98, (τ 12)), (97, v97_5), (96, v96_4), (93, (.bool true)), (93, v93_3), (92, v92_2), (91, v91_1), (90, v90_0), (89, (τ 12))]) [] ds s15 (sX I rnd 192 k13_111110100 c13_11111010010011 [1, 1, 0, 0, 1] (blkX 3 (sX I rnd 192 k13_111110100 c13_11111010011 [1, 1] (lift Q)))))))
 (I.hold (xp I rnd 192 k13_111110100 c13_111110100100101 [1, 0, 1, 0, 0, 1] (U τ [(117, (.bool false)), (109, (.bool false)), (116, undef), (109, (.bool false)), (115, undef), (109, (.bool false)), (114, undef), (109, (.bool false)), (113, undef), (109, (.bool false)), (112, undef), (109, (.bool false)), (111, undef), (109, (.bool false)), (110, undef), (109, (.bool false)), (109, (.bool false)), (108, (.bool false)), (104, (.bool false)), (107, undef), (104, (.bool false)), (106, undef), (104, (.bool false)), (105, undef), (104, (.bool false)), (104, v103_12), (103, v103_12), (102, v102_11), (101, v101_10), (13, v13_8), (100, v100_7), (99, v99_6), (98, (τ 12)), (97, v97_5), (96, v96_4), (93, (.bool true)), (93, v93_3), (92, v92_2), (91, v91_1), (90, v90_0), (89, (τ 12))]) [] ds s12 (sX I rnd 192 k13_111110100 c13_11111010010011 [1, 1, 0, 0, 1] (blkX 3 (sX I rnd 192 k13_111110100 c13_11111010011 [1, 1] (lift Q)))))))
 (Q (.exit 2) (U τ [(93, (.bool false)), (93, v93_3), (92, v92_2), (91, v91_1), (90, v90_0), (89, (τ 12))]) ds s3)
theorem x13_111110100 (I : Prims) (rnd : Option Nat) (τ : Tau) (ds : List Deferred) (s : St) (Q : Ex → WK) : xp I rnd 192 k13_111110100 c13_111110100 [] τ [] ds s (lift Q) = v13_111110100 I rnd τ ds s Q := by kernel_rfl
theorem n13_111110100 [Memo] (ro : Nat) (rnd : Option Nat) (τ : Tau) (ds : List Deferred) (s : St) (Q : Ex → WK) : wp P ro 192 rnd c13_111110100 τ ds s Q = v13_111110100 (prims P ro) rnd τ ds s Q := xp_wp rnd 192 P ro (x13_111110100 _ rnd τ ds s Q)
def v13_11111110100 (I : Prims) (rnd : Option Nat) (τ : Tau) (ds : List Deferred) (s : St) (Q : Ex → WK) : Prop :=
 I.wop (.fieldAddr 34 (.const (τ 3)) 4) 0 s fun v177_0 s0 =>
 I.wop (.load 32 (.const v177_0)) 32 s0 fun v178_1 s1 =>
 I.wop (.call ⟨.builtin .len, ⟨[(.const v178_1)]⟩, #[32]⟩) 3 s1 fun v179_2 s2 =>
 I.wop (.binOp .lss 3 (.const (τ 18)) (.const v179_2) 3) 4 s2 fun v180_3 s3 =>
 wdec v180_3
 (wdec (τ 17)
 (I.wop (.load 34 (.const (τ 3))) 34 s3 fun v185_4 s4 =>
 I.call 52 [v185_4, (τ 9), (τ 18)] s4 fun v188_5 s5 =>
 I.wop (.binOp .add 3 (.const (τ 18)) (.const (.int .i64 1)) 3) 3 s5 fun v182_6 s6 =>
 Q .normal (U τ [(18, v182_6), (182, v182_6), (181, (τ 18)), (17, v188_5), (189, v188_5), (184, (.bool true)), (188, v188_5), (184, (.bool true)), (187, (τ 18)), (184, (.bool true)), (186, (τ 9)), (184, (.bool true)), (185, v185_4), (184, (.bool true)), (184, (τ 17)), (183, (τ 17)), (180, (.bool true)), (180, v180_3), (179, v179_2), (178, v178_1), (177, v177_0), (176, (τ 18))]) ds s6)
 (I.wop (.binOp .add 3 (.const (τ 18)) (.const (.int .i64 1)) 3) 3 s3 fun v182_7 s7 =>
 Q .normal (U τ [(18, v182_7), (182, v182_7), (181, (τ 18)), (17, (.bool false)), (189, (.bool false)), (184, (.bool false)), (188, undef), (184, (.bool false)), (187, undef), (184, (.bool false)), (186, undef), (184, (.bool false)), (185, undef), (184, (.bool false)), (184, (τ 17)), (183, (τ 17)), (180, (.bool true)), (180, v180_3), (179, v179_2), (178, v178_1), (177, v177_0), (176, (τ 18))]) ds s7))
 (Q (.exit 6) (U τ [(180, (.bool false)), (180, v180_3), (179, v179_2), (178, v178_1), (177, v177_0), (176, (τ 18))]) ds s3)
theorem x13_11111110100 (I : Prims) (rnd : Option Nat) (τ : Tau) (ds : List Deferred) (s : St) (Q : Ex → WK) : xp I rnd 192 k13_11111110100 c13_11111110100 [] τ [] ds s (lift Q) = v13_11111110100 I rnd τ ds s Q := by kernel_rfl
theorem n13_11111110100 [Memo] (ro : Nat) (rnd : Option Nat) (τ : Tau) (ds : List Deferred) (s : St) (Q : Ex → WK) : wp P ro 192 rnd c13_11111110100 τ ds s Q = v13_11111110100 (prims P ro) rnd τ ds s Q := xp_wp rnd 192 P ro (x13_11111110100 _ rnd τ ds s Q)
def v13_111110100100101 (I : Prims) (rnd : Option Nat) (τ : Tau) (ds : List Deferred) (s : St) (Q : Ex → XK) : Prop :=
 wdec (τ 117)
 (I.wop (.fieldAddr 94 (.const (τ 13)) 1) 0 s fun v119_0 s0 =>
 I.wop (.indexAddr 53 (.const v119_0) (.const (.int .i64 2))) 0 s0 fun v120_1 s1 =>
 I.wop (.load 3 (.const v120_1)) 3 s1 fun v121_2 s2 =>
 I.wop (.indexAddr 97 (.const (τ 10)) (.const v121_2)) 0 s2 fun v122_3 s3 =>
 I.wop (.store 4 (.const v122_3) (.const (.bool true))) 0 s3 fun _ s4 =>
 I.wop (.fieldAddr 94 (.const (τ 13)) 1) 0 s4 fun v124_5 s5 =>
 I.wop (.indexAddr 53 (.const v124_5) (.const (.int .i64 2))) 0 s5 fun v125_6 s6 =>
 I.wop (.load 3 (.const v125_6)) 3 s6 fun v126_7 s7 =>
 veq v126_7 v126_7 = true ∧ I.wop (.fieldAddr 34 (.const (τ 3)) 0) 0 s7 fun v127_8 s8 =>
 I.wop (.load 3 (.const v127_8)) 3 s8 fun v128_9 s9 =>
 veq v128_9 v128_9 = true ∧ I.wop (.fieldAddr 34 (.const (τ 3)) 0) 0 s9 fun v129_10 s10 =>
 I.wop (.load 3 (.const v129_10)) 3 s10 fun v130_11 s11 =>
 veq v130_11 v130_11 = true ∧ I.wop (.fieldAddr 34 (.const (τ 3)) 0) 0 s11 fun v131_12 s12 =>
 I.wop (.load 3 (.const v131_12)) 3 s12 fun v132_13 s13 =>
 veq v132_13 v132_13 = true ∧ I.wop (.load 94 (.const (τ 13))) 94 s13 fun v133_14 s14 =>
 veq v133_14 v133_14 = true ∧ I.wop (.fieldAddr 94 (.const (τ 13)) 5) 0 s14 fun v136_15 s15 =>
 I.wop (.load 24 (.const v136_15)) 24 s15 fun v137_16 s16 =>
 veq v137_16 v137_16 = true ∧ I.call 50 [v132_13, v133_14, (τ 9)] s16 fun v135_17 s17 =>
 Keeps [(14, .ptr v136_15), (7, .ptr v129_10), (5, .ptr v127_8), (3, .ptr v125_6)] s16 s17 ∧ I.call 49 [v130_11, v135_17, v137_16] s17 fun v138_18 s18 =>
 Keeps [(5, .ptr v127_8), (3, .ptr v125_6)] s17 s18 ∧ I.call 48 [v128_9, v138_18] s18 fun v139_19 s19 =>
 Keeps [(3, .ptr v125_6)] s18 s19 ∧ I.wop (.indexAddr 23 (.const (τ 9)) (.const v126_7)) 0 s19 fun v140_20 s20 =>
 I.wop (.store 24 (.const v140_20) (.const v139_19)) 0 s20 fun _ s21 =>
 Q .normal τ [(140, v140_20), (139, v139_19), (138, v138_18), (135, v135_17), (137, v137_16), (136, v136_15), (134, (τ 9)), (133, v133_14), (132, v132_13), (131, v131_12), (130, v130_11), (129, v129_10), (128, v128_9), (127, v127_8), (126, v126_7), (125, v125_6), (124, v124_5), (123, (τ 9)), (122, v122_3), (121, v121_2), (120, v120_1), (119, v119_0), (118, (τ 10)), (117, (.bool true))] ds s21)
 (Q .normal τ [(117, (.bool false))] ds s)
theorem n13_111110100100101 (I : Prims) (rnd : Option Nat) (τ : Tau) (ds : List Deferred) (s : St) (Q : Ex → XK) : xp I rnd 192 k13_111110100 c13_111110100100101 [1, 0, 1, 0, 0, 1] τ [] ds s Q = v13_111110100100101 I rnd τ ds s Q := by kernel_rfl
def v13_11111010010011 (I : Prims) (rnd : Option Nat) (τ : Tau) (ds : List Deferred) (s : St) (Q : Ex → XK) : Prop :=
 I.wop (.fieldAddr 94 (.const (τ 13)) 0) 0 s fun v141_0 s0 =>
 I.wop (.load 92 (.const v141_0)) 92 s0 fun v142_1 s1 =>
 I.wop (.binOp .eql 92 (.const v142_1) (.const (.int .u8 3)) 92) 4 s1 fun v143_2 s2 =>
 wdec v143_2
 (I.wop (.fieldAddr 34 (.const (τ 3)) 0) 0 s2 fun v144_3 s3 =>
 I.wop (.load 3 (.const v144_3)) 3 s3 fun v145_4 s4 =>
 I.wop (.load 94 (.const (τ 13))) 94 s4 fun v146_5 s5 =>
 I.call 51 [v145_4, v146_5, (τ 9)] s5 fun v148_6 s6 =>
 I.wop (.alloc 58) 0 s6 fun v14_7 s7 =>
 I.wop (.store 58 (.const v14_7) (.const v148_6)) 0 s7 fun _ s8 =>
 I.loop 192 rnd c13_11111010010011101100 (U τ [(15, (.int .i64 0)), (14, v14_7), (148, v148_6), (147, (τ 9)), (146, v146_5), (145, v145_4), (144, v144_3), (143, (.bool true)), (143, v143_2), (142, v142_1), (141, v141_0)]) ds s8 (fun τ ds s => (Q .ret) τ [] ds s) [(4, fun τ9 ds9 s9 =>
 Q .normal τ9 [] ds9 s9)])
 (Q .normal τ [(143, (.bool false)), (143, v143_2), (142, v142_1), (141, v141_0)] ds s2)
theorem n13_11111010010011 (I : Prims) (rnd : Option Nat) (τ : Tau) (ds : List Deferred) (s : St) (Q : Ex → XK) : xp I rnd 192 k13_111110100 c13_11111010010011 [1, 1, 0, 0, 1] τ [] ds s Q = v13_11111010010011 I rnd τ ds s Q := by kernel_rfl
def v13_11111010011 (I : Prims) (rnd : Option Nat) (τ : Tau) (ds : List Deferred) (s : St) (Q : Ex → XK) : Prop :=
 I.wop (.binOp .add 3 (.const (τ 12)) (.const (.int .i64 1)) 3) 3 s fun v95_0 s0 =>
 Q .normal τ [(12, v95_0), (95, v95_0), (94, (τ 12))] ds s0
theorem n13_11111010011 (I : Prims) (rnd : Option Nat) (τ : Tau) (ds : List Deferred) (s : St) (Q : Ex → XK) : xp I rnd 192 k13_111110100 c13_11111010011 [1, 1] τ [] ds s Q = v13_11111010011 I rnd τ ds s Q := by kernel_rfl
def v13_11111010010011101100 (I : Prims) (rnd : Option Nat) (τ : Tau) (ds : List Deferred) (s : St) (Q : Ex → WK) : Prop :=
 I.wop (.binOp .lss 3 (.const (τ 15)) (.const (.int .i64 4)) 3) 4 s fun v150_0 s0 =>
 wdec v150_0
 (I.wop (.fieldAddr 34 (.const (τ 3)) 4) 0 s0 fun v153_1 s1 =>
 I.wop (.load 32 (.const v153_1)) 32 s1 fun v154_2 s2 =>
 I.wop (.binOp .add 3 (.const (τ 12)) (.const (.int .i64 1)) 3) 3 s2 fun v156_3 s3 =>
 I.wop (.indexAddr 32 (.const v154_2) (.const v156_3)) 0 s3 fun v158_4 s4 =>
 I.wop (.fieldAddr 94 (.const v158_4) 1) 0 s4 fun v159_5 s5 =>
 I.wop (.indexAddr 53 (.const v159_5) (.const (τ 15))) 0 s5 fun v160_6 s6 =>
 I.wop (.load 3 (.const v160_6)) 3 s6 fun v161_7 s7 =>
 I.wop (.indexAddr 97 (.const (τ 10)) (.const v161_7)) 0 s7 fun v164_8 s8 =>
 I.wop (.load 4 (.const v164_8)) 4 s8 fun v165_9 s9 =>
 I.wop (.unOp .not 4 (.const v165_9)) 4 s9 fun v166_10 s10 =>
 wdec v166_10
 (I.wop (.indexAddr 97 (.const (τ 10)) (.const v161_7)) 0 s10 fun v169_11 s11 =>
 I.wop (.store 4 (.const v169_11) (.const (.bool true))) 0 s11 fun _ s12 =>
 I.wop (.indexAddr 58 (.const (τ 14)) (.const (τ 15))) 0 s12 fun v173_13 s13 =>
 I.wop (.load 24 (.const v173_13)) 24 s13 fun v174_14 s14 =>
 I.wop (.indexAddr 23 (.const (τ 9)) (.const v161_7)) 0 s14 fun v175_15 s15 =>
 I.wop (.store 24 (.const v175_15) (.const v174_14)) 0 s15 fun _ s16 =>
 I.wop (.binOp .add 3 (.const (τ 15)) (.const (.int .i64 1)) 3) 3 s16 fun v152_17 s17 =>
 Q .normal (U τ [(15, v152_17), (152, v152_17), (151, (τ 15)), (175, v175_15), (174, v174_14), (173, v173_13), (172, (τ 15)), (171, v161_7), (170, (τ 9)), (169, v169_11), (168, v161_7), (167, (τ 10)), (166, (.bool true)), (166, v166_10), (165, v165_9), (164, v164_8), (163, v161_7), (162, (τ 10)), (16, v161_7), (161, v161_7), (160, v160_6), (159, v159_5), (158, v158_4), (157, (τ 15)), (156, v156_3), (155, (τ 12)), (154, v154_2), (153, v153_1), (150, (.bool true)), (150, v150_0), (149, (τ 15))]) ds s17)
 (I.wop (.binOp .add 3 (.const (τ 15)) (.const (.int .i64 1)) 3) 3 s10 fun v152_18 s18 =>
 Q .normal (U τ [(15, v152_18), (152, v152_18), (151, (τ 15)), (166, (.bool false)), (166, v166_10), (165, v165_9), (164, v164_8), (163, v161_7), (162, (τ 10)), (16, v161_7), (161, v161_7), (160, v160_6), (159, v159_5), (158, v158_4), (157, (τ 15)), (156, v156_3), (155, (τ 12)), (154, v154_2), (153, v153_1), (150, (.bool true)), (150, v150_0), (149, (τ 15))]) ds s18))
 (Q (.exit 4) (U τ [(150, (.bool false)), (150, v150_0), (149, (τ 15))]) ds s0)
theorem x13_11111010010011101100 (I : Prims) (rnd : Option Nat) (τ : Tau) (ds : List Deferred) (s : St) (Q : Ex → WK) : xp I rnd 192 k13_11111010010011101100 c13_11111010010011101100 [] τ [] ds s (lift Q) = v13_11111010010011101100 I rnd τ ds s Q := by kernel_rfl
theorem n13_11111010010011101100 [Memo] (ro : Nat) (rnd : Option Nat) (τ : Tau) (ds : List Deferred) (s : St) (Q : Ex → WK) : wp P ro 192 rnd c13_11111010010011101100 τ ds s Q = v13_11111010010011101100 (prims P ro) rnd τ ds s Q := xp_wp rnd 192 P ro (x13_11111010010011101100 _ rnd τ ds s Q)
def v13 (I : Prims) (a0 a1 a2 : Value) (si : St) (K : Value → St → Prop) : Prop :=
 I.wop (.box 34 (.const a0)) 0 (ent si) fun v3_0 s0 =>
 I.wop (.load 34 (.const v3_0)) 34 s0 fun v19_1 s1 =>
 I.call 46 [v19_1] s1 fun v20_2 s2 =>
 I.wop (.unOp .not 4 (.const v20_2)) 4 s2 fun v21_3 s3 =>
 wdec v21_3
 (I.fin si K (.tuple (.mk [(.slice none 0 0), (.bool false), (.int .i64 1)])) s3)
 (I.wop (.call ⟨.builtin .len, ⟨[(.const a1)]⟩, #[23]⟩) 3 s3 fun v24_4 s4 =>
 I.wop (.fieldAddr 34 (.const v3_0) 2) 0 s4 fun v25_5 s5 =>
 I.wop (.load 3 (.const v25_5)) 3 s5 fun v26_6 s6 =>
 I.wop (.binOp .neq 3 (.const v24_4) (.const v26_6) 3) 4 s6 fun v27_7 s7 =>
 wdec v27_7
 (I.fin si K (.tuple (.mk [(.slice none 0 0), (.bool false), (.int .i64 1)])) s7)
 (I.wop (.call ⟨.builtin .len, ⟨[(.const a2)]⟩, #[23]⟩) 3 s7 fun v31_8 s8 =>
 I.wop (.fieldAddr 34 (.const v3_0) 3) 0 s8 fun v32_9 s9 =>
 I.wop (.load 3 (.const v32_9)) 3 s9 fun v33_10 s10 =>
 I.wop (.binOp .neq 3 (.const v31_8) (.const v33_10) 3) 4 s10 fun v34_11 s11 =>
 wdec v34_11
 (I.fin si K (.tuple (.mk [(.slice none 0 0), (.bool false), (.int .i64 1)])) s11)
 (I.wop (.fieldAddr 34 (.const v3_0) 0) 0 s11 fun v37_12 s12 =>
 I.wop (.load 3 (.const v37_12)) 3 s12 fun v38_13 s13 =>
 I.call 47 [v38_13, a1] s13 fun v40_14 s14 =>
 I.wop (.unOp .not 4 (.const v40_14)) 4 s14 fun v41_15 s15 =>
 wdec v41_15
 (I.fin si K (.tuple (.mk [(.slice none 0 0), (.bool false), (.int .i64 1)])) s15)
 (I.wop (.fieldAddr 34 (.const v3_0) 0) 0 s15 fun v44_16 s16 =>
 I.wop (.load 3 (.const v44_16)) 3 s16 fun v45_17 s17 =>
 I.call 47 [v45_17, a2] s17 fun v47_18 s18 =>
 I.wop (.unOp .not 4 (.const v47_18)) 4 s18 fun v48_19 s19 =>
 wdec v48_19
 (I.fin si K (.tuple (.mk [(.slice none 0 0), (.bool false), (.int .i64 1)])) s19)
 (I.wop (.fieldAddr 34 (.const v3_0) 1) 0 s19 fun v50_20 s20 =>
 I.wop (.load 3 (.const v50_20)) 3 s20 fun v51_21 s21 =>
 I.wop (.makeSlice 23 (.const v51_21) (.const v51_21)) 23 s21 fun v52_22 s22 =>
 I.wop (.fieldAddr 34 (.const v3_0) 1) 0 s22 fun v53_23 s23 =>
 I.wop (.load 3 (.const v53_23)) 3 s23 fun v54_24 s24 =>
 I.wop (.makeSlice 97 (.const v54_24) (.const v54_24)) 97 s24 fun v55_25 s25 =>
 I.loop 192 none c13_11110100 (U undefT [(11, (.int .i64 0)), (10, v55_25), (55, v55_25), (54, v54_24), (53, v53_23), (9, v52_22), (52, v52_22), (51, v51_21), (50, v50_20), (49, (.bool false)), (49, v48_19), (43, (.bool false)), (48, v48_19), (43, (.bool false)), (47, v47_18), (43, (.bool false)), (46, a2), (43, (.bool false)), (45, v45_17), (43, (.bool false)), (44, v44_16), (43, (.bool false)), (43, v41_15), (42, v41_15), (36, (.bool false)), (41, v41_15), (36, (.bool false)), (40, v40_14), (36, (.bool false)), (39, a1), (36, (.bool false)), (38, v38_13), (36, (.bool false)), (37, v37_12), (36, (.bool false)), (36, v34_11), (35, v34_11), (29, (.bool false)), (34, v34_11), (29, (.bool false)), (33, v33_10), (29, (.bool false)), (32, v32_9), (29, (.bool false)), (31, v31_8), (29, (.bool false)), (30, a2), (29, (.bool false)), (29, v27_7), (28, v27_7), (22, (.bool false)), (27, v27_7), (22, (.bool false)), (26, v26_6), (22, (.bool false)), (25, v25_5), (22, (.bool false)), (24, v24_4), (22, (.bool false)), (23, a1), (22, (.bool false)), (22, v21_3), (21, v21_3), (20, v20_2), (19, v19_1), (8, (.int .i64 0)), (7, (.bool false)), (6, (.slice none 0 0)), (3, v3_0), (0, a0), (1, a1), (2, a2)]) [] s25 (fun τ ds s => ((xleave I si Tryd.f13.results.toList K) .ret) τ [] ds s) [(0, fun τ26 ds26 s26 =>
 I.loop 192 none c13_111110100 (U τ26 [(12, (.int .i64 0))]) ds26 s26 (fun τ ds s => ((xleave I si Tryd.f13.results.toList K) .ret) τ [] ds s) [(2, fun τ27 ds27 s27 =>
 I.loop 192 none c13_11111110100 (U τ27 [(18, (.int .i64 0)), (17, (.bool true))]) ds27 s27 (fun τ ds s => ((xleave I si Tryd.f13.results.toList K) .ret) τ [] ds s) [(6, fun τ28 ds28 s28 =>
 xdefers I ds28 s28 fun s29 =>
 I.fin si K (.tuple (.mk [(τ28 9), (τ28 17), (.int .i64 0)])) s29)]), (4, fun _ _ _ =>
 False)])])))))
theorem x13 (I : Prims) (a0 a1 a2 : Value) (si : St) (K : Value → St → Prop) : xbody I 192 k13 Tryd.f13 c13 [a0, a1, a2] si K = v13 I a0 a1 a2 si K := by kernel_rfl
theorem n13 [Memo] (ro : Nat) (a0 a1 a2 : Value) (si : St) (K : Value → St → Prop) : wbody P ro 192 Tryd.f13 c13 [a0, a1, a2] si K = v13 (prims P ro) a0 a1 a2 si K := xbody_eq 192 P ro (x13 _ a0 a1 a2 si K)
/- attestor/attestorref01.P -/
noncomputable def c14 : Code := bodyOf Tryd.f14
def k14 : List (List Nat) := []
theorem b14 : BodyOk P 12 1 14 Tryd.f14 c14 := ⟨Tryd.func14, by kernel_rfl, by kernel_rfl, by kernel_rfl, by kernel_rfl, by kernel_rfl⟩
def v14 (I : Prims) (a0 : Value) (si : St) (K : Value → St → Prop) : Prop :=
 I.wop (.binOp .eql 3 (.const a0) (.const (.int .i64 0)) 3) 4 (ent si) fun v5_0 s0 =>
 wdec v5_0
 (I.fin si K (.int .u64 97) s0)
 (I.wop (.binOp .eql 3 (.const a0) (.const (.int .i64 1)) 3) 4 s0 fun v7_1 s1 =>
 wdec v7_1
 (I.fin si K (.int .u64 257) s1)
 (I.wop (.binOp .eql 3 (.const a0) (.const (.int .i64 2)) 3) 4 s1 fun v9_2 s2 =>
 wdec v9_2
 (I.fin si K (.int .u64 12289) s2)
 (I.wop (.binOp .eql 3 (.const a0) (.const (.int .i64 3)) 3) 4 s2 fun v11_3 s3 =>
 wdec v11_3
 (I.fin si K (.int .u64 998244353) s3)
 (I.fin si K (.int .u64 0) s3))))
theorem x14 (I : Prims) (a0 : Value) (si : St) (K : Value → St → Prop) : xbody I 12 k14 Tryd.f14 c14 [a0] si K = v14 I a0 si K := by kernel_rfl
theorem n14 [Memo] (ro : Nat) (a0 : Value) (si : St) (K : Value → St → Prop) : wbody P ro 12 Tryd.f14 c14 [a0] si K = v14 (prims P ro) a0 si K := xbody_eq 12 P ro (x14 _ a0 si K)
/- attestor/attestorref01.Valid -/
noncomputable def c16 : Code := bodyOf Tryd.f16
def k16 : List (List Nat) := []
theorem b16 : BodyOk P 9 1 16 Tryd.f16 c16 := ⟨Tryd.func16, by kernel_rfl, by kernel_rfl, by kernel_rfl, by kernel_rfl, by kernel_rfl⟩
def v16 (I : Prims) (a0 : Value) (si : St) (K : Value → St → Prop) : Prop :=
 I.wop (.binOp .geq 3 (.const a0) (.const (.int .i64 0)) 3) 4 (ent si) fun v4_0 s0 =>
 wdec v4_0
 (I.wop (.binOp .leq 3 (.const a0) (.const (.int .i64 3)) 3) 4 s0 fun v7_1 s1 =>
 I.fin si K v7_1 s1)
 (I.fin si K (.bool false) s0)
theorem x16 (I : Prims) (a0 : Value) (si : St) (K : Value → St → Prop) : xbody I 9 k16 Tryd.f16 c16 [a0] si K = v16 I a0 si K := by kernel_rfl
theorem n16 [Memo] (ro : Nat) (a0 : Value) (si : St) (K : Value → St → Prop) : wbody P ro 9 Tryd.f16 c16 [a0] si K = v16 (prims P ro) a0 si K := xbody_eq 9 P ro (x16 _ a0 si K)
/- attestor/attestorlaw30.values -/
noncomputable def c18 : Code := bodyOf Tryd.f18
def k18 : List (List Nat) := []
theorem b18 : BodyOk P 30 2 18 Tryd.f18 c18 := ⟨Tryd.func18, by kernel_rfl, by kernel_rfl, by kernel_rfl, by kernel_rfl, by kernel_rfl⟩
def v18 (I : Prims) (a0 a1 : Value) (si : St) (K : Value → St → Prop) : Prop :=
 I.call 12 [a0] (ent si) fun v12_0 s0 =>
 I.wop (.extract (.const v12_0) 0) 34 s0 fun v13_1 s1 =>
 I.wop (.extract (.const v12_0) 1) 26 s1 fun v14_2 s2 =>
 I.wop (.alloc 34) 0 s2 fun v6_3 s3 =>
 I.wop (.store 34 (.const v6_3) (.const v13_1)) 0 s3 fun _ s4 =>
 I.wop (.binOp .neq 26 (.const v14_2) (.const (.int .i64 0)) 26) 4 s4 fun v16_5 s5 =>
 wdec v16_5
 (I.fin si K (.tuple (.mk [(.slice none 0 0), (.bool false)])) s5)
 (I.wop (.load 34 (.const v6_3)) 34 s5 fun v18_6 s6 =>
 I.call 13 [v18_6, (.slice none 0 0), a1] s6 fun v20_7 s7 =>
 I.wop (.extract (.const v20_7) 0) 23 s7 fun v21_8 s8 =>
 I.wop (.extract (.const v20_7) 1) 4 s8 fun v22_9 s9 =>
 I.wop (.extract (.const v20_7) 2) 26 s9 fun v23_10 s10 =>
 wdec v22_9
 (I.wop (.binOp .eql 26 (.const v23_10) (.const (.int .i64 0)) 26) 4 s10 fun v28_11 s11 =>
 I.fin si K (.tuple (.mk [v21_8, v28_11])) s11)
 (I.fin si K (.tuple (.mk [v21_8, (.bool false)])) s10))
theorem x18 (I : Prims) (a0 a1 : Value) (si : St) (K : Value → St → Prop) : xbody I 30 k18 Tryd.f18 c18 [a0, a1] si K = v18 I a0 a1 si K := by kernel_rfl
theorem n18 [Memo] (ro : Nat) (a0 a1 : Value) (si : St) (K : Value → St → Prop) : wbody P ro 30 Tryd.f18 c18 [a0, a1] si K = v18 (prims P ro) a0 a1 si K := xbody_eq 30 P ro (x18 _ a0 a1 si K)
/- (*attestor/circuit.Builder).Perm -/
noncomputable def c20 : Code := bodyOf Tryd.f20
noncomputable def c20_11110100 : Code := subCode [1, 1, 1, 1, 0, 1, 0, 0] c20
def k20 : List (List Nat) := []
def k20_11110100 : List (List Nat) := []
theorem l20_11110100 : ltCode 53 c20_11110100 = true := by kernel_rfl
theorem m20_11110100 : notMap c20_11110100 = true := by kernel_rfl
theorem b20 : BodyOk P 53 2 20 Tryd.f20 c20 := ⟨Tryd.func20, by kernel_rfl, by kernel_rfl, by kernel_rfl, by kernel_rfl, by kernel_rfl⟩
def v20_11110100 (I : Prims) (rnd : Option Nat) (τ : Tau) (ds : List Deferred) (s : St) (Q : Ex → WK) : Prop :=
 I.wop (.binOp .lss 3 (.const (τ 17)) (.const (.int .i64 8)) 3) 4 s fun v18_0 s0 =>
 wdec v18_0
 (I.wop (.load 53 (.const (τ 3))) 53 s0 fun v22_1 s1 =>
 I.wop (.build 94 ⟨[(0, (.const (.int .u8 3))), (7, (.const (τ 17))), (1, (.const v22_1))]⟩) 94 s1 fun v23_2 s2 =>
 I.wop (.buildSlice 32 1 ⟨[(0, (.const v23_2))]⟩) 32 s2 fun v24_3 s3 =>
 I.wop (.call ⟨.builtin .append, ⟨[(.const (τ 6)), (.const v24_3)]⟩, #[32, 32]⟩) 32 s3 fun v25_4 s4 =>
 I.wop (.nilCheck (.const (τ 0))) 0 s4 fun v27_5 s5 =>
 I.wop (.fieldAddr 81 (.const v27_5) 1) 0 s5 fun v28_6 s6 =>
 I.wop (.fieldAddr 34 (.const v28_6) 1) 0 s6 fun v29_7 s7 =>
 I.wop (.load 3 (.const v29_7)) 3 s7 fun v30_8 s8 =>
 I.wop (.binOp .mul 3 (.const (.int .i64 4)) (.const (τ 17)) 3) 3 s8 fun v32_9 s9 =>
 I.wop (.binOp .add 3 (.const v30_8) (.const v32_9) 3) 3 s9 fun v33_10 s10 =>
 I.wop (.binOp .add 3 (.const v33_10) (.const (.int .i64 1)) 3) 3 s10 fun v36_11 s11 =>
 I.wop (.binOp .add 3 (.const v33_10) (.const (.int .i64 2)) 3) 3 s11 fun v38_12 s12 =>
 I.wop (.binOp .add 3 (.const v33_10) (.const (.int .i64 3)) 3) 3 s12 fun v40_13 s13 =>
 I.wop (.build 53 ⟨[(0, (.const v33_10)), (1, (.const v36_11)), (2, (.const v38_12)), (3, (.const v40_13))]⟩) 53 s13 fun v41_14 s14 =>
 I.wop (.store 53 (.const (τ 3)) (.const v41_14)) 0 s14 fun _ s15 =>
 I.wop (.binOp .add 3 (.const (τ 17)) (.const (.int .i64 1)) 3) 3 s15 fun v42_16 s16 =>
 Q .normal (U τ [(17, v42_16), (42, v42_16), (41, v41_14), (40, v40_13), (39, v33_10), (38, v38_12), (37, v33_10), (36, v36_11), (35, v33_10), (34, v33_10), (8, v33_10), (33, v33_10), (32, v32_9), (31, (τ 17)), (30, v30_8), (29, v29_7), (28, v28_6), (27, v27_5), (26, (τ 0)), (6, v25_4), (25, v25_4), (24, v24_3), (23, v23_2), (22, v22_1), (21, (τ 17)), (20, (τ 6)), (7, (τ 17)), (19, (τ 17)), (18, (.bool true)), (18, v18_0)]) ds s16)
 (Q (.exit 0) (U τ [(18, (.bool false)), (18, v18_0)]) ds s0)
theorem x20_11110100 (I : Prims) (rnd : Option Nat) (τ : Tau) (ds : List Deferred) (s : St) (Q : Ex → WK) : xp I rnd 53 k20_11110100 c20_11110100 [] τ [] ds s (lift Q) = v20_11110100 I rnd τ ds s Q := by kernel_rfl
theorem n20_11110100 [Memo] (ro : Nat) (rnd : Option Nat) (τ : Tau) (ds : List Deferred) (s : St) (Q : Ex → WK) : wp P ro 53 rnd c20_11110100 τ ds s Q = v20_11110100 (prims P ro) rnd τ ds s Q := xp_wp rnd 53 P ro (x20_11110100 _ rnd τ ds s Q)
def v20 (I : Prims) (a0 a1 : Value) (si : St) (K : Value → St → Prop) : Prop :=
 I.wop (.box 53 (.const a1)) 0 (ent si) fun v3_0 s0 =>
 I.wop (.alloc 53) 0 s0 fun v4_1 s1 =>
 I.wop (.build 53 ⟨[(0, (.const (.int .i64 (-1)))), (1, (.const (.int .i64 (-1)))), (2, (.const (.int .i64 (-1)))), (3, (.const (.int .i64 (-1))))]⟩) 53 s1 fun v9_2 s2 =>
 I.wop (.alloc 53) 0 s2 fun v5_3 s3 =>
 I.wop (.store 53 (.const v5_3) (.const v9_2)) 0 s3 fun _ s4 =>
 I.wop (.slice 53 (.const v3_0) none none none) 30 s4 fun v12_5 s5 =>
 I.call 39 [a0, v12_5] s5 fun v13_6 s6 =>
 I.call 38 [a0, v13_6, (.slice none 0 0)] s6 fun v14_7 s7 =>
 I.wop (.unOp .not 4 (.const v14_7)) 4 s7 fun v15_8 s8 =>
 wdec v15_8
 (I.wop (.load 53 (.const v5_3)) 53 s8 fun v16_9 s9 =>
 I.wop (.store 53 (.const v4_1) (.const v16_9)) 0 s9 fun _ s10 =>
 I.wop (.load 53 (.const v4_1)) 53 s10 fun v4_11 _ =>
 I.fin si K v4_11 s10)
 (I.loop 53 none c20_11110100 (U undefT [(17, (.int .i64 0)), (6, (.slice none 0 0)), (15, (.bool false)), (15, v15_8), (14, v14_7), (13, v13_6), (12, v12_5), (11, a0), (10, a0), (5, v5_3), (9, v9_2), (4, v4_1), (3, v3_0), (0, a0), (1, a1)]) [] s8 (fun τ ds s => ((xleave I si Tryd.f20.results.toList K) .ret) τ [] ds s) [(0, fun τ12 ds12 s12 =>
 I.wop (.load 53 (.const (τ12 3))) 53 s12 fun v45_13 s13 =>
 I.wop (.build 94 ⟨[(1, (.const v45_13))]⟩) 94 s13 fun v46_14 s14 =>
 I.wop (.buildSlice 32 1 ⟨[(0, (.const v46_14))]⟩) 32 s14 fun v47_15 s15 =>
 I.wop (.call ⟨.builtin .append, ⟨[(.const (τ12 6)), (.const v47_15)]⟩, #[32, 32]⟩) 32 s15 fun v48_16 s16 =>
 I.call 62 [(τ12 0), (.int .i64 32), v48_16] s16 fun v49_17 s17 =>
 I.wop (.binOp .lss 3 (.const v49_17) (.const (.int .i64 0)) 3) 4 s17 fun v50_18 s18 =>
 wdec v50_18
 (I.wop (.load 53 (.const (τ12 5))) 53 s18 fun v51_19 s19 =>
 I.wop (.store 53 (.const (τ12 4)) (.const v51_19)) 0 s19 fun _ s20 =>
 xdefers I ds12 s20 fun s21 =>
 I.wop (.load 53 (.const (τ12 4))) 53 s21 fun v4_22 _ =>
 I.fin si K v4_22 s21)
 (I.wop (.load 53 (.const (τ12 3))) 53 s18 fun v52_23 s23 =>
 I.wop (.store 53 (.const (τ12 4)) (.const v52_23)) 0 s23 fun _ s24 =>
 xdefers I ds12 s24 fun s25 =>
 I.wop (.load 53 (.const (τ12 4))) 53 s25 fun v4_26 _ =>
 I.fin si K v4_26 s25))])
theorem x20 (I : Prims) (a0 a1 : Value) (si : St) (K : Value → St → Prop) : xbody I 53 k20 Tryd.f20 c20 [a0, a1] si K = v20 I a0 a1 si K := by kernel_rfl
theorem n20 [Memo] (ro : Nat) (a0 a1 : Value) (si : St) (K : Value → St → Prop) : wbody P ro 53 Tryd.f20 c20 [a0, a1] si K = v20 (prims P ro) a0 a1 si K := xbody_eq 53 P ro (x20 _ a0 a1 si K)
theorem r20 (I : Prims) (si : St) (K : Value → St → Prop) (τ : Tau) (ds : List Deferred) (s : St) : xleave I si Tryd.f20.results.toList K .ret τ [] ds s =
 (xdefers I ds s fun s0 =>
 I.wop (.load 53 (.const (τ 4))) 53 s0 fun v4_1 _ =>
 I.fin si K v4_1 s0) := by kernel_rfl
/- (*attestor/circuit.Builder).Const -/
noncomputable def c22 : Code := bodyOf Tryd.f22
def k22 : List (List Nat) := []
theorem b22 : BodyOk P 22 2 22 Tryd.f22 c22 := ⟨Tryd.func22, by kernel_rfl, by kernel_rfl, by kernel_rfl, by kernel_rfl, by kernel_rfl⟩
def v22 (I : Prims) (a0 a1 : Value) (si : St) (K : Value → St → Prop) : Prop :=
 I.wop (.buildSlice 23 1 ⟨[(0, (.const a1))]⟩) 23 (ent si) fun v7_0 s0 =>
 I.call 38 [a0, (.bool true), v7_0] s0 fun v8_1 s1 =>
 I.wop (.unOp .not 4 (.const v8_1)) 4 s1 fun v9_2 s2 =>
 wdec v9_2
 (I.fin si K (.int .i64 (-1)) s2)
 (I.wop (.nilCheck (.const a0)) 0 s2 fun v12_3 s3 =>
 I.wop (.fieldAddr 81 (.const v12_3) 1) 0 s3 fun v13_4 s4 =>
 I.wop (.fieldAddr 34 (.const v13_4) 1) 0 s4 fun v14_5 s5 =>
 I.wop (.load 3 (.const v14_5)) 3 s5 fun v15_6 s6 =>
 veq v15_6 v15_6 = true ∧ I.call 44 [a0] s6 fun v17_7 s7 =>
 Keeps [(5, .ptr v14_5)] s6 s7 ∧ I.call 63 [(.int .i64 (-1)), (.int .i64 (-1)), v15_6, (.int .u64 0), (.int .u64 0), (.int .u64 0), v17_7, a1] s7 fun v19_8 s8 =>
 s7.n ≤ s8.n ∧ I.wop (.buildSlice 32 1 ⟨[(0, (.const v19_8))]⟩) 32 s8 fun v20_9 s9 =>
 FreshOk s8 s9 ∧ I.call 62 [a0, (.int .i64 1), v20_9] s9 fun v21_10 s10 =>
 s9.n ≤ s10.n ∧ I.fin si K v21_10 s10)
theorem x22 (I : Prims) (a0 a1 : Value) (si : St) (K : Value → St → Prop) : xbody I 22 k22 Tryd.f22 c22 [a0, a1] si K = v22 I a0 a1 si K := by kernel_rfl
theorem n22 [Memo] (ro : Nat) (a0 a1 : Value) (si : St) (K : Value → St → Prop) : wbody P ro 22 Tryd.f22 c22 [a0, a1] si K = v22 (prims P ro) a0 a1 si K := xbody_eq 22 P ro (x22 _ a0 a1 si K)
/- (*attestor/circuit.Builder).Err -/
noncomputable def c23 : Code := bodyOf Tryd.f23
def k23 : List (List Nat) := []
theorem b23 : BodyOk P 16 1 23 Tryd.f23 c23 := ⟨Tryd.func23, by kernel_rfl, by kernel_rfl, by kernel_rfl, by kernel_rfl, by kernel_rfl⟩
def v23 (I : Prims) (a0 : Value) (si : St) (K : Value → St → Prop) : Prop :=
 I.wop (.binOp .eql 25 (.const a0) (.const (.pointer none)) 25) 4 (ent si) fun v4_0 s0 =>
 wdec v4_0
 (I.fin si K (.int .i64 10) s0)
 (I.wop (.nilCheck (.const a0)) 0 s0 fun v7_1 s1 =>
 I.wop (.fieldAddr 81 (.const v7_1) 0) 0 s1 fun v8_2 s2 =>
 I.wop (.load 4 (.const v8_2)) 4 s2 fun v9_3 s3 =>
 I.wop (.unOp .not 4 (.const v9_3)) 4 s3 fun v10_4 s4 =>
 wdec v10_4
 (I.fin si K (.int .i64 10) s4)
 (I.wop (.nilCheck (.const a0)) 0 s4 fun v13_5 s5 =>
 I.wop (.fieldAddr 81 (.const v13_5) 2) 0 s5 fun v14_6 s6 =>
 I.wop (.load 26 (.const v14_6)) 26 s6 fun v15_7 s7 =>
 I.fin si K v15_7 s7))
theorem x23 (I : Prims) (a0 : Value) (si : St) (K : Value → St → Prop) : xbody I 16 k23 Tryd.f23 c23 [a0] si K = v23 I a0 si K := by kernel_rfl
theorem n23 [Memo] (ro : Nat) (a0 : Value) (si : St) (K : Value → St → Prop) : wbody P ro 16 Tryd.f23 c23 [a0] si K = v23 (prims P ro) a0 si K := xbody_eq 16 P ro (x23 _ a0 si K)
/- (*attestor/circuit.Builder).Hash -/
noncomputable def c24 : Code := bodyOf Tryd.f24
noncomputable def c24_111111 : Code := subCode [1, 1, 1, 1, 1, 1] c24
noncomputable def c24_1111110100 : Code := subCode [1, 1, 1, 1, 1, 1, 0, 1, 0, 0] c24
noncomputable def c24_1111110101 : Code := subCode [1, 1, 1, 1, 1, 1, 0, 1, 0, 1] c24
def k24 : List (List Nat) := [[1, 1, 1, 1, 1, 1]]
def k24_1111110100 : List (List Nat) := []
theorem l24_1111110100 : ltCode 71 c24_1111110100 = true := by kernel_rfl
def k24_1111110101 : List (List Nat) := []
theorem l24_1111110101 : ltCode 71 c24_1111110101 = true := by kernel_rfl
theorem b24 : BodyOk P 71 2 24 Tryd.f24 c24 := ⟨Tryd.func24, by kernel_rfl, by kernel_rfl, by kernel_rfl, by kernel_rfl, by kernel_rfl⟩
def v24_111111 (I : Prims) (τ : Tau) (ds : List Deferred) (s : St) (Q : Ex → XK) : Prop :=
 I.call 65 [(τ 1), (.int .i64 2)] s fun v41_0 s0 =>
 I.range 71 none v41_0 #[42] c24_1111110100 c24_1111110101 (U τ [(41, v41_0), (40, (τ 1))]) ds s0 (fun τ1 ds1 s1 =>
 I.wop (.load 25 (.const (τ1 2))) 25 s1 fun v65_2 s2 =>
 I.wop (.indexAddr 53 (.const (τ1 6)) (.const (.int .i64 0))) 0 s2 fun v66_3 s3 =>
 I.wop (.load 3 (.const v66_3)) 3 s3 fun v67_4 s4 =>
 I.wop (.indexAddr 53 (.const (τ1 6)) (.const (.int .i64 1))) 0 s4 fun v68_5 s5 =>
 I.wop (.load 3 (.const v68_5)) 3 s5 fun v69_6 s6 =>
 I.call 57 [v65_2, v67_4, v69_6] s6 fun v70_7 s7 =>
 I.wop (.store 47 (.const (τ1 4)) (.const v70_7)) 0 s7 fun _ s8 =>
 Q .ret τ1 [(70, v70_7), (69, v69_6), (68, v68_5), (67, v67_4), (66, v66_3), (65, v65_2)] ds1 s8) (fun τ ds s => (Q .ret) τ [] ds s) []
theorem n24_111111 (I : Prims) (τ : Tau) (ds : List Deferred) (s : St) (Q : Ex → XK) : xp I none 71 k24 c24_111111 [1, 1, 1, 1, 1, 1] τ [] ds s Q = v24_111111 I τ ds s Q := by kernel_rfl
def v24_1111110100 (I : Prims) (rnd : Option Nat) (τ : Tau) (ds : List Deferred) (s : St) (Q : Ex → WK) : Prop :=
 Q .normal (U τ [(7, (τ 42))]) ds s
theorem x24_1111110100 (I : Prims) (rnd : Option Nat) (τ : Tau) (ds : List Deferred) (s : St) (Q : Ex → WK) : xp I rnd 71 k24_1111110100 c24_1111110100 [] τ [] ds s (lift Q) = v24_1111110100 I rnd τ ds s Q := by kernel_rfl
theorem n24_1111110100 [Memo] (ro : Nat) (rnd : Option Nat) (τ : Tau) (ds : List Deferred) (s : St) (Q : Ex → WK) : wp P ro 71 rnd c24_1111110100 τ ds s Q = v24_1111110100 (prims P ro) rnd τ ds s Q := xp_wp rnd 71 P ro (x24_1111110100 _ rnd τ ds s Q)
def v24_1111110101 (I : Prims) (rnd : Option Nat) (τ : Tau) (ds : List Deferred) (s : St) (Q : Ex → WK) : Prop :=
 I.wop (.load 25 (.const (τ 2))) 25 s fun v43_0 s0 =>
 veq v43_0 v43_0 = true ∧ I.wop (.indexAddr 53 (.const (τ 6)) (.const (.int .i64 0))) 0 s0 fun v44_1 s1 =>
 I.wop (.load 3 (.const v44_1)) 3 s1 fun v45_2 s2 =>
 veq v45_2 v45_2 = true ∧ I.wop (.indexAddr 30 (.const (τ 7)) (.const (.int .i64 0))) 0 s2 fun v47_3 s3 =>
 I.wop (.load 3 (.const v47_3)) 3 s3 fun v48_4 s4 =>
 veq v48_4 v48_4 = true ∧ I.call 43 [v43_0, v45_2, v48_4, (.int .u64 1), (.int .u64 1), (.int .u64 0)] s4 fun v49_5 s5 =>
 I.wop (.indexAddr 53 (.const (τ 6)) (.const (.int .i64 0))) 0 s5 fun v50_6 s6 =>
 I.wop (.store 3 (.const v50_6) (.const v49_5)) 0 s6 fun _ s7 =>
 I.wop (.call ⟨.builtin .len, ⟨[(.const (τ 7))]⟩, #[30]⟩) 3 s7 fun v52_8 s8 =>
 I.wop (.binOp .eql 3 (.const v52_8) (.const (.int .i64 2)) 3) 4 s8 fun v53_9 s9 =>
 wdec v53_9
 (I.wop (.load 25 (.const (τ 2))) 25 s9 fun v54_10 s10 =>
 veq v54_10 v54_10 = true ∧ I.wop (.indexAddr 53 (.const (τ 6)) (.const (.int .i64 1))) 0 s10 fun v55_11 s11 =>
 I.wop (.load 3 (.const v55_11)) 3 s11 fun v56_12 s12 =>
 veq v56_12 v56_12 = true ∧ I.wop (.indexAddr 30 (.const (τ 7)) (.const (.int .i64 1))) 0 s12 fun v58_13 s13 =>
 I.wop (.load 3 (.const v58_13)) 3 s13 fun v59_14 s14 =>
 veq v59_14 v59_14 = true ∧ I.call 43 [v54_10, v56_12, v59_14, (.int .u64 1), (.int .u64 1), (.int .u64 0)] s14 fun v60_15 s15 =>
 I.wop (.indexAddr 53 (.const (τ 6)) (.const (.int .i64 1))) 0 s15 fun v61_16 s16 =>
 I.wop (.store 3 (.const v61_16) (.const v60_15)) 0 s16 fun _ s17 =>
 I.wop (.load 25 (.const (τ 2))) 25 s17 fun v62_18 s18 =>
 I.wop (.load 53 (.const (τ 6))) 53 s18 fun v63_19 s19 =>
 I.call 20 [v62_18, v63_19] s19 fun v64_20 s20 =>
 I.wop (.store 53 (.const (τ 6)) (.const v64_20)) 0 s20 fun _ s21 =>
 Q .normal (U τ [(64, v64_20), (63, v63_19), (62, v62_18), (61, v61_16), (60, v60_15), (59, v59_14), (58, v58_13), (57, (τ 7)), (56, v56_12), (55, v55_11), (54, v54_10), (53, (.bool true)), (53, v53_9), (52, v52_8), (51, (τ 7)), (50, v50_6), (49, v49_5), (48, v48_4), (47, v47_3), (46, (τ 7)), (45, v45_2), (44, v44_1), (43, v43_0)]) ds s21)
 (I.wop (.load 25 (.const (τ 2))) 25 s9 fun v62_22 s22 =>
 I.wop (.load 53 (.const (τ 6))) 53 s22 fun v63_23 s23 =>
 I.call 20 [v62_22, v63_23] s23 fun v64_24 s24 =>
 I.wop (.store 53 (.const (τ 6)) (.const v64_24)) 0 s24 fun _ s25 =>
 Q .normal (U τ [(64, v64_24), (63, v63_23), (62, v62_22), (53, (.bool false)), (53, v53_9), (52, v52_8), (51, (τ 7)), (50, v50_6), (49, v49_5), (48, v48_4), (47, v47_3), (46, (τ 7)), (45, v45_2), (44, v44_1), (43, v43_0)]) ds s25)
theorem x24_1111110101 (I : Prims) (rnd : Option Nat) (τ : Tau) (ds : List Deferred) (s : St) (Q : Ex → WK) : xp I rnd 71 k24_1111110101 c24_1111110101 [] τ [] ds s (lift Q) = v24_1111110101 I rnd τ ds s Q := by kernel_rfl
theorem n24_1111110101 [Memo] (ro : Nat) (rnd : Option Nat) (τ : Tau) (ds : List Deferred) (s : St) (Q : Ex → WK) : wp P ro 71 rnd c24_1111110101 τ ds s Q = v24_1111110101 (prims P ro) rnd τ ds s Q := xp_wp rnd 71 P ro (x24_1111110101 _ rnd τ ds s Q)
def v24 (I : Prims) (a0 a1 : Value) (si : St) (K : Value → St → Prop) : Prop :=
 I.wop (.box 25 (.const a0)) 0 (ent si) fun v2_0 s0 =>
 I.wop (.alloc 47) 0 s0 fun v4_1 s1 =>
 I.wop (.load 25 (.const v2_0)) 25 s1 fun v8_2 s2 =>
 veq v8_2 v8_2 = true ∧ I.wop (.load 25 (.const v2_0)) 25 s2 fun v9_3 s3 =>
 veq v9_3 v9_3 = true ∧ I.call 39 [v9_3, a1] s3 fun v11_4 s4 =>
 Keeps [(0, .ptr v2_0)] s3 s4 ∧ I.call 38 [v8_2, v11_4, (.slice none 0 0)] s4 fun v12_5 s5 =>
 I.wop (.unOp .not 4 (.const v12_5)) 4 s5 fun v13_6 s6 =>
 wdec v13_6
 (I.wop (.build 47 ⟨[(0, (.const (.int .i64 (-1)))), (1, (.const (.int .i64 (-1))))]⟩) 47 s6 fun v14_7 s7 =>
 I.wop (.store 47 (.const v4_1) (.const v14_7)) 0 s7 fun _ s8 =>
 I.wop (.load 47 (.const v4_1)) 47 s8 fun v4_9 _ =>
 I.fin si K v4_9 s8)
 (I.wop (.load 25 (.const v2_0)) 25 s6 fun v15_10 s10 =>
 I.call 40 [v15_10] s10 fun v16_11 s11 =>
 (none : Option Nat) = none ∧ I.wdefer (.defer ⟨.value (.const v16_11), ⟨[]⟩, #[]⟩) 0 s11 fun d12 s12 =>
 I.wop (.load 25 (.const v2_0)) 25 s12 fun v17_13 s13 =>
 I.call 22 [v17_13, (.int .u64 0)] s13 fun v18_14 s14 =>
 I.wop (.load 25 (.const v2_0)) 25 s14 fun v21_15 s15 =>
 veq v21_15 v21_15 = true ∧ I.wop (.load 25 (.const v2_0)) 25 s15 fun v22_16 s16 =>
 veq v22_16 v22_16 = true ∧ I.wop (.nilCheck (.const v22_16)) 0 s16 fun v23_17 s17 =>
 I.wop (.fieldAddr 81 (.const v23_17) 1) 0 s17 fun v24_18 s18 =>
 I.wop (.fieldAddr 34 (.const v24_18) 0) 0 s18 fun v25_19 s19 =>
 I.wop (.load 3 (.const v25_19)) 3 s19 fun v26_20 s20 =>
 veq v26_20 v26_20 = true ∧ I.wop (.call ⟨.builtin .len, ⟨[(.const a1)]⟩, #[30]⟩) 3 s20 fun v28_21 s21 =>
 I.wop (.convert 3 24 (.const v28_21)) 24 s21 fun v29_22 s22 =>
 s22 = s21 ∧ veq v29_22 v29_22 = true ∧ I.wop (.alloc 53) 0 s22 fun v6_23 s23 =>
 FreshOk s22 s23 ∧ I.call 64 [v26_20, v29_22, (.int .u64 0)] s23 fun v30_24 s24 =>
 Keeps [(15, .blk s22.n), (2, .ptr v2_0)] s23 s24 ∧ I.call 22 [v21_15, v30_24] s24 fun v31_25 s25 =>
 Keeps [(15, .blk s22.n)] s24 s25 ∧ I.wop (.build 53 ⟨[(0, (.const v18_14)), (1, (.const v18_14)), (2, (.const v31_25)), (3, (.const v18_14))]⟩) 53 s25 fun v33_26 s26 =>
 I.wop (.store 53 (.const v6_23) (.const v33_26)) 0 s26 fun _ s27 =>
 s26.n ≤ s27.n ∧ I.wop (.call ⟨.builtin .len, ⟨[(.const a1)]⟩, #[30]⟩) 3 s27 fun v35_28 s28 =>
 I.wop (.binOp .eql 3 (.const v35_28) (.const (.int .i64 0)) 3) 4 s28 fun v36_29 s29 =>
 wdec v36_29
 (I.wop (.load 25 (.const v2_0)) 25 s29 fun v37_30 s30 =>
 I.wop (.load 53 (.const v6_23)) 53 s30 fun v38_31 s31 =>
 I.call 20 [v37_30, v38_31] s31 fun v39_32 s32 =>
 I.wop (.store 53 (.const v6_23) (.const v39_32)) 0 s32 fun _ s33 =>
 I.hold (xp I none 71 k24 c24_111111 [1, 1, 1, 1, 1, 1] (U undefT [(39, v39_32), (38, v38_31), (37, v37_30), (36, (.bool true)), (36, v36_29), (35, v35_28), (34, a1), (33, v33_26), (31, v31_25), (30, v30_24), (6, v6_23), (32, v18_14), (29, v29_22), (28, v28_21), (27, a1), (26, v26_20), (25, v25_19), (24, v24_18), (23, v23_17), (22, v22_16), (21, v21_15), (20, v18_14), (19, v18_14), (5, v18_14), (18, v18_14), (17, v17_13), (16, v16_11), (15, v15_10), (13, (.bool false)), (13, v13_6), (12, v12_5), (11, v11_4), (10, a1), (9, v9_3), (8, v8_2), (4, v4_1), (2, v2_0), (0, a0), (1, a1)]) [] (d12 :: []) s33 (xleave I si Tryd.f24.results.toList K)))
 (I.hold (xp I none 71 k24 c24_111111 [1, 1, 1, 1, 1, 1] (U undefT [(36, (.bool false)), (36, v36_29), (35, v35_28), (34, a1), (33, v33_26), (31, v31_25), (30, v30_24), (6, v6_23), (32, v18_14), (29, v29_22), (28, v28_21), (27, a1), (26, v26_20), (25, v25_19), (24, v24_18), (23, v23_17), (22, v22_16), (21, v21_15), (20, v18_14), (19, v18_14), (5, v18_14), (18, v18_14), (17, v17_13), (16, v16_11), (15, v15_10), (13, (.bool false)), (13, v13_6), (12, v12_5), (11, v11_4), (10, a1), (9, v9_3), (8, v8_2), (4, v4_1), (2, v2_0), (0, a0), (1, a1)]) [] (d12 :: []) s29 (xleave I si Tryd.f24.results.toList K))))
theorem x24 (I : Prims) (a0 a1 : Value) (si : St) (K : Value → St → Prop) : xbody I 71 k24 Tryd.f24 c24 [a0, a1] si K = v24 I a0 a1 si K := by kernel_rfl
theorem n24 [Memo] (ro : Nat) (a0 a1 : Value) (si : St) (K : Value → St → Prop) : wbody P ro 71 Tryd.f24 c24 [a0, a1] si K = v24 (prims P ro) a0 a1 si K := xbody_eq 71 P ro (x24 _ a0 a1 si K)
theorem r24 (I : Prims) (si : St) (K : Value → St → Prop) (τ : Tau) (ds : List Deferred) (s : St) : xleave I si Tryd.f24.results.toList K .ret τ [] ds s =
 (xdefers I ds s fun s0 =>
 I.wop (.load 47 (.const (τ 4))) 47 s0 fun v4_1 _ =>
 I.fin si K v4_1 s0) := by kernel_rfl
/- (*attestor/circuit.Builder).Absorb -/
noncomputable def c25 : Code := bodyOf Tryd.f25
noncomputable def c25_11 : Code := subCode [1, 1] c25
def k25 : List (List Nat) := [[1, 1]]
theorem b25 : BodyOk P 38 3 25 Tryd.f25 c25 := ⟨Tryd.func25, by kernel_rfl, by kernel_rfl, by kernel_rfl, by kernel_rfl, by kernel_rfl⟩
def v25_11 (I : Prims) (τ : Tau) (ds : List Deferred) (s : St) (Q : Ex → XK) : Prop :=
 I.call 40 [(τ 0)] s fun v21_0 s0 =>
 (none : Option Nat) = none ∧ I.wdefer (.defer ⟨.value (.const v21_0), ⟨[]⟩, #[]⟩) 0 s0 fun d1 s1 =>
 I.wop (.indexAddr 53 (.const (τ 4)) (.const (.int .i64 0))) 0 s1 fun v23_2 s2 =>
 I.wop (.load 3 (.const v23_2)) 3 s2 fun v24_3 s3 =>
 I.call 43 [(τ 0), v24_3, (τ 2), (.int .u64 1), (.int .u64 1), (.int .u64 0)] s3 fun v26_4 s4 =>
 I.wop (.indexAddr 53 (.const (τ 4)) (.const (.int .i64 0))) 0 s4 fun v27_5 s5 =>
 I.wop (.store 3 (.const v27_5) (.const v26_4)) 0 s5 fun _ s6 =>
 I.wop (.indexAddr 53 (.const (τ 4)) (.const (.int .i64 1))) 0 s6 fun v29_7 s7 =>
 I.wop (.load 3 (.const v29_7)) 3 s7 fun v30_8 s8 =>
 I.wop (.indexAddr 53 (.const (τ 4)) (.const (.int .i64 1))) 0 s8 fun v31_9 s9 =>
 I.wop (.load 3 (.const v31_9)) 3 s9 fun v32_10 s10 =>
 I.call 43 [(τ 0), v30_8, v32_10, (.int .u64 1), (.int .u64 0), (.int .u64 1)] s10 fun v33_11 s11 =>
 I.wop (.indexAddr 53 (.const (τ 4)) (.const (.int .i64 1))) 0 s11 fun v34_12 s12 =>
 I.wop (.store 3 (.const v34_12) (.const v33_11)) 0 s12 fun _ s13 =>
 I.wop (.load 53 (.const (τ 4))) 53 s13 fun v36_14 s14 =>
 I.call 20 [(τ 0), v36_14] s14 fun v37_15 s15 =>
 I.wop (.store 53 (.const (τ 6)) (.const v37_15)) 0 s15 fun _ s16 =>
 Q .ret τ [(37, v37_15), (36, v36_14), (35, (τ 0)), (34, v34_12), (33, v33_11), (32, v32_10), (31, v31_9), (30, v30_8), (29, v29_7), (28, (τ 0)), (27, v27_5), (26, v26_4), (25, (τ 2)), (24, v24_3), (23, v23_2), (22, (τ 0)), (21, v21_0), (20, (τ 0))] (d1 :: ds) s16
theorem n25_11 (I : Prims) (τ : Tau) (ds : List Deferred) (s : St) (Q : Ex → XK) : xp I none 38 k25 c25_11 [1, 1] τ [] ds s Q = v25_11 I τ ds s Q := by kernel_rfl
def v25 (I : Prims) (a0 a1 a2 : Value) (si : St) (K : Value → St → Prop) : Prop :=
 I.wop (.box 53 (.const a1)) 0 (ent si) fun v4_0 s0 =>
 I.wop (.alloc 53) 0 s0 fun v6_1 s1 =>
 I.wop (.slice 53 (.const v4_0) none none none) 30 s1 fun v9_2 s2 =>
 I.call 39 [a0, v9_2] s2 fun v10_3 s3 =>
 wdec v10_3
 (I.wop (.buildSlice 30 1 ⟨[(0, (.const a2))]⟩) 30 s3 fun v14_4 s4 =>
 I.call 39 [a0, v14_4] s4 fun v15_5 s5 =>
 I.call 38 [a0, v15_5, (.slice none 0 0)] s5 fun v17_6 s6 =>
 I.wop (.unOp .not 4 (.const v17_6)) 4 s6 fun v18_7 s7 =>
 wdec v18_7
 (I.wop (.build 53 ⟨[(0, (.const (.int .i64 (-1)))), (1, (.const (.int .i64 (-1)))), (2, (.const (.int .i64 (-1)))), (3, (.const (.int .i64 (-1))))]⟩) 53 s7 fun v19_8 s8 =>
 I.wop (.store 53 (.const v6_1) (.const v19_8)) 0 s8 fun _ s9 =>
 I.wop (.load 53 (.const v6_1)) 53 s9 fun v6_10 _ =>
 I.fin si K v6_10 s9)
 (I.hold (xp I none 38 k25 c25_11 [1, 1] (U undefT [(18, (.bool false)), (18, v18_7), (17, v17_6), (16, v15_5), (11, (.bool true)), (15, v15_5), (11, (.bool true)), (14, v14_4), (11, (.bool true)), (13, a2), (11, (.bool true)), (12, a0), (11, (.bool true)), (11, v10_3), (10, v10_3), (9, v9_2), (8, a0), (7, a0), (6, v6_1), (4, v4_0), (0, a0), (1, a1), (2, a2)]) [] [] s7 (xleave I si Tryd.f25.results.toList K))))
 (I.call 38 [a0, (.bool false), (.slice none 0 0)] s3 fun v17_11 s11 =>
 I.wop (.unOp .not 4 (.const v17_11)) 4 s11 fun v18_12 s12 =>
 wdec v18_12
 (I.wop (.build 53 ⟨[(0, (.const (.int .i64 (-1)))), (1, (.const (.int .i64 (-1)))), (2, (.const (.int .i64 (-1)))), (3, (.const (.int .i64 (-1))))]⟩) 53 s12 fun v19_13 s13 =>
 I.wop (.store 53 (.const v6_1) (.const v19_13)) 0 s13 fun _ s14 =>
 I.wop (.load 53 (.const v6_1)) 53 s14 fun v6_15 _ =>
 I.fin si K v6_15 s14)
 (I.hold (xp I none 38 k25 c25_11 [1, 1] (U undefT [(18, (.bool false)), (18, v18_12), (17, v17_11), (16, (.bool false)), (11, (.bool false)), (15, undef), (11, (.bool false)), (14, undef), (11, (.bool false)), (13, undef), (11, (.bool false)), (12, undef), (11, (.bool false)), (11, v10_3), (10, v10_3), (9, v9_2), (8, a0), (7, a0), (6, v6_1), (4, v4_0), (0, a0), (1, a1), (2, a2)]) [] [] s12 (xleave I si Tryd.f25.results.toList K))))
theorem x25 (I : Prims) (a0 a1 a2 : Value) (si : St) (K : Value → St → Prop) : xbody I 38 k25 Tryd.f25 c25 [a0, a1, a2] si K = v25 I a0 a1 a2 si K := by kernel_rfl
theorem n25 [Memo] (ro : Nat) (a0 a1 a2 : Value) (si : St) (K : Value → St → Prop) : wbody P ro 38 Tryd.f25 c25 [a0, a1, a2] si K = v25 (prims P ro) a0 a1 a2 si K := xbody_eq 38 P ro (x25 _ a0 a1 a2 si K)
theorem r25 (I : Prims) (si : St) (K : Value → St → Prop) (τ : Tau) (ds : List Deferred) (s : St) : xleave I si Tryd.f25.results.toList K .ret τ [] ds s =
 (xdefers I ds s fun s0 =>
 I.wop (.load 53 (.const (τ 6))) 53 s0 fun v6_1 _ =>
 I.fin si K v6_1 s0) := by kernel_rfl
/- (*attestor/circuit.Builder).Draw -/
noncomputable def c26 : Code := bodyOf Tryd.f26
def k26 : List (List Nat) := []
theorem b26 : BodyOk P 28 2 26 Tryd.f26 c26 := ⟨Tryd.func26, by kernel_rfl, by kernel_rfl, by kernel_rfl, by kernel_rfl, by kernel_rfl⟩
def v26 (I : Prims) (a0 a1 : Value) (si : St) (K : Value → St → Prop) : Prop :=
 I.wop (.box 53 (.const a1)) 0 (ent si) fun v3_0 s0 =>
 I.wop (.alloc 53) 0 s0 fun v4_1 s1 =>
 I.wop (.slice 53 (.const v3_0) none none none) 30 s1 fun v8_2 s2 =>
 I.call 39 [a0, v8_2] s2 fun v9_3 s3 =>
 I.call 38 [a0, v9_3, (.slice none 0 0)] s3 fun v10_4 s4 =>
 I.wop (.unOp .not 4 (.const v10_4)) 4 s4 fun v11_5 s5 =>
 wdec v11_5
 (I.wop (.build 53 ⟨[(0, (.const (.int .i64 (-1)))), (1, (.const (.int .i64 (-1)))), (2, (.const (.int .i64 (-1)))), (3, (.const (.int .i64 (-1))))]⟩) 53 s5 fun v12_6 s6 =>
 I.wop (.store 53 (.const v4_1) (.const v12_6)) 0 s6 fun _ s7 =>
 I.wop (.load 53 (.const v4_1)) 53 s7 fun v4_8 _ =>
 I.fin si K (.tuple (.mk [v4_8, (.int .i64 (-1))])) s7)
 (I.call 40 [a0] s5 fun v14_9 s9 =>
 (none : Option Nat) = none ∧ I.wdefer (.defer ⟨.value (.const v14_9), ⟨[]⟩, #[]⟩) 0 s9 fun d10 s10 =>
 I.wop (.indexAddr 53 (.const v3_0) (.const (.int .i64 1))) 0 s10 fun v16_11 s11 =>
 I.wop (.load 3 (.const v16_11)) 3 s11 fun v17_12 s12 =>
 I.wop (.indexAddr 53 (.const v3_0) (.const (.int .i64 1))) 0 s12 fun v18_13 s13 =>
 I.wop (.load 3 (.const v18_13)) 3 s13 fun v19_14 s14 =>
 I.call 43 [a0, v17_12, v19_14, (.int .u64 1), (.int .u64 0), (.int .u64 2)] s14 fun v20_15 s15 =>
 I.wop (.indexAddr 53 (.const v3_0) (.const (.int .i64 1))) 0 s15 fun v21_16 s16 =>
 I.wop (.store 3 (.const v21_16) (.const v20_15)) 0 s16 fun _ s17 =>
 I.wop (.load 53 (.const v3_0)) 53 s17 fun v23_18 s18 =>
 I.call 20 [a0, v23_18] s18 fun v24_19 s19 =>
 I.wop (.store 53 (.const v3_0) (.const v24_19)) 0 s19 fun _ s20 =>
 I.wop (.load 53 (.const v3_0)) 53 s20 fun v25_21 s21 =>
 veq v25_21 v25_21 = true ∧ I.wop (.indexAddr 53 (.const v3_0) (.const (.int .i64 0))) 0 s21 fun v26_22 s22 =>
 I.wop (.load 3 (.const v26_22)) 3 s22 fun v27_23 s23 =>
 veq v27_23 v27_23 = true ∧ I.wop (.store 53 (.const v4_1) (.const v25_21)) 0 s23 fun _ s24 =>
 Keeps [(2, .ptr v26_22)] s23 s24 ∧ xdefers I (d10 :: []) s24 fun s25 =>
 I.wop (.load 53 (.const v4_1)) 53 s25 fun v4_26 _ =>
 I.fin si K (.tuple (.mk [v4_26, v27_23])) s25)
theorem x26 (I : Prims) (a0 a1 : Value) (si : St) (K : Value → St → Prop) : xbody I 28 k26 Tryd.f26 c26 [a0, a1] si K = v26 I a0 a1 si K := by kernel_rfl
theorem n26 [Memo] (ro : Nat) (a0 a1 : Value) (si : St) (K : Value → St → Prop) : wbody P ro 28 Tryd.f26 c26 [a0, a1] si K = v26 (prims P ro) a0 a1 si K := xbody_eq 28 P ro (x26 _ a0 a1 si K)
/- attestor/attestorref06.Hash -/
noncomputable def c27 : Code := bodyOf Tryd.f27
noncomputable def c27_1111 : Code := subCode [1, 1, 1, 1] c27
noncomputable def c27_11110100 : Code := subCode [1, 1, 1, 1, 0, 1, 0, 0] c27
def k27 : List (List Nat) := [[1, 1, 1, 1]]
def k27_11110100 : List (List Nat) := []
theorem l27_11110100 : ltCode 61 c27_11110100 = true := by kernel_rfl
theorem m27_11110100 : notMap c27_11110100 = true := by kernel_rfl
theorem b27 : BodyOk P 61 2 27 Tryd.f27 c27 := ⟨Tryd.func27, by kernel_rfl, by kernel_rfl, by kernel_rfl, by kernel_rfl, by kernel_rfl⟩
def v27_1111 (I : Prims) (τ : Tau) (ds : List Deferred) (s : St) (Q : Ex → XK) : Prop :=
 I.loop 61 none c27_11110100 (U τ [(6, (.int .i64 0))]) ds s (fun τ ds s => (Q .ret) τ [] ds s) [(0, fun τ0 ds0 s0 =>
 I.wop (.indexAddr 58 (.const (τ0 5)) (.const (.int .i64 0))) 0 s0 fun v56_1 s1 =>
 I.wop (.load 24 (.const v56_1)) 24 s1 fun v57_2 s2 =>
 I.wop (.indexAddr 58 (.const (τ0 5)) (.const (.int .i64 1))) 0 s2 fun v58_3 s3 =>
 I.wop (.load 24 (.const v58_3)) 24 s3 fun v59_4 s4 =>
 I.wop (.build 43 ⟨[(0, (.const v57_2)), (1, (.const v59_4))]⟩) 43 s4 fun v60_5 s5 =>
 I.wop (.store 43 (.const (τ0 4)) (.const v60_5)) 0 s5 fun _ s6 =>
 Q .ret τ0 [(60, v60_5), (59, v59_4), (58, v58_3), (57, v57_2), (56, v56_1)] ds0 s6)]
theorem n27_1111 (I : Prims) (τ : Tau) (ds : List Deferred) (s : St) (Q : Ex → XK) : xp I none 61 k27 c27_1111 [1, 1, 1, 1] τ [] ds s Q = v27_1111 I τ ds s Q := by kernel_rfl
def v27_11110100 (I : Prims) (rnd : Option Nat) (τ : Tau) (ds : List Deferred) (s : St) (Q : Ex → WK) : Prop :=
 I.wop (.call ⟨.builtin .len, ⟨[(.const (τ 1))]⟩, #[23]⟩) 3 s fun v25_0 s0 =>
 I.wop (.binOp .lss 3 (.const (τ 6)) (.const v25_0) 3) 4 s0 fun v26_1 s1 =>
 wdec v26_1
 (I.wop (.indexAddr 58 (.const (τ 5)) (.const (.int .i64 0))) 0 s1 fun v30_2 s2 =>
 I.wop (.load 24 (.const v30_2)) 24 s2 fun v31_3 s3 =>
 veq v31_3 v31_3 = true ∧ I.wop (.indexAddr 23 (.const (τ 1)) (.const (τ 6))) 0 s3 fun v34_4 s4 =>
 I.wop (.load 24 (.const v34_4)) 24 s4 fun v35_5 s5 =>
 veq v35_5 v35_5 = true ∧ I.call 66 [(τ 0), v31_3, v35_5] s5 fun v36_6 s6 =>
 I.wop (.indexAddr 58 (.const (τ 5)) (.const (.int .i64 0))) 0 s6 fun v37_7 s7 =>
 I.wop (.store 24 (.const v37_7) (.const v36_6)) 0 s7 fun _ s8 =>
 I.wop (.binOp .add 3 (.const (τ 6)) (.const (.int .i64 1)) 3) 3 s8 fun v39_9 s9 =>
 I.wop (.call ⟨.builtin .len, ⟨[(.const (τ 1))]⟩, #[23]⟩) 3 s9 fun v41_10 s10 =>
 I.wop (.binOp .lss 3 (.const v39_9) (.const v41_10) 3) 4 s10 fun v42_11 s11 =>
 wdec v42_11
 (I.wop (.indexAddr 58 (.const (τ 5)) (.const (.int .i64 1))) 0 s11 fun v44_12 s12 =>
 I.wop (.load 24 (.const v44_12)) 24 s12 fun v45_13 s13 =>
 veq v45_13 v45_13 = true ∧ I.wop (.binOp .add 3 (.const (τ 6)) (.const (.int .i64 1)) 3) 3 s13 fun v48_14 s14 =>
 I.wop (.indexAddr 23 (.const (τ 1)) (.const v48_14)) 0 s14 fun v49_15 s15 =>
 I.wop (.load 24 (.const v49_15)) 24 s15 fun v50_16 s16 =>
 veq v50_16 v50_16 = true ∧ I.call 66 [(τ 0), v45_13, v50_16] s16 fun v51_17 s17 =>
 I.wop (.indexAddr 58 (.const (τ 5)) (.const (.int .i64 1))) 0 s17 fun v52_18 s18 =>
 I.wop (.store 24 (.const v52_18) (.const v51_17)) 0 s18 fun _ s19 =>
 I.wop (.load 58 (.const (τ 5))) 58 s19 fun v54_20 s20 =>
 I.call 67 [(τ 0), v54_20] s20 fun v55_21 s21 =>
 I.wop (.store 58 (.const (τ 5)) (.const v55_21)) 0 s21 fun _ s22 =>
 I.wop (.binOp .add 3 (.const (τ 6)) (.const (.int .i64 2)) 3) 3 s22 fun v28_23 s23 =>
 Q .normal (U τ [(6, v28_23), (28, v28_23), (27, (τ 6)), (55, v55_21), (54, v54_20), (53, (τ 0)), (52, v52_18), (51, v51_17), (50, v50_16), (49, v49_15), (48, v48_14), (47, (τ 6)), (46, (τ 1)), (45, v45_13), (44, v44_12), (43, (τ 0)), (42, (.bool true)), (42, v42_11), (41, v41_10), (40, (τ 1)), (39, v39_9), (38, (τ 6)), (37, v37_7), (36, v36_6), (35, v35_5), (34, v34_4), (33, (τ 6)), (32, (τ 1)), (31, v31_3), (30, v30_2), (29, (τ 0)), (26, (.bool true)), (26, v26_1), (25, v25_0), (24, (τ 1)), (23, (τ 6))]) ds s23)
 (I.wop (.load 58 (.const (τ 5))) 58 s11 fun v54_24 s24 =>
 I.call 67 [(τ 0), v54_24] s24 fun v55_25 s25 =>
 I.wop (.store 58 (.const (τ 5)) (.const v55_25)) 0 s25 fun _ s26 =>
 I.wop (.binOp .add 3 (.const (τ 6)) (.const (.int .i64 2)) 3) 3 s26 fun v28_27 s27 =>
 Q .normal (U τ [(6, v28_27), (28, v28_27), (27, (τ 6)), (55, v55_25), (54, v54_24), (53, (τ 0)), (42, (.bool false)), (42, v42_11), (41, v41_10), (40, (τ 1)), (39, v39_9), (38, (τ 6)), (37, v37_7), (36, v36_6), (35, v35_5), (34, v34_4), (33, (τ 6)), (32, (τ 1)), (31, v31_3), (30, v30_2), (29, (τ 0)), (26, (.bool true)), (26, v26_1), (25, v25_0), (24, (τ 1)), (23, (τ 6))]) ds s27))
 (Q (.exit 0) (U τ [(26, (.bool false)), (26, v26_1), (25, v25_0), (24, (τ 1)), (23, (τ 6))]) ds s1)
theorem x27_11110100 (I : Prims) (rnd : Option Nat) (τ : Tau) (ds : List Deferred) (s : St) (Q : Ex → WK) : xp I rnd 61 k27_11110100 c27_11110100 [] τ [] ds s (lift Q) = v27_11110100 I rnd τ ds s Q := by kernel_rfl
theorem n27_11110100 [Memo] (ro : Nat) (rnd : Option Nat) (τ : Tau) (ds : List Deferred) (s : St) (Q : Ex → WK) : wp P ro 61 rnd c27_11110100 τ ds s Q = v27_11110100 (prims P ro) rnd τ ds s Q := xp_wp rnd 61 P ro (x27_11110100 _ rnd τ ds s Q)
def v27 (I : Prims) (a0 a1 : Value) (si : St) (K : Value → St → Prop) : Prop :=
 I.wop (.alloc 43) 0 (ent si) fun v4_0 s0 =>
 I.call 16 [a0] s0 fun v8_1 s1 =>
 I.wop (.unOp .not 4 (.const v8_1)) 4 s1 fun v9_2 s2 =>
 wdec v9_2
 (I.wop (.build 43 ⟨[]⟩) 43 s2 fun v10_3 s3 =>
 I.wop (.store 43 (.const v4_0) (.const v10_3)) 0 s3 fun _ s4 =>
 I.wop (.load 43 (.const v4_0)) 43 s4 fun v4_5 _ =>
 I.fin si K v4_5 s4)
 (I.wop (.call ⟨.builtin .len, ⟨[(.const a1)]⟩, #[23]⟩) 3 s2 fun v13_6 s6 =>
 I.wop (.convert 3 24 (.const v13_6)) 24 s6 fun v14_7 s7 =>
 I.call 66 [a0, (.int .u64 0), v14_7] s7 fun v15_8 s8 =>
 I.wop (.build 58 ⟨[(0, (.const (.int .u64 0))), (1, (.const (.int .u64 0))), (2, (.const v15_8)), (3, (.const (.int .u64 0)))]⟩) 58 s8 fun v16_9 s9 =>
 I.wop (.alloc 58) 0 s9 fun v5_10 s10 =>
 I.wop (.store 58 (.const v5_10) (.const v16_9)) 0 s10 fun _ s11 =>
 I.wop (.call ⟨.builtin .len, ⟨[(.const a1)]⟩, #[23]⟩) 3 s11 fun v18_12 s12 =>
 I.wop (.binOp .eql 3 (.const v18_12) (.const (.int .i64 0)) 3) 4 s12 fun v19_13 s13 =>
 wdec v19_13
 (I.wop (.load 58 (.const v5_10)) 58 s13 fun v21_14 s14 =>
 I.call 67 [a0, v21_14] s14 fun v22_15 s15 =>
 I.wop (.store 58 (.const v5_10) (.const v22_15)) 0 s15 fun _ s16 =>
 I.hold (xp I none 61 k27 c27_1111 [1, 1, 1, 1] (U undefT [(22, v22_15), (21, v21_14), (20, a0), (19, (.bool true)), (19, v19_13), (18, v18_12), (17, a1), (5, v5_10), (16, v16_9), (15, v15_8), (14, v14_7), (13, v13_6), (12, a1), (11, a0), (9, (.bool false)), (9, v9_2), (8, v8_1), (7, a0), (4, v4_0), (0, a0), (1, a1)]) [] [] s16 (xleave I si Tryd.f27.results.toList K)))
 (I.hold (xp I none 61 k27 c27_1111 [1, 1, 1, 1] (U undefT [(19, (.bool false)), (19, v19_13), (18, v18_12), (17, a1), (5, v5_10), (16, v16_9), (15, v15_8), (14, v14_7), (13, v13_6), (12, a1), (11, a0), (9, (.bool false)), (9, v9_2), (8, v8_1), (7, a0), (4, v4_0), (0, a0), (1, a1)]) [] [] s13 (xleave I si Tryd.f27.results.toList K))))
theorem x27 (I : Prims) (a0 a1 : Value) (si : St) (K : Value → St → Prop) : xbody I 61 k27 Tryd.f27 c27 [a0, a1] si K = v27 I a0 a1 si K := by kernel_rfl
theorem n27 [Memo] (ro : Nat) (a0 a1 : Value) (si : St) (K : Value → St → Prop) : wbody P ro 61 Tryd.f27 c27 [a0, a1] si K = v27 (prims P ro) a0 a1 si K := xbody_eq 61 P ro (x27 _ a0 a1 si K)
theorem r27 (I : Prims) (si : St) (K : Value → St → Prop) (τ : Tau) (ds : List Deferred) (s : St) : xleave I si Tryd.f27.results.toList K .ret τ [] ds s =
 (xdefers I ds s fun s0 =>
 I.wop (.load 43 (.const (τ 4))) 43 s0 fun v4_1 _ =>
 I.fin si K v4_1 s0) := by kernel_rfl
/- attestor/attestorref08.Draw -/
noncomputable def c28 : Code := bodyOf Tryd.f28
def k28 : List (List Nat) := []
theorem b28 : BodyOk P 27 1 28 Tryd.f28 c28 := ⟨Tryd.func28, by kernel_rfl, by kernel_rfl, by kernel_rfl, by kernel_rfl, by kernel_rfl⟩
def v28 (I : Prims) (a0 : Value) (si : St) (K : Value → St → Prop) : Prop :=
 I.wop (.box 65 (.const a0)) 0 (ent si) fun v1_0 s0 =>
 I.wop (.alloc 65) 0 s0 fun v2_1 s1 =>
 I.wop (.fieldAddr 65 (.const v1_0) 0) 0 s1 fun v4_2 s2 =>
 I.wop (.load 3 (.const v4_2)) 3 s2 fun v5_3 s3 =>
 I.call 16 [v5_3] s3 fun v6_4 s4 =>
 I.wop (.unOp .not 4 (.const v6_4)) 4 s4 fun v7_5 s5 =>
 wdec v7_5
 (I.wop (.build 65 ⟨[]⟩) 65 s5 fun v8_6 s6 =>
 I.wop (.store 65 (.const v2_1) (.const v8_6)) 0 s6 fun _ s7 =>
 I.wop (.load 65 (.const v2_1)) 65 s7 fun v2_8 _ =>
 I.fin si K (.tuple (.mk [v2_8, (.int .u64 0)])) s7)
 (I.wop (.fieldAddr 65 (.const v1_0) 0) 0 s5 fun v9_9 s9 =>
 I.wop (.load 3 (.const v9_9)) 3 s9 fun v10_10 s10 =>
 I.wop (.fieldAddr 65 (.const v1_0) 1) 0 s10 fun v11_11 s11 =>
 I.wop (.indexAddr 58 (.const v11_11) (.const (.int .i64 1))) 0 s11 fun v12_12 s12 =>
 I.wop (.load 24 (.const v12_12)) 24 s12 fun v13_13 s13 =>
 I.call 66 [v10_10, v13_13, (.int .u64 2)] s13 fun v14_14 s14 =>
 I.wop (.fieldAddr 65 (.const v1_0) 1) 0 s14 fun v15_15 s15 =>
 I.wop (.indexAddr 58 (.const v15_15) (.const (.int .i64 1))) 0 s15 fun v16_16 s16 =>
 I.wop (.store 24 (.const v16_16) (.const v14_14)) 0 s16 fun _ s17 =>
 I.wop (.fieldAddr 65 (.const v1_0) 0) 0 s17 fun v17_18 s18 =>
 I.wop (.load 3 (.const v17_18)) 3 s18 fun v18_19 s19 =>
 I.wop (.fieldAddr 65 (.const v1_0) 1) 0 s19 fun v19_20 s20 =>
 I.wop (.load 58 (.const v19_20)) 58 s20 fun v20_21 s21 =>
 I.call 67 [v18_19, v20_21] s21 fun v21_22 s22 =>
 I.wop (.fieldAddr 65 (.const v1_0) 1) 0 s22 fun v22_23 s23 =>
 I.wop (.store 58 (.const v22_23) (.const v21_22)) 0 s23 fun _ s24 =>
 I.wop (.load 65 (.const v1_0)) 65 s24 fun v23_25 s25 =>
 veq v23_25 v23_25 = true ∧ I.wop (.fieldAddr 65 (.const v1_0) 1) 0 s25 fun v24_26 s26 =>
 I.wop (.indexAddr 58 (.const v24_26) (.const (.int .i64 0))) 0 s26 fun v25_27 s27 =>
 I.wop (.load 24 (.const v25_27)) 24 s27 fun v26_28 s28 =>
 veq v26_28 v26_28 = true ∧ I.wop (.store 65 (.const v2_1) (.const v23_25)) 0 s28 fun _ s29 =>
 Keeps [(3, .ptr v25_27)] s28 s29 ∧ I.wop (.load 65 (.const v2_1)) 65 s29 fun v2_30 _ =>
 I.fin si K (.tuple (.mk [v2_30, v26_28])) s29)
theorem x28 (I : Prims) (a0 : Value) (si : St) (K : Value → St → Prop) : xbody I 27 k28 Tryd.f28 c28 [a0] si K = v28 I a0 si K := by kernel_rfl
theorem n28 [Memo] (ro : Nat) (a0 : Value) (si : St) (K : Value → St → Prop) : wbody P ro 27 Tryd.f28 c28 [a0] si K = v28 (prims P ro) a0 si K := xbody_eq 27 P ro (x28 _ a0 si K)
/- attestor/attestorref08.Absorb -/
noncomputable def c29 : Code := bodyOf Tryd.f29
noncomputable def c29_110100 : Code := subCode [1, 1, 0, 1, 0, 0] c29
noncomputable def c29_1110100 : Code := subCode [1, 1, 1, 0, 1, 0, 0] c29
def k29 : List (List Nat) := []
def k29_110100 : List (List Nat) := []
theorem l29_110100 : ltCode 59 c29_110100 = true := by kernel_rfl
theorem m29_110100 : notMap c29_110100 = true := by kernel_rfl
def k29_1110100 : List (List Nat) := []
theorem l29_1110100 : ltCode 59 c29_1110100 = true := by kernel_rfl
theorem m29_1110100 : notMap c29_1110100 = true := by kernel_rfl
theorem b29 : BodyOk P 59 2 29 Tryd.f29 c29 := ⟨Tryd.func29, by kernel_rfl, by kernel_rfl, by kernel_rfl, by kernel_rfl, by kernel_rfl⟩
def v29_110100 (I : Prims) (rnd : Option Nat) (τ : Tau) (ds : List Deferred) (s : St) (Q : Ex → WK) : Prop :=
 I.wop (.binOp .lss 3 (.const (τ 5)) (.const (.int .i64 4)) 3) 4 s fun v13_0 s0 =>
 wdec v13_0
 (I.wop (.fieldAddr 65 (.const (τ 2)) 0) 0 s0 fun v17_1 s1 =>
 I.wop (.load 3 (.const v17_1)) 3 s1 fun v18_2 s2 =>
 veq v18_2 v18_2 = true ∧ I.wop (.fieldAddr 65 (.const (τ 2)) 1) 0 s2 fun v20_3 s3 =>
 I.wop (.indexAddr 58 (.const v20_3) (.const (τ 5))) 0 s3 fun v21_4 s4 =>
 I.wop (.load 24 (.const v21_4)) 24 s4 fun v22_5 s5 =>
 veq v22_5 v22_5 = true ∧ I.wop (.fieldAddr 65 (.const (τ 2)) 1) 0 s5 fun v24_6 s6 =>
 I.call 66 [v18_2, v22_5, (.int .u64 0)] s6 fun v23_7 s7 =>
 I.wop (.indexAddr 58 (.const v24_6) (.const (τ 5))) 0 s7 fun v25_8 s8 =>
 I.wop (.store 24 (.const v25_8) (.const v23_7)) 0 s8 fun _ s9 =>
 I.wop (.binOp .add 3 (.const (τ 5)) (.const (.int .i64 1)) 3) 3 s9 fun v15_10 s10 =>
 Q .normal (U τ [(5, v15_10), (15, v15_10), (14, (τ 5)), (25, v25_8), (23, v23_7), (24, v24_6), (22, v22_5), (21, v21_4), (20, v20_3), (19, (τ 5)), (18, v18_2), (17, v17_1), (16, (τ 5)), (13, (.bool true)), (13, v13_0), (12, (τ 5))]) ds s10)
 (Q (.exit 0) (U τ [(13, (.bool false)), (13, v13_0), (12, (τ 5))]) ds s0)
theorem x29_110100 (I : Prims) (rnd : Option Nat) (τ : Tau) (ds : List Deferred) (s : St) (Q : Ex → WK) : xp I rnd 59 k29_110100 c29_110100 [] τ [] ds s (lift Q) = v29_110100 I rnd τ ds s Q := by kernel_rfl
theorem n29_110100 [Memo] (ro : Nat) (rnd : Option Nat) (τ : Tau) (ds : List Deferred) (s : St) (Q : Ex → WK) : wp P ro 59 rnd c29_110100 τ ds s Q = v29_110100 (prims P ro) rnd τ ds s Q := xp_wp rnd 59 P ro (x29_110100 _ rnd τ ds s Q)
def v29_1110100 (I : Prims) (rnd : Option Nat) (τ : Tau) (ds : List Deferred) (s : St) (Q : Ex → WK) : Prop :=
 I.wop (.call ⟨.builtin .len, ⟨[(.const (τ 1))]⟩, #[23]⟩) 3 s fun v28_0 s0 =>
 I.wop (.binOp .lss 3 (.const (τ 6)) (.const v28_0) 3) 4 s0 fun v29_1 s1 =>
 wdec v29_1
 (I.wop (.fieldAddr 65 (.const (τ 2)) 0) 0 s1 fun v32_2 s2 =>
 I.wop (.load 3 (.const v32_2)) 3 s2 fun v33_3 s3 =>
 veq v33_3 v33_3 = true ∧ I.wop (.fieldAddr 65 (.const (τ 2)) 1) 0 s3 fun v34_4 s4 =>
 I.wop (.indexAddr 58 (.const v34_4) (.const (.int .i64 0))) 0 s4 fun v35_5 s5 =>
 I.wop (.load 24 (.const v35_5)) 24 s5 fun v36_6 s6 =>
 veq v36_6 v36_6 = true ∧ I.wop (.indexAddr 23 (.const (τ 1)) (.const (τ 6))) 0 s6 fun v39_7 s7 =>
 I.wop (.load 24 (.const v39_7)) 24 s7 fun v40_8 s8 =>
 veq v40_8 v40_8 = true ∧ I.wop (.fieldAddr 65 (.const (τ 2)) 1) 0 s8 fun v42_9 s9 =>
 I.call 66 [v33_3, v36_6, v40_8] s9 fun v41_10 s10 =>
 I.wop (.indexAddr 58 (.const v42_9) (.const (.int .i64 0))) 0 s10 fun v43_11 s11 =>
 I.wop (.store 24 (.const v43_11) (.const v41_10)) 0 s11 fun _ s12 =>
 I.wop (.fieldAddr 65 (.const (τ 2)) 0) 0 s12 fun v44_13 s13 =>
 I.wop (.load 3 (.const v44_13)) 3 s13 fun v45_14 s14 =>
 I.wop (.fieldAddr 65 (.const (τ 2)) 1) 0 s14 fun v46_15 s15 =>
 I.wop (.indexAddr 58 (.const v46_15) (.const (.int .i64 1))) 0 s15 fun v47_16 s16 =>
 I.wop (.load 24 (.const v47_16)) 24 s16 fun v48_17 s17 =>
 I.call 66 [v45_14, v48_17, (.int .u64 1)] s17 fun v49_18 s18 =>
 I.wop (.fieldAddr 65 (.const (τ 2)) 1) 0 s18 fun v50_19 s19 =>
 I.wop (.indexAddr 58 (.const v50_19) (.const (.int .i64 1))) 0 s19 fun v51_20 s20 =>
 I.wop (.store 24 (.const v51_20) (.const v49_18)) 0 s20 fun _ s21 =>
 I.wop (.fieldAddr 65 (.const (τ 2)) 0) 0 s21 fun v52_22 s22 =>
 I.wop (.load 3 (.const v52_22)) 3 s22 fun v53_23 s23 =>
 I.wop (.fieldAddr 65 (.const (τ 2)) 1) 0 s23 fun v54_24 s24 =>
 I.wop (.load 58 (.const v54_24)) 58 s24 fun v55_25 s25 =>
 I.call 67 [v53_23, v55_25] s25 fun v56_26 s26 =>
 I.wop (.fieldAddr 65 (.const (τ 2)) 1) 0 s26 fun v57_27 s27 =>
 I.wop (.store 58 (.const v57_27) (.const v56_26)) 0 s27 fun _ s28 =>
 I.wop (.binOp .add 3 (.const (τ 6)) (.const (.int .i64 1)) 3) 3 s28 fun v31_29 s29 =>
 Q .normal (U τ [(6, v31_29), (31, v31_29), (30, (τ 6)), (57, v57_27), (56, v56_26), (55, v55_25), (54, v54_24), (53, v53_23), (52, v52_22), (51, v51_20), (50, v50_19), (49, v49_18), (48, v48_17), (47, v47_16), (46, v46_15), (45, v45_14), (44, v44_13), (43, v43_11), (41, v41_10), (42, v42_9), (40, v40_8), (39, v39_7), (38, (τ 6)), (37, (τ 1)), (36, v36_6), (35, v35_5), (34, v34_4), (33, v33_3), (32, v32_2), (29, (.bool true)), (29, v29_1), (28, v28_0), (27, (τ 1)), (26, (τ 6))]) ds s29)
 (Q (.exit 2) (U τ [(29, (.bool false)), (29, v29_1), (28, v28_0), (27, (τ 1)), (26, (τ 6))]) ds s1)
theorem x29_1110100 (I : Prims) (rnd : Option Nat) (τ : Tau) (ds : List Deferred) (s : St) (Q : Ex → WK) : xp I rnd 59 k29_1110100 c29_1110100 [] τ [] ds s (lift Q) = v29_1110100 I rnd τ ds s Q := by kernel_rfl
theorem n29_1110100 [Memo] (ro : Nat) (rnd : Option Nat) (τ : Tau) (ds : List Deferred) (s : St) (Q : Ex → WK) : wp P ro 59 rnd c29_1110100 τ ds s Q = v29_1110100 (prims P ro) rnd τ ds s Q := xp_wp rnd 59 P ro (x29_1110100 _ rnd τ ds s Q)
def v29 (I : Prims) (a0 a1 : Value) (si : St) (K : Value → St → Prop) : Prop :=
 I.wop (.box 65 (.const a0)) 0 (ent si) fun v2_0 s0 =>
 I.wop (.alloc 65) 0 s0 fun v4_1 s1 =>
 I.wop (.fieldAddr 65 (.const v2_0) 0) 0 s1 fun v7_2 s2 =>
 I.wop (.load 3 (.const v7_2)) 3 s2 fun v8_3 s3 =>
 I.call 16 [v8_3] s3 fun v9_4 s4 =>
 I.wop (.unOp .not 4 (.const v9_4)) 4 s4 fun v10_5 s5 =>
 wdec v10_5
 (I.wop (.build 65 ⟨[]⟩) 65 s5 fun v11_6 s6 =>
 I.wop (.store 65 (.const v4_1) (.const v11_6)) 0 s6 fun _ s7 =>
 I.wop (.load 65 (.const v4_1)) 65 s7 fun v4_8 _ =>
 I.fin si K v4_8 s7)
 (I.loop 59 none c29_110100 (U undefT [(5, (.int .i64 0)), (10, (.bool false)), (10, v10_5), (9, v9_4), (8, v8_3), (7, v7_2), (4, v4_1), (2, v2_0), (0, a0), (1, a1)]) [] s5 (fun τ ds s => ((xleave I si Tryd.f29.results.toList K) .ret) τ [] ds s) [(0, fun τ9 ds9 s9 =>
 I.loop 59 none c29_1110100 (U τ9 [(6, (.int .i64 0))]) ds9 s9 (fun τ ds s => ((xleave I si Tryd.f29.results.toList K) .ret) τ [] ds s) [(2, fun τ10 ds10 s10 =>
 I.wop (.load 65 (.const (τ10 2))) 65 s10 fun v58_11 s11 =>
 I.wop (.store 65 (.const (τ10 4)) (.const v58_11)) 0 s11 fun _ s12 =>
 xdefers I ds10 s12 fun s13 =>
 I.wop (.load 65 (.const (τ10 4))) 65 s13 fun v4_14 _ =>
 I.fin si K v4_14 s13)])])
theorem x29 (I : Prims) (a0 a1 : Value) (si : St) (K : Value → St → Prop) : xbody I 59 k29 Tryd.f29 c29 [a0, a1] si K = v29 I a0 a1 si K := by kernel_rfl
theorem n29 [Memo] (ro : Nat) (a0 a1 : Value) (si : St) (K : Value → St → Prop) : wbody P ro 59 Tryd.f29 c29 [a0, a1] si K = v29 (prims P ro) a0 a1 si K := xbody_eq 59 P ro (x29 _ a0 a1 si K)
/- attestor/attestorref01.Pow -/
noncomputable def c33 : Code := bodyOf Tryd.f33
def k33 : List (List Nat) := []
theorem b33 : BodyOk P 30 3 33 Tryd.f33 c33 := ⟨Tryd.func33, by kernel_rfl, by kernel_rfl, by kernel_rfl, by kernel_rfl, by kernel_rfl⟩
def v33 (I : Prims) (a0 a1 a2 : Value) (si : St) (K : Value → St → Prop) : Prop :=
 I.call 16 [a0] (ent si) fun v9_0 s0 =>
 I.wop (.unOp .not 4 (.const v9_0)) 4 s0 fun v10_1 s1 =>
 wdec v10_1
 (I.fin si K (.int .u64 0) s1)
 (I.wop (.binOp .eql 24 (.const a2) (.const (.int .u64 0)) 24) 4 s1 fun v12_2 s2 =>
 wdec v12_2
 (I.fin si K (.int .u64 1) s2)
 (I.wop (.binOp .quo 24 (.const a2) (.const (.int .u64 2)) 24) 24 s2 fun v16_3 s3 =>
 I.call 33 [a0, a1, v16_3] s3 fun v17_4 s4 =>
 I.call 72 [a0, v17_4, v17_4] s4 fun v21_5 s5 =>
 I.wop (.binOp .rem 24 (.const a2) (.const (.int .u64 2)) 24) 24 s5 fun v23_6 s6 =>
 I.wop (.binOp .eql 24 (.const v23_6) (.const (.int .u64 1)) 24) 4 s6 fun v24_7 s7 =>
 wdec v24_7
 (I.call 72 [a0, v21_5, a1] s7 fun v28_8 s8 =>
 I.fin si K v28_8 s8)
 (I.fin si K v21_5 s7)))
theorem x33 (I : Prims) (a0 a1 a2 : Value) (si : St) (K : Value → St → Prop) : xbody I 30 k33 Tryd.f33 c33 [a0, a1, a2] si K = v33 I a0 a1 a2 si K := by kernel_rfl
theorem n33 [Memo] (ro : Nat) (a0 a1 a2 : Value) (si : St) (K : Value → St → Prop) : wbody P ro 30 Tryd.f33 c33 [a0, a1, a2] si K = v33 (prims P ro) a0 a1 a2 si K := xbody_eq 30 P ro (x33 _ a0 a1 a2 si K)
/- attestor/field.Valid -/
noncomputable def c37 : Code := bodyOf Tryd.f37
def k37 : List (List Nat) := []
theorem b37 : BodyOk P 9 1 37 Tryd.f37 c37 := ⟨Tryd.func37, by kernel_rfl, by kernel_rfl, by kernel_rfl, by kernel_rfl, by kernel_rfl⟩
def v37 (I : Prims) (a0 : Value) (si : St) (K : Value → St → Prop) : Prop :=
 I.wop (.binOp .geq 3 (.const a0) (.const (.int .i64 0)) 3) 4 (ent si) fun v4_0 s0 =>
 wdec v4_0
 (I.wop (.binOp .lss 3 (.const a0) (.const (.int .i64 4)) 3) 4 s0 fun v7_1 s1 =>
 I.fin si K v7_1 s1)
 (I.fin si K (.bool false) s0)
theorem x37 (I : Prims) (a0 : Value) (si : St) (K : Value → St → Prop) : xbody I 9 k37 Tryd.f37 c37 [a0] si K = v37 I a0 si K := by kernel_rfl
theorem n37 [Memo] (ro : Nat) (a0 : Value) (si : St) (K : Value → St → Prop) : wbody P ro 9 Tryd.f37 c37 [a0] si K = v37 (prims P ro) a0 si K := xbody_eq 9 P ro (x37 _ a0 si K)
/- (*attestor/circuit.Builder).ready -/
noncomputable def c38 : Code := bodyOf Tryd.f38
def k38 : List (List Nat) := []
theorem b38 : BodyOk P 36 3 38 Tryd.f38 c38 := ⟨Tryd.func38, by kernel_rfl, by kernel_rfl, by kernel_rfl, by kernel_rfl, by kernel_rfl⟩
def v38 (I : Prims) (a0 a1 a2 : Value) (si : St) (K : Value → St → Prop) : Prop :=
 I.call 23 [a0] (ent si) fun v8_0 s0 =>
 I.wop (.binOp .neq 26 (.const v8_0) (.const (.int .i64 0)) 26) 4 s0 fun v9_1 s1 =>
 wdec v9_1
 (I.fin si K (.bool false) s1)
 (I.wop (.unOp .not 4 (.const a1)) 4 s1 fun v11_2 s2 =>
 wdec v11_2
 (I.wop (.nilCheck (.const a0)) 0 s2 fun v29_3 s3 =>
 I.wop (.fieldAddr 81 (.const v29_3) 2) 0 s3 fun v30_4 s4 =>
 I.wop (.store 26 (.const v30_4) (.const (.int .i64 1))) 0 s4 fun _ s5 =>
 I.wop (.nilCheck (.const a0)) 0 s5 fun v32_6 s6 =>
 I.wop (.fieldAddr 81 (.const v32_6) 2) 0 s6 fun v33_7 s7 =>
 I.wop (.load 26 (.const v33_7)) 26 s7 fun v34_8 s8 =>
 I.wop (.binOp .eql 26 (.const v34_8) (.const (.int .i64 0)) 26) 4 s8 fun v35_9 s9 =>
 I.fin si K v35_9 s9)
 (I.wop (.call ⟨.builtin .len, ⟨[(.const a2)]⟩, #[23]⟩) 3 s2 fun v14_10 s10 =>
 I.wop (.binOp .gtr 3 (.const v14_10) (.const (.int .i64 0)) 3) 4 s10 fun v15_11 s11 =>
 wdec v15_11
 (I.wop (.nilCheck (.const a0)) 0 s11 fun v20_12 s12 =>
 I.wop (.fieldAddr 81 (.const v20_12) 1) 0 s12 fun v21_13 s13 =>
 I.wop (.fieldAddr 34 (.const v21_13) 0) 0 s13 fun v22_14 s14 =>
 I.wop (.load 3 (.const v22_14)) 3 s14 fun v23_15 s15 =>
 veq v23_15 v23_15 = true ∧ I.call 79 [a2] s15 fun v18_16 s16 =>
 Keeps [(13, .ptr v22_14)] s15 s16 ∧ I.call 80 [v23_15] s16 fun v24_17 s17 =>
 I.wop (.binOp .geq 24 (.const v18_16) (.const v24_17) 24) 4 s17 fun v25_18 s18 =>
 wdec v25_18
 (I.wop (.nilCheck (.const a0)) 0 s18 fun v29_19 s19 =>
 I.wop (.fieldAddr 81 (.const v29_19) 2) 0 s19 fun v30_20 s20 =>
 I.wop (.store 26 (.const v30_20) (.const (.int .i64 1))) 0 s20 fun _ s21 =>
 I.wop (.nilCheck (.const a0)) 0 s21 fun v32_22 s22 =>
 I.wop (.fieldAddr 81 (.const v32_22) 2) 0 s22 fun v33_23 s23 =>
 I.wop (.load 26 (.const v33_23)) 26 s23 fun v34_24 s24 =>
 I.wop (.binOp .eql 26 (.const v34_24) (.const (.int .i64 0)) 26) 4 s24 fun v35_25 s25 =>
 I.fin si K v35_25 s25)
 (I.wop (.nilCheck (.const a0)) 0 s18 fun v32_26 s26 =>
 I.wop (.fieldAddr 81 (.const v32_26) 2) 0 s26 fun v33_27 s27 =>
 I.wop (.load 26 (.const v33_27)) 26 s27 fun v34_28 s28 =>
 I.wop (.binOp .eql 26 (.const v34_28) (.const (.int .i64 0)) 26) 4 s28 fun v35_29 s29 =>
 I.fin si K v35_29 s29))
 (I.wop (.nilCheck (.const a0)) 0 s11 fun v32_30 s30 =>
 I.wop (.fieldAddr 81 (.const v32_30) 2) 0 s30 fun v33_31 s31 =>
 I.wop (.load 26 (.const v33_31)) 26 s31 fun v34_32 s32 =>
 I.wop (.binOp .eql 26 (.const v34_32) (.const (.int .i64 0)) 26) 4 s32 fun v35_33 s33 =>
 I.fin si K v35_33 s33)))
theorem x38 (I : Prims) (a0 a1 a2 : Value) (si : St) (K : Value → St → Prop) : xbody I 36 k38 Tryd.f38 c38 [a0, a1, a2] si K = v38 I a0 a1 a2 si K := by kernel_rfl
theorem n38 [Memo] (ro : Nat) (a0 a1 a2 : Value) (si : St) (K : Value → St → Prop) : wbody P ro 36 Tryd.f38 c38 [a0, a1, a2] si K = v38 (prims P ro) a0 a1 a2 si K := xbody_eq 36 P ro (x38 _ a0 a1 a2 si K)
/- (*attestor/circuit.Builder).known -/
noncomputable def c39 : Code := bodyOf Tryd.f39
def k39 : List (List Nat) := []
theorem b39 : BodyOk P 14 2 39 Tryd.f39 c39 := ⟨Tryd.func39, by kernel_rfl, by kernel_rfl, by kernel_rfl, by kernel_rfl, by kernel_rfl⟩
def v39 (I : Prims) (a0 a1 : Value) (si : St) (K : Value → St → Prop) : Prop :=
 I.wop (.box 25 (.const a0)) 0 (ent si) fun v2_0 s0 =>
 I.wop (.load 25 (.const v2_0)) 25 s0 fun v5_1 s1 =>
 I.call 23 [v5_1] s1 fun v6_2 s2 =>
 I.wop (.binOp .eql 26 (.const v6_2) (.const (.int .i64 0)) 26) 4 s2 fun v7_3 s3 =>
 wdec v7_3
 (I.call 81 [a1, (.func (.func 82) (.mk []) (.mk [v2_0]))] s3 fun v11_4 s4 =>
 I.wop (.unOp .not 4 (.const v11_4)) 4 s4 fun v12_5 s5 =>
 I.fin si K v12_5 s5)
 (I.fin si K (.bool false) s3)
theorem x39 (I : Prims) (a0 a1 : Value) (si : St) (K : Value → St → Prop) : xbody I 14 k39 Tryd.f39 c39 [a0, a1] si K = v39 I a0 a1 si K := by kernel_rfl
theorem n39 [Memo] (ro : Nat) (a0 a1 : Value) (si : St) (K : Value → St → Prop) : wbody P ro 14 Tryd.f39 c39 [a0, a1] si K = v39 (prims P ro) a0 a1 si K := xbody_eq 14 P ro (x39 _ a0 a1 si K)
/- (*attestor/circuit.Builder).whole -/
noncomputable def c40 : Code := bodyOf Tryd.f40
def k40 : List (List Nat) := []
theorem b40 : BodyOk P 17 1 40 Tryd.f40 c40 := ⟨Tryd.func40, by kernel_rfl, by kernel_rfl, by kernel_rfl, by kernel_rfl, by kernel_rfl⟩
def v40 (I : Prims) (a0 : Value) (si : St) (K : Value → St → Prop) : Prop :=
 I.wop (.box 25 (.const a0)) 0 (ent si) fun v1_0 s0 =>
 I.wop (.load 25 (.const v1_0)) 25 s0 fun v5_1 s1 =>
 veq v5_1 v5_1 = true ∧ I.wop (.nilCheck (.const v5_1)) 0 s1 fun v6_2 s2 =>
 I.wop (.fieldAddr 81 (.const v6_2) 1) 0 s2 fun v7_3 s3 =>
 I.wop (.fieldAddr 34 (.const v7_3) 4) 0 s3 fun v8_4 s4 =>
 I.wop (.load 32 (.const v8_4)) 32 s4 fun v9_5 s5 =>
 veq v9_5 v9_5 = true ∧ I.wop (.call ⟨.builtin .len, ⟨[(.const v9_5)]⟩, #[32]⟩) 3 s5 fun v10_6 s6 =>
 I.wop (.load 25 (.const v1_0)) 25 s6 fun v11_7 s7 =>
 veq v11_7 v11_7 = true ∧ I.wop (.nilCheck (.const v11_7)) 0 s7 fun v12_8 s8 =>
 I.wop (.fieldAddr 81 (.const v12_8) 1) 0 s8 fun v13_9 s9 =>
 I.wop (.fieldAddr 34 (.const v13_9) 1) 0 s9 fun v14_10 s10 =>
 I.wop (.load 3 (.const v14_10)) 3 s10 fun v15_11 s11 =>
 veq v15_11 v15_11 = true ∧ I.wop (.alloc 3) 0 s11 fun v3_12 s12 =>
 FreshOk s11 s12 ∧ I.wop (.alloc 3) 0 s12 fun v4_13 s13 =>
 FreshOk s12 s13 ∧ I.wop (.store 3 (.const v3_12) (.const v10_6)) 0 s13 fun _ s14 =>
 Keeps [(10, .ptr v14_10), (6, .ptr v1_0)] s13 s14 ∧ I.wop (.store 3 (.const v4_13) (.const v15_11)) 0 s14 fun _ s15 =>
 s14.n ≤ s15.n ∧ I.fin si K (.func (.func 83) (.mk []) (.mk [v1_0, v3_12, v4_13])) s15
theorem x40 (I : Prims) (a0 : Value) (si : St) (K : Value → St → Prop) : xbody I 17 k40 Tryd.f40 c40 [a0] si K = v40 I a0 si K := by kernel_rfl
theorem n40 [Memo] (ro : Nat) (a0 : Value) (si : St) (K : Value → St → Prop) : wbody P ro 17 Tryd.f40 c40 [a0] si K = v40 (prims P ro) a0 si K := xbody_eq 17 P ro (x40 _ a0 si K)
/- (*attestor/circuit.Builder).Linear -/
noncomputable def c43 : Code := bodyOf Tryd.f43
def k43 : List (List Nat) := []
theorem b43 : BodyOk P 41 6 43 Tryd.f43 c43 := ⟨Tryd.func43, by kernel_rfl, by kernel_rfl, by kernel_rfl, by kernel_rfl, by kernel_rfl⟩
def v43 (I : Prims) (a0 a1 a2 a3 a4 a5 : Value) (si : St) (K : Value → St → Prop) : Prop :=
 I.wop (.buildSlice 30 2 ⟨[(0, (.const a1)), (1, (.const a2))]⟩) 30 (ent si) fun v17_0 s0 =>
 I.call 39 [a0, v17_0] s0 fun v18_1 s1 =>
 I.wop (.buildSlice 23 3 ⟨[(0, (.const a3)), (1, (.const a4)), (2, (.const a5))]⟩) 23 s1 fun v22_2 s2 =>
 I.call 38 [a0, v18_1, v22_2] s2 fun v23_3 s3 =>
 I.wop (.unOp .not 4 (.const v23_3)) 4 s3 fun v24_4 s4 =>
 wdec v24_4
 (I.fin si K (.int .i64 (-1)) s4)
 (I.wop (.nilCheck (.const a0)) 0 s4 fun v29_5 s5 =>
 I.wop (.fieldAddr 81 (.const v29_5) 1) 0 s5 fun v30_6 s6 =>
 I.wop (.fieldAddr 34 (.const v30_6) 1) 0 s6 fun v31_7 s7 =>
 I.wop (.load 3 (.const v31_7)) 3 s7 fun v32_8 s8 =>
 veq v32_8 v32_8 = true ∧ I.call 44 [a0] s8 fun v36_9 s9 =>
 Keeps [(7, .ptr v31_7)] s8 s9 ∧ I.call 63 [a1, a2, v32_8, a3, a4, (.int .u64 0), v36_9, a5] s9 fun v38_10 s10 =>
 s9.n ≤ s10.n ∧ I.wop (.buildSlice 32 1 ⟨[(0, (.const v38_10))]⟩) 32 s10 fun v39_11 s11 =>
 FreshOk s10 s11 ∧ I.call 62 [a0, (.int .i64 1), v39_11] s11 fun v40_12 s12 =>
 s11.n ≤ s12.n ∧ I.fin si K v40_12 s12)
theorem x43 (I : Prims) (a0 a1 a2 a3 a4 a5 : Value) (si : St) (K : Value → St → Prop) : xbody I 41 k43 Tryd.f43 c43 [a0, a1, a2, a3, a4, a5] si K = v43 I a0 a1 a2 a3 a4 a5 si K := by kernel_rfl
theorem n43 [Memo] (ro : Nat) (a0 a1 a2 a3 a4 a5 : Value) (si : St) (K : Value → St → Prop) : wbody P ro 41 Tryd.f43 c43 [a0, a1, a2, a3, a4, a5] si K = v43 (prims P ro) a0 a1 a2 a3 a4 a5 si K := xbody_eq 41 P ro (x43 _ a0 a1 a2 a3 a4 a5 si K)
/- (*attestor/circuit.Builder).minus -/
noncomputable def c44 : Code := bodyOf Tryd.f44
def k44 : List (List Nat) := []
theorem b44 : BodyOk P 10 1 44 Tryd.f44 c44 := ⟨Tryd.func44, by kernel_rfl, by kernel_rfl, by kernel_rfl, by kernel_rfl, by kernel_rfl⟩
def v44 (I : Prims) (a0 : Value) (si : St) (K : Value → St → Prop) : Prop :=
 I.wop (.nilCheck (.const a0)) 0 (ent si) fun v4_0 s0 =>
 I.wop (.fieldAddr 81 (.const v4_0) 1) 0 s0 fun v5_1 s1 =>
 I.wop (.fieldAddr 34 (.const v5_1) 0) 0 s1 fun v6_2 s2 =>
 I.wop (.load 3 (.const v6_2)) 3 s2 fun v7_3 s3 =>
 I.call 80 [v7_3] s3 fun v8_4 s4 =>
 I.wop (.binOp .sub 24 (.const v8_4) (.const (.int .u64 1)) 24) 24 s4 fun v9_5 s5 =>
 I.fin si K v9_5 s5
theorem x44 (I : Prims) (a0 : Value) (si : St) (K : Value → St → Prop) : xbody I 10 k44 Tryd.f44 c44 [a0] si K = v44 I a0 si K := by kernel_rfl
theorem n44 [Memo] (ro : Nat) (a0 : Value) (si : St) (K : Value → St → Prop) : wbody P ro 10 Tryd.f44 c44 [a0] si K = v44 (prims P ro) a0 si K := xbody_eq 10 P ro (x44 _ a0 si K)
/- slices.Clone[[]attestor/api.Gate,attestor/api.Gate] -/
noncomputable def c45 : Code := bodyOf Tryd.f45
def k45 : List (List Nat) := []
theorem b45 : BodyOk P 8 1 45 Tryd.f45 c45 := ⟨Tryd.func45, by kernel_rfl, by kernel_rfl, by kernel_rfl, by kernel_rfl, by kernel_rfl⟩
def v45 (I : Prims) (a0 : Value) (si : St) (K : Value → St → Prop) : Prop :=
 I.wop (.binOp .eql 32 (.const a0) (.const (.slice none 0 0)) 32) 4 (ent si) fun v4_0 s0 =>
 wdec v4_0
 (I.fin si K (.slice none 0 0) s0)
 (I.wop (.buildSlice 32 0 ⟨[]⟩) 32 s0 fun v5_1 s1 =>
 I.wop (.call ⟨.builtin .append, ⟨[(.const v5_1), (.const a0)]⟩, #[32, 32]⟩) 32 s1 fun v7_2 s2 =>
 I.fin si K v7_2 s2)
theorem x45 (I : Prims) (a0 : Value) (si : St) (K : Value → St → Prop) : xbody I 8 k45 Tryd.f45 c45 [a0] si K = v45 I a0 si K := by kernel_rfl
theorem n45 [Memo] (ro : Nat) (a0 : Value) (si : St) (K : Value → St → Prop) : wbody P ro 8 Tryd.f45 c45 [a0] si K = v45 (prims P ro) a0 si K := xbody_eq 8 P ro (x45 _ a0 si K)
/- attestor/attestorref23.Valid -/
noncomputable def c46 : Code := bodyOf Tryd.f46
def k46 : List (List Nat) := []
theorem b46 : BodyOk P 14 1 46 Tryd.f46 c46 := ⟨Tryd.func46, by kernel_rfl, by kernel_rfl, by kernel_rfl, by kernel_rfl, by kernel_rfl⟩
def v46 (I : Prims) (a0 : Value) (si : St) (K : Value → St → Prop) : Prop :=
 I.wop (.box 34 (.const a0)) 0 (ent si) fun v1_0 s0 =>
 I.wop (.load 34 (.const v1_0)) 34 s0 fun v5_1 s1 =>
 I.call 84 [v5_1] s1 fun v6_2 s2 =>
 I.wop (.unOp .not 4 (.const v6_2)) 4 s2 fun v7_3 s3 =>
 wdec v7_3
 (I.fin si K (.bool false) s3)
 (I.wop (.load 34 (.const v1_0)) 34 s3 fun v9_4 s4 =>
 I.call 85 [v9_4] s4 fun v10_5 s5 =>
 I.wop (.extract (.const v10_5) 0) 30 s5 fun _ s6 =>
 I.wop (.extract (.const v10_5) 1) 4 s6 fun v12_7 s7 =>
 I.fin si K v12_7 s7)
theorem x46 (I : Prims) (a0 : Value) (si : St) (K : Value → St → Prop) : xbody I 14 k46 Tryd.f46 c46 [a0] si K = v46 I a0 si K := by kernel_rfl
theorem n46 [Memo] (ro : Nat) (a0 : Value) (si : St) (K : Value → St → Prop) : wbody P ro 14 Tryd.f46 c46 [a0] si K = v46 (prims P ro) a0 si K := xbody_eq 14 P ro (x46 _ a0 si K)
/- attestor/attestorref23.below -/
noncomputable def c47 : Code := bodyOf Tryd.f47
noncomputable def c47_10100 : Code := subCode [1, 0, 1, 0, 0] c47
def k47 : List (List Nat) := []
def k47_10100 : List (List Nat) := []
theorem l47_10100 : ltCode 19 c47_10100 = true := by kernel_rfl
theorem m47_10100 : notMap c47_10100 = true := by kernel_rfl
theorem b47 : BodyOk P 19 2 47 Tryd.f47 c47 := ⟨Tryd.func47, by kernel_rfl, by kernel_rfl, by kernel_rfl, by kernel_rfl, by kernel_rfl⟩
def v47_10100 (I : Prims) (rnd : Option Nat) (τ : Tau) (ds : List Deferred) (s : St) (Q : Ex → WK) : Prop :=
 I.wop (.call ⟨.builtin .len, ⟨[(.const (τ 1))]⟩, #[23]⟩) 3 s fun v8_0 s0 =>
 I.wop (.binOp .lss 3 (.const (τ 5)) (.const v8_0) 3) 4 s0 fun v9_1 s1 =>
 wdec v9_1
 (I.wop (.indexAddr 23 (.const (τ 1)) (.const (τ 5))) 0 s1 fun v14_2 s2 =>
 I.wop (.load 24 (.const v14_2)) 24 s2 fun v15_3 s3 =>
 veq v15_3 v15_3 = true ∧ I.call 14 [(τ 0)] s3 fun v17_4 s4 =>
 Keeps [(3, .ptr v14_2)] s3 s4 ∧ I.wop (.binOp .geq 24 (.const v15_3) (.const v17_4) 24) 4 s4 fun v18_5 s5 =>
 wdec v18_5
 (Q .ret (U τ [(4, (.bool false)), (18, (.bool true)), (18, v18_5), (17, v17_4), (16, (τ 0)), (15, v15_3), (14, v14_2), (13, (τ 5)), (12, (τ 1)), (9, (.bool true)), (9, v9_1), (8, v8_0), (7, (τ 1)), (6, (τ 5))]) ds s5)
 (I.wop (.binOp .add 3 (.const (τ 5)) (.const (.int .i64 1)) 3) 3 s5 fun v11_6 s6 =>
 Q .normal (U τ [(5, v11_6), (11, v11_6), (10, (τ 5)), (18, (.bool false)), (18, v18_5), (17, v17_4), (16, (τ 0)), (15, v15_3), (14, v14_2), (13, (τ 5)), (12, (τ 1)), (9, (.bool true)), (9, v9_1), (8, v8_0), (7, (τ 1)), (6, (τ 5))]) ds s6))
 (Q (.exit 0) (U τ [(9, (.bool false)), (9, v9_1), (8, v8_0), (7, (τ 1)), (6, (τ 5))]) ds s1)
theorem x47_10100 (I : Prims) (rnd : Option Nat) (τ : Tau) (ds : List Deferred) (s : St) (Q : Ex → WK) : xp I rnd 19 k47_10100 c47_10100 [] τ [] ds s (lift Q) = v47_10100 I rnd τ ds s Q := by kernel_rfl
theorem n47_10100 [Memo] (ro : Nat) (rnd : Option Nat) (τ : Tau) (ds : List Deferred) (s : St) (Q : Ex → WK) : wp P ro 19 rnd c47_10100 τ ds s Q = v47_10100 (prims P ro) rnd τ ds s Q := xp_wp rnd 19 P ro (x47_10100 _ rnd τ ds s Q)
def v47 (I : Prims) (a0 a1 : Value) (si : St) (K : Value → St → Prop) : Prop :=
 I.loop 19 none c47_10100 (U undefT [(5, (.int .i64 0)), (4, (.bool false)), (0, a0), (1, a1)]) [] (ent si) (fun τ ds s => ((xleave I si Tryd.f47.results.toList K) .ret) τ [] ds s) [(0, fun _ ds0 s0 =>
 xdefers I ds0 s0 fun s1 =>
 I.fin si K (.bool true) s1)]
theorem x47 (I : Prims) (a0 a1 : Value) (si : St) (K : Value → St → Prop) : xbody I 19 k47 Tryd.f47 c47 [a0, a1] si K = v47 I a0 a1 si K := by kernel_rfl
theorem n47 [Memo] (ro : Nat) (a0 a1 : Value) (si : St) (K : Value → St → Prop) : wbody P ro 19 Tryd.f47 c47 [a0, a1] si K = v47 (prims P ro) a0 a1 si K := xbody_eq 19 P ro (x47 _ a0 a1 si K)
theorem r47 (I : Prims) (si : St) (K : Value → St → Prop) (τ : Tau) (ds : List Deferred) (s : St) : xleave I si Tryd.f47.results.toList K .ret τ [] ds s =
 (xdefers I ds s fun s0 =>
 I.fin si K (τ 4) s0) := by kernel_rfl
/- attestor/attestorref01.Neg -/
noncomputable def c48 : Code := bodyOf Tryd.f48
def k48 : List (List Nat) := []
theorem b48 : BodyOk P 8 2 48 Tryd.f48 c48 := ⟨Tryd.func48, by kernel_rfl, by kernel_rfl, by kernel_rfl, by kernel_rfl, by kernel_rfl⟩
def v48 (I : Prims) (a0 a1 : Value) (si : St) (K : Value → St → Prop) : Prop :=
 I.call 86 [a0, (.int .u64 0), a1] (ent si) fun v7_0 s0 =>
 I.fin si K v7_0 s0
theorem x48 (I : Prims) (a0 a1 : Value) (si : St) (K : Value → St → Prop) : xbody I 8 k48 Tryd.f48 c48 [a0, a1] si K = v48 I a0 a1 si K := by kernel_rfl
theorem n48 [Memo] (ro : Nat) (a0 a1 : Value) (si : St) (K : Value → St → Prop) : wbody P ro 8 Tryd.f48 c48 [a0, a1] si K = v48 (prims P ro) a0 a1 si K := xbody_eq 8 P ro (x48 _ a0 a1 si K)
/- attestor/attestorref01.Div -/
noncomputable def c49 : Code := bodyOf Tryd.f49
def k49 : List (List Nat) := []
theorem b49 : BodyOk P 13 3 49 Tryd.f49 c49 := ⟨Tryd.func49, by kernel_rfl, by kernel_rfl, by kernel_rfl, by kernel_rfl, by kernel_rfl⟩
def v49 (I : Prims) (a0 a1 a2 : Value) (si : St) (K : Value → St → Prop) : Prop :=
 I.call 87 [a0, a2] (ent si) fun v11_0 s0 =>
 I.call 72 [a0, a1, v11_0] s0 fun v12_1 s1 =>
 I.fin si K v12_1 s1
theorem x49 (I : Prims) (a0 a1 a2 : Value) (si : St) (K : Value → St → Prop) : xbody I 13 k49 Tryd.f49 c49 [a0, a1, a2] si K = v49 I a0 a1 a2 si K := by kernel_rfl
theorem n49 [Memo] (ro : Nat) (a0 a1 a2 : Value) (si : St) (K : Value → St → Prop) : wbody P ro 13 Tryd.f49 c49 [a0, a1, a2] si K = v49 (prims P ro) a0 a1 a2 si K := xbody_eq 13 P ro (x49 _ a0 a1 a2 si K)
/- attestor/attestorref23.sum -/
noncomputable def c50 : Code := bodyOf Tryd.f50
noncomputable def c50_111 : Code := subCode [1, 1, 1] c50
noncomputable def c50_1111 : Code := subCode [1, 1, 1, 1] c50
def k50 : List (List Nat) := [[1, 1, 1], [1, 1, 1, 1]]
theorem b50 : BodyOk P 65 3 50 Tryd.f50 c50 := ⟨Tryd.func50, by kernel_rfl, by kernel_rfl, by kernel_rfl, by kernel_rfl, by kernel_rfl⟩
def v50_111 (I : Prims) (τ : Tau) (ds : List Deferred) (s : St) (Q : Ex → XK) : Prop :=
 I.wop (.fieldAddr 94 (.const (τ 4)) 3) 0 s fun v24_0 s0 =>
 I.wop (.load 24 (.const v24_0)) 24 s0 fun v25_1 s1 =>
 I.wop (.binOp .neq 24 (.const v25_1) (.const (.int .u64 0)) 24) 4 s1 fun v26_2 s2 =>
 wdec v26_2
 (I.wop (.fieldAddr 94 (.const (τ 4)) 1) 0 s2 fun v33_3 s3 =>
 I.wop (.indexAddr 53 (.const v33_3) (.const (.int .i64 1))) 0 s3 fun v34_4 s4 =>
 I.wop (.load 3 (.const v34_4)) 3 s4 fun v35_5 s5 =>
 I.wop (.indexAddr 23 (.const (τ 2)) (.const v35_5)) 0 s5 fun v36_6 s6 =>
 I.wop (.load 24 (.const v36_6)) 24 s6 fun v37_7 s7 =>
 I.hold (xp I none 65 k50 c50_1111 [1, 1, 1, 1] (U τ [(8, v37_7), (37, v37_7), (36, v36_6), (35, v35_5), (34, v34_4), (33, v33_3), (32, (τ 2)), (31, (.bool true)), (31, (.bool true)), (27, (.bool true)), (30, undef), (27, (.bool true)), (29, undef), (27, (.bool true)), (28, undef), (27, (.bool true)), (27, v26_2), (26, v26_2), (25, v25_1), (24, v24_0)]) [] ds s7 Q))
 (I.wop (.fieldAddr 94 (.const (τ 4)) 4) 0 s2 fun v28_8 s8 =>
 I.wop (.load 24 (.const v28_8)) 24 s8 fun v29_9 s9 =>
 I.wop (.binOp .neq 24 (.const v29_9) (.const (.int .u64 0)) 24) 4 s9 fun v30_10 s10 =>
 wdec v30_10
 (I.wop (.fieldAddr 94 (.const (τ 4)) 1) 0 s10 fun v33_11 s11 =>
 I.wop (.indexAddr 53 (.const v33_11) (.const (.int .i64 1))) 0 s11 fun v34_12 s12 =>
 I.wop (.load 3 (.const v34_12)) 3 s12 fun v35_13 s13 =>
 I.wop (.indexAddr 23 (.const (τ 2)) (.const v35_13)) 0 s13 fun v36_14 s14 =>
 I.wop (.load 24 (.const v36_14)) 24 s14 fun v37_15 s15 =>
 I.hold (xp I none 65 k50 c50_1111 [1, 1, 1, 1] (U τ [(8, v37_15), (37, v37_15), (36, v36_14), (35, v35_13), (34, v34_12), (33, v33_11), (32, (τ 2)), (31, (.bool true)), (31, v30_10), (27, (.bool false)), (30, v30_10), (27, (.bool false)), (29, v29_9), (27, (.bool false)), (28, v28_8), (27, (.bool false)), (27, v26_2), (26, v26_2), (25, v25_1), (24, v24_0)]) [] ds s15 Q))
 (I.hold (xp I none 65 k50 c50_1111 [1, 1, 1, 1] (U τ [(31, (.bool false)), (31, v30_10), (27, (.bool false)), (30, v30_10), (27, (.bool false)), (29, v29_9), (27, (.bool false)), (28, v28_8), (27, (.bool false)), (27, v26_2), (26, v26_2), (25, v25_1), (24, v24_0)]) [] ds s10 Q)))
theorem n50_111 (I : Prims) (τ : Tau) (ds : List Deferred) (s : St) (Q : Ex → XK) : xp I none 65 k50 c50_111 [1, 1, 1] τ [] ds s Q = v50_111 I τ ds s Q := by kernel_rfl
def v50_1111 (I : Prims) (τ : Tau) (ds : List Deferred) (s : St) (Q : Ex → XK) : Prop :=
 I.wop (.fieldAddr 94 (.const (τ 4)) 2) 0 s fun v40_0 s0 =>
 I.wop (.load 24 (.const v40_0)) 24 s0 fun v41_1 s1 =>
 veq v41_1 v41_1 = true ∧ I.wop (.fieldAddr 94 (.const (τ 4)) 3) 0 s1 fun v45_2 s2 =>
 I.wop (.load 24 (.const v45_2)) 24 s2 fun v46_3 s3 =>
 veq v46_3 v46_3 = true ∧ I.call 72 [(τ 0), v41_1, (τ 7)] s3 fun v43_4 s4 =>
 Keeps [(8, .ptr v45_2)] s3 s4 ∧ I.call 72 [(τ 0), v46_3, (τ 8)] s4 fun v48_5 s5 =>
 I.call 66 [(τ 0), v43_4, v48_5] s5 fun v49_6 s6 =>
 I.wop (.fieldAddr 94 (.const (τ 4)) 4) 0 s6 fun v54_7 s7 =>
 I.wop (.load 24 (.const v54_7)) 24 s7 fun v55_8 s8 =>
 veq v55_8 v55_8 = true ∧ I.wop (.fieldAddr 94 (.const (τ 4)) 6) 0 s8 fun v62_9 s9 =>
 I.wop (.load 24 (.const v62_9)) 24 s9 fun v63_10 s10 =>
 veq v63_10 v63_10 = true ∧ I.call 72 [(τ 0), (τ 7), (τ 8)] s10 fun v59_11 s11 =>
 Keeps [(13, .ptr v62_9), (5, .ptr v54_7)] s10 s11 ∧ I.call 72 [(τ 0), v55_8, v59_11] s11 fun v60_12 s12 =>
 Keeps [(13, .ptr v62_9)] s11 s12 ∧ I.call 66 [(τ 0), v49_6, v60_12] s12 fun v61_13 s13 =>
 Keeps [(13, .ptr v62_9)] s12 s13 ∧ I.call 66 [(τ 0), v61_13, v63_10] s13 fun v64_14 s14 =>
 Q .ret τ [(6, v64_14), (64, v64_14), (61, v61_13), (60, v60_12), (59, v59_11), (63, v63_10), (62, v62_9), (58, (τ 8)), (57, (τ 7)), (56, (τ 0)), (55, v55_8), (54, v54_7), (53, (τ 0)), (52, v49_6), (51, (τ 0)), (50, (τ 0)), (9, v49_6), (49, v49_6), (48, v48_5), (43, v43_4), (47, (τ 8)), (46, v46_3), (45, v45_2), (44, (τ 0)), (42, (τ 7)), (41, v41_1), (40, v40_0), (39, (τ 0)), (38, (τ 0))] ds s14
theorem n50_1111 (I : Prims) (τ : Tau) (ds : List Deferred) (s : St) (Q : Ex → XK) : xp I none 65 k50 c50_1111 [1, 1, 1, 1] τ [] ds s Q = v50_1111 I τ ds s Q := by kernel_rfl
def v50 (I : Prims) (a0 a1 a2 : Value) (si : St) (K : Value → St → Prop) : Prop :=
 I.wop (.box 94 (.const a1)) 0 (ent si) fun v4_0 s0 =>
 I.wop (.fieldAddr 94 (.const v4_0) 2) 0 s0 fun v10_1 s1 =>
 I.wop (.load 24 (.const v10_1)) 24 s1 fun v11_2 s2 =>
 I.wop (.binOp .neq 24 (.const v11_2) (.const (.int .u64 0)) 24) 4 s2 fun v12_3 s3 =>
 wdec v12_3
 (I.wop (.fieldAddr 94 (.const v4_0) 1) 0 s3 fun v19_4 s4 =>
 I.wop (.indexAddr 53 (.const v19_4) (.const (.int .i64 0))) 0 s4 fun v20_5 s5 =>
 I.wop (.load 3 (.const v20_5)) 3 s5 fun v21_6 s6 =>
 I.wop (.indexAddr 23 (.const a2) (.const v21_6)) 0 s6 fun v22_7 s7 =>
 I.wop (.load 24 (.const v22_7)) 24 s7 fun v23_8 s8 =>
 I.hold (xp I none 65 k50 c50_111 [1, 1, 1] (U undefT [(7, v23_8), (23, v23_8), (22, v22_7), (21, v21_6), (20, v20_5), (19, v19_4), (18, a2), (17, (.bool true)), (17, (.bool true)), (13, (.bool true)), (16, undef), (13, (.bool true)), (15, undef), (13, (.bool true)), (14, undef), (13, (.bool true)), (13, v12_3), (12, v12_3), (11, v11_2), (10, v10_1), (8, (.int .u64 0)), (7, (.int .u64 0)), (6, (.int .u64 0)), (4, v4_0), (0, a0), (1, a1), (2, a2)]) [] [] s8 (xleave I si Tryd.f50.results.toList K)))
 (I.wop (.fieldAddr 94 (.const v4_0) 4) 0 s3 fun v14_9 s9 =>
 I.wop (.load 24 (.const v14_9)) 24 s9 fun v15_10 s10 =>
 I.wop (.binOp .neq 24 (.const v15_10) (.const (.int .u64 0)) 24) 4 s10 fun v16_11 s11 =>
 wdec v16_11
 (I.wop (.fieldAddr 94 (.const v4_0) 1) 0 s11 fun v19_12 s12 =>
 I.wop (.indexAddr 53 (.const v19_12) (.const (.int .i64 0))) 0 s12 fun v20_13 s13 =>
 I.wop (.load 3 (.const v20_13)) 3 s13 fun v21_14 s14 =>
 I.wop (.indexAddr 23 (.const a2) (.const v21_14)) 0 s14 fun v22_15 s15 =>
 I.wop (.load 24 (.const v22_15)) 24 s15 fun v23_16 s16 =>
 I.hold (xp I none 65 k50 c50_111 [1, 1, 1] (U undefT [(7, v23_16), (23, v23_16), (22, v22_15), (21, v21_14), (20, v20_13), (19, v19_12), (18, a2), (17, (.bool true)), (17, v16_11), (13, (.bool false)), (16, v16_11), (13, (.bool false)), (15, v15_10), (13, (.bool false)), (14, v14_9), (13, (.bool false)), (13, v12_3), (12, v12_3), (11, v11_2), (10, v10_1), (8, (.int .u64 0)), (7, (.int .u64 0)), (6, (.int .u64 0)), (4, v4_0), (0, a0), (1, a1), (2, a2)]) [] [] s16 (xleave I si Tryd.f50.results.toList K)))
 (I.hold (xp I none 65 k50 c50_111 [1, 1, 1] (U undefT [(17, (.bool false)), (17, v16_11), (13, (.bool false)), (16, v16_11), (13, (.bool false)), (15, v15_10), (13, (.bool false)), (14, v14_9), (13, (.bool false)), (13, v12_3), (12, v12_3), (11, v11_2), (10, v10_1), (8, (.int .u64 0)), (7, (.int .u64 0)), (6, (.int .u64 0)), (4, v4_0), (0, a0), (1, a1), (2, a2)]) [] [] s11 (xleave I si Tryd.f50.results.toList K))))
theorem x50 (I : Prims) (a0 a1 a2 : Value) (si : St) (K : Value → St → Prop) : xbody I 65 k50 Tryd.f50 c50 [a0, a1, a2] si K = v50 I a0 a1 a2 si K := by kernel_rfl
theorem n50 [Memo] (ro : Nat) (a0 a1 a2 : Value) (si : St) (K : Value → St → Prop) : wbody P ro 65 Tryd.f50 c50 [a0, a1, a2] si K = v50 (prims P ro) a0 a1 a2 si K := xbody_eq 65 P ro (x50 _ a0 a1 a2 si K)
theorem r50 (I : Prims) (si : St) (K : Value → St → Prop) (τ : Tau) (ds : List Deferred) (s : St) : xleave I si Tryd.f50.results.toList K .ret τ [] ds s =
 (xdefers I ds s fun s0 =>
 I.fin si K (τ 6) s0) := by kernel_rfl
/- attestor/attestorref23.round -/
noncomputable def c51 : Code := bodyOf Tryd.f51
noncomputable def c51_110100 : Code := subCode [1, 1, 0, 1, 0, 0] c51
def k51 : List (List Nat) := []
def k51_110100 : List (List Nat) := []
theorem l51_110100 : ltCode 27 c51_110100 = true := by kernel_rfl
theorem m51_110100 : notMap c51_110100 = true := by kernel_rfl
theorem b51 : BodyOk P 27 3 51 Tryd.f51 c51 := ⟨Tryd.func51, by kernel_rfl, by kernel_rfl, by kernel_rfl, by kernel_rfl, by kernel_rfl⟩
def v51_110100 (I : Prims) (rnd : Option Nat) (τ : Tau) (ds : List Deferred) (s : St) (Q : Ex → WK) : Prop :=
 I.wop (.binOp .lss 3 (.const (τ 8)) (.const (.int .i64 4)) 3) 4 s fun v10_0 s0 =>
 wdec v10_0
 (I.wop (.fieldAddr 94 (.const (τ 4)) 1) 0 s0 fun v16_1 s1 =>
 I.wop (.indexAddr 53 (.const v16_1) (.const (τ 8))) 0 s1 fun v17_2 s2 =>
 I.wop (.load 3 (.const v17_2)) 3 s2 fun v18_3 s3 =>
 I.wop (.indexAddr 23 (.const (τ 2)) (.const v18_3)) 0 s3 fun v19_4 s4 =>
 I.wop (.load 24 (.const v19_4)) 24 s4 fun v20_5 s5 =>
 I.wop (.indexAddr 58 (.const (τ 7)) (.const (τ 8))) 0 s5 fun v21_6 s6 =>
 I.wop (.store 24 (.const v21_6) (.const v20_5)) 0 s6 fun _ s7 =>
 I.wop (.binOp .add 3 (.const (τ 8)) (.const (.int .i64 1)) 3) 3 s7 fun v12_8 s8 =>
 Q .normal (U τ [(8, v12_8), (12, v12_8), (11, (τ 8)), (21, v21_6), (20, v20_5), (19, v19_4), (18, v18_3), (17, v17_2), (16, v16_1), (15, (τ 8)), (14, (τ 2)), (13, (τ 8)), (10, (.bool true)), (10, v10_0), (9, (τ 8))]) ds s8)
 (Q (.exit 0) (U τ [(10, (.bool false)), (10, v10_0), (9, (τ 8))]) ds s0)
theorem x51_110100 (I : Prims) (rnd : Option Nat) (τ : Tau) (ds : List Deferred) (s : St) (Q : Ex → WK) : xp I rnd 27 k51_110100 c51_110100 [] τ [] ds s (lift Q) = v51_110100 I rnd τ ds s Q := by kernel_rfl
theorem n51_110100 [Memo] (ro : Nat) (rnd : Option Nat) (τ : Tau) (ds : List Deferred) (s : St) (Q : Ex → WK) : wp P ro 27 rnd c51_110100 τ ds s Q = v51_110100 (prims P ro) rnd τ ds s Q := xp_wp rnd 27 P ro (x51_110100 _ rnd τ ds s Q)
def v51 (I : Prims) (a0 a1 a2 : Value) (si : St) (K : Value → St → Prop) : Prop :=
 I.wop (.box 94 (.const a1)) 0 (ent si) fun v4_0 s0 =>
 I.wop (.alloc 58) 0 s0 fun v6_1 s1 =>
 I.wop (.alloc 58) 0 s1 fun v7_2 s2 =>
 I.loop 27 none c51_110100 (U undefT [(8, (.int .i64 0)), (7, v7_2), (6, v6_1), (4, v4_0), (0, a0), (1, a1), (2, a2)]) [] s2 (fun τ ds s => ((xleave I si Tryd.f51.results.toList K) .ret) τ [] ds s) [(0, fun τ3 ds3 s3 =>
 I.wop (.fieldAddr 94 (.const (τ3 4)) 7) 0 s3 fun v23_4 s4 =>
 I.wop (.load 3 (.const v23_4)) 3 s4 fun v24_5 s5 =>
 I.wop (.load 58 (.const (τ3 7))) 58 s5 fun v25_6 s6 =>
 I.call 88 [(τ3 0), v24_5, v25_6] s6 fun v26_7 s7 =>
 I.wop (.store 58 (.const (τ3 6)) (.const v26_7)) 0 s7 fun _ s8 =>
 xdefers I ds3 s8 fun s9 =>
 I.wop (.load 58 (.const (τ3 6))) 58 s9 fun v6_10 _ =>
 I.fin si K v6_10 s9)]
theorem x51 (I : Prims) (a0 a1 a2 : Value) (si : St) (K : Value → St → Prop) : xbody I 27 k51 Tryd.f51 c51 [a0, a1, a2] si K = v51 I a0 a1 a2 si K := by kernel_rfl
theorem n51 [Memo] (ro : Nat) (a0 a1 a2 : Value) (si : St) (K : Value → St → Prop) : wbody P ro 27 Tryd.f51 c51 [a0, a1, a2] si K = v51 (prims P ro) a0 a1 a2 si K := xbody_eq 27 P ro (x51 _ a0 a1 a2 si K)
/- attestor/attestorref23.holds -/
noncomputable def c52 : Code := bodyOf Tryd.f52
noncomputable def c52_110101111101100 : Code := subCode [1, 1, 0, 1, 0, 1, 1, 1, 1, 1, 0, 1, 1, 0, 0] c52
def k52 : List (List Nat) := []
def k52_110101111101100 : List (List Nat) := []
theorem l52_110101111101100 : ltCode 81 c52_110101111101100 = true := by kernel_rfl
theorem m52_110101111101100 : notMap c52_110101111101100 = true := by kernel_rfl
theorem b52 : BodyOk P 81 3 52 Tryd.f52 c52 := ⟨Tryd.func52, by kernel_rfl, by kernel_rfl, by kernel_rfl, by kernel_rfl, by kernel_rfl⟩
def v52_110101111101100 (I : Prims) (rnd : Option Nat) (τ : Tau) (ds : List Deferred) (s : St) (Q : Ex → WK) : Prop :=
 I.wop (.binOp .lss 3 (.const (τ 10)) (.const (.int .i64 4)) 3) 4 s fun v62_0 s0 =>
 wdec v62_0
 (I.wop (.fieldAddr 34 (.const (τ 3)) 4) 0 s0 fun v66_1 s1 =>
 I.wop (.load 32 (.const v66_1)) 32 s1 fun v67_2 s2 =>
 I.wop (.binOp .add 3 (.const (τ 2)) (.const (.int .i64 1)) 3) 3 s2 fun v69_3 s3 =>
 I.wop (.indexAddr 32 (.const v67_2) (.const v69_3)) 0 s3 fun v71_4 s4 =>
 I.wop (.fieldAddr 94 (.const v71_4) 1) 0 s4 fun v72_5 s5 =>
 I.wop (.indexAddr 53 (.const v72_5) (.const (τ 10))) 0 s5 fun v73_6 s6 =>
 I.wop (.load 3 (.const v73_6)) 3 s6 fun v74_7 s7 =>
 I.wop (.indexAddr 23 (.const (τ 1)) (.const v74_7)) 0 s7 fun v75_8 s8 =>
 I.wop (.load 24 (.const v75_8)) 24 s8 fun v76_9 s9 =>
 I.wop (.indexAddr 58 (.const (τ 9)) (.const (τ 10))) 0 s9 fun v78_10 s10 =>
 I.wop (.load 24 (.const v78_10)) 24 s10 fun v79_11 s11 =>
 I.wop (.binOp .neq 24 (.const v76_9) (.const v79_11) 24) 4 s11 fun v80_12 s12 =>
 wdec v80_12
 (Q .ret (U τ [(6, (.bool false)), (80, (.bool true)), (80, v80_12), (79, v79_11), (78, v78_10), (77, (τ 10)), (76, v76_9), (75, v75_8), (74, v74_7), (73, v73_6), (72, v72_5), (71, v71_4), (70, (τ 10)), (69, v69_3), (68, (τ 2)), (67, v67_2), (66, v66_1), (65, (τ 1)), (62, (.bool true)), (62, v62_0), (61, (τ 10))]) ds s12)
 (I.wop (.binOp .add 3 (.const (τ 10)) (.const (.int .i64 1)) 3) 3 s12 fun v64_13 s13 =>
 Q .normal (U τ [(10, v64_13), (64, v64_13), (63, (τ 10)), (80, (.bool false)), (80, v80_12), (79, v79_11), (78, v78_10), (77, (τ 10)), (76, v76_9), (75, v75_8), (74, v74_7), (73, v73_6), (72, v72_5), (71, v71_4), (70, (τ 10)), (69, v69_3), (68, (τ 2)), (67, v67_2), (66, v66_1), (65, (τ 1)), (62, (.bool true)), (62, v62_0), (61, (τ 10))]) ds s13))
 (Q (.exit 1) (U τ [(62, (.bool false)), (62, v62_0), (61, (τ 10))]) ds s0)
theorem x52_110101111101100 (I : Prims) (rnd : Option Nat) (τ : Tau) (ds : List Deferred) (s : St) (Q : Ex → WK) : xp I rnd 81 k52_110101111101100 c52_110101111101100 [] τ [] ds s (lift Q) = v52_110101111101100 I rnd τ ds s Q := by kernel_rfl
theorem n52_110101111101100 [Memo] (ro : Nat) (rnd : Option Nat) (τ : Tau) (ds : List Deferred) (s : St) (Q : Ex → WK) : wp P ro 81 rnd c52_110101111101100 τ ds s Q = v52_110101111101100 (prims P ro) rnd τ ds s Q := xp_wp rnd 81 P ro (x52_110101111101100 _ rnd τ ds s Q)
def v52 (I : Prims) (a0 a1 a2 : Value) (si : St) (K : Value → St → Prop) : Prop :=
 I.wop (.box 34 (.const a0)) 0 (ent si) fun v3_0 s0 =>
 I.wop (.fieldAddr 34 (.const v3_0) 4) 0 s0 fun v11_1 s1 =>
 I.wop (.load 32 (.const v11_1)) 32 s1 fun v12_2 s2 =>
 I.wop (.indexAddr 32 (.const v12_2) (.const a2)) 0 s2 fun v14_3 s3 =>
 I.wop (.load 94 (.const v14_3)) 94 s3 fun v15_4 s4 =>
 I.wop (.alloc 94) 0 s4 fun v7_5 s5 =>
 I.wop (.store 94 (.const v7_5) (.const v15_4)) 0 s5 fun _ s6 =>
 I.wop (.fieldAddr 94 (.const v7_5) 0) 0 s6 fun v16_7 s7 =>
 I.wop (.load 92 (.const v16_7)) 92 s7 fun v17_8 s8 =>
 I.wop (.binOp .eql 92 (.const v17_8) (.const (.int .u8 1)) 92) 4 s8 fun v19_9 s9 =>
 wdec v19_9
 (I.wop (.fieldAddr 34 (.const v3_0) 0) 0 s9 fun v20_10 s10 =>
 I.wop (.load 3 (.const v20_10)) 3 s10 fun v21_11 s11 =>
 I.wop (.load 94 (.const v7_5)) 94 s11 fun v22_12 s12 =>
 I.call 50 [v21_11, v22_12, a1] s12 fun v24_13 s13 =>
 I.wop (.fieldAddr 94 (.const v7_5) 5) 0 s13 fun v25_14 s14 =>
 I.wop (.load 24 (.const v25_14)) 24 s14 fun v26_15 s15 =>
 I.wop (.binOp .neq 24 (.const v26_15) (.const (.int .u64 0)) 24) 4 s15 fun v27_16 s16 =>
 wdec v27_16
 (I.wop (.fieldAddr 34 (.const v3_0) 0) 0 s16 fun v28_17 s17 =>
 I.wop (.load 3 (.const v28_17)) 3 s17 fun v29_18 s18 =>
 veq v29_18 v29_18 = true ∧ I.wop (.fieldAddr 34 (.const v3_0) 0) 0 s18 fun v31_19 s19 =>
 I.wop (.load 3 (.const v31_19)) 3 s19 fun v32_20 s20 =>
 veq v32_20 v32_20 = true ∧ I.wop (.fieldAddr 94 (.const v7_5) 5) 0 s20 fun v33_21 s21 =>
 I.wop (.load 24 (.const v33_21)) 24 s21 fun v34_22 s22 =>
 veq v34_22 v34_22 = true ∧ I.wop (.fieldAddr 94 (.const v7_5) 1) 0 s22 fun v36_23 s23 =>
 I.wop (.indexAddr 53 (.const v36_23) (.const (.int .i64 2))) 0 s23 fun v37_24 s24 =>
 I.wop (.load 3 (.const v37_24)) 3 s24 fun v38_25 s25 =>
 veq v38_25 v38_25 = true ∧ I.wop (.indexAddr 23 (.const a1) (.const v38_25)) 0 s25 fun v39_26 s26 =>
 I.wop (.load 24 (.const v39_26)) 24 s26 fun v40_27 s27 =>
 veq v40_27 v40_27 = true ∧ I.call 72 [v32_20, v34_22, v40_27] s27 fun v41_28 s28 =>
 Keeps [(1, .ptr v28_17)] s27 s28 ∧ I.call 66 [v29_18, v24_13, v41_28] s28 fun v42_29 s29 =>
 I.wop (.binOp .eql 24 (.const v42_29) (.const (.int .u64 0)) 24) 4 s29 fun v44_30 s30 =>
 I.fin si K v44_30 s30)
 (I.wop (.binOp .eql 24 (.const v24_13) (.const (.int .u64 0)) 24) 4 s16 fun v44_31 s31 =>
 I.fin si K v44_31 s31))
 (I.wop (.binOp .eql 92 (.const v17_8) (.const (.int .u8 2)) 92) 4 s9 fun v46_32 s32 =>
 wdec v46_32
 (I.wop (.fieldAddr 94 (.const v7_5) 1) 0 s32 fun v48_33 s33 =>
 I.wop (.indexAddr 53 (.const v48_33) (.const (.int .i64 0))) 0 s33 fun v49_34 s34 =>
 I.wop (.load 3 (.const v49_34)) 3 s34 fun v50_35 s35 =>
 I.wop (.indexAddr 23 (.const a1) (.const v50_35)) 0 s35 fun v51_36 s36 =>
 I.wop (.load 24 (.const v51_36)) 24 s36 fun v52_37 s37 =>
 I.wop (.binOp .lss 24 (.const v52_37) (.const (.int .u64 16)) 24) 4 s37 fun v53_38 s38 =>
 I.fin si K v53_38 s38)
 (I.wop (.binOp .eql 92 (.const v17_8) (.const (.int .u8 3)) 92) 4 s32 fun v55_39 s39 =>
 wdec v55_39
 (I.wop (.fieldAddr 34 (.const v3_0) 0) 0 s39 fun v56_40 s40 =>
 I.wop (.load 3 (.const v56_40)) 3 s40 fun v57_41 s41 =>
 I.wop (.load 94 (.const v7_5)) 94 s41 fun v58_42 s42 =>
 I.call 51 [v57_41, v58_42, a1] s42 fun v60_43 s43 =>
 I.wop (.alloc 58) 0 s43 fun v9_44 s44 =>
 I.wop (.store 58 (.const v9_44) (.const v60_43)) 0 s44 fun _ s45 =>
 I.loop 81 none c52_110101111101100 (U undefT [(10, (.int .i64 0)), (9, v9_44), (60, v60_43), (59, a1), (58, v58_42), (57, v57_41), (56, v56_40), (54, (.bool true)), (54, v55_39), (55, v55_39), (45, (.bool false)), (45, v46_32), (46, v46_32), (18, (.bool false)), (18, v19_9), (19, v19_9), (17, v17_8), (16, v16_7), (7, v7_5), (15, v15_4), (14, v14_3), (13, a2), (12, v12_2), (11, v11_1), (6, (.bool false)), (3, v3_0), (0, a0), (1, a1), (2, a2)]) [] s45 (fun τ ds s => ((xleave I si Tryd.f52.results.toList K) .ret) τ [] ds s) [(1, fun _ ds46 s46 =>
 xdefers I ds46 s46 fun s47 =>
 I.fin si K (.bool true) s47)])
 (I.fin si K (.bool true) s39)))
theorem x52 (I : Prims) (a0 a1 a2 : Value) (si : St) (K : Value → St → Prop) : xbody I 81 k52 Tryd.f52 c52 [a0, a1, a2] si K = v52 I a0 a1 a2 si K := by kernel_rfl
theorem n52 [Memo] (ro : Nat) (a0 a1 a2 : Value) (si : St) (K : Value → St → Prop) : wbody P ro 81 Tryd.f52 c52 [a0, a1, a2] si K = v52 (prims P ro) a0 a1 a2 si K := xbody_eq 81 P ro (x52 _ a0 a1 a2 si K)
theorem r52 (I : Prims) (si : St) (K : Value → St → Prop) (τ : Tau) (ds : List Deferred) (s : St) : xleave I si Tryd.f52.results.toList K .ret τ [] ds s =
 (xdefers I ds s fun s0 =>
 I.fin si K (τ 6) s0) := by kernel_rfl
/- (*attestor/circuit.Builder).pair -/
noncomputable def c57 : Code := bodyOf Tryd.f57
def k57 : List (List Nat) := []
theorem b57 : BodyOk P 16 3 57 Tryd.f57 c57 := ⟨Tryd.func57, by kernel_rfl, by kernel_rfl, by kernel_rfl, by kernel_rfl, by kernel_rfl⟩
def v57 (I : Prims) (a0 a1 a2 : Value) (si : St) (K : Value → St → Prop) : Prop :=
 I.wop (.alloc 47) 0 (ent si) fun v6_0 s0 =>
 I.wop (.nilCheck (.const a0)) 0 s0 fun v8_1 s1 =>
 I.wop (.fieldAddr 81 (.const v8_1) 2) 0 s1 fun v9_2 s2 =>
 I.wop (.load 26 (.const v9_2)) 26 s2 fun v10_3 s3 =>
 I.wop (.binOp .neq 26 (.const v10_3) (.const (.int .i64 0)) 26) 4 s3 fun v11_4 s4 =>
 wdec v11_4
 (I.wop (.build 47 ⟨[(0, (.const (.int .i64 (-1)))), (1, (.const (.int .i64 (-1))))]⟩) 47 s4 fun v12_5 s5 =>
 I.wop (.store 47 (.const v6_0) (.const v12_5)) 0 s5 fun _ s6 =>
 I.wop (.load 47 (.const v6_0)) 47 s6 fun v6_7 _ =>
 I.fin si K v6_7 s6)
 (I.wop (.build 47 ⟨[(0, (.const a1)), (1, (.const a2))]⟩) 47 s4 fun v15_8 s8 =>
 I.wop (.store 47 (.const v6_0) (.const v15_8)) 0 s8 fun _ s9 =>
 I.wop (.load 47 (.const v6_0)) 47 s9 fun v6_10 _ =>
 I.fin si K v6_10 s9)
theorem x57 (I : Prims) (a0 a1 a2 : Value) (si : St) (K : Value → St → Prop) : xbody I 16 k57 Tryd.f57 c57 [a0, a1, a2] si K = v57 I a0 a1 a2 si K := by kernel_rfl
theorem n57 [Memo] (ro : Nat) (a0 a1 a2 : Value) (si : St) (K : Value → St → Prop) : wbody P ro 16 Tryd.f57 c57 [a0, a1, a2] si K = v57 (prims P ro) a0 a1 a2 si K := xbody_eq 16 P ro (x57 _ a0 a1 a2 si K)
/- (*attestor/circuit.Builder).put -/
noncomputable def c62 : Code := bodyOf Tryd.f62
def k62 : List (List Nat) := []
theorem b62 : BodyOk P 63 3 62 Tryd.f62 c62 := ⟨Tryd.func62, by kernel_rfl, by kernel_rfl, by kernel_rfl, by kernel_rfl, by kernel_rfl⟩
def v62 (I : Prims) (a0 a1 a2 : Value) (si : St) (K : Value → St → Prop) : Prop :=
 I.wop (.nilCheck (.const a0)) 0 (ent si) fun v9_0 s0 =>
 I.wop (.fieldAddr 81 (.const v9_0) 2) 0 s0 fun v10_1 s1 =>
 I.wop (.load 26 (.const v10_1)) 26 s1 fun v11_2 s2 =>
 I.wop (.binOp .neq 26 (.const v11_2) (.const (.int .i64 0)) 26) 4 s2 fun v12_3 s3 =>
 wdec v12_3
 (I.fin si K (.int .i64 (-1)) s3)
 (I.wop (.nilCheck (.const a0)) 0 s3 fun v14_4 s4 =>
 I.wop (.fieldAddr 81 (.const v14_4) 1) 0 s4 fun v15_5 s5 =>
 I.wop (.fieldAddr 34 (.const v15_5) 4) 0 s5 fun v16_6 s6 =>
 I.wop (.load 32 (.const v16_6)) 32 s6 fun v17_7 s7 =>
 I.wop (.call ⟨.builtin .len, ⟨[(.const v17_7)]⟩, #[32]⟩) 3 s7 fun v18_8 s8 =>
 I.wop (.call ⟨.builtin .len, ⟨[(.const a2)]⟩, #[32]⟩) 3 s8 fun v20_9 s9 =>
 I.wop (.binOp .add 3 (.const v18_8) (.const v20_9) 3) 3 s9 fun v21_10 s10 =>
 I.wop (.binOp .gtr 3 (.const v21_10) (.const (.int .i64 8000)) 3) 4 s10 fun v22_11 s11 =>
 wdec v22_11
 (I.wop (.nilCheck (.const a0)) 0 s11 fun v34_12 s12 =>
 I.wop (.fieldAddr 81 (.const v34_12) 2) 0 s12 fun v35_13 s13 =>
 I.wop (.store 26 (.const v35_13) (.const (.int .i64 9))) 0 s13 fun _ s14 =>
 I.fin si K (.int .i64 (-1)) s14)
 (I.wop (.nilCheck (.const a0)) 0 s11 fun v25_15 s15 =>
 I.wop (.fieldAddr 81 (.const v25_15) 1) 0 s15 fun v26_16 s16 =>
 I.wop (.fieldAddr 34 (.const v26_16) 1) 0 s16 fun v27_17 s17 =>
 I.wop (.load 3 (.const v27_17)) 3 s17 fun v28_18 s18 =>
 I.wop (.binOp .add 3 (.const v28_18) (.const a1) 3) 3 s18 fun v30_19 s19 =>
 I.wop (.binOp .gtr 3 (.const v30_19) (.const (.int .i64 40000)) 3) 4 s19 fun v31_20 s20 =>
 wdec v31_20
 (I.wop (.nilCheck (.const a0)) 0 s20 fun v34_21 s21 =>
 I.wop (.fieldAddr 81 (.const v34_21) 2) 0 s21 fun v35_22 s22 =>
 I.wop (.store 26 (.const v35_22) (.const (.int .i64 9))) 0 s22 fun _ s23 =>
 I.fin si K (.int .i64 (-1)) s23)
 (I.wop (.nilCheck (.const a0)) 0 s20 fun v37_24 s24 =>
 I.wop (.fieldAddr 81 (.const v37_24) 1) 0 s24 fun v38_25 s25 =>
 I.wop (.fieldAddr 34 (.const v38_25) 1) 0 s25 fun v39_26 s26 =>
 I.wop (.load 3 (.const v39_26)) 3 s26 fun v40_27 s27 =>
 I.wop (.nilCheck (.const a0)) 0 s27 fun v43_28 s28 =>
 I.wop (.fieldAddr 81 (.const v43_28) 1) 0 s28 fun v44_29 s29 =>
 I.wop (.fieldAddr 34 (.const v44_29) 4) 0 s29 fun v45_30 s30 =>
 I.wop (.load 32 (.const v45_30)) 32 s30 fun v46_31 s31 =>
 I.wop (.call ⟨.builtin .append, ⟨[(.const v46_31), (.const a2)]⟩, #[32, 32]⟩) 32 s31 fun v48_32 s32 =>
 I.wop (.nilCheck (.const a0)) 0 s32 fun v49_33 s33 =>
 I.wop (.fieldAddr 81 (.const v49_33) 1) 0 s33 fun v50_34 s34 =>
 I.wop (.fieldAddr 34 (.const v50_34) 4) 0 s34 fun v51_35 s35 =>
 I.wop (.store 32 (.const v51_35) (.const v48_32)) 0 s35 fun _ s36 =>
 I.wop (.nilCheck (.const a0)) 0 s36 fun v53_37 s37 =>
 I.wop (.fieldAddr 81 (.const v53_37) 1) 0 s37 fun v54_38 s38 =>
 I.wop (.fieldAddr 34 (.const v54_38) 1) 0 s38 fun v55_39 s39 =>
 I.wop (.load 3 (.const v55_39)) 3 s39 fun v56_40 s40 =>
 I.wop (.binOp .add 3 (.const v56_40) (.const a1) 3) 3 s40 fun v58_41 s41 =>
 I.wop (.nilCheck (.const a0)) 0 s41 fun v59_42 s42 =>
 I.wop (.fieldAddr 81 (.const v59_42) 1) 0 s42 fun v60_43 s43 =>
 I.wop (.fieldAddr 34 (.const v60_43) 1) 0 s43 fun v61_44 s44 =>
 I.wop (.store 3 (.const v61_44) (.const v58_41)) 0 s44 fun _ s45 =>
 I.fin si K v40_27 s45)))
theorem x62 (I : Prims) (a0 a1 a2 : Value) (si : St) (K : Value → St → Prop) : xbody I 63 k62 Tryd.f62 c62 [a0, a1, a2] si K = v62 I a0 a1 a2 si K := by kernel_rfl
theorem n62 [Memo] (ro : Nat) (a0 a1 a2 : Value) (si : St) (K : Value → St → Prop) : wbody P ro 63 Tryd.f62 c62 [a0, a1, a2] si K = v62 (prims P ro) a0 a1 a2 si K := xbody_eq 63 P ro (x62 _ a0 a1 a2 si K)
/- attestor/circuit.arith -/
noncomputable def c63 : Code := bodyOf Tryd.f63
def k63 : List (List Nat) := []
theorem b63 : BodyOk P 27 8 63 Tryd.f63 c63 := ⟨Tryd.func63, by kernel_rfl, by kernel_rfl, by kernel_rfl, by kernel_rfl, by kernel_rfl⟩
def v63 (I : Prims) (a0 a1 a2 a3 a4 a5 a6 a7 : Value) (si : St) (K : Value → St → Prop) : Prop :=
 I.wop (.alloc 94) 0 (ent si) fun v16_0 s0 =>
 I.wop (.build 53 ⟨[(0, (.const a0)), (1, (.const a1)), (2, (.const a2)), (3, (.const (.int .i64 (-1))))]⟩) 53 s0 fun v20_1 s1 =>
 I.wop (.build 94 ⟨[(0, (.const (.int .u8 1))), (1, (.const v20_1)), (2, (.const a3)), (3, (.const a4)), (4, (.const a5)), (5, (.const a6)), (6, (.const a7))]⟩) 94 s1 fun v26_2 s2 =>
 I.wop (.store 94 (.const v16_0) (.const v26_2)) 0 s2 fun _ s3 =>
 I.wop (.load 94 (.const v16_0)) 94 s3 fun v16_4 _ =>
 I.fin si K v16_4 s3
theorem x63 (I : Prims) (a0 a1 a2 a3 a4 a5 a6 a7 : Value) (si : St) (K : Value → St → Prop) : xbody I 27 k63 Tryd.f63 c63 [a0, a1, a2, a3, a4, a5, a6, a7] si K = v63 I a0 a1 a2 a3 a4 a5 a6 a7 si K := by kernel_rfl
theorem n63 [Memo] (ro : Nat) (a0 a1 a2 a3 a4 a5 a6 a7 : Value) (si : St) (K : Value → St → Prop) : wbody P ro 27 Tryd.f63 c63 [a0, a1, a2, a3, a4, a5, a6, a7] si K = v63 (prims P ro) a0 a1 a2 a3 a4 a5 a6 a7 si K := xbody_eq 27 P ro (x63 _ a0 a1 a2 a3 a4 a5 a6 a7 si K)
/- attestor/field.Add -/
noncomputable def c64 : Code := bodyOf Tryd.f64
def k64 : List (List Nat) := []
theorem b64 : BodyOk P 27 3 64 Tryd.f64 c64 := ⟨Tryd.func64, by kernel_rfl, by kernel_rfl, by kernel_rfl, by kernel_rfl, by kernel_rfl⟩
def v64 (I : Prims) (a0 a1 a2 : Value) (si : St) (K : Value → St → Prop) : Prop :=
 I.call 80 [a0] (ent si) fun v10_0 s0 =>
 I.wop (.binOp .eql 24 (.const v10_0) (.const (.int .u64 0)) 24) 4 s0 fun v12_1 s1 =>
 wdec v12_1
 (I.fin si K (.int .u64 0) s1)
 (I.wop (.binOp .rem 24 (.const a1) (.const v10_0) 24) 24 s1 fun v15_2 s2 =>
 I.wop (.binOp .rem 24 (.const a2) (.const v10_0) 24) 24 s2 fun v18_3 s3 =>
 I.wop (.binOp .add 24 (.const v15_2) (.const v18_3) 24) 24 s3 fun v19_4 s4 =>
 I.wop (.binOp .geq 24 (.const v19_4) (.const v10_0) 24) 4 s4 fun v22_5 s5 =>
 wdec v22_5
 (I.wop (.binOp .sub 24 (.const v19_4) (.const v10_0) 24) 24 s5 fun v25_6 s6 =>
 I.fin si K v25_6 s6)
 (I.fin si K v19_4 s5))
theorem x64 (I : Prims) (a0 a1 a2 : Value) (si : St) (K : Value → St → Prop) : xbody I 27 k64 Tryd.f64 c64 [a0, a1, a2] si K = v64 I a0 a1 a2 si K := by kernel_rfl
theorem n64 [Memo] (ro : Nat) (a0 a1 a2 : Value) (si : St) (K : Value → St → Prop) : wbody P ro 27 Tryd.f64 c64 [a0, a1, a2] si K = v64 (prims P ro) a0 a1 a2 si K := xbody_eq 27 P ro (x64 _ a0 a1 a2 si K)
/- slices.Chunk[[]int,int] -/
noncomputable def c65 : Code := bodyOf Tryd.f65
def k65 : List (List Nat) := []
theorem b65 : BodyOk P 9 2 65 Tryd.f65 c65 := ⟨Tryd.func65, by kernel_rfl, by kernel_rfl, by kernel_rfl, by kernel_rfl, by kernel_rfl⟩
def v65 (I : Prims) (a0 a1 : Value) (si : St) (K : Value → St → Prop) : Prop :=
 I.wop (.box 30 (.const a0)) 0 (ent si) fun v2_0 s0 =>
 I.wop (.box 3 (.const a1)) 0 s0 fun v3_1 s1 =>
 I.wop (.load 3 (.const v3_1)) 3 s1 fun v5_2 s2 =>
 I.wop (.binOp .lss 3 (.const v5_2) (.const (.int .i64 1)) 3) 4 s2 fun v6_3 s3 =>
 wdec v6_3
 (I.wop (.makeInterface 9 (.const (.string (ByteArray.mk #[99, 97, 110, 110, 111, 116, 32, 98, 101, 32, 108, 101, 115, 115, 32, 116, 104, 97, 110, 32, 49])))) 20 s3 fun _ s4 =>
 I.wop (.panic (.tmp 7)) 0 s4 fun _ s5 =>
 I.fin si K (.func (.func 91) (.mk []) (.mk [v2_0, v3_1])) s5)
 (I.fin si K (.func (.func 91) (.mk []) (.mk [v2_0, v3_1])) s3)
theorem x65 (I : Prims) (a0 a1 : Value) (si : St) (K : Value → St → Prop) : xbody I 9 k65 Tryd.f65 c65 [a0, a1] si K = v65 I a0 a1 si K := by kernel_rfl
theorem n65 [Memo] (ro : Nat) (a0 a1 : Value) (si : St) (K : Value → St → Prop) : wbody P ro 9 Tryd.f65 c65 [a0, a1] si K = v65 (prims P ro) a0 a1 si K := xbody_eq 9 P ro (x65 _ a0 a1 si K)
/- attestor/attestorref01.Add -/
noncomputable def c66 : Code := bodyOf Tryd.f66
def k66 : List (List Nat) := []
theorem b66 : BodyOk P 22 3 66 Tryd.f66 c66 := ⟨Tryd.func66, by kernel_rfl, by kernel_rfl, by kernel_rfl, by kernel_rfl, by kernel_rfl⟩
def v66 (I : Prims) (a0 a1 a2 : Value) (si : St) (K : Value → St → Prop) : Prop :=
 I.call 16 [a0] (ent si) fun v8_0 s0 =>
 I.wop (.unOp .not 4 (.const v8_0)) 4 s0 fun v9_1 s1 =>
 wdec v9_1
 (I.fin si K (.int .u64 0) s1)
 (I.call 14 [a0] s1 fun v12_2 s2 =>
 I.wop (.binOp .rem 24 (.const a1) (.const v12_2) 24) 24 s2 fun v13_3 s3 =>
 I.call 14 [a0] s3 fun v16_4 s4 =>
 I.wop (.binOp .rem 24 (.const a2) (.const v16_4) 24) 24 s4 fun v17_5 s5 =>
 I.wop (.binOp .add 24 (.const v13_3) (.const v17_5) 24) 24 s5 fun v18_6 s6 =>
 I.call 14 [a0] s6 fun v20_7 s7 =>
 I.wop (.binOp .rem 24 (.const v18_6) (.const v20_7) 24) 24 s7 fun v21_8 s8 =>
 I.fin si K v21_8 s8)
theorem x66 (I : Prims) (a0 a1 a2 : Value) (si : St) (K : Value → St → Prop) : xbody I 22 k66 Tryd.f66 c66 [a0, a1, a2] si K = v66 I a0 a1 a2 si K := by kernel_rfl
theorem n66 [Memo] (ro : Nat) (a0 a1 a2 : Value) (si : St) (K : Value → St → Prop) : wbody P ro 22 Tryd.f66 c66 [a0, a1, a2] si K = v66 (prims P ro) a0 a1 a2 si K := xbody_eq 22 P ro (x66 _ a0 a1 a2 si K)
/- attestor/attestorref06.Perm -/
noncomputable def c67 : Code := bodyOf Tryd.f67
noncomputable def c67_110100 : Code := subCode [1, 1, 0, 1, 0, 0] c67
def k67 : List (List Nat) := []
def k67_110100 : List (List Nat) := []
theorem l67_110100 : ltCode 19 c67_110100 = true := by kernel_rfl
theorem m67_110100 : notMap c67_110100 = true := by kernel_rfl
theorem b67 : BodyOk P 19 2 67 Tryd.f67 c67 := ⟨Tryd.func67, by kernel_rfl, by kernel_rfl, by kernel_rfl, by kernel_rfl, by kernel_rfl⟩
def v67_110100 (I : Prims) (rnd : Option Nat) (τ : Tau) (ds : List Deferred) (s : St) (Q : Ex → WK) : Prop :=
 I.wop (.binOp .lss 3 (.const (τ 5)) (.const (.int .i64 8)) 3) 4 s fun v11_0 s0 =>
 wdec v11_0
 (I.wop (.load 58 (.const (τ 3))) 58 s0 fun v16_1 s1 =>
 I.call 88 [(τ 0), (τ 5), v16_1] s1 fun v17_2 s2 =>
 I.wop (.store 58 (.const (τ 3)) (.const v17_2)) 0 s2 fun _ s3 =>
 I.wop (.binOp .add 3 (.const (τ 5)) (.const (.int .i64 1)) 3) 3 s3 fun v13_4 s4 =>
 Q .normal (U τ [(5, v13_4), (13, v13_4), (12, (τ 5)), (17, v17_2), (16, v16_1), (15, (τ 5)), (14, (τ 0)), (11, (.bool true)), (11, v11_0), (10, (τ 5))]) ds s4)
 (Q (.exit 0) (U τ [(11, (.bool false)), (11, v11_0), (10, (τ 5))]) ds s0)
theorem x67_110100 (I : Prims) (rnd : Option Nat) (τ : Tau) (ds : List Deferred) (s : St) (Q : Ex → WK) : xp I rnd 19 k67_110100 c67_110100 [] τ [] ds s (lift Q) = v67_110100 I rnd τ ds s Q := by kernel_rfl
theorem n67_110100 [Memo] (ro : Nat) (rnd : Option Nat) (τ : Tau) (ds : List Deferred) (s : St) (Q : Ex → WK) : wp P ro 19 rnd c67_110100 τ ds s Q = v67_110100 (prims P ro) rnd τ ds s Q := xp_wp rnd 19 P ro (x67_110100 _ rnd τ ds s Q)
def v67 (I : Prims) (a0 a1 : Value) (si : St) (K : Value → St → Prop) : Prop :=
 I.wop (.box 58 (.const a1)) 0 (ent si) fun v3_0 s0 =>
 I.wop (.alloc 58) 0 s0 fun v4_1 s1 =>
 I.call 16 [a0] s1 fun v7_2 s2 =>
 I.wop (.unOp .not 4 (.const v7_2)) 4 s2 fun v8_3 s3 =>
 wdec v8_3
 (I.wop (.build 58 ⟨[]⟩) 58 s3 fun v9_4 s4 =>
 I.wop (.store 58 (.const v4_1) (.const v9_4)) 0 s4 fun _ s5 =>
 I.wop (.load 58 (.const v4_1)) 58 s5 fun v4_6 _ =>
 I.fin si K v4_6 s5)
 (I.loop 19 none c67_110100 (U undefT [(5, (.int .i64 0)), (8, (.bool false)), (8, v8_3), (7, v7_2), (6, a0), (4, v4_1), (3, v3_0), (0, a0), (1, a1)]) [] s3 (fun τ ds s => ((xleave I si Tryd.f67.results.toList K) .ret) τ [] ds s) [(0, fun τ7 ds7 s7 =>
 I.wop (.load 58 (.const (τ7 3))) 58 s7 fun v18_8 s8 =>
 I.wop (.store 58 (.const (τ7 4)) (.const v18_8)) 0 s8 fun _ s9 =>
 xdefers I ds7 s9 fun s10 =>
 I.wop (.load 58 (.const (τ7 4))) 58 s10 fun v4_11 _ =>
 I.fin si K v4_11 s10)])
theorem x67 (I : Prims) (a0 a1 : Value) (si : St) (K : Value → St → Prop) : xbody I 19 k67 Tryd.f67 c67 [a0, a1] si K = v67 I a0 a1 si K := by kernel_rfl
theorem n67 [Memo] (ro : Nat) (a0 a1 : Value) (si : St) (K : Value → St → Prop) : wbody P ro 19 Tryd.f67 c67 [a0, a1] si K = v67 (prims P ro) a0 a1 si K := xbody_eq 19 P ro (x67 _ a0 a1 si K)
/- attestor/attestorref01.Mul -/
noncomputable def c72 : Code := bodyOf Tryd.f72
def k72 : List (List Nat) := []
theorem b72 : BodyOk P 22 3 72 Tryd.f72 c72 := ⟨Tryd.func72, by kernel_rfl, by kernel_rfl, by kernel_rfl, by kernel_rfl, by kernel_rfl⟩
def v72 (I : Prims) (a0 a1 a2 : Value) (si : St) (K : Value → St → Prop) : Prop :=
 I.call 16 [a0] (ent si) fun v8_0 s0 =>
 I.wop (.unOp .not 4 (.const v8_0)) 4 s0 fun v9_1 s1 =>
 wdec v9_1
 (I.fin si K (.int .u64 0) s1)
 (I.call 14 [a0] s1 fun v12_2 s2 =>
 I.wop (.binOp .rem 24 (.const a1) (.const v12_2) 24) 24 s2 fun v13_3 s3 =>
 I.call 14 [a0] s3 fun v16_4 s4 =>
 I.wop (.binOp .rem 24 (.const a2) (.const v16_4) 24) 24 s4 fun v17_5 s5 =>
 I.wop (.binOp .mul 24 (.const v13_3) (.const v17_5) 24) 24 s5 fun v18_6 s6 =>
 I.call 14 [a0] s6 fun v20_7 s7 =>
 I.wop (.binOp .rem 24 (.const v18_6) (.const v20_7) 24) 24 s7 fun v21_8 s8 =>
 I.fin si K v21_8 s8)
theorem x72 (I : Prims) (a0 a1 a2 : Value) (si : St) (K : Value → St → Prop) : xbody I 22 k72 Tryd.f72 c72 [a0, a1, a2] si K = v72 I a0 a1 a2 si K := by kernel_rfl
theorem n72 [Memo] (ro : Nat) (a0 a1 a2 : Value) (si : St) (K : Value → St → Prop) : wbody P ro 22 Tryd.f72 c72 [a0, a1, a2] si K = v72 (prims P ro) a0 a1 a2 si K := xbody_eq 22 P ro (x72 _ a0 a1 a2 si K)
/- slices.Max[[]uint64,uint64] -/
noncomputable def c79 : Code := bodyOf Tryd.f79
noncomputable def c79_11 : Code := subCode [1, 1] c79
noncomputable def c79_1110100 : Code := subCode [1, 1, 1, 0, 1, 0, 0] c79
def k79 : List (List Nat) := [[1, 1]]
def k79_1110100 : List (List Nat) := []
theorem l79_1110100 : ltCode 25 c79_1110100 = true := by kernel_rfl
theorem m79_1110100 : notMap c79_1110100 = true := by kernel_rfl
theorem b79 : BodyOk P 25 1 79 Tryd.f79 c79 := ⟨Tryd.func79, by kernel_rfl, by kernel_rfl, by kernel_rfl, by kernel_rfl, by kernel_rfl⟩
def v79_11 (I : Prims) (τ : Tau) (ds : List Deferred) (s : St) (Q : Ex → XK) : Prop :=
 I.wop (.indexAddr 23 (.const (τ 0)) (.const (.int .i64 0))) 0 s fun v10_0 s0 =>
 I.wop (.load 24 (.const v10_0)) 24 s0 fun v11_1 s1 =>
 I.loop 25 none c79_1110100 (U τ [(4, (.int .i64 1)), (3, v11_1), (11, v11_1), (10, v10_0), (9, (τ 0))]) ds s1 (fun τ ds s => (Q .ret) τ [] ds s) [(0, fun τ2 ds2 s2 =>
 Q .ret τ2 [(2, (τ2 3)), (24, (τ2 3))] ds2 s2)]
theorem n79_11 (I : Prims) (τ : Tau) (ds : List Deferred) (s : St) (Q : Ex → XK) : xp I none 25 k79 c79_11 [1, 1] τ [] ds s Q = v79_11 I τ ds s Q := by kernel_rfl
def v79_1110100 (I : Prims) (rnd : Option Nat) (τ : Tau) (ds : List Deferred) (s : St) (Q : Ex → WK) : Prop :=
 I.wop (.call ⟨.builtin .len, ⟨[(.const (τ 0))]⟩, #[23]⟩) 3 s fun v14_0 s0 =>
 I.wop (.binOp .lss 3 (.const (τ 4)) (.const v14_0) 3) 4 s0 fun v15_1 s1 =>
 wdec v15_1
 (I.wop (.indexAddr 23 (.const (τ 0)) (.const (τ 4))) 0 s1 fun v21_2 s2 =>
 I.wop (.load 24 (.const v21_2)) 24 s2 fun v22_3 s3 =>
 I.wop (.call ⟨.builtin .max, ⟨[(.const (τ 3)), (.const v22_3)]⟩, #[24, 24]⟩) 24 s3 fun v23_4 s4 =>
 I.wop (.binOp .add 3 (.const (τ 4)) (.const (.int .i64 1)) 3) 3 s4 fun v17_5 s5 =>
 Q .normal (U τ [(4, v17_5), (17, v17_5), (16, (τ 4)), (3, v23_4), (23, v23_4), (22, v22_3), (21, v21_2), (20, (τ 4)), (19, (τ 0)), (18, (τ 3)), (15, (.bool true)), (15, v15_1), (14, v14_0), (13, (τ 0)), (12, (τ 4))]) ds s5)
 (Q (.exit 0) (U τ [(15, (.bool false)), (15, v15_1), (14, v14_0), (13, (τ 0)), (12, (τ 4))]) ds s1)
theorem x79_1110100 (I : Prims) (rnd : Option Nat) (τ : Tau) (ds : List Deferred) (s : St) (Q : Ex → WK) : xp I rnd 25 k79_1110100 c79_1110100 [] τ [] ds s (lift Q) = v79_1110100 I rnd τ ds s Q := by kernel_rfl
theorem n79_1110100 [Memo] (ro : Nat) (rnd : Option Nat) (τ : Tau) (ds : List Deferred) (s : St) (Q : Ex → WK) : wp P ro 25 rnd c79_1110100 τ ds s Q = v79_1110100 (prims P ro) rnd τ ds s Q := xp_wp rnd 25 P ro (x79_1110100 _ rnd τ ds s Q)
def v79 (I : Prims) (a0 : Value) (si : St) (K : Value → St → Prop) : Prop :=
 I.wop (.call ⟨.builtin .len, ⟨[(.const a0)]⟩, #[23]⟩) 3 (ent si) fun v6_0 s0 =>
 I.wop (.binOp .lss 3 (.const v6_0) (.const (.int .i64 1)) 3) 4 s0 fun v7_1 s1 =>
 wdec v7_1
 (I.wop (.makeInterface 9 (.const (.string (ByteArray.mk #[115, 108, 105, 99, 101, 115, 46, 77, 97, 120, 58, 32, 101, 109, 112, 116, 121, 32, 108, 105, 115, 116])))) 20 s1 fun v8_2 s2 =>
 I.wop (.panic (.tmp 8)) 0 s2 fun _ s3 =>
 I.hold (xp I none 25 k79 c79_11 [1, 1] (U undefT [(8, v8_2), (7, (.bool true)), (7, v7_1), (6, v6_0), (5, a0), (2, (.int .u64 0)), (0, a0)]) [] [] s3 (xleave I si Tryd.f79.results.toList K)))
 (I.hold (xp I none 25 k79 c79_11 [1, 1] (U undefT [(7, (.bool false)), (7, v7_1), (6, v6_0), (5, a0), (2, (.int .u64 0)), (0, a0)]) [] [] s1 (xleave I si Tryd.f79.results.toList K)))
theorem x79 (I : Prims) (a0 : Value) (si : St) (K : Value → St → Prop) : xbody I 25 k79 Tryd.f79 c79 [a0] si K = v79 I a0 si K := by kernel_rfl
theorem n79 [Memo] (ro : Nat) (a0 : Value) (si : St) (K : Value → St → Prop) : wbody P ro 25 Tryd.f79 c79 [a0] si K = v79 (prims P ro) a0 si K := xbody_eq 25 P ro (x79 _ a0 si K)
theorem r79 (I : Prims) (si : St) (K : Value → St → Prop) (τ : Tau) (ds : List Deferred) (s : St) : xleave I si Tryd.f79.results.toList K .ret τ [] ds s =
 (xdefers I ds s fun s0 =>
 I.fin si K (τ 2) s0) := by kernel_rfl
/- attestor/field.P -/
noncomputable def c80 : Code := bodyOf Tryd.f80
def k80 : List (List Nat) := []
theorem b80 : BodyOk P 6 1 80 Tryd.f80 c80 := ⟨Tryd.func80, by kernel_rfl, by kernel_rfl, by kernel_rfl, by kernel_rfl, by kernel_rfl⟩
def v80 (I : Prims) (a0 : Value) (si : St) (K : Value → St → Prop) : Prop :=
 I.call 95 [a0] (ent si) fun v4_0 s0 =>
 I.wop (.field 140 (.const v4_0) 0) 24 s0 fun v5_1 s1 =>
 I.fin si K v5_1 s1
theorem x80 (I : Prims) (a0 : Value) (si : St) (K : Value → St → Prop) : xbody I 6 k80 Tryd.f80 c80 [a0] si K = v80 I a0 si K := by kernel_rfl
theorem n80 [Memo] (ro : Nat) (a0 : Value) (si : St) (K : Value → St → Prop) : wbody P ro 6 Tryd.f80 c80 [a0] si K = v80 (prims P ro) a0 si K := xbody_eq 6 P ro (x80 _ a0 si K)
/- slices.ContainsFunc[[]int,int] -/
noncomputable def c81 : Code := bodyOf Tryd.f81
def k81 : List (List Nat) := []
theorem b81 : BodyOk P 9 2 81 Tryd.f81 c81 := ⟨Tryd.func81, by kernel_rfl, by kernel_rfl, by kernel_rfl, by kernel_rfl, by kernel_rfl⟩
def v81 (I : Prims) (a0 a1 : Value) (si : St) (K : Value → St → Prop) : Prop :=
 I.call 96 [a0, a1] (ent si) fun v7_0 s0 =>
 I.wop (.binOp .geq 3 (.const v7_0) (.const (.int .i64 0)) 3) 4 s0 fun v8_1 s1 =>
 I.fin si K v8_1 s1
theorem x81 (I : Prims) (a0 a1 : Value) (si : St) (K : Value → St → Prop) : xbody I 9 k81 Tryd.f81 c81 [a0, a1] si K = v81 I a0 a1 si K := by kernel_rfl
theorem n81 [Memo] (ro : Nat) (a0 a1 : Value) (si : St) (K : Value → St → Prop) : wbody P ro 9 Tryd.f81 c81 [a0, a1] si K = v81 (prims P ro) a0 a1 si K := xbody_eq 9 P ro (x81 _ a0 a1 si K)
/- (*attestor/circuit.Builder).known$1 -/
noncomputable def c82 : Code := bodyOf Tryd.f82
def k82 : List (List Nat) := []
theorem b82 : BodyOk P 15 2 82 Tryd.f82 c82 := ⟨Tryd.func82, by kernel_rfl, by kernel_rfl, by kernel_rfl, by kernel_rfl, by kernel_rfl⟩
def v82 (I : Prims) (a0 a1 : Value) (si : St) (K : Value → St → Prop) : Prop :=
 I.wop (.binOp .lss 3 (.const a0) (.const (.int .i64 0)) 3) 4 (ent si) fun v5_0 s0 =>
 wdec v5_0
 (I.fin si K (.bool true) s0)
 (I.wop (.load 25 (.const a1)) 25 s0 fun v8_1 s1 =>
 I.wop (.nilCheck (.const v8_1)) 0 s1 fun v9_2 s2 =>
 I.wop (.fieldAddr 81 (.const v9_2) 1) 0 s2 fun v10_3 s3 =>
 I.wop (.fieldAddr 34 (.const v10_3) 1) 0 s3 fun v11_4 s4 =>
 I.wop (.load 3 (.const v11_4)) 3 s4 fun v12_5 s5 =>
 I.wop (.binOp .geq 3 (.const a0) (.const v12_5) 3) 4 s5 fun v13_6 s6 =>
 I.fin si K v13_6 s6)
theorem x82 (I : Prims) (a0 a1 : Value) (si : St) (K : Value → St → Prop) : xbody I 15 k82 Tryd.f82 c82 [a0, a1] si K = v82 I a0 a1 si K := by kernel_rfl
theorem n82 [Memo] (ro : Nat) (a0 a1 : Value) (si : St) (K : Value → St → Prop) : wbody P ro 15 Tryd.f82 c82 [a0, a1] si K = v82 (prims P ro) a0 a1 si K := xbody_eq 15 P ro (x82 _ a0 a1 si K)
/- (*attestor/circuit.Builder).whole$1 -/
noncomputable def c83 : Code := bodyOf Tryd.f83
def k83 : List (List Nat) := []
theorem b83 : BodyOk P 24 3 83 Tryd.f83 c83 := ⟨Tryd.func83, by kernel_rfl, by kernel_rfl, by kernel_rfl, by kernel_rfl, by kernel_rfl⟩
def d83 (I : Prims) (rnd : Option Nat) (τ : Tau) (ds : List Deferred) (s : St) (Q : Ex → WK) : Prop :=
 I.wop (.load 25 (.const (τ 0))) 25 s fun v3_0 s0 =>
 I.wop (.nilCheck (.const v3_0)) 0 s0 fun v4_1 s1 =>
 I.wop (.fieldAddr 81 (.const v4_1) 2) 0 s1 fun v5_2 s2 =>
 I.wop (.load 26 (.const v5_2)) 26 s2 fun v6_3 s3 =>
 I.wop (.binOp .neq 26 (.const v6_3) (.const (.int .i64 0)) 26) 4 s3 fun v7_4 s4 =>
 wdec v7_4
 (I.wop (.load 25 (.const (τ 0))) 25 s4 fun v8_5 s5 =>
 veq v8_5 v8_5 = true ∧ I.wop (.load 25 (.const (τ 0))) 25 s5 fun v9_6 s6 =>
 veq v9_6 v9_6 = true ∧ I.wop (.nilCheck (.const v9_6)) 0 s6 fun v10_7 s7 =>
 I.wop (.fieldAddr 81 (.const v10_7) 1) 0 s7 fun v11_8 s8 =>
 I.wop (.fieldAddr 34 (.const v11_8) 4) 0 s8 fun v12_9 s9 =>
 I.wop (.load 32 (.const v12_9)) 32 s9 fun v13_10 s10 =>
 veq v13_10 v13_10 = true ∧ I.wop (.load 3 (.const (τ 1))) 3 s10 fun v14_11 s11 =>
 veq v14_11 v14_11 = true ∧ I.wop (.slice 32 (.const v13_10) none (some (.const v14_11)) none) 32 s11 fun v15_12 s12 =>
 I.wop (.nilCheck (.const v8_5)) 0 s12 fun v16_13 s13 =>
 I.wop (.fieldAddr 81 (.const v16_13) 1) 0 s13 fun v17_14 s14 =>
 I.wop (.fieldAddr 34 (.const v17_14) 4) 0 s14 fun v18_15 s15 =>
 I.wop (.store 32 (.const v18_15) (.const v15_12)) 0 s15 fun _ s16 =>
 I.wop (.load 25 (.const (τ 0))) 25 s16 fun v19_17 s17 =>
 I.wop (.load 3 (.const (τ 2))) 3 s17 fun v20_18 s18 =>
 I.wop (.nilCheck (.const v19_17)) 0 s18 fun v21_19 s19 =>
 I.wop (.fieldAddr 81 (.const v21_19) 1) 0 s19 fun v22_20 s20 =>
 I.wop (.fieldAddr 34 (.const v22_20) 1) 0 s20 fun v23_21 s21 =>
 I.wop (.store 3 (.const v23_21) (.const v20_18)) 0 s21 fun _ s22 =>
 Q .normal (U τ [(23, v23_21), (22, v22_20), (21, v21_19), (20, v20_18), (19, v19_17), (18, v18_15), (17, v17_14), (16, v16_13), (15, v15_12), (14, v14_11), (13, v13_10), (12, v12_9), (11, v11_8), (10, v10_7), (9, v9_6), (8, v8_5), (7, (.bool true)), (7, v7_4), (6, v6_3), (5, v5_2), (4, v4_1), (3, v3_0)]) ds s22)
 (Q .normal (U τ [(7, (.bool false)), (7, v7_4), (6, v6_3), (5, v5_2), (4, v4_1), (3, v3_0)]) ds s4)
theorem e83 (I : Prims) (rnd : Option Nat) (τ : Tau) (ds : List Deferred) (s : St) (Q : Ex → WK) : xp I rnd 24 k83 c83 [] τ [] ds s (lift Q) = d83 I rnd τ ds s Q := by kernel_rfl
theorem g83 [Memo] (ro : Nat) (rnd : Option Nat) (τ : Tau) (ds : List Deferred) (s : St) (Q : Ex → WK) : wp P ro 24 rnd c83 τ ds s Q = d83 (prims P ro) rnd τ ds s Q := xp_wp rnd 24 P ro (e83 _ rnd τ ds s Q)
/- attestor/attestorref23.limits -/
noncomputable def c84 : Code := bodyOf Tryd.f84
noncomputable def c84_110100 : Code := subCode [1, 1, 0, 1, 0, 0] c84
noncomputable def c84_110100100111100 : Code := subCode [1, 1, 0, 1, 0, 0, 1, 0, 0, 1, 1, 1, 1, 0, 0] c84
def k84 : List (List Nat) := []
def k84_110100 : List (List Nat) := []
theorem l84_110100 : ltCode 92 c84_110100 = true := by kernel_rfl
theorem m84_110100 : notMap c84_110100 = true := by kernel_rfl
def k84_110100100111100 : List (List Nat) := []
theorem l84_110100100111100 : ltCode 92 c84_110100100111100 = true := by kernel_rfl
theorem m84_110100100111100 : notMap c84_110100100111100 = true := by kernel_rfl
theorem b84 : BodyOk P 92 1 84 Tryd.f84 c84 := ⟨Tryd.func84, by kernel_rfl, by kernel_rfl, by kernel_rfl, by kernel_rfl, by kernel_rfl⟩
def v84_110100 (I : Prims) (rnd : Option Nat) (τ : Tau) (ds : List Deferred) (s : St) (Q : Ex → WK) : Prop :=
 I.wop (.fieldAddr 34 (.const (τ 1)) 4) 0 s fun v51_0 s0 =>
 I.wop (.load 32 (.const v51_0)) 32 s0 fun v52_1 s1 =>
 I.wop (.call ⟨.builtin .len, ⟨[(.const v52_1)]⟩, #[32]⟩) 3 s1 fun v53_2 s2 =>
 I.wop (.binOp .lss 3 (.const (τ 3)) (.const v53_2) 3) 4 s2 fun v54_3 s3 =>
 wdec v54_3
 (I.wop (.load 34 (.const (τ 1))) 34 s3 fun v57_4 s4 =>
 veq v57_4 v57_4 = true ∧ I.wop (.fieldAddr 34 (.const (τ 1)) 4) 0 s4 fun v58_5 s5 =>
 I.wop (.load 32 (.const v58_5)) 32 s5 fun v59_6 s6 =>
 veq v59_6 v59_6 = true ∧ I.wop (.indexAddr 32 (.const v59_6) (.const (τ 3))) 0 s6 fun v61_7 s7 =>
 I.wop (.load 94 (.const v61_7)) 94 s7 fun v62_8 s8 =>
 veq v62_8 v62_8 = true ∧ I.call 97 [v57_4, v62_8] s8 fun v63_9 s9 =>
 I.wop (.unOp .not 4 (.const v63_9)) 4 s9 fun v64_10 s10 =>
 wdec v64_10
 (Q .ret (U τ [(2, (.bool false)), (64, (.bool true)), (64, v64_10), (63, v63_9), (62, v62_8), (61, v61_7), (60, (τ 3)), (59, v59_6), (58, v58_5), (57, v57_4), (54, (.bool true)), (54, v54_3), (53, v53_2), (52, v52_1), (51, v51_0), (50, (τ 3))]) ds s10)
 (I.wop (.fieldAddr 34 (.const (τ 1)) 4) 0 s10 fun v65_11 s11 =>
 I.wop (.load 32 (.const v65_11)) 32 s11 fun v66_12 s12 =>
 I.wop (.indexAddr 32 (.const v66_12) (.const (τ 3))) 0 s12 fun v68_13 s13 =>
 I.wop (.fieldAddr 94 (.const v68_13) 0) 0 s13 fun v69_14 s14 =>
 I.wop (.load 92 (.const v69_14)) 92 s14 fun v70_15 s15 =>
 I.wop (.binOp .neq 92 (.const v70_15) (.const (.int .u8 3)) 92) 4 s15 fun v71_16 s16 =>
 wdec v71_16
 (I.wop (.binOp .add 3 (.const (τ 3)) (.const (.int .i64 1)) 3) 3 s16 fun v56_17 s17 =>
 Q .normal (U τ [(3, v56_17), (56, v56_17), (55, (τ 3)), (71, (.bool true)), (71, v71_16), (70, v70_15), (69, v69_14), (68, v68_13), (67, (τ 3)), (66, v66_12), (65, v65_11), (64, (.bool false)), (64, v64_10), (63, v63_9), (62, v62_8), (61, v61_7), (60, (τ 3)), (59, v59_6), (58, v58_5), (57, v57_4), (54, (.bool true)), (54, v54_3), (53, v53_2), (52, v52_1), (51, v51_0), (50, (τ 3))]) ds s17)
 (I.wop (.binOp .add 3 (.const (τ 3)) (.const (.int .i64 1)) 3) 3 s16 fun v73_18 s18 =>
 I.wop (.fieldAddr 34 (.const (τ 1)) 4) 0 s18 fun v74_19 s19 =>
 I.wop (.load 32 (.const v74_19)) 32 s19 fun v75_20 s20 =>
 I.wop (.call ⟨.builtin .len, ⟨[(.const v75_20)]⟩, #[32]⟩) 3 s20 fun v76_21 s21 =>
 I.wop (.binOp .geq 3 (.const v73_18) (.const v76_21) 3) 4 s21 fun v77_22 s22 =>
 wdec v77_22
 (Q .ret (U τ [(2, (.bool false)), (77, (.bool true)), (77, v77_22), (76, v76_21), (75, v75_20), (74, v74_19), (73, v73_18), (72, (τ 3)), (71, (.bool false)), (71, v71_16), (70, v70_15), (69, v69_14), (68, v68_13), (67, (τ 3)), (66, v66_12), (65, v65_11), (64, (.bool false)), (64, v64_10), (63, v63_9), (62, v62_8), (61, v61_7), (60, (τ 3)), (59, v59_6), (58, v58_5), (57, v57_4), (54, (.bool true)), (54, v54_3), (53, v53_2), (52, v52_1), (51, v51_0), (50, (τ 3))]) ds s22)
 (I.loop 92 rnd c84_110100100111100 (U τ [(4, (.int .i64 0)), (77, (.bool false)), (77, v77_22), (76, v76_21), (75, v75_20), (74, v74_19), (73, v73_18), (72, (τ 3)), (71, (.bool false)), (71, v71_16), (70, v70_15), (69, v69_14), (68, v68_13), (67, (τ 3)), (66, v66_12), (65, v65_11), (64, (.bool false)), (64, v64_10), (63, v63_9), (62, v62_8), (61, v61_7), (60, (τ 3)), (59, v59_6), (58, v58_5), (57, v57_4), (54, (.bool true)), (54, v54_3), (53, v53_2), (52, v52_1), (51, v51_0), (50, (τ 3))]) ds s22 (fun τ ds s => ((lift Q) .ret) τ [] ds s) [(2, fun τ23 ds23 s23 =>
 I.wop (.binOp .add 3 (.const (τ23 3)) (.const (.int .i64 1)) 3) 3 s23 fun v56_24 s24 =>
 Q .normal (U τ23 [(3, v56_24), (56, v56_24), (55, (τ23 3))]) ds23 s24)]))))
 (Q (.exit 0) (U τ [(54, (.bool false)), (54, v54_3), (53, v53_2), (52, v52_1), (51, v51_0), (50, (τ 3))]) ds s3)
theorem x84_110100 (I : Prims) (rnd : Option Nat) (τ : Tau) (ds : List Deferred) (s : St) (Q : Ex → WK) : xp I rnd 92 k84_110100 c84_110100 [] τ [] ds s (lift Q) = v84_110100 I rnd τ ds s Q := by kernel_rfl
theorem n84_110100 [Memo] (ro : Nat) (rnd : Option Nat) (τ : Tau) (ds : List Deferred) (s : St) (Q : Ex → WK) : wp P ro 92 rnd c84_110100 τ ds s Q = v84_110100 (prims P ro) rnd τ ds s Q := xp_wp rnd 92 P ro (x84_110100 _ rnd τ ds s Q)
def v84_110100100111100 (I : Prims) (rnd : Option Nat) (τ : Tau) (ds : List Deferred) (s : St) (Q : Ex → WK) : Prop :=
 I.wop (.binOp .lss 3 (.const (τ 4)) (.const (.int .i64 4)) 3) 4 s fun v79_0 s0 =>
 wdec v79_0
 (I.wop (.fieldAddr 34 (.const (τ 1)) 4) 0 s0 fun v82_1 s1 =>
 I.wop (.load 32 (.const v82_1)) 32 s1 fun v83_2 s2 =>
 I.wop (.binOp .add 3 (.const (τ 3)) (.const (.int .i64 1)) 3) 3 s2 fun v85_3 s3 =>
 I.wop (.indexAddr 32 (.const v83_2) (.const v85_3)) 0 s3 fun v87_4 s4 =>
 I.wop (.fieldAddr 94 (.const v87_4) 1) 0 s4 fun v88_5 s5 =>
 I.wop (.indexAddr 53 (.const v88_5) (.const (τ 4))) 0 s5 fun v89_6 s6 =>
 I.wop (.load 3 (.const v89_6)) 3 s6 fun v90_7 s7 =>
 I.wop (.binOp .lss 3 (.const v90_7) (.const (.int .i64 0)) 3) 4 s7 fun v91_8 s8 =>
 wdec v91_8
 (Q .ret (U τ [(2, (.bool false)), (91, (.bool true)), (91, v91_8), (90, v90_7), (89, v89_6), (88, v88_5), (87, v87_4), (86, (τ 4)), (85, v85_3), (84, (τ 3)), (83, v83_2), (82, v82_1), (79, (.bool true)), (79, v79_0), (78, (τ 4))]) ds s8)
 (I.wop (.binOp .add 3 (.const (τ 4)) (.const (.int .i64 1)) 3) 3 s8 fun v81_9 s9 =>
 Q .normal (U τ [(4, v81_9), (81, v81_9), (80, (τ 4)), (91, (.bool false)), (91, v91_8), (90, v90_7), (89, v89_6), (88, v88_5), (87, v87_4), (86, (τ 4)), (85, v85_3), (84, (τ 3)), (83, v83_2), (82, v82_1), (79, (.bool true)), (79, v79_0), (78, (τ 4))]) ds s9))
 (Q (.exit 2) (U τ [(79, (.bool false)), (79, v79_0), (78, (τ 4))]) ds s0)
theorem x84_110100100111100 (I : Prims) (rnd : Option Nat) (τ : Tau) (ds : List Deferred) (s : St) (Q : Ex → WK) : xp I rnd 92 k84_110100100111100 c84_110100100111100 [] τ [] ds s (lift Q) = v84_110100100111100 I rnd τ ds s Q := by kernel_rfl
theorem n84_110100100111100 [Memo] (ro : Nat) (rnd : Option Nat) (τ : Tau) (ds : List Deferred) (s : St) (Q : Ex → WK) : wp P ro 92 rnd c84_110100100111100 τ ds s Q = v84_110100100111100 (prims P ro) rnd τ ds s Q := xp_wp rnd 92 P ro (x84_110100100111100 _ rnd τ ds s Q)
def v84 (I : Prims) (a0 : Value) (si : St) (K : Value → St → Prop) : Prop :=
 I.wop (.box 34 (.const a0)) 0 (ent si) fun v1_0 s0 =>
 I.wop (.fieldAddr 34 (.const v1_0) 0) 0 s0 fun v5_1 s1 =>
 I.wop (.load 3 (.const v5_1)) 3 s1 fun v6_2 s2 =>
 I.call 16 [v6_2] s2 fun v7_3 s3 =>
 I.wop (.unOp .not 4 (.const v7_3)) 4 s3 fun v8_4 s4 =>
 wdec v8_4
 (I.fin si K (.bool false) s4)
 (I.wop (.fieldAddr 34 (.const v1_0) 2) 0 s4 fun v10_5 s5 =>
 I.wop (.load 3 (.const v10_5)) 3 s5 fun v11_6 s6 =>
 I.wop (.binOp .lss 3 (.const v11_6) (.const (.int .i64 0)) 3) 4 s6 fun v12_7 s7 =>
 wdec v12_7
 (I.fin si K (.bool false) s7)
 (I.wop (.fieldAddr 34 (.const v1_0) 2) 0 s7 fun v15_8 s8 =>
 I.wop (.load 3 (.const v15_8)) 3 s8 fun v16_9 s9 =>
 I.wop (.binOp .gtr 3 (.const v16_9) (.const (.int .i64 16)) 3) 4 s9 fun v17_10 s10 =>
 wdec v17_10
 (I.fin si K (.bool false) s10)
 (I.wop (.fieldAddr 34 (.const v1_0) 3) 0 s10 fun v20_11 s11 =>
 I.wop (.load 3 (.const v20_11)) 3 s11 fun v21_12 s12 =>
 I.wop (.binOp .lss 3 (.const v21_12) (.const (.int .i64 0)) 3) 4 s12 fun v22_13 s13 =>
 wdec v22_13
 (I.fin si K (.bool false) s13)
 (I.wop (.fieldAddr 34 (.const v1_0) 3) 0 s13 fun v25_14 s14 =>
 I.wop (.load 3 (.const v25_14)) 3 s14 fun v26_15 s15 =>
 I.wop (.binOp .gtr 3 (.const v26_15) (.const (.int .i64 20000)) 3) 4 s15 fun v27_16 s16 =>
 wdec v27_16
 (I.fin si K (.bool false) s16)
 (I.wop (.fieldAddr 34 (.const v1_0) 1) 0 s16 fun v30_17 s17 =>
 I.wop (.load 3 (.const v30_17)) 3 s17 fun v31_18 s18 =>
 I.wop (.fieldAddr 34 (.const v1_0) 2) 0 s18 fun v32_19 s19 =>
 I.wop (.load 3 (.const v32_19)) 3 s19 fun v33_20 s20 =>
 I.wop (.fieldAddr 34 (.const v1_0) 3) 0 s20 fun v34_21 s21 =>
 I.wop (.load 3 (.const v34_21)) 3 s21 fun v35_22 s22 =>
 I.wop (.binOp .add 3 (.const v33_20) (.const v35_22) 3) 3 s22 fun v36_23 s23 =>
 I.wop (.binOp .lss 3 (.const v31_18) (.const v36_23) 3) 4 s23 fun v37_24 s24 =>
 wdec v37_24
 (I.fin si K (.bool false) s24)
 (I.wop (.fieldAddr 34 (.const v1_0) 1) 0 s24 fun v40_25 s25 =>
 I.wop (.load 3 (.const v40_25)) 3 s25 fun v41_26 s26 =>
 I.wop (.binOp .gtr 3 (.const v41_26) (.const (.int .i64 40000)) 3) 4 s26 fun v42_27 s27 =>
 wdec v42_27
 (I.fin si K (.bool false) s27)
 (I.wop (.fieldAddr 34 (.const v1_0) 4) 0 s27 fun v45_28 s28 =>
 I.wop (.load 32 (.const v45_28)) 32 s28 fun v46_29 s29 =>
 I.wop (.call ⟨.builtin .len, ⟨[(.const v46_29)]⟩, #[32]⟩) 3 s29 fun v47_30 s30 =>
 I.wop (.binOp .gtr 3 (.const v47_30) (.const (.int .i64 8000)) 3) 4 s30 fun v48_31 s31 =>
 wdec v48_31
 (I.fin si K (.bool false) s31)
 (I.loop 92 none c84_110100 (U undefT [(3, (.int .i64 0)), (49, (.bool false)), (49, v48_31), (44, (.bool false)), (48, v48_31), (44, (.bool false)), (47, v47_30), (44, (.bool false)), (46, v46_29), (44, (.bool false)), (45, v45_28), (44, (.bool false)), (44, v42_27), (43, v42_27), (39, (.bool false)), (42, v42_27), (39, (.bool false)), (41, v41_26), (39, (.bool false)), (40, v40_25), (39, (.bool false)), (39, v37_24), (38, v37_24), (29, (.bool false)), (37, v37_24), (29, (.bool false)), (36, v36_23), (29, (.bool false)), (35, v35_22), (29, (.bool false)), (34, v34_21), (29, (.bool false)), (33, v33_20), (29, (.bool false)), (32, v32_19), (29, (.bool false)), (31, v31_18), (29, (.bool false)), (30, v30_17), (29, (.bool false)), (29, v27_16), (28, v27_16), (24, (.bool false)), (27, v27_16), (24, (.bool false)), (26, v26_15), (24, (.bool false)), (25, v25_14), (24, (.bool false)), (24, v22_13), (23, v22_13), (19, (.bool false)), (22, v22_13), (19, (.bool false)), (21, v21_12), (19, (.bool false)), (20, v20_11), (19, (.bool false)), (19, v17_10), (18, v17_10), (14, (.bool false)), (17, v17_10), (14, (.bool false)), (16, v16_9), (14, (.bool false)), (15, v15_8), (14, (.bool false)), (14, v12_7), (13, v12_7), (9, (.bool false)), (12, v12_7), (9, (.bool false)), (11, v11_6), (9, (.bool false)), (10, v10_5), (9, (.bool false)), (9, v8_4), (8, v8_4), (7, v7_3), (6, v6_2), (5, v5_1), (2, (.bool false)), (1, v1_0), (0, a0)]) [] s31 (fun τ ds s => ((xleave I si Tryd.f84.results.toList K) .ret) τ [] ds s) [(0, fun _ ds32 s32 =>
 xdefers I ds32 s32 fun s33 =>
 I.fin si K (.bool true) s33), (1, fun _ _ _ =>
 False), (2, fun _ _ _ =>
 False)]))))))))
theorem x84 (I : Prims) (a0 : Value) (si : St) (K : Value → St → Prop) : xbody I 92 k84 Tryd.f84 c84 [a0] si K = v84 I a0 si K := by kernel_rfl
theorem n84 [Memo] (ro : Nat) (a0 : Value) (si : St) (K : Value → St → Prop) : wbody P ro 92 Tryd.f84 c84 [a0] si K = v84 (prims P ro) a0 si K := xbody_eq 92 P ro (x84 _ a0 si K)
theorem r84 (I : Prims) (si : St) (K : Value → St → Prop) (τ : Tau) (ds : List Deferred) (s : St) : xleave I si Tryd.f84.results.toList K .ret τ [] ds s =
 (xdefers I ds s fun s0 =>
 I.fin si K (τ 2) s0) := by kernel_rfl

end Go.VE
