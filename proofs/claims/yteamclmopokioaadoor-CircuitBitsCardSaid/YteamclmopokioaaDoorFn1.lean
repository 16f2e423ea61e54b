/-
  What the functions' code does, operation by operation.
-/
import Derived.Test.YteamclmopokioaaDoorTy
set_option linter.unusedSimpArgs false
set_option linter.unusedVariables false
namespace Go.VE
open Go Go.Proofs
/- attestor/attestorlaw30.CircuitBits -/
noncomputable def c7 : Code := bodyOf Tryd.f7
noncomputable def c7_111110100 : Code := subCode [1, 1, 1, 1, 1, 0, 1, 0, 0] c7
def k7 : List (List Nat) := []
def k7_111110100 : List (List Nat) := []
theorem l7_111110100 : ltCode 185 c7_111110100 = true := by kernel_rfl
theorem m7_111110100 : notMap c7_111110100 = true := by kernel_rfl
theorem b7 : BodyOk P 185 4 7 Tryd.f7 c7 := ⟨Tryd.func7, by kernel_rfl, by kernel_rfl, by kernel_rfl, by kernel_rfl, by kernel_rfl⟩
def v7_111110100 (I : Prims) (rnd : Option Nat) (τ : Tau) (ds : List Deferred) (s : St) (Q : Ex → WK) : Prop :=
 I.wop (.binOp .lss 3 (.const (τ 13)) (.const (.int .i64 8)) 3) 4 s fun v41_0 s0 =>
 wdec v41_0
 (I.wop (.binOp .mul 3 (.const (.int .i64 2)) (.const (τ 13)) 3) 3 s0 fun v46_1 s1 =>
 I.wop (.binOp .add 3 (.const (.int .i64 4)) (.const v46_1) 3) 3 s1 fun v47_2 s2 =>
 I.wop (.binOp .mul 3 (.const (.int .i64 2)) (.const (τ 13)) 3) 3 s2 fun v49_3 s3 =>
 I.wop (.binOp .add 3 (.const (.int .i64 5)) (.const v49_3) 3) 3 s3 fun v50_4 s4 =>
 I.wop (.build 47 ⟨[(0, (.const v47_2)), (1, (.const v50_4))]⟩) 47 s4 fun v51_5 s5 =>
 I.wop (.buildSlice 46 1 ⟨[(0, (.const v51_5))]⟩) 46 s5 fun v52_6 s6 =>
 I.wop (.call ⟨.builtin .append, ⟨[(.const (τ 12)), (.const v52_6)]⟩, #[46, 46]⟩) 46 s6 fun v53_7 s7 =>
 I.wop (.indexAddr 70 (.const (τ 6)) (.const (τ 13))) 0 s7 fun v56_8 s8 =>
 I.wop (.indexAddr 42 (.const v56_8) (.const (.int .i64 0))) 0 s8 fun v57_9 s9 =>
 I.wop (.load 24 (.const v57_9)) 24 s9 fun v58_10 s10 =>
 veq v58_10 v58_10 = true ∧ I.wop (.binOp .rem 24 (.const v58_10) (.const (τ 9)) 24) 24 s10 fun v60_11 s11 =>
 I.wop (.indexAddr 70 (.const (τ 6)) (.const (τ 13))) 0 s11 fun v62_12 s12 =>
 I.wop (.indexAddr 42 (.const v62_12) (.const (.int .i64 1))) 0 s12 fun v63_13 s13 =>
 I.wop (.load 24 (.const v63_13)) 24 s13 fun v64_14 s14 =>
 veq v64_14 v64_14 = true ∧ I.wop (.binOp .rem 24 (.const v64_14) (.const (τ 9)) 24) 24 s14 fun v66_15 s15 =>
 I.wop (.buildSlice 23 2 ⟨[(0, (.const v60_11)), (1, (.const v66_15))]⟩) 23 s15 fun v67_16 s16 =>
 FreshOk s15 s16 ∧ I.wop (.call ⟨.builtin .append, ⟨[(.const (τ 11)), (.const v67_16)]⟩, #[23, 23]⟩) 23 s16 fun v68_17 s17 =>
 s16.n ≤ s17.n ∧ I.wop (.binOp .add 3 (.const (τ 13)) (.const (.int .i64 1)) 3) 3 s17 fun v43_18 s18 =>
 Q .normal (U τ [(13, v43_18), (43, v43_18), (42, (τ 13)), (11, v68_17), (68, v68_17), (67, v67_16), (66, v66_15), (65, (τ 9)), (64, v64_14), (63, v63_13), (62, v62_12), (61, (τ 13)), (60, v60_11), (59, (τ 9)), (58, v58_10), (57, v57_9), (56, v56_8), (55, (τ 13)), (54, (τ 11)), (12, v53_7), (53, v53_7), (52, v52_6), (51, v51_5), (50, v50_4), (49, v49_3), (48, (τ 13)), (47, v47_2), (46, v46_1), (45, (τ 13)), (44, (τ 12)), (41, (.bool true)), (41, v41_0), (40, (τ 13))]) ds s18)
 (Q (.exit 0) (U τ [(41, (.bool false)), (41, v41_0), (40, (τ 13))]) ds s0)
theorem x7_111110100 (I : Prims) (rnd : Option Nat) (τ : Tau) (ds : List Deferred) (s : St) (Q : Ex → WK) : xp I rnd 185 k7_111110100 c7_111110100 [] τ [] ds s (lift Q) = v7_111110100 I rnd τ ds s Q := by kernel_rfl
theorem n7_111110100 [Memo] (ro : Nat) (rnd : Option Nat) (τ : Tau) (ds : List Deferred) (s : St) (Q : Ex → WK) : wp P ro 185 rnd c7_111110100 τ ds s Q = v7_111110100 (prims P ro) rnd τ ds s Q := xp_wp rnd 185 P ro (x7_111110100 _ rnd τ ds s Q)
def v7 (I : Prims) (a0 a1 a2 a3 : Value) (si : St) (K : Value → St → Prop) : Prop :=
 I.wop (.box 70 (.const a2)) 0 (ent si) fun v6_0 s0 =>
 I.call 14 [(.int .i64 3)] s0 fun v21_1 s1 =>
 I.wop (.convert 5 3 (.const a0)) 3 s1 fun v23_2 s2 =>
 I.wop (.binOp .rem 3 (.const v23_2) (.const (.int .i64 8)) 3) 3 s2 fun v24_3 s3 =>
 I.wop (.binOp .and 3 (.const v24_3) (.const (.int .i64 1)) 3) 3 s3 fun v26_4 s4 =>
 I.wop (.convert 3 24 (.const v26_4)) 24 s4 fun v27_5 s5 =>
 I.wop (.binOp .shr 3 (.const v24_3) (.const (.int .u64 1)) 71) 3 s5 fun v29_6 s6 =>
 I.wop (.binOp .and 3 (.const v29_6) (.const (.int .i64 1)) 3) 3 s6 fun v30_7 s7 =>
 I.wop (.convert 3 24 (.const v30_7)) 24 s7 fun v31_8 s8 =>
 I.wop (.binOp .shr 3 (.const v24_3) (.const (.int .u64 2)) 71) 3 s8 fun v33_9 s9 =>
 I.wop (.binOp .and 3 (.const v33_9) (.const (.int .i64 1)) 3) 3 s9 fun v34_10 s10 =>
 I.wop (.convert 3 24 (.const v34_10)) 24 s10 fun v35_11 s11 =>
 I.wop (.binOp .rem 24 (.const a3) (.const v21_1) 24) 24 s11 fun v38_12 s12 =>
 I.wop (.buildSlice 23 4 ⟨[(0, (.const v27_5)), (1, (.const v31_8)), (2, (.const v35_11)), (3, (.const v38_12))]⟩) 23 s12 fun v39_13 s13 =>
 I.loop 185 none c7_111110100 (U undefT [(13, (.int .i64 0)), (12, (.slice none 0 0)), (11, v39_13), (39, v39_13), (38, v38_12), (37, v21_1), (36, a3), (35, v35_11), (34, v34_10), (33, v33_9), (32, v24_3), (31, v31_8), (30, v30_7), (29, v29_6), (28, v24_3), (27, v27_5), (26, v26_4), (25, v24_3), (10, v24_3), (24, v24_3), (23, v23_2), (22, a0), (9, v21_1), (21, v21_1), (8, (.bool false)), (6, v6_0), (0, a0), (1, a1), (2, a2), (3, a3)]) [] s13 (fun τ ds s => ((xleave I si Tryd.f7.results.toList K) .ret) τ [] ds s) [(0, fun τ14 ds14 s14 =>
 I.wop (.call ⟨.builtin .len, ⟨[(.const (τ14 11))]⟩, #[23]⟩) 3 s14 fun v71_15 s15 =>
 I.call 9 [(.int .i64 3), (.int .i64 0), v71_15] s15 fun v72_16 s16 =>
 I.wop (.extract (.const v72_16) 0) 25 s16 fun v73_17 s17 =>
 I.wop (.extract (.const v72_16) 1) 26 s17 fun v74_18 s18 =>
 I.wop (.binOp .neq 26 (.const v74_18) (.const (.int .i64 0)) 26) 4 s18 fun v76_19 s19 =>
 wdec v76_19
 (xdefers I ds14 s19 fun s20 =>
 I.fin si K (.bool false) s20)
 (I.wop (.buildSlice 30 3 ⟨[(0, (.const (.int .i64 0))), (1, (.const (.int .i64 1))), (2, (.const (.int .i64 2)))]⟩) 30 s19 fun v78_21 s21 =>
 I.call 30 [v73_17, v78_21] s21 fun v79_22 s22 =>
 I.wop (.buildSlice 30 3 ⟨[(0, (.const (.int .i64 0))), (1, (.const (.int .i64 1))), (2, (.const (.int .i64 2)))]⟩) 30 s22 fun v81_23 s23 =>
 I.wop (.binOp .rem 24 (.const (τ14 1)) (.const (τ14 9)) 24) 24 s23 fun v84_24 s24 =>
 I.call 31 [v73_17, v81_23, v84_24] s24 fun v85_25 s25 =>
 I.wop (.buildSlice 30 3 ⟨[(0, (.const (.int .i64 0))), (1, (.const (.int .i64 1))), (2, (.const (.int .i64 2)))]⟩) 30 s25 fun v87_26 s26 =>
 I.call 32 [v73_17, v87_26, (τ14 12)] s26 fun v89_27 s27 =>
 I.wop (.alloc 47) 0 s27 fun v18_28 s28 =>
 I.wop (.store 47 (.const v18_28) (.const v89_27)) 0 s28 fun _ s29 =>
 I.call 18 [v73_17, (τ14 11)] s29 fun v93_30 s30 =>
 I.wop (.extract (.const v93_30) 0) 23 s30 fun v94_31 s31 =>
 I.wop (.extract (.const v93_30) 1) 4 s31 fun v95_32 s32 =>
 I.wop (.unOp .not 4 (.const v95_32)) 4 s32 fun v97_33 s33 =>
 wdec v97_33
 (xdefers I ds14 s33 fun s34 =>
 I.fin si K (.bool false) s34)
 (I.wop (.indexAddr 47 (.const v18_28) (.const (.int .i64 0))) 0 s33 fun v101_35 s35 =>
 I.wop (.load 3 (.const v101_35)) 3 s35 fun v102_36 s36 =>
 I.wop (.indexAddr 47 (.const v18_28) (.const (.int .i64 1))) 0 s36 fun v103_37 s37 =>
 I.wop (.load 3 (.const v103_37)) 3 s37 fun v104_38 s38 =>
 I.wop (.call ⟨.builtin .min, ⟨[(.const v79_22), (.const v85_25), (.const v102_36), (.const v104_38)]⟩, #[3, 3, 3, 3]⟩) 3 s38 fun v105_39 s39 =>
 I.wop (.binOp .lss 3 (.const v105_39) (.const (.int .i64 0)) 3) 4 s39 fun v106_40 s40 =>
 wdec v106_40
 (xdefers I ds14 s40 fun s41 =>
 I.fin si K (.bool false) s41)
 (I.wop (.indexAddr 47 (.const v18_28) (.const (.int .i64 0))) 0 s40 fun v111_42 s42 =>
 I.wop (.load 3 (.const v111_42)) 3 s42 fun v112_43 s43 =>
 I.wop (.indexAddr 47 (.const v18_28) (.const (.int .i64 1))) 0 s43 fun v113_44 s44 =>
 I.wop (.load 3 (.const v113_44)) 3 s44 fun v114_45 s45 =>
 I.wop (.call ⟨.builtin .max, ⟨[(.const v79_22), (.const v85_25), (.const v112_43), (.const v114_45)]⟩, #[3, 3, 3, 3]⟩) 3 s45 fun v115_46 s46 =>
 I.wop (.call ⟨.builtin .len, ⟨[(.const v94_31)]⟩, #[23]⟩) 3 s46 fun v117_47 s47 =>
 I.wop (.binOp .geq 3 (.const v115_46) (.const v117_47) 3) 4 s47 fun v118_48 s48 =>
 wdec v118_48
 (xdefers I ds14 s48 fun s49 =>
 I.fin si K (.bool false) s49)
 (I.wop (.indexAddr 23 (.const v94_31) (.const v79_22)) 0 s48 fun v122_50 s50 =>
 I.wop (.load 24 (.const v122_50)) 24 s50 fun v123_51 s51 =>
 veq v123_51 v123_51 = true ∧ I.wop (.convert 3 24 (.const (τ14 10))) 24 s51 fun v125_52 s52 =>
 s52 = s51 ∧ veq v125_52 v125_52 = true ∧ I.wop (.binOp .neq 24 (.const v123_51) (.const v125_52) 24) 4 s52 fun v126_53 s53 =>
 wdec v126_53
 (xdefers I ds14 s53 fun s54 =>
 I.fin si K (.bool false) s54)
 (I.wop (.indexAddr 23 (.const v94_31) (.const v85_25)) 0 s53 fun v130_55 s55 =>
 I.wop (.load 24 (.const v130_55)) 24 s55 fun v131_56 s56 =>
 veq v131_56 v131_56 = true ∧ I.wop (.convert 3 24 (.const (τ14 10))) 24 s56 fun v134_57 s57 =>
 s57 = s56 ∧ veq v134_57 v134_57 = true ∧ I.call 33 [(.int .i64 3), (τ14 1), v134_57] s57 fun v135_58 s58 =>
 Keeps [(11, .ptr v130_55)] s57 s58 ∧ I.wop (.binOp .neq 24 (.const v131_56) (.const v135_58) 24) 4 s58 fun v136_59 s59 =>
 wdec v136_59
 (xdefers I ds14 s59 fun s60 =>
 I.fin si K (.bool false) s60)
 (I.wop (.indexAddr 47 (.const v18_28) (.const (.int .i64 0))) 0 s59 fun v140_61 s61 =>
 I.wop (.load 3 (.const v140_61)) 3 s61 fun v141_62 s62 =>
 veq v141_62 v141_62 = true ∧ I.wop (.indexAddr 23 (.const v94_31) (.const v141_62)) 0 s62 fun v142_63 s63 =>
 I.wop (.load 24 (.const v142_63)) 24 s63 fun v143_64 s64 =>
 veq v143_64 v143_64 = true ∧ I.wop (.indexAddr 70 (.const (τ14 6)) (.const (τ14 10))) 0 s64 fun v145_65 s65 =>
 I.wop (.indexAddr 42 (.const v145_65) (.const (.int .i64 0))) 0 s65 fun v146_66 s66 =>
 I.wop (.load 24 (.const v146_66)) 24 s66 fun v147_67 s67 =>
 veq v147_67 v147_67 = true ∧ I.wop (.binOp .rem 24 (.const v147_67) (.const (τ14 9)) 24) 24 s67 fun v149_68 s68 =>
 I.wop (.binOp .neq 24 (.const v143_64) (.const v149_68) 24) 4 s68 fun v150_69 s69 =>
 wdec v150_69
 (xdefers I ds14 s69 fun s70 =>
 I.fin si K (.bool false) s70)
 (I.wop (.indexAddr 47 (.const v18_28) (.const (.int .i64 1))) 0 s69 fun v154_71 s71 =>
 I.wop (.load 3 (.const v154_71)) 3 s71 fun v155_72 s72 =>
 veq v155_72 v155_72 = true ∧ I.wop (.indexAddr 23 (.const v94_31) (.const v155_72)) 0 s72 fun v156_73 s73 =>
 I.wop (.load 24 (.const v156_73)) 24 s73 fun v157_74 s74 =>
 veq v157_74 v157_74 = true ∧ I.wop (.indexAddr 70 (.const (τ14 6)) (.const (τ14 10))) 0 s74 fun v159_75 s75 =>
 I.wop (.indexAddr 42 (.const v159_75) (.const (.int .i64 1))) 0 s75 fun v160_76 s76 =>
 I.wop (.load 24 (.const v160_76)) 24 s76 fun v161_77 s77 =>
 veq v161_77 v161_77 = true ∧ I.wop (.binOp .rem 24 (.const v161_77) (.const (τ14 9)) 24) 24 s77 fun v163_78 s78 =>
 I.wop (.binOp .neq 24 (.const v157_74) (.const v163_78) 24) 4 s78 fun v164_79 s79 =>
 wdec v164_79
 (xdefers I ds14 s79 fun s80 =>
 I.fin si K (.bool false) s80)
 (I.call 34 [v73_17, (.int .i64 0)] s79 fun _ s81 =>
 I.call 34 [v73_17, (.int .i64 3)] s81 fun _ s82 =>
 I.call 18 [v73_17, (τ14 11)] s82 fun v173_83 s83 =>
 I.wop (.extract (.const v173_83) 0) 23 s83 fun _ s84 =>
 I.wop (.extract (.const v173_83) 1) 4 s84 fun v175_85 s85 =>
 I.wop (.binOp .rem 24 (.const (τ14 3)) (.const (τ14 9)) 24) 24 s85 fun v179_86 s86 =>
 I.wop (.binOp .lss 24 (.const v179_86) (.const (.int .u64 2)) 24) 4 s86 fun v180_87 s87 =>
 I.wop (.binOp .eql 4 (.const v175_85) (.const v180_87) 4) 4 s87 fun v181_88 s88 =>
 wdec v181_88
 (I.call 15 [] s88 fun v183_89 s89 =>
 xdefers I ds14 s89 fun s90 =>
 I.fin si K v183_89 s90)
 (xdefers I ds14 s88 fun s91 =>
 I.fin si K (.bool false) s91))))))))))]
theorem x7 (I : Prims) (a0 a1 a2 a3 : Value) (si : St) (K : Value → St → Prop) : xbody I 185 k7 Tryd.f7 c7 [a0, a1, a2, a3] si K = v7 I a0 a1 a2 a3 si K := by kernel_rfl
theorem n7 [Memo] (ro : Nat) (a0 a1 a2 a3 : Value) (si : St) (K : Value → St → Prop) : wbody P ro 185 Tryd.f7 c7 [a0, a1, a2, a3] si K = v7 (prims P ro) a0 a1 a2 a3 si K := xbody_eq 185 P ro (x7 _ a0 a1 a2 a3 si K)
theorem r7 (I : Prims) (si : St) (K : Value → St → Prop) (τ : Tau) (ds : List Deferred) (s : St) : xleave I si Tryd.f7.results.toList K .ret τ [] ds s =
 (xdefers I ds s fun s0 =>
 I.fin si K (τ 8) s0) := by kernel_rfl
/- attestor/circuit.New -/
noncomputable def c9 : Code := bodyOf Tryd.f9
def k9 : List (List Nat) := []
theorem b9 : BodyOk P 36 3 9 Tryd.f9 c9 := ⟨Tryd.func9, by kernel_rfl, by kernel_rfl, by kernel_rfl, by kernel_rfl, by kernel_rfl⟩
def v9 (I : Prims) (a0 a1 a2 : Value) (si : St) (K : Value → St → Prop) : Prop :=
 I.call 37 [a0] (ent si) fun v9_0 s0 =>
 I.wop (.unOp .not 4 (.const v9_0)) 4 s0 fun v10_1 s1 =>
 wdec v10_1
 (I.fin si K (.tuple (.mk [(.pointer none), (.int .i64 1)])) s1)
 (I.wop (.binOp .lss 3 (.const a1) (.const (.int .i64 0)) 3) 4 s1 fun v13_2 s2 =>
 wdec v13_2
 (I.fin si K (.tuple (.mk [(.pointer none), (.int .i64 1)])) s2)
 (I.wop (.binOp .gtr 3 (.const a1) (.const (.int .i64 16)) 3) 4 s2 fun v17_3 s3 =>
 wdec v17_3
 (I.fin si K (.tuple (.mk [(.pointer none), (.int .i64 1)])) s3)
 (I.wop (.binOp .lss 3 (.const a2) (.const (.int .i64 0)) 3) 4 s3 fun v21_4 s4 =>
 wdec v21_4
 (I.fin si K (.tuple (.mk [(.pointer none), (.int .i64 1)])) s4)
 (I.wop (.binOp .gtr 3 (.const a2) (.const (.int .i64 20000)) 3) 4 s4 fun v25_5 s5 =>
 wdec v25_5
 (I.fin si K (.tuple (.mk [(.pointer none), (.int .i64 1)])) s5)
 (I.wop (.binOp .add 3 (.const a1) (.const a2) 3) 3 s5 fun v30_6 s6 =>
 I.wop (.build 34 ⟨[(0, (.const a0)), (1, (.const v30_6)), (2, (.const a1)), (3, (.const a2))]⟩) 34 s6 fun v33_7 s7 =>
 I.wop (.build 81 ⟨[(0, (.const (.bool true))), (1, (.const v33_7))]⟩) 81 s7 fun v34_8 s8 =>
 I.wop (.box 81 (.const v34_8)) 25 s8 fun v35_9 s9 =>
 I.fin si K (.tuple (.mk [v35_9, (.int .i64 0)])) s9)))))
theorem x9 (I : Prims) (a0 a1 a2 : Value) (si : St) (K : Value → St → Prop) : xbody I 36 k9 Tryd.f9 c9 [a0, a1, a2] si K = v9 I a0 a1 a2 si K := by kernel_rfl
theorem n9 [Memo] (ro : Nat) (a0 a1 a2 : Value) (si : St) (K : Value → St → Prop) : wbody P ro 36 Tryd.f9 c9 [a0, a1, a2] si K = v9 (prims P ro) a0 a1 a2 si K := xbody_eq 36 P ro (x9 _ a0 a1 a2 si K)
theorem r9 (I : Prims) (si : St) (K : Value → St → Prop) (τ : Tau) (ds : List Deferred) (s : St) : xleave I si Tryd.f9.results.toList K .ret τ [] ds s =
 (xdefers I ds s fun s0 =>
 I.fin si K (.tuple (.mk [(τ 6), (τ 7)])) s0) := by kernel_rfl
/- (*attestor/circuit.Builder).Gates -/
noncomputable def c12 : Code := bodyOf Tryd.f12
def k12 : List (List Nat) := []
theorem b12 : BodyOk P 21 1 12 Tryd.f12 c12 := ⟨Tryd.func12, by kernel_rfl, by kernel_rfl, by kernel_rfl, by kernel_rfl, by kernel_rfl⟩
def v12 (I : Prims) (a0 : Value) (si : St) (K : Value → St → Prop) : Prop :=
 I.wop (.alloc 34) 0 (ent si) fun v2_0 s0 =>
 I.call 23 [a0] s0 fun v7_1 s1 =>
 I.wop (.binOp .neq 26 (.const v7_1) (.const (.int .i64 0)) 26) 4 s1 fun v9_2 s2 =>
 wdec v9_2
 (I.wop (.build 34 ⟨[]⟩) 34 s2 fun v10_3 s3 =>
 I.wop (.store 34 (.const v2_0) (.const v10_3)) 0 s3 fun _ s4 =>
 I.wop (.load 34 (.const v2_0)) 34 s4 fun v2_5 _ =>
 I.fin si K (.tuple (.mk [v2_5, v7_1])) s4)
 (I.wop (.nilCheck (.const a0)) 0 s2 fun v13_6 s6 =>
 I.wop (.fieldAddr 81 (.const v13_6) 1) 0 s6 fun v14_7 s7 =>
 I.wop (.load 34 (.const v14_7)) 34 s7 fun v15_8 s8 =>
 I.wop (.alloc 34) 0 s8 fun v5_9 s9 =>
 I.wop (.store 34 (.const v5_9) (.const v15_8)) 0 s9 fun _ s10 =>
 I.wop (.fieldAddr 34 (.const v5_9) 4) 0 s10 fun v16_11 s11 =>
 I.wop (.load 32 (.const v16_11)) 32 s11 fun v17_12 s12 =>
 I.call 45 [v17_12] s12 fun v18_13 s13 =>
 I.wop (.fieldAddr 34 (.const v5_9) 4) 0 s13 fun v19_14 s14 =>
 I.wop (.store 32 (.const v19_14) (.const v18_13)) 0 s14 fun _ s15 =>
 I.wop (.load 34 (.const v5_9)) 34 s15 fun v20_16 s16 =>
 I.wop (.store 34 (.const v2_0) (.const v20_16)) 0 s16 fun _ s17 =>
 I.wop (.load 34 (.const v2_0)) 34 s17 fun v2_18 _ =>
 I.fin si K (.tuple (.mk [v2_18, (.int .i64 0)])) s17)
theorem x12 (I : Prims) (a0 : Value) (si : St) (K : Value → St → Prop) : xbody I 21 k12 Tryd.f12 c12 [a0] si K = v12 I a0 si K := by kernel_rfl
theorem n12 [Memo] (ro : Nat) (a0 : Value) (si : St) (K : Value → St → Prop) : wbody P ro 21 Tryd.f12 c12 [a0] si K = v12 (prims P ro) a0 si K := xbody_eq 21 P ro (x12 _ a0 si K)
theorem r12 (I : Prims) (si : St) (K : Value → St → Prop) (τ : Tau) (ds : List Deferred) (s : St) : xleave I si Tryd.f12.results.toList K .ret τ [] ds s =
 (xdefers I ds s fun s0 =>
 I.wop (.load 34 (.const (τ 2))) 34 s0 fun v2_1 _ =>
 I.fin si K (.tuple (.mk [v2_1, (τ 3)])) s0) := by kernel_rfl
/- attestor/attestorref23.Run -/
noncomputable def c13 : Code := bodyOf Tryd.f13
noncomputable def c13_11110100 : Code := subCode [1, 1, 1, 1, 0, 1, 0, 0] c13
noncomputable def c13_111110100 : Code := subCode [1, 1, 1, 1, 1, 0, 1, 0, 0] c13
noncomputable def c13_11111110100 : Code := subCode [1, 1, 1, 1, 1, 1, 1, 0, 1, 0, 0] c13
noncomputable def c13_111110100100101 : Code := subCode [1, 1, 1, 1, 1, 0, 1, 0, 0, 1, 0, 0, 1, 0, 1] c13
noncomputable def c13_11111010010011 : Code := subCode [1, 1, 1, 1, 1, 0, 1, 0, 0, 1, 0, 0, 1, 1] c13
noncomputable def c13_11111010011 : Code := subCode [1, 1, 1, 1, 1, 0, 1, 0, 0, 1, 1] c13
noncomputable def c13_11111010010011101100 : Code := subCode [1, 1, 1, 1, 1, 0, 1, 0, 0, 1, 0, 0, 1, 1, 1, 0, 1, 1, 0, 0] c13
def k13 : List (List Nat) := []
def k13_11110100 : List (List Nat) := []
theorem l13_11110100 : ltCode 192 c13_11110100 = true := by kernel_rfl
theorem m13_11110100 : notMap c13_11110100 = true := by kernel_rfl
def k13_111110100 : List (List Nat) := [[1, 0, 1, 0, 0, 1]]
theorem l13_111110100 : ltCode 192 c13_111110100 = true := by kernel_rfl
theorem m13_111110100 : notMap c13_111110100 = true := by kernel_rfl
def k13_11111110100 : List (List Nat) := []
theorem l13_11111110100 : ltCode 192 c13_11111110100 = true := by kernel_rfl
theorem m13_11111110100 : notMap c13_11111110100 = true := by kernel_rfl
def k13_11111010010011101100 : List (List Nat) := []
theorem l13_11111010010011101100 : ltCode 192 c13_11111010010011101100 = true := by kernel_rfl
theorem m13_11111010010011101100 : notMap c13_11111010010011101100 = true := by kernel_rfl
theorem b13 : BodyOk P 192 3 13 Tryd.f13 c13 := ⟨Tryd.func13, by kernel_rfl, by kernel_rfl, by kernel_rfl, by kernel_rfl, by kernel_rfl⟩
def v13_11110100 (I : Prims) (rnd : Option Nat) (τ : Tau) (ds : List Deferred) (s : St) (Q : Ex → WK) : Prop :=
 I.wop (.fieldAddr 34 (.const (τ 3)) 2) 0 s fun v57_0 s0 =>
 I.wop (.load 3 (.const v57_0)) 3 s0 fun v58_1 s1 =>
 I.wop (.fieldAddr 34 (.const (τ 3)) 3) 0 s1 fun v59_2 s2 =>
 I.wop (.load 3 (.const v59_2)) 3 s2 fun v60_3 s3 =>
 I.wop (.binOp .add 3 (.const v58_1) (.const v60_3) 3) 3 s3 fun v61_4 s4 =>
 I.wop (.binOp .lss 3 (.const (τ 11)) (.const v61_4) 3) 4 s4 fun v62_5 s5 =>
 wdec v62_5
 (I.wop (.indexAddr 97 (.const (τ 10)) (.const (τ 11))) 0 s5 fun v67_6 s6 =>
 I.wop (.store 4 (.const v67_6) (.const (.bool true))) 0 s6 fun _ s7 =>
 I.wop (.fieldAddr 34 (.const (τ 3)) 2) 0 s7 fun v69_8 s8 =>
 I.wop (.load 3 (.const v69_8)) 3 s8 fun v70_9 s9 =>
 I.wop (.binOp .lss 3 (.const (τ 11)) (.const v70_9) 3) 4 s9 fun v71_10 s10 =>
 wdec v71_10
 (I.wop (.indexAddr 23 (.const (τ 1)) (.const (τ 11))) 0 s10 fun v76_11 s11 =>
 I.wop (.load 24 (.const v76_11)) 24 s11 fun v77_12 s12 =>
 I.wop (.indexAddr 23 (.const (τ 9)) (.const (τ 11))) 0 s12 fun v78_13 s13 =>
 I.wop (.store 24 (.const v78_13) (.const v77_12)) 0 s13 fun _ s14 =>
 I.wop (.binOp .add 3 (.const (τ 11)) (.const (.int .i64 1)) 3) 3 s14 fun v64_15 s15 =>
 Q .normal (U τ [(11, v64_15), (64, v64_15), (63, (τ 11)), (78, v78_13), (77, v77_12), (76, v76_11), (75, (τ 11)), (74, (τ 1)), (73, (τ 11)), (72, (τ 9)), (71, (.bool true)), (71, v71_10), (70, v70_9), (69, v69_8), (68, (τ 11)), (67, v67_6), (66, (τ 11)), (65, (τ 10)), (62, (.bool true)), (62, v62_5), (61, v61_4), (60, v60_3), (59, v59_2), (58, v58_1), (57, v57_0), (56, (τ 11))]) ds s15)
 (I.wop (.fieldAddr 34 (.const (τ 3)) 2) 0 s10 fun v83_16 s16 =>
 I.wop (.load 3 (.const v83_16)) 3 s16 fun v84_17 s17 =>
 I.wop (.binOp .sub 3 (.const (τ 11)) (.const v84_17) 3) 3 s17 fun v85_18 s18 =>
 I.wop (.indexAddr 23 (.const (τ 2)) (.const v85_18)) 0 s18 fun v86_19 s19 =>
 I.wop (.load 24 (.const v86_19)) 24 s19 fun v87_20 s20 =>
 I.wop (.indexAddr 23 (.const (τ 9)) (.const (τ 11))) 0 s20 fun v88_21 s21 =>
 I.wop (.store 24 (.const v88_21) (.const v87_20)) 0 s21 fun _ s22 =>
 I.wop (.binOp .add 3 (.const (τ 11)) (.const (.int .i64 1)) 3) 3 s22 fun v64_23 s23 =>
 Q .normal (U τ [(11, v64_23), (64, v64_23), (63, (τ 11)), (88, v88_21), (87, v87_20), (86, v86_19), (85, v85_18), (84, v84_17), (83, v83_16), (82, (τ 11)), (81, (τ 2)), (80, (τ 11)), (79, (τ 9)), (71, (.bool false)), (71, v71_10), (70, v70_9), (69, v69_8), (68, (τ 11)), (67, v67_6), (66, (τ 11)), (65, (τ 10)), (62, (.bool true)), (62, v62_5), (61, v61_4), (60, v60_3), (59, v59_2), (58, v58_1), (57, v57_0), (56, (τ 11))]) ds s23))
 (Q (.exit 0) (U τ [(62, (.bool false)), (62, v62_5), (61, v61_4), (60, v60_3), (59, v59_2), (58, v58_1), (57, v57_0), (56, (τ 11))]) ds s5)
theorem x13_11110100 (I : Prims) (rnd : Option Nat) (τ : Tau) (ds : List Deferred) (s : St) (Q : Ex → WK) : xp I rnd 192 k13_11110100 c13_11110100 [] τ [] ds s (lift Q) = v13_11110100 I rnd τ ds s Q := by kernel_rfl
theorem n13_11110100 [Memo] (ro : Nat) (rnd : Option Nat) (τ : Tau) (ds : List Deferred) (s : St) (Q : Ex → WK) : wp P ro 192 rnd c13_11110100 τ ds s Q = v13_11110100 (prims P ro) rnd τ ds s Q := xp_wp rnd 192 P ro (x13_11110100 _ rnd τ ds s Q)
def v13_111110100 (I : Prims) (rnd : Option Nat) (τ : Tau) (ds : List Deferred) (s : St) (Q : Ex → WK) : Prop :=
 I.wop (.fieldAddr 34 (.const (τ 3)) 4) 0 s fun v90_0 s0 =>
 I.wop (.load 32 (.const v90_0)) 32 s0 fun v91_1 s1 =>
 I.wop (.call ⟨.builtin .len, ⟨[(.const v91_1)]⟩, #[32]⟩) 3 s1 fun v92_2 s2 =>
 I.wop (.binOp .lss 3 (.const (τ 12)) (.const v92_2) 3) 4 s2 fun v93_3 s3 =>
 wdec v93_3
 (I.wop (.fieldAddr 34 (.const (τ 3)) 4) 0 s3 fun v96_4 s4 =>
 I.wop (.load 32 (.const v96_4)) 32 s4 fun v97_5 s5 =>
 I.wop (.indexAddr 32 (.const v97_5) (.const (τ 12))) 0 s5 fun v99_6 s6 =>
 I.wop (.load 94 (.const v99_6)) 94 s6 fun v100_7 s7 =>
 I.wop (.alloc 94) 0 s7 fun v13_8 s8 =>
 I.wop (.store 94 (.const v13_8) (.const v100_7)) 0 s8 fun _ s9 =>
 I.wop (.fieldAddr 94 (.const v13_8) 0) 0 s9 fun v101_10 s10 =>
 I.wop (.load 92 (.const v101_10)) 92 s10 fun v102_11 s11 =>
 I.wop (.binOp .eql 92 (.const v102_11) (.const (.int .u8 1)) 92) 4 s11 fun v103_12 s12 =>
 wdec v103_12
 (I.wop (.fieldAddr 94 (.const v13_8) 5) 0 s12 fun v105_13 s13 =>
 I.wop (.load 24 (.const v105_13)) 24 s13 fun v106_14 s14 =>
 I.wop (.binOp .neq 24 (.const v106_14) (.const (.int .u64 0)) 24) 4 s14 fun v107_15 s15 =>
 wdec v107_15
 (I.wop (.fieldAddr 94 (.const v13_8) 1) 0 s15 fun v111_16 s16 =>
 I.wop (.indexAddr 53 (.const v111_16) (.const (.int .i64 2))) 0 s16 fun v112_17 s17 =>
 I.wop (.load 3 (.const v112_17)) 3 s17 fun v113_18 s18 =>
 I.wop (.indexAddr 97 (.const (τ 10)) (.const v113_18)) 0 s18 fun v114_19 s19 =>
 I.wop (.load 4 (.const v114_19)) 4 s19 fun v115_20 s20 =>
 I.wop (.unOp .not 4 (.const v115_20)) 4 s20 fun v116_21 s21 =>
 I.hold (xp I rnd 192 k13_111110100 c13_111110100100101 [1, 0, 1, 0, 0, 1] (U τ [(117, v116_21), (109, (.bool true)), (116, v116_21), (109, (.bool true)), (115, v115_20), (109, (.bool true)), (114, v114_19), (109, (.bool true)), (113, v113_18), (109, (.bool true)), (112, v112_17), (109, (.bool true)), (111, v111_16), (109, (.bool true)), (110, (τ 10)), (109, (.bool true)), (109, v107_15), (108, v107_15), (104, (.bool true)), (107, v107_15), (104, (.bool true)), (106, v106_14), (104, (.bool true)), (105, v105_13), (104, (.bool true)), (104, v103_12), (103, v103_12), (102, v102_11), (101, v101_10), (13, v13_8), (100, v100_7), (99, v99_6), (98, (τ 12)), (97, v97_5), (96, v96_4), (93, (.bool true)), (93, v93_3), (92, v92_2), (91, v91_1), (90, v90_0), (89, (τ 12))]) [] ds s21 (sX I rnd 192 k13_111110100 c13_11111010010011 [1, 1, 0, 0, 1] (blkX 3 (sX I rnd 192 k13_111110100 c13_11111010011 [1, 1] (lift Q))))))
 (I.hold (xp I rnd 192 k13_111110100 c13_111110100100101 [1, 0, 1, 0, 0, 1] (U τ [(117, (.bool false)), (109, (.bool false)), (116, undef), (109, (.bool false)), (115, undef), (109, (.bool false)), (114, undef), (109, (.bool false)), (113, undef), (109, (.bool false)), (112, undef), (109, (.bool false)), (111, undef), (109, (.bool false)), (110, undef), (109, (.bool false)), (109, v107_15), (108, v107_15), (104, (.bool true)), (107, v107_15), (104, (.bool true)), (106, v106_14), (104, (.bool true)), (105, v105_13), (104, (.bool true)), (104, v103_12), (103, v103_12), (102, v102_11), (101, v101_10), (13, v13_8), (100, v100_7), (99, v99_6), (98, (τ 12)), (97, v97_5), (96, v96_4), (93, (.bool true)), (93, v93_3), (92, v92_2), (91, v91_1), (90, v90_0), (89, (τ 12))]) [] ds s15 (sX I rnd 192 k13_111110100 c13_11111010010011 [1, 1, 0, 0, 1] (blkX 3 (sX I rnd 192 k13_111110100 c13_11111010011 [1, 1] (lift Q)))))))
 (I.hold (xp I rnd 192 k13_111110100 c13_111110100100101 [1, 0, 1, 0, 0, 1] (U τ [(117, (.bool false)), (109, (.bool false)), (116, undef), (109, (.bool false)), (115, undef), (109, (.bool false)), (114, undef), (109, (.bool false)), (113, undef), (109, (.bool false)), (112, undef), (109, (.bool false)), (111, undef), (109, (.bool false)), (110, undef), (109, (.bool false)), (109, (.bool false)), (108, (.bool false)), (104, (.bool false)), (107, undef), (104, (.bool false)), (106, undef), (104, (.bool false)), (105, undef), (104, (.bool false)), (104, v103_12), (103, v103_12), (102, v102_11), (101, v101_10), (13, v13_8), (100, v100_7), (99, v99_6), (98, (τ 12)), (97, v97_5), (96, v96_4), (93, (.bool true)), (93, v93_3), (92, v92_2), (91, v91_1), (90, v90_0), (89, (τ 12))]) [] ds s12 (sX I rnd 192 k13_111110100 c13_11111010010011 [1, 1, 0, 0, 1] (blkX 3 (sX I rnd 192 k13_111110100 c13_11111010011 [1, 1] (lift Q)))))))
 (Q (.exit 2) (U τ [(93, (.bool false)), (93, v93_3), (92, v92_2), (91, v91_1), (90, v90_0), (89, (τ 12))]) ds s3)
theorem x13_111110100 (I : Prims) (rnd : Option Nat) (τ : Tau) (ds : List Deferred) (s : St) (Q : Ex → WK) : xp I rnd 192 k13_111110100 c13_111110100 [] τ [] ds s (lift Q) = v13_111110100 I rnd τ ds s Q := by kernel_rfl
theorem n13_111110100 [Memo] (ro : Nat) (rnd : Option Nat) (τ : Tau) (ds : List Deferred) (s : St) (Q : Ex → WK) : wp P ro 192 rnd c13_111110100 τ ds s Q = v13_111110100 (prims P ro) rnd τ ds s Q := xp_wp rnd 192 P ro (x13_111110100 _ rnd τ ds s Q)
def v13_11111110100 (I : Prims) (rnd : Option Nat) (τ : Tau) (ds : List Deferred) (s : St) (Q : Ex → WK) : Prop :=
 I.wop (.fieldAddr 34 (.const (τ 3)) 4) 0 s fun v177_0 s0 =>
 I.wop (.load 32 (.const v177_0)) 32 s0 fun v178_1 s1 =>
 I.wop (.call ⟨.builtin .len, ⟨[(.const v178_1)]⟩, #[32]⟩) 3 s1 fun v179_2 s2 =>
 I.wop (.binOp .lss 3 (.const (τ 18)) (.const v179_2) 3) 4 s2 fun v180_3 s3 =>
 wdec v180_3
 (wdec (τ 17)
 (I.wop (.load 34 (.const (τ 3))) 34 s3 fun v185_4 s4 =>
 I.call 52 [v185_4, (τ 9), (τ 18)] s4 fun v188_5 s5 =>
 I.wop (.binOp .add 3 (.const (τ 18)) (.const (.int .i64 1)) 3) 3 s5 fun v182_6 s6 =>
 Q .normal (U τ [(18, v182_6), (182, v182_6), (181, (τ 18)), (17, v188_5), (189, v188_5), (184, (.bool true)), (188, v188_5), (184, (.bool true)), (187, (τ 18)), (184, (.bool true)), (186, (τ 9)), (184, (.bool true)), (185, v185_4), (184, (.bool true)), (184, (τ 17)), (183, (τ 17)), (180, (.bool true)), (180, v180_3), (179, v179_2), (178, v178_1), (177, v177_0), (176, (τ 18))]) ds s6)
 (I.wop (.binOp .add 3 (.const (τ 18)) (.const (.int .i64 1)) 3) 3 s3 fun v182_7 s7 =>
 Q .normal (U τ [(18, v182_7), (182, v182_7), (181, (τ 18)), (17, (.bool false)), (189, (.bool false)), (184, (.bool false)), (188, undef), (184, (.bool false)), (187, undef), (184, (.bool false)), (186, undef), (184, (.bool false)), (185, undef), (184, (.bool false)), (184, (τ 17)), (183, (τ 17)), (180, (.bool true)), (180, v180_3), (179, v179_2), (178, v178_1), (177, v177_0), (176, (τ 18))]) ds s7))
 (Q (.exit 6) (U τ [(180, (.bool false)), (180, v180_3), (179, v179_2), (178, v178_1), (177, v177_0), (176, (τ 18))]) ds s3)
theorem x13_11111110100 (I : Prims) (rnd : Option Nat) (τ : Tau) (ds : List Deferred) (s : St) (Q : Ex → WK) : xp I rnd 192 k13_11111110100 c13_11111110100 [] τ [] ds s (lift Q) = v13_11111110100 I rnd τ ds s Q := by kernel_rfl
theorem n13_11111110100 [Memo] (ro : Nat) (rnd : Option Nat) (τ : Tau) (ds : List Deferred) (s : St) (Q : Ex → WK) : wp P ro 192 rnd c13_11111110100 τ ds s Q = v13_11111110100 (prims P ro) rnd τ ds s Q := xp_wp rnd 192 P ro (x13_11111110100 _ rnd τ ds s Q)
def v13_111110100100101 (I : Prims) (rnd : Option Nat) (τ : Tau) (ds : List Deferred) (s : St) (Q : Ex → XK) : Prop :=
 wdec (τ 117)
 (I.wop (.fieldAddr 94 (.const (τ 13)) 1) 0 s fun v119_0 s0 =>
 I.wop (.indexAddr 53 (.const v119_0) (.const (.int .i64 2))) 0 s0 fun v120_1 s1 =>
 I.wop (.load 3 (.const v120_1)) 3 s1 fun v121_2 s2 =>
 I.wop (.indexAddr 97 (.const (τ 10)) (.const v121_2)) 0 s2 fun v122_3 s3 =>
 I.wop (.store 4 (.const v122_3) (.const (.bool true))) 0 s3 fun _ s4 =>
 I.wop (.fieldAddr 94 (.const (τ 13)) 1) 0 s4 fun v124_5 s5 =>
 I.wop (.indexAddr 53 (.const v124_5) (.const (.int .i64 2))) 0 s5 fun v125_6 s6 =>
 I.wop (.load 3 (.const v125_6)) 3 s6 fun v126_7 s7 =>
 veq v126_7 v126_7 = true ∧ I.wop (.fieldAddr 34 (.const (τ 3)) 0) 0 s7 fun v127_8 s8 =>
 I.wop (.load 3 (.const v127_8)) 3 s8 fun v128_9 s9 =>
 veq v128_9 v128_9 = true ∧ I.wop (.fieldAddr 34 (.const (τ 3)) 0) 0 s9 fun v129_10 s10 =>
 I.wop (.load 3 (.const v129_10)) 3 s10 fun v130_11 s11 =>
 veq v130_11 v130_11 = true ∧ I.wop (.fieldAddr 34 (.const (τ 3)) 0) 0 s11 fun v131_12 s12 =>
 I.wop (.load 3 (.const v131_12)) 3 s12 fun v132_13 s13 =>
 veq v132_13 v132_13 = true ∧ I.wop (.load 94 (.const (τ 13))) 94 s13 fun v133_14 s14 =>
 veq v133_14 v133_14 = true ∧ I.wop (.fieldAddr 94 (.const (τ 13)) 5) 0 s14 fun v136_15 s15 =>
 I.wop (.load 24 (.const v136_15)) 24 s15 fun v137_16 s16 =>
 veq v137_16 v137_16 = true ∧ I.call 50 [v132_13, v133_14, (τ 9)] s16 fun v135_17 s17 =>
 Keeps [(14, .ptr v136_15), (7, .ptr v129_10), (5, .ptr v127_8), (3, .ptr v125_6)] s16 s17 ∧ I.call 49 [v130_11, v135_17, v137_16] s17 fun v138_18 s18 =>
 Keeps [(5, .ptr v127_8), (3, .ptr v125_6)] s17 s18 ∧ I.call 48 [v128_9, v138_18] s18 fun v139_19 s19 =>
 Keeps [(3, .ptr v125_6)] s18 s19 ∧ I.wop (.indexAddr 23 (.const (τ 9)) (.const v126_7)) 0 s19 fun v140_20 s20 =>
 I.wop (.store 24 (.const v140_20) (.const v139_19)) 0 s20 fun _ s21 =>
 Q .normal τ [(140, v140_20), (139, v139_19), (138, v138_18), (135, v135_17), (137, v137_16), (136, v136_15), (134, (τ 9)), (133, v133_14), (132, v132_13), (131, v131_12), (130, v130_11), (129, v129_10), (128, v128_9), (127, v127_8), (126, v126_7), (125, v125_6), (124, v124_5), (123, (τ 9)), (122, v122_3), (121, v121_2), (120, v120_1), (119, v119_0), (118, (τ 10)), (117, (.bool true))] ds s21)
 (Q .normal τ [(117, (.bool false))] ds s)
theorem n13_111110100100101 (I : Prims) (rnd : Option Nat) (τ : Tau) (ds : List Deferred) (s : St) (Q : Ex → XK) : xp I rnd 192 k13_111110100 c13_111110100100101 [1, 0, 1, 0, 0, 1] τ [] ds s Q = v13_111110100100101 I rnd τ ds s Q := by kernel_rfl
def v13_11111010010011 (I : Prims) (rnd : Option Nat) (τ : Tau) (ds : List Deferred) (s : St) (Q : Ex → XK) : Prop :=
 I.wop (.fieldAddr 94 (.const (τ 13)) 0) 0 s fun v141_0 s0 =>
 I.wop (.load 92 (.const v141_0)) 92 s0 fun v142_1 s1 =>
 I.wop (.binOp .eql 92 (.const v142_1) (.const (.int .u8 3)) 92) 4 s1 fun v143_2 s2 =>
 wdec v143_2
 (I.wop (.fieldAddr 34 (.const (τ 3)) 0) 0 s2 fun v144_3 s3 =>
 I.wop (.load 3 (.const v144_3)) 3 s3 fun v145_4 s4 =>
 I.wop (.load 94 (.const (τ 13))) 94 s4 fun v146_5 s5 =>
 I.call 51 [v145_4, v146_5, (τ 9)] s5 fun v148_6 s6 =>
 I.wop (.alloc 58) 0 s6 fun v14_7 s7 =>
 I.wop (.store 58 (.const v14_7) (.const v148_6)) 0 s7 fun _ s8 =>
 I.loop 192 rnd c13_11111010010011101100 (U τ [(15, (.int .i64 0)), (14, v14_7), (148, v148_6), (147, (τ 9)), (146, v146_5), (145, v145_4), (144, v144_3), (143, (.bool true)), (143, v143_2), (142, v142_1), (141, v141_0)]) ds s8 (fun τ ds s => (Q .ret) τ [] ds s) [(4, fun τ9 ds9 s9 =>
 Q .normal τ9 [] ds9 s9)])
 (Q .normal τ [(143, (.bool false)), (143, v143_2), (142, v142_1), (141, v141_0)] ds s2)
theorem n13_11111010010011 (I : Prims) (rnd : Option Nat) (τ : Tau) (ds : List Deferred) (s : St) (Q : Ex → XK) : xp I rnd 192 k13_111110100 c13_11111010010011 [1, 1, 0, 0, 1] τ [] ds s Q = v13_11111010010011 I rnd τ ds s Q := by kernel_rfl
def v13_11111010011 (I : Prims) (rnd : Option Nat) (τ : Tau) (ds : List Deferred) (s : St) (Q : Ex → XK) : Prop :=
 I.wop (.binOp .add 3 (.const (τ 12)) (.const (.int .i64 1)) 3) 3 s fun v95_0 s0 =>
 Q .normal τ [(12, v95_0), (95, v95_0), (94, (τ 12))] ds s0
theorem n13_11111010011 (I : Prims) (rnd : Option Nat) (τ : Tau) (ds : List Deferred) (s : St) (Q : Ex → XK) : xp I rnd 192 k13_111110100 c13_11111010011 [1, 1] τ [] ds s Q = v13_11111010011 I rnd τ ds s Q := by kernel_rfl
def v13_11111010010011101100 (I : Prims) (rnd : Option Nat) (τ : Tau) (ds : List Deferred) (s : St) (Q : Ex → WK) : Prop :=
 I.wop (.binOp .lss 3 (.const (τ 15)) (.const (.int .i64 4)) 3) 4 s fun v150_0 s0 =>
 wdec v150_0
 (I.wop (.fieldAddr 34 (.const (τ 3)) 4) 0 s0 fun v153_1 s1 =>
 I.wop (.load 32 (.const v153_1)) 32 s1 fun v154_2 s2 =>
 I.wop (.binOp .add 3 (.const (τ 12)) (.const (.int .i64 1)) 3) 3 s2 fun v156_3 s3 =>
 I.wop (.indexAddr 32 (.const v154_2) (.const v156_3)) 0 s3 fun v158_4 s4 =>
 I.wop (.fieldAddr 94 (.const v158_4) 1) 0 s4 fun v159_5 s5 =>
 I.wop (.indexAddr 53 (.const v159_5) (.const (τ 15))) 0 s5 fun v160_6 s6 =>
 I.wop (.load 3 (.const v160_6)) 3 s6 fun v161_7 s7 =>
 I.wop (.indexAddr 97 (.const (τ 10)) (.const v161_7)) 0 s7 fun v164_8 s8 =>
 I.wop (.load 4 (.const v164_8)) 4 s8 fun v165_9 s9 =>
 I.wop (.unOp .not 4 (.const v165_9)) 4 s9 fun v166_10 s10 =>
 wdec v166_10
 (I.wop (.indexAddr 97 (.const (τ 10)) (.const v161_7)) 0 s10 fun v169_11 s11 =>
 I.wop (.store 4 (.const v169_11) (.const (.bool true))) 0 s11 fun _ s12 =>
 I.wop (.indexAddr 58 (.const (τ 14)) (.const (τ 15))) 0 s12 fun v173_13 s13 =>
 I.wop (.load 24 (.const v173_13)) 24 s13 fun v174_14 s14 =>
 I.wop (.indexAddr 23 (.const (τ 9)) (.const v161_7)) 0 s14 fun v175_15 s15 =>
 I.wop (.store 24 (.const v175_15) (.const v174_14)) 0 s15 fun _ s16 =>
 I.wop (.binOp .add 3 (.const (τ 15)) (.const (.int .i64 1)) 3) 3 s16 fun v152_17 s17 =>
 Q .normal (U τ [(15, v152_17), (152, v152_17), (151, (τ 15)), (175, v175_15), (174, v174_14), (173, v173_13), (172, (τ 15)), (171, v161_7), (170, (τ 9)), (169, v169_11), (168, v161_7), (167, (τ 10)), (166, (.bool true)), (166, v166_10), (165, v165_9), (164, v164_8), (163, v161_7), (162, (τ 10)), (16, v161_7), (161, v161_7), (160, v160_6), (159, v159_5), (158, v158_4), (157, (τ 15)), (156, v156_3), (155, (τ 12)), (154, v154_2), (153, v153_1), (150, (.bool true)), (150, v150_0), (149, (τ 15))]) ds s17)
 (I.wop (.binOp .add 3 (.const (τ 15)) (.const (.int .i64 1)) 3) 3 s10 fun v152_18 s18 =>
 Q .normal (U τ [(15, v152_18), (152, v152_18), (151, (τ 15)), (166, (.bool false)), (166, v166_10), (165, v165_9), (164, v164_8), (163, v161_7), (162, (τ 10)), (16, v161_7), (161, v161_7), (160, v160_6), (159, v159_5), (158, v158_4), (157, (τ 15)), (156, v156_3), (155, (τ 12)), (154, v154_2), (153, v153_1), (150, (.bool true)), (150, v150_0), (149, (τ 15))]) ds s18))
 (Q (.exit 4) (U τ [(150, (.bool false)), (150, v150_0), (149, (τ 15))]) ds s0)
theorem x13_11111010010011101100 (I : Prims) (rnd : Option Nat) (τ : Tau) (ds : List Deferred) (s : St) (Q : Ex → WK) : xp I rnd 192 k13_11111010010011101100 c13_11111010010011101100 [] τ [] ds s (lift Q) = v13_11111010010011101100 I rnd τ ds s Q := by kernel_rfl
theorem n13_11111010010011101100 [Memo] (ro : Nat) (rnd : Option Nat) (τ : Tau) (ds : List Deferred) (s : St) (Q : Ex → WK) : wp P ro 192 rnd c13_11111010010011101100 τ ds s Q = v13_11111010010011101100 (prims P ro) rnd τ ds s Q := xp_wp rnd 192 P ro (x13_11111010010011101100 _ rnd τ ds s Q)
def v13 (I : Prims) (a0 a1 a2 : Value) (si : St) (K : Value → St → Prop) : Prop :=
 I.wop (.box 34 (.const a0)) 0 (ent si) fun v3_0 s0 =>
 I.wop (.load 34 (.const v3_0)) 34 s0 fun v19_1 s1 =>
 I.call 46 [v19_1] s1 fun v20_2 s2 =>
 I.wop (.unOp .not 4 (.const v20_2)) 4 s2 fun v21_3 s3 =>
 wdec v21_3
 (I.fin si K (.tuple (.mk [(.slice none 0 0), (.bool false), (.int .i64 1)])) s3)
 (I.wop (.call ⟨.builtin .len, ⟨[(.const a1)]⟩, #[23]⟩) 3 s3 fun v24_4 s4 =>
 I.wop (.fieldAddr 34 (.const v3_0) 2) 0 s4 fun v25_5 s5 =>
 I.wop (.load 3 (.const v25_5)) 3 s5 fun v26_6 s6 =>
 I.wop (.binOp .neq 3 (.const v24_4) (.const v26_6) 3) 4 s6 fun v27_7 s7 =>
 wdec v27_7
 (I.fin si K (.tuple (.mk [(.slice none 0 0), (.bool false), (.int .i64 1)])) s7)
 (I.wop (.call ⟨.builtin .len, ⟨[(.const a2)]⟩, #[23]⟩) 3 s7 fun v31_8 s8 =>
 I.wop (.fieldAddr 34 (.const v3_0) 3) 0 s8 fun v32_9 s9 =>
 I.wop (.load 3 (.const v32_9)) 3 s9 fun v33_10 s10 =>
 I.wop (.binOp .neq 3 (.const v31_8) (.const v33_10) 3) 4 s10 fun v34_11 s11 =>
 wdec v34_11
 (I.fin si K (.tuple (.mk [(.slice none 0 0), (.bool false), (.int .i64 1)])) s11)
 (I.wop (.fieldAddr 34 (.const v3_0) 0) 0 s11 fun v37_12 s12 =>
 I.wop (.load 3 (.const v37_12)) 3 s12 fun v38_13 s13 =>
 I.call 47 [v38_13, a1] s13 fun v40_14 s14 =>
 I.wop (.unOp .not 4 (.const v40_14)) 4 s14 fun v41_15 s15 =>
 wdec v41_15
 (I.fin si K (.tuple (.mk [(.slice none 0 0), (.bool false), (.int .i64 1)])) s15)
 (I.wop (.fieldAddr 34 (.const v3_0) 0) 0 s15 fun v44_16 s16 =>
 I.wop (.load 3 (.const v44_16)) 3 s16 fun v45_17 s17 =>
 I.call 47 [v45_17, a2] s17 fun v47_18 s18 =>
 I.wop (.unOp .not 4 (.const v47_18)) 4 s18 fun v48_19 s19 =>
 wdec v48_19
 (I.fin si K (.tuple (.mk [(.slice none 0 0), (.bool false), (.int .i64 1)])) s19)
 (I.wop (.fieldAddr 34 (.const v3_0) 1) 0 s19 fun v50_20 s20 =>
 I.wop (.load 3 (.const v50_20)) 3 s20 fun v51_21 s21 =>
 I.wop (.makeSlice 23 (.const v51_21) (.const v51_21)) 23 s21 fun v52_22 s22 =>
 I.wop (.fieldAddr 34 (.const v3_0) 1) 0 s22 fun v53_23 s23 =>
 I.wop (.load 3 (.const v53_23)) 3 s23 fun v54_24 s24 =>
 I.wop (.makeSlice 97 (.const v54_24) (.const v54_24)) 97 s24 fun v55_25 s25 =>
 I.loop 192 none c13_11110100 (U undefT [(11, (.int .i64 0)), (10, v55_25), (55, v55_25), (54, v54_24), (53, v53_23), (9, v52_22), (52, v52_22), (51, v51_21), (50, v50_20), (49, (.bool false)), (49, v48_19), (43, (.bool false)), (48, v48_19), (43, (.bool false)), (47, v47_18), (43, (.bool false)), (46, a2), (43, (.bool false)), (45, v45_17), (43, (.bool false)), (44, v44_16), (43, (.bool false)), (43, v41_15), (42, v41_15), (36, (.bool false)), (41, v41_15), (36, (.bool false)), (40, v40_14), (36, (.bool false)), (39, a1), (36, (.bool false)), (38, v38_13), (36, (.bool false)), (37, v37_12), (36, (.bool false)), (36, v34_11), (35, v34_11), (29, (.bool false)), (34, v34_11), (29, (.bool false)), (33, v33_10), (29, (.bool false)), (32, v32_9), (29, (.bool false)), (31, v31_8), (29, (.bool false)), (30, a2), (29, (.bool false)), (29, v27_7), (28, v27_7), (22, (.bool false)), (27, v27_7), (22, (.bool false)), (26, v26_6), (22, (.bool false)), (25, v25_5), (22, (.bool false)), (24, v24_4), (22, (.bool false)), (23, a1), (22, (.bool false)), (22, v21_3), (21, v21_3), (20, v20_2), (19, v19_1), (8, (.int .i64 0)), (7, (.bool false)), (6, (.slice none 0 0)), (3, v3_0), (0, a0), (1, a1), (2, a2)]) [] s25 (fun τ ds s => ((xleave I si Tryd.f13.results.toList K) .ret) τ [] ds s) [(0, fun τ26 ds26 s26 =>
 I.loop 192 none c13_111110100 (U τ26 [(12, (.int .i64 0))]) ds26 s26 (fun τ ds s => ((xleave I si Tryd.f13.results.toList K) .ret) τ [] ds s) [(2, fun τ27 ds27 s27 =>
 I.loop 192 none c13_11111110100 (U τ27 [(18, (.int .i64 0)), (17, (.bool true))]) ds27 s27 (fun τ ds s => ((xleave I si Tryd.f13.results.toList K) .ret) τ [] ds s) [(6, fun τ28 ds28 s28 =>
 xdefers I ds28 s28 fun s29 =>
 I.fin si K (.tuple (.mk [(τ28 9), (τ28 17), (.int .i64 0)])) s29)]), (4, fun _ _ _ =>
 False)])])))))
theorem x13 (I : Prims) (a0 a1 a2 : Value) (si : St) (K : Value → St → Prop) : xbody I 192 k13 Tryd.f13 c13 [a0, a1, a2] si K = v13 I a0 a1 a2 si K := by kernel_rfl
theorem n13 [Memo] (ro : Nat) (a0 a1 a2 : Value) (si : St) (K : Value → St → Prop) : wbody P ro 192 Tryd.f13 c13 [a0, a1, a2] si K = v13 (prims P ro) a0 a1 a2 si K := xbody_eq 192 P ro (x13 _ a0 a1 a2 si K)
/- attestor/attestorref01.P -/
noncomputable def c14 : Code := bodyOf Tryd.f14
def k14 : List (List Nat) := []
theorem b14 : BodyOk P 12 1 14 Tryd.f14 c14 := ⟨Tryd.func14, by kernel_rfl, by kernel_rfl, by kernel_rfl, by kernel_rfl, by kernel_rfl⟩
def v14 (I : Prims) (a0 : Value) (si : St) (K : Value → St → Prop) : Prop :=
 I.wop (.binOp .eql 3 (.const a0) (.const (.int .i64 0)) 3) 4 (ent si) fun v5_0 s0 =>
 wdec v5_0
 (I.fin si K (.int .u64 97) s0)
 (I.wop (.binOp .eql 3 (.const a0) (.const (.int .i64 1)) 3) 4 s0 fun v7_1 s1 =>
 wdec v7_1
 (I.fin si K (.int .u64 257) s1)
 (I.wop (.binOp .eql 3 (.const a0) (.const (.int .i64 2)) 3) 4 s1 fun v9_2 s2 =>
 wdec v9_2
 (I.fin si K (.int .u64 12289) s2)
 (I.wop (.binOp .eql 3 (.const a0) (.const (.int .i64 3)) 3) 4 s2 fun v11_3 s3 =>
 wdec v11_3
 (I.fin si K (.int .u64 998244353) s3)
 (I.fin si K (.int .u64 0) s3))))
theorem x14 (I : Prims) (a0 : Value) (si : St) (K : Value → St → Prop) : xbody I 12 k14 Tryd.f14 c14 [a0] si K = v14 I a0 si K := by kernel_rfl
theorem n14 [Memo] (ro : Nat) (a0 : Value) (si : St) (K : Value → St → Prop) : wbody P ro 12 Tryd.f14 c14 [a0] si K = v14 (prims P ro) a0 si K := xbody_eq 12 P ro (x14 _ a0 si K)
/- attestor/attestorref01.Valid -/
noncomputable def c16 : Code := bodyOf Tryd.f16
def k16 : List (List Nat) := []
theorem b16 : BodyOk P 9 1 16 Tryd.f16 c16 := ⟨Tryd.func16, by kernel_rfl, by kernel_rfl, by kernel_rfl, by kernel_rfl, by kernel_rfl⟩
def v16 (I : Prims) (a0 : Value) (si : St) (K : Value → St → Prop) : Prop :=
 I.wop (.binOp .geq 3 (.const a0) (.const (.int .i64 0)) 3) 4 (ent si) fun v4_0 s0 =>
 wdec v4_0
 (I.wop (.binOp .leq 3 (.const a0) (.const (.int .i64 3)) 3) 4 s0 fun v7_1 s1 =>
 I.fin si K v7_1 s1)
 (I.fin si K (.bool false) s0)
theorem x16 (I : Prims) (a0 : Value) (si : St) (K : Value → St → Prop) : xbody I 9 k16 Tryd.f16 c16 [a0] si K = v16 I a0 si K := by kernel_rfl
theorem n16 [Memo] (ro : Nat) (a0 : Value) (si : St) (K : Value → St → Prop) : wbody P ro 9 Tryd.f16 c16 [a0] si K = v16 (prims P ro) a0 si K := xbody_eq 9 P ro (x16 _ a0 si K)
/- attestor/attestorlaw30.values -/
noncomputable def c18 : Code := bodyOf Tryd.f18
def k18 : List (List Nat) := []
theorem b18 : BodyOk P 30 2 18 Tryd.f18 c18 := ⟨Tryd.func18, by kernel_rfl, by kernel_rfl, by kernel_rfl, by kernel_rfl, by kernel_rfl⟩
def v18 (I : Prims) (a0 a1 : Value) (si : St) (K : Value → St → Prop) : Prop :=
 I.call 12 [a0] (ent si) fun v12_0 s0 =>
 I.wop (.extract (.const v12_0) 0) 34 s0 fun v13_1 s1 =>
 I.wop (.extract (.const v12_0) 1) 26 s1 fun v14_2 s2 =>
 I.wop (.alloc 34) 0 s2 fun v6_3 s3 =>
 I.wop (.store 34 (.const v6_3) (.const v13_1)) 0 s3 fun _ s4 =>
 I.wop (.binOp .neq 26 (.const v14_2) (.const (.int .i64 0)) 26) 4 s4 fun v16_5 s5 =>
 wdec v16_5
 (I.fin si K (.tuple (.mk [(.slice none 0 0), (.bool false)])) s5)
 (I.wop (.load 34 (.const v6_3)) 34 s5 fun v18_6 s6 =>
 I.call 13 [v18_6, (.slice none 0 0), a1] s6 fun v20_7 s7 =>
 I.wop (.extract (.const v20_7) 0) 23 s7 fun v21_8 s8 =>
 I.wop (.extract (.const v20_7) 1) 4 s8 fun v22_9 s9 =>
 I.wop (.extract (.const v20_7) 2) 26 s9 fun v23_10 s10 =>
 wdec v22_9
 (I.wop (.binOp .eql 26 (.const v23_10) (.const (.int .i64 0)) 26) 4 s10 fun v28_11 s11 =>
 I.fin si K (.tuple (.mk [v21_8, v28_11])) s11)
 (I.fin si K (.tuple (.mk [v21_8, (.bool false)])) s10))
theorem x18 (I : Prims) (a0 a1 : Value) (si : St) (K : Value → St → Prop) : xbody I 30 k18 Tryd.f18 c18 [a0, a1] si K = v18 I a0 a1 si K := by kernel_rfl
theorem n18 [Memo] (ro : Nat) (a0 a1 : Value) (si : St) (K : Value → St → Prop) : wbody P ro 30 Tryd.f18 c18 [a0, a1] si K = v18 (prims P ro) a0 a1 si K := xbody_eq 30 P ro (x18 _ a0 a1 si K)
/- (*attestor/circuit.Builder).Mul -/
noncomputable def c21 : Code := bodyOf Tryd.f21
def k21 : List (List Nat) := []
theorem b21 : BodyOk P 28 3 21 Tryd.f21 c21 := ⟨Tryd.func21, by kernel_rfl, by kernel_rfl, by kernel_rfl, by kernel_rfl, by kernel_rfl⟩
def v21 (I : Prims) (a0 a1 a2 : Value) (si : St) (K : Value → St → Prop) : Prop :=
 I.wop (.buildSlice 30 2 ⟨[(0, (.const a1)), (1, (.const a2))]⟩) 30 (ent si) fun v11_0 s0 =>
 I.call 39 [a0, v11_0] s0 fun v12_1 s1 =>
 I.call 38 [a0, v12_1, (.slice none 0 0)] s1 fun v13_2 s2 =>
 I.wop (.unOp .not 4 (.const v13_2)) 4 s2 fun v14_3 s3 =>
 wdec v14_3
 (I.fin si K (.int .i64 (-1)) s3)
 (I.wop (.nilCheck (.const a0)) 0 s3 fun v19_4 s4 =>
 I.wop (.fieldAddr 81 (.const v19_4) 1) 0 s4 fun v20_5 s5 =>
 I.wop (.fieldAddr 34 (.const v20_5) 1) 0 s5 fun v21_6 s6 =>
 I.wop (.load 3 (.const v21_6)) 3 s6 fun v22_7 s7 =>
 veq v22_7 v22_7 = true ∧ I.call 44 [a0] s7 fun v24_8 s8 =>
 Keeps [(7, .ptr v21_6)] s7 s8 ∧ I.call 63 [a1, a2, v22_7, (.int .u64 0), (.int .u64 0), (.int .u64 1), v24_8, (.int .u64 0)] s8 fun v25_9 s9 =>
 s8.n ≤ s9.n ∧ I.wop (.buildSlice 32 1 ⟨[(0, (.const v25_9))]⟩) 32 s9 fun v26_10 s10 =>
 FreshOk s9 s10 ∧ I.call 62 [a0, (.int .i64 1), v26_10] s10 fun v27_11 s11 =>
 s10.n ≤ s11.n ∧ I.fin si K v27_11 s11)
theorem x21 (I : Prims) (a0 a1 a2 : Value) (si : St) (K : Value → St → Prop) : xbody I 28 k21 Tryd.f21 c21 [a0, a1, a2] si K = v21 I a0 a1 a2 si K := by kernel_rfl
theorem n21 [Memo] (ro : Nat) (a0 a1 a2 : Value) (si : St) (K : Value → St → Prop) : wbody P ro 28 Tryd.f21 c21 [a0, a1, a2] si K = v21 (prims P ro) a0 a1 a2 si K := xbody_eq 28 P ro (x21 _ a0 a1 a2 si K)
/- (*attestor/circuit.Builder).Const -/
noncomputable def c22 : Code := bodyOf Tryd.f22
def k22 : List (List Nat) := []
theorem b22 : BodyOk P 22 2 22 Tryd.f22 c22 := ⟨Tryd.func22, by kernel_rfl, by kernel_rfl, by kernel_rfl, by kernel_rfl, by kernel_rfl⟩
def v22 (I : Prims) (a0 a1 : Value) (si : St) (K : Value → St → Prop) : Prop :=
 I.wop (.buildSlice 23 1 ⟨[(0, (.const a1))]⟩) 23 (ent si) fun v7_0 s0 =>
 I.call 38 [a0, (.bool true), v7_0] s0 fun v8_1 s1 =>
 I.wop (.unOp .not 4 (.const v8_1)) 4 s1 fun v9_2 s2 =>
 wdec v9_2
 (I.fin si K (.int .i64 (-1)) s2)
 (I.wop (.nilCheck (.const a0)) 0 s2 fun v12_3 s3 =>
 I.wop (.fieldAddr 81 (.const v12_3) 1) 0 s3 fun v13_4 s4 =>
 I.wop (.fieldAddr 34 (.const v13_4) 1) 0 s4 fun v14_5 s5 =>
 I.wop (.load 3 (.const v14_5)) 3 s5 fun v15_6 s6 =>
 veq v15_6 v15_6 = true ∧ I.call 44 [a0] s6 fun v17_7 s7 =>
 Keeps [(5, .ptr v14_5)] s6 s7 ∧ I.call 63 [(.int .i64 (-1)), (.int .i64 (-1)), v15_6, (.int .u64 0), (.int .u64 0), (.int .u64 0), v17_7, a1] s7 fun v19_8 s8 =>
 s7.n ≤ s8.n ∧ I.wop (.buildSlice 32 1 ⟨[(0, (.const v19_8))]⟩) 32 s8 fun v20_9 s9 =>
 FreshOk s8 s9 ∧ I.call 62 [a0, (.int .i64 1), v20_9] s9 fun v21_10 s10 =>
 s9.n ≤ s10.n ∧ I.fin si K v21_10 s10)
theorem x22 (I : Prims) (a0 a1 : Value) (si : St) (K : Value → St → Prop) : xbody I 22 k22 Tryd.f22 c22 [a0, a1] si K = v22 I a0 a1 si K := by kernel_rfl
theorem n22 [Memo] (ro : Nat) (a0 a1 : Value) (si : St) (K : Value → St → Prop) : wbody P ro 22 Tryd.f22 c22 [a0, a1] si K = v22 (prims P ro) a0 a1 si K := xbody_eq 22 P ro (x22 _ a0 a1 si K)
/- (*attestor/circuit.Builder).Err -/
noncomputable def c23 : Code := bodyOf Tryd.f23
def k23 : List (List Nat) := []
theorem b23 : BodyOk P 16 1 23 Tryd.f23 c23 := ⟨Tryd.func23, by kernel_rfl, by kernel_rfl, by kernel_rfl, by kernel_rfl, by kernel_rfl⟩
def v23 (I : Prims) (a0 : Value) (si : St) (K : Value → St → Prop) : Prop :=
 I.wop (.binOp .eql 25 (.const a0) (.const (.pointer none)) 25) 4 (ent si) fun v4_0 s0 =>
 wdec v4_0
 (I.fin si K (.int .i64 10) s0)
 (I.wop (.nilCheck (.const a0)) 0 s0 fun v7_1 s1 =>
 I.wop (.fieldAddr 81 (.const v7_1) 0) 0 s1 fun v8_2 s2 =>
 I.wop (.load 4 (.const v8_2)) 4 s2 fun v9_3 s3 =>
 I.wop (.unOp .not 4 (.const v9_3)) 4 s3 fun v10_4 s4 =>
 wdec v10_4
 (I.fin si K (.int .i64 10) s4)
 (I.wop (.nilCheck (.const a0)) 0 s4 fun v13_5 s5 =>
 I.wop (.fieldAddr 81 (.const v13_5) 2) 0 s5 fun v14_6 s6 =>
 I.wop (.load 26 (.const v14_6)) 26 s6 fun v15_7 s7 =>
 I.fin si K v15_7 s7))
theorem x23 (I : Prims) (a0 : Value) (si : St) (K : Value → St → Prop) : xbody I 16 k23 Tryd.f23 c23 [a0] si K = v23 I a0 si K := by kernel_rfl
theorem n23 [Memo] (ro : Nat) (a0 : Value) (si : St) (K : Value → St → Prop) : wbody P ro 16 Tryd.f23 c23 [a0] si K = v23 (prims P ro) a0 si K := xbody_eq 16 P ro (x23 _ a0 si K)
/- (*attestor/circuit.Builder).Pack -/
noncomputable def c30 : Code := bodyOf Tryd.f30
noncomputable def c30_11110100 : Code := subCode [1, 1, 1, 1, 0, 1, 0, 0] c30
noncomputable def c30_11110101 : Code := subCode [1, 1, 1, 1, 0, 1, 0, 1] c30
def k30 : List (List Nat) := []
def k30_11110100 : List (List Nat) := []
theorem l30_11110100 : ltCode 27 c30_11110100 = true := by kernel_rfl
def k30_11110101 : List (List Nat) := []
theorem l30_11110101 : ltCode 27 c30_11110101 = true := by kernel_rfl
theorem b30 : BodyOk P 27 2 30 Tryd.f30 c30 := ⟨Tryd.func30, by kernel_rfl, by kernel_rfl, by kernel_rfl, by kernel_rfl, by kernel_rfl⟩
def v30_11110100 (I : Prims) (rnd : Option Nat) (τ : Tau) (ds : List Deferred) (s : St) (Q : Ex → WK) : Prop :=
 Q .normal (U τ [(7, (τ 21))]) ds s
theorem x30_11110100 (I : Prims) (rnd : Option Nat) (τ : Tau) (ds : List Deferred) (s : St) (Q : Ex → WK) : xp I rnd 27 k30_11110100 c30_11110100 [] τ [] ds s (lift Q) = v30_11110100 I rnd τ ds s Q := by kernel_rfl
theorem n30_11110100 [Memo] (ro : Nat) (rnd : Option Nat) (τ : Tau) (ds : List Deferred) (s : St) (Q : Ex → WK) : wp P ro 27 rnd c30_11110100 τ ds s Q = v30_11110100 (prims P ro) rnd τ ds s Q := xp_wp rnd 27 P ro (x30_11110100 _ rnd τ ds s Q)
def v30_11110101 (I : Prims) (rnd : Option Nat) (τ : Tau) (ds : List Deferred) (s : St) (Q : Ex → WK) : Prop :=
 I.wop (.load 25 (.const (τ 2))) 25 s fun v22_0 s0 =>
 I.wop (.load 3 (.const (τ 5))) 3 s0 fun v23_1 s1 =>
 I.call 43 [v22_0, v23_1, (τ 7), (.int .u64 2), (.int .u64 1), (.int .u64 0)] s1 fun v25_2 s2 =>
 I.wop (.store 3 (.const (τ 5)) (.const v25_2)) 0 s2 fun _ s3 =>
 Q .normal (U τ [(25, v25_2), (24, (τ 7)), (23, v23_1), (22, v22_0)]) ds s3
theorem x30_11110101 (I : Prims) (rnd : Option Nat) (τ : Tau) (ds : List Deferred) (s : St) (Q : Ex → WK) : xp I rnd 27 k30_11110101 c30_11110101 [] τ [] ds s (lift Q) = v30_11110101 I rnd τ ds s Q := by kernel_rfl
theorem n30_11110101 [Memo] (ro : Nat) (rnd : Option Nat) (τ : Tau) (ds : List Deferred) (s : St) (Q : Ex → WK) : wp P ro 27 rnd c30_11110101 τ ds s Q = v30_11110101 (prims P ro) rnd τ ds s Q := xp_wp rnd 27 P ro (x30_11110101 _ rnd τ ds s Q)
def v30 (I : Prims) (a0 a1 : Value) (si : St) (K : Value → St → Prop) : Prop :=
 I.wop (.box 25 (.const a0)) 0 (ent si) fun v2_0 s0 =>
 I.wop (.load 25 (.const v2_0)) 25 s0 fun v8_1 s1 =>
 veq v8_1 v8_1 = true ∧ I.wop (.load 25 (.const v2_0)) 25 s1 fun v9_2 s2 =>
 veq v9_2 v9_2 = true ∧ I.call 39 [v9_2, a1] s2 fun v11_3 s3 =>
 Keeps [(0, .ptr v2_0)] s2 s3 ∧ I.call 38 [v8_1, v11_3, (.slice none 0 0)] s3 fun v12_4 s4 =>
 I.wop (.unOp .not 4 (.const v12_4)) 4 s4 fun v13_5 s5 =>
 wdec v13_5
 (I.fin si K (.int .i64 (-1)) s5)
 (I.wop (.load 25 (.const v2_0)) 25 s5 fun v14_6 s6 =>
 I.call 40 [v14_6] s6 fun v15_7 s7 =>
 (none : Option Nat) = none ∧ I.wdefer (.defer ⟨.value (.const v15_7), ⟨[]⟩, #[]⟩) 0 s7 fun d8 s8 =>
 I.wop (.load 25 (.const v2_0)) 25 s8 fun v16_9 s9 =>
 I.call 22 [v16_9, (.int .u64 0)] s9 fun v17_10 s10 =>
 I.wop (.alloc 3) 0 s10 fun v5_11 s11 =>
 I.wop (.store 3 (.const v5_11) (.const v17_10)) 0 s11 fun _ s12 =>
 I.call 68 [a1] s12 fun v19_13 s13 =>
 I.range 27 none v19_13 #[20, 21] c30_11110100 c30_11110101 (U undefT [(19, v19_13), (18, a1), (5, v5_11), (17, v17_10), (16, v16_9), (15, v15_7), (14, v14_6), (13, (.bool false)), (13, v13_5), (12, v12_4), (11, v11_3), (10, a1), (9, v9_2), (8, v8_1), (4, (.int .i64 0)), (2, v2_0), (0, a0), (1, a1)]) (d8 :: []) s13 (fun τ14 ds14 s14 =>
 I.wop (.load 3 (.const (τ14 5))) 3 s14 fun v26_15 s15 =>
 xdefers I ds14 s15 fun s16 =>
 I.fin si K v26_15 s16) (fun τ ds s => ((xleave I si Tryd.f30.results.toList K) .ret) τ [] ds s) [])
theorem x30 (I : Prims) (a0 a1 : Value) (si : St) (K : Value → St → Prop) : xbody I 27 k30 Tryd.f30 c30 [a0, a1] si K = v30 I a0 a1 si K := by kernel_rfl
theorem n30 [Memo] (ro : Nat) (a0 a1 : Value) (si : St) (K : Value → St → Prop) : wbody P ro 27 Tryd.f30 c30 [a0, a1] si K = v30 (prims P ro) a0 a1 si K := xbody_eq 27 P ro (x30 _ a0 a1 si K)
/- (*attestor/circuit.Builder).Power -/
noncomputable def c31 : Code := bodyOf Tryd.f31
noncomputable def c31_11110100 : Code := subCode [1, 1, 1, 1, 0, 1, 0, 0] c31
def k31 : List (List Nat) := []
def k31_11110100 : List (List Nat) := []
theorem l31_11110100 : ltCode 56 c31_11110100 = true := by kernel_rfl
theorem m31_11110100 : notMap c31_11110100 = true := by kernel_rfl
theorem b31 : BodyOk P 56 3 31 Tryd.f31 c31 := ⟨Tryd.func31, by kernel_rfl, by kernel_rfl, by kernel_rfl, by kernel_rfl, by kernel_rfl⟩
def v31_11110100 (I : Prims) (rnd : Option Nat) (τ : Tau) (ds : List Deferred) (s : St) (Q : Ex → WK) : Prop :=
 I.wop (.binOp .lss 3 (.const (τ 23)) (.const (τ 22)) 3) 4 s fun v24_0 s0 =>
 wdec v24_0
 (I.wop (.indexAddr 30 (.const (τ 1)) (.const (τ 23))) 0 s0 fun v31_1 s1 =>
 I.wop (.load 3 (.const v31_1)) 3 s1 fun v32_2 s2 =>
 veq v32_2 v32_2 = true ∧ I.wop (.indexAddr 30 (.const (τ 1)) (.const (τ 23))) 0 s2 fun v35_3 s3 =>
 I.wop (.load 3 (.const v35_3)) 3 s3 fun v36_4 s4 =>
 veq v36_4 v36_4 = true ∧ I.wop (.nilCheck (.const (τ 0))) 0 s4 fun v38_5 s5 =>
 I.wop (.fieldAddr 81 (.const v38_5) 1) 0 s5 fun v39_6 s6 =>
 I.wop (.fieldAddr 34 (.const v39_6) 0) 0 s6 fun v40_7 s7 =>
 I.wop (.load 3 (.const v40_7)) 3 s7 fun v41_8 s8 =>
 veq v41_8 v41_8 = true ∧ I.call 69 [v41_8, (τ 2), (.int .u64 1)] s8 fun v43_9 s9 =>
 Keeps [(10, .ptr v35_3), (6, .ptr v31_1)] s8 s9 ∧ I.call 43 [(τ 0), v32_2, v36_4, v43_9, (.int .u64 0), (.int .u64 1)] s9 fun v44_10 s10 =>
 I.call 21 [(τ 0), (τ 7), v44_10] s10 fun v45_11 s11 =>
 I.wop (.nilCheck (.const (τ 0))) 0 s11 fun v47_12 s12 =>
 I.wop (.fieldAddr 81 (.const v47_12) 1) 0 s12 fun v48_13 s13 =>
 I.wop (.fieldAddr 34 (.const v48_13) 0) 0 s13 fun v49_14 s14 =>
 I.wop (.load 3 (.const v49_14)) 3 s14 fun v50_15 s15 =>
 I.call 70 [v50_15, (τ 2), (τ 2)] s15 fun v53_16 s16 =>
 I.wop (.binOp .add 3 (.const (τ 23)) (.const (.int .i64 1)) 3) 3 s16 fun v54_17 s17 =>
 Q .normal (U τ [(23, v54_17), (54, v54_17), (2, v53_16), (53, v53_16), (52, (τ 2)), (51, (τ 2)), (50, v50_15), (49, v49_14), (48, v48_13), (47, v47_12), (46, (τ 0)), (7, v45_11), (45, v45_11), (44, v44_10), (43, v43_9), (42, (τ 2)), (41, v41_8), (40, v40_7), (39, v39_6), (38, v38_5), (37, (τ 0)), (36, v36_4), (35, v35_3), (34, (τ 23)), (33, (τ 1)), (32, v32_2), (31, v31_1), (30, (τ 23)), (29, (τ 1)), (28, (τ 0)), (27, (τ 7)), (26, (τ 0)), (8, (τ 23)), (25, (τ 23)), (24, (.bool true)), (24, v24_0)]) ds s17)
 (Q (.exit 0) (U τ [(24, (.bool false)), (24, v24_0)]) ds s0)
theorem x31_11110100 (I : Prims) (rnd : Option Nat) (τ : Tau) (ds : List Deferred) (s : St) (Q : Ex → WK) : xp I rnd 56 k31_11110100 c31_11110100 [] τ [] ds s (lift Q) = v31_11110100 I rnd τ ds s Q := by kernel_rfl
theorem n31_11110100 [Memo] (ro : Nat) (rnd : Option Nat) (τ : Tau) (ds : List Deferred) (s : St) (Q : Ex → WK) : wp P ro 56 rnd c31_11110100 τ ds s Q = v31_11110100 (prims P ro) rnd τ ds s Q := xp_wp rnd 56 P ro (x31_11110100 _ rnd τ ds s Q)
def v31 (I : Prims) (a0 a1 a2 : Value) (si : St) (K : Value → St → Prop) : Prop :=
 I.call 39 [a0, a1] (ent si) fun v12_0 s0 =>
 I.wop (.buildSlice 23 1 ⟨[(0, (.const a2))]⟩) 23 s0 fun v14_1 s1 =>
 I.call 38 [a0, v12_0, v14_1] s1 fun v15_2 s2 =>
 I.wop (.unOp .not 4 (.const v15_2)) 4 s2 fun v16_3 s3 =>
 wdec v16_3
 (I.fin si K (.int .i64 (-1)) s3)
 (I.call 40 [a0] s3 fun v18_4 s4 =>
 (none : Option Nat) = none ∧ I.wdefer (.defer ⟨.value (.const v18_4), ⟨[]⟩, #[]⟩) 0 s4 fun d5 s5 =>
 I.call 22 [a0, (.int .u64 1)] s5 fun v20_6 s6 =>
 I.wop (.call ⟨.builtin .len, ⟨[(.const a1)]⟩, #[30]⟩) 3 s6 fun v22_7 s7 =>
 I.loop 56 none c31_11110100 (U undefT [(23, (.int .i64 0)), (22, v22_7), (21, a1), (7, v20_6), (20, v20_6), (19, a0), (18, v18_4), (17, a0), (16, (.bool false)), (16, v16_3), (15, v15_2), (14, v14_1), (13, a2), (12, v12_0), (11, a1), (10, a0), (9, a0), (6, (.int .i64 0)), (0, a0), (1, a1), (2, a2)]) (d5 :: []) s7 (fun τ ds s => ((xleave I si Tryd.f31.results.toList K) .ret) τ [] ds s) [(0, fun τ8 ds8 s8 =>
 xdefers I ds8 s8 fun s9 =>
 I.fin si K (τ8 7) s9)])
theorem x31 (I : Prims) (a0 a1 a2 : Value) (si : St) (K : Value → St → Prop) : xbody I 56 k31 Tryd.f31 c31 [a0, a1, a2] si K = v31 I a0 a1 a2 si K := by kernel_rfl
theorem n31 [Memo] (ro : Nat) (a0 a1 a2 : Value) (si : St) (K : Value → St → Prop) : wbody P ro 56 Tryd.f31 c31 [a0, a1, a2] si K = v31 (prims P ro) a0 a1 a2 si K := xbody_eq 56 P ro (x31 _ a0 a1 a2 si K)
/- (*attestor/circuit.Builder).Pick -/
noncomputable def c32 : Code := bodyOf Tryd.f32
noncomputable def c32_11 : Code := subCode [1, 1] c32
noncomputable def c32_1110100 : Code := subCode [1, 1, 1, 0, 1, 0, 0] c32
noncomputable def c32_11101001100110100 : Code := subCode [1, 1, 1, 0, 1, 0, 0, 1, 1, 0, 0, 1, 1, 0, 1, 0, 0] c32
noncomputable def c32_11101001100110101 : Code := subCode [1, 1, 1, 0, 1, 0, 0, 1, 1, 0, 0, 1, 1, 0, 1, 0, 1] c32
def k32 : List (List Nat) := [[1, 1]]
def k32_1110100 : List (List Nat) := []
theorem l32_1110100 : ltCode 88 c32_1110100 = true := by kernel_rfl
theorem m32_1110100 : notMap c32_1110100 = true := by kernel_rfl
def k32_11101001100110100 : List (List Nat) := []
theorem l32_11101001100110100 : ltCode 88 c32_11101001100110100 = true := by kernel_rfl
def k32_11101001100110101 : List (List Nat) := []
theorem l32_11101001100110101 : ltCode 88 c32_11101001100110101 = true := by kernel_rfl
theorem b32 : BodyOk P 88 3 32 Tryd.f32 c32 := ⟨Tryd.func32, by kernel_rfl, by kernel_rfl, by kernel_rfl, by kernel_rfl, by kernel_rfl⟩
def v32_11 (I : Prims) (τ : Tau) (ds : List Deferred) (s : St) (Q : Ex → XK) : Prop :=
 I.wop (.load 25 (.const (τ 3))) 25 s fun v38_0 s0 =>
 I.call 40 [v38_0] s0 fun v39_1 s1 =>
 (none : Option Nat) = none ∧ I.wdefer (.defer ⟨.value (.const v39_1), ⟨[]⟩, #[]⟩) 0 s1 fun d2 s2 =>
 I.wop (.call ⟨.builtin .len, ⟨[(.const (τ 1))]⟩, #[30]⟩) 3 s2 fun v41_3 s3 =>
 I.loop 88 none c32_1110100 (U τ [(42, (.int .i64 0)), (41, v41_3), (40, (τ 1)), (39, v39_1), (38, v38_0)]) (d2 :: ds) s3 (fun τ ds s => (Q .ret) τ [] ds s) [(0, fun τ4 ds4 s4 =>
 I.wop (.load 25 (.const (τ4 3))) 25 s4 fun v78_5 s5 =>
 veq v78_5 v78_5 = true ∧ I.wop (.indexAddr 46 (.const (τ4 2)) (.const (.int .i64 0))) 0 s5 fun v80_6 s6 =>
 I.wop (.indexAddr 47 (.const v80_6) (.const (.int .i64 0))) 0 s6 fun v81_7 s7 =>
 I.wop (.load 3 (.const v81_7)) 3 s7 fun v82_8 s8 =>
 veq v82_8 v82_8 = true ∧ I.wop (.indexAddr 46 (.const (τ4 2)) (.const (.int .i64 0))) 0 s8 fun v84_9 s9 =>
 I.wop (.indexAddr 47 (.const v84_9) (.const (.int .i64 1))) 0 s9 fun v85_10 s10 =>
 I.wop (.load 3 (.const v85_10)) 3 s10 fun v86_11 s11 =>
 veq v86_11 v86_11 = true ∧ I.call 57 [v78_5, v82_8, v86_11] s11 fun v87_12 s12 =>
 I.wop (.store 47 (.const (τ4 6)) (.const v87_12)) 0 s12 fun _ s13 =>
 Q .ret τ4 [(87, v87_12), (86, v86_11), (85, v85_10), (84, v84_9), (83, (τ4 2)), (82, v82_8), (81, v81_7), (80, v80_6), (79, (τ4 2)), (78, v78_5)] ds4 s13)]
theorem n32_11 (I : Prims) (τ : Tau) (ds : List Deferred) (s : St) (Q : Ex → XK) : xp I none 88 k32 c32_11 [1, 1] τ [] ds s Q = v32_11 I τ ds s Q := by kernel_rfl
def v32_1110100 (I : Prims) (rnd : Option Nat) (τ : Tau) (ds : List Deferred) (s : St) (Q : Ex → WK) : Prop :=
 I.wop (.binOp .lss 3 (.const (τ 42)) (.const (τ 41)) 3) 0 s fun v43_0 s0 =>
 wdec v43_0
 (I.wop (.indexAddr 30 (.const (τ 40)) (.const (τ 42))) 0 s0 fun v44_1 s1 =>
 I.wop (.load 3 (.const v44_1)) 3 s1 fun v45_2 s2 =>
 I.wop (.alloc 3) 0 s2 fun v8_3 s3 =>
 I.wop (.store 3 (.const v8_3) (.const v45_2)) 0 s3 fun _ s4 =>
 I.wop (.alloc 46) 0 s4 fun v9_5 s5 =>
 I.call 71 [(τ 2), (.int .i64 2)] s5 fun v47_6 s6 =>
 I.range 88 rnd v47_6 #[48] c32_11101001100110100 c32_11101001100110101 (U τ [(47, v47_6), (46, (τ 2)), (9, v9_5), (8, v8_3), (45, v45_2), (44, v44_1), (43, (.bool true)), (43, v43_0)]) ds s6 (fun τ7 ds7 s7 =>
 I.wop (.load 46 (.const (τ7 9))) 46 s7 fun v76_8 s8 =>
 I.wop (.binOp .add 3 (.const (τ7 42)) (.const (.int .i64 1)) 3) 3 s8 fun v77_9 s9 =>
 Q .normal (U τ7 [(42, v77_9), (77, v77_9), (2, v76_8), (76, v76_8)]) ds7 s9) (fun τ ds s => ((lift Q) .ret) τ [] ds s) [])
 (Q (.exit 0) (U τ [(43, (.bool false)), (43, v43_0)]) ds s0)
theorem x32_1110100 (I : Prims) (rnd : Option Nat) (τ : Tau) (ds : List Deferred) (s : St) (Q : Ex → WK) : xp I rnd 88 k32_1110100 c32_1110100 [] τ [] ds s (lift Q) = v32_1110100 I rnd τ ds s Q := by kernel_rfl
theorem n32_1110100 [Memo] (ro : Nat) (rnd : Option Nat) (τ : Tau) (ds : List Deferred) (s : St) (Q : Ex → WK) : wp P ro 88 rnd c32_1110100 τ ds s Q = v32_1110100 (prims P ro) rnd τ ds s Q := xp_wp rnd 88 P ro (x32_1110100 _ rnd τ ds s Q)
def v32_11101001100110100 (I : Prims) (rnd : Option Nat) (τ : Tau) (ds : List Deferred) (s : St) (Q : Ex → WK) : Prop :=
 Q .normal (U τ [(10, (τ 48))]) ds s
theorem x32_11101001100110100 (I : Prims) (rnd : Option Nat) (τ : Tau) (ds : List Deferred) (s : St) (Q : Ex → WK) : xp I rnd 88 k32_11101001100110100 c32_11101001100110100 [] τ [] ds s (lift Q) = v32_11101001100110100 I rnd τ ds s Q := by kernel_rfl
theorem n32_11101001100110100 [Memo] (ro : Nat) (rnd : Option Nat) (τ : Tau) (ds : List Deferred) (s : St) (Q : Ex → WK) : wp P ro 88 rnd c32_11101001100110100 τ ds s Q = v32_11101001100110100 (prims P ro) rnd τ ds s Q := xp_wp rnd 88 P ro (x32_11101001100110100 _ rnd τ ds s Q)
def v32_11101001100110101 (I : Prims) (rnd : Option Nat) (τ : Tau) (ds : List Deferred) (s : St) (Q : Ex → WK) : Prop :=
 I.wop (.load 25 (.const (τ 3))) 25 s fun v49_0 s0 =>
 veq v49_0 v49_0 = true ∧ I.wop (.load 3 (.const (τ 8))) 3 s0 fun v50_1 s1 =>
 veq v50_1 v50_1 = true ∧ I.wop (.indexAddr 46 (.const (τ 10)) (.const (.int .i64 0))) 0 s1 fun v52_2 s2 =>
 I.wop (.indexAddr 47 (.const v52_2) (.const (.int .i64 0))) 0 s2 fun v53_3 s3 =>
 I.wop (.load 3 (.const v53_3)) 3 s3 fun v54_4 s4 =>
 veq v54_4 v54_4 = true ∧ I.wop (.indexAddr 46 (.const (τ 10)) (.const (.int .i64 1))) 0 s4 fun v56_5 s5 =>
 I.wop (.indexAddr 47 (.const v56_5) (.const (.int .i64 0))) 0 s5 fun v57_6 s6 =>
 I.wop (.load 3 (.const v57_6)) 3 s6 fun v58_7 s7 =>
 veq v58_7 v58_7 = true ∧ I.call 55 [v49_0, v50_1, v54_4, v58_7] s7 fun v59_8 s8 =>
 I.wop (.load 46 (.const (τ 9))) 46 s8 fun v60_9 s9 =>
 veq v60_9 v60_9 = true ∧ I.wop (.load 25 (.const (τ 3))) 25 s9 fun v62_10 s10 =>
 veq v62_10 v62_10 = true ∧ I.wop (.load 3 (.const (τ 8))) 3 s10 fun v63_11 s11 =>
 veq v63_11 v63_11 = true ∧ I.wop (.indexAddr 46 (.const (τ 10)) (.const (.int .i64 0))) 0 s11 fun v65_12 s12 =>
 I.wop (.indexAddr 47 (.const v65_12) (.const (.int .i64 1))) 0 s12 fun v66_13 s13 =>
 I.wop (.load 3 (.const v66_13)) 3 s13 fun v67_14 s14 =>
 veq v67_14 v67_14 = true ∧ I.wop (.indexAddr 46 (.const (τ 10)) (.const (.int .i64 1))) 0 s14 fun v69_15 s15 =>
 I.wop (.indexAddr 47 (.const v69_15) (.const (.int .i64 1))) 0 s15 fun v70_16 s16 =>
 I.wop (.load 3 (.const v70_16)) 3 s16 fun v71_17 s17 =>
 veq v71_17 v71_17 = true ∧ I.call 55 [v62_10, v63_11, v67_14, v71_17] s17 fun v72_18 s18 =>
 Keeps [(0, .ptr (τ 9))] s17 s18 ∧ I.wop (.build 47 ⟨[(0, (.const v59_8)), (1, (.const v72_18))]⟩) 47 s18 fun v73_19 s19 =>
 I.wop (.buildSlice 46 1 ⟨[(0, (.const v73_19))]⟩) 46 s19 fun v74_20 s20 =>
 FreshOk s19 s20 ∧ I.wop (.call ⟨.builtin .append, ⟨[(.const v60_9), (.const v74_20)]⟩, #[46, 46]⟩) 46 s20 fun v75_21 s21 =>
 s20.n ≤ s21.n ∧ I.wop (.store 46 (.const (τ 9)) (.const v75_21)) 0 s21 fun _ s22 =>
 s21.n ≤ s22.n ∧ Q .normal (U τ [(75, v75_21), (74, v74_20), (73, v73_19), (72, v72_18), (71, v71_17), (70, v70_16), (69, v69_15), (68, (τ 10)), (67, v67_14), (66, v66_13), (65, v65_12), (64, (τ 10)), (63, v63_11), (62, v62_10), (61, v59_8), (60, v60_9), (11, v59_8), (59, v59_8), (58, v58_7), (57, v57_6), (56, v56_5), (55, (τ 10)), (54, v54_4), (53, v53_3), (52, v52_2), (51, (τ 10)), (50, v50_1), (49, v49_0)]) ds s22
theorem x32_11101001100110101 (I : Prims) (rnd : Option Nat) (τ : Tau) (ds : List Deferred) (s : St) (Q : Ex → WK) : xp I rnd 88 k32_11101001100110101 c32_11101001100110101 [] τ [] ds s (lift Q) = v32_11101001100110101 I rnd τ ds s Q := by kernel_rfl
theorem n32_11101001100110101 [Memo] (ro : Nat) (rnd : Option Nat) (τ : Tau) (ds : List Deferred) (s : St) (Q : Ex → WK) : wp P ro 88 rnd c32_11101001100110101 τ ds s Q = v32_11101001100110101 (prims P ro) rnd τ ds s Q := xp_wp rnd 88 P ro (x32_11101001100110101 _ rnd τ ds s Q)
def v32 (I : Prims) (a0 a1 a2 : Value) (si : St) (K : Value → St → Prop) : Prop :=
 I.wop (.box 25 (.const a0)) 0 (ent si) fun v3_0 s0 =>
 I.wop (.alloc 47) 0 s0 fun v6_1 s1 =>
 I.wop (.load 25 (.const v3_0)) 25 s1 fun v12_2 s2 =>
 veq v12_2 v12_2 = true ∧ I.wop (.call ⟨.builtin .len, ⟨[(.const a1)]⟩, #[30]⟩) 3 s2 fun v14_3 s3 =>
 I.wop (.binOp .leq 3 (.const v14_3) (.const (.int .i64 8)) 3) 4 s3 fun v15_4 s4 =>
 wdec v15_4
 (I.wop (.call ⟨.builtin .len, ⟨[(.const a2)]⟩, #[46]⟩) 3 s4 fun v18_5 s5 =>
 I.wop (.call ⟨.builtin .len, ⟨[(.const a1)]⟩, #[30]⟩) 3 s5 fun v20_6 s6 =>
 I.wop (.call ⟨.builtin .min, ⟨[(.const v20_6), (.const (.int .i64 8))]⟩, #[3, 3]⟩) 3 s6 fun v21_7 s7 =>
 I.wop (.binOp .shl 3 (.const (.int .i64 1)) (.const v21_7) 3) 3 s7 fun v22_8 s8 =>
 I.wop (.binOp .eql 3 (.const v18_5) (.const v22_8) 3) 4 s8 fun v23_9 s9 =>
 wdec v23_9
 (I.wop (.load 25 (.const v3_0)) 25 s9 fun v26_10 s10 =>
 veq v26_10 v26_10 = true ∧ I.call 39 [v26_10, a1] s10 fun v28_11 s11 =>
 Keeps [(0, .ptr v3_0)] s10 s11 ∧ wdec v28_11
 (I.wop (.load 25 (.const v3_0)) 25 s11 fun v31_12 s12 =>
 veq v31_12 v31_12 = true ∧ I.call 54 [v31_12, a2] s12 fun v33_13 s13 =>
 Keeps [(0, .ptr v3_0)] s12 s13 ∧ I.call 38 [v12_2, v33_13, (.slice none 0 0)] s13 fun v35_14 s14 =>
 I.wop (.unOp .not 4 (.const v35_14)) 4 s14 fun v36_15 s15 =>
 wdec v36_15
 (I.wop (.build 47 ⟨[(0, (.const (.int .i64 (-1)))), (1, (.const (.int .i64 (-1))))]⟩) 47 s15 fun v37_16 s16 =>
 I.wop (.store 47 (.const v6_1) (.const v37_16)) 0 s16 fun _ s17 =>
 I.wop (.load 47 (.const v6_1)) 47 s17 fun v6_18 _ =>
 I.fin si K v6_18 s17)
 (I.hold (xp I none 88 k32 c32_11 [1, 1] (U undefT [(36, (.bool false)), (36, v36_15), (35, v35_14), (34, v33_13), (30, (.bool true)), (33, v33_13), (30, (.bool true)), (32, a2), (30, (.bool true)), (31, v31_12), (30, (.bool true)), (30, v28_11), (29, v28_11), (25, (.bool true)), (28, v28_11), (25, (.bool true)), (27, a1), (25, (.bool true)), (26, v26_10), (25, (.bool true)), (25, v23_9), (24, v23_9), (16, (.bool true)), (23, v23_9), (16, (.bool true)), (22, v22_8), (16, (.bool true)), (21, v21_7), (16, (.bool true)), (20, v20_6), (16, (.bool true)), (19, a1), (16, (.bool true)), (18, v18_5), (16, (.bool true)), (17, a2), (16, (.bool true)), (16, v15_4), (15, v15_4), (14, v14_3), (13, a1), (12, v12_2), (6, v6_1), (3, v3_0), (0, a0), (1, a1), (2, a2)]) [] [] s15 (xleave I si Tryd.f32.results.toList K))))
 (I.call 38 [v12_2, (.bool false), (.slice none 0 0)] s11 fun v35_19 s19 =>
 I.wop (.unOp .not 4 (.const v35_19)) 4 s19 fun v36_20 s20 =>
 wdec v36_20
 (I.wop (.build 47 ⟨[(0, (.const (.int .i64 (-1)))), (1, (.const (.int .i64 (-1))))]⟩) 47 s20 fun v37_21 s21 =>
 I.wop (.store 47 (.const v6_1) (.const v37_21)) 0 s21 fun _ s22 =>
 I.wop (.load 47 (.const v6_1)) 47 s22 fun v6_23 _ =>
 I.fin si K v6_23 s22)
 (I.hold (xp I none 88 k32 c32_11 [1, 1] (U undefT [(36, (.bool false)), (36, v36_20), (35, v35_19), (34, (.bool false)), (30, (.bool false)), (33, undef), (30, (.bool false)), (32, undef), (30, (.bool false)), (31, undef), (30, (.bool false)), (30, v28_11), (29, v28_11), (25, (.bool true)), (28, v28_11), (25, (.bool true)), (27, a1), (25, (.bool true)), (26, v26_10), (25, (.bool true)), (25, v23_9), (24, v23_9), (16, (.bool true)), (23, v23_9), (16, (.bool true)), (22, v22_8), (16, (.bool true)), (21, v21_7), (16, (.bool true)), (20, v20_6), (16, (.bool true)), (19, a1), (16, (.bool true)), (18, v18_5), (16, (.bool true)), (17, a2), (16, (.bool true)), (16, v15_4), (15, v15_4), (14, v14_3), (13, a1), (12, v12_2), (6, v6_1), (3, v3_0), (0, a0), (1, a1), (2, a2)]) [] [] s20 (xleave I si Tryd.f32.results.toList K)))))
 (I.call 38 [v12_2, (.bool false), (.slice none 0 0)] s9 fun v35_24 s24 =>
 I.wop (.unOp .not 4 (.const v35_24)) 4 s24 fun v36_25 s25 =>
 wdec v36_25
 (I.wop (.build 47 ⟨[(0, (.const (.int .i64 (-1)))), (1, (.const (.int .i64 (-1))))]⟩) 47 s25 fun v37_26 s26 =>
 I.wop (.store 47 (.const v6_1) (.const v37_26)) 0 s26 fun _ s27 =>
 I.wop (.load 47 (.const v6_1)) 47 s27 fun v6_28 _ =>
 I.fin si K v6_28 s27)
 (I.hold (xp I none 88 k32 c32_11 [1, 1] (U undefT [(36, (.bool false)), (36, v36_25), (35, v35_24), (34, (.bool false)), (30, (.bool false)), (33, undef), (30, (.bool false)), (32, undef), (30, (.bool false)), (31, undef), (30, (.bool false)), (30, (.bool false)), (29, (.bool false)), (25, (.bool false)), (28, undef), (25, (.bool false)), (27, undef), (25, (.bool false)), (26, undef), (25, (.bool false)), (25, v23_9), (24, v23_9), (16, (.bool true)), (23, v23_9), (16, (.bool true)), (22, v22_8), (16, (.bool true)), (21, v21_7), (16, (.bool true)), (20, v20_6), (16, (.bool true)), (19, a1), (16, (.bool true)), (18, v18_5), (16, (.bool true)), (17, a2), (16, (.bool true)), (16, v15_4), (15, v15_4), (14, v14_3), (13, a1), (12, v12_2), (6, v6_1), (3, v3_0), (0, a0), (1, a1), (2, a2)]) [] [] s25 (xleave I si Tryd.f32.results.toList K)))))
 (I.call 38 [v12_2, (.bool false), (.slice none 0 0)] s4 fun v35_29 s29 =>
 I.wop (.unOp .not 4 (.const v35_29)) 4 s29 fun v36_30 s30 =>
 wdec v36_30
 (I.wop (.build 47 ⟨[(0, (.const (.int .i64 (-1)))), (1, (.const (.int .i64 (-1))))]⟩) 47 s30 fun v37_31 s31 =>
 I.wop (.store 47 (.const v6_1) (.const v37_31)) 0 s31 fun _ s32 =>
 I.wop (.load 47 (.const v6_1)) 47 s32 fun v6_33 _ =>
 I.fin si K v6_33 s32)
 (I.hold (xp I none 88 k32 c32_11 [1, 1] (U undefT [(36, (.bool false)), (36, v36_30), (35, v35_29), (34, (.bool false)), (30, (.bool false)), (33, undef), (30, (.bool false)), (32, undef), (30, (.bool false)), (31, undef), (30, (.bool false)), (30, (.bool false)), (29, (.bool false)), (25, (.bool false)), (28, undef), (25, (.bool false)), (27, undef), (25, (.bool false)), (26, undef), (25, (.bool false)), (25, (.bool false)), (24, (.bool false)), (16, (.bool false)), (23, undef), (16, (.bool false)), (22, undef), (16, (.bool false)), (21, undef), (16, (.bool false)), (20, undef), (16, (.bool false)), (19, undef), (16, (.bool false)), (18, undef), (16, (.bool false)), (17, undef), (16, (.bool false)), (16, v15_4), (15, v15_4), (14, v14_3), (13, a1), (12, v12_2), (6, v6_1), (3, v3_0), (0, a0), (1, a1), (2, a2)]) [] [] s30 (xleave I si Tryd.f32.results.toList K))))
theorem x32 (I : Prims) (a0 a1 a2 : Value) (si : St) (K : Value → St → Prop) : xbody I 88 k32 Tryd.f32 c32 [a0, a1, a2] si K = v32 I a0 a1 a2 si K := by kernel_rfl
theorem n32 [Memo] (ro : Nat) (a0 a1 a2 : Value) (si : St) (K : Value → St → Prop) : wbody P ro 88 Tryd.f32 c32 [a0, a1, a2] si K = v32 (prims P ro) a0 a1 a2 si K := xbody_eq 88 P ro (x32 _ a0 a1 a2 si K)
theorem r32 (I : Prims) (si : St) (K : Value → St → Prop) (τ : Tau) (ds : List Deferred) (s : St) : xleave I si Tryd.f32.results.toList K .ret τ [] ds s =
 (xdefers I ds s fun s0 =>
 I.wop (.load 47 (.const (τ 6))) 47 s0 fun v6_1 _ =>
 I.fin si K v6_1 s0) := by kernel_rfl
/- attestor/attestorref01.Pow -/
noncomputable def c33 : Code := bodyOf Tryd.f33
def k33 : List (List Nat) := []
theorem b33 : BodyOk P 30 3 33 Tryd.f33 c33 := ⟨Tryd.func33, by kernel_rfl, by kernel_rfl, by kernel_rfl, by kernel_rfl, by kernel_rfl⟩
def v33 (I : Prims) (a0 a1 a2 : Value) (si : St) (K : Value → St → Prop) : Prop :=
 I.call 16 [a0] (ent si) fun v9_0 s0 =>
 I.wop (.unOp .not 4 (.const v9_0)) 4 s0 fun v10_1 s1 =>
 wdec v10_1
 (I.fin si K (.int .u64 0) s1)
 (I.wop (.binOp .eql 24 (.const a2) (.const (.int .u64 0)) 24) 4 s1 fun v12_2 s2 =>
 wdec v12_2
 (I.fin si K (.int .u64 1) s2)
 (I.wop (.binOp .quo 24 (.const a2) (.const (.int .u64 2)) 24) 24 s2 fun v16_3 s3 =>
 I.call 33 [a0, a1, v16_3] s3 fun v17_4 s4 =>
 I.call 72 [a0, v17_4, v17_4] s4 fun v21_5 s5 =>
 I.wop (.binOp .rem 24 (.const a2) (.const (.int .u64 2)) 24) 24 s5 fun v23_6 s6 =>
 I.wop (.binOp .eql 24 (.const v23_6) (.const (.int .u64 1)) 24) 4 s6 fun v24_7 s7 =>
 wdec v24_7
 (I.call 72 [a0, v21_5, a1] s7 fun v28_8 s8 =>
 I.fin si K v28_8 s8)
 (I.fin si K v21_5 s7)))
theorem x33 (I : Prims) (a0 a1 a2 : Value) (si : St) (K : Value → St → Prop) : xbody I 30 k33 Tryd.f33 c33 [a0, a1, a2] si K = v33 I a0 a1 a2 si K := by kernel_rfl
theorem n33 [Memo] (ro : Nat) (a0 a1 a2 : Value) (si : St) (K : Value → St → Prop) : wbody P ro 30 Tryd.f33 c33 [a0, a1, a2] si K = v33 (prims P ro) a0 a1 a2 si K := xbody_eq 30 P ro (x33 _ a0 a1 a2 si K)
/- (*attestor/circuit.Builder).Bit -/
noncomputable def c34 : Code := bodyOf Tryd.f34
def k34 : List (List Nat) := []
theorem b34 : BodyOk P 18 2 34 Tryd.f34 c34 := ⟨Tryd.func34, by kernel_rfl, by kernel_rfl, by kernel_rfl, by kernel_rfl, by kernel_rfl⟩
def v34 (I : Prims) (a0 a1 : Value) (si : St) (K : Value → St → Prop) : Prop :=
 I.wop (.buildSlice 30 1 ⟨[(0, (.const a1))]⟩) 30 (ent si) fun v7_0 s0 =>
 I.call 39 [a0, v7_0] s0 fun v8_1 s1 =>
 I.call 38 [a0, v8_1, (.slice none 0 0)] s1 fun v9_2 s2 =>
 wdec v9_2
 (I.call 44 [a0] s2 fun v14_3 s3 =>
 I.call 63 [a1, a1, (.int .i64 (-1)), v14_3, (.int .u64 0), (.int .u64 1), (.int .u64 0), (.int .u64 0)] s3 fun v15_4 s4 =>
 I.wop (.buildSlice 32 1 ⟨[(0, (.const v15_4))]⟩) 32 s4 fun v16_5 s5 =>
 I.call 62 [a0, (.int .i64 0), v16_5] s5 fun _ s6 =>
 I.fin si K (.tuple (.mk [])) s6)
 (I.fin si K (.tuple (.mk [])) s2)
theorem x34 (I : Prims) (a0 a1 : Value) (si : St) (K : Value → St → Prop) : xbody I 18 k34 Tryd.f34 c34 [a0, a1] si K = v34 I a0 a1 si K := by kernel_rfl
theorem n34 [Memo] (ro : Nat) (a0 a1 : Value) (si : St) (K : Value → St → Prop) : wbody P ro 18 Tryd.f34 c34 [a0, a1] si K = v34 (prims P ro) a0 a1 si K := xbody_eq 18 P ro (x34 _ a0 a1 si K)
/- attestor/field.Valid -/
noncomputable def c37 : Code := bodyOf Tryd.f37
def k37 : List (List Nat) := []
theorem b37 : BodyOk P 9 1 37 Tryd.f37 c37 := ⟨Tryd.func37, by kernel_rfl, by kernel_rfl, by kernel_rfl, by kernel_rfl, by kernel_rfl⟩
def v37 (I : Prims) (a0 : Value) (si : St) (K : Value → St → Prop) : Prop :=
 I.wop (.binOp .geq 3 (.const a0) (.const (.int .i64 0)) 3) 4 (ent si) fun v4_0 s0 =>
 wdec v4_0
 (I.wop (.binOp .lss 3 (.const a0) (.const (.int .i64 4)) 3) 4 s0 fun v7_1 s1 =>
 I.fin si K v7_1 s1)
 (I.fin si K (.bool false) s0)
theorem x37 (I : Prims) (a0 : Value) (si : St) (K : Value → St → Prop) : xbody I 9 k37 Tryd.f37 c37 [a0] si K = v37 I a0 si K := by kernel_rfl
theorem n37 [Memo] (ro : Nat) (a0 : Value) (si : St) (K : Value → St → Prop) : wbody P ro 9 Tryd.f37 c37 [a0] si K = v37 (prims P ro) a0 si K := xbody_eq 9 P ro (x37 _ a0 si K)
/- (*attestor/circuit.Builder).ready -/
noncomputable def c38 : Code := bodyOf Tryd.f38
def k38 : List (List Nat) := []
theorem b38 : BodyOk P 36 3 38 Tryd.f38 c38 := ⟨Tryd.func38, by kernel_rfl, by kernel_rfl, by kernel_rfl, by kernel_rfl, by kernel_rfl⟩
def v38 (I : Prims) (a0 a1 a2 : Value) (si : St) (K : Value → St → Prop) : Prop :=
 I.call 23 [a0] (ent si) fun v8_0 s0 =>
 I.wop (.binOp .neq 26 (.const v8_0) (.const (.int .i64 0)) 26) 4 s0 fun v9_1 s1 =>
 wdec v9_1
 (I.fin si K (.bool false) s1)
 (I.wop (.unOp .not 4 (.const a1)) 4 s1 fun v11_2 s2 =>
 wdec v11_2
 (I.wop (.nilCheck (.const a0)) 0 s2 fun v29_3 s3 =>
 I.wop (.fieldAddr 81 (.const v29_3) 2) 0 s3 fun v30_4 s4 =>
 I.wop (.store 26 (.const v30_4) (.const (.int .i64 1))) 0 s4 fun _ s5 =>
 I.wop (.nilCheck (.const a0)) 0 s5 fun v32_6 s6 =>
 I.wop (.fieldAddr 81 (.const v32_6) 2) 0 s6 fun v33_7 s7 =>
 I.wop (.load 26 (.const v33_7)) 26 s7 fun v34_8 s8 =>
 I.wop (.binOp .eql 26 (.const v34_8) (.const (.int .i64 0)) 26) 4 s8 fun v35_9 s9 =>
 I.fin si K v35_9 s9)
 (I.wop (.call ⟨.builtin .len, ⟨[(.const a2)]⟩, #[23]⟩) 3 s2 fun v14_10 s10 =>
 I.wop (.binOp .gtr 3 (.const v14_10) (.const (.int .i64 0)) 3) 4 s10 fun v15_11 s11 =>
 wdec v15_11
 (I.wop (.nilCheck (.const a0)) 0 s11 fun v20_12 s12 =>
 I.wop (.fieldAddr 81 (.const v20_12) 1) 0 s12 fun v21_13 s13 =>
 I.wop (.fieldAddr 34 (.const v21_13) 0) 0 s13 fun v22_14 s14 =>
 I.wop (.load 3 (.const v22_14)) 3 s14 fun v23_15 s15 =>
 veq v23_15 v23_15 = true ∧ I.call 79 [a2] s15 fun v18_16 s16 =>
 Keeps [(13, .ptr v22_14)] s15 s16 ∧ I.call 80 [v23_15] s16 fun v24_17 s17 =>
 I.wop (.binOp .geq 24 (.const v18_16) (.const v24_17) 24) 4 s17 fun v25_18 s18 =>
 wdec v25_18
 (I.wop (.nilCheck (.const a0)) 0 s18 fun v29_19 s19 =>
 I.wop (.fieldAddr 81 (.const v29_19) 2) 0 s19 fun v30_20 s20 =>
 I.wop (.store 26 (.const v30_20) (.const (.int .i64 1))) 0 s20 fun _ s21 =>
 I.wop (.nilCheck (.const a0)) 0 s21 fun v32_22 s22 =>
 I.wop (.fieldAddr 81 (.const v32_22) 2) 0 s22 fun v33_23 s23 =>
 I.wop (.load 26 (.const v33_23)) 26 s23 fun v34_24 s24 =>
 I.wop (.binOp .eql 26 (.const v34_24) (.const (.int .i64 0)) 26) 4 s24 fun v35_25 s25 =>
 I.fin si K v35_25 s25)
 (I.wop (.nilCheck (.const a0)) 0 s18 fun v32_26 s26 =>
 I.wop (.fieldAddr 81 (.const v32_26) 2) 0 s26 fun v33_27 s27 =>
 I.wop (.load 26 (.const v33_27)) 26 s27 fun v34_28 s28 =>
 I.wop (.binOp .eql 26 (.const v34_28) (.const (.int .i64 0)) 26) 4 s28 fun v35_29 s29 =>
 I.fin si K v35_29 s29))
 (I.wop (.nilCheck (.const a0)) 0 s11 fun v32_30 s30 =>
 I.wop (.fieldAddr 81 (.const v32_30) 2) 0 s30 fun v33_31 s31 =>
 I.wop (.load 26 (.const v33_31)) 26 s31 fun v34_32 s32 =>
 I.wop (.binOp .eql 26 (.const v34_32) (.const (.int .i64 0)) 26) 4 s32 fun v35_33 s33 =>
 I.fin si K v35_33 s33)))
theorem x38 (I : Prims) (a0 a1 a2 : Value) (si : St) (K : Value → St → Prop) : xbody I 36 k38 Tryd.f38 c38 [a0, a1, a2] si K = v38 I a0 a1 a2 si K := by kernel_rfl
theorem n38 [Memo] (ro : Nat) (a0 a1 a2 : Value) (si : St) (K : Value → St → Prop) : wbody P ro 36 Tryd.f38 c38 [a0, a1, a2] si K = v38 (prims P ro) a0 a1 a2 si K := xbody_eq 36 P ro (x38 _ a0 a1 a2 si K)
/- (*attestor/circuit.Builder).known -/
noncomputable def c39 : Code := bodyOf Tryd.f39
def k39 : List (List Nat) := []
theorem b39 : BodyOk P 14 2 39 Tryd.f39 c39 := ⟨Tryd.func39, by kernel_rfl, by kernel_rfl, by kernel_rfl, by kernel_rfl, by kernel_rfl⟩
def v39 (I : Prims) (a0 a1 : Value) (si : St) (K : Value → St → Prop) : Prop :=
 I.wop (.box 25 (.const a0)) 0 (ent si) fun v2_0 s0 =>
 I.wop (.load 25 (.const v2_0)) 25 s0 fun v5_1 s1 =>
 I.call 23 [v5_1] s1 fun v6_2 s2 =>
 I.wop (.binOp .eql 26 (.const v6_2) (.const (.int .i64 0)) 26) 4 s2 fun v7_3 s3 =>
 wdec v7_3
 (I.call 81 [a1, (.func (.func 82) (.mk []) (.mk [v2_0]))] s3 fun v11_4 s4 =>
 I.wop (.unOp .not 4 (.const v11_4)) 4 s4 fun v12_5 s5 =>
 I.fin si K v12_5 s5)
 (I.fin si K (.bool false) s3)
theorem x39 (I : Prims) (a0 a1 : Value) (si : St) (K : Value → St → Prop) : xbody I 14 k39 Tryd.f39 c39 [a0, a1] si K = v39 I a0 a1 si K := by kernel_rfl
theorem n39 [Memo] (ro : Nat) (a0 a1 : Value) (si : St) (K : Value → St → Prop) : wbody P ro 14 Tryd.f39 c39 [a0, a1] si K = v39 (prims P ro) a0 a1 si K := xbody_eq 14 P ro (x39 _ a0 a1 si K)
/- (*attestor/circuit.Builder).whole -/
noncomputable def c40 : Code := bodyOf Tryd.f40
def k40 : List (List Nat) := []
theorem b40 : BodyOk P 17 1 40 Tryd.f40 c40 := ⟨Tryd.func40, by kernel_rfl, by kernel_rfl, by kernel_rfl, by kernel_rfl, by kernel_rfl⟩
def v40 (I : Prims) (a0 : Value) (si : St) (K : Value → St → Prop) : Prop :=
 I.wop (.box 25 (.const a0)) 0 (ent si) fun v1_0 s0 =>
 I.wop (.load 25 (.const v1_0)) 25 s0 fun v5_1 s1 =>
 veq v5_1 v5_1 = true ∧ I.wop (.nilCheck (.const v5_1)) 0 s1 fun v6_2 s2 =>
 I.wop (.fieldAddr 81 (.const v6_2) 1) 0 s2 fun v7_3 s3 =>
 I.wop (.fieldAddr 34 (.const v7_3) 4) 0 s3 fun v8_4 s4 =>
 I.wop (.load 32 (.const v8_4)) 32 s4 fun v9_5 s5 =>
 veq v9_5 v9_5 = true ∧ I.wop (.call ⟨.builtin .len, ⟨[(.const v9_5)]⟩, #[32]⟩) 3 s5 fun v10_6 s6 =>
 I.wop (.load 25 (.const v1_0)) 25 s6 fun v11_7 s7 =>
 veq v11_7 v11_7 = true ∧ I.wop (.nilCheck (.const v11_7)) 0 s7 fun v12_8 s8 =>
 I.wop (.fieldAddr 81 (.const v12_8) 1) 0 s8 fun v13_9 s9 =>
 I.wop (.fieldAddr 34 (.const v13_9) 1) 0 s9 fun v14_10 s10 =>
 I.wop (.load 3 (.const v14_10)) 3 s10 fun v15_11 s11 =>
 veq v15_11 v15_11 = true ∧ I.wop (.alloc 3) 0 s11 fun v3_12 s12 =>
 FreshOk s11 s12 ∧ I.wop (.alloc 3) 0 s12 fun v4_13 s13 =>
 FreshOk s12 s13 ∧ I.wop (.store 3 (.const v3_12) (.const v10_6)) 0 s13 fun _ s14 =>
 Keeps [(10, .ptr v14_10), (6, .ptr v1_0)] s13 s14 ∧ I.wop (.store 3 (.const v4_13) (.const v15_11)) 0 s14 fun _ s15 =>
 s14.n ≤ s15.n ∧ I.fin si K (.func (.func 83) (.mk []) (.mk [v1_0, v3_12, v4_13])) s15
theorem x40 (I : Prims) (a0 : Value) (si : St) (K : Value → St → Prop) : xbody I 17 k40 Tryd.f40 c40 [a0] si K = v40 I a0 si K := by kernel_rfl
theorem n40 [Memo] (ro : Nat) (a0 : Value) (si : St) (K : Value → St → Prop) : wbody P ro 17 Tryd.f40 c40 [a0] si K = v40 (prims P ro) a0 si K := xbody_eq 17 P ro (x40 _ a0 si K)
/- (*attestor/circuit.Builder).Linear -/
noncomputable def c43 : Code := bodyOf Tryd.f43
def k43 : List (List Nat) := []
theorem b43 : BodyOk P 41 6 43 Tryd.f43 c43 := ⟨Tryd.func43, by kernel_rfl, by kernel_rfl, by kernel_rfl, by kernel_rfl, by kernel_rfl⟩
def v43 (I : Prims) (a0 a1 a2 a3 a4 a5 : Value) (si : St) (K : Value → St → Prop) : Prop :=
 I.wop (.buildSlice 30 2 ⟨[(0, (.const a1)), (1, (.const a2))]⟩) 30 (ent si) fun v17_0 s0 =>
 I.call 39 [a0, v17_0] s0 fun v18_1 s1 =>
 I.wop (.buildSlice 23 3 ⟨[(0, (.const a3)), (1, (.const a4)), (2, (.const a5))]⟩) 23 s1 fun v22_2 s2 =>
 I.call 38 [a0, v18_1, v22_2] s2 fun v23_3 s3 =>
 I.wop (.unOp .not 4 (.const v23_3)) 4 s3 fun v24_4 s4 =>
 wdec v24_4
 (I.fin si K (.int .i64 (-1)) s4)
 (I.wop (.nilCheck (.const a0)) 0 s4 fun v29_5 s5 =>
 I.wop (.fieldAddr 81 (.const v29_5) 1) 0 s5 fun v30_6 s6 =>
 I.wop (.fieldAddr 34 (.const v30_6) 1) 0 s6 fun v31_7 s7 =>
 I.wop (.load 3 (.const v31_7)) 3 s7 fun v32_8 s8 =>
 veq v32_8 v32_8 = true ∧ I.call 44 [a0] s8 fun v36_9 s9 =>
 Keeps [(7, .ptr v31_7)] s8 s9 ∧ I.call 63 [a1, a2, v32_8, a3, a4, (.int .u64 0), v36_9, a5] s9 fun v38_10 s10 =>
 s9.n ≤ s10.n ∧ I.wop (.buildSlice 32 1 ⟨[(0, (.const v38_10))]⟩) 32 s10 fun v39_11 s11 =>
 FreshOk s10 s11 ∧ I.call 62 [a0, (.int .i64 1), v39_11] s11 fun v40_12 s12 =>
 s11.n ≤ s12.n ∧ I.fin si K v40_12 s12)
theorem x43 (I : Prims) (a0 a1 a2 a3 a4 a5 : Value) (si : St) (K : Value → St → Prop) : xbody I 41 k43 Tryd.f43 c43 [a0, a1, a2, a3, a4, a5] si K = v43 I a0 a1 a2 a3 a4 a5 si K := by kernel_rfl
theorem n43 [Memo] (ro : Nat) (a0 a1 a2 a3 a4 a5 : Value) (si : St) (K : Value → St → Prop) : wbody P ro 41 Tryd.f43 c43 [a0, a1, a2, a3, a4, a5] si K = v43 (prims P ro) a0 a1 a2 a3 a4 a5 si K := xbody_eq 41 P ro (x43 _ a0 a1 a2 a3 a4 a5 si K)
/- (*attestor/circuit.Builder).minus -/
noncomputable def c44 : Code := bodyOf Tryd.f44
def k44 : List (List Nat) := []
theorem b44 : BodyOk P 10 1 44 Tryd.f44 c44 := ⟨Tryd.func44, by kernel_rfl, by kernel_rfl, by kernel_rfl, by kernel_rfl, by kernel_rfl⟩
def v44 (I : Prims) (a0 : Value) (si : St) (K : Value → St → Prop) : Prop :=
 I.wop (.nilCheck (.const a0)) 0 (ent si) fun v4_0 s0 =>
 I.wop (.fieldAddr 81 (.const v4_0) 1) 0 s0 fun v5_1 s1 =>
 I.wop (.fieldAddr 34 (.const v5_1) 0) 0 s1 fun v6_2 s2 =>
 I.wop (.load 3 (.const v6_2)) 3 s2 fun v7_3 s3 =>
 I.call 80 [v7_3] s3 fun v8_4 s4 =>
 I.wop (.binOp .sub 24 (.const v8_4) (.const (.int .u64 1)) 24) 24 s4 fun v9_5 s5 =>
 I.fin si K v9_5 s5
theorem x44 (I : Prims) (a0 : Value) (si : St) (K : Value → St → Prop) : xbody I 10 k44 Tryd.f44 c44 [a0] si K = v44 I a0 si K := by kernel_rfl
theorem n44 [Memo] (ro : Nat) (a0 : Value) (si : St) (K : Value → St → Prop) : wbody P ro 10 Tryd.f44 c44 [a0] si K = v44 (prims P ro) a0 si K := xbody_eq 10 P ro (x44 _ a0 si K)
/- slices.Clone[[]attestor/api.Gate,attestor/api.Gate] -/
noncomputable def c45 : Code := bodyOf Tryd.f45
def k45 : List (List Nat) := []
theorem b45 : BodyOk P 8 1 45 Tryd.f45 c45 := ⟨Tryd.func45, by kernel_rfl, by kernel_rfl, by kernel_rfl, by kernel_rfl, by kernel_rfl⟩
def v45 (I : Prims) (a0 : Value) (si : St) (K : Value → St → Prop) : Prop :=
 I.wop (.binOp .eql 32 (.const a0) (.const (.slice none 0 0)) 32) 4 (ent si) fun v4_0 s0 =>
 wdec v4_0
 (I.fin si K (.slice none 0 0) s0)
 (I.wop (.buildSlice 32 0 ⟨[]⟩) 32 s0 fun v5_1 s1 =>
 I.wop (.call ⟨.builtin .append, ⟨[(.const v5_1), (.const a0)]⟩, #[32, 32]⟩) 32 s1 fun v7_2 s2 =>
 I.fin si K v7_2 s2)
theorem x45 (I : Prims) (a0 : Value) (si : St) (K : Value → St → Prop) : xbody I 8 k45 Tryd.f45 c45 [a0] si K = v45 I a0 si K := by kernel_rfl
theorem n45 [Memo] (ro : Nat) (a0 : Value) (si : St) (K : Value → St → Prop) : wbody P ro 8 Tryd.f45 c45 [a0] si K = v45 (prims P ro) a0 si K := xbody_eq 8 P ro (x45 _ a0 si K)
/- attestor/attestorref23.Valid -/
noncomputable def c46 : Code := bodyOf Tryd.f46
def k46 : List (List Nat) := []
theorem b46 : BodyOk P 14 1 46 Tryd.f46 c46 := ⟨Tryd.func46, by kernel_rfl, by kernel_rfl, by kernel_rfl, by kernel_rfl, by kernel_rfl⟩
def v46 (I : Prims) (a0 : Value) (si : St) (K : Value → St → Prop) : Prop :=
 I.wop (.box 34 (.const a0)) 0 (ent si) fun v1_0 s0 =>
 I.wop (.load 34 (.const v1_0)) 34 s0 fun v5_1 s1 =>
 I.call 84 [v5_1] s1 fun v6_2 s2 =>
 I.wop (.unOp .not 4 (.const v6_2)) 4 s2 fun v7_3 s3 =>
 wdec v7_3
 (I.fin si K (.bool false) s3)
 (I.wop (.load 34 (.const v1_0)) 34 s3 fun v9_4 s4 =>
 I.call 85 [v9_4] s4 fun v10_5 s5 =>
 I.wop (.extract (.const v10_5) 0) 30 s5 fun _ s6 =>
 I.wop (.extract (.const v10_5) 1) 4 s6 fun v12_7 s7 =>
 I.fin si K v12_7 s7)
theorem x46 (I : Prims) (a0 : Value) (si : St) (K : Value → St → Prop) : xbody I 14 k46 Tryd.f46 c46 [a0] si K = v46 I a0 si K := by kernel_rfl
theorem n46 [Memo] (ro : Nat) (a0 : Value) (si : St) (K : Value → St → Prop) : wbody P ro 14 Tryd.f46 c46 [a0] si K = v46 (prims P ro) a0 si K := xbody_eq 14 P ro (x46 _ a0 si K)
/- attestor/attestorref23.below -/
noncomputable def c47 : Code := bodyOf Tryd.f47
noncomputable def c47_10100 : Code := subCode [1, 0, 1, 0, 0] c47
def k47 : List (List Nat) := []
def k47_10100 : List (List Nat) := []
theorem l47_10100 : ltCode 19 c47_10100 = true := by kernel_rfl
theorem m47_10100 : notMap c47_10100 = true := by kernel_rfl
theorem b47 : BodyOk P 19 2 47 Tryd.f47 c47 := ⟨Tryd.func47, by kernel_rfl, by kernel_rfl, by kernel_rfl, by kernel_rfl, by kernel_rfl⟩
def v47_10100 (I : Prims) (rnd : Option Nat) (τ : Tau) (ds : List Deferred) (s : St) (Q : Ex → WK) : Prop :=
 I.wop (.call ⟨.builtin .len, ⟨[(.const (τ 1))]⟩, #[23]⟩) 3 s fun v8_0 s0 =>
 I.wop (.binOp .lss 3 (.const (τ 5)) (.const v8_0) 3) 4 s0 fun v9_1 s1 =>
 wdec v9_1
 (I.wop (.indexAddr 23 (.const (τ 1)) (.const (τ 5))) 0 s1 fun v14_2 s2 =>
 I.wop (.load 24 (.const v14_2)) 24 s2 fun v15_3 s3 =>
 veq v15_3 v15_3 = true ∧ I.call 14 [(τ 0)] s3 fun v17_4 s4 =>
 Keeps [(3, .ptr v14_2)] s3 s4 ∧ I.wop (.binOp .geq 24 (.const v15_3) (.const v17_4) 24) 4 s4 fun v18_5 s5 =>
 wdec v18_5
 (Q .ret (U τ [(4, (.bool false)), (18, (.bool true)), (18, v18_5), (17, v17_4), (16, (τ 0)), (15, v15_3), (14, v14_2), (13, (τ 5)), (12, (τ 1)), (9, (.bool true)), (9, v9_1), (8, v8_0), (7, (τ 1)), (6, (τ 5))]) ds s5)
 (I.wop (.binOp .add 3 (.const (τ 5)) (.const (.int .i64 1)) 3) 3 s5 fun v11_6 s6 =>
 Q .normal (U τ [(5, v11_6), (11, v11_6), (10, (τ 5)), (18, (.bool false)), (18, v18_5), (17, v17_4), (16, (τ 0)), (15, v15_3), (14, v14_2), (13, (τ 5)), (12, (τ 1)), (9, (.bool true)), (9, v9_1), (8, v8_0), (7, (τ 1)), (6, (τ 5))]) ds s6))
 (Q (.exit 0) (U τ [(9, (.bool false)), (9, v9_1), (8, v8_0), (7, (τ 1)), (6, (τ 5))]) ds s1)
theorem x47_10100 (I : Prims) (rnd : Option Nat) (τ : Tau) (ds : List Deferred) (s : St) (Q : Ex → WK) : xp I rnd 19 k47_10100 c47_10100 [] τ [] ds s (lift Q) = v47_10100 I rnd τ ds s Q := by kernel_rfl
theorem n47_10100 [Memo] (ro : Nat) (rnd : Option Nat) (τ : Tau) (ds : List Deferred) (s : St) (Q : Ex → WK) : wp P ro 19 rnd c47_10100 τ ds s Q = v47_10100 (prims P ro) rnd τ ds s Q := xp_wp rnd 19 P ro (x47_10100 _ rnd τ ds s Q)
def v47 (I : Prims) (a0 a1 : Value) (si : St) (K : Value → St → Prop) : Prop :=
 I.loop 19 none c47_10100 (U undefT [(5, (.int .i64 0)), (4, (.bool false)), (0, a0), (1, a1)]) [] (ent si) (fun τ ds s => ((xleave I si Tryd.f47.results.toList K) .ret) τ [] ds s) [(0, fun _ ds0 s0 =>
 xdefers I ds0 s0 fun s1 =>
 I.fin si K (.bool true) s1)]
theorem x47 (I : Prims) (a0 a1 : Value) (si : St) (K : Value → St → Prop) : xbody I 19 k47 Tryd.f47 c47 [a0, a1] si K = v47 I a0 a1 si K := by kernel_rfl
theorem n47 [Memo] (ro : Nat) (a0 a1 : Value) (si : St) (K : Value → St → Prop) : wbody P ro 19 Tryd.f47 c47 [a0, a1] si K = v47 (prims P ro) a0 a1 si K := xbody_eq 19 P ro (x47 _ a0 a1 si K)
theorem r47 (I : Prims) (si : St) (K : Value → St → Prop) (τ : Tau) (ds : List Deferred) (s : St) : xleave I si Tryd.f47.results.toList K .ret τ [] ds s =
 (xdefers I ds s fun s0 =>
 I.fin si K (τ 4) s0) := by kernel_rfl
/- attestor/attestorref01.Neg -/
noncomputable def c48 : Code := bodyOf Tryd.f48
def k48 : List (List Nat) := []
theorem b48 : BodyOk P 8 2 48 Tryd.f48 c48 := ⟨Tryd.func48, by kernel_rfl, by kernel_rfl, by kernel_rfl, by kernel_rfl, by kernel_rfl⟩
def v48 (I : Prims) (a0 a1 : Value) (si : St) (K : Value → St → Prop) : Prop :=
 I.call 86 [a0, (.int .u64 0), a1] (ent si) fun v7_0 s0 =>
 I.fin si K v7_0 s0
theorem x48 (I : Prims) (a0 a1 : Value) (si : St) (K : Value → St → Prop) : xbody I 8 k48 Tryd.f48 c48 [a0, a1] si K = v48 I a0 a1 si K := by kernel_rfl
theorem n48 [Memo] (ro : Nat) (a0 a1 : Value) (si : St) (K : Value → St → Prop) : wbody P ro 8 Tryd.f48 c48 [a0, a1] si K = v48 (prims P ro) a0 a1 si K := xbody_eq 8 P ro (x48 _ a0 a1 si K)
/- attestor/attestorref01.Div -/
noncomputable def c49 : Code := bodyOf Tryd.f49
def k49 : List (List Nat) := []
theorem b49 : BodyOk P 13 3 49 Tryd.f49 c49 := ⟨Tryd.func49, by kernel_rfl, by kernel_rfl, by kernel_rfl, by kernel_rfl, by kernel_rfl⟩
def v49 (I : Prims) (a0 a1 a2 : Value) (si : St) (K : Value → St → Prop) : Prop :=
 I.call 87 [a0, a2] (ent si) fun v11_0 s0 =>
 I.call 72 [a0, a1, v11_0] s0 fun v12_1 s1 =>
 I.fin si K v12_1 s1
theorem x49 (I : Prims) (a0 a1 a2 : Value) (si : St) (K : Value → St → Prop) : xbody I 13 k49 Tryd.f49 c49 [a0, a1, a2] si K = v49 I a0 a1 a2 si K := by kernel_rfl
theorem n49 [Memo] (ro : Nat) (a0 a1 a2 : Value) (si : St) (K : Value → St → Prop) : wbody P ro 13 Tryd.f49 c49 [a0, a1, a2] si K = v49 (prims P ro) a0 a1 a2 si K := xbody_eq 13 P ro (x49 _ a0 a1 a2 si K)
/- attestor/attestorref23.sum -/
noncomputable def c50 : Code := bodyOf Tryd.f50
noncomputable def c50_111 : Code := subCode [1, 1, 1] c50
noncomputable def c50_1111 : Code := subCode [1, 1, 1, 1] c50
def k50 : List (List Nat) := [[1, 1, 1], [1, 1, 1, 1]]
theorem b50 : BodyOk P 65 3 50 Tryd.f50 c50 := ⟨Tryd.func50, by kernel_rfl, by kernel_rfl, by kernel_rfl, by kernel_rfl, by kernel_rfl⟩
def v50_111 (I : Prims) (τ : Tau) (ds : List Deferred) (s : St) (Q : Ex → XK) : Prop :=
 I.wop (.fieldAddr 94 (.const (τ 4)) 3) 0 s fun v24_0 s0 =>
 I.wop (.load 24 (.const v24_0)) 24 s0 fun v25_1 s1 =>
 I.wop (.binOp .neq 24 (.const v25_1) (.const (.int .u64 0)) 24) 4 s1 fun v26_2 s2 =>
 wdec v26_2
 (I.wop (.fieldAddr 94 (.const (τ 4)) 1) 0 s2 fun v33_3 s3 =>
 I.wop (.indexAddr 53 (.const v33_3) (.const (.int .i64 1))) 0 s3 fun v34_4 s4 =>
 I.wop (.load 3 (.const v34_4)) 3 s4 fun v35_5 s5 =>
 I.wop (.indexAddr 23 (.const (τ 2)) (.const v35_5)) 0 s5 fun v36_6 s6 =>
 I.wop (.load 24 (.const v36_6)) 24 s6 fun v37_7 s7 =>
 I.hold (xp I none 65 k50 c50_1111 [1, 1, 1, 1] (U τ [(8, v37_7), (37, v37_7), (36, v36_6), (35, v35_5), (34, v34_4), (33, v33_3), (32, (τ 2)), (31, (.bool true)), (31, (.bool true)), (27, (.bool true)), (30, undef), (27, (.bool true)), (29, undef), (27, (.bool true)), (28, undef), (27, (.bool true)), (27, v26_2), (26, v26_2), (25, v25_1), (24, v24_0)]) [] ds s7 Q))
 (I.wop (.fieldAddr 94 (.const (τ 4)) 4) 0 s2 fun v28_8 s8 =>
 I.wop (.load 24 (.const v28_8)) 24 s8 fun v29_9 s9 =>
 I.wop (.binOp .neq 24 (.const v29_9) (.const (.int .u64 0)) 24) 4 s9 fun v30_10 s10 =>
 wdec v30_10
 (I.wop (.fieldAddr 94 (.const (τ 4)) 1) 0 s10 fun v33_11 s11 =>
 I.wop (.indexAddr 53 (.const v33_11) (.const (.int .i64 1))) 0 s11 fun v34_12 s12 =>
 I.wop (.load 3 (.const v34_12)) 3 s12 fun v35_13 s13 =>
 I.wop (.indexAddr 23 (.const (τ 2)) (.const v35_13)) 0 s13 fun v36_14 s14 =>
 I.wop (.load 24 (.const v36_14)) 24 s14 fun v37_15 s15 =>
 I.hold (xp I none 65 k50 c50_1111 [1, 1, 1, 1] (U τ [(8, v37_15), (37, v37_15), (36, v36_14), (35, v35_13), (34, v34_12), (33, v33_11), (32, (τ 2)), (31, (.bool true)), (31, v30_10), (27, (.bool false)), (30, v30_10), (27, (.bool false)), (29, v29_9), (27, (.bool false)), (28, v28_8), (27, (.bool false)), (27, v26_2), (26, v26_2), (25, v25_1), (24, v24_0)]) [] ds s15 Q))
 (I.hold (xp I none 65 k50 c50_1111 [1, 1, 1, 1] (U τ [(31, (.bool false)), (31, v30_10), (27, (.bool false)), (30, v30_10), (27, (.bool false)), (29, v29_9), (27, (.bool false)), (28, v28_8), (27, (.bool false)), (27, v26_2), (26, v26_2), (25, v25_1), (24, v24_0)]) [] ds s10 Q)))
theorem n50_111 (I : Prims) (τ : Tau) (ds : List Deferred) (s : St) (Q : Ex → XK) : xp I none 65 k50 c50_111 [1, 1, 1] τ [] ds s Q = v50_111 I τ ds s Q := by kernel_rfl
def v50_1111 (I : Prims) (τ : Tau) (ds : List Deferred) (s : St) (Q : Ex → XK) : Prop :=
 I.wop (.fieldAddr 94 (.const (τ 4)) 2) 0 s fun v40_0 s0 =>
 I.wop (.load 24 (.const v40_0)) 24 s0 fun v41_1 s1 =>
 veq v41_1 v41_1 = true ∧ I.wop (.fieldAddr 94 (.const (τ 4)) 3) 0 s1 fun v45_2 s2 =>
 I.wop (.load 24 (.const v45_2)) 24 s2 fun v46_3 s3 =>
 veq v46_3 v46_3 = true ∧ I.call 72 [(τ 0), v41_1, (τ 7)] s3 fun v43_4 s4 =>
 Keeps [(8, .ptr v45_2)] s3 s4 ∧ I.call 72 [(τ 0), v46_3, (τ 8)] s4 fun v48_5 s5 =>
 I.call 66 [(τ 0), v43_4, v48_5] s5 fun v49_6 s6 =>
 I.wop (.fieldAddr 94 (.const (τ 4)) 4) 0 s6 fun v54_7 s7 =>
 I.wop (.load 24 (.const v54_7)) 24 s7 fun v55_8 s8 =>
 veq v55_8 v55_8 = true ∧ I.wop (.fieldAddr 94 (.const (τ 4)) 6) 0 s8 fun v62_9 s9 =>
 I.wop (.load 24 (.const v62_9)) 24 s9 fun v63_10 s10 =>
 veq v63_10 v63_10 = true ∧ I.call 72 [(τ 0), (τ 7), (τ 8)] s10 fun v59_11 s11 =>
 Keeps [(13, .ptr v62_9), (5, .ptr v54_7)] s10 s11 ∧ I.call 72 [(τ 0), v55_8, v59_11] s11 fun v60_12 s12 =>
 Keeps [(13, .ptr v62_9)] s11 s12 ∧ I.call 66 [(τ 0), v49_6, v60_12] s12 fun v61_13 s13 =>
 Keeps [(13, .ptr v62_9)] s12 s13 ∧ I.call 66 [(τ 0), v61_13, v63_10] s13 fun v64_14 s14 =>
 Q .ret τ [(6, v64_14), (64, v64_14), (61, v61_13), (60, v60_12), (59, v59_11), (63, v63_10), (62, v62_9), (58, (τ 8)), (57, (τ 7)), (56, (τ 0)), (55, v55_8), (54, v54_7), (53, (τ 0)), (52, v49_6), (51, (τ 0)), (50, (τ 0)), (9, v49_6), (49, v49_6), (48, v48_5), (43, v43_4), (47, (τ 8)), (46, v46_3), (45, v45_2), (44, (τ 0)), (42, (τ 7)), (41, v41_1), (40, v40_0), (39, (τ 0)), (38, (τ 0))] ds s14
theorem n50_1111 (I : Prims) (τ : Tau) (ds : List Deferred) (s : St) (Q : Ex → XK) : xp I none 65 k50 c50_1111 [1, 1, 1, 1] τ [] ds s Q = v50_1111 I τ ds s Q := by kernel_rfl
def v50 (I : Prims) (a0 a1 a2 : Value) (si : St) (K : Value → St → Prop) : Prop :=
 I.wop (.box 94 (.const a1)) 0 (ent si) fun v4_0 s0 =>
 I.wop (.fieldAddr 94 (.const v4_0) 2) 0 s0 fun v10_1 s1 =>
 I.wop (.load 24 (.const v10_1)) 24 s1 fun v11_2 s2 =>
 I.wop (.binOp .neq 24 (.const v11_2) (.const (.int .u64 0)) 24) 4 s2 fun v12_3 s3 =>
 wdec v12_3
 (I.wop (.fieldAddr 94 (.const v4_0) 1) 0 s3 fun v19_4 s4 =>
 I.wop (.indexAddr 53 (.const v19_4) (.const (.int .i64 0))) 0 s4 fun v20_5 s5 =>
 I.wop (.load 3 (.const v20_5)) 3 s5 fun v21_6 s6 =>
 I.wop (.indexAddr 23 (.const a2) (.const v21_6)) 0 s6 fun v22_7 s7 =>
 I.wop (.load 24 (.const v22_7)) 24 s7 fun v23_8 s8 =>
 I.hold (xp I none 65 k50 c50_111 [1, 1, 1] (U undefT [(7, v23_8), (23, v23_8), (22, v22_7), (21, v21_6), (20, v20_5), (19, v19_4), (18, a2), (17, (.bool true)), (17, (.bool true)), (13, (.bool true)), (16, undef), (13, (.bool true)), (15, undef), (13, (.bool true)), (14, undef), (13, (.bool true)), (13, v12_3), (12, v12_3), (11, v11_2), (10, v10_1), (8, (.int .u64 0)), (7, (.int .u64 0)), (6, (.int .u64 0)), (4, v4_0), (0, a0), (1, a1), (2, a2)]) [] [] s8 (xleave I si Tryd.f50.results.toList K)))
 (I.wop (.fieldAddr 94 (.const v4_0) 4) 0 s3 fun v14_9 s9 =>
 I.wop (.load 24 (.const v14_9)) 24 s9 fun v15_10 s10 =>
 I.wop (.binOp .neq 24 (.const v15_10) (.const (.int .u64 0)) 24) 4 s10 fun v16_11 s11 =>
 wdec v16_11
 (I.wop (.fieldAddr 94 (.const v4_0) 1) 0 s11 fun v19_12 s12 =>
 I.wop (.indexAddr 53 (.const v19_12) (.const (.int .i64 0))) 0 s12 fun v20_13 s13 =>
 I.wop (.load 3 (.const v20_13)) 3 s13 fun v21_14 s14 =>
 I.wop (.indexAddr 23 (.const a2) (.const v21_14)) 0 s14 fun v22_15 s15 =>
 I.wop (.load 24 (.const v22_15)) 24 s15 fun v23_16 s16 =>
 I.hold (xp I none 65 k50 c50_111 [1, 1, 1] (U undefT [(7, v23_16), (23, v23_16), (22, v22_15), (21, v21_14), (20, v20_13), (19, v19_12), (18, a2), (17, (.bool true)), (17, v16_11), (13, (.bool false)), (16, v16_11), (13, (.bool false)), (15, v15_10), (13, (.bool false)), (14, v14_9), (13, (.bool false)), (13, v12_3), (12, v12_3), (11, v11_2), (10, v10_1), (8, (.int .u64 0)), (7, (.int .u64 0)), (6, (.int .u64 0)), (4, v4_0), (0, a0), (1, a1), (2, a2)]) [] [] s16 (xleave I si Tryd.f50.results.toList K)))
 (I.hold (xp I none 65 k50 c50_111 [1, 1, 1] (U undefT [(17, (.bool false)), (17, v16_11), (13, (.bool false)), (16, v16_11), (13, (.bool false)), (15, v15_10), (13, (.bool false)), (14, v14_9), (13, (.bool false)), (13, v12_3), (12, v12_3), (11, v11_2), (10, v10_1), (8, (.int .u64 0)), (7, (.int .u64 0)), (6, (.int .u64 0)), (4, v4_0), (0, a0), (1, a1), (2, a2)]) [] [] s11 (xleave I si Tryd.f50.results.toList K))))
theorem x50 (I : Prims) (a0 a1 a2 : Value) (si : St) (K : Value → St → Prop) : xbody I 65 k50 Tryd.f50 c50 [a0, a1, a2] si K = v50 I a0 a1 a2 si K := by kernel_rfl
theorem n50 [Memo] (ro : Nat) (a0 a1 a2 : Value) (si : St) (K : Value → St → Prop) : wbody P ro 65 Tryd.f50 c50 [a0, a1, a2] si K = v50 (prims P ro) a0 a1 a2 si K := xbody_eq 65 P ro (x50 _ a0 a1 a2 si K)
theorem r50 (I : Prims) (si : St) (K : Value → St → Prop) (τ : Tau) (ds : List Deferred) (s : St) : xleave I si Tryd.f50.results.toList K .ret τ [] ds s =
 (xdefers I ds s fun s0 =>
 I.fin si K (τ 6) s0) := by kernel_rfl
/- attestor/attestorref23.round -/
noncomputable def c51 : Code := bodyOf Tryd.f51
noncomputable def c51_110100 : Code := subCode [1, 1, 0, 1, 0, 0] c51
def k51 : List (List Nat) := []
def k51_110100 : List (List Nat) := []
theorem l51_110100 : ltCode 27 c51_110100 = true := by kernel_rfl
theorem m51_110100 : notMap c51_110100 = true := by kernel_rfl
theorem b51 : BodyOk P 27 3 51 Tryd.f51 c51 := ⟨Tryd.func51, by kernel_rfl, by kernel_rfl, by kernel_rfl, by kernel_rfl, by kernel_rfl⟩
def v51_110100 (I : Prims) (rnd : Option Nat) (τ : Tau) (ds : List Deferred) (s : St) (Q : Ex → WK) : Prop :=
 I.wop (.binOp .lss 3 (.const (τ 8)) (.const (.int .i64 4)) 3) 4 s fun v10_0 s0 =>
 wdec v10_0
 (I.wop (.fieldAddr 94 (.const (τ 4)) 1) 0 s0 fun v16_1 s1 =>
 I.wop (.indexAddr 53 (.const v16_1) (.const (τ 8))) 0 s1 fun v17_2 s2 =>
 I.wop (.load 3 (.const v17_2)) 3 s2 fun v18_3 s3 =>
 I.wop (.indexAddr 23 (.const (τ 2)) (.const v18_3)) 0 s3 fun v19_4 s4 =>
 I.wop (.load 24 (.const v19_4)) 24 s4 fun v20_5 s5 =>
 I.wop (.indexAddr 58 (.const (τ 7)) (.const (τ 8))) 0 s5 fun v21_6 s6 =>
 I.wop (.store 24 (.const v21_6) (.const v20_5)) 0 s6 fun _ s7 =>
 I.wop (.binOp .add 3 (.const (τ 8)) (.const (.int .i64 1)) 3) 3 s7 fun v12_8 s8 =>
 Q .normal (U τ [(8, v12_8), (12, v12_8), (11, (τ 8)), (21, v21_6), (20, v20_5), (19, v19_4), (18, v18_3), (17, v17_2), (16, v16_1), (15, (τ 8)), (14, (τ 2)), (13, (τ 8)), (10, (.bool true)), (10, v10_0), (9, (τ 8))]) ds s8)
 (Q (.exit 0) (U τ [(10, (.bool false)), (10, v10_0), (9, (τ 8))]) ds s0)
theorem x51_110100 (I : Prims) (rnd : Option Nat) (τ : Tau) (ds : List Deferred) (s : St) (Q : Ex → WK) : xp I rnd 27 k51_110100 c51_110100 [] τ [] ds s (lift Q) = v51_110100 I rnd τ ds s Q := by kernel_rfl
theorem n51_110100 [Memo] (ro : Nat) (rnd : Option Nat) (τ : Tau) (ds : List Deferred) (s : St) (Q : Ex → WK) : wp P ro 27 rnd c51_110100 τ ds s Q = v51_110100 (prims P ro) rnd τ ds s Q := xp_wp rnd 27 P ro (x51_110100 _ rnd τ ds s Q)
def v51 (I : Prims) (a0 a1 a2 : Value) (si : St) (K : Value → St → Prop) : Prop :=
 I.wop (.box 94 (.const a1)) 0 (ent si) fun v4_0 s0 =>
 I.wop (.alloc 58) 0 s0 fun v6_1 s1 =>
 I.wop (.alloc 58) 0 s1 fun v7_2 s2 =>
 I.loop 27 none c51_110100 (U undefT [(8, (.int .i64 0)), (7, v7_2), (6, v6_1), (4, v4_0), (0, a0), (1, a1), (2, a2)]) [] s2 (fun τ ds s => ((xleave I si Tryd.f51.results.toList K) .ret) τ [] ds s) [(0, fun τ3 ds3 s3 =>
 I.wop (.fieldAddr 94 (.const (τ3 4)) 7) 0 s3 fun v23_4 s4 =>
 I.wop (.load 3 (.const v23_4)) 3 s4 fun v24_5 s5 =>
 I.wop (.load 58 (.const (τ3 7))) 58 s5 fun v25_6 s6 =>
 I.call 88 [(τ3 0), v24_5, v25_6] s6 fun v26_7 s7 =>
 I.wop (.store 58 (.const (τ3 6)) (.const v26_7)) 0 s7 fun _ s8 =>
 xdefers I ds3 s8 fun s9 =>
 I.wop (.load 58 (.const (τ3 6))) 58 s9 fun v6_10 _ =>
 I.fin si K v6_10 s9)]
theorem x51 (I : Prims) (a0 a1 a2 : Value) (si : St) (K : Value → St → Prop) : xbody I 27 k51 Tryd.f51 c51 [a0, a1, a2] si K = v51 I a0 a1 a2 si K := by kernel_rfl
theorem n51 [Memo] (ro : Nat) (a0 a1 a2 : Value) (si : St) (K : Value → St → Prop) : wbody P ro 27 Tryd.f51 c51 [a0, a1, a2] si K = v51 (prims P ro) a0 a1 a2 si K := xbody_eq 27 P ro (x51 _ a0 a1 a2 si K)
/- attestor/attestorref23.holds -/
noncomputable def c52 : Code := bodyOf Tryd.f52
noncomputable def c52_110101111101100 : Code := subCode [1, 1, 0, 1, 0, 1, 1, 1, 1, 1, 0, 1, 1, 0, 0] c52
def k52 : List (List Nat) := []
def k52_110101111101100 : List (List Nat) := []
theorem l52_110101111101100 : ltCode 81 c52_110101111101100 = true := by kernel_rfl
theorem m52_110101111101100 : notMap c52_110101111101100 = true := by kernel_rfl
theorem b52 : BodyOk P 81 3 52 Tryd.f52 c52 := ⟨Tryd.func52, by kernel_rfl, by kernel_rfl, by kernel_rfl, by kernel_rfl, by kernel_rfl⟩
def v52_110101111101100 (I : Prims) (rnd : Option Nat) (τ : Tau) (ds : List Deferred) (s : St) (Q : Ex → WK) : Prop :=
 I.wop (.binOp .lss 3 (.const (τ 10)) (.const (.int .i64 4)) 3) 4 s fun v62_0 s0 =>
 wdec v62_0
 (I.wop (.fieldAddr 34 (.const (τ 3)) 4) 0 s0 fun v66_1 s1 =>
 I.wop (.load 32 (.const v66_1)) 32 s1 fun v67_2 s2 =>
 I.wop (.binOp .add 3 (.const (τ 2)) (.const (.int .i64 1)) 3) 3 s2 fun v69_3 s3 =>
 I.wop (.indexAddr 32 (.const v67_2) (.const v69_3)) 0 s3 fun v71_4 s4 =>
 I.wop (.fieldAddr 94 (.const v71_4) 1) 0 s4 fun v72_5 s5 =>
 I.wop (.indexAddr 53 (.const v72_5) (.const (τ 10))) 0 s5 fun v73_6 s6 =>
 I.wop (.load 3 (.const v73_6)) 3 s6 fun v74_7 s7 =>
 I.wop (.indexAddr 23 (.const (τ 1)) (.const v74_7)) 0 s7 fun v75_8 s8 =>
 I.wop (.load 24 (.const v75_8)) 24 s8 fun v76_9 s9 =>
 I.wop (.indexAddr 58 (.const (τ 9)) (.const (τ 10))) 0 s9 fun v78_10 s10 =>
 I.wop (.load 24 (.const v78_10)) 24 s10 fun v79_11 s11 =>
 I.wop (.binOp .neq 24 (.const v76_9) (.const v79_11) 24) 4 s11 fun v80_12 s12 =>
 wdec v80_12
 (Q .ret (U τ [(6, (.bool false)), (80, (.bool true)), (80, v80_12), (79, v79_11), (78, v78_10), (77, (τ 10)), (76, v76_9), (75, v75_8), (74, v74_7), (73, v73_6), (72, v72_5), (71, v71_4), (70, (τ 10)), (69, v69_3), (68, (τ 2)), (67, v67_2), (66, v66_1), (65, (τ 1)), (62, (.bool true)), (62, v62_0), (61, (τ 10))]) ds s12)
 (I.wop (.binOp .add 3 (.const (τ 10)) (.const (.int .i64 1)) 3) 3 s12 fun v64_13 s13 =>
 Q .normal (U τ [(10, v64_13), (64, v64_13), (63, (τ 10)), (80, (.bool false)), (80, v80_12), (79, v79_11), (78, v78_10), (77, (τ 10)), (76, v76_9), (75, v75_8), (74, v74_7), (73, v73_6), (72, v72_5), (71, v71_4), (70, (τ 10)), (69, v69_3), (68, (τ 2)), (67, v67_2), (66, v66_1), (65, (τ 1)), (62, (.bool true)), (62, v62_0), (61, (τ 10))]) ds s13))
 (Q (.exit 1) (U τ [(62, (.bool false)), (62, v62_0), (61, (τ 10))]) ds s0)
theorem x52_110101111101100 (I : Prims) (rnd : Option Nat) (τ : Tau) (ds : List Deferred) (s : St) (Q : Ex → WK) : xp I rnd 81 k52_110101111101100 c52_110101111101100 [] τ [] ds s (lift Q) = v52_110101111101100 I rnd τ ds s Q := by kernel_rfl
theorem n52_110101111101100 [Memo] (ro : Nat) (rnd : Option Nat) (τ : Tau) (ds : List Deferred) (s : St) (Q : Ex → WK) : wp P ro 81 rnd c52_110101111101100 τ ds s Q = v52_110101111101100 (prims P ro) rnd τ ds s Q := xp_wp rnd 81 P ro (x52_110101111101100 _ rnd τ ds s Q)
def v52 (I : Prims) (a0 a1 a2 : Value) (si : St) (K : Value → St → Prop) : Prop :=
 I.wop (.box 34 (.const a0)) 0 (ent si) fun v3_0 s0 =>
 I.wop (.fieldAddr 34 (.const v3_0) 4) 0 s0 fun v11_1 s1 =>
 I.wop (.load 32 (.const v11_1)) 32 s1 fun v12_2 s2 =>
 I.wop (.indexAddr 32 (.const v12_2) (.const a2)) 0 s2 fun v14_3 s3 =>
 I.wop (.load 94 (.const v14_3)) 94 s3 fun v15_4 s4 =>
 I.wop (.alloc 94) 0 s4 fun v7_5 s5 =>
 I.wop (.store 94 (.const v7_5) (.const v15_4)) 0 s5 fun _ s6 =>
 I.wop (.fieldAddr 94 (.const v7_5) 0) 0 s6 fun v16_7 s7 =>
 I.wop (.load 92 (.const v16_7)) 92 s7 fun v17_8 s8 =>
 I.wop (.binOp .eql 92 (.const v17_8) (.const (.int .u8 1)) 92) 4 s8 fun v19_9 s9 =>
 wdec v19_9
 (I.wop (.fieldAddr 34 (.const v3_0) 0) 0 s9 fun v20_10 s10 =>
 I.wop (.load 3 (.const v20_10)) 3 s10 fun v21_11 s11 =>
 I.wop (.load 94 (.const v7_5)) 94 s11 fun v22_12 s12 =>
 I.call 50 [v21_11, v22_12, a1] s12 fun v24_13 s13 =>
 I.wop (.fieldAddr 94 (.const v7_5) 5) 0 s13 fun v25_14 s14 =>
 I.wop (.load 24 (.const v25_14)) 24 s14 fun v26_15 s15 =>
 I.wop (.binOp .neq 24 (.const v26_15) (.const (.int .u64 0)) 24) 4 s15 fun v27_16 s16 =>
 wdec v27_16
 (I.wop (.fieldAddr 34 (.const v3_0) 0) 0 s16 fun v28_17 s17 =>
 I.wop (.load 3 (.const v28_17)) 3 s17 fun v29_18 s18 =>
 veq v29_18 v29_18 = true ∧ I.wop (.fieldAddr 34 (.const v3_0) 0) 0 s18 fun v31_19 s19 =>
 I.wop (.load 3 (.const v31_19)) 3 s19 fun v32_20 s20 =>
 veq v32_20 v32_20 = true ∧ I.wop (.fieldAddr 94 (.const v7_5) 5) 0 s20 fun v33_21 s21 =>
 I.wop (.load 24 (.const v33_21)) 24 s21 fun v34_22 s22 =>
 veq v34_22 v34_22 = true ∧ I.wop (.fieldAddr 94 (.const v7_5) 1) 0 s22 fun v36_23 s23 =>
 I.wop (.indexAddr 53 (.const v36_23) (.const (.int .i64 2))) 0 s23 fun v37_24 s24 =>
 I.wop (.load 3 (.const v37_24)) 3 s24 fun v38_25 s25 =>
 veq v38_25 v38_25 = true ∧ I.wop (.indexAddr 23 (.const a1) (.const v38_25)) 0 s25 fun v39_26 s26 =>
 I.wop (.load 24 (.const v39_26)) 24 s26 fun v40_27 s27 =>
 veq v40_27 v40_27 = true ∧ I.call 72 [v32_20, v34_22, v40_27] s27 fun v41_28 s28 =>
 Keeps [(1, .ptr v28_17)] s27 s28 ∧ I.call 66 [v29_18, v24_13, v41_28] s28 fun v42_29 s29 =>
 I.wop (.binOp .eql 24 (.const v42_29) (.const (.int .u64 0)) 24) 4 s29 fun v44_30 s30 =>
 I.fin si K v44_30 s30)
 (I.wop (.binOp .eql 24 (.const v24_13) (.const (.int .u64 0)) 24) 4 s16 fun v44_31 s31 =>
 I.fin si K v44_31 s31))
 (I.wop (.binOp .eql 92 (.const v17_8) (.const (.int .u8 2)) 92) 4 s9 fun v46_32 s32 =>
 wdec v46_32
 (I.wop (.fieldAddr 94 (.const v7_5) 1) 0 s32 fun v48_33 s33 =>
 I.wop (.indexAddr 53 (.const v48_33) (.const (.int .i64 0))) 0 s33 fun v49_34 s34 =>
 I.wop (.load 3 (.const v49_34)) 3 s34 fun v50_35 s35 =>
 I.wop (.indexAddr 23 (.const a1) (.const v50_35)) 0 s35 fun v51_36 s36 =>
 I.wop (.load 24 (.const v51_36)) 24 s36 fun v52_37 s37 =>
 I.wop (.binOp .lss 24 (.const v52_37) (.const (.int .u64 16)) 24) 4 s37 fun v53_38 s38 =>
 I.fin si K v53_38 s38)
 (I.wop (.binOp .eql 92 (.const v17_8) (.const (.int .u8 3)) 92) 4 s32 fun v55_39 s39 =>
 wdec v55_39
 (I.wop (.fieldAddr 34 (.const v3_0) 0) 0 s39 fun v56_40 s40 =>
 I.wop (.load 3 (.const v56_40)) 3 s40 fun v57_41 s41 =>
 I.wop (.load 94 (.const v7_5)) 94 s41 fun v58_42 s42 =>
 I.call 51 [v57_41, v58_42, a1] s42 fun v60_43 s43 =>
 I.wop (.alloc 58) 0 s43 fun v9_44 s44 =>
 I.wop (.store 58 (.const v9_44) (.const v60_43)) 0 s44 fun _ s45 =>
 I.loop 81 none c52_110101111101100 (U undefT [(10, (.int .i64 0)), (9, v9_44), (60, v60_43), (59, a1), (58, v58_42), (57, v57_41), (56, v56_40), (54, (.bool true)), (54, v55_39), (55, v55_39), (45, (.bool false)), (45, v46_32), (46, v46_32), (18, (.bool false)), (18, v19_9), (19, v19_9), (17, v17_8), (16, v16_7), (7, v7_5), (15, v15_4), (14, v14_3), (13, a2), (12, v12_2), (11, v11_1), (6, (.bool false)), (3, v3_0), (0, a0), (1, a1), (2, a2)]) [] s45 (fun τ ds s => ((xleave I si Tryd.f52.results.toList K) .ret) τ [] ds s) [(1, fun _ ds46 s46 =>
 xdefers I ds46 s46 fun s47 =>
 I.fin si K (.bool true) s47)])
 (I.fin si K (.bool true) s39)))
theorem x52 (I : Prims) (a0 a1 a2 : Value) (si : St) (K : Value → St → Prop) : xbody I 81 k52 Tryd.f52 c52 [a0, a1, a2] si K = v52 I a0 a1 a2 si K := by kernel_rfl
theorem n52 [Memo] (ro : Nat) (a0 a1 a2 : Value) (si : St) (K : Value → St → Prop) : wbody P ro 81 Tryd.f52 c52 [a0, a1, a2] si K = v52 (prims P ro) a0 a1 a2 si K := xbody_eq 81 P ro (x52 _ a0 a1 a2 si K)
theorem r52 (I : Prims) (si : St) (K : Value → St → Prop) (τ : Tau) (ds : List Deferred) (s : St) : xleave I si Tryd.f52.results.toList K .ret τ [] ds s =
 (xdefers I ds s fun s0 =>
 I.fin si K (τ 6) s0) := by kernel_rfl
/- (*attestor/circuit.Builder).pairs -/
noncomputable def c54 : Code := bodyOf Tryd.f54
def k54 : List (List Nat) := []
theorem b54 : BodyOk P 9 2 54 Tryd.f54 c54 := ⟨Tryd.func54, by kernel_rfl, by kernel_rfl, by kernel_rfl, by kernel_rfl, by kernel_rfl⟩
def v54 (I : Prims) (a0 a1 : Value) (si : St) (K : Value → St → Prop) : Prop :=
 I.wop (.box 25 (.const a0)) 0 (ent si) fun v2_0 s0 =>
 I.call 89 [a1, (.func (.func 90) (.mk []) (.mk [v2_0]))] s0 fun v7_1 s1 =>
 I.wop (.unOp .not 4 (.const v7_1)) 4 s1 fun v8_2 s2 =>
 I.fin si K v8_2 s2
theorem x54 (I : Prims) (a0 a1 : Value) (si : St) (K : Value → St → Prop) : xbody I 9 k54 Tryd.f54 c54 [a0, a1] si K = v54 I a0 a1 si K := by kernel_rfl
theorem n54 [Memo] (ro : Nat) (a0 a1 : Value) (si : St) (K : Value → St → Prop) : wbody P ro 9 Tryd.f54 c54 [a0, a1] si K = v54 (prims P ro) a0 a1 si K := xbody_eq 9 P ro (x54 _ a0 a1 si K)
/- (*attestor/circuit.Builder).Select -/
noncomputable def c55 : Code := bodyOf Tryd.f55
def k55 : List (List Nat) := []
theorem b55 : BodyOk P 34 4 55 Tryd.f55 c55 := ⟨Tryd.func55, by kernel_rfl, by kernel_rfl, by kernel_rfl, by kernel_rfl, by kernel_rfl⟩
def v55 (I : Prims) (a0 a1 a2 a3 : Value) (si : St) (K : Value → St → Prop) : Prop :=
 I.wop (.buildSlice 30 3 ⟨[(0, (.const a1)), (1, (.const a2)), (2, (.const a3))]⟩) 30 (ent si) fun v15_0 s0 =>
 I.call 39 [a0, v15_0] s0 fun v16_1 s1 =>
 I.call 38 [a0, v16_1, (.slice none 0 0)] s1 fun v17_2 s2 =>
 I.wop (.unOp .not 4 (.const v17_2)) 4 s2 fun v18_3 s3 =>
 wdec v18_3
 (I.fin si K (.int .i64 (-1)) s3)
 (I.call 40 [a0] s3 fun v20_4 s4 =>
 (none : Option Nat) = none ∧ I.wdefer (.defer ⟨.value (.const v20_4), ⟨[]⟩, #[]⟩) 0 s4 fun d5 s5 =>
 I.call 44 [a0] s5 fun v25_6 s6 =>
 I.call 43 [a0, a2, a3, v25_6, (.int .u64 1), (.int .u64 0)] s6 fun v26_7 s7 =>
 I.call 21 [a0, a1, v26_7] s7 fun v32_8 s8 =>
 I.call 43 [a0, a2, v32_8, (.int .u64 1), (.int .u64 1), (.int .u64 0)] s8 fun v33_9 s9 =>
 xdefers I (d5 :: []) s9 fun s10 =>
 I.fin si K v33_9 s10)
theorem x55 (I : Prims) (a0 a1 a2 a3 : Value) (si : St) (K : Value → St → Prop) : xbody I 34 k55 Tryd.f55 c55 [a0, a1, a2, a3] si K = v55 I a0 a1 a2 a3 si K := by kernel_rfl
theorem n55 [Memo] (ro : Nat) (a0 a1 a2 a3 : Value) (si : St) (K : Value → St → Prop) : wbody P ro 34 Tryd.f55 c55 [a0, a1, a2, a3] si K = v55 (prims P ro) a0 a1 a2 a3 si K := xbody_eq 34 P ro (x55 _ a0 a1 a2 a3 si K)
/- (*attestor/circuit.Builder).pair -/
noncomputable def c57 : Code := bodyOf Tryd.f57
def k57 : List (List Nat) := []
theorem b57 : BodyOk P 16 3 57 Tryd.f57 c57 := ⟨Tryd.func57, by kernel_rfl, by kernel_rfl, by kernel_rfl, by kernel_rfl, by kernel_rfl⟩
def v57 (I : Prims) (a0 a1 a2 : Value) (si : St) (K : Value → St → Prop) : Prop :=
 I.wop (.alloc 47) 0 (ent si) fun v6_0 s0 =>
 I.wop (.nilCheck (.const a0)) 0 s0 fun v8_1 s1 =>
 I.wop (.fieldAddr 81 (.const v8_1) 2) 0 s1 fun v9_2 s2 =>
 I.wop (.load 26 (.const v9_2)) 26 s2 fun v10_3 s3 =>
 I.wop (.binOp .neq 26 (.const v10_3) (.const (.int .i64 0)) 26) 4 s3 fun v11_4 s4 =>
 wdec v11_4
 (I.wop (.build 47 ⟨[(0, (.const (.int .i64 (-1)))), (1, (.const (.int .i64 (-1))))]⟩) 47 s4 fun v12_5 s5 =>
 I.wop (.store 47 (.const v6_0) (.const v12_5)) 0 s5 fun _ s6 =>
 I.wop (.load 47 (.const v6_0)) 47 s6 fun v6_7 _ =>
 I.fin si K v6_7 s6)
 (I.wop (.build 47 ⟨[(0, (.const a1)), (1, (.const a2))]⟩) 47 s4 fun v15_8 s8 =>
 I.wop (.store 47 (.const v6_0) (.const v15_8)) 0 s8 fun _ s9 =>
 I.wop (.load 47 (.const v6_0)) 47 s9 fun v6_10 _ =>
 I.fin si K v6_10 s9)
theorem x57 (I : Prims) (a0 a1 a2 : Value) (si : St) (K : Value → St → Prop) : xbody I 16 k57 Tryd.f57 c57 [a0, a1, a2] si K = v57 I a0 a1 a2 si K := by kernel_rfl
theorem n57 [Memo] (ro : Nat) (a0 a1 a2 : Value) (si : St) (K : Value → St → Prop) : wbody P ro 16 Tryd.f57 c57 [a0, a1, a2] si K = v57 (prims P ro) a0 a1 a2 si K := xbody_eq 16 P ro (x57 _ a0 a1 a2 si K)
/- (*attestor/circuit.Builder).put -/
noncomputable def c62 : Code := bodyOf Tryd.f62
def k62 : List (List Nat) := []
theorem b62 : BodyOk P 63 3 62 Tryd.f62 c62 := ⟨Tryd.func62, by kernel_rfl, by kernel_rfl, by kernel_rfl, by kernel_rfl, by kernel_rfl⟩
def v62 (I : Prims) (a0 a1 a2 : Value) (si : St) (K : Value → St → Prop) : Prop :=
 I.wop (.nilCheck (.const a0)) 0 (ent si) fun v9_0 s0 =>
 I.wop (.fieldAddr 81 (.const v9_0) 2) 0 s0 fun v10_1 s1 =>
 I.wop (.load 26 (.const v10_1)) 26 s1 fun v11_2 s2 =>
 I.wop (.binOp .neq 26 (.const v11_2) (.const (.int .i64 0)) 26) 4 s2 fun v12_3 s3 =>
 wdec v12_3
 (I.fin si K (.int .i64 (-1)) s3)
 (I.wop (.nilCheck (.const a0)) 0 s3 fun v14_4 s4 =>
 I.wop (.fieldAddr 81 (.const v14_4) 1) 0 s4 fun v15_5 s5 =>
 I.wop (.fieldAddr 34 (.const v15_5) 4) 0 s5 fun v16_6 s6 =>
 I.wop (.load 32 (.const v16_6)) 32 s6 fun v17_7 s7 =>
 I.wop (.call ⟨.builtin .len, ⟨[(.const v17_7)]⟩, #[32]⟩) 3 s7 fun v18_8 s8 =>
 I.wop (.call ⟨.builtin .len, ⟨[(.const a2)]⟩, #[32]⟩) 3 s8 fun v20_9 s9 =>
 I.wop (.binOp .add 3 (.const v18_8) (.const v20_9) 3) 3 s9 fun v21_10 s10 =>
 I.wop (.binOp .gtr 3 (.const v21_10) (.const (.int .i64 8000)) 3) 4 s10 fun v22_11 s11 =>
 wdec v22_11
 (I.wop (.nilCheck (.const a0)) 0 s11 fun v34_12 s12 =>
 I.wop (.fieldAddr 81 (.const v34_12) 2) 0 s12 fun v35_13 s13 =>
 I.wop (.store 26 (.const v35_13) (.const (.int .i64 9))) 0 s13 fun _ s14 =>
 I.fin si K (.int .i64 (-1)) s14)
 (I.wop (.nilCheck (.const a0)) 0 s11 fun v25_15 s15 =>
 I.wop (.fieldAddr 81 (.const v25_15) 1) 0 s15 fun v26_16 s16 =>
 I.wop (.fieldAddr 34 (.const v26_16) 1) 0 s16 fun v27_17 s17 =>
 I.wop (.load 3 (.const v27_17)) 3 s17 fun v28_18 s18 =>
 I.wop (.binOp .add 3 (.const v28_18) (.const a1) 3) 3 s18 fun v30_19 s19 =>
 I.wop (.binOp .gtr 3 (.const v30_19) (.const (.int .i64 40000)) 3) 4 s19 fun v31_20 s20 =>
 wdec v31_20
 (I.wop (.nilCheck (.const a0)) 0 s20 fun v34_21 s21 =>
 I.wop (.fieldAddr 81 (.const v34_21) 2) 0 s21 fun v35_22 s22 =>
 I.wop (.store 26 (.const v35_22) (.const (.int .i64 9))) 0 s22 fun _ s23 =>
 I.fin si K (.int .i64 (-1)) s23)
 (I.wop (.nilCheck (.const a0)) 0 s20 fun v37_24 s24 =>
 I.wop (.fieldAddr 81 (.const v37_24) 1) 0 s24 fun v38_25 s25 =>
 I.wop (.fieldAddr 34 (.const v38_25) 1) 0 s25 fun v39_26 s26 =>
 I.wop (.load 3 (.const v39_26)) 3 s26 fun v40_27 s27 =>
 I.wop (.nilCheck (.const a0)) 0 s27 fun v43_28 s28 =>
 I.wop (.fieldAddr 81 (.const v43_28) 1) 0 s28 fun v44_29 s29 =>
 I.wop (.fieldAddr 34 (.const v44_29) 4) 0 s29 fun v45_30 s30 =>
 I.wop (.load 32 (.const v45_30)) 32 s30 fun v46_31 s31 =>
 I.wop (.call ⟨.builtin .append, ⟨[(.const v46_31), (.const a2)]⟩, #[32, 32]⟩) 32 s31 fun v48_32 s32 =>
 I.wop (.nilCheck (.const a0)) 0 s32 fun v49_33 s33 =>
 I.wop (.fieldAddr 81 (.const v49_33) 1) 0 s33 fun v50_34 s34 =>
 I.wop (.fieldAddr 34 (.const v50_34) 4) 0 s34 fun v51_35 s35 =>
 I.wop (.store 32 (.const v51_35) (.const v48_32)) 0 s35 fun _ s36 =>
 I.wop (.nilCheck (.const a0)) 0 s36 fun v53_37 s37 =>
 I.wop (.fieldAddr 81 (.const v53_37) 1) 0 s37 fun v54_38 s38 =>
 I.wop (.fieldAddr 34 (.const v54_38) 1) 0 s38 fun v55_39 s39 =>
 I.wop (.load 3 (.const v55_39)) 3 s39 fun v56_40 s40 =>
 I.wop (.binOp .add 3 (.const v56_40) (.const a1) 3) 3 s40 fun v58_41 s41 =>
 I.wop (.nilCheck (.const a0)) 0 s41 fun v59_42 s42 =>
 I.wop (.fieldAddr 81 (.const v59_42) 1) 0 s42 fun v60_43 s43 =>
 I.wop (.fieldAddr 34 (.const v60_43) 1) 0 s43 fun v61_44 s44 =>
 I.wop (.store 3 (.const v61_44) (.const v58_41)) 0 s44 fun _ s45 =>
 I.fin si K v40_27 s45)))
theorem x62 (I : Prims) (a0 a1 a2 : Value) (si : St) (K : Value → St → Prop) : xbody I 63 k62 Tryd.f62 c62 [a0, a1, a2] si K = v62 I a0 a1 a2 si K := by kernel_rfl
theorem n62 [Memo] (ro : Nat) (a0 a1 a2 : Value) (si : St) (K : Value → St → Prop) : wbody P ro 63 Tryd.f62 c62 [a0, a1, a2] si K = v62 (prims P ro) a0 a1 a2 si K := xbody_eq 63 P ro (x62 _ a0 a1 a2 si K)
/- attestor/circuit.arith -/
noncomputable def c63 : Code := bodyOf Tryd.f63
def k63 : List (List Nat) := []
theorem b63 : BodyOk P 27 8 63 Tryd.f63 c63 := ⟨Tryd.func63, by kernel_rfl, by kernel_rfl, by kernel_rfl, by kernel_rfl, by kernel_rfl⟩
def v63 (I : Prims) (a0 a1 a2 a3 a4 a5 a6 a7 : Value) (si : St) (K : Value → St → Prop) : Prop :=
 I.wop (.alloc 94) 0 (ent si) fun v16_0 s0 =>
 I.wop (.build 53 ⟨[(0, (.const a0)), (1, (.const a1)), (2, (.const a2)), (3, (.const (.int .i64 (-1))))]⟩) 53 s0 fun v20_1 s1 =>
 I.wop (.build 94 ⟨[(0, (.const (.int .u8 1))), (1, (.const v20_1)), (2, (.const a3)), (3, (.const a4)), (4, (.const a5)), (5, (.const a6)), (6, (.const a7))]⟩) 94 s1 fun v26_2 s2 =>
 I.wop (.store 94 (.const v16_0) (.const v26_2)) 0 s2 fun _ s3 =>
 I.wop (.load 94 (.const v16_0)) 94 s3 fun v16_4 _ =>
 I.fin si K v16_4 s3
theorem x63 (I : Prims) (a0 a1 a2 a3 a4 a5 a6 a7 : Value) (si : St) (K : Value → St → Prop) : xbody I 27 k63 Tryd.f63 c63 [a0, a1, a2, a3, a4, a5, a6, a7] si K = v63 I a0 a1 a2 a3 a4 a5 a6 a7 si K := by kernel_rfl
theorem n63 [Memo] (ro : Nat) (a0 a1 a2 a3 a4 a5 a6 a7 : Value) (si : St) (K : Value → St → Prop) : wbody P ro 27 Tryd.f63 c63 [a0, a1, a2, a3, a4, a5, a6, a7] si K = v63 (prims P ro) a0 a1 a2 a3 a4 a5 a6 a7 si K := xbody_eq 27 P ro (x63 _ a0 a1 a2 a3 a4 a5 a6 a7 si K)
/- attestor/field.Add -/
noncomputable def c64 : Code := bodyOf Tryd.f64
def k64 : List (List Nat) := []
theorem b64 : BodyOk P 27 3 64 Tryd.f64 c64 := ⟨Tryd.func64, by kernel_rfl, by kernel_rfl, by kernel_rfl, by kernel_rfl, by kernel_rfl⟩
def v64 (I : Prims) (a0 a1 a2 : Value) (si : St) (K : Value → St → Prop) : Prop :=
 I.call 80 [a0] (ent si) fun v10_0 s0 =>
 I.wop (.binOp .eql 24 (.const v10_0) (.const (.int .u64 0)) 24) 4 s0 fun v12_1 s1 =>
 wdec v12_1
 (I.fin si K (.int .u64 0) s1)
 (I.wop (.binOp .rem 24 (.const a1) (.const v10_0) 24) 24 s1 fun v15_2 s2 =>
 I.wop (.binOp .rem 24 (.const a2) (.const v10_0) 24) 24 s2 fun v18_3 s3 =>
 I.wop (.binOp .add 24 (.const v15_2) (.const v18_3) 24) 24 s3 fun v19_4 s4 =>
 I.wop (.binOp .geq 24 (.const v19_4) (.const v10_0) 24) 4 s4 fun v22_5 s5 =>
 wdec v22_5
 (I.wop (.binOp .sub 24 (.const v19_4) (.const v10_0) 24) 24 s5 fun v25_6 s6 =>
 I.fin si K v25_6 s6)
 (I.fin si K v19_4 s5))
theorem x64 (I : Prims) (a0 a1 a2 : Value) (si : St) (K : Value → St → Prop) : xbody I 27 k64 Tryd.f64 c64 [a0, a1, a2] si K = v64 I a0 a1 a2 si K := by kernel_rfl
theorem n64 [Memo] (ro : Nat) (a0 a1 a2 : Value) (si : St) (K : Value → St → Prop) : wbody P ro 27 Tryd.f64 c64 [a0, a1, a2] si K = v64 (prims P ro) a0 a1 a2 si K := xbody_eq 27 P ro (x64 _ a0 a1 a2 si K)
/- attestor/attestorref01.Add -/
noncomputable def c66 : Code := bodyOf Tryd.f66
def k66 : List (List Nat) := []
theorem b66 : BodyOk P 22 3 66 Tryd.f66 c66 := ⟨Tryd.func66, by kernel_rfl, by kernel_rfl, by kernel_rfl, by kernel_rfl, by kernel_rfl⟩
def v66 (I : Prims) (a0 a1 a2 : Value) (si : St) (K : Value → St → Prop) : Prop :=
 I.call 16 [a0] (ent si) fun v8_0 s0 =>
 I.wop (.unOp .not 4 (.const v8_0)) 4 s0 fun v9_1 s1 =>
 wdec v9_1
 (I.fin si K (.int .u64 0) s1)
 (I.call 14 [a0] s1 fun v12_2 s2 =>
 I.wop (.binOp .rem 24 (.const a1) (.const v12_2) 24) 24 s2 fun v13_3 s3 =>
 I.call 14 [a0] s3 fun v16_4 s4 =>
 I.wop (.binOp .rem 24 (.const a2) (.const v16_4) 24) 24 s4 fun v17_5 s5 =>
 I.wop (.binOp .add 24 (.const v13_3) (.const v17_5) 24) 24 s5 fun v18_6 s6 =>
 I.call 14 [a0] s6 fun v20_7 s7 =>
 I.wop (.binOp .rem 24 (.const v18_6) (.const v20_7) 24) 24 s7 fun v21_8 s8 =>
 I.fin si K v21_8 s8)
theorem x66 (I : Prims) (a0 a1 a2 : Value) (si : St) (K : Value → St → Prop) : xbody I 22 k66 Tryd.f66 c66 [a0, a1, a2] si K = v66 I a0 a1 a2 si K := by kernel_rfl
theorem n66 [Memo] (ro : Nat) (a0 a1 a2 : Value) (si : St) (K : Value → St → Prop) : wbody P ro 22 Tryd.f66 c66 [a0, a1, a2] si K = v66 (prims P ro) a0 a1 a2 si K := xbody_eq 22 P ro (x66 _ a0 a1 a2 si K)
/- slices.Backward[[]int,int] -/
noncomputable def c68 : Code := bodyOf Tryd.f68
def k68 : List (List Nat) := []
theorem b68 : BodyOk P 4 1 68 Tryd.f68 c68 := ⟨Tryd.func68, by kernel_rfl, by kernel_rfl, by kernel_rfl, by kernel_rfl, by kernel_rfl⟩
def v68 (I : Prims) (a0 : Value) (si : St) (K : Value → St → Prop) : Prop :=
 I.wop (.box 30 (.const a0)) 0 (ent si) fun v1_0 s0 =>
 I.fin si K (.func (.func 92) (.mk []) (.mk [v1_0])) s0
theorem x68 (I : Prims) (a0 : Value) (si : St) (K : Value → St → Prop) : xbody I 4 k68 Tryd.f68 c68 [a0] si K = v68 I a0 si K := by kernel_rfl
theorem n68 [Memo] (ro : Nat) (a0 : Value) (si : St) (K : Value → St → Prop) : wbody P ro 4 Tryd.f68 c68 [a0] si K = v68 (prims P ro) a0 si K := xbody_eq 4 P ro (x68 _ a0 si K)
/- attestor/field.Sub -/
noncomputable def c69 : Code := bodyOf Tryd.f69
def k69 : List (List Nat) := []
theorem b69 : BodyOk P 13 3 69 Tryd.f69 c69 := ⟨Tryd.func69, by kernel_rfl, by kernel_rfl, by kernel_rfl, by kernel_rfl, by kernel_rfl⟩
def v69 (I : Prims) (a0 a1 a2 : Value) (si : St) (K : Value → St → Prop) : Prop :=
 I.call 93 [a0, a2] (ent si) fun v11_0 s0 =>
 I.call 64 [a0, a1, v11_0] s0 fun v12_1 s1 =>
 I.fin si K v12_1 s1
theorem x69 (I : Prims) (a0 a1 a2 : Value) (si : St) (K : Value → St → Prop) : xbody I 13 k69 Tryd.f69 c69 [a0, a1, a2] si K = v69 I a0 a1 a2 si K := by kernel_rfl
theorem n69 [Memo] (ro : Nat) (a0 a1 a2 : Value) (si : St) (K : Value → St → Prop) : wbody P ro 13 Tryd.f69 c69 [a0, a1, a2] si K = v69 (prims P ro) a0 a1 a2 si K := xbody_eq 13 P ro (x69 _ a0 a1 a2 si K)
/- attestor/field.Mul -/
noncomputable def c70 : Code := bodyOf Tryd.f70
def k70 : List (List Nat) := []
theorem b70 : BodyOk P 21 3 70 Tryd.f70 c70 := ⟨Tryd.func70, by kernel_rfl, by kernel_rfl, by kernel_rfl, by kernel_rfl, by kernel_rfl⟩
def v70 (I : Prims) (a0 a1 a2 : Value) (si : St) (K : Value → St → Prop) : Prop :=
 I.call 80 [a0] (ent si) fun v9_0 s0 =>
 I.wop (.binOp .eql 24 (.const v9_0) (.const (.int .u64 0)) 24) 4 s0 fun v11_1 s1 =>
 wdec v11_1
 (I.fin si K (.int .u64 0) s1)
 (I.wop (.binOp .rem 24 (.const a1) (.const v9_0) 24) 24 s1 fun v14_2 s2 =>
 I.wop (.binOp .rem 24 (.const a2) (.const v9_0) 24) 24 s2 fun v17_3 s3 =>
 I.wop (.binOp .mul 24 (.const v14_2) (.const v17_3) 24) 24 s3 fun v18_4 s4 =>
 I.wop (.binOp .rem 24 (.const v18_4) (.const v9_0) 24) 24 s4 fun v20_5 s5 =>
 I.fin si K v20_5 s5)
theorem x70 (I : Prims) (a0 a1 a2 : Value) (si : St) (K : Value → St → Prop) : xbody I 21 k70 Tryd.f70 c70 [a0, a1, a2] si K = v70 I a0 a1 a2 si K := by kernel_rfl
theorem n70 [Memo] (ro : Nat) (a0 a1 a2 : Value) (si : St) (K : Value → St → Prop) : wbody P ro 21 Tryd.f70 c70 [a0, a1, a2] si K = v70 (prims P ro) a0 a1 a2 si K := xbody_eq 21 P ro (x70 _ a0 a1 a2 si K)
/- slices.Chunk[[][2]int,[2]int] -/
noncomputable def c71 : Code := bodyOf Tryd.f71
def k71 : List (List Nat) := []
theorem b71 : BodyOk P 9 2 71 Tryd.f71 c71 := ⟨Tryd.func71, by kernel_rfl, by kernel_rfl, by kernel_rfl, by kernel_rfl, by kernel_rfl⟩
def v71 (I : Prims) (a0 a1 : Value) (si : St) (K : Value → St → Prop) : Prop :=
 I.wop (.box 46 (.const a0)) 0 (ent si) fun v2_0 s0 =>
 I.wop (.box 3 (.const a1)) 0 s0 fun v3_1 s1 =>
 I.wop (.load 3 (.const v3_1)) 3 s1 fun v5_2 s2 =>
 I.wop (.binOp .lss 3 (.const v5_2) (.const (.int .i64 1)) 3) 4 s2 fun v6_3 s3 =>
 wdec v6_3
 (I.wop (.makeInterface 9 (.const (.string (ByteArray.mk #[99, 97, 110, 110, 111, 116, 32, 98, 101, 32, 108, 101, 115, 115, 32, 116, 104, 97, 110, 32, 49])))) 20 s3 fun _ s4 =>
 I.wop (.panic (.tmp 7)) 0 s4 fun _ s5 =>
 I.fin si K (.func (.func 94) (.mk []) (.mk [v2_0, v3_1])) s5)
 (I.fin si K (.func (.func 94) (.mk []) (.mk [v2_0, v3_1])) s3)
theorem x71 (I : Prims) (a0 a1 : Value) (si : St) (K : Value → St → Prop) : xbody I 9 k71 Tryd.f71 c71 [a0, a1] si K = v71 I a0 a1 si K := by kernel_rfl
theorem n71 [Memo] (ro : Nat) (a0 a1 : Value) (si : St) (K : Value → St → Prop) : wbody P ro 9 Tryd.f71 c71 [a0, a1] si K = v71 (prims P ro) a0 a1 si K := xbody_eq 9 P ro (x71 _ a0 a1 si K)
/- attestor/attestorref01.Mul -/
noncomputable def c72 : Code := bodyOf Tryd.f72
def k72 : List (List Nat) := []
theorem b72 : BodyOk P 22 3 72 Tryd.f72 c72 := ⟨Tryd.func72, by kernel_rfl, by kernel_rfl, by kernel_rfl, by kernel_rfl, by kernel_rfl⟩
def v72 (I : Prims) (a0 a1 a2 : Value) (si : St) (K : Value → St → Prop) : Prop :=
 I.call 16 [a0] (ent si) fun v8_0 s0 =>
 I.wop (.unOp .not 4 (.const v8_0)) 4 s0 fun v9_1 s1 =>
 wdec v9_1
 (I.fin si K (.int .u64 0) s1)
 (I.call 14 [a0] s1 fun v12_2 s2 =>
 I.wop (.binOp .rem 24 (.const a1) (.const v12_2) 24) 24 s2 fun v13_3 s3 =>
 I.call 14 [a0] s3 fun v16_4 s4 =>
 I.wop (.binOp .rem 24 (.const a2) (.const v16_4) 24) 24 s4 fun v17_5 s5 =>
 I.wop (.binOp .mul 24 (.const v13_3) (.const v17_5) 24) 24 s5 fun v18_6 s6 =>
 I.call 14 [a0] s6 fun v20_7 s7 =>
 I.wop (.binOp .rem 24 (.const v18_6) (.const v20_7) 24) 24 s7 fun v21_8 s8 =>
 I.fin si K v21_8 s8)
theorem x72 (I : Prims) (a0 a1 a2 : Value) (si : St) (K : Value → St → Prop) : xbody I 22 k72 Tryd.f72 c72 [a0, a1, a2] si K = v72 I a0 a1 a2 si K := by kernel_rfl
theorem n72 [Memo] (ro : Nat) (a0 a1 a2 : Value) (si : St) (K : Value → St → Prop) : wbody P ro 22 Tryd.f72 c72 [a0, a1, a2] si K = v72 (prims P ro) a0 a1 a2 si K := xbody_eq 22 P ro (x72 _ a0 a1 a2 si K)
/- slices.Max[[]uint64,uint64] -/
noncomputable def c79 : Code := bodyOf Tryd.f79
noncomputable def c79_11 : Code := subCode [1, 1] c79
noncomputable def c79_1110100 : Code := subCode [1, 1, 1, 0, 1, 0, 0] c79
def k79 : List (List Nat) := [[1, 1]]
def k79_1110100 : List (List Nat) := []
theorem l79_1110100 : ltCode 25 c79_1110100 = true := by kernel_rfl
theorem m79_1110100 : notMap c79_1110100 = true := by kernel_rfl
theorem b79 : BodyOk P 25 1 79 Tryd.f79 c79 := ⟨Tryd.func79, by kernel_rfl, by kernel_rfl, by kernel_rfl, by kernel_rfl, by kernel_rfl⟩
def v79_11 (I : Prims) (τ : Tau) (ds : List Deferred) (s : St) (Q : Ex → XK) : Prop :=
 I.wop (.indexAddr 23 (.const (τ 0)) (.const (.int .i64 0))) 0 s fun v10_0 s0 =>
 I.wop (.load 24 (.const v10_0)) 24 s0 fun v11_1 s1 =>
 I.loop 25 none c79_1110100 (U τ [(4, (.int .i64 1)), (3, v11_1), (11, v11_1), (10, v10_0), (9, (τ 0))]) ds s1 (fun τ ds s => (Q .ret) τ [] ds s) [(0, fun τ2 ds2 s2 =>
 Q .ret τ2 [(2, (τ2 3)), (24, (τ2 3))] ds2 s2)]
theorem n79_11 (I : Prims) (τ : Tau) (ds : List Deferred) (s : St) (Q : Ex → XK) : xp I none 25 k79 c79_11 [1, 1] τ [] ds s Q = v79_11 I τ ds s Q := by kernel_rfl
def v79_1110100 (I : Prims) (rnd : Option Nat) (τ : Tau) (ds : List Deferred) (s : St) (Q : Ex → WK) : Prop :=
 I.wop (.call ⟨.builtin .len, ⟨[(.const (τ 0))]⟩, #[23]⟩) 3 s fun v14_0 s0 =>
 I.wop (.binOp .lss 3 (.const (τ 4)) (.const v14_0) 3) 4 s0 fun v15_1 s1 =>
 wdec v15_1
 (I.wop (.indexAddr 23 (.const (τ 0)) (.const (τ 4))) 0 s1 fun v21_2 s2 =>
 I.wop (.load 24 (.const v21_2)) 24 s2 fun v22_3 s3 =>
 I.wop (.call ⟨.builtin .max, ⟨[(.const (τ 3)), (.const v22_3)]⟩, #[24, 24]⟩) 24 s3 fun v23_4 s4 =>
 I.wop (.binOp .add 3 (.const (τ 4)) (.const (.int .i64 1)) 3) 3 s4 fun v17_5 s5 =>
 Q .normal (U τ [(4, v17_5), (17, v17_5), (16, (τ 4)), (3, v23_4), (23, v23_4), (22, v22_3), (21, v21_2), (20, (τ 4)), (19, (τ 0)), (18, (τ 3)), (15, (.bool true)), (15, v15_1), (14, v14_0), (13, (τ 0)), (12, (τ 4))]) ds s5)
 (Q (.exit 0) (U τ [(15, (.bool false)), (15, v15_1), (14, v14_0), (13, (τ 0)), (12, (τ 4))]) ds s1)
theorem x79_1110100 (I : Prims) (rnd : Option Nat) (τ : Tau) (ds : List Deferred) (s : St) (Q : Ex → WK) : xp I rnd 25 k79_1110100 c79_1110100 [] τ [] ds s (lift Q) = v79_1110100 I rnd τ ds s Q := by kernel_rfl
theorem n79_1110100 [Memo] (ro : Nat) (rnd : Option Nat) (τ : Tau) (ds : List Deferred) (s : St) (Q : Ex → WK) : wp P ro 25 rnd c79_1110100 τ ds s Q = v79_1110100 (prims P ro) rnd τ ds s Q := xp_wp rnd 25 P ro (x79_1110100 _ rnd τ ds s Q)
def v79 (I : Prims) (a0 : Value) (si : St) (K : Value → St → Prop) : Prop :=
 I.wop (.call ⟨.builtin .len, ⟨[(.const a0)]⟩, #[23]⟩) 3 (ent si) fun v6_0 s0 =>
 I.wop (.binOp .lss 3 (.const v6_0) (.const (.int .i64 1)) 3) 4 s0 fun v7_1 s1 =>
 wdec v7_1
 (I.wop (.makeInterface 9 (.const (.string (ByteArray.mk #[115, 108, 105, 99, 101, 115, 46, 77, 97, 120, 58, 32, 101, 109, 112, 116, 121, 32, 108, 105, 115, 116])))) 20 s1 fun v8_2 s2 =>
 I.wop (.panic (.tmp 8)) 0 s2 fun _ s3 =>
 I.hold (xp I none 25 k79 c79_11 [1, 1] (U undefT [(8, v8_2), (7, (.bool true)), (7, v7_1), (6, v6_0), (5, a0), (2, (.int .u64 0)), (0, a0)]) [] [] s3 (xleave I si Tryd.f79.results.toList K)))
 (I.hold (xp I none 25 k79 c79_11 [1, 1] (U undefT [(7, (.bool false)), (7, v7_1), (6, v6_0), (5, a0), (2, (.int .u64 0)), (0, a0)]) [] [] s1 (xleave I si Tryd.f79.results.toList K)))
theorem x79 (I : Prims) (a0 : Value) (si : St) (K : Value → St → Prop) : xbody I 25 k79 Tryd.f79 c79 [a0] si K = v79 I a0 si K := by kernel_rfl
theorem n79 [Memo] (ro : Nat) (a0 : Value) (si : St) (K : Value → St → Prop) : wbody P ro 25 Tryd.f79 c79 [a0] si K = v79 (prims P ro) a0 si K := xbody_eq 25 P ro (x79 _ a0 si K)
theorem r79 (I : Prims) (si : St) (K : Value → St → Prop) (τ : Tau) (ds : List Deferred) (s : St) : xleave I si Tryd.f79.results.toList K .ret τ [] ds s =
 (xdefers I ds s fun s0 =>
 I.fin si K (τ 2) s0) := by kernel_rfl
/- attestor/field.P -/
noncomputable def c80 : Code := bodyOf Tryd.f80
def k80 : List (List Nat) := []
theorem b80 : BodyOk P 6 1 80 Tryd.f80 c80 := ⟨Tryd.func80, by kernel_rfl, by kernel_rfl, by kernel_rfl, by kernel_rfl, by kernel_rfl⟩
def v80 (I : Prims) (a0 : Value) (si : St) (K : Value → St → Prop) : Prop :=
 I.call 95 [a0] (ent si) fun v4_0 s0 =>
 I.wop (.field 140 (.const v4_0) 0) 24 s0 fun v5_1 s1 =>
 I.fin si K v5_1 s1
theorem x80 (I : Prims) (a0 : Value) (si : St) (K : Value → St → Prop) : xbody I 6 k80 Tryd.f80 c80 [a0] si K = v80 I a0 si K := by kernel_rfl
theorem n80 [Memo] (ro : Nat) (a0 : Value) (si : St) (K : Value → St → Prop) : wbody P ro 6 Tryd.f80 c80 [a0] si K = v80 (prims P ro) a0 si K := xbody_eq 6 P ro (x80 _ a0 si K)
/- slices.ContainsFunc[[]int,int] -/
noncomputable def c81 : Code := bodyOf Tryd.f81
def k81 : List (List Nat) := []
theorem b81 : BodyOk P 9 2 81 Tryd.f81 c81 := ⟨Tryd.func81, by kernel_rfl, by kernel_rfl, by kernel_rfl, by kernel_rfl, by kernel_rfl⟩
def v81 (I : Prims) (a0 a1 : Value) (si : St) (K : Value → St → Prop) : Prop :=
 I.call 96 [a0, a1] (ent si) fun v7_0 s0 =>
 I.wop (.binOp .geq 3 (.const v7_0) (.const (.int .i64 0)) 3) 4 s0 fun v8_1 s1 =>
 I.fin si K v8_1 s1
theorem x81 (I : Prims) (a0 a1 : Value) (si : St) (K : Value → St → Prop) : xbody I 9 k81 Tryd.f81 c81 [a0, a1] si K = v81 I a0 a1 si K := by kernel_rfl
theorem n81 [Memo] (ro : Nat) (a0 a1 : Value) (si : St) (K : Value → St → Prop) : wbody P ro 9 Tryd.f81 c81 [a0, a1] si K = v81 (prims P ro) a0 a1 si K := xbody_eq 9 P ro (x81 _ a0 a1 si K)
/- (*attestor/circuit.Builder).known$1 -/
noncomputable def c82 : Code := bodyOf Tryd.f82
def k82 : List (List Nat) := []
theorem b82 : BodyOk P 15 2 82 Tryd.f82 c82 := ⟨Tryd.func82, by kernel_rfl, by kernel_rfl, by kernel_rfl, by kernel_rfl, by kernel_rfl⟩
def v82 (I : Prims) (a0 a1 : Value) (si : St) (K : Value → St → Prop) : Prop :=
 I.wop (.binOp .lss 3 (.const a0) (.const (.int .i64 0)) 3) 4 (ent si) fun v5_0 s0 =>
 wdec v5_0
 (I.fin si K (.bool true) s0)
 (I.wop (.load 25 (.const a1)) 25 s0 fun v8_1 s1 =>
 I.wop (.nilCheck (.const v8_1)) 0 s1 fun v9_2 s2 =>
 I.wop (.fieldAddr 81 (.const v9_2) 1) 0 s2 fun v10_3 s3 =>
 I.wop (.fieldAddr 34 (.const v10_3) 1) 0 s3 fun v11_4 s4 =>
 I.wop (.load 3 (.const v11_4)) 3 s4 fun v12_5 s5 =>
 I.wop (.binOp .geq 3 (.const a0) (.const v12_5) 3) 4 s5 fun v13_6 s6 =>
 I.fin si K v13_6 s6)
theorem x82 (I : Prims) (a0 a1 : Value) (si : St) (K : Value → St → Prop) : xbody I 15 k82 Tryd.f82 c82 [a0, a1] si K = v82 I a0 a1 si K := by kernel_rfl
theorem n82 [Memo] (ro : Nat) (a0 a1 : Value) (si : St) (K : Value → St → Prop) : wbody P ro 15 Tryd.f82 c82 [a0, a1] si K = v82 (prims P ro) a0 a1 si K := xbody_eq 15 P ro (x82 _ a0 a1 si K)
/- (*attestor/circuit.Builder).whole$1 -/
noncomputable def c83 : Code := bodyOf Tryd.f83
def k83 : List (List Nat) := []
theorem b83 : BodyOk P 24 3 83 Tryd.f83 c83 := ⟨Tryd.func83, by kernel_rfl, by kernel_rfl, by kernel_rfl, by kernel_rfl, by kernel_rfl⟩
def d83 (I : Prims) (rnd : Option Nat) (τ : Tau) (ds : List Deferred) (s : St) (Q : Ex → WK) : Prop :=
 I.wop (.load 25 (.const (τ 0))) 25 s fun v3_0 s0 =>
 I.wop (.nilCheck (.const v3_0)) 0 s0 fun v4_1 s1 =>
 I.wop (.fieldAddr 81 (.const v4_1) 2) 0 s1 fun v5_2 s2 =>
 I.wop (.load 26 (.const v5_2)) 26 s2 fun v6_3 s3 =>
 I.wop (.binOp .neq 26 (.const v6_3) (.const (.int .i64 0)) 26) 4 s3 fun v7_4 s4 =>
 wdec v7_4
 (I.wop (.load 25 (.const (τ 0))) 25 s4 fun v8_5 s5 =>
 veq v8_5 v8_5 = true ∧ I.wop (.load 25 (.const (τ 0))) 25 s5 fun v9_6 s6 =>
 veq v9_6 v9_6 = true ∧ I.wop (.nilCheck (.const v9_6)) 0 s6 fun v10_7 s7 =>
 I.wop (.fieldAddr 81 (.const v10_7) 1) 0 s7 fun v11_8 s8 =>
 I.wop (.fieldAddr 34 (.const v11_8) 4) 0 s8 fun v12_9 s9 =>
 I.wop (.load 32 (.const v12_9)) 32 s9 fun v13_10 s10 =>
 veq v13_10 v13_10 = true ∧ I.wop (.load 3 (.const (τ 1))) 3 s10 fun v14_11 s11 =>
 veq v14_11 v14_11 = true ∧ I.wop (.slice 32 (.const v13_10) none (some (.const v14_11)) none) 32 s11 fun v15_12 s12 =>
 I.wop (.nilCheck (.const v8_5)) 0 s12 fun v16_13 s13 =>
 I.wop (.fieldAddr 81 (.const v16_13) 1) 0 s13 fun v17_14 s14 =>
 I.wop (.fieldAddr 34 (.const v17_14) 4) 0 s14 fun v18_15 s15 =>
 I.wop (.store 32 (.const v18_15) (.const v15_12)) 0 s15 fun _ s16 =>
 I.wop (.load 25 (.const (τ 0))) 25 s16 fun v19_17 s17 =>
 I.wop (.load 3 (.const (τ 2))) 3 s17 fun v20_18 s18 =>
 I.wop (.nilCheck (.const v19_17)) 0 s18 fun v21_19 s19 =>
 I.wop (.fieldAddr 81 (.const v21_19) 1) 0 s19 fun v22_20 s20 =>
 I.wop (.fieldAddr 34 (.const v22_20) 1) 0 s20 fun v23_21 s21 =>
 I.wop (.store 3 (.const v23_21) (.const v20_18)) 0 s21 fun _ s22 =>
 Q .normal (U τ [(23, v23_21), (22, v22_20), (21, v21_19), (20, v20_18), (19, v19_17), (18, v18_15), (17, v17_14), (16, v16_13), (15, v15_12), (14, v14_11), (13, v13_10), (12, v12_9), (11, v11_8), (10, v10_7), (9, v9_6), (8, v8_5), (7, (.bool true)), (7, v7_4), (6, v6_3), (5, v5_2), (4, v4_1), (3, v3_0)]) ds s22)
 (Q .normal (U τ [(7, (.bool false)), (7, v7_4), (6, v6_3), (5, v5_2), (4, v4_1), (3, v3_0)]) ds s4)
theorem e83 (I : Prims) (rnd : Option Nat) (τ : Tau) (ds : List Deferred) (s : St) (Q : Ex → WK) : xp I rnd 24 k83 c83 [] τ [] ds s (lift Q) = d83 I rnd τ ds s Q := by kernel_rfl
theorem g83 [Memo] (ro : Nat) (rnd : Option Nat) (τ : Tau) (ds : List Deferred) (s : St) (Q : Ex → WK) : wp P ro 24 rnd c83 τ ds s Q = d83 (prims P ro) rnd τ ds s Q := xp_wp rnd 24 P ro (e83 _ rnd τ ds s Q)
/- attestor/attestorref23.limits -/
noncomputable def c84 : Code := bodyOf Tryd.f84
noncomputable def c84_110100 : Code := subCode [1, 1, 0, 1, 0, 0] c84
noncomputable def c84_110100100111100 : Code := subCode [1, 1, 0, 1, 0, 0, 1, 0, 0, 1, 1, 1, 1, 0, 0] c84
def k84 : List (List Nat) := []
def k84_110100 : List (List Nat) := []
theorem l84_110100 : ltCode 92 c84_110100 = true := by kernel_rfl
theorem m84_110100 : notMap c84_110100 = true := by kernel_rfl
def k84_110100100111100 : List (List Nat) := []
theorem l84_110100100111100 : ltCode 92 c84_110100100111100 = true := by kernel_rfl
theorem m84_110100100111100 : notMap c84_110100100111100 = true := by kernel_rfl
theorem b84 : BodyOk P 92 1 84 Tryd.f84 c84 := ⟨Tryd.func84, by kernel_rfl, by kernel_rfl, by kernel_rfl, by kernel_rfl, by kernel_rfl⟩
def v84_110100 (I : Prims) (rnd : Option Nat) (τ : Tau) (ds : List Deferred) (s : St) (Q : Ex → WK) : Prop :=
 I.wop (.fieldAddr 34 (.const (τ 1)) 4) 0 s fun v51_0 s0 =>
 I.wop (.load 32 (.const v51_0)) 32 s0 fun v52_1 s1 =>
 I.wop (.call ⟨.builtin .len, ⟨[(.const v52_1)]⟩, #[32]⟩) 3 s1 fun v53_2 s2 =>
 I.wop (.binOp .lss 3 (.const (τ 3)) (.const v53_2) 3) 4 s2 fun v54_3 s3 =>
 wdec v54_3
 (I.wop (.load 34 (.const (τ 1))) 34 s3 fun v57_4 s4 =>
 veq v57_4 v57_4 = true ∧ I.wop (.fieldAddr 34 (.const (τ 1)) 4) 0 s4 fun v58_5 s5 =>
 I.wop (.load 32 (.const v58_5)) 32 s5 fun v59_6 s6 =>
 veq v59_6 v59_6 = true ∧ I.wop (.indexAddr 32 (.const v59_6) (.const (τ 3))) 0 s6 fun v61_7 s7 =>
 I.wop (.load 94 (.const v61_7)) 94 s7 fun v62_8 s8 =>
 veq v62_8 v62_8 = true ∧ I.call 97 [v57_4, v62_8] s8 fun v63_9 s9 =>
 I.wop (.unOp .not 4 (.const v63_9)) 4 s9 fun v64_10 s10 =>
 wdec v64_10
 (Q .ret (U τ [(2, (.bool false)), (64, (.bool true)), (64, v64_10), (63, v63_9), (62, v62_8), (61, v61_7), (60, (τ 3)), (59, v59_6), (58, v58_5), (57, v57_4), (54, (.bool true)), (54, v54_3), (53, v53_2), (52, v52_1), (51, v51_0), (50, (τ 3))]) ds s10)
 (I.wop (.fieldAddr 34 (.const (τ 1)) 4) 0 s10 fun v65_11 s11 =>
 I.wop (.load 32 (.const v65_11)) 32 s11 fun v66_12 s12 =>
 I.wop (.indexAddr 32 (.const v66_12) (.const (τ 3))) 0 s12 fun v68_13 s13 =>
 I.wop (.fieldAddr 94 (.const v68_13) 0) 0 s13 fun v69_14 s14 =>
 I.wop (.load 92 (.const v69_14)) 92 s14 fun v70_15 s15 =>
 I.wop (.binOp .neq 92 (.const v70_15) (.const (.int .u8 3)) 92) 4 s15 fun v71_16 s16 =>
 wdec v71_16
 (I.wop (.binOp .add 3 (.const (τ 3)) (.const (.int .i64 1)) 3) 3 s16 fun v56_17 s17 =>
 Q .normal (U τ [(3, v56_17), (56, v56_17), (55, (τ 3)), (71, (.bool true)), (71, v71_16), (70, v70_15), (69, v69_14), (68, v68_13), (67, (τ 3)), (66, v66_12), (65, v65_11), (64, (.bool false)), (64, v64_10), (63, v63_9), (62, v62_8), (61, v61_7), (60, (τ 3)), (59, v59_6), (58, v58_5), (57, v57_4), (54, (.bool true)), (54, v54_3), (53, v53_2), (52, v52_1), (51, v51_0), (50, (τ 3))]) ds s17)
 (I.wop (.binOp .add 3 (.const (τ 3)) (.const (.int .i64 1)) 3) 3 s16 fun v73_18 s18 =>
 I.wop (.fieldAddr 34 (.const (τ 1)) 4) 0 s18 fun v74_19 s19 =>
 I.wop (.load 32 (.const v74_19)) 32 s19 fun v75_20 s20 =>
 I.wop (.call ⟨.builtin .len, ⟨[(.const v75_20)]⟩, #[32]⟩) 3 s20 fun v76_21 s21 =>
 I.wop (.binOp .geq 3 (.const v73_18) (.const v76_21) 3) 4 s21 fun v77_22 s22 =>
 wdec v77_22
 (Q .ret (U τ [(2, (.bool false)), (77, (.bool true)), (77, v77_22), (76, v76_21), (75, v75_20), (74, v74_19), (73, v73_18), (72, (τ 3)), (71, (.bool false)), (71, v71_16), (70, v70_15), (69, v69_14), (68, v68_13), (67, (τ 3)), (66, v66_12), (65, v65_11), (64, (.bool false)), (64, v64_10), (63, v63_9), (62, v62_8), (61, v61_7), (60, (τ 3)), (59, v59_6), (58, v58_5), (57, v57_4), (54, (.bool true)), (54, v54_3), (53, v53_2), (52, v52_1), (51, v51_0), (50, (τ 3))]) ds s22)
 (I.loop 92 rnd c84_110100100111100 (U τ [(4, (.int .i64 0)), (77, (.bool false)), (77, v77_22), (76, v76_21), (75, v75_20), (74, v74_19), (73, v73_18), (72, (τ 3)), (71, (.bool false)), (71, v71_16), (70, v70_15), (69, v69_14), (68, v68_13), (67, (τ 3)), (66, v66_12), (65, v65_11), (64, (.bool false)), (64, v64_10), (63, v63_9), (62, v62_8), (61, v61_7), (60, (τ 3)), (59, v59_6), (58, v58_5), (57, v57_4), (54, (.bool true)), (54, v54_3), (53, v53_2), (52, v52_1), (51, v51_0), (50, (τ 3))]) ds s22 (fun τ ds s => ((lift Q) .ret) τ [] ds s) [(2, fun τ23 ds23 s23 =>
 I.wop (.binOp .add 3 (.const (τ23 3)) (.const (.int .i64 1)) 3) 3 s23 fun v56_24 s24 =>
 Q .normal (U τ23 [(3, v56_24), (56, v56_24), (55, (τ23 3))]) ds23 s24)]))))
 (Q (.exit 0) (U τ [(54, (.bool false)), (54, v54_3), (53, v53_2), (52, v52_1), (51, v51_0), (50, (τ 3))]) ds s3)
theorem x84_110100 (I : Prims) (rnd : Option Nat) (τ : Tau) (ds : List Deferred) (s : St) (Q : Ex → WK) : xp I rnd 92 k84_110100 c84_110100 [] τ [] ds s (lift Q) = v84_110100 I rnd τ ds s Q := by kernel_rfl
theorem n84_110100 [Memo] (ro : Nat) (rnd : Option Nat) (τ : Tau) (ds : List Deferred) (s : St) (Q : Ex → WK) : wp P ro 92 rnd c84_110100 τ ds s Q = v84_110100 (prims P ro) rnd τ ds s Q := xp_wp rnd 92 P ro (x84_110100 _ rnd τ ds s Q)
def v84_110100100111100 (I : Prims) (rnd : Option Nat) (τ : Tau) (ds : List Deferred) (s : St) (Q : Ex → WK) : Prop :=
 I.wop (.binOp .lss 3 (.const (τ 4)) (.const (.int .i64 4)) 3) 4 s fun v79_0 s0 =>
 wdec v79_0
 (I.wop (.fieldAddr 34 (.const (τ 1)) 4) 0 s0 fun v82_1 s1 =>
 I.wop (.load 32 (.const v82_1)) 32 s1 fun v83_2 s2 =>
 I.wop (.binOp .add 3 (.const (τ 3)) (.const (.int .i64 1)) 3) 3 s2 fun v85_3 s3 =>
 I.wop (.indexAddr 32 (.const v83_2) (.const v85_3)) 0 s3 fun v87_4 s4 =>
 I.wop (.fieldAddr 94 (.const v87_4) 1) 0 s4 fun v88_5 s5 =>
 I.wop (.indexAddr 53 (.const v88_5) (.const (τ 4))) 0 s5 fun v89_6 s6 =>
 I.wop (.load 3 (.const v89_6)) 3 s6 fun v90_7 s7 =>
 I.wop (.binOp .lss 3 (.const v90_7) (.const (.int .i64 0)) 3) 4 s7 fun v91_8 s8 =>
 wdec v91_8
 (Q .ret (U τ [(2, (.bool false)), (91, (.bool true)), (91, v91_8), (90, v90_7), (89, v89_6), (88, v88_5), (87, v87_4), (86, (τ 4)), (85, v85_3), (84, (τ 3)), (83, v83_2), (82, v82_1), (79, (.bool true)), (79, v79_0), (78, (τ 4))]) ds s8)
 (I.wop (.binOp .add 3 (.const (τ 4)) (.const (.int .i64 1)) 3) 3 s8 fun v81_9 s9 =>
 Q .normal (U τ [(4, v81_9), (81, v81_9), (80, (τ 4)), (91, (.bool false)), (91, v91_8), (90, v90_7), (89, v89_6), (88, v88_5), (87, v87_4), (86, (τ 4)), (85, v85_3), (84, (τ 3)), (83, v83_2), (82, v82_1), (79, (.bool true)), (79, v79_0), (78, (τ 4))]) ds s9))
 (Q (.exit 2) (U τ [(79, (.bool false)), (79, v79_0), (78, (τ 4))]) ds s0)
theorem x84_110100100111100 (I : Prims) (rnd : Option Nat) (τ : Tau) (ds : List Deferred) (s : St) (Q : Ex → WK) : xp I rnd 92 k84_110100100111100 c84_110100100111100 [] τ [] ds s (lift Q) = v84_110100100111100 I rnd τ ds s Q := by kernel_rfl
theorem n84_110100100111100 [Memo] (ro : Nat) (rnd : Option Nat) (τ : Tau) (ds : List Deferred) (s : St) (Q : Ex → WK) : wp P ro 92 rnd c84_110100100111100 τ ds s Q = v84_110100100111100 (prims P ro) rnd τ ds s Q := xp_wp rnd 92 P ro (x84_110100100111100 _ rnd τ ds s Q)
def v84 (I : Prims) (a0 : Value) (si : St) (K : Value → St → Prop) : Prop :=
 I.wop (.box 34 (.const a0)) 0 (ent si) fun v1_0 s0 =>
 I.wop (.fieldAddr 34 (.const v1_0) 0) 0 s0 fun v5_1 s1 =>
 I.wop (.load 3 (.const v5_1)) 3 s1 fun v6_2 s2 =>
 I.call 16 [v6_2] s2 fun v7_3 s3 =>
 I.wop (.unOp .not 4 (.const v7_3)) 4 s3 fun v8_4 s4 =>
 wdec v8_4
 (I.fin si K (.bool false) s4)
 (I.wop (.fieldAddr 34 (.const v1_0) 2) 0 s4 fun v10_5 s5 =>
 I.wop (.load 3 (.const v10_5)) 3 s5 fun v11_6 s6 =>
 I.wop (.binOp .lss 3 (.const v11_6) (.const (.int .i64 0)) 3) 4 s6 fun v12_7 s7 =>
 wdec v12_7
 (I.fin si K (.bool false) s7)
 (I.wop (.fieldAddr 34 (.const v1_0) 2) 0 s7 fun v15_8 s8 =>
 I.wop (.load 3 (.const v15_8)) 3 s8 fun v16_9 s9 =>
 I.wop (.binOp .gtr 3 (.const v16_9) (.const (.int .i64 16)) 3) 4 s9 fun v17_10 s10 =>
 wdec v17_10
 (I.fin si K (.bool false) s10)
 (I.wop (.fieldAddr 34 (.const v1_0) 3) 0 s10 fun v20_11 s11 =>
 I.wop (.load 3 (.const v20_11)) 3 s11 fun v21_12 s12 =>
 I.wop (.binOp .lss 3 (.const v21_12) (.const (.int .i64 0)) 3) 4 s12 fun v22_13 s13 =>
 wdec v22_13
 (I.fin si K (.bool false) s13)
 (I.wop (.fieldAddr 34 (.const v1_0) 3) 0 s13 fun v25_14 s14 =>
 I.wop (.load 3 (.const v25_14)) 3 s14 fun v26_15 s15 =>
 I.wop (.binOp .gtr 3 (.const v26_15) (.const (.int .i64 20000)) 3) 4 s15 fun v27_16 s16 =>
 wdec v27_16
 (I.fin si K (.bool false) s16)
 (I.wop (.fieldAddr 34 (.const v1_0) 1) 0 s16 fun v30_17 s17 =>
 I.wop (.load 3 (.const v30_17)) 3 s17 fun v31_18 s18 =>
 I.wop (.fieldAddr 34 (.const v1_0) 2) 0 s18 fun v32_19 s19 =>
 I.wop (.load 3 (.const v32_19)) 3 s19 fun v33_20 s20 =>
 I.wop (.fieldAddr 34 (.const v1_0) 3) 0 s20 fun v34_21 s21 =>
 I.wop (.load 3 (.const v34_21)) 3 s21 fun v35_22 s22 =>
 I.wop (.binOp .add 3 (.const v33_20) (.const v35_22) 3) 3 s22 fun v36_23 s23 =>
 I.wop (.binOp .lss 3 (.const v31_18) (.const v36_23) 3) 4 s23 fun v37_24 s24 =>
 wdec v37_24
 (I.fin si K (.bool false) s24)
 (I.wop (.fieldAddr 34 (.const v1_0) 1) 0 s24 fun v40_25 s25 =>
 I.wop (.load 3 (.const v40_25)) 3 s25 fun v41_26 s26 =>
 I.wop (.binOp .gtr 3 (.const v41_26) (.const (.int .i64 40000)) 3) 4 s26 fun v42_27 s27 =>
 wdec v42_27
 (I.fin si K (.bool false) s27)
 (I.wop (.fieldAddr 34 (.const v1_0) 4) 0 s27 fun v45_28 s28 =>
 I.wop (.load 32 (.const v45_28)) 32 s28 fun v46_29 s29 =>
 I.wop (.call ⟨.builtin .len, ⟨[(.const v46_29)]⟩, #[32]⟩) 3 s29 fun v47_30 s30 =>
 I.wop (.binOp .gtr 3 (.const v47_30) (.const (.int .i64 8000)) 3) 4 s30 fun v48_31 s31 =>
 wdec v48_31
 (I.fin si K (.bool false) s31)
 (I.loop 92 none c84_110100 (U undefT [(3, (.int .i64 0)), (49, (.bool false)), (49, v48_31), (44, (.bool false)), (48, v48_31), (44, (.bool false)), (47, v47_30), (44, (.bool false)), (46, v46_29), (44, (.bool false)), (45, v45_28), (44, (.bool false)), (44, v42_27), (43, v42_27), (39, (.bool false)), (42, v42_27), (39, (.bool false)), (41, v41_26), (39, (.bool false)), (40, v40_25), (39, (.bool false)), (39, v37_24), (38, v37_24), (29, (.bool false)), (37, v37_24), (29, (.bool false)), (36, v36_23), (29, (.bool false)), (35, v35_22), (29, (.bool false)), (34, v34_21), (29, (.bool false)), (33, v33_20), (29, (.bool false)), (32, v32_19), (29, (.bool false)), (31, v31_18), (29, (.bool false)), (30, v30_17), (29, (.bool false)), (29, v27_16), (28, v27_16), (24, (.bool false)), (27, v27_16), (24, (.bool false)), (26, v26_15), (24, (.bool false)), (25, v25_14), (24, (.bool false)), (24, v22_13), (23, v22_13), (19, (.bool false)), (22, v22_13), (19, (.bool false)), (21, v21_12), (19, (.bool false)), (20, v20_11), (19, (.bool false)), (19, v17_10), (18, v17_10), (14, (.bool false)), (17, v17_10), (14, (.bool false)), (16, v16_9), (14, (.bool false)), (15, v15_8), (14, (.bool false)), (14, v12_7), (13, v12_7), (9, (.bool false)), (12, v12_7), (9, (.bool false)), (11, v11_6), (9, (.bool false)), (10, v10_5), (9, (.bool false)), (9, v8_4), (8, v8_4), (7, v7_3), (6, v6_2), (5, v5_1), (2, (.bool false)), (1, v1_0), (0, a0)]) [] s31 (fun τ ds s => ((xleave I si Tryd.f84.results.toList K) .ret) τ [] ds s) [(0, fun _ ds32 s32 =>
 xdefers I ds32 s32 fun s33 =>
 I.fin si K (.bool true) s33), (1, fun _ _ _ =>
 False), (2, fun _ _ _ =>
 False)]))))))))
theorem x84 (I : Prims) (a0 : Value) (si : St) (K : Value → St → Prop) : xbody I 92 k84 Tryd.f84 c84 [a0] si K = v84 I a0 si K := by kernel_rfl
theorem n84 [Memo] (ro : Nat) (a0 : Value) (si : St) (K : Value → St → Prop) : wbody P ro 92 Tryd.f84 c84 [a0] si K = v84 (prims P ro) a0 si K := xbody_eq 92 P ro (x84 _ a0 si K)
theorem r84 (I : Prims) (si : St) (K : Value → St → Prop) (τ : Tau) (ds : List Deferred) (s : St) : xleave I si Tryd.f84.results.toList K .ret τ [] ds s =
 (xdefers I ds s fun s0 =>
 I.fin si K (τ 2) s0) := by kernel_rfl
/- attestor/attestorref23.order -/
noncomputable def c85 : Code := bodyOf Tryd.f85
noncomputable def c85_110100 : Code := subCode [1, 1, 0, 1, 0, 0] c85
noncomputable def c85_1110100 : Code := subCode [1, 1, 1, 0, 1, 0, 0] c85
noncomputable def c85_11110100 : Code := subCode [1, 1, 1, 1, 0, 1, 0, 0] c85
noncomputable def c85_11101001001110100 : Code := subCode [1, 1, 1, 0, 1, 0, 0, 1, 0, 0, 1, 1, 1, 0, 1, 0, 0] c85
noncomputable def c85_1110100100111101 : Code := subCode [1, 1, 1, 0, 1, 0, 0, 1, 0, 0, 1, 1, 1, 1, 0, 1] c85
noncomputable def c85_111010010011111 : Code := subCode [1, 1, 1, 0, 1, 0, 0, 1, 0, 0, 1, 1, 1, 1, 1] c85
noncomputable def c85_111010011 : Code := subCode [1, 1, 1, 0, 1, 0, 0, 1, 1] c85
noncomputable def c85_11101001001111110100 : Code := subCode [1, 1, 1, 0, 1, 0, 0, 1, 0, 0, 1, 1, 1, 1, 1, 1, 0, 1, 0, 0] c85
def k85 : List (List Nat) := []
def k85_110100 : List (List Nat) := []
theorem l85_110100 : ltCode 153 c85_110100 = true := by kernel_rfl
theorem m85_110100 : notMap c85_110100 = true := by kernel_rfl
def k85_1110100 : List (List Nat) := [[1, 0, 1, 1, 1, 1, 0, 0, 1]]
theorem l85_1110100 : ltCode 153 c85_1110100 = true := by kernel_rfl
theorem m85_1110100 : notMap c85_1110100 = true := by kernel_rfl
def k85_11110100 : List (List Nat) := []
theorem l85_11110100 : ltCode 153 c85_11110100 = true := by kernel_rfl
theorem m85_11110100 : notMap c85_11110100 = true := by kernel_rfl
def k85_11101001001110100 : List (List Nat) := []
theorem l85_11101001001110100 : ltCode 153 c85_11101001001110100 = true := by kernel_rfl
theorem m85_11101001001110100 : notMap c85_11101001001110100 = true := by kernel_rfl
def k85_11101001001111110100 : List (List Nat) := []
theorem l85_11101001001111110100 : ltCode 153 c85_11101001001111110100 = true := by kernel_rfl
theorem m85_11101001001111110100 : notMap c85_11101001001111110100 = true := by kernel_rfl
theorem b85 : BodyOk P 153 1 85 Tryd.f85 c85 := ⟨Tryd.func85, by kernel_rfl, by kernel_rfl, by kernel_rfl, by kernel_rfl, by kernel_rfl⟩
def v85_110100 (I : Prims) (rnd : Option Nat) (τ : Tau) (ds : List Deferred) (s : St) (Q : Ex → WK) : Prop :=
 I.wop (.call ⟨.builtin .len, ⟨[(.const (τ 4))]⟩, #[30]⟩) 3 s fun v19_0 s0 =>
 I.wop (.binOp .lss 3 (.const (τ 5)) (.const v19_0) 3) 4 s0 fun v20_1 s1 =>
 wdec v20_1
 (I.wop (.indexAddr 30 (.const (τ 4)) (.const (τ 5))) 0 s1 fun v25_2 s2 =>
 I.wop (.store 3 (.const v25_2) (.const (.int .i64 (-1)))) 0 s2 fun _ s3 =>
 I.wop (.fieldAddr 34 (.const (τ 1)) 2) 0 s3 fun v27_4 s4 =>
 I.wop (.load 3 (.const v27_4)) 3 s4 fun v28_5 s5 =>
 I.wop (.fieldAddr 34 (.const (τ 1)) 3) 0 s5 fun v29_6 s6 =>
 I.wop (.load 3 (.const v29_6)) 3 s6 fun v30_7 s7 =>
 I.wop (.binOp .add 3 (.const v28_5) (.const v30_7) 3) 3 s7 fun v31_8 s8 =>
 I.wop (.binOp .lss 3 (.const (τ 5)) (.const v31_8) 3) 4 s8 fun v32_9 s9 =>
 wdec v32_9
 (I.wop (.indexAddr 30 (.const (τ 4)) (.const (τ 5))) 0 s9 fun v35_10 s10 =>
 I.wop (.store 3 (.const v35_10) (.const (.int .i64 0))) 0 s10 fun _ s11 =>
 I.wop (.binOp .add 3 (.const (τ 5)) (.const (.int .i64 1)) 3) 3 s11 fun v22_12 s12 =>
 Q .normal (U τ [(5, v22_12), (22, v22_12), (21, (τ 5)), (35, v35_10), (34, (τ 5)), (33, (τ 4)), (32, (.bool true)), (32, v32_9), (31, v31_8), (30, v30_7), (29, v29_6), (28, v28_5), (27, v27_4), (26, (τ 5)), (25, v25_2), (24, (τ 5)), (23, (τ 4)), (20, (.bool true)), (20, v20_1), (19, v19_0), (18, (τ 4)), (17, (τ 5))]) ds s12)
 (I.wop (.binOp .add 3 (.const (τ 5)) (.const (.int .i64 1)) 3) 3 s9 fun v22_13 s13 =>
 Q .normal (U τ [(5, v22_13), (22, v22_13), (21, (τ 5)), (32, (.bool false)), (32, v32_9), (31, v31_8), (30, v30_7), (29, v29_6), (28, v28_5), (27, v27_4), (26, (τ 5)), (25, v25_2), (24, (τ 5)), (23, (τ 4)), (20, (.bool true)), (20, v20_1), (19, v19_0), (18, (τ 4)), (17, (τ 5))]) ds s13))
 (Q (.exit 0) (U τ [(20, (.bool false)), (20, v20_1), (19, v19_0), (18, (τ 4)), (17, (τ 5))]) ds s1)
theorem x85_110100 (I : Prims) (rnd : Option Nat) (τ : Tau) (ds : List Deferred) (s : St) (Q : Ex → WK) : xp I rnd 153 k85_110100 c85_110100 [] τ [] ds s (lift Q) = v85_110100 I rnd τ ds s Q := by kernel_rfl
theorem n85_110100 [Memo] (ro : Nat) (rnd : Option Nat) (τ : Tau) (ds : List Deferred) (s : St) (Q : Ex → WK) : wp P ro 153 rnd c85_110100 τ ds s Q = v85_110100 (prims P ro) rnd τ ds s Q := xp_wp rnd 153 P ro (x85_110100 _ rnd τ ds s Q)
def v85_1110100 (I : Prims) (rnd : Option Nat) (τ : Tau) (ds : List Deferred) (s : St) (Q : Ex → WK) : Prop :=
 I.wop (.fieldAddr 34 (.const (τ 1)) 4) 0 s fun v37_0 s0 =>
 I.wop (.load 32 (.const v37_0)) 32 s0 fun v38_1 s1 =>
 I.wop (.call ⟨.builtin .len, ⟨[(.const v38_1)]⟩, #[32]⟩) 3 s1 fun v39_2 s2 =>
 I.wop (.binOp .lss 3 (.const (τ 6)) (.const v39_2) 3) 4 s2 fun v40_3 s3 =>
 wdec v40_3
 (I.wop (.fieldAddr 34 (.const (τ 1)) 4) 0 s3 fun v43_4 s4 =>
 I.wop (.load 32 (.const v43_4)) 32 s4 fun v44_5 s5 =>
 I.wop (.indexAddr 32 (.const v44_5) (.const (τ 6))) 0 s5 fun v46_6 s6 =>
 I.wop (.load 94 (.const v46_6)) 94 s6 fun v47_7 s7 =>
 I.wop (.alloc 94) 0 s7 fun v7_8 s8 =>
 I.wop (.store 94 (.const v7_8) (.const v47_7)) 0 s8 fun _ s9 =>
 I.wop (.load 94 (.const v7_8)) 94 s9 fun v48_10 s10 =>
 I.call 98 [v48_10] s10 fun v49_11 s11 =>
 I.loop 153 rnd c85_11101001001110100 (U τ [(10, (.int .i64 0)), (9, (.int .i64 0)), (8, v49_11), (49, v49_11), (48, v48_10), (7, v7_8), (47, v47_7), (46, v46_6), (45, (τ 6)), (44, v44_5), (43, v43_4), (40, (.bool true)), (40, v40_3), (39, v39_2), (38, v38_1), (37, v37_0), (36, (τ 6))]) ds s11 (fun τ ds s => ((lift Q) .ret) τ [] ds s) [(4, fun τ12 ds12 s12 =>
 I.wop (.fieldAddr 94 (.const (τ12 7)) 0) 0 s12 fun v84_13 s13 =>
 I.wop (.load 92 (.const v84_13)) 92 s13 fun v85_14 s14 =>
 I.wop (.binOp .eql 92 (.const v85_14) (.const (.int .u8 1)) 92) 4 s14 fun v86_15 s15 =>
 wdec v86_15
 (I.wop (.fieldAddr 94 (.const (τ12 7)) 5) 0 s15 fun v88_16 s16 =>
 I.wop (.load 24 (.const v88_16)) 24 s16 fun v89_17 s17 =>
 I.wop (.binOp .neq 24 (.const v89_17) (.const (.int .u64 0)) 24) 4 s17 fun v90_18 s18 =>
 wdec v90_18
 (I.wop (.fieldAddr 94 (.const (τ12 7)) 1) 0 s18 fun v94_19 s19 =>
 I.wop (.indexAddr 53 (.const v94_19) (.const (.int .i64 2))) 0 s19 fun v95_20 s20 =>
 I.wop (.load 3 (.const v95_20)) 3 s20 fun v96_21 s21 =>
 I.wop (.indexAddr 30 (.const (τ12 4)) (.const v96_21)) 0 s21 fun v97_22 s22 =>
 I.wop (.load 3 (.const v97_22)) 3 s22 fun v98_23 s23 =>
 I.wop (.binOp .lss 3 (.const v98_23) (.const (.int .i64 0)) 3) 4 s23 fun v99_24 s24 =>
 I.hold (xp I rnd 153 k85_1110100 c85_1110100100111101 [1, 0, 1, 1, 1, 1, 0, 0, 1] (U τ12 [(100, v99_24), (92, (.bool true)), (99, v99_24), (92, (.bool true)), (98, v98_23), (92, (.bool true)), (97, v97_22), (92, (.bool true)), (96, v96_21), (92, (.bool true)), (95, v95_20), (92, (.bool true)), (94, v94_19), (92, (.bool true)), (93, (τ12 4)), (92, (.bool true)), (92, v90_18), (91, v90_18), (87, (.bool true)), (90, v90_18), (87, (.bool true)), (89, v89_17), (87, (.bool true)), (88, v88_16), (87, (.bool true)), (87, v86_15), (86, v86_15), (85, v85_14), (84, v84_13)]) [] ds12 s24 (sX I rnd 153 k85_1110100 c85_111010010011111 [1, 1, 1, 1, 1, 0, 0, 1] (blkX 3 (sX I rnd 153 k85_1110100 c85_111010011 [1, 1] (lift Q))))))
 (I.hold (xp I rnd 153 k85_1110100 c85_1110100100111101 [1, 0, 1, 1, 1, 1, 0, 0, 1] (U τ12 [(100, (.bool false)), (92, (.bool false)), (99, undef), (92, (.bool false)), (98, undef), (92, (.bool false)), (97, undef), (92, (.bool false)), (96, undef), (92, (.bool false)), (95, undef), (92, (.bool false)), (94, undef), (92, (.bool false)), (93, undef), (92, (.bool false)), (92, v90_18), (91, v90_18), (87, (.bool true)), (90, v90_18), (87, (.bool true)), (89, v89_17), (87, (.bool true)), (88, v88_16), (87, (.bool true)), (87, v86_15), (86, v86_15), (85, v85_14), (84, v84_13)]) [] ds12 s18 (sX I rnd 153 k85_1110100 c85_111010010011111 [1, 1, 1, 1, 1, 0, 0, 1] (blkX 3 (sX I rnd 153 k85_1110100 c85_111010011 [1, 1] (lift Q)))))))
 (I.hold (xp I rnd 153 k85_1110100 c85_1110100100111101 [1, 0, 1, 1, 1, 1, 0, 0, 1] (U τ12 [(100, (.bool false)), (92, (.bool false)), (99, undef), (92, (.bool false)), (98, undef), (92, (.bool false)), (97, undef), (92, (.bool false)), (96, undef), (92, (.bool false)), (95, undef), (92, (.bool false)), (94, undef), (92, (.bool false)), (93, undef), (92, (.bool false)), (92, (.bool false)), (91, (.bool false)), (87, (.bool false)), (90, undef), (87, (.bool false)), (89, undef), (87, (.bool false)), (88, undef), (87, (.bool false)), (87, v86_15), (86, v86_15), (85, v85_14), (84, v84_13)]) [] ds12 s15 (sX I rnd 153 k85_1110100 c85_111010010011111 [1, 1, 1, 1, 1, 0, 0, 1] (blkX 3 (sX I rnd 153 k85_1110100 c85_111010011 [1, 1] (lift Q)))))))])
 (Q (.exit 2) (U τ [(40, (.bool false)), (40, v40_3), (39, v39_2), (38, v38_1), (37, v37_0), (36, (τ 6))]) ds s3)
theorem x85_1110100 (I : Prims) (rnd : Option Nat) (τ : Tau) (ds : List Deferred) (s : St) (Q : Ex → WK) : xp I rnd 153 k85_1110100 c85_1110100 [] τ [] ds s (lift Q) = v85_1110100 I rnd τ ds s Q := by kernel_rfl
theorem n85_1110100 [Memo] (ro : Nat) (rnd : Option Nat) (τ : Tau) (ds : List Deferred) (s : St) (Q : Ex → WK) : wp P ro 153 rnd c85_1110100 τ ds s Q = v85_1110100 (prims P ro) rnd τ ds s Q := xp_wp rnd 153 P ro (x85_1110100 _ rnd τ ds s Q)
def v85_11110100 (I : Prims) (rnd : Option Nat) (τ : Tau) (ds : List Deferred) (s : St) (Q : Ex → WK) : Prop :=
 I.wop (.call ⟨.builtin .len, ⟨[(.const (τ 4))]⟩, #[30]⟩) 3 s fun v143_0 s0 =>
 I.wop (.binOp .lss 3 (.const (τ 13)) (.const v143_0) 3) 4 s0 fun v144_1 s1 =>
 wdec v144_1
 (I.wop (.indexAddr 30 (.const (τ 4)) (.const (τ 13))) 0 s1 fun v149_2 s2 =>
 I.wop (.load 3 (.const v149_2)) 3 s2 fun v150_3 s3 =>
 I.wop (.binOp .lss 3 (.const v150_3) (.const (.int .i64 0)) 3) 4 s3 fun v151_4 s4 =>
 wdec v151_4
 (Q .ret (U τ [(3, (.bool false)), (2, (.slice none 0 0)), (151, (.bool true)), (151, v151_4), (150, v150_3), (149, v149_2), (148, (τ 13)), (147, (τ 4)), (144, (.bool true)), (144, v144_1), (143, v143_0), (142, (τ 4)), (141, (τ 13))]) ds s4)
 (I.wop (.binOp .add 3 (.const (τ 13)) (.const (.int .i64 1)) 3) 3 s4 fun v146_5 s5 =>
 Q .normal (U τ [(13, v146_5), (146, v146_5), (145, (τ 13)), (151, (.bool false)), (151, v151_4), (150, v150_3), (149, v149_2), (148, (τ 13)), (147, (τ 4)), (144, (.bool true)), (144, v144_1), (143, v143_0), (142, (τ 4)), (141, (τ 13))]) ds s5))
 (Q (.exit 8) (U τ [(144, (.bool false)), (144, v144_1), (143, v143_0), (142, (τ 4)), (141, (τ 13))]) ds s1)
theorem x85_11110100 (I : Prims) (rnd : Option Nat) (τ : Tau) (ds : List Deferred) (s : St) (Q : Ex → WK) : xp I rnd 153 k85_11110100 c85_11110100 [] τ [] ds s (lift Q) = v85_11110100 I rnd τ ds s Q := by kernel_rfl
theorem n85_11110100 [Memo] (ro : Nat) (rnd : Option Nat) (τ : Tau) (ds : List Deferred) (s : St) (Q : Ex → WK) : wp P ro 153 rnd c85_11110100 τ ds s Q = v85_11110100 (prims P ro) rnd τ ds s Q := xp_wp rnd 153 P ro (x85_11110100 _ rnd τ ds s Q)
def v85_11101001001110100 (I : Prims) (rnd : Option Nat) (τ : Tau) (ds : List Deferred) (s : St) (Q : Ex → WK) : Prop :=
 I.wop (.call ⟨.builtin .len, ⟨[(.const (τ 8))]⟩, #[30]⟩) 3 s fun v52_0 s0 =>
 I.wop (.binOp .lss 3 (.const (τ 10)) (.const v52_0) 3) 4 s0 fun v53_1 s1 =>
 wdec v53_1
 (I.wop (.indexAddr 30 (.const (τ 8)) (.const (τ 10))) 0 s1 fun v59_2 s2 =>
 I.wop (.load 3 (.const v59_2)) 3 s2 fun v60_3 s3 =>
 I.wop (.fieldAddr 94 (.const (τ 7)) 1) 0 s3 fun v61_4 s4 =>
 I.wop (.indexAddr 53 (.const v61_4) (.const v60_3)) 0 s4 fun v62_5 s5 =>
 I.wop (.load 3 (.const v62_5)) 3 s5 fun v63_6 s6 =>
 I.wop (.indexAddr 30 (.const (τ 4)) (.const v63_6)) 0 s6 fun v64_7 s7 =>
 I.wop (.load 3 (.const v64_7)) 3 s7 fun v65_8 s8 =>
 I.wop (.binOp .lss 3 (.const v65_8) (.const (.int .i64 0)) 3) 4 s8 fun v67_9 s9 =>
 wdec v67_9
 (I.wop (.fieldAddr 94 (.const (τ 7)) 0) 0 s9 fun v69_10 s10 =>
 I.wop (.load 92 (.const v69_10)) 92 s10 fun v70_11 s11 =>
 I.wop (.binOp .eql 92 (.const v70_11) (.const (.int .u8 1)) 92) 4 s11 fun v71_12 s12 =>
 wdec v71_12
 (I.wop (.indexAddr 30 (.const (τ 8)) (.const (τ 10))) 0 s12 fun v75_13 s13 =>
 I.wop (.load 3 (.const v75_13)) 3 s13 fun v76_14 s14 =>
 I.wop (.binOp .eql 3 (.const v76_14) (.const (.int .i64 2)) 3) 4 s14 fun v77_15 s15 =>
 I.wop (.unOp .not 4 (.const v77_15)) 4 s15 fun v79_16 s16 =>
 wdec v79_16
 (Q .ret (U τ [(3, (.bool false)), (2, (.slice none 0 0)), (80, (.bool true)), (80, v79_16), (68, (.bool true)), (79, v79_16), (68, (.bool true)), (78, v77_15), (72, (.bool true)), (68, (.bool true)), (77, v77_15), (72, (.bool true)), (76, v76_14), (72, (.bool true)), (75, v75_13), (72, (.bool true)), (74, (τ 10)), (72, (.bool true)), (73, (τ 8)), (72, (.bool true)), (72, v71_12), (68, (.bool true)), (71, v71_12), (68, (.bool true)), (70, v70_11), (68, (.bool true)), (69, v69_10), (68, (.bool true)), (68, v67_9), (67, v67_9), (66, v65_8), (11, v65_8), (65, v65_8), (64, v64_7), (63, v63_6), (62, v62_5), (61, v61_4), (60, v60_3), (59, v59_2), (58, (τ 10)), (57, (τ 8)), (56, (τ 4)), (53, (.bool true)), (53, v53_1), (52, v52_0), (51, (τ 8)), (50, (τ 10))]) ds s16)
 (I.wop (.call ⟨.builtin .max, ⟨[(.const (τ 9)), (.const v65_8)]⟩, #[3, 3]⟩) 3 s16 fun v83_17 s17 =>
 I.wop (.binOp .add 3 (.const (τ 10)) (.const (.int .i64 1)) 3) 3 s17 fun v55_18 s18 =>
 Q .normal (U τ [(10, v55_18), (55, v55_18), (54, (τ 10)), (9, v83_17), (83, v83_17), (82, v65_8), (81, (τ 9)), (80, (.bool false)), (80, v79_16), (68, (.bool true)), (79, v79_16), (68, (.bool true)), (78, v77_15), (72, (.bool true)), (68, (.bool true)), (77, v77_15), (72, (.bool true)), (76, v76_14), (72, (.bool true)), (75, v75_13), (72, (.bool true)), (74, (τ 10)), (72, (.bool true)), (73, (τ 8)), (72, (.bool true)), (72, v71_12), (68, (.bool true)), (71, v71_12), (68, (.bool true)), (70, v70_11), (68, (.bool true)), (69, v69_10), (68, (.bool true)), (68, v67_9), (67, v67_9), (66, v65_8), (11, v65_8), (65, v65_8), (64, v64_7), (63, v63_6), (62, v62_5), (61, v61_4), (60, v60_3), (59, v59_2), (58, (τ 10)), (57, (τ 8)), (56, (τ 4)), (53, (.bool true)), (53, v53_1), (52, v52_0), (51, (τ 8)), (50, (τ 10))]) ds s18))
 (I.wop (.unOp .not 4 (.const (.bool false))) 4 s12 fun v79_19 s19 =>
 wdec v79_19
 (Q .ret (U τ [(3, (.bool false)), (2, (.slice none 0 0)), (80, (.bool true)), (80, v79_19), (68, (.bool true)), (79, v79_19), (68, (.bool true)), (78, (.bool false)), (72, (.bool false)), (68, (.bool true)), (77, undef), (72, (.bool false)), (76, undef), (72, (.bool false)), (75, undef), (72, (.bool false)), (74, undef), (72, (.bool false)), (73, undef), (72, (.bool false)), (72, v71_12), (68, (.bool true)), (71, v71_12), (68, (.bool true)), (70, v70_11), (68, (.bool true)), (69, v69_10), (68, (.bool true)), (68, v67_9), (67, v67_9), (66, v65_8), (11, v65_8), (65, v65_8), (64, v64_7), (63, v63_6), (62, v62_5), (61, v61_4), (60, v60_3), (59, v59_2), (58, (τ 10)), (57, (τ 8)), (56, (τ 4)), (53, (.bool true)), (53, v53_1), (52, v52_0), (51, (τ 8)), (50, (τ 10))]) ds s19)
 (I.wop (.call ⟨.builtin .max, ⟨[(.const (τ 9)), (.const v65_8)]⟩, #[3, 3]⟩) 3 s19 fun v83_20 s20 =>
 I.wop (.binOp .add 3 (.const (τ 10)) (.const (.int .i64 1)) 3) 3 s20 fun v55_21 s21 =>
 Q .normal (U τ [(10, v55_21), (55, v55_21), (54, (τ 10)), (9, v83_20), (83, v83_20), (82, v65_8), (81, (τ 9)), (80, (.bool false)), (80, v79_19), (68, (.bool true)), (79, v79_19), (68, (.bool true)), (78, (.bool false)), (72, (.bool false)), (68, (.bool true)), (77, undef), (72, (.bool false)), (76, undef), (72, (.bool false)), (75, undef), (72, (.bool false)), (74, undef), (72, (.bool false)), (73, undef), (72, (.bool false)), (72, v71_12), (68, (.bool true)), (71, v71_12), (68, (.bool true)), (70, v70_11), (68, (.bool true)), (69, v69_10), (68, (.bool true)), (68, v67_9), (67, v67_9), (66, v65_8), (11, v65_8), (65, v65_8), (64, v64_7), (63, v63_6), (62, v62_5), (61, v61_4), (60, v60_3), (59, v59_2), (58, (τ 10)), (57, (τ 8)), (56, (τ 4)), (53, (.bool true)), (53, v53_1), (52, v52_0), (51, (τ 8)), (50, (τ 10))]) ds s21)))
 (I.wop (.call ⟨.builtin .max, ⟨[(.const (τ 9)), (.const v65_8)]⟩, #[3, 3]⟩) 3 s9 fun v83_22 s22 =>
 I.wop (.binOp .add 3 (.const (τ 10)) (.const (.int .i64 1)) 3) 3 s22 fun v55_23 s23 =>
 Q .normal (U τ [(10, v55_23), (55, v55_23), (54, (τ 10)), (9, v83_22), (83, v83_22), (82, v65_8), (81, (τ 9)), (80, (.bool false)), (80, (.bool false)), (68, (.bool false)), (79, undef), (68, (.bool false)), (78, undef), (68, (.bool false)), (77, undef), (76, undef), (75, undef), (74, undef), (73, undef), (72, undef), (68, (.bool false)), (71, undef), (68, (.bool false)), (70, undef), (68, (.bool false)), (69, undef), (68, (.bool false)), (68, v67_9), (67, v67_9), (66, v65_8), (11, v65_8), (65, v65_8), (64, v64_7), (63, v63_6), (62, v62_5), (61, v61_4), (60, v60_3), (59, v59_2), (58, (τ 10)), (57, (τ 8)), (56, (τ 4)), (53, (.bool true)), (53, v53_1), (52, v52_0), (51, (τ 8)), (50, (τ 10))]) ds s23))
 (Q (.exit 4) (U τ [(53, (.bool false)), (53, v53_1), (52, v52_0), (51, (τ 8)), (50, (τ 10))]) ds s1)
theorem x85_11101001001110100 (I : Prims) (rnd : Option Nat) (τ : Tau) (ds : List Deferred) (s : St) (Q : Ex → WK) : xp I rnd 153 k85_11101001001110100 c85_11101001001110100 [] τ [] ds s (lift Q) = v85_11101001001110100 I rnd τ ds s Q := by kernel_rfl
theorem n85_11101001001110100 [Memo] (ro : Nat) (rnd : Option Nat) (τ : Tau) (ds : List Deferred) (s : St) (Q : Ex → WK) : wp P ro 153 rnd c85_11101001001110100 τ ds s Q = v85_11101001001110100 (prims P ro) rnd τ ds s Q := xp_wp rnd 153 P ro (x85_11101001001110100 _ rnd τ ds s Q)
def v85_1110100100111101 (I : Prims) (rnd : Option Nat) (τ : Tau) (ds : List Deferred) (s : St) (Q : Ex → XK) : Prop :=
 wdec (τ 100)
 (I.wop (.fieldAddr 94 (.const (τ 7)) 1) 0 s fun v102_0 s0 =>
 I.wop (.indexAddr 53 (.const v102_0) (.const (.int .i64 2))) 0 s0 fun v103_1 s1 =>
 I.wop (.load 3 (.const v103_1)) 3 s1 fun v104_2 s2 =>
 I.wop (.binOp .add 3 (.const (τ 9)) (.const (.int .i64 1)) 3) 3 s2 fun v106_3 s3 =>
 I.wop (.indexAddr 30 (.const (τ 4)) (.const v104_2)) 0 s3 fun v107_4 s4 =>
 I.wop (.store 3 (.const v107_4) (.const v106_3)) 0 s4 fun _ s5 =>
 Q .normal τ [(107, v107_4), (106, v106_3), (105, (τ 9)), (104, v104_2), (103, v103_1), (102, v102_0), (101, (τ 4)), (100, (.bool true))] ds s5)
 (Q .normal τ [(100, (.bool false))] ds s)
theorem n85_1110100100111101 (I : Prims) (rnd : Option Nat) (τ : Tau) (ds : List Deferred) (s : St) (Q : Ex → XK) : xp I rnd 153 k85_1110100 c85_1110100100111101 [1, 0, 1, 1, 1, 1, 0, 0, 1] τ [] ds s Q = v85_1110100100111101 I rnd τ ds s Q := by kernel_rfl
def v85_111010010011111 (I : Prims) (rnd : Option Nat) (τ : Tau) (ds : List Deferred) (s : St) (Q : Ex → XK) : Prop :=
 I.wop (.fieldAddr 94 (.const (τ 7)) 0) 0 s fun v108_0 s0 =>
 I.wop (.load 92 (.const v108_0)) 92 s0 fun v109_1 s1 =>
 I.wop (.binOp .eql 92 (.const v109_1) (.const (.int .u8 3)) 92) 4 s1 fun v110_2 s2 =>
 wdec v110_2
 (I.loop 153 rnd c85_11101001001111110100 (U τ [(12, (.int .i64 0)), (110, (.bool true)), (110, v110_2), (109, v109_1), (108, v108_0)]) ds s2 (fun τ ds s => (Q .ret) τ [] ds s) [(6, fun τ3 ds3 s3 =>
 Q .normal τ3 [] ds3 s3)])
 (Q .normal τ [(110, (.bool false)), (110, v110_2), (109, v109_1), (108, v108_0)] ds s2)
theorem n85_111010010011111 (I : Prims) (rnd : Option Nat) (τ : Tau) (ds : List Deferred) (s : St) (Q : Ex → XK) : xp I rnd 153 k85_1110100 c85_111010010011111 [1, 1, 1, 1, 1, 0, 0, 1] τ [] ds s Q = v85_111010010011111 I rnd τ ds s Q := by kernel_rfl
def v85_111010011 (I : Prims) (rnd : Option Nat) (τ : Tau) (ds : List Deferred) (s : St) (Q : Ex → XK) : Prop :=
 I.wop (.binOp .add 3 (.const (τ 6)) (.const (.int .i64 1)) 3) 3 s fun v42_0 s0 =>
 Q .normal τ [(6, v42_0), (42, v42_0), (41, (τ 6))] ds s0
theorem n85_111010011 (I : Prims) (rnd : Option Nat) (τ : Tau) (ds : List Deferred) (s : St) (Q : Ex → XK) : xp I rnd 153 k85_1110100 c85_111010011 [1, 1] τ [] ds s Q = v85_111010011 I rnd τ ds s Q := by kernel_rfl
def v85_11101001001111110100 (I : Prims) (rnd : Option Nat) (τ : Tau) (ds : List Deferred) (s : St) (Q : Ex → WK) : Prop :=
 I.wop (.binOp .lss 3 (.const (τ 12)) (.const (.int .i64 4)) 3) 4 s fun v112_0 s0 =>
 wdec v112_0
 (I.wop (.fieldAddr 34 (.const (τ 1)) 4) 0 s0 fun v116_1 s1 =>
 I.wop (.load 32 (.const v116_1)) 32 s1 fun v117_2 s2 =>
 I.wop (.binOp .add 3 (.const (τ 6)) (.const (.int .i64 1)) 3) 3 s2 fun v119_3 s3 =>
 I.wop (.indexAddr 32 (.const v117_2) (.const v119_3)) 0 s3 fun v121_4 s4 =>
 I.wop (.fieldAddr 94 (.const v121_4) 1) 0 s4 fun v122_5 s5 =>
 I.wop (.indexAddr 53 (.const v122_5) (.const (τ 12))) 0 s5 fun v123_6 s6 =>
 I.wop (.load 3 (.const v123_6)) 3 s6 fun v124_7 s7 =>
 I.wop (.indexAddr 30 (.const (τ 4)) (.const v124_7)) 0 s7 fun v125_8 s8 =>
 I.wop (.load 3 (.const v125_8)) 3 s8 fun v126_9 s9 =>
 I.wop (.binOp .lss 3 (.const v126_9) (.const (.int .i64 0)) 3) 4 s9 fun v127_10 s10 =>
 wdec v127_10
 (I.wop (.fieldAddr 34 (.const (τ 1)) 4) 0 s10 fun v129_11 s11 =>
 I.wop (.load 32 (.const v129_11)) 32 s11 fun v130_12 s12 =>
 I.wop (.binOp .add 3 (.const (τ 6)) (.const (.int .i64 1)) 3) 3 s12 fun v132_13 s13 =>
 I.wop (.indexAddr 32 (.const v130_12) (.const v132_13)) 0 s13 fun v134_14 s14 =>
 I.wop (.fieldAddr 94 (.const v134_14) 1) 0 s14 fun v135_15 s15 =>
 I.wop (.indexAddr 53 (.const v135_15) (.const (τ 12))) 0 s15 fun v136_16 s16 =>
 I.wop (.load 3 (.const v136_16)) 3 s16 fun v137_17 s17 =>
 I.wop (.binOp .add 3 (.const (τ 9)) (.const (.int .i64 1)) 3) 3 s17 fun v139_18 s18 =>
 I.wop (.indexAddr 30 (.const (τ 4)) (.const v137_17)) 0 s18 fun v140_19 s19 =>
 I.wop (.store 3 (.const v140_19) (.const v139_18)) 0 s19 fun _ s20 =>
 I.wop (.binOp .add 3 (.const (τ 12)) (.const (.int .i64 1)) 3) 3 s20 fun v114_21 s21 =>
 Q .normal (U τ [(12, v114_21), (114, v114_21), (113, (τ 12)), (140, v140_19), (139, v139_18), (138, (τ 9)), (137, v137_17), (136, v136_16), (135, v135_15), (134, v134_14), (133, (τ 12)), (132, v132_13), (131, (τ 6)), (130, v130_12), (129, v129_11), (128, (τ 4)), (127, (.bool true)), (127, v127_10), (126, v126_9), (125, v125_8), (124, v124_7), (123, v123_6), (122, v122_5), (121, v121_4), (120, (τ 12)), (119, v119_3), (118, (τ 6)), (117, v117_2), (116, v116_1), (115, (τ 4)), (112, (.bool true)), (112, v112_0), (111, (τ 12))]) ds s21)
 (I.wop (.binOp .add 3 (.const (τ 12)) (.const (.int .i64 1)) 3) 3 s10 fun v114_22 s22 =>
 Q .normal (U τ [(12, v114_22), (114, v114_22), (113, (τ 12)), (127, (.bool false)), (127, v127_10), (126, v126_9), (125, v125_8), (124, v124_7), (123, v123_6), (122, v122_5), (121, v121_4), (120, (τ 12)), (119, v119_3), (118, (τ 6)), (117, v117_2), (116, v116_1), (115, (τ 4)), (112, (.bool true)), (112, v112_0), (111, (τ 12))]) ds s22))
 (Q (.exit 6) (U τ [(112, (.bool false)), (112, v112_0), (111, (τ 12))]) ds s0)
theorem x85_11101001001111110100 (I : Prims) (rnd : Option Nat) (τ : Tau) (ds : List Deferred) (s : St) (Q : Ex → WK) : xp I rnd 153 k85_11101001001111110100 c85_11101001001111110100 [] τ [] ds s (lift Q) = v85_11101001001111110100 I rnd τ ds s Q := by kernel_rfl
theorem n85_11101001001111110100 [Memo] (ro : Nat) (rnd : Option Nat) (τ : Tau) (ds : List Deferred) (s : St) (Q : Ex → WK) : wp P ro 153 rnd c85_11101001001111110100 τ ds s Q = v85_11101001001111110100 (prims P ro) rnd τ ds s Q := xp_wp rnd 153 P ro (x85_11101001001111110100 _ rnd τ ds s Q)
def v85 (I : Prims) (a0 : Value) (si : St) (K : Value → St → Prop) : Prop :=
 I.wop (.box 34 (.const a0)) 0 (ent si) fun v1_0 s0 =>
 I.wop (.fieldAddr 34 (.const v1_0) 1) 0 s0 fun v14_1 s1 =>
 I.wop (.load 3 (.const v14_1)) 3 s1 fun v15_2 s2 =>
 I.wop (.makeSlice 30 (.const v15_2) (.const v15_2)) 30 s2 fun v16_3 s3 =>
 I.loop 153 none c85_110100 (U undefT [(5, (.int .i64 0)), (4, v16_3), (16, v16_3), (15, v15_2), (14, v14_1), (3, (.bool false)), (2, (.slice none 0 0)), (1, v1_0), (0, a0)]) [] s3 (fun τ ds s => ((xleave I si Tryd.f85.results.toList K) .ret) τ [] ds s) [(0, fun τ4 ds4 s4 =>
 I.loop 153 none c85_1110100 (U τ4 [(6, (.int .i64 0))]) ds4 s4 (fun τ ds s => ((xleave I si Tryd.f85.results.toList K) .ret) τ [] ds s) [(2, fun τ5 ds5 s5 =>
 I.loop 153 none c85_11110100 (U τ5 [(13, (.int .i64 0))]) ds5 s5 (fun τ ds s => ((xleave I si Tryd.f85.results.toList K) .ret) τ [] ds s) [(8, fun τ6 ds6 s6 =>
 xdefers I ds6 s6 fun s7 =>
 I.fin si K (.tuple (.mk [(τ6 4), (.bool true)])) s7)]), (4, fun _ _ _ =>
 False), (6, fun _ _ _ =>
 False)])]
theorem x85 (I : Prims) (a0 : Value) (si : St) (K : Value → St → Prop) : xbody I 153 k85 Tryd.f85 c85 [a0] si K = v85 I a0 si K := by kernel_rfl
theorem n85 [Memo] (ro : Nat) (a0 : Value) (si : St) (K : Value → St → Prop) : wbody P ro 153 Tryd.f85 c85 [a0] si K = v85 (prims P ro) a0 si K := xbody_eq 153 P ro (x85 _ a0 si K)
theorem r85 (I : Prims) (si : St) (K : Value → St → Prop) (τ : Tau) (ds : List Deferred) (s : St) : xleave I si Tryd.f85.results.toList K .ret τ [] ds s =
 (xdefers I ds s fun s0 =>
 I.fin si K (.tuple (.mk [(τ 2), (τ 3)])) s0) := by kernel_rfl
/- attestor/attestorref01.Sub -/
noncomputable def c86 : Code := bodyOf Tryd.f86
def k86 : List (List Nat) := []
theorem b86 : BodyOk P 25 3 86 Tryd.f86 c86 := ⟨Tryd.func86, by kernel_rfl, by kernel_rfl, by kernel_rfl, by kernel_rfl, by kernel_rfl⟩
def v86 (I : Prims) (a0 a1 a2 : Value) (si : St) (K : Value → St → Prop) : Prop :=
 I.call 16 [a0] (ent si) fun v8_0 s0 =>
 I.wop (.unOp .not 4 (.const v8_0)) 4 s0 fun v9_1 s1 =>
 wdec v9_1
 (I.fin si K (.int .u64 0) s1)
 (I.call 14 [a0] s1 fun v12_2 s2 =>
 I.wop (.binOp .rem 24 (.const a1) (.const v12_2) 24) 24 s2 fun v13_3 s3 =>
 I.call 14 [a0] s3 fun v15_4 s4 =>
 I.wop (.binOp .add 24 (.const v13_3) (.const v15_4) 24) 24 s4 fun v16_5 s5 =>
 I.call 14 [a0] s5 fun v19_6 s6 =>
 I.wop (.binOp .rem 24 (.const a2) (.const v19_6) 24) 24 s6 fun v20_7 s7 =>
 I.wop (.binOp .sub 24 (.const v16_5) (.const v20_7) 24) 24 s7 fun v21_8 s8 =>
 I.call 14 [a0] s8 fun v23_9 s9 =>
 I.wop (.binOp .rem 24 (.const v21_8) (.const v23_9) 24) 24 s9 fun v24_10 s10 =>
 I.fin si K v24_10 s10)
theorem x86 (I : Prims) (a0 a1 a2 : Value) (si : St) (K : Value → St → Prop) : xbody I 25 k86 Tryd.f86 c86 [a0, a1, a2] si K = v86 I a0 a1 a2 si K := by kernel_rfl
theorem n86 [Memo] (ro : Nat) (a0 a1 a2 : Value) (si : St) (K : Value → St → Prop) : wbody P ro 25 Tryd.f86 c86 [a0, a1, a2] si K = v86 (prims P ro) a0 a1 a2 si K := xbody_eq 25 P ro (x86 _ a0 a1 a2 si K)
/- attestor/attestorref01.Inv -/
noncomputable def c87 : Code := bodyOf Tryd.f87
def k87 : List (List Nat) := []
theorem b87 : BodyOk P 14 2 87 Tryd.f87 c87 := ⟨Tryd.func87, by kernel_rfl, by kernel_rfl, by kernel_rfl, by kernel_rfl, by kernel_rfl⟩
def v87 (I : Prims) (a0 a1 : Value) (si : St) (K : Value → St → Prop) : Prop :=
 I.call 16 [a0] (ent si) fun v6_0 s0 =>
 I.wop (.unOp .not 4 (.const v6_0)) 4 s0 fun v7_1 s1 =>
 wdec v7_1
 (I.fin si K (.int .u64 0) s1)
 (I.call 14 [a0] s1 fun v11_2 s2 =>
 I.wop (.binOp .sub 24 (.const v11_2) (.const (.int .u64 2)) 24) 24 s2 fun v12_3 s3 =>
 I.call 33 [a0, a1, v12_3] s3 fun v13_4 s4 =>
 I.fin si K v13_4 s4)
theorem x87 (I : Prims) (a0 a1 : Value) (si : St) (K : Value → St → Prop) : xbody I 14 k87 Tryd.f87 c87 [a0, a1] si K = v87 I a0 a1 si K := by kernel_rfl
theorem n87 [Memo] (ro : Nat) (a0 a1 : Value) (si : St) (K : Value → St → Prop) : wbody P ro 14 Tryd.f87 c87 [a0, a1] si K = v87 (prims P ro) a0 a1 si K := xbody_eq 14 P ro (x87 _ a0 a1 si K)
/- attestor/attestorref06.Round -/
noncomputable def c88 : Code := bodyOf Tryd.f88
noncomputable def c88_110100 : Code := subCode [1, 1, 0, 1, 0, 0] c88
noncomputable def c88_1110100 : Code := subCode [1, 1, 1, 0, 1, 0, 0] c88
noncomputable def c88_111110100 : Code := subCode [1, 1, 1, 1, 1, 0, 1, 0, 0] c88
noncomputable def c88_1111101001001100 : Code := subCode [1, 1, 1, 1, 1, 0, 1, 0, 0, 1, 0, 0, 1, 1, 0, 0] c88
def k88 : List (List Nat) := []
def k88_110100 : List (List Nat) := []
theorem l88_110100 : ltCode 80 c88_110100 = true := by kernel_rfl
theorem m88_110100 : notMap c88_110100 = true := by kernel_rfl
def k88_1110100 : List (List Nat) := []
theorem l88_1110100 : ltCode 80 c88_1110100 = true := by kernel_rfl
theorem m88_1110100 : notMap c88_1110100 = true := by kernel_rfl
def k88_111110100 : List (List Nat) := []
theorem l88_111110100 : ltCode 80 c88_111110100 = true := by kernel_rfl
theorem m88_111110100 : notMap c88_111110100 = true := by kernel_rfl
def k88_1111101001001100 : List (List Nat) := []
theorem l88_1111101001001100 : ltCode 80 c88_1111101001001100 = true := by kernel_rfl
theorem m88_1111101001001100 : notMap c88_1111101001001100 = true := by kernel_rfl
theorem b88 : BodyOk P 80 3 88 Tryd.f88 c88 := ⟨Tryd.func88, by kernel_rfl, by kernel_rfl, by kernel_rfl, by kernel_rfl, by kernel_rfl⟩
def v88_110100 (I : Prims) (rnd : Option Nat) (τ : Tau) (ds : List Deferred) (s : St) (Q : Ex → WK) : Prop :=
 I.wop (.binOp .lss 3 (.const (τ 7)) (.const (.int .i64 4)) 3) 4 s fun v26_0 s0 =>
 wdec v26_0
 (I.wop (.indexAddr 58 (.const (τ 5)) (.const (τ 7))) 0 s0 fun v32_1 s1 =>
 I.wop (.load 24 (.const v32_1)) 24 s1 fun v33_2 s2 =>
 veq v33_2 v33_2 = true ∧ I.call 99 [(τ 0), (τ 1), (τ 7)] s2 fun v37_3 s3 =>
 Keeps [(4, .ptr v32_1)] s2 s3 ∧ I.call 66 [(τ 0), v33_2, v37_3] s3 fun v38_4 s4 =>
 I.wop (.indexAddr 58 (.const (τ 5)) (.const (τ 7))) 0 s4 fun v39_5 s5 =>
 I.wop (.store 24 (.const v39_5) (.const v38_4)) 0 s5 fun _ s6 =>
 I.wop (.binOp .add 3 (.const (τ 7)) (.const (.int .i64 1)) 3) 3 s6 fun v28_7 s7 =>
 Q .normal (U τ [(7, v28_7), (28, v28_7), (27, (τ 7)), (39, v39_5), (38, v38_4), (37, v37_3), (36, (τ 7)), (35, (τ 1)), (34, (τ 0)), (33, v33_2), (32, v32_1), (31, (τ 7)), (30, (τ 0)), (29, (τ 7)), (26, (.bool true)), (26, v26_0), (25, (τ 7))]) ds s7)
 (Q (.exit 0) (U τ [(26, (.bool false)), (26, v26_0), (25, (τ 7))]) ds s0)
theorem x88_110100 (I : Prims) (rnd : Option Nat) (τ : Tau) (ds : List Deferred) (s : St) (Q : Ex → WK) : xp I rnd 80 k88_110100 c88_110100 [] τ [] ds s (lift Q) = v88_110100 I rnd τ ds s Q := by kernel_rfl
theorem n88_110100 [Memo] (ro : Nat) (rnd : Option Nat) (τ : Tau) (ds : List Deferred) (s : St) (Q : Ex → WK) : wp P ro 80 rnd c88_110100 τ ds s Q = v88_110100 (prims P ro) rnd τ ds s Q := xp_wp rnd 80 P ro (x88_110100 _ rnd τ ds s Q)
def v88_1110100 (I : Prims) (rnd : Option Nat) (τ : Tau) (ds : List Deferred) (s : St) (Q : Ex → WK) : Prop :=
 I.wop (.binOp .lss 3 (.const (τ 8)) (.const (.int .i64 4)) 3) 4 s fun v41_0 s0 =>
 wdec v41_0
 (I.wop (.indexAddr 58 (.const (τ 5)) (.const (τ 8))) 0 s0 fun v47_1 s1 =>
 I.wop (.load 24 (.const v47_1)) 24 s1 fun v48_2 s2 =>
 veq v48_2 v48_2 = true ∧ I.call 100 [(τ 0)] s2 fun v50_3 s3 =>
 Keeps [(4, .ptr v47_1)] s2 s3 ∧ I.wop (.convert 3 24 (.const v50_3)) 24 s3 fun v51_4 s4 =>
 s4 = s3 ∧ veq v51_4 v51_4 = true ∧ I.call 33 [(τ 0), v48_2, v51_4] s4 fun v52_5 s5 =>
 I.wop (.indexAddr 58 (.const (τ 5)) (.const (τ 8))) 0 s5 fun v53_6 s6 =>
 I.wop (.store 24 (.const v53_6) (.const v52_5)) 0 s6 fun _ s7 =>
 I.wop (.binOp .add 3 (.const (τ 8)) (.const (.int .i64 1)) 3) 3 s7 fun v43_8 s8 =>
 Q .normal (U τ [(8, v43_8), (43, v43_8), (42, (τ 8)), (53, v53_6), (52, v52_5), (51, v51_4), (50, v50_3), (49, (τ 0)), (48, v48_2), (47, v47_1), (46, (τ 8)), (45, (τ 0)), (44, (τ 8)), (41, (.bool true)), (41, v41_0), (40, (τ 8))]) ds s8)
 (Q (.exit 2) (U τ [(41, (.bool false)), (41, v41_0), (40, (τ 8))]) ds s0)
theorem x88_1110100 (I : Prims) (rnd : Option Nat) (τ : Tau) (ds : List Deferred) (s : St) (Q : Ex → WK) : xp I rnd 80 k88_1110100 c88_1110100 [] τ [] ds s (lift Q) = v88_1110100 I rnd τ ds s Q := by kernel_rfl
theorem n88_1110100 [Memo] (ro : Nat) (rnd : Option Nat) (τ : Tau) (ds : List Deferred) (s : St) (Q : Ex → WK) : wp P ro 80 rnd c88_1110100 τ ds s Q = v88_1110100 (prims P ro) rnd τ ds s Q := xp_wp rnd 80 P ro (x88_1110100 _ rnd τ ds s Q)
def v88_111110100 (I : Prims) (rnd : Option Nat) (τ : Tau) (ds : List Deferred) (s : St) (Q : Ex → WK) : Prop :=
 I.wop (.binOp .lss 3 (.const (τ 10)) (.const (.int .i64 4)) 3) 4 s fun v55_0 s0 =>
 wdec v55_0
 (I.call 101 [(τ 10)] s0 fun v59_1 s1 =>
 I.wop (.alloc 58) 0 s1 fun v11_2 s2 =>
 I.wop (.store 58 (.const v11_2) (.const v59_1)) 0 s2 fun _ s3 =>
 I.loop 80 rnd c88_1111101001001100 (U τ [(12, (.int .i64 0)), (11, v11_2), (59, v59_1), (58, (τ 10)), (55, (.bool true)), (55, v55_0), (54, (τ 10))]) ds s3 (fun τ ds s => ((lift Q) .ret) τ [] ds s) [(6, fun τ4 ds4 s4 =>
 I.wop (.binOp .add 3 (.const (τ4 10)) (.const (.int .i64 1)) 3) 3 s4 fun v57_5 s5 =>
 Q .normal (U τ4 [(10, v57_5), (57, v57_5), (56, (τ4 10))]) ds4 s5)])
 (Q (.exit 4) (U τ [(55, (.bool false)), (55, v55_0), (54, (τ 10))]) ds s0)
theorem x88_111110100 (I : Prims) (rnd : Option Nat) (τ : Tau) (ds : List Deferred) (s : St) (Q : Ex → WK) : xp I rnd 80 k88_111110100 c88_111110100 [] τ [] ds s (lift Q) = v88_111110100 I rnd τ ds s Q := by kernel_rfl
theorem n88_111110100 [Memo] (ro : Nat) (rnd : Option Nat) (τ : Tau) (ds : List Deferred) (s : St) (Q : Ex → WK) : wp P ro 80 rnd c88_111110100 τ ds s Q = v88_111110100 (prims P ro) rnd τ ds s Q := xp_wp rnd 80 P ro (x88_111110100 _ rnd τ ds s Q)
def v88_1111101001001100 (I : Prims) (rnd : Option Nat) (τ : Tau) (ds : List Deferred) (s : St) (Q : Ex → WK) : Prop :=
 I.wop (.binOp .lss 3 (.const (τ 12)) (.const (.int .i64 4)) 3) 4 s fun v61_0 s0 =>
 wdec v61_0
 (I.wop (.indexAddr 58 (.const (τ 9)) (.const (τ 10))) 0 s0 fun v67_1 s1 =>
 I.wop (.load 24 (.const v67_1)) 24 s1 fun v68_2 s2 =>
 veq v68_2 v68_2 = true ∧ I.wop (.indexAddr 58 (.const (τ 11)) (.const (τ 12))) 0 s2 fun v71_3 s3 =>
 I.wop (.load 24 (.const v71_3)) 24 s3 fun v72_4 s4 =>
 veq v72_4 v72_4 = true ∧ I.wop (.indexAddr 58 (.const (τ 5)) (.const (τ 12))) 0 s4 fun v74_5 s5 =>
 I.wop (.load 24 (.const v74_5)) 24 s5 fun v75_6 s6 =>
 veq v75_6 v75_6 = true ∧ I.call 72 [(τ 0), v72_4, v75_6] s6 fun v76_7 s7 =>
 Keeps [(4, .ptr v67_1)] s6 s7 ∧ I.call 66 [(τ 0), v68_2, v76_7] s7 fun v77_8 s8 =>
 I.wop (.indexAddr 58 (.const (τ 9)) (.const (τ 10))) 0 s8 fun v78_9 s9 =>
 I.wop (.store 24 (.const v78_9) (.const v77_8)) 0 s9 fun _ s10 =>
 I.wop (.binOp .add 3 (.const (τ 12)) (.const (.int .i64 1)) 3) 3 s10 fun v63_11 s11 =>
 Q .normal (U τ [(12, v63_11), (63, v63_11), (62, (τ 12)), (78, v78_9), (77, v77_8), (76, v76_7), (75, v75_6), (74, v74_5), (73, (τ 12)), (72, v72_4), (71, v71_3), (70, (τ 12)), (69, (τ 0)), (68, v68_2), (67, v67_1), (66, (τ 10)), (65, (τ 0)), (64, (τ 10)), (61, (.bool true)), (61, v61_0), (60, (τ 12))]) ds s11)
 (Q (.exit 6) (U τ [(61, (.bool false)), (61, v61_0), (60, (τ 12))]) ds s0)
theorem x88_1111101001001100 (I : Prims) (rnd : Option Nat) (τ : Tau) (ds : List Deferred) (s : St) (Q : Ex → WK) : xp I rnd 80 k88_1111101001001100 c88_1111101001001100 [] τ [] ds s (lift Q) = v88_1111101001001100 I rnd τ ds s Q := by kernel_rfl
theorem n88_1111101001001100 [Memo] (ro : Nat) (rnd : Option Nat) (τ : Tau) (ds : List Deferred) (s : St) (Q : Ex → WK) : wp P ro 80 rnd c88_1111101001001100 τ ds s Q = v88_1111101001001100 (prims P ro) rnd τ ds s Q := xp_wp rnd 80 P ro (x88_1111101001001100 _ rnd τ ds s Q)
def v88 (I : Prims) (a0 a1 a2 : Value) (si : St) (K : Value → St → Prop) : Prop :=
 I.wop (.box 58 (.const a2)) 0 (ent si) fun v5_0 s0 =>
 I.wop (.alloc 58) 0 s0 fun v6_1 s1 =>
 I.call 16 [a0] s1 fun v14_2 s2 =>
 I.wop (.unOp .not 4 (.const v14_2)) 4 s2 fun v15_3 s3 =>
 wdec v15_3
 (I.wop (.build 58 ⟨[]⟩) 58 s3 fun v24_4 s4 =>
 I.wop (.store 58 (.const v6_1) (.const v24_4)) 0 s4 fun _ s5 =>
 I.wop (.load 58 (.const v6_1)) 58 s5 fun v6_6 _ =>
 I.fin si K v6_6 s5)
 (I.wop (.binOp .lss 3 (.const a1) (.const (.int .i64 0)) 3) 4 s3 fun v18_7 s7 =>
 wdec v18_7
 (I.wop (.build 58 ⟨[]⟩) 58 s7 fun v24_8 s8 =>
 I.wop (.store 58 (.const v6_1) (.const v24_8)) 0 s8 fun _ s9 =>
 I.wop (.load 58 (.const v6_1)) 58 s9 fun v6_10 _ =>
 I.fin si K v6_10 s9)
 (I.wop (.binOp .gtr 3 (.const a1) (.const (.int .i64 7)) 3) 4 s7 fun v22_11 s11 =>
 wdec v22_11
 (I.wop (.build 58 ⟨[]⟩) 58 s11 fun v24_12 s12 =>
 I.wop (.store 58 (.const v6_1) (.const v24_12)) 0 s12 fun _ s13 =>
 I.wop (.load 58 (.const v6_1)) 58 s13 fun v6_14 _ =>
 I.fin si K v6_14 s13)
 (I.loop 80 none c88_110100 (U undefT [(7, (.int .i64 0)), (23, (.bool false)), (23, v22_11), (20, (.bool false)), (22, v22_11), (20, (.bool false)), (21, a1), (20, (.bool false)), (20, v18_7), (19, v18_7), (16, (.bool false)), (18, v18_7), (16, (.bool false)), (17, a1), (16, (.bool false)), (16, v15_3), (15, v15_3), (14, v14_2), (13, a0), (6, v6_1), (5, v5_0), (0, a0), (1, a1), (2, a2)]) [] s11 (fun τ ds s => ((xleave I si Tryd.f88.results.toList K) .ret) τ [] ds s) [(0, fun τ15 ds15 s15 =>
 I.loop 80 none c88_1110100 (U τ15 [(8, (.int .i64 0))]) ds15 s15 (fun τ ds s => ((xleave I si Tryd.f88.results.toList K) .ret) τ [] ds s) [(2, fun τ16 ds16 s16 =>
 I.wop (.alloc 58) 0 s16 fun v9_17 s17 =>
 I.loop 80 none c88_111110100 (U τ16 [(10, (.int .i64 0)), (9, v9_17)]) ds16 s17 (fun τ ds s => ((xleave I si Tryd.f88.results.toList K) .ret) τ [] ds s) [(4, fun τ18 ds18 s18 =>
 I.wop (.load 58 (.const (τ18 9))) 58 s18 fun v79_19 s19 =>
 I.wop (.store 58 (.const (τ18 6)) (.const v79_19)) 0 s19 fun _ s20 =>
 xdefers I ds18 s20 fun s21 =>
 I.wop (.load 58 (.const (τ18 6))) 58 s21 fun v6_22 _ =>
 I.fin si K v6_22 s21), (6, fun _ _ _ =>
 False)])])])))
theorem x88 (I : Prims) (a0 a1 a2 : Value) (si : St) (K : Value → St → Prop) : xbody I 80 k88 Tryd.f88 c88 [a0, a1, a2] si K = v88 I a0 a1 a2 si K := by kernel_rfl
theorem n88 [Memo] (ro : Nat) (a0 a1 a2 : Value) (si : St) (K : Value → St → Prop) : wbody P ro 80 Tryd.f88 c88 [a0, a1, a2] si K = v88 (prims P ro) a0 a1 a2 si K := xbody_eq 80 P ro (x88 _ a0 a1 a2 si K)
/- slices.ContainsFunc[[][2]int,[2]int] -/
noncomputable def c89 : Code := bodyOf Tryd.f89
def k89 : List (List Nat) := []
theorem b89 : BodyOk P 9 2 89 Tryd.f89 c89 := ⟨Tryd.func89, by kernel_rfl, by kernel_rfl, by kernel_rfl, by kernel_rfl, by kernel_rfl⟩
def v89 (I : Prims) (a0 a1 : Value) (si : St) (K : Value → St → Prop) : Prop :=
 I.call 102 [a0, a1] (ent si) fun v7_0 s0 =>
 I.wop (.binOp .geq 3 (.const v7_0) (.const (.int .i64 0)) 3) 4 s0 fun v8_1 s1 =>
 I.fin si K v8_1 s1
theorem x89 (I : Prims) (a0 a1 : Value) (si : St) (K : Value → St → Prop) : xbody I 9 k89 Tryd.f89 c89 [a0, a1] si K = v89 I a0 a1 si K := by kernel_rfl
theorem n89 [Memo] (ro : Nat) (a0 a1 : Value) (si : St) (K : Value → St → Prop) : wbody P ro 9 Tryd.f89 c89 [a0, a1] si K = v89 (prims P ro) a0 a1 si K := xbody_eq 9 P ro (x89 _ a0 a1 si K)
/- (*attestor/circuit.Builder).pairs$1 -/
noncomputable def c90 : Code := bodyOf Tryd.f90
def k90 : List (List Nat) := []
theorem b90 : BodyOk P 8 2 90 Tryd.f90 c90 := ⟨Tryd.func90, by kernel_rfl, by kernel_rfl, by kernel_rfl, by kernel_rfl, by kernel_rfl⟩
def v90 (I : Prims) (a0 a1 : Value) (si : St) (K : Value → St → Prop) : Prop :=
 I.wop (.box 47 (.const a0)) 0 (ent si) fun v2_0 s0 =>
 I.wop (.load 25 (.const a1)) 25 s0 fun v4_1 s1 =>
 veq v4_1 v4_1 = true ∧ I.wop (.slice 47 (.const v2_0) none none none) 30 s1 fun v5_2 s2 =>
 I.call 39 [v4_1, v5_2] s2 fun v6_3 s3 =>
 I.wop (.unOp .not 4 (.const v6_3)) 4 s3 fun v7_4 s4 =>
 I.fin si K v7_4 s4
theorem x90 (I : Prims) (a0 a1 : Value) (si : St) (K : Value → St → Prop) : xbody I 8 k90 Tryd.f90 c90 [a0, a1] si K = v90 I a0 a1 si K := by kernel_rfl
theorem n90 [Memo] (ro : Nat) (a0 a1 : Value) (si : St) (K : Value → St → Prop) : wbody P ro 8 Tryd.f90 c90 [a0, a1] si K = v90 (prims P ro) a0 a1 si K := xbody_eq 8 P ro (x90 _ a0 a1 si K)
end Go.VE
