/-
  What the functions' code does, operation by operation.
-/
import Derived.Test.YtedoeeeomfgjnaaDoorTy
set_option linter.unusedSimpArgs false
set_option linter.unusedVariables false
namespace Go.VE
open Go Go.Proofs
/- attestor/attestorlaw20.LexisKnown -/
noncomputable def c9 : Code := bodyOf Tryd.f9
noncomputable def c9_111 : Code := subCode [1, 1, 1] c9
noncomputable def c9_111111111 : Code := subCode [1, 1, 1, 1, 1, 1, 1, 1, 1] c9
noncomputable def c9_111111111111110100 : Code := subCode [1, 1, 1, 1, 1, 1, 1, 1, 1, 1, 1, 1, 1, 1, 0, 1, 0, 0] c9
noncomputable def c9_1111111111111111111 : Code := subCode [1, 1, 1, 1, 1, 1, 1, 1, 1, 1, 1, 1, 1, 1, 1, 1, 1, 1, 1] c9
def k9 : List (List Nat) := [[1, 1, 1], [1, 1, 1, 1, 1, 1, 1, 1, 1], [1, 1, 1, 1, 1, 1, 1, 1, 1, 1, 1, 1, 1, 1, 1, 1, 1, 1, 1]]
def k9_111111111111110100 : List (List Nat) := []
theorem l9_111111111111110100 : ltCode 234 c9_111111111111110100 = true := by kernel_rfl
theorem m9_111111111111110100 : notMap c9_111111111111110100 = true := by kernel_rfl
theorem b9 : BodyOk P 234 0 9 Tryd.f9 c9 := ⟨Tryd.func9, by kernel_rfl, by kernel_rfl, by kernel_rfl, by kernel_rfl, by kernel_rfl⟩
def v9_111 (I : Prims) (τ : Tau) (ds : List Deferred) (s : St) (Q : Ex → XK) : Prop :=
 I.call 10 [(.string (ByteArray.mk #[97, 32, 46, 32, 98]))] s fun v74_0 s0 =>
 I.wop (.extract (.const v74_0) 0) 22 s0 fun v75_1 s1 =>
 I.wop (.extract (.const v74_0) 1) 3 s1 fun v76_2 s2 =>
 I.wop (.extract (.const v74_0) 2) 23 s2 fun v77_3 s3 =>
 I.call 10 [(.string (ByteArray.mk #[48, 49]))] s3 fun v79_4 s4 =>
 I.wop (.extract (.const v79_4) 0) 22 s4 fun v80_5 s5 =>
 I.wop (.extract (.const v79_4) 1) 3 s5 fun v81_6 s6 =>
 I.wop (.extract (.const v79_4) 2) 23 s6 fun v82_7 s7 =>
 I.call 10 [(.string (ByteArray.mk #[32, 63]))] s7 fun v84_8 s8 =>
 I.wop (.extract (.const v84_8) 0) 22 s8 fun v85_9 s9 =>
 I.wop (.extract (.const v84_8) 1) 3 s9 fun v86_10 s10 =>
 I.wop (.extract (.const v84_8) 2) 23 s10 fun v87_11 s11 =>
 I.call 10 [(.string (ByteArray.mk #[120, 49, 50, 51, 52, 53, 54, 55, 56, 57, 48, 49, 50, 51, 52, 53, 54, 55, 56, 57, 32, 120, 49, 50, 51, 52, 53, 54, 55, 56, 57, 48, 49, 50, 51, 52, 53, 54, 55, 56, 57, 48]))] s11 fun v89_12 s12 =>
 I.wop (.extract (.const v89_12) 0) 22 s12 fun v90_13 s13 =>
 I.wop (.extract (.const v89_12) 1) 3 s13 fun v91_14 s14 =>
 I.wop (.extract (.const v89_12) 2) 23 s14 fun v92_15 s15 =>
 I.call 10 [(.string (ByteArray.mk #[57, 57, 57, 57, 57, 57, 57, 57, 57, 57, 57, 57, 57, 57, 57, 57, 57, 57, 32, 49, 48, 48, 48, 48, 48, 48, 48, 48, 48, 48, 48, 48, 48, 48, 48, 48, 48, 48]))] s15 fun v94_16 s16 =>
 I.wop (.extract (.const v94_16) 0) 22 s16 fun v95_17 s17 =>
 I.wop (.extract (.const v94_16) 1) 3 s17 fun v96_18 s18 =>
 I.wop (.extract (.const v94_16) 2) 23 s18 fun v97_19 s19 =>
 I.wop (.binOp .eql 3 (.const v76_2) (.const (.int .i64 2)) 3) 4 s19 fun v99_20 s20 =>
 wdec v99_20
 (I.wop (.binOp .eql 23 (.const v77_3) (.const (.int .i64 4)) 23) 4 s20 fun v102_21 s21 =>
 wdec v102_21
 (I.wop (.binOp .eql 3 (.const v81_6) (.const (.int .i64 0)) 3) 4 s21 fun v106_22 s22 =>
 wdec v106_22
 (I.wop (.binOp .eql 23 (.const v82_7) (.const (.int .i64 4)) 23) 4 s22 fun v110_23 s23 =>
 wdec v110_23
 (I.wop (.binOp .eql 3 (.const v86_10) (.const (.int .i64 1)) 3) 4 s23 fun v114_24 s24 =>
 wdec v114_24
 (I.wop (.binOp .eql 23 (.const v87_11) (.const (.int .i64 4)) 23) 4 s24 fun v118_25 s25 =>
 wdec v118_25
 (I.wop (.binOp .eql 3 (.const v91_14) (.const (.int .i64 21)) 3) 4 s25 fun v122_26 s26 =>
 wdec v122_26
 (I.wop (.binOp .eql 23 (.const v92_15) (.const (.int .i64 3)) 23) 4 s26 fun v126_27 s27 =>
 wdec v126_27
 (I.wop (.binOp .eql 3 (.const v96_18) (.const (.int .i64 19)) 3) 4 s27 fun v130_28 s28 =>
 wdec v130_28
 (I.wop (.binOp .eql 23 (.const v97_19) (.const (.int .i64 3)) 23) 4 s28 fun v134_29 s29 =>
 I.hold (xp I none 234 k9 c9_111111111 [1, 1, 1, 1, 1, 1, 1, 1, 1] (U τ [(20, v134_29), (135, v134_29), (132, (.bool true)), (134, v134_29), (132, (.bool true)), (133, v97_19), (132, (.bool true)), (132, v130_28), (131, v130_28), (128, (.bool true)), (130, v130_28), (128, (.bool true)), (129, v96_18), (128, (.bool true)), (128, v126_27), (127, v126_27), (124, (.bool true)), (126, v126_27), (124, (.bool true)), (125, v92_15), (124, (.bool true)), (124, v122_26), (123, v122_26), (120, (.bool true)), (122, v122_26), (120, (.bool true)), (121, v91_14), (120, (.bool true)), (120, v118_25), (119, v118_25), (116, (.bool true)), (118, v118_25), (116, (.bool true)), (117, v87_11), (116, (.bool true)), (116, v114_24), (115, v114_24), (112, (.bool true)), (114, v114_24), (112, (.bool true)), (113, v86_10), (112, (.bool true)), (112, v110_23), (111, v110_23), (108, (.bool true)), (110, v110_23), (108, (.bool true)), (109, v82_7), (108, (.bool true)), (108, v106_22), (107, v106_22), (104, (.bool true)), (106, v106_22), (104, (.bool true)), (105, v81_6), (104, (.bool true)), (104, v102_21), (103, v102_21), (100, (.bool true)), (102, v102_21), (100, (.bool true)), (101, v77_3), (100, (.bool true)), (100, v99_20), (99, v99_20), (98, v76_2), (19, v97_19), (18, v96_18), (17, v95_17), (97, v97_19), (96, v96_18), (95, v95_17), (93, v94_16), (94, v94_16), (16, v92_15), (15, v91_14), (14, v90_13), (92, v92_15), (91, v91_14), (90, v90_13), (88, v89_12), (89, v89_12), (13, v87_11), (12, v86_10), (11, v85_9), (87, v87_11), (86, v86_10), (85, v85_9), (83, v84_8), (84, v84_8), (10, v82_7), (9, v81_6), (8, v80_5), (82, v82_7), (81, v81_6), (80, v80_5), (78, v79_4), (79, v79_4), (7, v77_3), (6, v76_2), (5, v75_1), (77, v77_3), (76, v76_2), (75, v75_1), (73, v74_0), (74, v74_0)]) [] ds s29 Q))
 (I.hold (xp I none 234 k9 c9_111111111 [1, 1, 1, 1, 1, 1, 1, 1, 1] (U τ [(20, (.bool false)), (135, (.bool false)), (132, (.bool false)), (134, undef), (132, (.bool false)), (133, undef), (132, (.bool false)), (132, v130_28), (131, v130_28), (128, (.bool true)), (130, v130_28), (128, (.bool true)), (129, v96_18), (128, (.bool true)), (128, v126_27), (127, v126_27), (124, (.bool true)), (126, v126_27), (124, (.bool true)), (125, v92_15), (124, (.bool true)), (124, v122_26), (123, v122_26), (120, (.bool true)), (122, v122_26), (120, (.bool true)), (121, v91_14), (120, (.bool true)), (120, v118_25), (119, v118_25), (116, (.bool true)), (118, v118_25), (116, (.bool true)), (117, v87_11), (116, (.bool true)), (116, v114_24), (115, v114_24), (112, (.bool true)), (114, v114_24), (112, (.bool true)), (113, v86_10), (112, (.bool true)), (112, v110_23), (111, v110_23), (108, (.bool true)), (110, v110_23), (108, (.bool true)), (109, v82_7), (108, (.bool true)), (108, v106_22), (107, v106_22), (104, (.bool true)), (106, v106_22), (104, (.bool true)), (105, v81_6), (104, (.bool true)), (104, v102_21), (103, v102_21), (100, (.bool true)), (102, v102_21), (100, (.bool true)), (101, v77_3), (100, (.bool true)), (100, v99_20), (99, v99_20), (98, v76_2), (19, v97_19), (18, v96_18), (17, v95_17), (97, v97_19), (96, v96_18), (95, v95_17), (93, v94_16), (94, v94_16), (16, v92_15), (15, v91_14), (14, v90_13), (92, v92_15), (91, v91_14), (90, v90_13), (88, v89_12), (89, v89_12), (13, v87_11), (12, v86_10), (11, v85_9), (87, v87_11), (86, v86_10), (85, v85_9), (83, v84_8), (84, v84_8), (10, v82_7), (9, v81_6), (8, v80_5), (82, v82_7), (81, v81_6), (80, v80_5), (78, v79_4), (79, v79_4), (7, v77_3), (6, v76_2), (5, v75_1), (77, v77_3), (76, v76_2), (75, v75_1), (73, v74_0), (74, v74_0)]) [] ds s28 Q)))
 (I.hold (xp I none 234 k9 c9_111111111 [1, 1, 1, 1, 1, 1, 1, 1, 1] (U τ [(20, (.bool false)), (135, (.bool false)), (132, (.bool false)), (134, undef), (132, (.bool false)), (133, undef), (132, (.bool false)), (132, (.bool false)), (131, (.bool false)), (128, (.bool false)), (130, undef), (128, (.bool false)), (129, undef), (128, (.bool false)), (128, v126_27), (127, v126_27), (124, (.bool true)), (126, v126_27), (124, (.bool true)), (125, v92_15), (124, (.bool true)), (124, v122_26), (123, v122_26), (120, (.bool true)), (122, v122_26), (120, (.bool true)), (121, v91_14), (120, (.bool true)), (120, v118_25), (119, v118_25), (116, (.bool true)), (118, v118_25), (116, (.bool true)), (117, v87_11), (116, (.bool true)), (116, v114_24), (115, v114_24), (112, (.bool true)), (114, v114_24), (112, (.bool true)), (113, v86_10), (112, (.bool true)), (112, v110_23), (111, v110_23), (108, (.bool true)), (110, v110_23), (108, (.bool true)), (109, v82_7), (108, (.bool true)), (108, v106_22), (107, v106_22), (104, (.bool true)), (106, v106_22), (104, (.bool true)), (105, v81_6), (104, (.bool true)), (104, v102_21), (103, v102_21), (100, (.bool true)), (102, v102_21), (100, (.bool true)), (101, v77_3), (100, (.bool true)), (100, v99_20), (99, v99_20), (98, v76_2), (19, v97_19), (18, v96_18), (17, v95_17), (97, v97_19), (96, v96_18), (95, v95_17), (93, v94_16), (94, v94_16), (16, v92_15), (15, v91_14), (14, v90_13), (92, v92_15), (91, v91_14), (90, v90_13), (88, v89_12), (89, v89_12), (13, v87_11), (12, v86_10), (11, v85_9), (87, v87_11), (86, v86_10), (85, v85_9), (83, v84_8), (84, v84_8), (10, v82_7), (9, v81_6), (8, v80_5), (82, v82_7), (81, v81_6), (80, v80_5), (78, v79_4), (79, v79_4), (7, v77_3), (6, v76_2), (5, v75_1), (77, v77_3), (76, v76_2), (75, v75_1), (73, v74_0), (74, v74_0)]) [] ds s27 Q)))
 (I.hold (xp I none 234 k9 c9_111111111 [1, 1, 1, 1, 1, 1, 1, 1, 1] (U τ [(20, (.bool false)), (135, (.bool false)), (132, (.bool false)), (134, undef), (132, (.bool false)), (133, undef), (132, (.bool false)), (132, (.bool false)), (131, (.bool false)), (128, (.bool false)), (130, undef), (128, (.bool false)), (129, undef), (128, (.bool false)), (128, (.bool false)), (127, (.bool false)), (124, (.bool false)), (126, undef), (124, (.bool false)), (125, undef), (124, (.bool false)), (124, v122_26), (123, v122_26), (120, (.bool true)), (122, v122_26), (120, (.bool true)), (121, v91_14), (120, (.bool true)), (120, v118_25), (119, v118_25), (116, (.bool true)), (118, v118_25), (116, (.bool true)), (117, v87_11), (116, (.bool true)), (116, v114_24), (115, v114_24), (112, (.bool true)), (114, v114_24), (112, (.bool true)), (113, v86_10), (112, (.bool true)), (112, v110_23), (111, v110_23), (108, (.bool true)), (110, v110_23), (108, (.bool true)), (109, v82_7), (108, (.bool true)), (108, v106_22), (107, v106_22), (104, (.bool true)), (106, v106_22), (104, (.bool true)), (105, v81_6), (104, (.bool true)), (104, v102_21), (103, v102_21), (100, (.bool true)), (102, v102_21), (100, (.bool true)), (101, v77_3), (100, (.bool true)), (100, v99_20), (99, v99_20), (98, v76_2), (19, v97_19), (18, v96_18), (17, v95_17), (97, v97_19), (96, v96_18), (95, v95_17), (93, v94_16), (94, v94_16), (16, v92_15), (15, v91_14), (14, v90_13), (92, v92_15), (91, v91_14), (90, v90_13), (88, v89_12), (89, v89_12), (13, v87_11), (12, v86_10), (11, v85_9), (87, v87_11), (86, v86_10), (85, v85_9), (83, v84_8), (84, v84_8), (10, v82_7), (9, v81_6), (8, v80_5), (82, v82_7), (81, v81_6), (80, v80_5), (78, v79_4), (79, v79_4), (7, v77_3), (6, v76_2), (5, v75_1), (77, v77_3), (76, v76_2), (75, v75_1), (73, v74_0), (74, v74_0)]) [] ds s26 Q)))
 (I.hold (xp I none 234 k9 c9_111111111 [1, 1, 1, 1, 1, 1, 1, 1, 1] (U τ [(20, (.bool false)), (135, (.bool false)), (132, (.bool false)), (134, undef), (132, (.bool false)), (133, undef), (132, (.bool false)), (132, (.bool false)), (131, (.bool false)), (128, (.bool false)), (130, undef), (128, (.bool false)), (129, undef), (128, (.bool false)), (128, (.bool false)), (127, (.bool false)), (124, (.bool false)), (126, undef), (124, (.bool false)), (125, undef), (124, (.bool false)), (124, (.bool false)), (123, (.bool false)), (120, (.bool false)), (122, undef), (120, (.bool false)), (121, undef), (120, (.bool false)), (120, v118_25), (119, v118_25), (116, (.bool true)), (118, v118_25), (116, (.bool true)), (117, v87_11), (116, (.bool true)), (116, v114_24), (115, v114_24), (112, (.bool true)), (114, v114_24), (112, (.bool true)), (113, v86_10), (112, (.bool true)), (112, v110_23), (111, v110_23), (108, (.bool true)), (110, v110_23), (108, (.bool true)), (109, v82_7), (108, (.bool true)), (108, v106_22), (107, v106_22), (104, (.bool true)), (106, v106_22), (104, (.bool true)), (105, v81_6), (104, (.bool true)), (104, v102_21), (103, v102_21), (100, (.bool true)), (102, v102_21), (100, (.bool true)), (101, v77_3), (100, (.bool true)), (100, v99_20), (99, v99_20), (98, v76_2), (19, v97_19), (18, v96_18), (17, v95_17), (97, v97_19), (96, v96_18), (95, v95_17), (93, v94_16), (94, v94_16), (16, v92_15), (15, v91_14), (14, v90_13), (92, v92_15), (91, v91_14), (90, v90_13), (88, v89_12), (89, v89_12), (13, v87_11), (12, v86_10), (11, v85_9), (87, v87_11), (86, v86_10), (85, v85_9), (83, v84_8), (84, v84_8), (10, v82_7), (9, v81_6), (8, v80_5), (82, v82_7), (81, v81_6), (80, v80_5), (78, v79_4), (79, v79_4), (7, v77_3), (6, v76_2), (5, v75_1), (77, v77_3), (76, v76_2), (75, v75_1), (73, v74_0), (74, v74_0)]) [] ds s25 Q)))
 (I.hold (xp I none 234 k9 c9_111111111 [1, 1, 1, 1, 1, 1, 1, 1, 1] (U τ [(20, (.bool false)), (135, (.bool false)), (132, (.bool false)), (134, undef), (132, (.bool false)), (133, undef), (132, (.bool false)), (132, (.bool false)), (131, (.bool false)), (128, (.bool false)), (130, undef), (128, (.bool false)), (129, undef), (128, (.bool false)), (128, (.bool false)), (127, (.bool false)), (124, (.bool false)), (126, undef), (124, (.bool false)), (125, undef), (124, (.bool false)), (124, (.bool false)), (123, (.bool false)), (120, (.bool false)), (122, undef), (120, (.bool false)), (121, undef), (120, (.bool false)), (120, (.bool false)), (119, (.bool false)), (116, (.bool false)), (118, undef), (116, (.bool false)), (117, undef), (116, (.bool false)), (116, v114_24), (115, v114_24), (112, (.bool true)), (114, v114_24), (112, (.bool true)), (113, v86_10), (112, (.bool true)), (112, v110_23), (111, v110_23), (108, (.bool true)), (110, v110_23), (108, (.bool true)), (109, v82_7), (108, (.bool true)), (108, v106_22), (107, v106_22), (104, (.bool true)), (106, v106_22), (104, (.bool true)), (105, v81_6), (104, (.bool true)), (104, v102_21), (103, v102_21), (100, (.bool true)), (102, v102_21), (100, (.bool true)), (101, v77_3), (100, (.bool true)), (100, v99_20), (99, v99_20), (98, v76_2), (19, v97_19), (18, v96_18), (17, v95_17), (97, v97_19), (96, v96_18), (95, v95_17), (93, v94_16), (94, v94_16), (16, v92_15), (15, v91_14), (14, v90_13), (92, v92_15), (91, v91_14), (90, v90_13), (88, v89_12), (89, v89_12), (13, v87_11), (12, v86_10), (11, v85_9), (87, v87_11), (86, v86_10), (85, v85_9), (83, v84_8), (84, v84_8), (10, v82_7), (9, v81_6), (8, v80_5), (82, v82_7), (81, v81_6), (80, v80_5), (78, v79_4), (79, v79_4), (7, v77_3), (6, v76_2), (5, v75_1), (77, v77_3), (76, v76_2), (75, v75_1), (73, v74_0), (74, v74_0)]) [] ds s24 Q)))
 (I.hold (xp I none 234 k9 c9_111111111 [1, 1, 1, 1, 1, 1, 1, 1, 1] (U τ [(20, (.bool false)), (135, (.bool false)), (132, (.bool false)), (134, undef), (132, (.bool false)), (133, undef), (132, (.bool false)), (132, (.bool false)), (131, (.bool false)), (128, (.bool false)), (130, undef), (128, (.bool false)), (129, undef), (128, (.bool false)), (128, (.bool false)), (127, (.bool false)), (124, (.bool false)), (126, undef), (124, (.bool false)), (125, undef), (124, (.bool false)), (124, (.bool false)), (123, (.bool false)), (120, (.bool false)), (122, undef), (120, (.bool false)), (121, undef), (120, (.bool false)), (120, (.bool false)), (119, (.bool false)), (116, (.bool false)), (118, undef), (116, (.bool false)), (117, undef), (116, (.bool false)), (116, (.bool false)), (115, (.bool false)), (112, (.bool false)), (114, undef), (112, (.bool false)), (113, undef), (112, (.bool false)), (112, v110_23), (111, v110_23), (108, (.bool true)), (110, v110_23), (108, (.bool true)), (109, v82_7), (108, (.bool true)), (108, v106_22), (107, v106_22), (104, (.bool true)), (106, v106_22), (104, (.bool true)), (105, v81_6), (104, (.bool true)), (104, v102_21), (103, v102_21), (100, (.bool true)), (102, v102_21), (100, (.bool true)), (101, v77_3), (100, (.bool true)), (100, v99_20), (99, v99_20), (98, v76_2), (19, v97_19), (18, v96_18), (17, v95_17), (97, v97_19), (96, v96_18), (95, v95_17), (93, v94_16), (94, v94_16), (16, v92_15), (15, v91_14), (14, v90_13), (92, v92_15), (91, v91_14), (90, v90_13), (88, v89_12), (89, v89_12), (13, v87_11), (12, v86_10), (11, v85_9), (87, v87_11), (86, v86_10), (85, v85_9), (83, v84_8), (84, v84_8), (10, v82_7), (9, v81_6), (8, v80_5), (82, v82_7), (81, v81_6), (80, v80_5), (78, v79_4), (79, v79_4), (7, v77_3), (6, v76_2), (5, v75_1), (77, v77_3), (76, v76_2), (75, v75_1), (73, v74_0), (74, v74_0)]) [] ds s23 Q)))
 (I.hold (xp I none 234 k9 c9_111111111 [1, 1, 1, 1, 1, 1, 1, 1, 1] (U τ [(20, (.bool false)), (135, (.bool false)), (132, (.bool false)), (134, undef), (132, (.bool false)), (133, undef), (132, (.bool false)), (132, (.bool false)), (131, (.bool false)), (128, (.bool false)), (130, undef), (128, (.bool false)), (129, undef), (128, (.bool false)), (128, (.bool false)), (127, (.bool false)), (124, (.bool false)), (126, undef), (124, (.bool false)), (125, undef), (124, (.bool false)), (124, (.bool false)), (123, (.bool false)), (120, (.bool false)), (122, undef), (120, (.bool false)), (121, undef), (120, (.bool false)), (120, (.bool false)), (119, (.bool false)), (116, (.bool false)), (118, undef), (116, (.bool false)), (117, undef), (116, (.bool false)), (116, (.bool false)), (115, (.bool false)), (112, (.bool false)), (114, undef), (112, (.bool false)), (113, undef), (112, (.bool false)), (112, (.bool false)), (111, (.bool false)), (108, (.bool false)), (110, undef), (108, (.bool false)), (109, undef), (108, (.bool false)), (108, v106_22), (107, v106_22), (104, (.bool true)), (106, v106_22), (104, (.bool true)), (105, v81_6), (104, (.bool true)), (104, v102_21), (103, v102_21), (100, (.bool true)), (102, v102_21), (100, (.bool true)), (101, v77_3), (100, (.bool true)), (100, v99_20), (99, v99_20), (98, v76_2), (19, v97_19), (18, v96_18), (17, v95_17), (97, v97_19), (96, v96_18), (95, v95_17), (93, v94_16), (94, v94_16), (16, v92_15), (15, v91_14), (14, v90_13), (92, v92_15), (91, v91_14), (90, v90_13), (88, v89_12), (89, v89_12), (13, v87_11), (12, v86_10), (11, v85_9), (87, v87_11), (86, v86_10), (85, v85_9), (83, v84_8), (84, v84_8), (10, v82_7), (9, v81_6), (8, v80_5), (82, v82_7), (81, v81_6), (80, v80_5), (78, v79_4), (79, v79_4), (7, v77_3), (6, v76_2), (5, v75_1), (77, v77_3), (76, v76_2), (75, v75_1), (73, v74_0), (74, v74_0)]) [] ds s22 Q)))
 (I.hold (xp I none 234 k9 c9_111111111 [1, 1, 1, 1, 1, 1, 1, 1, 1] (U τ [(20, (.bool false)), (135, (.bool false)), (132, (.bool false)), (134, undef), (132, (.bool false)), (133, undef), (132, (.bool false)), (132, (.bool false)), (131, (.bool false)), (128, (.bool false)), (130, undef), (128, (.bool false)), (129, undef), (128, (.bool false)), (128, (.bool false)), (127, (.bool false)), (124, (.bool false)), (126, undef), (124, (.bool false)), (125, undef), (124, (.bool false)), (124, (.bool false)), (123, (.bool false)), (120, (.bool false)), (122, undef), (120, (.bool false)), (121, undef), (120, (.bool false)), (120, (.bool false)), (119, (.bool false)), (116, (.bool false)), (118, undef), (116, (.bool false)), (117, undef), (116, (.bool false)), (116, (.bool false)), (115, (.bool false)), (112, (.bool false)), (114, undef), (112, (.bool false)), (113, undef), (112, (.bool false)), (112, (.bool false)), (111, (.bool false)), (108, (.bool false)), (110, undef), (108, (.bool false)), (109, undef), (108, (.bool false)), (108, (.bool false)), (107, (.bool false)), (104, (.bool false)), (106, undef), (104, (.bool false)), (105, undef), (104, (.bool false)), (104, v102_21), (103, v102_21), (100, (.bool true)), (102, v102_21), (100, (.bool true)), (101, v77_3), (100, (.bool true)), (100, v99_20), (99, v99_20), (98, v76_2), (19, v97_19), (18, v96_18), (17, v95_17), (97, v97_19), (96, v96_18), (95, v95_17), (93, v94_16), (94, v94_16), (16, v92_15), (15, v91_14), (14, v90_13), (92, v92_15), (91, v91_14), (90, v90_13), (88, v89_12), (89, v89_12), (13, v87_11), (12, v86_10), (11, v85_9), (87, v87_11), (86, v86_10), (85, v85_9), (83, v84_8), (84, v84_8), (10, v82_7), (9, v81_6), (8, v80_5), (82, v82_7), (81, v81_6), (80, v80_5), (78, v79_4), (79, v79_4), (7, v77_3), (6, v76_2), (5, v75_1), (77, v77_3), (76, v76_2), (75, v75_1), (73, v74_0), (74, v74_0)]) [] ds s21 Q)))
 (I.hold (xp I none 234 k9 c9_111111111 [1, 1, 1, 1, 1, 1, 1, 1, 1] (U τ [(20, (.bool false)), (135, (.bool false)), (132, (.bool false)), (134, undef), (132, (.bool false)), (133, undef), (132, (.bool false)), (132, (.bool false)), (131, (.bool false)), (128, (.bool false)), (130, undef), (128, (.bool false)), (129, undef), (128, (.bool false)), (128, (.bool false)), (127, (.bool false)), (124, (.bool false)), (126, undef), (124, (.bool false)), (125, undef), (124, (.bool false)), (124, (.bool false)), (123, (.bool false)), (120, (.bool false)), (122, undef), (120, (.bool false)), (121, undef), (120, (.bool false)), (120, (.bool false)), (119, (.bool false)), (116, (.bool false)), (118, undef), (116, (.bool false)), (117, undef), (116, (.bool false)), (116, (.bool false)), (115, (.bool false)), (112, (.bool false)), (114, undef), (112, (.bool false)), (113, undef), (112, (.bool false)), (112, (.bool false)), (111, (.bool false)), (108, (.bool false)), (110, undef), (108, (.bool false)), (109, undef), (108, (.bool false)), (108, (.bool false)), (107, (.bool false)), (104, (.bool false)), (106, undef), (104, (.bool false)), (105, undef), (104, (.bool false)), (104, (.bool false)), (103, (.bool false)), (100, (.bool false)), (102, undef), (100, (.bool false)), (101, undef), (100, (.bool false)), (100, v99_20), (99, v99_20), (98, v76_2), (19, v97_19), (18, v96_18), (17, v95_17), (97, v97_19), (96, v96_18), (95, v95_17), (93, v94_16), (94, v94_16), (16, v92_15), (15, v91_14), (14, v90_13), (92, v92_15), (91, v91_14), (90, v90_13), (88, v89_12), (89, v89_12), (13, v87_11), (12, v86_10), (11, v85_9), (87, v87_11), (86, v86_10), (85, v85_9), (83, v84_8), (84, v84_8), (10, v82_7), (9, v81_6), (8, v80_5), (82, v82_7), (81, v81_6), (80, v80_5), (78, v79_4), (79, v79_4), (7, v77_3), (6, v76_2), (5, v75_1), (77, v77_3), (76, v76_2), (75, v75_1), (73, v74_0), (74, v74_0)]) [] ds s20 Q))
theorem n9_111 (I : Prims) (τ : Tau) (ds : List Deferred) (s : St) (Q : Ex → XK) : xp I none 234 k9 c9_111 [1, 1, 1] τ [] ds s Q = v9_111 I τ ds s Q := by kernel_rfl
def v9_111111111 (I : Prims) (τ : Tau) (ds : List Deferred) (s : St) (Q : Ex → XK) : Prop :=
 I.call 10 [(.string (ByteArray.mk #[61, 61, 61, 46, 46, 46, 61, 61]))] s fun v137_0 s0 =>
 I.wop (.extract (.const v137_0) 0) 22 s0 fun v138_1 s1 =>
 I.wop (.extract (.const v137_0) 1) 3 s1 fun v139_2 s2 =>
 I.wop (.extract (.const v137_0) 2) 23 s2 fun v140_3 s3 =>
 I.wop (.build 35 ⟨[(0, (.const (.int .u8 1))), (1, (.const (.string (ByteArray.mk #[97, 32, 98]))))]⟩) 35 s3 fun v142_4 s4 =>
 I.wop (.buildSlice 22 1 ⟨[(0, (.const v142_4))]⟩) 22 s4 fun v143_5 s5 =>
 I.call 14 [v143_5] s5 fun v144_6 s6 =>
 I.wop (.extract (.const v144_6) 0) 9 s6 fun v145_7 s7 =>
 I.wop (.extract (.const v144_6) 1) 23 s7 fun v146_8 s8 =>
 I.wop (.build 35 ⟨[(0, (.const (.int .u8 2))), (1, (.const (.string (ByteArray.mk #[53])))), (2, (.const (.int .u64 6)))]⟩) 35 s8 fun v148_9 s9 =>
 I.wop (.buildSlice 22 1 ⟨[(0, (.const v148_9))]⟩) 22 s9 fun v149_10 s10 =>
 I.call 14 [v149_10] s10 fun v150_11 s11 =>
 I.wop (.extract (.const v150_11) 0) 9 s11 fun v151_12 s12 =>
 I.wop (.extract (.const v150_11) 1) 23 s12 fun v152_13 s13 =>
 I.wop (.build 35 ⟨[(0, (.const (.int .u8 3))), (1, (.const (.string (ByteArray.mk #[46]))))]⟩) 35 s13 fun v154_14 s14 =>
 I.wop (.buildSlice 22 1 ⟨[(0, (.const v154_14))]⟩) 22 s14 fun v155_15 s15 =>
 I.call 14 [v155_15] s15 fun v156_16 s16 =>
 I.wop (.extract (.const v156_16) 0) 9 s16 fun v157_17 s17 =>
 I.wop (.extract (.const v156_16) 1) 23 s17 fun v158_18 s18 =>
 I.wop (.makeSlice 22 (.const (.int .i64 2049)) (.const (.int .i64 2049))) 22 s18 fun v159_19 s19 =>
 I.loop 234 none c9_111111111111110100 (U τ [(31, (.int .i64 0)), (30, v159_19), (159, v159_19), (29, v158_18), (28, v157_17), (158, v158_18), (157, v157_17), (153, v156_16), (156, v156_16), (155, v155_15), (154, v154_14), (27, v152_13), (26, v151_12), (152, v152_13), (151, v151_12), (147, v150_11), (150, v150_11), (149, v149_10), (148, v148_9), (25, v146_8), (24, v145_7), (146, v146_8), (145, v145_7), (141, v144_6), (144, v144_6), (143, v143_5), (142, v142_4), (23, v140_3), (22, v139_2), (21, v138_1), (140, v140_3), (139, v139_2), (138, v138_1), (136, v137_0), (137, v137_0)]) ds s19 (fun τ ds s => (Q .ret) τ [] ds s) [(0, fun τ20 ds20 s20 =>
 I.wop (.slice 22 (.const (τ20 30)) none (some (.const (.int .i64 2048))) none) 22 s20 fun v170_21 s21 =>
 I.call 14 [v170_21] s21 fun v171_22 s22 =>
 I.wop (.extract (.const v171_22) 0) 9 s22 fun v172_23 s23 =>
 I.wop (.extract (.const v171_22) 1) 23 s23 fun v173_24 s24 =>
 I.call 14 [(τ20 30)] s24 fun v176_25 s25 =>
 I.wop (.extract (.const v176_25) 0) 9 s25 fun v177_26 s26 =>
 I.wop (.extract (.const v176_25) 1) 23 s26 fun v178_27 s27 =>
 I.call 10 [(.string (ByteArray.mk #[35]))] s27 fun v180_28 s28 =>
 I.wop (.extract (.const v180_28) 0) 22 s28 fun v181_29 s29 =>
 I.wop (.extract (.const v180_28) 1) 3 s29 fun v182_30 s30 =>
 I.wop (.extract (.const v180_28) 2) 23 s30 fun v183_31 s31 =>
 I.wop (.call ⟨.builtin .len, ⟨[(.const (τ20 21))]⟩, #[22]⟩) 3 s31 fun v185_32 s32 =>
 I.wop (.binOp .eql 3 (.const v185_32) (.const (.int .i64 0)) 3) 4 s32 fun v186_33 s33 =>
 wdec v186_33
 (I.wop (.binOp .eql 23 (.const (τ20 23)) (.const (.int .i64 4)) 23) 4 s33 fun v189_34 s34 =>
 wdec v189_34
 (I.wop (.binOp .eql 23 (.const (τ20 25)) (.const (.int .i64 1)) 23) 4 s34 fun v193_35 s35 =>
 wdec v193_35
 (I.wop (.binOp .eql 23 (.const (τ20 27)) (.const (.int .i64 1)) 23) 4 s35 fun v197_36 s36 =>
 wdec v197_36
 (I.wop (.binOp .eql 23 (.const (τ20 29)) (.const (.int .i64 1)) 23) 4 s36 fun v201_37 s37 =>
 wdec v201_37
 (I.wop (.binOp .eql 23 (.const v173_24) (.const (.int .i64 0)) 23) 4 s37 fun v205_38 s38 =>
 wdec v205_38
 (I.wop (.binOp .eql 23 (.const v178_27) (.const (.int .i64 3)) 23) 4 s38 fun v209_39 s39 =>
 wdec v209_39
 (I.wop (.call ⟨.builtin .len, ⟨[(.const v181_29)]⟩, #[22]⟩) 3 s39 fun v213_40 s40 =>
 I.wop (.binOp .eql 3 (.const v213_40) (.const (.int .i64 0)) 3) 4 s40 fun v214_41 s41 =>
 wdec v214_41
 (I.wop (.binOp .eql 3 (.const v182_30) (.const (.int .i64 0)) 3) 4 s41 fun v218_42 s42 =>
 wdec v218_42
 (I.wop (.binOp .eql 23 (.const v183_31) (.const (.int .i64 0)) 23) 4 s42 fun v222_43 s43 =>
 I.hold (xp I none 234 k9 c9_1111111111111111111 [1, 1, 1, 1, 1, 1, 1, 1, 1, 1, 1, 1, 1, 1, 1, 1, 1, 1, 1] (U τ20 [(39, v222_43), (223, v222_43), (220, (.bool true)), (222, v222_43), (220, (.bool true)), (221, v183_31), (220, (.bool true)), (220, v218_42), (219, v218_42), (216, (.bool true)), (218, v218_42), (216, (.bool true)), (217, v182_30), (216, (.bool true)), (216, v214_41), (215, v214_41), (211, (.bool true)), (214, v214_41), (211, (.bool true)), (213, v213_40), (211, (.bool true)), (212, v181_29), (211, (.bool true)), (211, v209_39), (210, v209_39), (207, (.bool true)), (209, v209_39), (207, (.bool true)), (208, v178_27), (207, (.bool true)), (207, v205_38), (206, v205_38), (203, (.bool true)), (205, v205_38), (203, (.bool true)), (204, v173_24), (203, (.bool true)), (203, v201_37), (202, v201_37), (199, (.bool true)), (201, v201_37), (199, (.bool true)), (200, (τ20 29)), (199, (.bool true)), (199, v197_36), (198, v197_36), (195, (.bool true)), (197, v197_36), (195, (.bool true)), (196, (τ20 27)), (195, (.bool true)), (195, v193_35), (194, v193_35), (191, (.bool true)), (193, v193_35), (191, (.bool true)), (192, (τ20 25)), (191, (.bool true)), (191, v189_34), (190, v189_34), (187, (.bool true)), (189, v189_34), (187, (.bool true)), (188, (τ20 23)), (187, (.bool true)), (187, v186_33), (186, v186_33), (185, v185_32), (184, (τ20 21)), (38, v183_31), (37, v182_30), (36, v181_29), (183, v183_31), (182, v182_30), (181, v181_29), (179, v180_28), (180, v180_28), (35, v178_27), (34, v177_26), (178, v178_27), (177, v177_26), (174, v176_25), (176, v176_25), (175, (τ20 30)), (33, v173_24), (32, v172_23), (173, v173_24), (172, v172_23), (168, v171_22), (171, v171_22), (170, v170_21), (169, (τ20 30))]) [] ds20 s43 Q))
 (I.hold (xp I none 234 k9 c9_1111111111111111111 [1, 1, 1, 1, 1, 1, 1, 1, 1, 1, 1, 1, 1, 1, 1, 1, 1, 1, 1] (U τ20 [(39, (.bool false)), (223, (.bool false)), (220, (.bool false)), (222, undef), (220, (.bool false)), (221, undef), (220, (.bool false)), (220, v218_42), (219, v218_42), (216, (.bool true)), (218, v218_42), (216, (.bool true)), (217, v182_30), (216, (.bool true)), (216, v214_41), (215, v214_41), (211, (.bool true)), (214, v214_41), (211, (.bool true)), (213, v213_40), (211, (.bool true)), (212, v181_29), (211, (.bool true)), (211, v209_39), (210, v209_39), (207, (.bool true)), (209, v209_39), (207, (.bool true)), (208, v178_27), (207, (.bool true)), (207, v205_38), (206, v205_38), (203, (.bool true)), (205, v205_38), (203, (.bool true)), (204, v173_24), (203, (.bool true)), (203, v201_37), (202, v201_37), (199, (.bool true)), (201, v201_37), (199, (.bool true)), (200, (τ20 29)), (199, (.bool true)), (199, v197_36), (198, v197_36), (195, (.bool true)), (197, v197_36), (195, (.bool true)), (196, (τ20 27)), (195, (.bool true)), (195, v193_35), (194, v193_35), (191, (.bool true)), (193, v193_35), (191, (.bool true)), (192, (τ20 25)), (191, (.bool true)), (191, v189_34), (190, v189_34), (187, (.bool true)), (189, v189_34), (187, (.bool true)), (188, (τ20 23)), (187, (.bool true)), (187, v186_33), (186, v186_33), (185, v185_32), (184, (τ20 21)), (38, v183_31), (37, v182_30), (36, v181_29), (183, v183_31), (182, v182_30), (181, v181_29), (179, v180_28), (180, v180_28), (35, v178_27), (34, v177_26), (178, v178_27), (177, v177_26), (174, v176_25), (176, v176_25), (175, (τ20 30)), (33, v173_24), (32, v172_23), (173, v173_24), (172, v172_23), (168, v171_22), (171, v171_22), (170, v170_21), (169, (τ20 30))]) [] ds20 s42 Q)))
 (I.hold (xp I none 234 k9 c9_1111111111111111111 [1, 1, 1, 1, 1, 1, 1, 1, 1, 1, 1, 1, 1, 1, 1, 1, 1, 1, 1] (U τ20 [(39, (.bool false)), (223, (.bool false)), (220, (.bool false)), (222, undef), (220, (.bool false)), (221, undef), (220, (.bool false)), (220, (.bool false)), (219, (.bool false)), (216, (.bool false)), (218, undef), (216, (.bool false)), (217, undef), (216, (.bool false)), (216, v214_41), (215, v214_41), (211, (.bool true)), (214, v214_41), (211, (.bool true)), (213, v213_40), (211, (.bool true)), (212, v181_29), (211, (.bool true)), (211, v209_39), (210, v209_39), (207, (.bool true)), (209, v209_39), (207, (.bool true)), (208, v178_27), (207, (.bool true)), (207, v205_38), (206, v205_38), (203, (.bool true)), (205, v205_38), (203, (.bool true)), (204, v173_24), (203, (.bool true)), (203, v201_37), (202, v201_37), (199, (.bool true)), (201, v201_37), (199, (.bool true)), (200, (τ20 29)), (199, (.bool true)), (199, v197_36), (198, v197_36), (195, (.bool true)), (197, v197_36), (195, (.bool true)), (196, (τ20 27)), (195, (.bool true)), (195, v193_35), (194, v193_35), (191, (.bool true)), (193, v193_35), (191, (.bool true)), (192, (τ20 25)), (191, (.bool true)), (191, v189_34), (190, v189_34), (187, (.bool true)), (189, v189_34), (187, (.bool true)), (188, (τ20 23)), (187, (.bool true)), (187, v186_33), (186, v186_33), (185, v185_32), (184, (τ20 21)), (38, v183_31), (37, v182_30), (36, v181_29), (183, v183_31), (182, v182_30), (181, v181_29), (179, v180_28), (180, v180_28), (35, v178_27), (34, v177_26), (178, v178_27), (177, v177_26), (174, v176_25), (176, v176_25), (175, (τ20 30)), (33, v173_24), (32, v172_23), (173, v173_24), (172, v172_23), (168, v171_22), (171, v171_22), (170, v170_21), (169, (τ20 30))]) [] ds20 s41 Q)))
 (I.hold (xp I none 234 k9 c9_1111111111111111111 [1, 1, 1, 1, 1, 1, 1, 1, 1, 1, 1, 1, 1, 1, 1, 1, 1, 1, 1] (U τ20 [(39, (.bool false)), (223, (.bool false)), (220, (.bool false)), (222, undef), (220, (.bool false)), (221, undef), (220, (.bool false)), (220, (.bool false)), (219, (.bool false)), (216, (.bool false)), (218, undef), (216, (.bool false)), (217, undef), (216, (.bool false)), (216, (.bool false)), (215, (.bool false)), (211, (.bool false)), (214, undef), (211, (.bool false)), (213, undef), (211, (.bool false)), (212, undef), (211, (.bool false)), (211, v209_39), (210, v209_39), (207, (.bool true)), (209, v209_39), (207, (.bool true)), (208, v178_27), (207, (.bool true)), (207, v205_38), (206, v205_38), (203, (.bool true)), (205, v205_38), (203, (.bool true)), (204, v173_24), (203, (.bool true)), (203, v201_37), (202, v201_37), (199, (.bool true)), (201, v201_37), (199, (.bool true)), (200, (τ20 29)), (199, (.bool true)), (199, v197_36), (198, v197_36), (195, (.bool true)), (197, v197_36), (195, (.bool true)), (196, (τ20 27)), (195, (.bool true)), (195, v193_35), (194, v193_35), (191, (.bool true)), (193, v193_35), (191, (.bool true)), (192, (τ20 25)), (191, (.bool true)), (191, v189_34), (190, v189_34), (187, (.bool true)), (189, v189_34), (187, (.bool true)), (188, (τ20 23)), (187, (.bool true)), (187, v186_33), (186, v186_33), (185, v185_32), (184, (τ20 21)), (38, v183_31), (37, v182_30), (36, v181_29), (183, v183_31), (182, v182_30), (181, v181_29), (179, v180_28), (180, v180_28), (35, v178_27), (34, v177_26), (178, v178_27), (177, v177_26), (174, v176_25), (176, v176_25), (175, (τ20 30)), (33, v173_24), (32, v172_23), (173, v173_24), (172, v172_23), (168, v171_22), (171, v171_22), (170, v170_21), (169, (τ20 30))]) [] ds20 s39 Q)))
 (I.hold (xp I none 234 k9 c9_1111111111111111111 [1, 1, 1, 1, 1, 1, 1, 1, 1, 1, 1, 1, 1, 1, 1, 1, 1, 1, 1] (U τ20 [(39, (.bool false)), (223, (.bool false)), (220, (.bool false)), (222, undef), (220, (.bool false)), (221, undef), (220, (.bool false)), (220, (.bool false)), (219, (.bool false)), (216, (.bool false)), (218, undef), (216, (.bool false)), (217, undef), (216, (.bool false)), (216, (.bool false)), (215, (.bool false)), (211, (.bool false)), (214, undef), (211, (.bool false)), (213, undef), (211, (.bool false)), (212, undef), (211, (.bool false)), (211, (.bool false)), (210, (.bool false)), (207, (.bool false)), (209, undef), (207, (.bool false)), (208, undef), (207, (.bool false)), (207, v205_38), (206, v205_38), (203, (.bool true)), (205, v205_38), (203, (.bool true)), (204, v173_24), (203, (.bool true)), (203, v201_37), (202, v201_37), (199, (.bool true)), (201, v201_37), (199, (.bool true)), (200, (τ20 29)), (199, (.bool true)), (199, v197_36), (198, v197_36), (195, (.bool true)), (197, v197_36), (195, (.bool true)), (196, (τ20 27)), (195, (.bool true)), (195, v193_35), (194, v193_35), (191, (.bool true)), (193, v193_35), (191, (.bool true)), (192, (τ20 25)), (191, (.bool true)), (191, v189_34), (190, v189_34), (187, (.bool true)), (189, v189_34), (187, (.bool true)), (188, (τ20 23)), (187, (.bool true)), (187, v186_33), (186, v186_33), (185, v185_32), (184, (τ20 21)), (38, v183_31), (37, v182_30), (36, v181_29), (183, v183_31), (182, v182_30), (181, v181_29), (179, v180_28), (180, v180_28), (35, v178_27), (34, v177_26), (178, v178_27), (177, v177_26), (174, v176_25), (176, v176_25), (175, (τ20 30)), (33, v173_24), (32, v172_23), (173, v173_24), (172, v172_23), (168, v171_22), (171, v171_22), (170, v170_21), (169, (τ20 30))]) [] ds20 s38 Q)))
 (I.hold (xp I none 234 k9 c9_1111111111111111111 [1, 1, 1, 1, 1, 1, 1, 1, 1, 1, 1, 1, 1, 1, 1, 1, 1, 1, 1] (U τ20 [(39, (.bool false)), (223, (.bool false)), (220, (.bool false)), (222, undef), (220, (.bool false)), (221, undef), (220, (.bool false)), (220, (.bool false)), (219, (.bool false)), (216, (.bool false)), (218, undef), (216, (.bool false)), (217, undef), (216, (.bool false)), (216, (.bool false)), (215, (.bool false)), (211, (.bool false)), (214, undef), (211, (.bool false)), (213, undef), (211, (.bool false)), (212, undef), (211, (.bool false)), (211, (.bool false)), (210, (.bool false)), (207, (.bool false)), (209, undef), (207, (.bool false)), (208, undef), (207, (.bool false)), (207, (.bool false)), (206, (.bool false)), (203, (.bool false)), (205, undef), (203, (.bool false)), (204, undef), (203, (.bool false)), (203, v201_37), (202, v201_37), (199, (.bool true)), (201, v201_37), (199, (.bool true)), (200, (τ20 29)), (199, (.bool true)), (199, v197_36), (198, v197_36), (195, (.bool true)), (197, v197_36), (195, (.bool true)), (196, (τ20 27)), (195, (.bool true)), (195, v193_35), (194, v193_35), (191, (.bool true)), (193, v193_35), (191, (.bool true)), (192, (τ20 25)), (191, (.bool true)), (191, v189_34), (190, v189_34), (187, (.bool true)), (189, v189_34), (187, (.bool true)), (188, (τ20 23)), (187, (.bool true)), (187, v186_33), (186, v186_33), (185, v185_32), (184, (τ20 21)), (38, v183_31), (37, v182_30), (36, v181_29), (183, v183_31), (182, v182_30), (181, v181_29), (179, v180_28), (180, v180_28), (35, v178_27), (34, v177_26), (178, v178_27), (177, v177_26), (174, v176_25), (176, v176_25), (175, (τ20 30)), (33, v173_24), (32, v172_23), (173, v173_24), (172, v172_23), (168, v171_22), (171, v171_22), (170, v170_21), (169, (τ20 30))]) [] ds20 s37 Q)))
 (I.hold (xp I none 234 k9 c9_1111111111111111111 [1, 1, 1, 1, 1, 1, 1, 1, 1, 1, 1, 1, 1, 1, 1, 1, 1, 1, 1] (U τ20 [(39, (.bool false)), (223, (.bool false)), (220, (.bool false)), (222, undef), (220, (.bool false)), (221, undef), (220, (.bool false)), (220, (.bool false)), (219, (.bool false)), (216, (.bool false)), (218, undef), (216, (.bool false)), (217, undef), (216, (.bool false)), (216, (.bool false)), (215, (.bool false)), (211, (.bool false)), (214, undef), (211, (.bool false)), (213, undef), (211, (.bool false)), (212, undef), (211, (.bool false)), (211, (.bool false)), (210, (.bool false)), (207, (.bool false)), (209, undef), (207, (.bool false)), (208, undef), (207, (.bool false)), (207, (.bool false)), (206, (.bool false)), (203, (.bool false)), (205, undef), (203, (.bool false)), (204, undef), (203, (.bool false)), (203, (.bool false)), (202, (.bool false)), (199, (.bool false)), (201, undef), (199, (.bool false)), (200, undef), (199, (.bool false)), (199, v197_36), (198, v197_36), (195, (.bool true)), (197, v197_36), (195, (.bool true)), (196, (τ20 27)), (195, (.bool true)), (195, v193_35), (194, v193_35), (191, (.bool true)), (193, v193_35), (191, (.bool true)), (192, (τ20 25)), (191, (.bool true)), (191, v189_34), (190, v189_34), (187, (.bool true)), (189, v189_34), (187, (.bool true)), (188, (τ20 23)), (187, (.bool true)), (187, v186_33), (186, v186_33), (185, v185_32), (184, (τ20 21)), (38, v183_31), (37, v182_30), (36, v181_29), (183, v183_31), (182, v182_30), (181, v181_29), (179, v180_28), (180, v180_28), (35, v178_27), (34, v177_26), (178, v178_27), (177, v177_26), (174, v176_25), (176, v176_25), (175, (τ20 30)), (33, v173_24), (32, v172_23), (173, v173_24), (172, v172_23), (168, v171_22), (171, v171_22), (170, v170_21), (169, (τ20 30))]) [] ds20 s36 Q)))
 (I.hold (xp I none 234 k9 c9_1111111111111111111 [1, 1, 1, 1, 1, 1, 1, 1, 1, 1, 1, 1, 1, 1, 1, 1, 1, 1, 1] (U τ20 [(39, (.bool false)), (223, (.bool false)), (220, (.bool false)), (222, undef), (220, (.bool false)), (221, undef), (220, (.bool false)), (220, (.bool false)), (219, (.bool false)), (216, (.bool false)), (218, undef), (216, (.bool false)), (217, undef), (216, (.bool false)), (216, (.bool false)), (215, (.bool false)), (211, (.bool false)), (214, undef), (211, (.bool false)), (213, undef), (211, (.bool false)), (212, undef), (211, (.bool false)), (211, (.bool false)), (210, (.bool false)), (207, (.bool false)), (209, undef), (207, (.bool false)), (208, undef), (207, (.bool false)), (207, (.bool false)), (206, (.bool false)), (203, (.bool false)), (205, undef), (203, (.bool false)), (204, undef), (203, (.bool false)), (203, (.bool false)), (202, (.bool false)), (199, (.bool false)), (201, undef), (199, (.bool false)), (200, undef), (199, (.bool false)), (199, (.bool false)), (198, (.bool false)), (195, (.bool false)), (197, undef), (195, (.bool false)), (196, undef), (195, (.bool false)), (195, v193_35), (194, v193_35), (191, (.bool true)), (193, v193_35), (191, (.bool true)), (192, (τ20 25)), (191, (.bool true)), (191, v189_34), (190, v189_34), (187, (.bool true)), (189, v189_34), (187, (.bool true)), (188, (τ20 23)), (187, (.bool true)), (187, v186_33), (186, v186_33), (185, v185_32), (184, (τ20 21)), (38, v183_31), (37, v182_30), (36, v181_29), (183, v183_31), (182, v182_30), (181, v181_29), (179, v180_28), (180, v180_28), (35, v178_27), (34, v177_26), (178, v178_27), (177, v177_26), (174, v176_25), (176, v176_25), (175, (τ20 30)), (33, v173_24), (32, v172_23), (173, v173_24), (172, v172_23), (168, v171_22), (171, v171_22), (170, v170_21), (169, (τ20 30))]) [] ds20 s35 Q)))
 (I.hold (xp I none 234 k9 c9_1111111111111111111 [1, 1, 1, 1, 1, 1, 1, 1, 1, 1, 1, 1, 1, 1, 1, 1, 1, 1, 1] (U τ20 [(39, (.bool false)), (223, (.bool false)), (220, (.bool false)), (222, undef), (220, (.bool false)), (221, undef), (220, (.bool false)), (220, (.bool false)), (219, (.bool false)), (216, (.bool false)), (218, undef), (216, (.bool false)), (217, undef), (216, (.bool false)), (216, (.bool false)), (215, (.bool false)), (211, (.bool false)), (214, undef), (211, (.bool false)), (213, undef), (211, (.bool false)), (212, undef), (211, (.bool false)), (211, (.bool false)), (210, (.bool false)), (207, (.bool false)), (209, undef), (207, (.bool false)), (208, undef), (207, (.bool false)), (207, (.bool false)), (206, (.bool false)), (203, (.bool false)), (205, undef), (203, (.bool false)), (204, undef), (203, (.bool false)), (203, (.bool false)), (202, (.bool false)), (199, (.bool false)), (201, undef), (199, (.bool false)), (200, undef), (199, (.bool false)), (199, (.bool false)), (198, (.bool false)), (195, (.bool false)), (197, undef), (195, (.bool false)), (196, undef), (195, (.bool false)), (195, (.bool false)), (194, (.bool false)), (191, (.bool false)), (193, undef), (191, (.bool false)), (192, undef), (191, (.bool false)), (191, v189_34), (190, v189_34), (187, (.bool true)), (189, v189_34), (187, (.bool true)), (188, (τ20 23)), (187, (.bool true)), (187, v186_33), (186, v186_33), (185, v185_32), (184, (τ20 21)), (38, v183_31), (37, v182_30), (36, v181_29), (183, v183_31), (182, v182_30), (181, v181_29), (179, v180_28), (180, v180_28), (35, v178_27), (34, v177_26), (178, v178_27), (177, v177_26), (174, v176_25), (176, v176_25), (175, (τ20 30)), (33, v173_24), (32, v172_23), (173, v173_24), (172, v172_23), (168, v171_22), (171, v171_22), (170, v170_21), (169, (τ20 30))]) [] ds20 s34 Q)))
 (I.hold (xp I none 234 k9 c9_1111111111111111111 [1, 1, 1, 1, 1, 1, 1, 1, 1, 1, 1, 1, 1, 1, 1, 1, 1, 1, 1] (U τ20 [(39, (.bool false)), (223, (.bool false)), (220, (.bool false)), (222, undef), (220, (.bool false)), (221, undef), (220, (.bool false)), (220, (.bool false)), (219, (.bool false)), (216, (.bool false)), (218, undef), (216, (.bool false)), (217, undef), (216, (.bool false)), (216, (.bool false)), (215, (.bool false)), (211, (.bool false)), (214, undef), (211, (.bool false)), (213, undef), (211, (.bool false)), (212, undef), (211, (.bool false)), (211, (.bool false)), (210, (.bool false)), (207, (.bool false)), (209, undef), (207, (.bool false)), (208, undef), (207, (.bool false)), (207, (.bool false)), (206, (.bool false)), (203, (.bool false)), (205, undef), (203, (.bool false)), (204, undef), (203, (.bool false)), (203, (.bool false)), (202, (.bool false)), (199, (.bool false)), (201, undef), (199, (.bool false)), (200, undef), (199, (.bool false)), (199, (.bool false)), (198, (.bool false)), (195, (.bool false)), (197, undef), (195, (.bool false)), (196, undef), (195, (.bool false)), (195, (.bool false)), (194, (.bool false)), (191, (.bool false)), (193, undef), (191, (.bool false)), (192, undef), (191, (.bool false)), (191, (.bool false)), (190, (.bool false)), (187, (.bool false)), (189, undef), (187, (.bool false)), (188, undef), (187, (.bool false)), (187, v186_33), (186, v186_33), (185, v185_32), (184, (τ20 21)), (38, v183_31), (37, v182_30), (36, v181_29), (183, v183_31), (182, v182_30), (181, v181_29), (179, v180_28), (180, v180_28), (35, v178_27), (34, v177_26), (178, v178_27), (177, v177_26), (174, v176_25), (176, v176_25), (175, (τ20 30)), (33, v173_24), (32, v172_23), (173, v173_24), (172, v172_23), (168, v171_22), (171, v171_22), (170, v170_21), (169, (τ20 30))]) [] ds20 s33 Q)))]
theorem n9_111111111 (I : Prims) (τ : Tau) (ds : List Deferred) (s : St) (Q : Ex → XK) : xp I none 234 k9 c9_111111111 [1, 1, 1, 1, 1, 1, 1, 1, 1] τ [] ds s Q = v9_111111111 I τ ds s Q := by kernel_rfl
def v9_111111111111110100 (I : Prims) (rnd : Option Nat) (τ : Tau) (ds : List Deferred) (s : St) (Q : Ex → WK) : Prop :=
 I.wop (.binOp .lss 3 (.const (τ 31)) (.const (.int .i64 2049)) 3) 4 s fun v161_0 s0 =>
 wdec v161_0
 (I.wop (.build 35 ⟨[(0, (.const (.int .u8 3))), (1, (.const (.string (ByteArray.mk #[43]))))]⟩) 35 s0 fun v166_1 s1 =>
 I.wop (.indexAddr 22 (.const (τ 30)) (.const (τ 31))) 0 s1 fun v167_2 s2 =>
 I.wop (.store 35 (.const v167_2) (.const v166_1)) 0 s2 fun _ s3 =>
 I.wop (.binOp .add 3 (.const (τ 31)) (.const (.int .i64 1)) 3) 3 s3 fun v163_4 s4 =>
 Q .normal (U τ [(31, v163_4), (163, v163_4), (162, (τ 31)), (167, v167_2), (166, v166_1), (165, (τ 31)), (164, (τ 30)), (161, (.bool true)), (161, v161_0), (160, (τ 31))]) ds s4)
 (Q (.exit 0) (U τ [(161, (.bool false)), (161, v161_0), (160, (τ 31))]) ds s0)
theorem x9_111111111111110100 (I : Prims) (rnd : Option Nat) (τ : Tau) (ds : List Deferred) (s : St) (Q : Ex → WK) : xp I rnd 234 k9_111111111111110100 c9_111111111111110100 [] τ [] ds s (lift Q) = v9_111111111111110100 I rnd τ ds s Q := by kernel_rfl
theorem n9_111111111111110100 [Memo] (ro : Nat) (rnd : Option Nat) (τ : Tau) (ds : List Deferred) (s : St) (Q : Ex → WK) : wp P ro 234 rnd c9_111111111111110100 τ ds s Q = v9_111111111111110100 (prims P ro) rnd τ ds s Q := xp_wp rnd 234 P ro (x9_111111111111110100 _ rnd τ ds s Q)
def v9_1111111111111111111 (I : Prims) (τ : Tau) (ds : List Deferred) (s : St) (Q : Ex → XK) : Prop :=
 I.call 13 [] s fun v224_0 s0 =>
 wdec v224_0
 (wdec (τ 4)
 (wdec (τ 20)
 (Q .ret τ [(0, (τ 39)), (233, (τ 39)), (231, (.bool true)), (232, (τ 39)), (231, (.bool true)), (231, (τ 20)), (230, (τ 20)), (228, (.bool true)), (229, (τ 20)), (228, (.bool true)), (228, (τ 4)), (227, (τ 4)), (225, (.bool true)), (226, (τ 4)), (225, (.bool true)), (225, v224_0), (224, v224_0)] ds s0)
 (Q .ret τ [(0, (.bool false)), (233, (.bool false)), (231, (.bool false)), (232, undef), (231, (.bool false)), (231, (τ 20)), (230, (τ 20)), (228, (.bool true)), (229, (τ 20)), (228, (.bool true)), (228, (τ 4)), (227, (τ 4)), (225, (.bool true)), (226, (τ 4)), (225, (.bool true)), (225, v224_0), (224, v224_0)] ds s0))
 (Q .ret τ [(0, (.bool false)), (233, (.bool false)), (231, (.bool false)), (232, undef), (231, (.bool false)), (231, (.bool false)), (230, (.bool false)), (228, (.bool false)), (229, undef), (228, (.bool false)), (228, (τ 4)), (227, (τ 4)), (225, (.bool true)), (226, (τ 4)), (225, (.bool true)), (225, v224_0), (224, v224_0)] ds s0))
 (Q .ret τ [(0, (.bool false)), (233, (.bool false)), (231, (.bool false)), (232, undef), (231, (.bool false)), (231, (.bool false)), (230, (.bool false)), (228, (.bool false)), (229, undef), (228, (.bool false)), (228, (.bool false)), (227, (.bool false)), (225, (.bool false)), (226, undef), (225, (.bool false)), (225, v224_0), (224, v224_0)] ds s0)
theorem n9_1111111111111111111 (I : Prims) (τ : Tau) (ds : List Deferred) (s : St) (Q : Ex → XK) : xp I none 234 k9 c9_1111111111111111111 [1, 1, 1, 1, 1, 1, 1, 1, 1, 1, 1, 1, 1, 1, 1, 1, 1, 1, 1] τ [] ds s Q = v9_1111111111111111111 I τ ds s Q := by kernel_rfl
def v9 (I : Prims) (si : St) (K : Value → St → Prop) : Prop :=
 I.call 10 [(.string (ByteArray.mk #[48, 32, 46, 46, 32, 49, 54, 61, 61]))] (ent si) fun v41_0 s0 =>
 I.wop (.extract (.const v41_0) 0) 22 s0 fun v42_1 s1 =>
 I.wop (.extract (.const v41_0) 1) 3 s1 fun v43_2 s2 =>
 I.wop (.extract (.const v41_0) 2) 23 s2 fun v44_3 s3 =>
 I.wop (.binOp .eql 23 (.const v44_3) (.const (.int .i64 0)) 23) 4 s3 fun v46_4 s4 =>
 wdec v46_4
 (I.wop (.call ⟨.builtin .len, ⟨[(.const v42_1)]⟩, #[22]⟩) 3 s4 fun v49_5 s5 =>
 I.wop (.binOp .eql 3 (.const v49_5) (.const (.int .i64 4)) 3) 4 s5 fun v50_6 s6 =>
 wdec v50_6
 (I.wop (.indexAddr 22 (.const v42_1) (.const (.int .i64 1))) 0 s6 fun v54_7 s7 =>
 I.wop (.fieldAddr 35 (.const v54_7) 1) 0 s7 fun v55_8 s8 =>
 I.wop (.load 9 (.const v55_8)) 9 s8 fun v56_9 s9 =>
 I.wop (.binOp .eql 9 (.const v56_9) (.const (.string (ByteArray.mk #[46, 46]))) 9) 4 s9 fun v57_10 s10 =>
 wdec v57_10
 (I.wop (.indexAddr 22 (.const v42_1) (.const (.int .i64 2))) 0 s10 fun v61_11 s11 =>
 I.wop (.fieldAddr 35 (.const v61_11) 2) 0 s11 fun v62_12 s12 =>
 I.wop (.load 33 (.const v62_12)) 33 s12 fun v63_13 s13 =>
 I.wop (.binOp .eql 33 (.const v63_13) (.const (.int .u64 16)) 33) 4 s13 fun v64_14 s14 =>
 wdec v64_14
 (I.wop (.indexAddr 22 (.const v42_1) (.const (.int .i64 3))) 0 s14 fun v68_15 s15 =>
 I.wop (.fieldAddr 35 (.const v68_15) 1) 0 s15 fun v69_16 s16 =>
 I.wop (.load 9 (.const v69_16)) 9 s16 fun v70_17 s17 =>
 I.wop (.binOp .eql 9 (.const v70_17) (.const (.string (ByteArray.mk #[61, 61]))) 9) 4 s17 fun v71_18 s18 =>
 I.hold (xp I none 234 k9 c9_111 [1, 1, 1] (U undefT [(4, v71_18), (72, v71_18), (66, (.bool true)), (71, v71_18), (66, (.bool true)), (70, v70_17), (66, (.bool true)), (69, v69_16), (66, (.bool true)), (68, v68_15), (66, (.bool true)), (67, v42_1), (66, (.bool true)), (66, v64_14), (65, v64_14), (59, (.bool true)), (64, v64_14), (59, (.bool true)), (63, v63_13), (59, (.bool true)), (62, v62_12), (59, (.bool true)), (61, v61_11), (59, (.bool true)), (60, v42_1), (59, (.bool true)), (59, v57_10), (58, v57_10), (52, (.bool true)), (57, v57_10), (52, (.bool true)), (56, v56_9), (52, (.bool true)), (55, v55_8), (52, (.bool true)), (54, v54_7), (52, (.bool true)), (53, v42_1), (52, (.bool true)), (52, v50_6), (51, v50_6), (47, (.bool true)), (50, v50_6), (47, (.bool true)), (49, v49_5), (47, (.bool true)), (48, v42_1), (47, (.bool true)), (47, v46_4), (46, v46_4), (45, v44_3), (3, v44_3), (2, v43_2), (1, v42_1), (44, v44_3), (43, v43_2), (42, v42_1), (40, v41_0), (41, v41_0), (0, (.bool false))]) [] [] s18 (xleave I si Tryd.f9.results.toList K)))
 (I.hold (xp I none 234 k9 c9_111 [1, 1, 1] (U undefT [(4, (.bool false)), (72, (.bool false)), (66, (.bool false)), (71, undef), (66, (.bool false)), (70, undef), (66, (.bool false)), (69, undef), (66, (.bool false)), (68, undef), (66, (.bool false)), (67, undef), (66, (.bool false)), (66, v64_14), (65, v64_14), (59, (.bool true)), (64, v64_14), (59, (.bool true)), (63, v63_13), (59, (.bool true)), (62, v62_12), (59, (.bool true)), (61, v61_11), (59, (.bool true)), (60, v42_1), (59, (.bool true)), (59, v57_10), (58, v57_10), (52, (.bool true)), (57, v57_10), (52, (.bool true)), (56, v56_9), (52, (.bool true)), (55, v55_8), (52, (.bool true)), (54, v54_7), (52, (.bool true)), (53, v42_1), (52, (.bool true)), (52, v50_6), (51, v50_6), (47, (.bool true)), (50, v50_6), (47, (.bool true)), (49, v49_5), (47, (.bool true)), (48, v42_1), (47, (.bool true)), (47, v46_4), (46, v46_4), (45, v44_3), (3, v44_3), (2, v43_2), (1, v42_1), (44, v44_3), (43, v43_2), (42, v42_1), (40, v41_0), (41, v41_0), (0, (.bool false))]) [] [] s14 (xleave I si Tryd.f9.results.toList K))))
 (I.hold (xp I none 234 k9 c9_111 [1, 1, 1] (U undefT [(4, (.bool false)), (72, (.bool false)), (66, (.bool false)), (71, undef), (66, (.bool false)), (70, undef), (66, (.bool false)), (69, undef), (66, (.bool false)), (68, undef), (66, (.bool false)), (67, undef), (66, (.bool false)), (66, (.bool false)), (65, (.bool false)), (59, (.bool false)), (64, undef), (59, (.bool false)), (63, undef), (59, (.bool false)), (62, undef), (59, (.bool false)), (61, undef), (59, (.bool false)), (60, undef), (59, (.bool false)), (59, v57_10), (58, v57_10), (52, (.bool true)), (57, v57_10), (52, (.bool true)), (56, v56_9), (52, (.bool true)), (55, v55_8), (52, (.bool true)), (54, v54_7), (52, (.bool true)), (53, v42_1), (52, (.bool true)), (52, v50_6), (51, v50_6), (47, (.bool true)), (50, v50_6), (47, (.bool true)), (49, v49_5), (47, (.bool true)), (48, v42_1), (47, (.bool true)), (47, v46_4), (46, v46_4), (45, v44_3), (3, v44_3), (2, v43_2), (1, v42_1), (44, v44_3), (43, v43_2), (42, v42_1), (40, v41_0), (41, v41_0), (0, (.bool false))]) [] [] s10 (xleave I si Tryd.f9.results.toList K))))
 (I.hold (xp I none 234 k9 c9_111 [1, 1, 1] (U undefT [(4, (.bool false)), (72, (.bool false)), (66, (.bool false)), (71, undef), (66, (.bool false)), (70, undef), (66, (.bool false)), (69, undef), (66, (.bool false)), (68, undef), (66, (.bool false)), (67, undef), (66, (.bool false)), (66, (.bool false)), (65, (.bool false)), (59, (.bool false)), (64, undef), (59, (.bool false)), (63, undef), (59, (.bool false)), (62, undef), (59, (.bool false)), (61, undef), (59, (.bool false)), (60, undef), (59, (.bool false)), (59, (.bool false)), (58, (.bool false)), (52, (.bool false)), (57, undef), (52, (.bool false)), (56, undef), (52, (.bool false)), (55, undef), (52, (.bool false)), (54, undef), (52, (.bool false)), (53, undef), (52, (.bool false)), (52, v50_6), (51, v50_6), (47, (.bool true)), (50, v50_6), (47, (.bool true)), (49, v49_5), (47, (.bool true)), (48, v42_1), (47, (.bool true)), (47, v46_4), (46, v46_4), (45, v44_3), (3, v44_3), (2, v43_2), (1, v42_1), (44, v44_3), (43, v43_2), (42, v42_1), (40, v41_0), (41, v41_0), (0, (.bool false))]) [] [] s6 (xleave I si Tryd.f9.results.toList K))))
 (I.hold (xp I none 234 k9 c9_111 [1, 1, 1] (U undefT [(4, (.bool false)), (72, (.bool false)), (66, (.bool false)), (71, undef), (66, (.bool false)), (70, undef), (66, (.bool false)), (69, undef), (66, (.bool false)), (68, undef), (66, (.bool false)), (67, undef), (66, (.bool false)), (66, (.bool false)), (65, (.bool false)), (59, (.bool false)), (64, undef), (59, (.bool false)), (63, undef), (59, (.bool false)), (62, undef), (59, (.bool false)), (61, undef), (59, (.bool false)), (60, undef), (59, (.bool false)), (59, (.bool false)), (58, (.bool false)), (52, (.bool false)), (57, undef), (52, (.bool false)), (56, undef), (52, (.bool false)), (55, undef), (52, (.bool false)), (54, undef), (52, (.bool false)), (53, undef), (52, (.bool false)), (52, (.bool false)), (51, (.bool false)), (47, (.bool false)), (50, undef), (47, (.bool false)), (49, undef), (47, (.bool false)), (48, undef), (47, (.bool false)), (47, v46_4), (46, v46_4), (45, v44_3), (3, v44_3), (2, v43_2), (1, v42_1), (44, v44_3), (43, v43_2), (42, v42_1), (40, v41_0), (41, v41_0), (0, (.bool false))]) [] [] s4 (xleave I si Tryd.f9.results.toList K)))
theorem x9 (I : Prims) (si : St) (K : Value → St → Prop) : xbody I 234 k9 Tryd.f9 c9 [] si K = v9 I si K := by kernel_rfl
theorem n9 [Memo] (ro : Nat) (si : St) (K : Value → St → Prop) : wbody P ro 234 Tryd.f9 c9 [] si K = v9 (prims P ro) si K := xbody_eq 234 P ro (x9 _ si K)
theorem r9 (I : Prims) (si : St) (K : Value → St → Prop) (τ : Tau) (ds : List Deferred) (s : St) : xleave I si Tryd.f9.results.toList K .ret τ [] ds s =
 (xdefers I ds s fun s0 =>
 I.fin si K (τ 0) s0) := by kernel_rfl
/- attestor/lexis.Tokens -/
noncomputable def c10 : Code := bodyOf Tryd.f10
noncomputable def c10_1110100 : Code := subCode [1, 1, 1, 0, 1, 0, 0] c10
noncomputable def c10_1110101 : Code := subCode [1, 1, 1, 0, 1, 0, 1] c10
def k10 : List (List Nat) := []
def k10_1110100 : List (List Nat) := []
theorem l10_1110100 : ltCode 25 c10_1110100 = true := by kernel_rfl
def k10_1110101 : List (List Nat) := []
theorem l10_1110101 : ltCode 25 c10_1110101 = true := by kernel_rfl
theorem b10 : BodyOk P 25 1 10 Tryd.f10 c10 := ⟨Tryd.func10, by kernel_rfl, by kernel_rfl, by kernel_rfl, by kernel_rfl, by kernel_rfl⟩
def v10_1110100 (I : Prims) (rnd : Option Nat) (τ : Tau) (ds : List Deferred) (s : St) (Q : Ex → WK) : Prop :=
 I.wop (.alloc 35) 0 s fun v6_0 s0 =>
 I.wop (.store 35 (.const v6_0) (.const (τ 13))) 0 s0 fun _ s1 =>
 Q .normal (U τ [(7, (τ 14)), (6, v6_0)]) ds s1
theorem x10_1110100 (I : Prims) (rnd : Option Nat) (τ : Tau) (ds : List Deferred) (s : St) (Q : Ex → WK) : xp I rnd 25 k10_1110100 c10_1110100 [] τ [] ds s (lift Q) = v10_1110100 I rnd τ ds s Q := by kernel_rfl
theorem n10_1110100 [Memo] (ro : Nat) (rnd : Option Nat) (τ : Tau) (ds : List Deferred) (s : St) (Q : Ex → WK) : wp P ro 25 rnd c10_1110100 τ ds s Q = v10_1110100 (prims P ro) rnd τ ds s Q := xp_wp rnd 25 P ro (x10_1110100 _ rnd τ ds s Q)
def v10_1110101 (I : Prims) (rnd : Option Nat) (τ : Tau) (ds : List Deferred) (s : St) (Q : Ex → WK) : Prop :=
 I.wop (.binOp .neq 23 (.const (τ 7)) (.const (.int .i64 0)) 23) 4 s fun v16_0 s0 =>
 wdec v16_0
 (I.wop (.fieldAddr 35 (.const (τ 6)) 3) 0 s0 fun v17_1 s1 =>
 I.wop (.load 3 (.const v17_1)) 3 s1 fun v18_2 s2 =>
 veq v18_2 v18_2 = true ∧ I.wop (.store 22 (.const (τ 2)) (.const (.slice none 0 0))) 0 s2 fun _ s3 =>
 Keeps [(1, .ptr v17_1)] s2 s3 ∧ I.wop (.store 3 (.const (τ 3)) (.const v18_2)) 0 s3 fun _ s4 =>
 I.wop (.store 23 (.const (τ 4)) (.const (τ 7))) 0 s4 fun _ s5 =>
 Q .ret (U τ [(19, (τ 7)), (18, v18_2), (17, v17_1), (16, (.bool true)), (16, v16_0), (15, (τ 7))]) ds s5)
 (I.wop (.load 22 (.const (τ 5))) 22 s0 fun v20_6 s6 =>
 I.wop (.load 35 (.const (τ 6))) 35 s6 fun v21_7 s7 =>
 I.wop (.buildSlice 22 1 ⟨[(0, (.const v21_7))]⟩) 22 s7 fun v22_8 s8 =>
 I.wop (.call ⟨.builtin .append, ⟨[(.const v20_6), (.const v22_8)]⟩, #[22, 22]⟩) 22 s8 fun v23_9 s9 =>
 I.wop (.store 22 (.const (τ 5)) (.const v23_9)) 0 s9 fun _ s10 =>
 Q .normal (U τ [(23, v23_9), (22, v22_8), (21, v21_7), (20, v20_6), (16, (.bool false)), (16, v16_0), (15, (τ 7))]) ds s10)
theorem x10_1110101 (I : Prims) (rnd : Option Nat) (τ : Tau) (ds : List Deferred) (s : St) (Q : Ex → WK) : xp I rnd 25 k10_1110101 c10_1110101 [] τ [] ds s (lift Q) = v10_1110101 I rnd τ ds s Q := by kernel_rfl
theorem n10_1110101 [Memo] (ro : Nat) (rnd : Option Nat) (τ : Tau) (ds : List Deferred) (s : St) (Q : Ex → WK) : wp P ro 25 rnd c10_1110101 τ ds s Q = v10_1110101 (prims P ro) rnd τ ds s Q := xp_wp rnd 25 P ro (x10_1110101 _ rnd τ ds s Q)
def v10 (I : Prims) (a0 : Value) (si : St) (K : Value → St → Prop) : Prop :=
 I.wop (.alloc 22) 0 (ent si) fun v2_0 s0 =>
 I.wop (.alloc 3) 0 s0 fun v3_1 s1 =>
 I.wop (.alloc 23) 0 s1 fun v4_2 s2 =>
 I.wop (.call ⟨.builtin .len, ⟨[(.const a0)]⟩, #[9]⟩) 3 s2 fun v9_3 s3 =>
 I.wop (.binOp .gtr 3 (.const v9_3) (.const (.int .i64 4096)) 3) 4 s3 fun v10_4 s4 =>
 wdec v10_4
 (I.wop (.store 22 (.const v2_0) (.const (.slice none 0 0))) 0 s4 fun _ s5 =>
 I.wop (.store 3 (.const v3_1) (.const (.int .i64 4096))) 0 s5 fun _ s6 =>
 I.wop (.store 23 (.const v4_2) (.const (.int .i64 3))) 0 s6 fun _ s7 =>
 I.wop (.load 22 (.const v2_0)) 22 s7 fun v2_8 _ =>
 I.wop (.load 3 (.const v3_1)) 3 s7 fun v3_9 _ =>
 I.wop (.load 23 (.const v4_2)) 23 s7 fun v4_10 _ =>
 I.fin si K (.tuple (.mk [v2_8, v3_9, v4_10])) s7)
 (I.wop (.alloc 22) 0 s4 fun v5_11 s11 =>
 I.call 18 [a0] s11 fun v12_12 s12 =>
 I.range 25 none v12_12 #[13, 14] c10_1110100 c10_1110101 (U undefT [(12, v12_12), (11, a0), (5, v5_11), (10, (.bool false)), (10, v10_4), (9, v9_3), (8, a0), (4, v4_2), (3, v3_1), (2, v2_0), (0, a0)]) [] s12 (fun τ13 ds13 s13 =>
 I.wop (.load 22 (.const (τ13 5))) 22 s13 fun v24_14 s14 =>
 I.wop (.store 22 (.const (τ13 2)) (.const v24_14)) 0 s14 fun _ s15 =>
 I.wop (.store 3 (.const (τ13 3)) (.const (.int .i64 0))) 0 s15 fun _ s16 =>
 I.wop (.store 23 (.const (τ13 4)) (.const (.int .i64 0))) 0 s16 fun _ s17 =>
 xdefers I ds13 s17 fun s18 =>
 I.wop (.load 22 (.const (τ13 2))) 22 s18 fun v2_19 _ =>
 I.wop (.load 3 (.const (τ13 3))) 3 s18 fun v3_20 _ =>
 I.wop (.load 23 (.const (τ13 4))) 23 s18 fun v4_21 _ =>
 I.fin si K (.tuple (.mk [v2_19, v3_20, v4_21])) s18) (fun τ ds s => ((xleave I si Tryd.f10.results.toList K) .ret) τ [] ds s) [])
theorem x10 (I : Prims) (a0 : Value) (si : St) (K : Value → St → Prop) : xbody I 25 k10 Tryd.f10 c10 [a0] si K = v10 I a0 si K := by kernel_rfl
theorem n10 [Memo] (ro : Nat) (a0 : Value) (si : St) (K : Value → St → Prop) : wbody P ro 25 Tryd.f10 c10 [a0] si K = v10 (prims P ro) a0 si K := xbody_eq 25 P ro (x10 _ a0 si K)
theorem r10 (I : Prims) (si : St) (K : Value → St → Prop) (τ : Tau) (ds : List Deferred) (s : St) : xleave I si Tryd.f10.results.toList K .ret τ [] ds s =
 (xdefers I ds s fun s0 =>
 I.wop (.load 22 (.const (τ 2))) 22 s0 fun v2_1 _ =>
 I.wop (.load 3 (.const (τ 3))) 3 s0 fun v3_2 _ =>
 I.wop (.load 23 (.const (τ 4))) 23 s0 fun v4_3 _ =>
 I.fin si K (.tuple (.mk [v2_1, v3_2, v4_3])) s0) := by kernel_rfl
/- attestor/attestorlaw20.awake -/
noncomputable def c13 : Code := bodyOf Tryd.f13
def k13 : List (List Nat) := []
theorem b13 : BodyOk P 61 0 13 Tryd.f13 c13 := ⟨Tryd.func13, by kernel_rfl, by kernel_rfl, by kernel_rfl, by kernel_rfl, by kernel_rfl⟩
def v13 (I : Prims) (si : St) (K : Value → St → Prop) : Prop :=
 I.call 10 [(.string (ByteArray.mk #[108, 101, 116, 32, 97, 61, 98, 49, 42, 50, 59, 35, 32, 120]))] (ent si) fun v7_0 s0 =>
 I.wop (.extract (.const v7_0) 0) 22 s0 fun v8_1 s1 =>
 I.wop (.extract (.const v7_0) 1) 3 s1 fun v9_2 s2 =>
 I.wop (.extract (.const v7_0) 2) 23 s2 fun v10_3 s3 =>
 I.wop (.call ⟨.builtin .len, ⟨[(.const v8_1)]⟩, #[22]⟩) 3 s3 fun v12_4 s4 =>
 I.wop (.binOp .neq 3 (.const v12_4) (.const (.int .i64 7)) 3) 4 s4 fun v13_5 s5 =>
 wdec v13_5
 (I.fin si K (.bool false) s5)
 (I.wop (.binOp .neq 3 (.const v9_2) (.const (.int .i64 0)) 3) 4 s5 fun v16_6 s6 =>
 wdec v16_6
 (I.fin si K (.bool false) s6)
 (I.wop (.binOp .neq 23 (.const v10_3) (.const (.int .i64 0)) 23) 4 s6 fun v20_7 s7 =>
 wdec v20_7
 (I.fin si K (.bool false) s7)
 (I.wop (.indexAddr 22 (.const v8_1) (.const (.int .i64 0))) 0 s7 fun v24_8 s8 =>
 I.wop (.fieldAddr 35 (.const v24_8) 1) 0 s8 fun v25_9 s9 =>
 I.wop (.load 9 (.const v25_9)) 9 s9 fun v26_10 s10 =>
 I.wop (.binOp .neq 9 (.const v26_10) (.const (.string (ByteArray.mk #[108, 101, 116]))) 9) 4 s10 fun v27_11 s11 =>
 wdec v27_11
 (I.fin si K (.bool false) s11)
 (I.wop (.indexAddr 22 (.const v8_1) (.const (.int .i64 3))) 0 s11 fun v31_12 s12 =>
 I.wop (.fieldAddr 35 (.const v31_12) 3) 0 s12 fun v32_13 s13 =>
 I.wop (.load 3 (.const v32_13)) 3 s13 fun v33_14 s14 =>
 I.wop (.binOp .neq 3 (.const v33_14) (.const (.int .i64 6)) 3) 4 s14 fun v34_15 s15 =>
 wdec v34_15
 (I.fin si K (.bool false) s15)
 (I.wop (.indexAddr 22 (.const v8_1) (.const (.int .i64 5))) 0 s15 fun v38_16 s16 =>
 I.wop (.load 35 (.const v38_16)) 35 s16 fun v39_17 s17 =>
 I.wop (.build 35 ⟨[(0, (.const (.int .u8 2))), (1, (.const (.string (ByteArray.mk #[50])))), (2, (.const (.int .u64 2))), (3, (.const (.int .i64 9)))]⟩) 35 s17 fun v40_18 s18 =>
 I.wop (.binOp .neq 35 (.const v39_17) (.const v40_18) 35) 4 s18 fun v41_19 s19 =>
 wdec v41_19
 (I.fin si K (.bool false) s19)
 (I.wop (.indexAddr 22 (.const v8_1) (.const (.int .i64 6))) 0 s19 fun v45_20 s20 =>
 I.wop (.fieldAddr 35 (.const v45_20) 3) 0 s20 fun v46_21 s21 =>
 I.wop (.load 3 (.const v46_21)) 3 s21 fun v47_22 s22 =>
 I.wop (.binOp .neq 3 (.const v47_22) (.const (.int .i64 10)) 3) 4 s22 fun v48_23 s23 =>
 wdec v48_23
 (I.fin si K (.bool false) s23)
 (I.call 14 [v8_1] s23 fun v52_24 s24 =>
 I.wop (.extract (.const v52_24) 0) 9 s24 fun v53_25 s25 =>
 I.wop (.extract (.const v52_24) 1) 23 s25 fun v54_26 s26 =>
 I.wop (.binOp .eql 9 (.const v53_25) (.const (.string (ByteArray.mk #[108, 101, 116, 32, 97, 32, 61, 32, 98, 49, 32, 42, 32, 50, 32, 59]))) 9) 4 s26 fun v56_27 s27 =>
 wdec v56_27
 (I.wop (.binOp .eql 23 (.const v54_26) (.const (.int .i64 0)) 23) 4 s27 fun v59_28 s28 =>
 I.fin si K v59_28 s28)
 (I.fin si K (.bool false) s27))))))))
theorem x13 (I : Prims) (si : St) (K : Value → St → Prop) : xbody I 61 k13 Tryd.f13 c13 [] si K = v13 I si K := by kernel_rfl
theorem n13 [Memo] (ro : Nat) (si : St) (K : Value → St → Prop) : wbody P ro 61 Tryd.f13 c13 [] si K = v13 (prims P ro) si K := xbody_eq 61 P ro (x13 _ si K)
/- attestor/lexis.Print -/
noncomputable def c14 : Code := bodyOf Tryd.f14
noncomputable def c14_1110100 : Code := subCode [1, 1, 1, 0, 1, 0, 0] c14
def k14 : List (List Nat) := []
def k14_1110100 : List (List Nat) := []
theorem l14_1110100 : ltCode 40 c14_1110100 = true := by kernel_rfl
theorem m14_1110100 : notMap c14_1110100 = true := by kernel_rfl
theorem b14 : BodyOk P 40 1 14 Tryd.f14 c14 := ⟨Tryd.func14, by kernel_rfl, by kernel_rfl, by kernel_rfl, by kernel_rfl, by kernel_rfl⟩
def v14_1110100 (I : Prims) (rnd : Option Nat) (τ : Tau) (ds : List Deferred) (s : St) (Q : Ex → WK) : Prop :=
 I.wop (.binOp .lss 3 (.const (τ 17)) (.const (τ 16)) 3) 0 s fun v18_0 s0 =>
 wdec v18_0
 (I.wop (.indexAddr 22 (.const (τ 15)) (.const (τ 17))) 0 s0 fun v20_1 s1 =>
 I.wop (.load 35 (.const v20_1)) 35 s1 fun v21_2 s2 =>
 I.wop (.alloc 35) 0 s2 fun v7_3 s3 =>
 I.wop (.store 35 (.const v7_3) (.const v21_2)) 0 s3 fun _ s4 =>
 I.wop (.load 35 (.const v7_3)) 35 s4 fun v22_5 s5 =>
 I.call 21 [v22_5] s5 fun v23_6 s6 =>
 I.wop (.unOp .not 4 (.const v23_6)) 4 s6 fun v24_7 s7 =>
 wdec v24_7
 (Q .ret (U τ [(3, (.int .i64 1)), (2, (.string (ByteArray.mk #[]))), (24, (.bool true)), (24, v24_7), (23, v23_6), (22, v22_5), (6, (τ 17)), (7, v7_3), (21, v21_2), (20, v20_1), (19, (τ 17)), (18, (.bool true)), (18, v18_0)]) ds s7)
 (I.wop (.fieldAddr 35 (.const v7_3) 1) 0 s7 fun v27_8 s8 =>
 I.wop (.load 9 (.const v27_8)) 9 s8 fun v28_9 s9 =>
 I.wop (.indexAddr 43 (.const (τ 5)) (.const (τ 17))) 0 s9 fun v29_10 s10 =>
 I.wop (.store 9 (.const v29_10) (.const v28_9)) 0 s10 fun _ s11 =>
 I.wop (.fieldAddr 35 (.const v7_3) 1) 0 s11 fun v31_12 s12 =>
 I.wop (.load 9 (.const v31_12)) 9 s12 fun v32_13 s13 =>
 I.wop (.call ⟨.builtin .len, ⟨[(.const v32_13)]⟩, #[9]⟩) 3 s13 fun v33_14 s14 =>
 I.wop (.binOp .add 3 (.const (τ 4)) (.const v33_14) 3) 3 s14 fun v34_15 s15 =>
 I.wop (.binOp .add 3 (.const (τ 17)) (.const (.int .i64 1)) 3) 3 s15 fun v35_16 s16 =>
 Q .normal (U τ [(17, v35_16), (35, v35_16), (4, v34_15), (34, v34_15), (33, v33_14), (32, v32_13), (31, v31_12), (30, (τ 4)), (29, v29_10), (28, v28_9), (27, v27_8), (26, (τ 17)), (25, (τ 5)), (24, (.bool false)), (24, v24_7), (23, v23_6), (22, v22_5), (6, (τ 17)), (7, v7_3), (21, v21_2), (20, v20_1), (19, (τ 17)), (18, (.bool true)), (18, v18_0)]) ds s16))
 (Q (.exit 0) (U τ [(18, (.bool false)), (18, v18_0)]) ds s0)
theorem x14_1110100 (I : Prims) (rnd : Option Nat) (τ : Tau) (ds : List Deferred) (s : St) (Q : Ex → WK) : xp I rnd 40 k14_1110100 c14_1110100 [] τ [] ds s (lift Q) = v14_1110100 I rnd τ ds s Q := by kernel_rfl
theorem n14_1110100 [Memo] (ro : Nat) (rnd : Option Nat) (τ : Tau) (ds : List Deferred) (s : St) (Q : Ex → WK) : wp P ro 40 rnd c14_1110100 τ ds s Q = v14_1110100 (prims P ro) rnd τ ds s Q := xp_wp rnd 40 P ro (x14_1110100 _ rnd τ ds s Q)
def v14 (I : Prims) (a0 : Value) (si : St) (K : Value → St → Prop) : Prop :=
 I.wop (.call ⟨.builtin .len, ⟨[(.const a0)]⟩, #[22]⟩) 3 (ent si) fun v9_0 s0 =>
 I.wop (.binOp .sub 3 (.const v9_0) (.const (.int .i64 1)) 3) 3 s0 fun v10_1 s1 =>
 I.wop (.call ⟨.builtin .max, ⟨[(.const (.int .i64 0)), (.const v10_1)]⟩, #[3, 3]⟩) 3 s1 fun v11_2 s2 =>
 I.wop (.call ⟨.builtin .len, ⟨[(.const a0)]⟩, #[22]⟩) 3 s2 fun v13_3 s3 =>
 I.wop (.makeSlice 43 (.const v13_3) (.const v13_3)) 43 s3 fun v14_4 s4 =>
 I.wop (.call ⟨.builtin .len, ⟨[(.const a0)]⟩, #[22]⟩) 3 s4 fun v16_5 s5 =>
 I.loop 40 none c14_1110100 (U undefT [(17, (.int .i64 0)), (16, v16_5), (15, a0), (5, v14_4), (14, v14_4), (13, v13_3), (12, a0), (4, v11_2), (11, v11_2), (10, v10_1), (9, v9_0), (8, a0), (3, (.int .i64 0)), (2, (.string (ByteArray.mk #[]))), (0, a0)]) [] s5 (fun τ ds s => ((xleave I si Tryd.f14.results.toList K) .ret) τ [] ds s) [(0, fun τ6 ds6 s6 =>
 I.wop (.binOp .gtr 3 (.const (τ6 4)) (.const (.int .i64 4096)) 3) 4 s6 fun v37_7 s7 =>
 wdec v37_7
 (xdefers I ds6 s7 fun s8 =>
 I.fin si K (.tuple (.mk [(.string (ByteArray.mk #[])), (.int .i64 3)])) s8)
 (I.call 22 [(τ6 5), (.string (ByteArray.mk #[32]))] s7 fun v39_9 s9 =>
 xdefers I ds6 s9 fun s10 =>
 I.fin si K (.tuple (.mk [v39_9, (.int .i64 0)])) s10))]
theorem x14 (I : Prims) (a0 : Value) (si : St) (K : Value → St → Prop) : xbody I 40 k14 Tryd.f14 c14 [a0] si K = v14 I a0 si K := by kernel_rfl
theorem n14 [Memo] (ro : Nat) (a0 : Value) (si : St) (K : Value → St → Prop) : wbody P ro 40 Tryd.f14 c14 [a0] si K = v14 (prims P ro) a0 si K := xbody_eq 40 P ro (x14 _ a0 si K)
theorem r14 (I : Prims) (si : St) (K : Value → St → Prop) (τ : Tau) (ds : List Deferred) (s : St) : xleave I si Tryd.f14.results.toList K .ret τ [] ds s =
 (xdefers I ds s fun s0 =>
 I.fin si K (.tuple (.mk [(τ 2), (τ 3)])) s0) := by kernel_rfl
/- attestor/attestorref20.Same -/
noncomputable def c16 : Code := bodyOf Tryd.f16
noncomputable def c16_110100 : Code := subCode [1, 1, 0, 1, 0, 0] c16
def k16 : List (List Nat) := []
def k16_110100 : List (List Nat) := []
theorem l16_110100 : ltCode 54 c16_110100 = true := by kernel_rfl
theorem m16_110100 : notMap c16_110100 = true := by kernel_rfl
theorem b16 : BodyOk P 54 2 16 Tryd.f16 c16 := ⟨Tryd.func16, by kernel_rfl, by kernel_rfl, by kernel_rfl, by kernel_rfl, by kernel_rfl⟩
def v16_110100 (I : Prims) (rnd : Option Nat) (τ : Tau) (ds : List Deferred) (s : St) (Q : Ex → WK) : Prop :=
 I.wop (.call ⟨.builtin .len, ⟨[(.const (τ 0))]⟩, #[22]⟩) 3 s fun v13_0 s0 =>
 I.wop (.binOp .lss 3 (.const (τ 5)) (.const v13_0) 3) 4 s0 fun v14_1 s1 =>
 wdec v14_1
 (I.wop (.indexAddr 22 (.const (τ 0)) (.const (τ 5))) 0 s1 fun v19_2 s2 =>
 I.wop (.fieldAddr 35 (.const v19_2) 0) 0 s2 fun v20_3 s3 =>
 I.wop (.load 32 (.const v20_3)) 32 s3 fun v21_4 s4 =>
 I.wop (.indexAddr 22 (.const (τ 1)) (.const (τ 5))) 0 s4 fun v24_5 s5 =>
 I.wop (.fieldAddr 35 (.const v24_5) 0) 0 s5 fun v25_6 s6 =>
 I.wop (.load 32 (.const v25_6)) 32 s6 fun v26_7 s7 =>
 I.wop (.binOp .neq 32 (.const v21_4) (.const v26_7) 32) 4 s7 fun v27_8 s8 =>
 wdec v27_8
 (Q .ret (U τ [(4, (.bool false)), (53, (.bool true)), (53, (.bool true)), (41, (.bool true)), (52, undef), (41, (.bool true)), (51, undef), (41, (.bool true)), (50, undef), (41, (.bool true)), (49, undef), (41, (.bool true)), (48, undef), (41, (.bool true)), (47, undef), (41, (.bool true)), (46, undef), (41, (.bool true)), (45, undef), (41, (.bool true)), (44, undef), (41, (.bool true)), (43, undef), (41, (.bool true)), (42, undef), (41, (.bool true)), (41, (.bool true)), (40, (.bool true)), (28, (.bool true)), (39, undef), (28, (.bool true)), (38, undef), (28, (.bool true)), (37, undef), (28, (.bool true)), (36, undef), (28, (.bool true)), (35, undef), (28, (.bool true)), (34, undef), (28, (.bool true)), (33, undef), (28, (.bool true)), (32, undef), (28, (.bool true)), (31, undef), (28, (.bool true)), (30, undef), (28, (.bool true)), (29, undef), (28, (.bool true)), (28, v27_8), (27, v27_8), (26, v26_7), (25, v25_6), (24, v24_5), (23, (τ 5)), (22, (τ 1)), (21, v21_4), (20, v20_3), (19, v19_2), (18, (τ 5)), (17, (τ 0)), (14, (.bool true)), (14, v14_1), (13, v13_0), (12, (τ 0)), (11, (τ 5))]) ds s8)
 (I.wop (.indexAddr 22 (.const (τ 0)) (.const (τ 5))) 0 s8 fun v31_9 s9 =>
 I.wop (.fieldAddr 35 (.const v31_9) 1) 0 s9 fun v32_10 s10 =>
 I.wop (.load 9 (.const v32_10)) 9 s10 fun v33_11 s11 =>
 I.wop (.indexAddr 22 (.const (τ 1)) (.const (τ 5))) 0 s11 fun v36_12 s12 =>
 I.wop (.fieldAddr 35 (.const v36_12) 1) 0 s12 fun v37_13 s13 =>
 I.wop (.load 9 (.const v37_13)) 9 s13 fun v38_14 s14 =>
 I.wop (.binOp .neq 9 (.const v33_11) (.const v38_14) 9) 4 s14 fun v39_15 s15 =>
 wdec v39_15
 (Q .ret (U τ [(4, (.bool false)), (53, (.bool true)), (53, (.bool true)), (41, (.bool true)), (52, undef), (41, (.bool true)), (51, undef), (41, (.bool true)), (50, undef), (41, (.bool true)), (49, undef), (41, (.bool true)), (48, undef), (41, (.bool true)), (47, undef), (41, (.bool true)), (46, undef), (41, (.bool true)), (45, undef), (41, (.bool true)), (44, undef), (41, (.bool true)), (43, undef), (41, (.bool true)), (42, undef), (41, (.bool true)), (41, v39_15), (40, v39_15), (28, (.bool false)), (39, v39_15), (28, (.bool false)), (38, v38_14), (28, (.bool false)), (37, v37_13), (28, (.bool false)), (36, v36_12), (28, (.bool false)), (35, (τ 5)), (28, (.bool false)), (34, (τ 1)), (28, (.bool false)), (33, v33_11), (28, (.bool false)), (32, v32_10), (28, (.bool false)), (31, v31_9), (28, (.bool false)), (30, (τ 5)), (28, (.bool false)), (29, (τ 0)), (28, (.bool false)), (28, v27_8), (27, v27_8), (26, v26_7), (25, v25_6), (24, v24_5), (23, (τ 5)), (22, (τ 1)), (21, v21_4), (20, v20_3), (19, v19_2), (18, (τ 5)), (17, (τ 0)), (14, (.bool true)), (14, v14_1), (13, v13_0), (12, (τ 0)), (11, (τ 5))]) ds s15)
 (I.wop (.indexAddr 22 (.const (τ 0)) (.const (τ 5))) 0 s15 fun v44_16 s16 =>
 I.wop (.fieldAddr 35 (.const v44_16) 2) 0 s16 fun v45_17 s17 =>
 I.wop (.load 33 (.const v45_17)) 33 s17 fun v46_18 s18 =>
 I.wop (.indexAddr 22 (.const (τ 1)) (.const (τ 5))) 0 s18 fun v49_19 s19 =>
 I.wop (.fieldAddr 35 (.const v49_19) 2) 0 s19 fun v50_20 s20 =>
 I.wop (.load 33 (.const v50_20)) 33 s20 fun v51_21 s21 =>
 I.wop (.binOp .neq 33 (.const v46_18) (.const v51_21) 33) 4 s21 fun v52_22 s22 =>
 wdec v52_22
 (Q .ret (U τ [(4, (.bool false)), (53, (.bool true)), (53, v52_22), (41, (.bool false)), (52, v52_22), (41, (.bool false)), (51, v51_21), (41, (.bool false)), (50, v50_20), (41, (.bool false)), (49, v49_19), (41, (.bool false)), (48, (τ 5)), (41, (.bool false)), (47, (τ 1)), (41, (.bool false)), (46, v46_18), (41, (.bool false)), (45, v45_17), (41, (.bool false)), (44, v44_16), (41, (.bool false)), (43, (τ 5)), (41, (.bool false)), (42, (τ 0)), (41, (.bool false)), (41, v39_15), (40, v39_15), (28, (.bool false)), (39, v39_15), (28, (.bool false)), (38, v38_14), (28, (.bool false)), (37, v37_13), (28, (.bool false)), (36, v36_12), (28, (.bool false)), (35, (τ 5)), (28, (.bool false)), (34, (τ 1)), (28, (.bool false)), (33, v33_11), (28, (.bool false)), (32, v32_10), (28, (.bool false)), (31, v31_9), (28, (.bool false)), (30, (τ 5)), (28, (.bool false)), (29, (τ 0)), (28, (.bool false)), (28, v27_8), (27, v27_8), (26, v26_7), (25, v25_6), (24, v24_5), (23, (τ 5)), (22, (τ 1)), (21, v21_4), (20, v20_3), (19, v19_2), (18, (τ 5)), (17, (τ 0)), (14, (.bool true)), (14, v14_1), (13, v13_0), (12, (τ 0)), (11, (τ 5))]) ds s22)
 (I.wop (.binOp .add 3 (.const (τ 5)) (.const (.int .i64 1)) 3) 3 s22 fun v16_23 s23 =>
 Q .normal (U τ [(5, v16_23), (16, v16_23), (15, (τ 5)), (53, (.bool false)), (53, v52_22), (41, (.bool false)), (52, v52_22), (41, (.bool false)), (51, v51_21), (41, (.bool false)), (50, v50_20), (41, (.bool false)), (49, v49_19), (41, (.bool false)), (48, (τ 5)), (41, (.bool false)), (47, (τ 1)), (41, (.bool false)), (46, v46_18), (41, (.bool false)), (45, v45_17), (41, (.bool false)), (44, v44_16), (41, (.bool false)), (43, (τ 5)), (41, (.bool false)), (42, (τ 0)), (41, (.bool false)), (41, v39_15), (40, v39_15), (28, (.bool false)), (39, v39_15), (28, (.bool false)), (38, v38_14), (28, (.bool false)), (37, v37_13), (28, (.bool false)), (36, v36_12), (28, (.bool false)), (35, (τ 5)), (28, (.bool false)), (34, (τ 1)), (28, (.bool false)), (33, v33_11), (28, (.bool false)), (32, v32_10), (28, (.bool false)), (31, v31_9), (28, (.bool false)), (30, (τ 5)), (28, (.bool false)), (29, (τ 0)), (28, (.bool false)), (28, v27_8), (27, v27_8), (26, v26_7), (25, v25_6), (24, v24_5), (23, (τ 5)), (22, (τ 1)), (21, v21_4), (20, v20_3), (19, v19_2), (18, (τ 5)), (17, (τ 0)), (14, (.bool true)), (14, v14_1), (13, v13_0), (12, (τ 0)), (11, (τ 5))]) ds s23))))
 (Q (.exit 0) (U τ [(14, (.bool false)), (14, v14_1), (13, v13_0), (12, (τ 0)), (11, (τ 5))]) ds s1)
theorem x16_110100 (I : Prims) (rnd : Option Nat) (τ : Tau) (ds : List Deferred) (s : St) (Q : Ex → WK) : xp I rnd 54 k16_110100 c16_110100 [] τ [] ds s (lift Q) = v16_110100 I rnd τ ds s Q := by kernel_rfl
theorem n16_110100 [Memo] (ro : Nat) (rnd : Option Nat) (τ : Tau) (ds : List Deferred) (s : St) (Q : Ex → WK) : wp P ro 54 rnd c16_110100 τ ds s Q = v16_110100 (prims P ro) rnd τ ds s Q := xp_wp rnd 54 P ro (x16_110100 _ rnd τ ds s Q)
def v16 (I : Prims) (a0 a1 : Value) (si : St) (K : Value → St → Prop) : Prop :=
 I.wop (.call ⟨.builtin .len, ⟨[(.const a0)]⟩, #[22]⟩) 3 (ent si) fun v7_0 s0 =>
 I.wop (.call ⟨.builtin .len, ⟨[(.const a1)]⟩, #[22]⟩) 3 s0 fun v9_1 s1 =>
 I.wop (.binOp .neq 3 (.const v7_0) (.const v9_1) 3) 4 s1 fun v10_2 s2 =>
 wdec v10_2
 (I.fin si K (.bool false) s2)
 (I.loop 54 none c16_110100 (U undefT [(5, (.int .i64 0)), (10, (.bool false)), (10, v10_2), (9, v9_1), (8, a1), (7, v7_0), (6, a0), (4, (.bool false)), (0, a0), (1, a1)]) [] s2 (fun τ ds s => ((xleave I si Tryd.f16.results.toList K) .ret) τ [] ds s) [(0, fun _ ds3 s3 =>
 xdefers I ds3 s3 fun s4 =>
 I.fin si K (.bool true) s4)])
theorem x16 (I : Prims) (a0 a1 : Value) (si : St) (K : Value → St → Prop) : xbody I 54 k16 Tryd.f16 c16 [a0, a1] si K = v16 I a0 a1 si K := by kernel_rfl
theorem n16 [Memo] (ro : Nat) (a0 a1 : Value) (si : St) (K : Value → St → Prop) : wbody P ro 54 Tryd.f16 c16 [a0, a1] si K = v16 (prims P ro) a0 a1 si K := xbody_eq 54 P ro (x16 _ a0 a1 si K)
theorem r16 (I : Prims) (si : St) (K : Value → St → Prop) (τ : Tau) (ds : List Deferred) (s : St) : xleave I si Tryd.f16.results.toList K .ret τ [] ds s =
 (xdefers I ds s fun s0 =>
 I.fin si K (τ 4) s0) := by kernel_rfl
/- attestor/lexis.all -/
noncomputable def c18 : Code := bodyOf Tryd.f18
def k18 : List (List Nat) := []
theorem b18 : BodyOk P 4 1 18 Tryd.f18 c18 := ⟨Tryd.func18, by kernel_rfl, by kernel_rfl, by kernel_rfl, by kernel_rfl, by kernel_rfl⟩
def v18 (I : Prims) (a0 : Value) (si : St) (K : Value → St → Prop) : Prop :=
 I.wop (.box 9 (.const a0)) 0 (ent si) fun v1_0 s0 =>
 I.fin si K (.func (.func 24) (.mk []) (.mk [v1_0])) s0
theorem x18 (I : Prims) (a0 : Value) (si : St) (K : Value → St → Prop) : xbody I 4 k18 Tryd.f18 c18 [a0] si K = v18 I a0 si K := by kernel_rfl
theorem n18 [Memo] (ro : Nat) (a0 : Value) (si : St) (K : Value → St → Prop) : wbody P ro 4 Tryd.f18 c18 [a0] si K = v18 (prims P ro) a0 si K := xbody_eq 4 P ro (x18 _ a0 si K)
/- attestor/lexis.right -/
noncomputable def c21 : Code := bodyOf Tryd.f21
def k21 : List (List Nat) := []
theorem b21 : BodyOk P 24 1 21 Tryd.f21 c21 := ⟨Tryd.func21, by kernel_rfl, by kernel_rfl, by kernel_rfl, by kernel_rfl, by kernel_rfl⟩
def v21 (I : Prims) (a0 : Value) (si : St) (K : Value → St → Prop) : Prop :=
 I.wop (.box 35 (.const a0)) 0 (ent si) fun v1_0 s0 =>
 I.wop (.fieldAddr 35 (.const v1_0) 1) 0 s0 fun v5_1 s1 =>
 I.wop (.load 9 (.const v5_1)) 9 s1 fun v6_2 s2 =>
 I.wop (.binOp .eql 9 (.const v6_2) (.const (.string (ByteArray.mk #[]))) 9) 4 s2 fun v7_3 s3 =>
 wdec v7_3
 (I.fin si K (.bool false) s3)
 (I.wop (.fieldAddr 35 (.const v1_0) 1) 0 s3 fun v9_4 s4 =>
 I.wop (.load 9 (.const v9_4)) 9 s4 fun v10_5 s5 =>
 I.call 26 [v10_5] s5 fun v11_6 s6 =>
 I.wop (.extract (.const v11_6) 0) 35 s6 fun v12_7 s7 =>
 I.wop (.extract (.const v11_6) 1) 23 s7 fun v13_8 s8 =>
 I.wop (.alloc 35) 0 s8 fun v3_9 s9 =>
 I.wop (.store 35 (.const v3_9) (.const v12_7)) 0 s9 fun _ s10 =>
 I.wop (.fieldAddr 35 (.const v1_0) 3) 0 s10 fun v14_11 s11 =>
 I.wop (.load 3 (.const v14_11)) 3 s11 fun v15_12 s12 =>
 I.wop (.fieldAddr 35 (.const v3_9) 3) 0 s12 fun v16_13 s13 =>
 I.wop (.store 3 (.const v16_13) (.const v15_12)) 0 s13 fun _ s14 =>
 I.wop (.binOp .eql 23 (.const v13_8) (.const (.int .i64 0)) 23) 4 s14 fun v18_15 s15 =>
 wdec v18_15
 (I.wop (.load 35 (.const v3_9)) 35 s15 fun v20_16 s16 =>
 I.wop (.load 35 (.const v1_0)) 35 s16 fun v21_17 s17 =>
 I.wop (.binOp .eql 35 (.const v20_16) (.const v21_17) 35) 4 s17 fun v22_18 s18 =>
 I.fin si K v22_18 s18)
 (I.fin si K (.bool false) s15))
theorem x21 (I : Prims) (a0 : Value) (si : St) (K : Value → St → Prop) : xbody I 24 k21 Tryd.f21 c21 [a0] si K = v21 I a0 si K := by kernel_rfl
theorem n21 [Memo] (ro : Nat) (a0 : Value) (si : St) (K : Value → St → Prop) : wbody P ro 24 Tryd.f21 c21 [a0] si K = v21 (prims P ro) a0 si K := xbody_eq 24 P ro (x21 _ a0 si K)
/- attestor/lexis.all$1 -/
noncomputable def c24 : Code := bodyOf Tryd.f24
noncomputable def c24_100 : Code := subCode [1, 0, 0] c24
def k24 : List (List Nat) := []
def k24_100 : List (List Nat) := []
theorem l24_100 : ltCode 41 c24_100 = true := by kernel_rfl
theorem m24_100 : notMap c24_100 = true := by kernel_rfl
theorem b24 : BodyOk P 41 2 24 Tryd.f24 c24 := ⟨Tryd.func24, by kernel_rfl, by kernel_rfl, by kernel_rfl, by kernel_rfl, by kernel_rfl⟩
def v24_100 (I : Prims) (rnd : Option Nat) (τ : Tau) (ds : List Deferred) (s : St) (Q : Ex → WK) : Prop :=
 I.wop (.load 9 (.const (τ 1))) 9 s fun v9_0 s0 =>
 I.wop (.call ⟨.builtin .len, ⟨[(.const v9_0)]⟩, #[9]⟩) 3 s0 fun v10_1 s1 =>
 I.wop (.binOp .lss 3 (.const (τ 3)) (.const v10_1) 3) 4 s1 fun v11_2 s2 =>
 wdec v11_2
 (I.wop (.load 9 (.const (τ 1))) 9 s2 fun v19_3 s3 =>
 I.wop (.slice 9 (.const v19_3) (some (.const (τ 3))) none none) 9 s3 fun v21_4 s4 =>
 I.call 26 [v21_4] s4 fun v22_5 s5 =>
 I.wop (.extract (.const v22_5) 0) 35 s5 fun v23_6 s6 =>
 I.wop (.extract (.const v22_5) 1) 23 s6 fun v24_7 s7 =>
 I.wop (.alloc 35) 0 s7 fun v4_8 s8 =>
 I.wop (.store 35 (.const v4_8) (.const v23_6)) 0 s8 fun _ s9 =>
 I.wop (.fieldAddr 35 (.const v4_8) 3) 0 s9 fun v26_10 s10 =>
 I.wop (.store 3 (.const v26_10) (.const (τ 3))) 0 s10 fun _ s11 =>
 I.wop (.load 35 (.const v4_8)) 35 s11 fun v28_12 s12 =>
 xcallv I (τ 0) [v28_12, v24_7] s12 fun v30_13 s13 =>
 I.wop (.unOp .not 4 (.const v30_13)) 4 s13 fun v31_14 s14 =>
 wdec v31_14
 (Q .ret (U τ [(35, (.bool true)), (35, (.bool true)), (32, (.bool true)), (34, undef), (32, (.bool true)), (33, undef), (32, (.bool true)), (32, v31_14), (31, v31_14), (30, v30_13), (29, v24_7), (28, v28_12), (27, (τ 0)), (26, v26_10), (25, (τ 3)), (5, v24_7), (4, v4_8), (24, v24_7), (23, v23_6), (18, v22_5), (22, v22_5), (21, v21_4), (20, (τ 3)), (19, v19_3), (11, (.bool true)), (11, v11_2), (10, v10_1), (9, v9_0), (8, (τ 3))]) ds s14)
 (I.wop (.binOp .neq 23 (.const v24_7) (.const (.int .i64 0)) 23) 4 s14 fun v34_15 s15 =>
 wdec v34_15
 (Q .ret (U τ [(35, (.bool true)), (35, v34_15), (32, (.bool false)), (34, v34_15), (32, (.bool false)), (33, v24_7), (32, (.bool false)), (32, v31_14), (31, v31_14), (30, v30_13), (29, v24_7), (28, v28_12), (27, (τ 0)), (26, v26_10), (25, (τ 3)), (5, v24_7), (4, v4_8), (24, v24_7), (23, v23_6), (18, v22_5), (22, v22_5), (21, v21_4), (20, (τ 3)), (19, v19_3), (11, (.bool true)), (11, v11_2), (10, v10_1), (9, v9_0), (8, (τ 3))]) ds s15)
 (I.wop (.fieldAddr 35 (.const v4_8) 1) 0 s15 fun v37_16 s16 =>
 I.wop (.load 9 (.const v37_16)) 9 s16 fun v38_17 s17 =>
 I.wop (.call ⟨.builtin .len, ⟨[(.const v38_17)]⟩, #[9]⟩) 3 s17 fun v39_18 s18 =>
 I.wop (.binOp .add 3 (.const (τ 3)) (.const v39_18) 3) 3 s18 fun v40_19 s19 =>
 I.wop (.load 9 (.const (τ 1))) 9 s19 fun v13_20 s20 =>
 I.wop (.slice 9 (.const v13_20) (some (.const v40_19)) none none) 9 s20 fun v15_21 s21 =>
 I.call 25 [v15_21] s21 fun v16_22 s22 =>
 I.wop (.binOp .add 3 (.const v40_19) (.const v16_22) 3) 3 s22 fun v17_23 s23 =>
 Q .normal (U τ [(3, v17_23), (17, v17_23), (16, v16_22), (15, v15_21), (14, v40_19), (13, v13_20), (12, v40_19), (3, v40_19), (40, v40_19), (39, v39_18), (38, v38_17), (37, v37_16), (36, (τ 3)), (35, (.bool false)), (35, v34_15), (32, (.bool false)), (34, v34_15), (32, (.bool false)), (33, v24_7), (32, (.bool false)), (32, v31_14), (31, v31_14), (30, v30_13), (29, v24_7), (28, v28_12), (27, (τ 0)), (26, v26_10), (25, (τ 3)), (5, v24_7), (4, v4_8), (24, v24_7), (23, v23_6), (18, v22_5), (22, v22_5), (21, v21_4), (20, (τ 3)), (19, v19_3), (11, (.bool true)), (11, v11_2), (10, v10_1), (9, v9_0), (8, (τ 3))]) ds s23)))
 (Q (.exit 0) (U τ [(11, (.bool false)), (11, v11_2), (10, v10_1), (9, v9_0), (8, (τ 3))]) ds s2)
theorem x24_100 (I : Prims) (rnd : Option Nat) (τ : Tau) (ds : List Deferred) (s : St) (Q : Ex → WK) : xp I rnd 41 k24_100 c24_100 [] τ [] ds s (lift Q) = v24_100 I rnd τ ds s Q := by kernel_rfl
theorem n24_100 [Memo] (ro : Nat) (rnd : Option Nat) (τ : Tau) (ds : List Deferred) (s : St) (Q : Ex → WK) : wp P ro 41 rnd c24_100 τ ds s Q = v24_100 (prims P ro) rnd τ ds s Q := xp_wp rnd 41 P ro (x24_100 _ rnd τ ds s Q)
def v24 (I : Prims) (a0 a1 : Value) (si : St) (K : Value → St → Prop) : Prop :=
 I.wop (.load 9 (.const a1)) 9 (ent si) fun v6_0 s0 =>
 I.call 25 [v6_0] s0 fun v7_1 s1 =>
 I.loop 41 none c24_100 (U undefT [(3, v7_1), (7, v7_1), (6, v6_0), (0, a0), (1, a1)]) [] s1 (fun τ ds s => ((xleave I si Tryd.f24.results.toList K) .ret) τ [] ds s) [(0, fun _ ds2 s2 =>
 xdefers I ds2 s2 fun s3 =>
 I.fin si K (.tuple (.mk [])) s3)]
theorem x24 (I : Prims) (a0 a1 : Value) (si : St) (K : Value → St → Prop) : xbody I 41 k24 Tryd.f24 c24 [a0, a1] si K = v24 I a0 a1 si K := by kernel_rfl
theorem n24 [Memo] (ro : Nat) (a0 a1 : Value) (si : St) (K : Value → St → Prop) : wbody P ro 41 Tryd.f24 c24 [a0, a1] si K = v24 (prims P ro) a0 a1 si K := xbody_eq 41 P ro (x24 _ a0 a1 si K)
theorem r24 (I : Prims) (si : St) (K : Value → St → Prop) (τ : Tau) (ds : List Deferred) (s : St) : xleave I si Tryd.f24.results.toList K .ret τ [] ds s =
 (xdefers I ds s fun s0 =>
 I.fin si K (.tuple (.mk [])) s0) := by kernel_rfl
/- attestor/lexis.idle -/
noncomputable def c25 : Code := bodyOf Tryd.f25
noncomputable def c25_1100 : Code := subCode [1, 1, 0, 0] c25
def k25 : List (List Nat) := []
def k25_1100 : List (List Nat) := []
theorem l25_1100 : ltCode 23 c25_1100 = true := by kernel_rfl
theorem m25_1100 : notMap c25_1100 = true := by kernel_rfl
theorem b25 : BodyOk P 23 1 25 Tryd.f25 c25 := ⟨Tryd.func25, by kernel_rfl, by kernel_rfl, by kernel_rfl, by kernel_rfl, by kernel_rfl⟩
def v25_1100 (I : Prims) (rnd : Option Nat) (τ : Tau) (ds : List Deferred) (s : St) (Q : Ex → WK) : Prop :=
 I.call 37 [(τ 3), (.func (.func 38) (.mk []) (.mk []))] s fun v7_0 s0 =>
 I.wop (.call ⟨.builtin .len, ⟨[(.const v7_0)]⟩, #[9]⟩) 3 s0 fun v8_1 s1 =>
 I.wop (.slice 9 (.const (τ 3)) (some (.const v8_1)) none none) 9 s1 fun v9_2 s2 =>
 I.call 39 [v9_2, (.string (ByteArray.mk #[35]))] s2 fun v11_3 s3 =>
 I.wop (.unOp .not 4 (.const v11_3)) 4 s3 fun v12_4 s4 =>
 wdec v12_4
 (I.wop (.call ⟨.builtin .len, ⟨[(.const (τ 0))]⟩, #[9]⟩) 3 s4 fun v14_5 s5 =>
 I.wop (.call ⟨.builtin .len, ⟨[(.const v9_2)]⟩, #[9]⟩) 3 s5 fun v16_6 s6 =>
 I.wop (.binOp .sub 3 (.const v14_5) (.const v16_6) 3) 3 s6 fun v17_7 s7 =>
 Q .ret (U τ [(2, v17_7), (17, v17_7), (16, v16_6), (15, v9_2), (14, v14_5), (13, (τ 0)), (12, (.bool true)), (12, v12_4), (11, v11_3), (10, v9_2), (3, v9_2), (9, v9_2), (8, v8_1), (7, v7_0), (6, (τ 3)), (5, (τ 3))]) ds s7)
 (I.call 37 [v9_2, (.func (.func 40) (.mk []) (.mk []))] s4 fun v20_8 s8 =>
 I.wop (.call ⟨.builtin .len, ⟨[(.const v20_8)]⟩, #[9]⟩) 3 s8 fun v21_9 s9 =>
 I.wop (.slice 9 (.const v9_2) (some (.const v21_9)) none none) 9 s9 fun v22_10 s10 =>
 Q .normal (U τ [(3, v22_10), (22, v22_10), (21, v21_9), (20, v20_8), (19, v9_2), (18, v9_2), (12, (.bool false)), (12, v12_4), (11, v11_3), (10, v9_2), (3, v9_2), (9, v9_2), (8, v8_1), (7, v7_0), (6, (τ 3)), (5, (τ 3))]) ds s10)
theorem x25_1100 (I : Prims) (rnd : Option Nat) (τ : Tau) (ds : List Deferred) (s : St) (Q : Ex → WK) : xp I rnd 23 k25_1100 c25_1100 [] τ [] ds s (lift Q) = v25_1100 I rnd τ ds s Q := by kernel_rfl
theorem n25_1100 [Memo] (ro : Nat) (rnd : Option Nat) (τ : Tau) (ds : List Deferred) (s : St) (Q : Ex → WK) : wp P ro 23 rnd c25_1100 τ ds s Q = v25_1100 (prims P ro) rnd τ ds s Q := xp_wp rnd 23 P ro (x25_1100 _ rnd τ ds s Q)
def v25 (I : Prims) (a0 : Value) (si : St) (K : Value → St → Prop) : Prop :=
 I.loop 23 none c25_1100 (U undefT [(3, a0), (4, a0), (2, (.int .i64 0)), (0, a0)]) [] (ent si) (fun τ ds s => ((xleave I si Tryd.f25.results.toList K) .ret) τ [] ds s) []
theorem x25 (I : Prims) (a0 : Value) (si : St) (K : Value → St → Prop) : xbody I 23 k25 Tryd.f25 c25 [a0] si K = v25 I a0 si K := by kernel_rfl
theorem n25 [Memo] (ro : Nat) (a0 : Value) (si : St) (K : Value → St → Prop) : wbody P ro 23 Tryd.f25 c25 [a0] si K = v25 (prims P ro) a0 si K := xbody_eq 23 P ro (x25 _ a0 si K)
theorem r25 (I : Prims) (si : St) (K : Value → St → Prop) (τ : Tau) (ds : List Deferred) (s : St) : xleave I si Tryd.f25.results.toList K .ret τ [] ds s =
 (xdefers I ds s fun s0 =>
 I.fin si K (τ 2) s0) := by kernel_rfl
/- attestor/lexis.first -/
noncomputable def c26 : Code := bodyOf Tryd.f26
noncomputable def c26_101011101001 : Code := subCode [1, 0, 1, 0, 1, 1, 1, 0, 1, 0, 0, 1] c26
noncomputable def c26_1010111011 : Code := subCode [1, 0, 1, 0, 1, 1, 1, 0, 1, 1] c26
noncomputable def c26_11 : Code := subCode [1, 1] c26
noncomputable def c26_110100 : Code := subCode [1, 1, 0, 1, 0, 0] c26
def k26 : List (List Nat) := [[1, 0, 0, 1, 0, 1, 1, 1, 0, 1, 0, 1]]
def k26_110100 : List (List Nat) := []
theorem l26_110100 : ltCode 70 c26_110100 = true := by kernel_rfl
theorem m26_110100 : notMap c26_110100 = true := by kernel_rfl
theorem b26 : BodyOk P 70 1 26 Tryd.f26 c26 := ⟨Tryd.func26, by kernel_rfl, by kernel_rfl, by kernel_rfl, by kernel_rfl, by kernel_rfl⟩
def v26_101011101001 (I : Prims) (τ : Tau) (ds : List Deferred) (s : St) (Q : Ex → XK) : Prop :=
 wdec (τ 29)
 (I.wop (.build 35 ⟨[]⟩) 35 s fun v37_0 s0 =>
 I.wop (.store 35 (.const (τ 2)) (.const v37_0)) 0 s0 fun _ s1 =>
 Q .ret τ [(3, (.int .i64 4)), (37, v37_0), (29, (.bool true))] ds s1)
 (I.wop (.call ⟨.builtin .len, ⟨[(.const (τ 6))]⟩, #[9]⟩) 3 s fun v40_2 s2 =>
 I.wop (.binOp .gtr 3 (.const v40_2) (.const (.int .i64 18)) 3) 4 s2 fun v41_3 s3 =>
 wdec v41_3
 (I.wop (.build 35 ⟨[]⟩) 35 s3 fun v42_4 s4 =>
 I.wop (.store 35 (.const (τ 2)) (.const v42_4)) 0 s4 fun _ s5 =>
 Q .ret τ [(3, (.int .i64 3)), (42, v42_4), (38, (.bool true)), (38, v41_3), (41, v41_3), (40, v40_2), (39, (τ 6)), (29, (.bool false))] ds s5)
 (Q .normal τ [(38, (.bool false)), (38, v41_3), (41, v41_3), (40, v40_2), (39, (τ 6)), (29, (.bool false))] ds s3))
theorem n26_101011101001 (I : Prims) (τ : Tau) (ds : List Deferred) (s : St) (Q : Ex → XK) : xp I none 70 k26 c26_101011101001 [1, 0, 0, 1, 0, 1, 1, 1, 0, 1, 0, 1] τ [] ds s Q = v26_101011101001 I τ ds s Q := by kernel_rfl
def v26_1010111011 (I : Prims) (τ : Tau) (ds : List Deferred) (s : St) (Q : Ex → XK) : Prop :=
 I.call 45 [(τ 6), (.int .i64 10), (.int .i64 64)] s fun v45_0 s0 =>
 I.wop (.extract (.const v45_0) 0) 33 s0 fun v46_1 s1 =>
 I.wop (.extract (.const v45_0) 1) 57 s1 fun v47_2 s2 =>
 I.call 43 [(τ 6)] s2 fun v49_3 s3 =>
 I.wop (.build 35 ⟨[(0, (.const (.int .u8 2))), (1, (.const v49_3)), (2, (.const v46_1))]⟩) 35 s3 fun v51_4 s4 =>
 I.wop (.store 35 (.const (τ 2)) (.const v51_4)) 0 s4 fun _ s5 =>
 Q .ret τ [(3, (.int .i64 0)), (51, v51_4), (50, v46_1), (49, v49_3), (48, (τ 6)), (8, v47_2), (7, v46_1), (47, v47_2), (46, v46_1), (43, v45_0), (45, v45_0), (44, (τ 6))] ds s5
theorem n26_1010111011 (I : Prims) (τ : Tau) (ds : List Deferred) (s : St) (Q : Ex → XK) : xp I none 70 k26 c26_1010111011 [1, 1, 0, 1, 1, 1, 0, 1, 0, 1] τ [] ds s Q = v26_1010111011 I τ ds s Q := by kernel_rfl
def v26_110100 (I : Prims) (rnd : Option Nat) (τ : Tau) (ds : List Deferred) (s : St) (Q : Ex → WK) : Prop :=
 I.wop (.binOp .gtr 3 (.const (τ 9)) (.const (.int .i64 0)) 3) 4 s fun v56_0 s0 =>
 wdec v56_0
 (I.wop (.slice 9 (.const (τ 0)) none (some (.const (τ 9))) none) 9 s0 fun v62_1 s1 =>
 I.call 46 [] s1 fun v59_2 s2 =>
 I.wop (.lookup 65 (.const v59_2) (.const v62_1) false) 4 s2 fun v63_3 s3 =>
 veq v63_3 v63_3 = true ∧ wdec v63_3
 (I.wop (.slice 9 (.const (τ 0)) none (some (.const (τ 9))) none) 9 s3 fun v66_4 s4 =>
 I.call 43 [v66_4] s4 fun v67_5 s5 =>
 I.wop (.build 35 ⟨[(0, (.const (.int .u8 3))), (1, (.const v67_5))]⟩) 35 s5 fun v68_6 s6 =>
 I.wop (.store 35 (.const (τ 2)) (.const v68_6)) 0 s6 fun _ s7 =>
 Q .ret (U τ [(3, (.int .i64 0)), (68, v68_6), (67, v67_5), (66, v66_4), (65, (τ 9)), (64, (τ 0)), (63, (.bool true)), (63, v63_3), (59, v59_2), (62, v62_1), (61, (τ 9)), (60, (τ 0)), (56, (.bool true)), (56, v56_0), (55, (τ 9))]) ds s7)
 (I.wop (.binOp .sub 3 (.const (τ 9)) (.const (.int .i64 1)) 3) 3 s3 fun v58_8 s8 =>
 Q .normal (U τ [(9, v58_8), (58, v58_8), (57, (τ 9)), (63, (.bool false)), (63, v63_3), (59, v59_2), (62, v62_1), (61, (τ 9)), (60, (τ 0)), (56, (.bool true)), (56, v56_0), (55, (τ 9))]) ds s8))
 (Q (.exit 2) (U τ [(56, (.bool false)), (56, v56_0), (55, (τ 9))]) ds s0)
theorem x26_110100 (I : Prims) (rnd : Option Nat) (τ : Tau) (ds : List Deferred) (s : St) (Q : Ex → WK) : xp I rnd 70 k26_110100 c26_110100 [] τ [] ds s (lift Q) = v26_110100 I rnd τ ds s Q := by kernel_rfl
theorem n26_110100 [Memo] (ro : Nat) (rnd : Option Nat) (τ : Tau) (ds : List Deferred) (s : St) (Q : Ex → WK) : wp P ro 70 rnd c26_110100 τ ds s Q = v26_110100 (prims P ro) rnd τ ds s Q := xp_wp rnd 70 P ro (x26_110100 _ rnd τ ds s Q)
def v26 (I : Prims) (a0 : Value) (si : St) (K : Value → St → Prop) : Prop :=
 I.wop (.alloc 35) 0 (ent si) fun v2_0 s0 =>
 I.wop (.index 9 (.const a0) (.const (.int .i64 0))) 5 s0 fun v11_1 s1 =>
 I.call 41 [v11_1] s1 fun v14_2 s2 =>
 wdec v14_2
 (I.call 37 [a0, (.func (.func 42) (.mk []) (.mk []))] s2 fun v16_3 s3 =>
 I.wop (.call ⟨.builtin .len, ⟨[(.const v16_3)]⟩, #[9]⟩) 3 s3 fun v18_4 s4 =>
 I.wop (.binOp .gtr 3 (.const v18_4) (.const (.int .i64 20)) 3) 4 s4 fun v19_5 s5 =>
 wdec v19_5
 (I.wop (.build 35 ⟨[]⟩) 35 s5 fun v20_6 s6 =>
 I.wop (.store 35 (.const v2_0) (.const v20_6)) 0 s6 fun _ s7 =>
 I.wop (.load 35 (.const v2_0)) 35 s7 fun v2_8 _ =>
 I.fin si K (.tuple (.mk [v2_8, (.int .i64 3)])) s7)
 (I.call 43 [v16_3] s5 fun v22_9 s9 =>
 I.wop (.build 35 ⟨[(0, (.const (.int .u8 1))), (1, (.const v22_9))]⟩) 35 s9 fun v23_10 s10 =>
 I.wop (.store 35 (.const v2_0) (.const v23_10)) 0 s10 fun _ s11 =>
 I.wop (.load 35 (.const v2_0)) 35 s11 fun v2_12 _ =>
 I.fin si K (.tuple (.mk [v2_12, (.int .i64 0)])) s11))
 (I.call 44 [v11_1] s2 fun v26_13 s13 =>
 wdec v26_13
 (I.call 37 [a0, (.func (.func 44) (.mk []) (.mk []))] s13 fun v28_14 s14 =>
 I.wop (.binOp .eql 5 (.const v11_1) (.const (.int .u8 48)) 5) 4 s14 fun v31_15 s15 =>
 wdec v31_15
 (I.wop (.call ⟨.builtin .len, ⟨[(.const v28_14)]⟩, #[9]⟩) 3 s15 fun v34_16 s16 =>
 I.wop (.binOp .gtr 3 (.const v34_16) (.const (.int .i64 1)) 3) 4 s16 fun v35_17 s17 =>
 I.hold (xp I none 70 k26 c26_101011101001 [1, 0, 0, 1, 0, 1, 1, 1, 0, 1, 0, 1] (U undefT [(29, v35_17), (36, v35_17), (32, (.bool true)), (35, v35_17), (32, (.bool true)), (34, v34_16), (32, (.bool true)), (33, v28_14), (32, (.bool true)), (32, v31_15), (31, v31_15), (30, v11_1), (6, v28_14), (28, v28_14), (27, a0), (24, (.bool true)), (24, v26_13), (26, v26_13), (25, v11_1), (12, (.bool false)), (12, v14_2), (14, v14_2), (13, v11_1), (4, v11_1), (11, v11_1), (10, a0), (3, (.int .i64 0)), (2, v2_0), (0, a0)]) [] [] s17 (blkX 1 (sX I none 70 k26 c26_1010111011 [1, 1, 0, 1, 1, 1, 0, 1, 0, 1] (blkX 0 (sX I none 70 k26 c26_11 [1, 1] (xleave I si Tryd.f26.results.toList K)))))))
 (I.hold (xp I none 70 k26 c26_101011101001 [1, 0, 0, 1, 0, 1, 1, 1, 0, 1, 0, 1] (U undefT [(29, (.bool false)), (36, (.bool false)), (32, (.bool false)), (35, undef), (32, (.bool false)), (34, undef), (32, (.bool false)), (33, undef), (32, (.bool false)), (32, v31_15), (31, v31_15), (30, v11_1), (6, v28_14), (28, v28_14), (27, a0), (24, (.bool true)), (24, v26_13), (26, v26_13), (25, v11_1), (12, (.bool false)), (12, v14_2), (14, v14_2), (13, v11_1), (4, v11_1), (11, v11_1), (10, a0), (3, (.int .i64 0)), (2, v2_0), (0, a0)]) [] [] s15 (blkX 1 (sX I none 70 k26 c26_1010111011 [1, 1, 0, 1, 1, 1, 0, 1, 0, 1] (blkX 0 (sX I none 70 k26 c26_11 [1, 1] (xleave I si Tryd.f26.results.toList K))))))))
 (I.wop (.call ⟨.builtin .len, ⟨[(.const a0)]⟩, #[9]⟩) 3 s13 fun v53_18 s18 =>
 I.wop (.call ⟨.builtin .min, ⟨[(.const (.int .i64 2)), (.const v53_18)]⟩, #[3, 3]⟩) 3 s18 fun v54_19 s19 =>
 I.loop 70 none c26_110100 (U undefT [(9, v54_19), (54, v54_19), (53, v53_18), (52, a0), (24, (.bool false)), (24, v26_13), (26, v26_13), (25, v11_1), (12, (.bool false)), (12, v14_2), (14, v14_2), (13, v11_1), (4, v11_1), (11, v11_1), (10, a0), (3, (.int .i64 0)), (2, v2_0), (0, a0)]) [] s19 (fun τ ds s => ((xleave I si Tryd.f26.results.toList K) .ret) τ [] ds s) [(2, fun τ20 ds20 s20 =>
 I.wop (.build 35 ⟨[]⟩) 35 s20 fun v69_21 s21 =>
 I.wop (.store 35 (.const (τ20 2)) (.const v69_21)) 0 s21 fun _ s22 =>
 xdefers I ds20 s22 fun s23 =>
 I.wop (.load 35 (.const (τ20 2))) 35 s23 fun v2_24 _ =>
 I.fin si K (.tuple (.mk [v2_24, (.int .i64 4)])) s23)]))
theorem x26 (I : Prims) (a0 : Value) (si : St) (K : Value → St → Prop) : xbody I 70 k26 Tryd.f26 c26 [a0] si K = v26 I a0 si K := by kernel_rfl
theorem n26 [Memo] (ro : Nat) (a0 : Value) (si : St) (K : Value → St → Prop) : wbody P ro 70 Tryd.f26 c26 [a0] si K = v26 (prims P ro) a0 si K := xbody_eq 70 P ro (x26 _ a0 si K)
theorem r26 (I : Prims) (si : St) (K : Value → St → Prop) (τ : Tau) (ds : List Deferred) (s : St) : xleave I si Tryd.f26.results.toList K .ret τ [] ds s =
 (xdefers I ds s fun s0 =>
 I.wop (.load 35 (.const (τ 2))) 35 s0 fun v2_1 _ =>
 I.fin si K (.tuple (.mk [v2_1, (τ 3)])) s0) := by kernel_rfl
/- attestor/lexis.run -/
noncomputable def c37 : Code := bodyOf Tryd.f37
noncomputable def c37_10100 : Code := subCode [1, 0, 1, 0, 0] c37
def k37 : List (List Nat) := []
def k37_10100 : List (List Nat) := []
theorem l37_10100 : ltCode 22 c37_10100 = true := by kernel_rfl
theorem m37_10100 : notMap c37_10100 = true := by kernel_rfl
theorem b37 : BodyOk P 22 2 37 Tryd.f37 c37 := ⟨Tryd.func37, by kernel_rfl, by kernel_rfl, by kernel_rfl, by kernel_rfl, by kernel_rfl⟩
def v37_10100 (I : Prims) (rnd : Option Nat) (τ : Tau) (ds : List Deferred) (s : St) (Q : Ex → WK) : Prop :=
 I.wop (.binOp .lss 3 (.const (τ 8)) (.const (τ 7)) 3) 4 s fun v9_0 s0 =>
 wdec v9_0
 (I.wop (.index 9 (.const (τ 0)) (.const (τ 8))) 5 s0 fun v14_1 s1 =>
 xcallv I (τ 1) [v14_1] s1 fun v15_2 s2 =>
 I.wop (.unOp .not 4 (.const v15_2)) 4 s2 fun v16_3 s3 =>
 wdec v16_3
 (I.wop (.slice 9 (.const (τ 0)) none (some (.const (τ 8))) none) 9 s3 fun v19_4 s4 =>
 Q .ret (U τ [(4, v19_4), (19, v19_4), (18, (τ 8)), (17, (τ 0)), (16, (.bool true)), (16, v16_3), (15, v15_2), (14, v14_1), (13, (τ 8)), (12, (τ 0)), (11, (τ 1)), (5, (τ 8)), (10, (τ 8)), (9, (.bool true)), (9, v9_0)]) ds s4)
 (I.wop (.binOp .add 3 (.const (τ 8)) (.const (.int .i64 1)) 3) 3 s3 fun v20_5 s5 =>
 Q .normal (U τ [(8, v20_5), (20, v20_5), (16, (.bool false)), (16, v16_3), (15, v15_2), (14, v14_1), (13, (τ 8)), (12, (τ 0)), (11, (τ 1)), (5, (τ 8)), (10, (τ 8)), (9, (.bool true)), (9, v9_0)]) ds s5))
 (Q (.exit 0) (U τ [(9, (.bool false)), (9, v9_0)]) ds s0)
theorem x37_10100 (I : Prims) (rnd : Option Nat) (τ : Tau) (ds : List Deferred) (s : St) (Q : Ex → WK) : xp I rnd 22 k37_10100 c37_10100 [] τ [] ds s (lift Q) = v37_10100 I rnd τ ds s Q := by kernel_rfl
theorem n37_10100 [Memo] (ro : Nat) (rnd : Option Nat) (τ : Tau) (ds : List Deferred) (s : St) (Q : Ex → WK) : wp P ro 22 rnd c37_10100 τ ds s Q = v37_10100 (prims P ro) rnd τ ds s Q := xp_wp rnd 22 P ro (x37_10100 _ rnd τ ds s Q)
def v37 (I : Prims) (a0 a1 : Value) (si : St) (K : Value → St → Prop) : Prop :=
 I.wop (.call ⟨.builtin .len, ⟨[(.const a0)]⟩, #[9]⟩) 3 (ent si) fun v7_0 s0 =>
 I.loop 22 none c37_10100 (U undefT [(8, (.int .i64 0)), (7, v7_0), (6, a0), (4, (.string (ByteArray.mk #[]))), (0, a0), (1, a1)]) [] s0 (fun τ ds s => ((xleave I si Tryd.f37.results.toList K) .ret) τ [] ds s) [(0, fun τ1 ds1 s1 =>
 xdefers I ds1 s1 fun s2 =>
 I.fin si K (τ1 0) s2)]
theorem x37 (I : Prims) (a0 a1 : Value) (si : St) (K : Value → St → Prop) : xbody I 22 k37 Tryd.f37 c37 [a0, a1] si K = v37 I a0 a1 si K := by kernel_rfl
theorem n37 [Memo] (ro : Nat) (a0 a1 : Value) (si : St) (K : Value → St → Prop) : wbody P ro 22 Tryd.f37 c37 [a0, a1] si K = v37 (prims P ro) a0 a1 si K := xbody_eq 22 P ro (x37 _ a0 a1 si K)
theorem r37 (I : Prims) (si : St) (K : Value → St → Prop) (τ : Tau) (ds : List Deferred) (s : St) : xleave I si Tryd.f37.results.toList K .ret τ [] ds s =
 (xdefers I ds s fun s0 =>
 I.fin si K (τ 4) s0) := by kernel_rfl
/- attestor/lexis.blank -/
noncomputable def c38 : Code := bodyOf Tryd.f38
def k38 : List (List Nat) := []
theorem b38 : BodyOk P 17 1 38 Tryd.f38 c38 := ⟨Tryd.func38, by kernel_rfl, by kernel_rfl, by kernel_rfl, by kernel_rfl, by kernel_rfl⟩
def v38 (I : Prims) (a0 : Value) (si : St) (K : Value → St → Prop) : Prop :=
 I.wop (.binOp .eql 5 (.const a0) (.const (.int .u8 32)) 5) 4 (ent si) fun v4_0 s0 =>
 wdec v4_0
 (I.fin si K (.bool true) s0)
 (I.wop (.binOp .eql 5 (.const a0) (.const (.int .u8 9)) 5) 4 s0 fun v7_1 s1 =>
 wdec v7_1
 (I.fin si K (.bool true) s1)
 (I.wop (.binOp .eql 5 (.const a0) (.const (.int .u8 13)) 5) 4 s1 fun v11_2 s2 =>
 wdec v11_2
 (I.fin si K (.bool true) s2)
 (I.wop (.binOp .eql 5 (.const a0) (.const (.int .u8 10)) 5) 4 s2 fun v15_3 s3 =>
 I.fin si K v15_3 s3)))
theorem x38 (I : Prims) (a0 : Value) (si : St) (K : Value → St → Prop) : xbody I 17 k38 Tryd.f38 c38 [a0] si K = v38 I a0 si K := by kernel_rfl
theorem n38 [Memo] (ro : Nat) (a0 : Value) (si : St) (K : Value → St → Prop) : wbody P ro 17 Tryd.f38 c38 [a0] si K = v38 (prims P ro) a0 si K := xbody_eq 17 P ro (x38 _ a0 si K)
/- strings.HasPrefix -/
noncomputable def c39 : Code := bodyOf Tryd.f39
def k39 : List (List Nat) := []
theorem b39 : BodyOk P 8 2 39 Tryd.f39 c39 := ⟨Tryd.func39, by kernel_rfl, by kernel_rfl, by kernel_rfl, by kernel_rfl, by kernel_rfl⟩
def v39 (I : Prims) (a0 a1 : Value) (si : St) (K : Value → St → Prop) : Prop :=
 I.call 49 [a0, a1] (ent si) fun v7_0 s0 =>
 I.fin si K v7_0 s0
theorem x39 (I : Prims) (a0 a1 : Value) (si : St) (K : Value → St → Prop) : xbody I 8 k39 Tryd.f39 c39 [a0, a1] si K = v39 I a0 a1 si K := by kernel_rfl
theorem n39 [Memo] (ro : Nat) (a0 a1 : Value) (si : St) (K : Value → St → Prop) : wbody P ro 8 Tryd.f39 c39 [a0, a1] si K = v39 (prims P ro) a0 a1 si K := xbody_eq 8 P ro (x39 _ a0 a1 si K)
/- attestor/lexis.idle$1 -/
noncomputable def c40 : Code := bodyOf Tryd.f40
def k40 : List (List Nat) := []
theorem b40 : BodyOk P 5 1 40 Tryd.f40 c40 := ⟨Tryd.func40, by kernel_rfl, by kernel_rfl, by kernel_rfl, by kernel_rfl, by kernel_rfl⟩
def v40 (I : Prims) (a0 : Value) (si : St) (K : Value → St → Prop) : Prop :=
 I.wop (.binOp .neq 5 (.const a0) (.const (.int .u8 10)) 5) 4 (ent si) fun v4_0 s0 =>
 I.fin si K v4_0 s0
theorem x40 (I : Prims) (a0 : Value) (si : St) (K : Value → St → Prop) : xbody I 5 k40 Tryd.f40 c40 [a0] si K = v40 I a0 si K := by kernel_rfl
theorem n40 [Memo] (ro : Nat) (a0 : Value) (si : St) (K : Value → St → Prop) : wbody P ro 5 Tryd.f40 c40 [a0] si K = v40 (prims P ro) a0 si K := xbody_eq 5 P ro (x40 _ a0 si K)
/- attestor/lexis.letter -/
noncomputable def c41 : Code := bodyOf Tryd.f41
def k41 : List (List Nat) := []
theorem b41 : BodyOk P 17 1 41 Tryd.f41 c41 := ⟨Tryd.func41, by kernel_rfl, by kernel_rfl, by kernel_rfl, by kernel_rfl, by kernel_rfl⟩
def v41 (I : Prims) (a0 : Value) (si : St) (K : Value → St → Prop) : Prop :=
 I.wop (.binOp .geq 5 (.const a0) (.const (.int .u8 97)) 5) 4 (ent si) fun v4_0 s0 =>
 wdec v4_0
 (I.wop (.binOp .leq 5 (.const a0) (.const (.int .u8 122)) 5) 4 s0 fun v7_1 s1 =>
 wdec v7_1
 (I.fin si K (.bool true) s1)
 (I.wop (.binOp .geq 5 (.const a0) (.const (.int .u8 65)) 5) 4 s1 fun v11_2 s2 =>
 wdec v11_2
 (I.wop (.binOp .leq 5 (.const a0) (.const (.int .u8 90)) 5) 4 s2 fun v14_3 s3 =>
 I.fin si K v14_3 s3)
 (I.fin si K (.bool false) s2)))
 (I.wop (.binOp .geq 5 (.const a0) (.const (.int .u8 65)) 5) 4 s0 fun v11_4 s4 =>
 wdec v11_4
 (I.wop (.binOp .leq 5 (.const a0) (.const (.int .u8 90)) 5) 4 s4 fun v14_5 s5 =>
 I.fin si K v14_5 s5)
 (I.fin si K (.bool false) s4))
theorem x41 (I : Prims) (a0 : Value) (si : St) (K : Value → St → Prop) : xbody I 17 k41 Tryd.f41 c41 [a0] si K = v41 I a0 si K := by kernel_rfl
theorem n41 [Memo] (ro : Nat) (a0 : Value) (si : St) (K : Value → St → Prop) : wbody P ro 17 Tryd.f41 c41 [a0] si K = v41 (prims P ro) a0 si K := xbody_eq 17 P ro (x41 _ a0 si K)
/- attestor/lexis.inside -/
noncomputable def c42 : Code := bodyOf Tryd.f42
def k42 : List (List Nat) := []
theorem b42 : BodyOk P 13 1 42 Tryd.f42 c42 := ⟨Tryd.func42, by kernel_rfl, by kernel_rfl, by kernel_rfl, by kernel_rfl, by kernel_rfl⟩
def v42 (I : Prims) (a0 : Value) (si : St) (K : Value → St → Prop) : Prop :=
 I.call 41 [a0] (ent si) fun v4_0 s0 =>
 wdec v4_0
 (I.fin si K (.bool true) s0)
 (I.call 44 [a0] s0 fun v7_1 s1 =>
 wdec v7_1
 (I.fin si K (.bool true) s1)
 (I.wop (.binOp .eql 5 (.const a0) (.const (.int .u8 95)) 5) 4 s1 fun v11_2 s2 =>
 I.fin si K v11_2 s2))
theorem x42 (I : Prims) (a0 : Value) (si : St) (K : Value → St → Prop) : xbody I 13 k42 Tryd.f42 c42 [a0] si K = v42 I a0 si K := by kernel_rfl
theorem n42 [Memo] (ro : Nat) (a0 : Value) (si : St) (K : Value → St → Prop) : wbody P ro 13 Tryd.f42 c42 [a0] si K = v42 (prims P ro) a0 si K := xbody_eq 13 P ro (x42 _ a0 si K)
/- strings.Clone -/
noncomputable def c43 : Code := bodyOf Tryd.f43
def k43 : List (List Nat) := []
theorem b43 : BodyOk P 5 1 43 Tryd.f43 c43 := ⟨Tryd.func43, by kernel_rfl, by kernel_rfl, by kernel_rfl, by kernel_rfl, by kernel_rfl⟩
def v43 (I : Prims) (a0 : Value) (si : St) (K : Value → St → Prop) : Prop :=
 I.call 50 [a0] (ent si) fun v4_0 s0 =>
 I.fin si K v4_0 s0
theorem x43 (I : Prims) (a0 : Value) (si : St) (K : Value → St → Prop) : xbody I 5 k43 Tryd.f43 c43 [a0] si K = v43 I a0 si K := by kernel_rfl
theorem n43 [Memo] (ro : Nat) (a0 : Value) (si : St) (K : Value → St → Prop) : wbody P ro 5 Tryd.f43 c43 [a0] si K = v43 (prims P ro) a0 si K := xbody_eq 5 P ro (x43 _ a0 si K)
/- attestor/lexis.digit -/
noncomputable def c44 : Code := bodyOf Tryd.f44
def k44 : List (List Nat) := []
theorem b44 : BodyOk P 9 1 44 Tryd.f44 c44 := ⟨Tryd.func44, by kernel_rfl, by kernel_rfl, by kernel_rfl, by kernel_rfl, by kernel_rfl⟩
def v44 (I : Prims) (a0 : Value) (si : St) (K : Value → St → Prop) : Prop :=
 I.wop (.binOp .geq 5 (.const a0) (.const (.int .u8 48)) 5) 4 (ent si) fun v4_0 s0 =>
 wdec v4_0
 (I.wop (.binOp .leq 5 (.const a0) (.const (.int .u8 57)) 5) 4 s0 fun v7_1 s1 =>
 I.fin si K v7_1 s1)
 (I.fin si K (.bool false) s0)
theorem x44 (I : Prims) (a0 : Value) (si : St) (K : Value → St → Prop) : xbody I 9 k44 Tryd.f44 c44 [a0] si K = v44 I a0 si K := by kernel_rfl
theorem n44 [Memo] (ro : Nat) (a0 : Value) (si : St) (K : Value → St → Prop) : wbody P ro 9 Tryd.f44 c44 [a0] si K = v44 (prims P ro) a0 si K := xbody_eq 9 P ro (x44 _ a0 si K)
/- attestor/lexis.signs -/
noncomputable def c46 : Code := bodyOf Tryd.f46
def k46 : List (List Nat) := []
theorem b46 : BodyOk P 3 0 46 Tryd.f46 c46 := ⟨Tryd.func46, by kernel_rfl, by kernel_rfl, by kernel_rfl, by kernel_rfl, by kernel_rfl⟩
def v46 (I : Prims) (si : St) (K : Value → St → Prop) : Prop :=
 I.wop (.makeMap 65 none) 65 (ent si) fun v1_0 s0 =>
 I.wop (.insert 65 (.const v1_0) (.const (.string (ByteArray.mk #[43]))) (.const (.bool true))) 0 s0 fun _ s1 =>
 I.wop (.insert 65 (.const v1_0) (.const (.string (ByteArray.mk #[45]))) (.const (.bool true))) 0 s1 fun _ s2 =>
 I.wop (.insert 65 (.const v1_0) (.const (.string (ByteArray.mk #[42]))) (.const (.bool true))) 0 s2 fun _ s3 =>
 I.wop (.insert 65 (.const v1_0) (.const (.string (ByteArray.mk #[61]))) (.const (.bool true))) 0 s3 fun _ s4 =>
 I.wop (.insert 65 (.const v1_0) (.const (.string (ByteArray.mk #[61, 61]))) (.const (.bool true))) 0 s4 fun _ s5 =>
 I.wop (.insert 65 (.const v1_0) (.const (.string (ByteArray.mk #[46, 46]))) (.const (.bool true))) 0 s5 fun _ s6 =>
 I.wop (.insert 65 (.const v1_0) (.const (.string (ByteArray.mk #[44]))) (.const (.bool true))) 0 s6 fun _ s7 =>
 I.wop (.insert 65 (.const v1_0) (.const (.string (ByteArray.mk #[59]))) (.const (.bool true))) 0 s7 fun _ s8 =>
 I.wop (.insert 65 (.const v1_0) (.const (.string (ByteArray.mk #[40]))) (.const (.bool true))) 0 s8 fun _ s9 =>
 I.wop (.insert 65 (.const v1_0) (.const (.string (ByteArray.mk #[41]))) (.const (.bool true))) 0 s9 fun _ s10 =>
 I.wop (.insert 65 (.const v1_0) (.const (.string (ByteArray.mk #[91]))) (.const (.bool true))) 0 s10 fun _ s11 =>
 I.wop (.insert 65 (.const v1_0) (.const (.string (ByteArray.mk #[93]))) (.const (.bool true))) 0 s11 fun _ s12 =>
 I.wop (.insert 65 (.const v1_0) (.const (.string (ByteArray.mk #[123]))) (.const (.bool true))) 0 s12 fun _ s13 =>
 I.wop (.insert 65 (.const v1_0) (.const (.string (ByteArray.mk #[125]))) (.const (.bool true))) 0 s13 fun _ s14 =>
 I.fin si K v1_0 s14
theorem x46 (I : Prims) (si : St) (K : Value → St → Prop) : xbody I 3 k46 Tryd.f46 c46 [] si K = v46 I si K := by kernel_rfl
theorem n46 [Memo] (ro : Nat) (si : St) (K : Value → St → Prop) : wbody P ro 3 Tryd.f46 c46 [] si K = v46 (prims P ro) si K := xbody_eq 3 P ro (x46 _ si K)
/- internal/stringslite.HasPrefix -/
noncomputable def c49 : Code := bodyOf Tryd.f49
def k49 : List (List Nat) := []
theorem b49 : BodyOk P 18 2 49 Tryd.f49 c49 := ⟨Tryd.func49, by kernel_rfl, by kernel_rfl, by kernel_rfl, by kernel_rfl, by kernel_rfl⟩
def v49 (I : Prims) (a0 a1 : Value) (si : St) (K : Value → St → Prop) : Prop :=
 I.wop (.call ⟨.builtin .len, ⟨[(.const a0)]⟩, #[9]⟩) 3 (ent si) fun v6_0 s0 =>
 I.wop (.call ⟨.builtin .len, ⟨[(.const a1)]⟩, #[9]⟩) 3 s0 fun v8_1 s1 =>
 I.wop (.binOp .geq 3 (.const v6_0) (.const v8_1) 3) 4 s1 fun v9_2 s2 =>
 wdec v9_2
 (I.wop (.call ⟨.builtin .len, ⟨[(.const a1)]⟩, #[9]⟩) 3 s2 fun v13_3 s3 =>
 I.wop (.slice 9 (.const a0) none (some (.const v13_3)) none) 9 s3 fun v14_4 s4 =>
 I.wop (.binOp .eql 9 (.const v14_4) (.const a1) 9) 4 s4 fun v16_5 s5 =>
 I.fin si K v16_5 s5)
 (I.fin si K (.bool false) s2)
theorem x49 (I : Prims) (a0 a1 : Value) (si : St) (K : Value → St → Prop) : xbody I 18 k49 Tryd.f49 c49 [a0, a1] si K = v49 I a0 a1 si K := by kernel_rfl
theorem n49 [Memo] (ro : Nat) (a0 a1 : Value) (si : St) (K : Value → St → Prop) : wbody P ro 18 Tryd.f49 c49 [a0, a1] si K = v49 (prims P ro) a0 a1 si K := xbody_eq 18 P ro (x49 _ a0 a1 si K)
end Go.VE
