/-
  What the functions' code does, operation by operation.
-/
import Derived.Test.YteamclmopokioaaDoorFn1
set_option linter.unusedSimpArgs false
set_option linter.unusedVariables false
namespace Go.VE
open Go Go.Proofs
/- slices.Backward[[]int,int]$1 -/
noncomputable def c92 : Code := bodyOf Tryd.f92
noncomputable def c92_100 : Code := subCode [1, 0, 0] c92
def k92 : List (List Nat) := []
def k92_100 : List (List Nat) := []
theorem l92_100 : ltCode 19 c92_100 = true := by kernel_rfl
theorem m92_100 : notMap c92_100 = true := by kernel_rfl
theorem b92 : BodyOk P 19 2 92 Tryd.f92 c92 := ⟨Tryd.func92, by kernel_rfl, by kernel_rfl, by kernel_rfl, by kernel_rfl, by kernel_rfl⟩
def v92_100 (I : Prims) (rnd : Option Nat) (τ : Tau) (ds : List Deferred) (s : St) (Q : Ex → WK) : Prop :=
 I.wop (.binOp .geq 3 (.const (τ 3)) (.const (.int .i64 0)) 3) 4 s fun v8_0 s0 =>
 wdec v8_0
 (I.wop (.load 30 (.const (τ 1))) 30 s0 fun v13_1 s1 =>
 I.wop (.indexAddr 30 (.const v13_1) (.const (τ 3))) 0 s1 fun v15_2 s2 =>
 I.wop (.load 3 (.const v15_2)) 3 s2 fun v16_3 s3 =>
 xcallv I (τ 0) [(τ 3), v16_3] s3 fun v17_4 s4 =>
 I.wop (.unOp .not 4 (.const v17_4)) 4 s4 fun v18_5 s5 =>
 wdec v18_5
 (Q .ret (U τ [(18, (.bool true)), (18, v18_5), (17, v17_4), (16, v16_3), (15, v15_2), (14, (τ 3)), (13, v13_1), (12, (τ 3)), (11, (τ 0)), (8, (.bool true)), (8, v8_0), (7, (τ 3))]) ds s5)
 (I.wop (.binOp .sub 3 (.const (τ 3)) (.const (.int .i64 1)) 3) 3 s5 fun v10_6 s6 =>
 Q .normal (U τ [(3, v10_6), (10, v10_6), (9, (τ 3)), (18, (.bool false)), (18, v18_5), (17, v17_4), (16, v16_3), (15, v15_2), (14, (τ 3)), (13, v13_1), (12, (τ 3)), (11, (τ 0)), (8, (.bool true)), (8, v8_0), (7, (τ 3))]) ds s6))
 (Q (.exit 0) (U τ [(8, (.bool false)), (8, v8_0), (7, (τ 3))]) ds s0)
theorem x92_100 (I : Prims) (rnd : Option Nat) (τ : Tau) (ds : List Deferred) (s : St) (Q : Ex → WK) : xp I rnd 19 k92_100 c92_100 [] τ [] ds s (lift Q) = v92_100 I rnd τ ds s Q := by kernel_rfl
theorem n92_100 [Memo] (ro : Nat) (rnd : Option Nat) (τ : Tau) (ds : List Deferred) (s : St) (Q : Ex → WK) : wp P ro 19 rnd c92_100 τ ds s Q = v92_100 (prims P ro) rnd τ ds s Q := xp_wp rnd 19 P ro (x92_100 _ rnd τ ds s Q)
def v92 (I : Prims) (a0 a1 : Value) (si : St) (K : Value → St → Prop) : Prop :=
 I.wop (.load 30 (.const a1)) 30 (ent si) fun v4_0 s0 =>
 I.wop (.call ⟨.builtin .len, ⟨[(.const v4_0)]⟩, #[30]⟩) 3 s0 fun v5_1 s1 =>
 I.wop (.binOp .sub 3 (.const v5_1) (.const (.int .i64 1)) 3) 3 s1 fun v6_2 s2 =>
 I.loop 19 none c92_100 (U undefT [(3, v6_2), (6, v6_2), (5, v5_1), (4, v4_0), (0, a0), (1, a1)]) [] s2 (fun τ ds s => ((xleave I si Tryd.f92.results.toList K) .ret) τ [] ds s) [(0, fun _ ds3 s3 =>
 xdefers I ds3 s3 fun s4 =>
 I.fin si K (.tuple (.mk [])) s4)]
theorem x92 (I : Prims) (a0 a1 : Value) (si : St) (K : Value → St → Prop) : xbody I 19 k92 Tryd.f92 c92 [a0, a1] si K = v92 I a0 a1 si K := by kernel_rfl
theorem n92 [Memo] (ro : Nat) (a0 a1 : Value) (si : St) (K : Value → St → Prop) : wbody P ro 19 Tryd.f92 c92 [a0, a1] si K = v92 (prims P ro) a0 a1 si K := xbody_eq 19 P ro (x92 _ a0 a1 si K)
/- attestor/field.Neg -/
noncomputable def c93 : Code := bodyOf Tryd.f93
def k93 : List (List Nat) := []
theorem b93 : BodyOk P 21 2 93 Tryd.f93 c93 := ⟨Tryd.func93, by kernel_rfl, by kernel_rfl, by kernel_rfl, by kernel_rfl, by kernel_rfl⟩
def v93 (I : Prims) (a0 a1 : Value) (si : St) (K : Value → St → Prop) : Prop :=
 I.call 80 [a0] (ent si) fun v7_0 s0 =>
 I.wop (.binOp .eql 24 (.const v7_0) (.const (.int .u64 0)) 24) 4 s0 fun v9_1 s1 =>
 wdec v9_1
 (I.fin si K (.int .u64 0) s1)
 (I.wop (.binOp .rem 24 (.const a1) (.const v7_0) 24) 24 s1 fun v13_2 s2 =>
 I.wop (.binOp .eql 24 (.const v13_2) (.const (.int .u64 0)) 24) 4 s2 fun v14_3 s3 =>
 wdec v14_3
 (I.fin si K (.int .u64 0) s3)
 (I.wop (.binOp .rem 24 (.const a1) (.const v7_0) 24) 24 s3 fun v19_4 s4 =>
 I.wop (.binOp .sub 24 (.const v7_0) (.const v19_4) 24) 24 s4 fun v20_5 s5 =>
 I.fin si K v20_5 s5))
theorem x93 (I : Prims) (a0 a1 : Value) (si : St) (K : Value → St → Prop) : xbody I 21 k93 Tryd.f93 c93 [a0, a1] si K = v93 I a0 a1 si K := by kernel_rfl
theorem n93 [Memo] (ro : Nat) (a0 a1 : Value) (si : St) (K : Value → St → Prop) : wbody P ro 21 Tryd.f93 c93 [a0, a1] si K = v93 (prims P ro) a0 a1 si K := xbody_eq 21 P ro (x93 _ a0 a1 si K)
/- slices.Chunk[[][2]int,[2]int]$1 -/
noncomputable def c94 : Code := bodyOf Tryd.f94
noncomputable def c94_100 : Code := subCode [1, 0, 0] c94
def k94 : List (List Nat) := []
def k94_100 : List (List Nat) := []
theorem l94_100 : ltCode 31 c94_100 = true := by kernel_rfl
theorem m94_100 : notMap c94_100 = true := by kernel_rfl
theorem b94 : BodyOk P 31 3 94 Tryd.f94 c94 := ⟨Tryd.func94, by kernel_rfl, by kernel_rfl, by kernel_rfl, by kernel_rfl, by kernel_rfl⟩
def v94_100 (I : Prims) (rnd : Option Nat) (τ : Tau) (ds : List Deferred) (s : St) (Q : Ex → WK) : Prop :=
 I.wop (.load 46 (.const (τ 1))) 46 s fun v7_0 s0 =>
 I.wop (.call ⟨.builtin .len, ⟨[(.const v7_0)]⟩, #[46]⟩) 3 s0 fun v8_1 s1 =>
 I.wop (.binOp .lss 3 (.const (τ 4)) (.const v8_1) 3) 4 s1 fun v9_2 s2 =>
 wdec v9_2
 (I.wop (.load 3 (.const (τ 2))) 3 s2 fun v13_3 s3 =>
 I.wop (.load 46 (.const (τ 1))) 46 s3 fun v14_4 s4 =>
 I.wop (.slice 46 (.const v14_4) (some (.const (τ 4))) none none) 46 s4 fun v16_5 s5 =>
 I.wop (.call ⟨.builtin .len, ⟨[(.const v16_5)]⟩, #[46]⟩) 3 s5 fun v17_6 s6 =>
 I.wop (.call ⟨.builtin .min, ⟨[(.const v13_3), (.const v17_6)]⟩, #[3, 3]⟩) 3 s6 fun v18_7 s7 =>
 I.wop (.load 46 (.const (τ 1))) 46 s7 fun v20_8 s8 =>
 I.wop (.binOp .add 3 (.const (τ 4)) (.const v18_7) 3) 3 s8 fun v24_9 s9 =>
 I.wop (.binOp .add 3 (.const (τ 4)) (.const v18_7) 3) 3 s9 fun v27_10 s10 =>
 I.wop (.slice 46 (.const v20_8) (some (.const (τ 4))) (some (.const v24_9)) (some (.const v27_10))) 46 s10 fun v28_11 s11 =>
 xcallv I (τ 0) [v28_11] s11 fun v29_12 s12 =>
 I.wop (.unOp .not 4 (.const v29_12)) 4 s12 fun v30_13 s13 =>
 wdec v30_13
 (Q .ret (U τ [(30, (.bool true)), (30, v30_13), (29, v29_12), (28, v28_11), (27, v27_10), (26, v18_7), (25, (τ 4)), (24, v24_9), (23, v18_7), (22, (τ 4)), (21, (τ 4)), (20, v20_8), (19, (τ 0)), (5, v18_7), (18, v18_7), (17, v17_6), (16, v16_5), (15, (τ 4)), (14, v14_4), (13, v13_3), (9, (.bool true)), (9, v9_2), (8, v8_1), (7, v7_0), (6, (τ 4))]) ds s13)
 (I.wop (.load 3 (.const (τ 2))) 3 s13 fun v11_14 s14 =>
 I.wop (.binOp .add 3 (.const (τ 4)) (.const v11_14) 3) 3 s14 fun v12_15 s15 =>
 Q .normal (U τ [(4, v12_15), (12, v12_15), (11, v11_14), (10, (τ 4)), (30, (.bool false)), (30, v30_13), (29, v29_12), (28, v28_11), (27, v27_10), (26, v18_7), (25, (τ 4)), (24, v24_9), (23, v18_7), (22, (τ 4)), (21, (τ 4)), (20, v20_8), (19, (τ 0)), (5, v18_7), (18, v18_7), (17, v17_6), (16, v16_5), (15, (τ 4)), (14, v14_4), (13, v13_3), (9, (.bool true)), (9, v9_2), (8, v8_1), (7, v7_0), (6, (τ 4))]) ds s15))
 (Q (.exit 0) (U τ [(9, (.bool false)), (9, v9_2), (8, v8_1), (7, v7_0), (6, (τ 4))]) ds s2)
theorem x94_100 (I : Prims) (rnd : Option Nat) (τ : Tau) (ds : List Deferred) (s : St) (Q : Ex → WK) : xp I rnd 31 k94_100 c94_100 [] τ [] ds s (lift Q) = v94_100 I rnd τ ds s Q := by kernel_rfl
theorem n94_100 [Memo] (ro : Nat) (rnd : Option Nat) (τ : Tau) (ds : List Deferred) (s : St) (Q : Ex → WK) : wp P ro 31 rnd c94_100 τ ds s Q = v94_100 (prims P ro) rnd τ ds s Q := xp_wp rnd 31 P ro (x94_100 _ rnd τ ds s Q)
def v94 (I : Prims) (a0 a1 a2 : Value) (si : St) (K : Value → St → Prop) : Prop :=
 I.loop 31 none c94_100 (U undefT [(4, (.int .i64 0)), (0, a0), (1, a1), (2, a2)]) [] (ent si) (fun τ ds s => ((xleave I si Tryd.f94.results.toList K) .ret) τ [] ds s) [(0, fun _ ds0 s0 =>
 xdefers I ds0 s0 fun s1 =>
 I.fin si K (.tuple (.mk [])) s1)]
theorem x94 (I : Prims) (a0 a1 a2 : Value) (si : St) (K : Value → St → Prop) : xbody I 31 k94 Tryd.f94 c94 [a0, a1, a2] si K = v94 I a0 a1 a2 si K := by kernel_rfl
theorem n94 [Memo] (ro : Nat) (a0 a1 a2 : Value) (si : St) (K : Value → St → Prop) : wbody P ro 31 Tryd.f94 c94 [a0, a1, a2] si K = v94 (prims P ro) a0 a1 a2 si K := xbody_eq 31 P ro (x94 _ a0 a1 a2 si K)
/- attestor/field.of -/
noncomputable def c95 : Code := bodyOf Tryd.f95
def k95 : List (List Nat) := []
theorem b95 : BodyOk P 10 1 95 Tryd.f95 c95 := ⟨Tryd.func95, by kernel_rfl, by kernel_rfl, by kernel_rfl, by kernel_rfl, by kernel_rfl⟩
def v95 (I : Prims) (a0 : Value) (si : St) (K : Value → St → Prop) : Prop :=
 I.wop (.alloc 140) 0 (ent si) fun v2_0 s0 =>
 I.call 37 [a0] s0 fun v4_1 s1 =>
 I.wop (.unOp .not 4 (.const v4_1)) 4 s1 fun v5_2 s2 =>
 wdec v5_2
 (I.wop (.build 140 ⟨[]⟩) 140 s2 fun v6_3 s3 =>
 I.wop (.store 140 (.const v2_0) (.const v6_3)) 0 s3 fun _ s4 =>
 I.wop (.load 140 (.const v2_0)) 140 s4 fun v2_5 _ =>
 I.fin si K v2_5 s4)
 (I.wop (.indexAddr 149 (.const (.pointer (some ⟨0, 0, none⟩))) (.const a0)) 0 s2 fun v8_6 s6 =>
 I.wop (.load 140 (.const v8_6)) 140 s6 fun v9_7 s7 =>
 I.wop (.store 140 (.const v2_0) (.const v9_7)) 0 s7 fun _ s8 =>
 I.wop (.load 140 (.const v2_0)) 140 s8 fun v2_9 _ =>
 I.fin si K v2_9 s8)
theorem x95 (I : Prims) (a0 : Value) (si : St) (K : Value → St → Prop) : xbody I 10 k95 Tryd.f95 c95 [a0] si K = v95 I a0 si K := by kernel_rfl
theorem n95 [Memo] (ro : Nat) (a0 : Value) (si : St) (K : Value → St → Prop) : wbody P ro 10 Tryd.f95 c95 [a0] si K = v95 (prims P ro) a0 si K := xbody_eq 10 P ro (x95 _ a0 si K)
/- slices.IndexFunc[[]int,int] -/
noncomputable def c96 : Code := bodyOf Tryd.f96
noncomputable def c96_10100 : Code := subCode [1, 0, 1, 0, 0] c96
def k96 : List (List Nat) := []
def k96_10100 : List (List Nat) := []
theorem l96_10100 : ltCode 19 c96_10100 = true := by kernel_rfl
theorem m96_10100 : notMap c96_10100 = true := by kernel_rfl
theorem b96 : BodyOk P 19 2 96 Tryd.f96 c96 := ⟨Tryd.func96, by kernel_rfl, by kernel_rfl, by kernel_rfl, by kernel_rfl, by kernel_rfl⟩
def v96_10100 (I : Prims) (rnd : Option Nat) (τ : Tau) (ds : List Deferred) (s : St) (Q : Ex → WK) : Prop :=
 I.wop (.binOp .lss 3 (.const (τ 8)) (.const (τ 7)) 3) 0 s fun v9_0 s0 =>
 wdec v9_0
 (I.wop (.indexAddr 30 (.const (τ 0)) (.const (τ 8))) 0 s0 fun v14_1 s1 =>
 I.wop (.load 3 (.const v14_1)) 3 s1 fun v15_2 s2 =>
 xcallv I (τ 1) [v15_2] s2 fun v16_3 s3 =>
 wdec v16_3
 (Q .ret (U τ [(4, (τ 8)), (17, (τ 8)), (16, (.bool true)), (16, v16_3), (15, v15_2), (14, v14_1), (13, (τ 8)), (12, (τ 0)), (11, (τ 1)), (5, (τ 8)), (10, (τ 8)), (9, (.bool true)), (9, v9_0)]) ds s3)
 (I.wop (.binOp .add 3 (.const (τ 8)) (.const (.int .i64 1)) 3) 3 s3 fun v18_4 s4 =>
 Q .normal (U τ [(8, v18_4), (18, v18_4), (16, (.bool false)), (16, v16_3), (15, v15_2), (14, v14_1), (13, (τ 8)), (12, (τ 0)), (11, (τ 1)), (5, (τ 8)), (10, (τ 8)), (9, (.bool true)), (9, v9_0)]) ds s4))
 (Q (.exit 0) (U τ [(9, (.bool false)), (9, v9_0)]) ds s0)
theorem x96_10100 (I : Prims) (rnd : Option Nat) (τ : Tau) (ds : List Deferred) (s : St) (Q : Ex → WK) : xp I rnd 19 k96_10100 c96_10100 [] τ [] ds s (lift Q) = v96_10100 I rnd τ ds s Q := by kernel_rfl
theorem n96_10100 [Memo] (ro : Nat) (rnd : Option Nat) (τ : Tau) (ds : List Deferred) (s : St) (Q : Ex → WK) : wp P ro 19 rnd c96_10100 τ ds s Q = v96_10100 (prims P ro) rnd τ ds s Q := xp_wp rnd 19 P ro (x96_10100 _ rnd τ ds s Q)
def v96 (I : Prims) (a0 a1 : Value) (si : St) (K : Value → St → Prop) : Prop :=
 I.wop (.call ⟨.builtin .len, ⟨[(.const a0)]⟩, #[30]⟩) 3 (ent si) fun v7_0 s0 =>
 I.loop 19 none c96_10100 (U undefT [(8, (.int .i64 0)), (7, v7_0), (6, a0), (4, (.int .i64 0)), (0, a0), (1, a1)]) [] s0 (fun τ ds s => ((xleave I si Tryd.f96.results.toList K) .ret) τ [] ds s) [(0, fun _ ds1 s1 =>
 xdefers I ds1 s1 fun s2 =>
 I.fin si K (.int .i64 (-1)) s2)]
theorem x96 (I : Prims) (a0 a1 : Value) (si : St) (K : Value → St → Prop) : xbody I 19 k96 Tryd.f96 c96 [a0, a1] si K = v96 I a0 a1 si K := by kernel_rfl
theorem n96 [Memo] (ro : Nat) (a0 a1 : Value) (si : St) (K : Value → St → Prop) : wbody P ro 19 Tryd.f96 c96 [a0, a1] si K = v96 (prims P ro) a0 a1 si K := xbody_eq 19 P ro (x96 _ a0 a1 si K)
theorem r96 (I : Prims) (si : St) (K : Value → St → Prop) (τ : Tau) (ds : List Deferred) (s : St) : xleave I si Tryd.f96.results.toList K .ret τ [] ds s =
 (xdefers I ds s fun s0 =>
 I.fin si K (τ 4) s0) := by kernel_rfl
/- attestor/attestorref23.formed -/
noncomputable def c97 : Code := bodyOf Tryd.f97
noncomputable def c97_11 : Code := subCode [1, 1] c97
noncomputable def c97_1110100 : Code := subCode [1, 1, 1, 0, 1, 0, 0] c97
noncomputable def c97_11110100 : Code := subCode [1, 1, 1, 1, 0, 1, 0, 0] c97
noncomputable def c97_1111110100 : Code := subCode [1, 1, 1, 1, 1, 1, 0, 1, 0, 0] c97
def k97 : List (List Nat) := [[1, 1]]
def k97_1110100 : List (List Nat) := []
theorem l97_1110100 : ltCode 104 c97_1110100 = true := by kernel_rfl
theorem m97_1110100 : notMap c97_1110100 = true := by kernel_rfl
def k97_11110100 : List (List Nat) := []
theorem l97_11110100 : ltCode 104 c97_11110100 = true := by kernel_rfl
theorem m97_11110100 : notMap c97_11110100 = true := by kernel_rfl
def k97_1111110100 : List (List Nat) := []
theorem l97_1111110100 : ltCode 104 c97_1111110100 = true := by kernel_rfl
theorem m97_1111110100 : notMap c97_1111110100 = true := by kernel_rfl
theorem b97 : BodyOk P 104 2 97 Tryd.f97 c97 := ⟨Tryd.func97, by kernel_rfl, by kernel_rfl, by kernel_rfl, by kernel_rfl, by kernel_rfl⟩
def v97_11 (I : Prims) (τ : Tau) (ds : List Deferred) (s : St) (Q : Ex → XK) : Prop :=
 I.wop (.fieldAddr 94 (.const (τ 3)) 2) 0 s fun v33_0 s0 =>
 I.wop (.load 24 (.const v33_0)) 24 s0 fun v34_1 s1 =>
 I.wop (.fieldAddr 94 (.const (τ 3)) 3) 0 s1 fun v35_2 s2 =>
 I.wop (.load 24 (.const v35_2)) 24 s2 fun v36_3 s3 =>
 I.wop (.fieldAddr 94 (.const (τ 3)) 4) 0 s3 fun v37_4 s4 =>
 I.wop (.load 24 (.const v37_4)) 24 s4 fun v38_5 s5 =>
 I.wop (.fieldAddr 94 (.const (τ 3)) 5) 0 s5 fun v39_6 s6 =>
 I.wop (.load 24 (.const v39_6)) 24 s6 fun v40_7 s7 =>
 I.wop (.fieldAddr 94 (.const (τ 3)) 6) 0 s7 fun v41_8 s8 =>
 I.wop (.load 24 (.const v41_8)) 24 s8 fun v42_9 s9 =>
 I.wop (.buildSlice 23 5 ⟨[(0, (.const v34_1)), (1, (.const v36_3)), (2, (.const v38_5)), (3, (.const v40_7)), (4, (.const v42_9))]⟩) 23 s9 fun v43_10 s10 =>
 I.loop 104 none c97_1110100 (U τ [(6, (.int .i64 0)), (5, v43_10), (43, v43_10), (42, v42_9), (41, v41_8), (40, v40_7), (39, v39_6), (38, v38_5), (37, v37_4), (36, v36_3), (35, v35_2), (34, v34_1), (33, v33_0)]) ds s10 (fun τ ds s => (Q .ret) τ [] ds s) [(0, fun τ11 ds11 s11 =>
 I.loop 104 none c97_11110100 (U τ11 [(7, (.int .i64 0))]) ds11 s11 (fun τ ds s => (Q .ret) τ [] ds s) [(2, fun τ12 ds12 s12 =>
 I.wop (.load 94 (.const (τ12 3))) 94 s12 fun v88_13 s13 =>
 I.call 98 [v88_13] s13 fun v89_14 s14 =>
 I.loop 104 none c97_1111110100 (U τ12 [(9, (.int .i64 0)), (8, v89_14), (89, v89_14), (88, v88_13)]) ds12 s14 (fun τ ds s => (Q .ret) τ [] ds s) [(4, fun τ15 ds15 s15 =>
 Q .ret τ15 [(4, (.bool true))] ds15 s15)])])]
theorem n97_11 (I : Prims) (τ : Tau) (ds : List Deferred) (s : St) (Q : Ex → XK) : xp I none 104 k97 c97_11 [1, 1] τ [] ds s Q = v97_11 I τ ds s Q := by kernel_rfl
def v97_1110100 (I : Prims) (rnd : Option Nat) (τ : Tau) (ds : List Deferred) (s : St) (Q : Ex → WK) : Prop :=
 I.wop (.call ⟨.builtin .len, ⟨[(.const (τ 5))]⟩, #[23]⟩) 3 s fun v46_0 s0 =>
 I.wop (.binOp .lss 3 (.const (τ 6)) (.const v46_0) 3) 4 s0 fun v47_1 s1 =>
 wdec v47_1
 (I.wop (.indexAddr 23 (.const (τ 5)) (.const (τ 6))) 0 s1 fun v52_2 s2 =>
 I.wop (.load 24 (.const v52_2)) 24 s2 fun v53_3 s3 =>
 veq v53_3 v53_3 = true ∧ I.wop (.fieldAddr 34 (.const (τ 2)) 0) 0 s3 fun v54_4 s4 =>
 I.wop (.load 3 (.const v54_4)) 3 s4 fun v55_5 s5 =>
 veq v55_5 v55_5 = true ∧ I.call 14 [v55_5] s5 fun v56_6 s6 =>
 Keeps [(3, .ptr v52_2)] s5 s6 ∧ I.wop (.binOp .geq 24 (.const v53_3) (.const v56_6) 24) 4 s6 fun v57_7 s7 =>
 wdec v57_7
 (Q .ret (U τ [(4, (.bool false)), (69, (.bool true)), (69, (.bool true)), (58, (.bool true)), (68, undef), (58, (.bool true)), (67, undef), (66, undef), (65, undef), (64, undef), (63, undef), (62, undef), (58, (.bool true)), (61, undef), (58, (.bool true)), (60, undef), (58, (.bool true)), (59, undef), (58, (.bool true)), (58, v57_7), (57, v57_7), (56, v56_6), (55, v55_5), (54, v54_4), (53, v53_3), (52, v52_2), (51, (τ 6)), (50, (τ 5)), (47, (.bool true)), (47, v47_1), (46, v46_0), (45, (τ 5)), (44, (τ 6))]) ds s7)
 (I.wop (.fieldAddr 94 (.const (τ 3)) 0) 0 s7 fun v59_8 s8 =>
 I.wop (.load 92 (.const v59_8)) 92 s8 fun v60_9 s9 =>
 veq v60_9 v60_9 = true ∧ I.wop (.binOp .neq 92 (.const v60_9) (.const (.int .u8 1)) 92) 4 s9 fun v61_10 s10 =>
 wdec v61_10
 (I.wop (.indexAddr 23 (.const (τ 5)) (.const (τ 6))) 0 s10 fun v65_11 s11 =>
 I.wop (.load 24 (.const v65_11)) 24 s11 fun v66_12 s12 =>
 veq v66_12 v66_12 = true ∧ I.wop (.binOp .neq 24 (.const v66_12) (.const (.int .u64 0)) 24) 4 s12 fun v67_13 s13 =>
 wdec v67_13
 (Q .ret (U τ [(4, (.bool false)), (69, (.bool true)), (69, v67_13), (58, (.bool false)), (68, v67_13), (62, (.bool true)), (58, (.bool false)), (67, v67_13), (62, (.bool true)), (66, v66_12), (62, (.bool true)), (65, v65_11), (62, (.bool true)), (64, (τ 6)), (62, (.bool true)), (63, (τ 5)), (62, (.bool true)), (62, v61_10), (58, (.bool false)), (61, v61_10), (58, (.bool false)), (60, v60_9), (58, (.bool false)), (59, v59_8), (58, (.bool false)), (58, v57_7), (57, v57_7), (56, v56_6), (55, v55_5), (54, v54_4), (53, v53_3), (52, v52_2), (51, (τ 6)), (50, (τ 5)), (47, (.bool true)), (47, v47_1), (46, v46_0), (45, (τ 5)), (44, (τ 6))]) ds s13)
 (I.wop (.binOp .add 3 (.const (τ 6)) (.const (.int .i64 1)) 3) 3 s13 fun v49_14 s14 =>
 Q .normal (U τ [(6, v49_14), (49, v49_14), (48, (τ 6)), (69, (.bool false)), (69, v67_13), (58, (.bool false)), (68, v67_13), (62, (.bool true)), (58, (.bool false)), (67, v67_13), (62, (.bool true)), (66, v66_12), (62, (.bool true)), (65, v65_11), (62, (.bool true)), (64, (τ 6)), (62, (.bool true)), (63, (τ 5)), (62, (.bool true)), (62, v61_10), (58, (.bool false)), (61, v61_10), (58, (.bool false)), (60, v60_9), (58, (.bool false)), (59, v59_8), (58, (.bool false)), (58, v57_7), (57, v57_7), (56, v56_6), (55, v55_5), (54, v54_4), (53, v53_3), (52, v52_2), (51, (τ 6)), (50, (τ 5)), (47, (.bool true)), (47, v47_1), (46, v46_0), (45, (τ 5)), (44, (τ 6))]) ds s14))
 (I.wop (.binOp .add 3 (.const (τ 6)) (.const (.int .i64 1)) 3) 3 s10 fun v49_15 s15 =>
 Q .normal (U τ [(6, v49_15), (49, v49_15), (48, (τ 6)), (69, (.bool false)), (69, (.bool false)), (58, (.bool false)), (68, (.bool false)), (62, (.bool false)), (58, (.bool false)), (67, undef), (62, (.bool false)), (66, undef), (62, (.bool false)), (65, undef), (62, (.bool false)), (64, undef), (62, (.bool false)), (63, undef), (62, (.bool false)), (62, v61_10), (58, (.bool false)), (61, v61_10), (58, (.bool false)), (60, v60_9), (58, (.bool false)), (59, v59_8), (58, (.bool false)), (58, v57_7), (57, v57_7), (56, v56_6), (55, v55_5), (54, v54_4), (53, v53_3), (52, v52_2), (51, (τ 6)), (50, (τ 5)), (47, (.bool true)), (47, v47_1), (46, v46_0), (45, (τ 5)), (44, (τ 6))]) ds s15)))
 (Q (.exit 0) (U τ [(47, (.bool false)), (47, v47_1), (46, v46_0), (45, (τ 5)), (44, (τ 6))]) ds s1)
theorem x97_1110100 (I : Prims) (rnd : Option Nat) (τ : Tau) (ds : List Deferred) (s : St) (Q : Ex → WK) : xp I rnd 104 k97_1110100 c97_1110100 [] τ [] ds s (lift Q) = v97_1110100 I rnd τ ds s Q := by kernel_rfl
theorem n97_1110100 [Memo] (ro : Nat) (rnd : Option Nat) (τ : Tau) (ds : List Deferred) (s : St) (Q : Ex → WK) : wp P ro 104 rnd c97_1110100 τ ds s Q = v97_1110100 (prims P ro) rnd τ ds s Q := xp_wp rnd 104 P ro (x97_1110100 _ rnd τ ds s Q)
def v97_11110100 (I : Prims) (rnd : Option Nat) (τ : Tau) (ds : List Deferred) (s : St) (Q : Ex → WK) : Prop :=
 I.wop (.binOp .lss 3 (.const (τ 7)) (.const (.int .i64 4)) 3) 4 s fun v71_0 s0 =>
 wdec v71_0
 (I.wop (.fieldAddr 94 (.const (τ 3)) 1) 0 s0 fun v75_1 s1 =>
 I.wop (.indexAddr 53 (.const v75_1) (.const (τ 7))) 0 s1 fun v76_2 s2 =>
 I.wop (.load 3 (.const v76_2)) 3 s2 fun v77_3 s3 =>
 I.wop (.binOp .lss 3 (.const v77_3) (.const (.int .i64 (-1))) 3) 4 s3 fun v78_4 s4 =>
 wdec v78_4
 (Q .ret (U τ [(4, (.bool false)), (87, (.bool true)), (87, (.bool true)), (79, (.bool true)), (86, undef), (79, (.bool true)), (85, undef), (79, (.bool true)), (84, undef), (79, (.bool true)), (83, undef), (79, (.bool true)), (82, undef), (79, (.bool true)), (81, undef), (79, (.bool true)), (80, undef), (79, (.bool true)), (79, v78_4), (78, v78_4), (77, v77_3), (76, v76_2), (75, v75_1), (74, (τ 7)), (71, (.bool true)), (71, v71_0), (70, (τ 7))]) ds s4)
 (I.wop (.fieldAddr 94 (.const (τ 3)) 1) 0 s4 fun v81_5 s5 =>
 I.wop (.indexAddr 53 (.const v81_5) (.const (τ 7))) 0 s5 fun v82_6 s6 =>
 I.wop (.load 3 (.const v82_6)) 3 s6 fun v83_7 s7 =>
 I.wop (.fieldAddr 34 (.const (τ 2)) 1) 0 s7 fun v84_8 s8 =>
 I.wop (.load 3 (.const v84_8)) 3 s8 fun v85_9 s9 =>
 I.wop (.binOp .geq 3 (.const v83_7) (.const v85_9) 3) 4 s9 fun v86_10 s10 =>
 wdec v86_10
 (Q .ret (U τ [(4, (.bool false)), (87, (.bool true)), (87, v86_10), (79, (.bool false)), (86, v86_10), (79, (.bool false)), (85, v85_9), (79, (.bool false)), (84, v84_8), (79, (.bool false)), (83, v83_7), (79, (.bool false)), (82, v82_6), (79, (.bool false)), (81, v81_5), (79, (.bool false)), (80, (τ 7)), (79, (.bool false)), (79, v78_4), (78, v78_4), (77, v77_3), (76, v76_2), (75, v75_1), (74, (τ 7)), (71, (.bool true)), (71, v71_0), (70, (τ 7))]) ds s10)
 (I.wop (.binOp .add 3 (.const (τ 7)) (.const (.int .i64 1)) 3) 3 s10 fun v73_11 s11 =>
 Q .normal (U τ [(7, v73_11), (73, v73_11), (72, (τ 7)), (87, (.bool false)), (87, v86_10), (79, (.bool false)), (86, v86_10), (79, (.bool false)), (85, v85_9), (79, (.bool false)), (84, v84_8), (79, (.bool false)), (83, v83_7), (79, (.bool false)), (82, v82_6), (79, (.bool false)), (81, v81_5), (79, (.bool false)), (80, (τ 7)), (79, (.bool false)), (79, v78_4), (78, v78_4), (77, v77_3), (76, v76_2), (75, v75_1), (74, (τ 7)), (71, (.bool true)), (71, v71_0), (70, (τ 7))]) ds s11)))
 (Q (.exit 2) (U τ [(71, (.bool false)), (71, v71_0), (70, (τ 7))]) ds s0)
theorem x97_11110100 (I : Prims) (rnd : Option Nat) (τ : Tau) (ds : List Deferred) (s : St) (Q : Ex → WK) : xp I rnd 104 k97_11110100 c97_11110100 [] τ [] ds s (lift Q) = v97_11110100 I rnd τ ds s Q := by kernel_rfl
theorem n97_11110100 [Memo] (ro : Nat) (rnd : Option Nat) (τ : Tau) (ds : List Deferred) (s : St) (Q : Ex → WK) : wp P ro 104 rnd c97_11110100 τ ds s Q = v97_11110100 (prims P ro) rnd τ ds s Q := xp_wp rnd 104 P ro (x97_11110100 _ rnd τ ds s Q)
def v97_1111110100 (I : Prims) (rnd : Option Nat) (τ : Tau) (ds : List Deferred) (s : St) (Q : Ex → WK) : Prop :=
 I.wop (.call ⟨.builtin .len, ⟨[(.const (τ 8))]⟩, #[30]⟩) 3 s fun v92_0 s0 =>
 I.wop (.binOp .lss 3 (.const (τ 9)) (.const v92_0) 3) 4 s0 fun v93_1 s1 =>
 wdec v93_1
 (I.wop (.indexAddr 30 (.const (τ 8)) (.const (τ 9))) 0 s1 fun v98_2 s2 =>
 I.wop (.load 3 (.const v98_2)) 3 s2 fun v99_3 s3 =>
 I.wop (.fieldAddr 94 (.const (τ 3)) 1) 0 s3 fun v100_4 s4 =>
 I.wop (.indexAddr 53 (.const v100_4) (.const v99_3)) 0 s4 fun v101_5 s5 =>
 I.wop (.load 3 (.const v101_5)) 3 s5 fun v102_6 s6 =>
 I.wop (.binOp .lss 3 (.const v102_6) (.const (.int .i64 0)) 3) 4 s6 fun v103_7 s7 =>
 wdec v103_7
 (Q .ret (U τ [(4, (.bool false)), (103, (.bool true)), (103, v103_7), (102, v102_6), (101, v101_5), (100, v100_4), (99, v99_3), (98, v98_2), (97, (τ 9)), (96, (τ 8)), (93, (.bool true)), (93, v93_1), (92, v92_0), (91, (τ 8)), (90, (τ 9))]) ds s7)
 (I.wop (.binOp .add 3 (.const (τ 9)) (.const (.int .i64 1)) 3) 3 s7 fun v95_8 s8 =>
 Q .normal (U τ [(9, v95_8), (95, v95_8), (94, (τ 9)), (103, (.bool false)), (103, v103_7), (102, v102_6), (101, v101_5), (100, v100_4), (99, v99_3), (98, v98_2), (97, (τ 9)), (96, (τ 8)), (93, (.bool true)), (93, v93_1), (92, v92_0), (91, (τ 8)), (90, (τ 9))]) ds s8))
 (Q (.exit 4) (U τ [(93, (.bool false)), (93, v93_1), (92, v92_0), (91, (τ 8)), (90, (τ 9))]) ds s1)
theorem x97_1111110100 (I : Prims) (rnd : Option Nat) (τ : Tau) (ds : List Deferred) (s : St) (Q : Ex → WK) : xp I rnd 104 k97_1111110100 c97_1111110100 [] τ [] ds s (lift Q) = v97_1111110100 I rnd τ ds s Q := by kernel_rfl
theorem n97_1111110100 [Memo] (ro : Nat) (rnd : Option Nat) (τ : Tau) (ds : List Deferred) (s : St) (Q : Ex → WK) : wp P ro 104 rnd c97_1111110100 τ ds s Q = v97_1111110100 (prims P ro) rnd τ ds s Q := xp_wp rnd 104 P ro (x97_1111110100 _ rnd τ ds s Q)
def v97 (I : Prims) (a0 a1 : Value) (si : St) (K : Value → St → Prop) : Prop :=
 I.wop (.box 34 (.const a0)) 0 (ent si) fun v2_0 s0 =>
 I.wop (.box 94 (.const a1)) 0 s0 fun v3_1 s1 =>
 I.wop (.fieldAddr 94 (.const v3_1) 0) 0 s1 fun v10_2 s2 =>
 I.wop (.load 92 (.const v10_2)) 92 s2 fun v11_3 s3 =>
 I.wop (.binOp .gtr 92 (.const v11_3) (.const (.int .u8 3)) 92) 4 s3 fun v12_4 s4 =>
 wdec v12_4
 (I.fin si K (.bool false) s4)
 (I.wop (.fieldAddr 94 (.const v3_1) 7) 0 s4 fun v14_5 s5 =>
 I.wop (.load 3 (.const v14_5)) 3 s5 fun v15_6 s6 =>
 I.wop (.binOp .lss 3 (.const v15_6) (.const (.int .i64 0)) 3) 4 s6 fun v16_7 s7 =>
 wdec v16_7
 (I.fin si K (.bool false) s7)
 (I.wop (.fieldAddr 94 (.const v3_1) 7) 0 s7 fun v19_8 s8 =>
 I.wop (.load 3 (.const v19_8)) 3 s8 fun v20_9 s9 =>
 I.wop (.binOp .gtr 3 (.const v20_9) (.const (.int .i64 7)) 3) 4 s9 fun v21_10 s10 =>
 wdec v21_10
 (I.fin si K (.bool false) s10)
 (I.wop (.fieldAddr 94 (.const v3_1) 0) 0 s10 fun v24_11 s11 =>
 I.wop (.load 92 (.const v24_11)) 92 s11 fun v25_12 s12 =>
 I.wop (.binOp .neq 92 (.const v25_12) (.const (.int .u8 3)) 92) 4 s12 fun v26_13 s13 =>
 wdec v26_13
 (I.wop (.fieldAddr 94 (.const v3_1) 7) 0 s13 fun v28_14 s14 =>
 I.wop (.load 3 (.const v28_14)) 3 s14 fun v29_15 s15 =>
 I.wop (.binOp .neq 3 (.const v29_15) (.const (.int .i64 0)) 3) 4 s15 fun v30_16 s16 =>
 wdec v30_16
 (I.fin si K (.bool false) s16)
 (I.hold (xp I none 104 k97 c97_11 [1, 1] (U undefT [(32, (.bool false)), (32, v30_16), (23, (.bool false)), (31, v30_16), (27, (.bool true)), (23, (.bool false)), (30, v30_16), (27, (.bool true)), (29, v29_15), (27, (.bool true)), (28, v28_14), (27, (.bool true)), (27, v26_13), (23, (.bool false)), (26, v26_13), (23, (.bool false)), (25, v25_12), (23, (.bool false)), (24, v24_11), (23, (.bool false)), (23, v21_10), (22, v21_10), (18, (.bool false)), (21, v21_10), (18, (.bool false)), (20, v20_9), (18, (.bool false)), (19, v19_8), (18, (.bool false)), (18, v16_7), (17, v16_7), (13, (.bool false)), (16, v16_7), (13, (.bool false)), (15, v15_6), (13, (.bool false)), (14, v14_5), (13, (.bool false)), (13, v12_4), (12, v12_4), (11, v11_3), (10, v10_2), (4, (.bool false)), (3, v3_1), (2, v2_0), (0, a0), (1, a1)]) [] [] s16 (xleave I si Tryd.f97.results.toList K))))
 (I.hold (xp I none 104 k97 c97_11 [1, 1] (U undefT [(32, (.bool false)), (32, (.bool false)), (23, (.bool false)), (31, (.bool false)), (27, (.bool false)), (23, (.bool false)), (30, undef), (27, (.bool false)), (29, undef), (27, (.bool false)), (28, undef), (27, (.bool false)), (27, v26_13), (23, (.bool false)), (26, v26_13), (23, (.bool false)), (25, v25_12), (23, (.bool false)), (24, v24_11), (23, (.bool false)), (23, v21_10), (22, v21_10), (18, (.bool false)), (21, v21_10), (18, (.bool false)), (20, v20_9), (18, (.bool false)), (19, v19_8), (18, (.bool false)), (18, v16_7), (17, v16_7), (13, (.bool false)), (16, v16_7), (13, (.bool false)), (15, v15_6), (13, (.bool false)), (14, v14_5), (13, (.bool false)), (13, v12_4), (12, v12_4), (11, v11_3), (10, v10_2), (4, (.bool false)), (3, v3_1), (2, v2_0), (0, a0), (1, a1)]) [] [] s13 (xleave I si Tryd.f97.results.toList K))))))
theorem x97 (I : Prims) (a0 a1 : Value) (si : St) (K : Value → St → Prop) : xbody I 104 k97 Tryd.f97 c97 [a0, a1] si K = v97 I a0 a1 si K := by kernel_rfl
theorem n97 [Memo] (ro : Nat) (a0 a1 : Value) (si : St) (K : Value → St → Prop) : wbody P ro 104 Tryd.f97 c97 [a0, a1] si K = v97 (prims P ro) a0 a1 si K := xbody_eq 104 P ro (x97 _ a0 a1 si K)
theorem r97 (I : Prims) (si : St) (K : Value → St → Prop) (τ : Tau) (ds : List Deferred) (s : St) : xleave I si Tryd.f97.results.toList K .ret τ [] ds s =
 (xdefers I ds s fun s0 =>
 I.fin si K (τ 4) s0) := by kernel_rfl
/- attestor/attestorref23.Reads -/
noncomputable def c98 : Code := bodyOf Tryd.f98
noncomputable def c98_11010101 : Code := subCode [1, 1, 0, 1, 0, 1, 0, 1] c98
noncomputable def c98_111 : Code := subCode [1, 1, 1] c98
def k98 : List (List Nat) := [[1, 0, 1, 0, 1, 0, 1, 1]]
theorem b98 : BodyOk P 47 1 98 Tryd.f98 c98 := ⟨Tryd.func98, by kernel_rfl, by kernel_rfl, by kernel_rfl, by kernel_rfl, by kernel_rfl⟩
def v98_11010101 (I : Prims) (τ : Tau) (ds : List Deferred) (s : St) (Q : Ex → XK) : Prop :=
 I.wop (.fieldAddr 94 (.const (τ 1)) 3) 0 s fun v19_0 s0 =>
 I.wop (.load 24 (.const v19_0)) 24 s0 fun v20_1 s1 =>
 I.wop (.binOp .neq 24 (.const v20_1) (.const (.int .u64 0)) 24) 4 s1 fun v21_2 s2 =>
 wdec v21_2
 (I.wop (.buildSlice 30 1 ⟨[(0, (.const (.int .i64 1)))]⟩) 30 s2 fun v28_3 s3 =>
 I.wop (.call ⟨.builtin .append, ⟨[(.const (τ 3)), (.const v28_3)]⟩, #[30, 30]⟩) 30 s3 fun v29_4 s4 =>
 I.wop (.fieldAddr 94 (.const (τ 1)) 5) 0 s4 fun v30_5 s5 =>
 I.wop (.load 24 (.const v30_5)) 24 s5 fun v31_6 s6 =>
 I.wop (.binOp .neq 24 (.const v31_6) (.const (.int .u64 0)) 24) 4 s6 fun v32_7 s7 =>
 wdec v32_7
 (I.wop (.buildSlice 30 1 ⟨[(0, (.const (.int .i64 2)))]⟩) 30 s7 fun v34_8 s8 =>
 I.wop (.call ⟨.builtin .append, ⟨[(.const v29_4), (.const v34_8)]⟩, #[30, 30]⟩) 30 s8 fun v35_9 s9 =>
 Q .normal τ [(3, v35_9), (35, v35_9), (34, v34_8), (33, v29_4), (32, (.bool true)), (32, v32_7), (31, v31_6), (30, v30_5), (3, v29_4), (29, v29_4), (28, v28_3), (27, (τ 3)), (26, (.bool true)), (26, (.bool true)), (22, (.bool true)), (25, undef), (22, (.bool true)), (24, undef), (22, (.bool true)), (23, undef), (22, (.bool true)), (22, v21_2), (21, v21_2), (20, v20_1), (19, v19_0)] ds s9)
 (Q .normal τ [(32, (.bool false)), (32, v32_7), (31, v31_6), (30, v30_5), (3, v29_4), (29, v29_4), (28, v28_3), (27, (τ 3)), (26, (.bool true)), (26, (.bool true)), (22, (.bool true)), (25, undef), (22, (.bool true)), (24, undef), (22, (.bool true)), (23, undef), (22, (.bool true)), (22, v21_2), (21, v21_2), (20, v20_1), (19, v19_0)] ds s7))
 (I.wop (.fieldAddr 94 (.const (τ 1)) 4) 0 s2 fun v23_10 s10 =>
 I.wop (.load 24 (.const v23_10)) 24 s10 fun v24_11 s11 =>
 I.wop (.binOp .neq 24 (.const v24_11) (.const (.int .u64 0)) 24) 4 s11 fun v25_12 s12 =>
 wdec v25_12
 (I.wop (.buildSlice 30 1 ⟨[(0, (.const (.int .i64 1)))]⟩) 30 s12 fun v28_13 s13 =>
 I.wop (.call ⟨.builtin .append, ⟨[(.const (τ 3)), (.const v28_13)]⟩, #[30, 30]⟩) 30 s13 fun v29_14 s14 =>
 I.wop (.fieldAddr 94 (.const (τ 1)) 5) 0 s14 fun v30_15 s15 =>
 I.wop (.load 24 (.const v30_15)) 24 s15 fun v31_16 s16 =>
 I.wop (.binOp .neq 24 (.const v31_16) (.const (.int .u64 0)) 24) 4 s16 fun v32_17 s17 =>
 wdec v32_17
 (I.wop (.buildSlice 30 1 ⟨[(0, (.const (.int .i64 2)))]⟩) 30 s17 fun v34_18 s18 =>
 I.wop (.call ⟨.builtin .append, ⟨[(.const v29_14), (.const v34_18)]⟩, #[30, 30]⟩) 30 s18 fun v35_19 s19 =>
 Q .normal τ [(3, v35_19), (35, v35_19), (34, v34_18), (33, v29_14), (32, (.bool true)), (32, v32_17), (31, v31_16), (30, v30_15), (3, v29_14), (29, v29_14), (28, v28_13), (27, (τ 3)), (26, (.bool true)), (26, v25_12), (22, (.bool false)), (25, v25_12), (22, (.bool false)), (24, v24_11), (22, (.bool false)), (23, v23_10), (22, (.bool false)), (22, v21_2), (21, v21_2), (20, v20_1), (19, v19_0)] ds s19)
 (Q .normal τ [(32, (.bool false)), (32, v32_17), (31, v31_16), (30, v30_15), (3, v29_14), (29, v29_14), (28, v28_13), (27, (τ 3)), (26, (.bool true)), (26, v25_12), (22, (.bool false)), (25, v25_12), (22, (.bool false)), (24, v24_11), (22, (.bool false)), (23, v23_10), (22, (.bool false)), (22, v21_2), (21, v21_2), (20, v20_1), (19, v19_0)] ds s17))
 (I.wop (.fieldAddr 94 (.const (τ 1)) 5) 0 s12 fun v30_20 s20 =>
 I.wop (.load 24 (.const v30_20)) 24 s20 fun v31_21 s21 =>
 I.wop (.binOp .neq 24 (.const v31_21) (.const (.int .u64 0)) 24) 4 s21 fun v32_22 s22 =>
 wdec v32_22
 (I.wop (.buildSlice 30 1 ⟨[(0, (.const (.int .i64 2)))]⟩) 30 s22 fun v34_23 s23 =>
 I.wop (.call ⟨.builtin .append, ⟨[(.const (τ 3)), (.const v34_23)]⟩, #[30, 30]⟩) 30 s23 fun v35_24 s24 =>
 Q .normal τ [(3, v35_24), (35, v35_24), (34, v34_23), (33, (τ 3)), (32, (.bool true)), (32, v32_22), (31, v31_21), (30, v30_20), (26, (.bool false)), (26, v25_12), (22, (.bool false)), (25, v25_12), (22, (.bool false)), (24, v24_11), (22, (.bool false)), (23, v23_10), (22, (.bool false)), (22, v21_2), (21, v21_2), (20, v20_1), (19, v19_0)] ds s24)
 (Q .normal τ [(32, (.bool false)), (32, v32_22), (31, v31_21), (30, v30_20), (26, (.bool false)), (26, v25_12), (22, (.bool false)), (25, v25_12), (22, (.bool false)), (24, v24_11), (22, (.bool false)), (23, v23_10), (22, (.bool false)), (22, v21_2), (21, v21_2), (20, v20_1), (19, v19_0)] ds s22)))
theorem n98_11010101 (I : Prims) (τ : Tau) (ds : List Deferred) (s : St) (Q : Ex → XK) : xp I none 47 k98 c98_11010101 [1, 0, 1, 0, 1, 0, 1, 1] τ [] ds s Q = v98_11010101 I τ ds s Q := by kernel_rfl
def v98_111 (I : Prims) (τ : Tau) (ds : List Deferred) (s : St) (Q : Ex → XK) : Prop :=
 Q .ret τ [(2, (τ 3)), (46, (τ 3))] ds s
theorem n98_111 (I : Prims) (τ : Tau) (ds : List Deferred) (s : St) (Q : Ex → XK) : xp I none 47 k98 c98_111 [1, 1, 1] τ [] ds s Q = v98_111 I τ ds s Q := by kernel_rfl
def v98 (I : Prims) (a0 : Value) (si : St) (K : Value → St → Prop) : Prop :=
 I.wop (.box 94 (.const a0)) 0 (ent si) fun v1_0 s0 =>
 I.wop (.fieldAddr 94 (.const v1_0) 0) 0 s0 fun v4_1 s1 =>
 I.wop (.load 92 (.const v4_1)) 92 s1 fun v5_2 s2 =>
 I.wop (.binOp .eql 92 (.const v5_2) (.const (.int .u8 1)) 92) 4 s2 fun v7_3 s3 =>
 wdec v7_3
 (I.wop (.fieldAddr 94 (.const v1_0) 2) 0 s3 fun v8_4 s4 =>
 I.wop (.load 24 (.const v8_4)) 24 s4 fun v9_5 s5 =>
 I.wop (.binOp .neq 24 (.const v9_5) (.const (.int .u64 0)) 24) 4 s5 fun v10_6 s6 =>
 wdec v10_6
 (I.wop (.buildSlice 30 1 ⟨[(0, (.const (.int .i64 0)))]⟩) 30 s6 fun v17_7 s7 =>
 I.wop (.call ⟨.builtin .append, ⟨[(.const (.slice none 0 0)), (.const v17_7)]⟩, #[30, 30]⟩) 30 s7 fun v18_8 s8 =>
 I.hold (xp I none 47 k98 c98_11010101 [1, 0, 1, 0, 1, 0, 1, 1] (U undefT [(3, v18_8), (18, v18_8), (17, v17_7), (16, (.slice none 0 0)), (15, (.bool true)), (15, (.bool true)), (11, (.bool true)), (14, undef), (11, (.bool true)), (13, undef), (11, (.bool true)), (12, undef), (11, (.bool true)), (11, v10_6), (10, v10_6), (9, v9_5), (8, v8_4), (6, (.bool true)), (6, v7_3), (7, v7_3), (5, v5_2), (4, v4_1), (3, (.slice none 0 0)), (2, (.slice none 0 0)), (1, v1_0), (0, a0)]) [] [] s8 (blkX 0 (sX I none 47 k98 c98_111 [1, 1, 1] (xleave I si Tryd.f98.results.toList K)))))
 (I.wop (.fieldAddr 94 (.const v1_0) 4) 0 s6 fun v12_9 s9 =>
 I.wop (.load 24 (.const v12_9)) 24 s9 fun v13_10 s10 =>
 I.wop (.binOp .neq 24 (.const v13_10) (.const (.int .u64 0)) 24) 4 s10 fun v14_11 s11 =>
 wdec v14_11
 (I.wop (.buildSlice 30 1 ⟨[(0, (.const (.int .i64 0)))]⟩) 30 s11 fun v17_12 s12 =>
 I.wop (.call ⟨.builtin .append, ⟨[(.const (.slice none 0 0)), (.const v17_12)]⟩, #[30, 30]⟩) 30 s12 fun v18_13 s13 =>
 I.hold (xp I none 47 k98 c98_11010101 [1, 0, 1, 0, 1, 0, 1, 1] (U undefT [(3, v18_13), (18, v18_13), (17, v17_12), (16, (.slice none 0 0)), (15, (.bool true)), (15, v14_11), (11, (.bool false)), (14, v14_11), (11, (.bool false)), (13, v13_10), (11, (.bool false)), (12, v12_9), (11, (.bool false)), (11, v10_6), (10, v10_6), (9, v9_5), (8, v8_4), (6, (.bool true)), (6, v7_3), (7, v7_3), (5, v5_2), (4, v4_1), (3, (.slice none 0 0)), (2, (.slice none 0 0)), (1, v1_0), (0, a0)]) [] [] s13 (blkX 0 (sX I none 47 k98 c98_111 [1, 1, 1] (xleave I si Tryd.f98.results.toList K)))))
 (I.hold (xp I none 47 k98 c98_11010101 [1, 0, 1, 0, 1, 0, 1, 1] (U undefT [(15, (.bool false)), (15, v14_11), (11, (.bool false)), (14, v14_11), (11, (.bool false)), (13, v13_10), (11, (.bool false)), (12, v12_9), (11, (.bool false)), (11, v10_6), (10, v10_6), (9, v9_5), (8, v8_4), (6, (.bool true)), (6, v7_3), (7, v7_3), (5, v5_2), (4, v4_1), (3, (.slice none 0 0)), (2, (.slice none 0 0)), (1, v1_0), (0, a0)]) [] [] s11 (blkX 0 (sX I none 47 k98 c98_111 [1, 1, 1] (xleave I si Tryd.f98.results.toList K)))))))
 (I.wop (.binOp .eql 92 (.const v5_2) (.const (.int .u8 2)) 92) 4 s3 fun v37_14 s14 =>
 wdec v37_14
 (I.wop (.buildSlice 30 1 ⟨[(0, (.const (.int .i64 0)))]⟩) 30 s14 fun v39_15 s15 =>
 I.wop (.call ⟨.builtin .append, ⟨[(.const (.slice none 0 0)), (.const v39_15)]⟩, #[30, 30]⟩) 30 s15 fun v40_16 s16 =>
 I.fin si K v40_16 s16)
 (I.wop (.binOp .eql 92 (.const v5_2) (.const (.int .u8 3)) 92) 4 s14 fun v42_17 s17 =>
 wdec v42_17
 (I.wop (.buildSlice 30 4 ⟨[(0, (.const (.int .i64 0))), (1, (.const (.int .i64 1))), (2, (.const (.int .i64 2))), (3, (.const (.int .i64 3)))]⟩) 30 s17 fun v44_18 s18 =>
 I.wop (.call ⟨.builtin .append, ⟨[(.const (.slice none 0 0)), (.const v44_18)]⟩, #[30, 30]⟩) 30 s18 fun v45_19 s19 =>
 I.fin si K v45_19 s19)
 (I.fin si K (.slice none 0 0) s17)))
theorem x98 (I : Prims) (a0 : Value) (si : St) (K : Value → St → Prop) : xbody I 47 k98 Tryd.f98 c98 [a0] si K = v98 I a0 si K := by kernel_rfl
theorem n98 [Memo] (ro : Nat) (a0 : Value) (si : St) (K : Value → St → Prop) : wbody P ro 47 Tryd.f98 c98 [a0] si K = v98 (prims P ro) a0 si K := xbody_eq 47 P ro (x98 _ a0 si K)
theorem r98 (I : Prims) (si : St) (K : Value → St → Prop) (τ : Tau) (ds : List Deferred) (s : St) : xleave I si Tryd.f98.results.toList K .ret τ [] ds s =
 (xdefers I ds s fun s0 =>
 I.fin si K (τ 2) s0) := by kernel_rfl
/- attestor/attestorref06.Constant -/
noncomputable def c99 : Code := bodyOf Tryd.f99
def k99 : List (List Nat) := []
theorem b99 : BodyOk P 38 3 99 Tryd.f99 c99 := ⟨Tryd.func99, by kernel_rfl, by kernel_rfl, by kernel_rfl, by kernel_rfl, by kernel_rfl⟩
def v99 (I : Prims) (a0 a1 a2 : Value) (si : St) (K : Value → St → Prop) : Prop :=
 I.call 16 [a0] (ent si) fun v8_0 s0 =>
 I.wop (.unOp .not 4 (.const v8_0)) 4 s0 fun v9_1 s1 =>
 wdec v9_1
 (I.fin si K (.int .u64 0) s1)
 (I.wop (.binOp .lss 3 (.const a1) (.const (.int .i64 0)) 3) 4 s1 fun v12_2 s2 =>
 wdec v12_2
 (I.fin si K (.int .u64 0) s2)
 (I.wop (.binOp .gtr 3 (.const a1) (.const (.int .i64 7)) 3) 4 s2 fun v16_3 s3 =>
 wdec v16_3
 (I.fin si K (.int .u64 0) s3)
 (I.wop (.binOp .lss 3 (.const a2) (.const (.int .i64 0)) 3) 4 s3 fun v20_4 s4 =>
 wdec v20_4
 (I.fin si K (.int .u64 0) s4)
 (I.wop (.binOp .gtr 3 (.const a2) (.const (.int .i64 3)) 3) 4 s4 fun v24_5 s5 =>
 wdec v24_5
 (I.fin si K (.int .u64 0) s5)
 (I.call 103 [a0] s5 fun v29_6 s6 =>
 I.wop (.binOp .mul 3 (.const (.int .i64 4)) (.const a1) 3) 3 s6 fun v31_7 s7 =>
 I.wop (.binOp .add 3 (.const v31_7) (.const a2) 3) 3 s7 fun v33_8 s8 =>
 I.wop (.binOp .add 3 (.const v33_8) (.const (.int .i64 1)) 3) 3 s8 fun v34_9 s9 =>
 I.wop (.convert 3 24 (.const v34_9)) 24 s9 fun v35_10 s10 =>
 I.call 33 [a0, v29_6, v35_10] s10 fun v36_11 s11 =>
 I.call 66 [a0, v36_11, (.int .u64 7)] s11 fun v37_12 s12 =>
 I.fin si K v37_12 s12)))))
theorem x99 (I : Prims) (a0 a1 a2 : Value) (si : St) (K : Value → St → Prop) : xbody I 38 k99 Tryd.f99 c99 [a0, a1, a2] si K = v99 I a0 a1 a2 si K := by kernel_rfl
theorem n99 [Memo] (ro : Nat) (a0 a1 a2 : Value) (si : St) (K : Value → St → Prop) : wbody P ro 38 Tryd.f99 c99 [a0, a1, a2] si K = v99 (prims P ro) a0 a1 a2 si K := xbody_eq 38 P ro (x99 _ a0 a1 a2 si K)
/- attestor/attestorref01.Exponent -/
noncomputable def c100 : Code := bodyOf Tryd.f100
def k100 : List (List Nat) := []
theorem b100 : BodyOk P 10 1 100 Tryd.f100 c100 := ⟨Tryd.func100, by kernel_rfl, by kernel_rfl, by kernel_rfl, by kernel_rfl, by kernel_rfl⟩
def v100 (I : Prims) (a0 : Value) (si : St) (K : Value → St → Prop) : Prop :=
 I.wop (.binOp .eql 3 (.const a0) (.const (.int .i64 0)) 3) 4 (ent si) fun v5_0 s0 =>
 wdec v5_0
 (I.fin si K (.int .i64 5) s0)
 (I.wop (.binOp .eql 3 (.const a0) (.const (.int .i64 2)) 3) 4 s0 fun v6_1 s1 =>
 wdec v6_1
 (I.fin si K (.int .i64 5) s1)
 (I.wop (.binOp .eql 3 (.const a0) (.const (.int .i64 1)) 3) 4 s1 fun v8_2 s2 =>
 wdec v8_2
 (I.fin si K (.int .i64 3) s2)
 (I.wop (.binOp .eql 3 (.const a0) (.const (.int .i64 3)) 3) 4 s2 fun v9_3 s3 =>
 wdec v9_3
 (I.fin si K (.int .i64 3) s3)
 (I.fin si K (.int .i64 0) s3))))
theorem x100 (I : Prims) (a0 : Value) (si : St) (K : Value → St → Prop) : xbody I 10 k100 Tryd.f100 c100 [a0] si K = v100 I a0 si K := by kernel_rfl
theorem n100 [Memo] (ro : Nat) (a0 : Value) (si : St) (K : Value → St → Prop) : wbody P ro 10 Tryd.f100 c100 [a0] si K = v100 (prims P ro) a0 si K := xbody_eq 10 P ro (x100 _ a0 si K)
/- attestor/attestorref06.row -/
noncomputable def c101 : Code := bodyOf Tryd.f101
def k101 : List (List Nat) := []
theorem b101 : BodyOk P 12 1 101 Tryd.f101 c101 := ⟨Tryd.func101, by kernel_rfl, by kernel_rfl, by kernel_rfl, by kernel_rfl, by kernel_rfl⟩
def v101 (I : Prims) (a0 : Value) (si : St) (K : Value → St → Prop) : Prop :=
 I.wop (.alloc 58) 0 (ent si) fun v2_0 s0 =>
 I.wop (.build 58 ⟨[(0, (.const (.int .u64 2))), (1, (.const (.int .u64 3))), (2, (.const (.int .u64 1))), (3, (.const (.int .u64 1)))]⟩) 58 s0 fun v4_1 s1 =>
 I.wop (.build 58 ⟨[(0, (.const (.int .u64 1))), (1, (.const (.int .u64 2))), (2, (.const (.int .u64 3))), (3, (.const (.int .u64 1)))]⟩) 58 s1 fun v5_2 s2 =>
 I.wop (.build 58 ⟨[(0, (.const (.int .u64 1))), (1, (.const (.int .u64 1))), (2, (.const (.int .u64 2))), (3, (.const (.int .u64 3)))]⟩) 58 s2 fun v6_3 s3 =>
 I.wop (.build 58 ⟨[(0, (.const (.int .u64 3))), (1, (.const (.int .u64 1))), (2, (.const (.int .u64 1))), (3, (.const (.int .u64 2)))]⟩) 58 s3 fun v7_4 s4 =>
 I.wop (.build 150 ⟨[(0, (.const v4_1)), (1, (.const v5_2)), (2, (.const v6_3)), (3, (.const v7_4))]⟩) 150 s4 fun v8_5 s5 =>
 I.wop (.alloc 150) 0 s5 fun v3_6 s6 =>
 I.wop (.store 150 (.const v3_6) (.const v8_5)) 0 s6 fun _ s7 =>
 I.wop (.indexAddr 150 (.const v3_6) (.const a0)) 0 s7 fun v10_8 s8 =>
 I.wop (.load 58 (.const v10_8)) 58 s8 fun v11_9 s9 =>
 I.wop (.store 58 (.const v2_0) (.const v11_9)) 0 s9 fun _ s10 =>
 I.wop (.load 58 (.const v2_0)) 58 s10 fun v2_11 _ =>
 I.fin si K v2_11 s10
theorem x101 (I : Prims) (a0 : Value) (si : St) (K : Value → St → Prop) : xbody I 12 k101 Tryd.f101 c101 [a0] si K = v101 I a0 si K := by kernel_rfl
theorem n101 [Memo] (ro : Nat) (a0 : Value) (si : St) (K : Value → St → Prop) : wbody P ro 12 Tryd.f101 c101 [a0] si K = v101 (prims P ro) a0 si K := xbody_eq 12 P ro (x101 _ a0 si K)
/- slices.IndexFunc[[][2]int,[2]int] -/
noncomputable def c102 : Code := bodyOf Tryd.f102
noncomputable def c102_10100 : Code := subCode [1, 0, 1, 0, 0] c102
def k102 : List (List Nat) := []
def k102_10100 : List (List Nat) := []
theorem l102_10100 : ltCode 19 c102_10100 = true := by kernel_rfl
theorem m102_10100 : notMap c102_10100 = true := by kernel_rfl
theorem b102 : BodyOk P 19 2 102 Tryd.f102 c102 := ⟨Tryd.func102, by kernel_rfl, by kernel_rfl, by kernel_rfl, by kernel_rfl, by kernel_rfl⟩
def v102_10100 (I : Prims) (rnd : Option Nat) (τ : Tau) (ds : List Deferred) (s : St) (Q : Ex → WK) : Prop :=
 I.wop (.binOp .lss 3 (.const (τ 8)) (.const (τ 7)) 3) 0 s fun v9_0 s0 =>
 wdec v9_0
 (I.wop (.indexAddr 46 (.const (τ 0)) (.const (τ 8))) 0 s0 fun v14_1 s1 =>
 I.wop (.load 47 (.const v14_1)) 47 s1 fun v15_2 s2 =>
 xcallv I (τ 1) [v15_2] s2 fun v16_3 s3 =>
 wdec v16_3
 (Q .ret (U τ [(4, (τ 8)), (17, (τ 8)), (16, (.bool true)), (16, v16_3), (15, v15_2), (14, v14_1), (13, (τ 8)), (12, (τ 0)), (11, (τ 1)), (5, (τ 8)), (10, (τ 8)), (9, (.bool true)), (9, v9_0)]) ds s3)
 (I.wop (.binOp .add 3 (.const (τ 8)) (.const (.int .i64 1)) 3) 3 s3 fun v18_4 s4 =>
 Q .normal (U τ [(8, v18_4), (18, v18_4), (16, (.bool false)), (16, v16_3), (15, v15_2), (14, v14_1), (13, (τ 8)), (12, (τ 0)), (11, (τ 1)), (5, (τ 8)), (10, (τ 8)), (9, (.bool true)), (9, v9_0)]) ds s4))
 (Q (.exit 0) (U τ [(9, (.bool false)), (9, v9_0)]) ds s0)
theorem x102_10100 (I : Prims) (rnd : Option Nat) (τ : Tau) (ds : List Deferred) (s : St) (Q : Ex → WK) : xp I rnd 19 k102_10100 c102_10100 [] τ [] ds s (lift Q) = v102_10100 I rnd τ ds s Q := by kernel_rfl
theorem n102_10100 [Memo] (ro : Nat) (rnd : Option Nat) (τ : Tau) (ds : List Deferred) (s : St) (Q : Ex → WK) : wp P ro 19 rnd c102_10100 τ ds s Q = v102_10100 (prims P ro) rnd τ ds s Q := xp_wp rnd 19 P ro (x102_10100 _ rnd τ ds s Q)
def v102 (I : Prims) (a0 a1 : Value) (si : St) (K : Value → St → Prop) : Prop :=
 I.wop (.call ⟨.builtin .len, ⟨[(.const a0)]⟩, #[46]⟩) 3 (ent si) fun v7_0 s0 =>
 I.loop 19 none c102_10100 (U undefT [(8, (.int .i64 0)), (7, v7_0), (6, a0), (4, (.int .i64 0)), (0, a0), (1, a1)]) [] s0 (fun τ ds s => ((xleave I si Tryd.f102.results.toList K) .ret) τ [] ds s) [(0, fun _ ds1 s1 =>
 xdefers I ds1 s1 fun s2 =>
 I.fin si K (.int .i64 (-1)) s2)]
theorem x102 (I : Prims) (a0 a1 : Value) (si : St) (K : Value → St → Prop) : xbody I 19 k102 Tryd.f102 c102 [a0, a1] si K = v102 I a0 a1 si K := by kernel_rfl
theorem n102 [Memo] (ro : Nat) (a0 a1 : Value) (si : St) (K : Value → St → Prop) : wbody P ro 19 Tryd.f102 c102 [a0, a1] si K = v102 (prims P ro) a0 a1 si K := xbody_eq 19 P ro (x102 _ a0 a1 si K)
theorem r102 (I : Prims) (si : St) (K : Value → St → Prop) (τ : Tau) (ds : List Deferred) (s : St) : xleave I si Tryd.f102.results.toList K .ret τ [] ds s =
 (xdefers I ds s fun s0 =>
 I.fin si K (τ 4) s0) := by kernel_rfl
/- attestor/attestorref01.Generator -/
noncomputable def c103 : Code := bodyOf Tryd.f103
def k103 : List (List Nat) := []
theorem b103 : BodyOk P 11 1 103 Tryd.f103 c103 := ⟨Tryd.func103, by kernel_rfl, by kernel_rfl, by kernel_rfl, by kernel_rfl, by kernel_rfl⟩
def v103 (I : Prims) (a0 : Value) (si : St) (K : Value → St → Prop) : Prop :=
 I.wop (.binOp .eql 3 (.const a0) (.const (.int .i64 0)) 3) 4 (ent si) fun v5_0 s0 =>
 wdec v5_0
 (I.fin si K (.int .u64 5) s0)
 (I.wop (.binOp .eql 3 (.const a0) (.const (.int .i64 1)) 3) 4 s0 fun v7_1 s1 =>
 wdec v7_1
 (I.fin si K (.int .u64 3) s1)
 (I.wop (.binOp .eql 3 (.const a0) (.const (.int .i64 3)) 3) 4 s1 fun v8_2 s2 =>
 wdec v8_2
 (I.fin si K (.int .u64 3) s2)
 (I.wop (.binOp .eql 3 (.const a0) (.const (.int .i64 2)) 3) 4 s2 fun v10_3 s3 =>
 wdec v10_3
 (I.fin si K (.int .u64 11) s3)
 (I.fin si K (.int .u64 0) s3))))
theorem x103 (I : Prims) (a0 : Value) (si : St) (K : Value → St → Prop) : xbody I 11 k103 Tryd.f103 c103 [a0] si K = v103 I a0 si K := by kernel_rfl
theorem n103 [Memo] (ro : Nat) (a0 : Value) (si : St) (K : Value → St → Prop) : wbody P ro 11 Tryd.f103 c103 [a0] si K = v103 (prims P ro) a0 si K := xbody_eq 11 P ro (x103 _ a0 si K)
end Go.VE
