/-
  What the functions' code does, operation by operation.
-/
import Derived.Test.YtkadjemloffhnaaDoorFn1
set_option linter.unusedSimpArgs false
set_option linter.unusedVariables false
namespace Go.VE
open Go Go.Proofs
/- attestor/attestorref06.row -/
noncomputable def c44 : Code := bodyOf Tryd.f44
def k44 : List (List Nat) := []
theorem b44 : BodyOk P 12 1 44 Tryd.f44 c44 := ⟨Tryd.func44, by kernel_rfl, by kernel_rfl, by kernel_rfl, by kernel_rfl, by kernel_rfl⟩
def v44 (I : Prims) (a0 : Value) (si : St) (K : Value → St → Prop) : Prop :=
 I.wop (.alloc 39) 0 (ent si) fun v2_0 s0 =>
 I.wop (.build 39 ⟨[(0, (.const (.int .u64 2))), (1, (.const (.int .u64 3))), (2, (.const (.int .u64 1))), (3, (.const (.int .u64 1)))]⟩) 39 s0 fun v4_1 s1 =>
 I.wop (.build 39 ⟨[(0, (.const (.int .u64 1))), (1, (.const (.int .u64 2))), (2, (.const (.int .u64 3))), (3, (.const (.int .u64 1)))]⟩) 39 s1 fun v5_2 s2 =>
 I.wop (.build 39 ⟨[(0, (.const (.int .u64 1))), (1, (.const (.int .u64 1))), (2, (.const (.int .u64 2))), (3, (.const (.int .u64 3)))]⟩) 39 s2 fun v6_3 s3 =>
 I.wop (.build 39 ⟨[(0, (.const (.int .u64 3))), (1, (.const (.int .u64 1))), (2, (.const (.int .u64 1))), (3, (.const (.int .u64 2)))]⟩) 39 s3 fun v7_4 s4 =>
 I.wop (.build 73 ⟨[(0, (.const v4_1)), (1, (.const v5_2)), (2, (.const v6_3)), (3, (.const v7_4))]⟩) 73 s4 fun v8_5 s5 =>
 I.wop (.alloc 73) 0 s5 fun v3_6 s6 =>
 I.wop (.store 73 (.const v3_6) (.const v8_5)) 0 s6 fun _ s7 =>
 I.wop (.indexAddr 73 (.const v3_6) (.const a0)) 0 s7 fun v10_8 s8 =>
 I.wop (.load 39 (.const v10_8)) 39 s8 fun v11_9 s9 =>
 I.wop (.store 39 (.const v2_0) (.const v11_9)) 0 s9 fun _ s10 =>
 I.wop (.load 39 (.const v2_0)) 39 s10 fun v2_11 _ =>
 I.fin si K v2_11 s10
theorem x44 (I : Prims) (a0 : Value) (si : St) (K : Value → St → Prop) : xbody I 12 k44 Tryd.f44 c44 [a0] si K = v44 I a0 si K := by kernel_rfl
theorem n44 [Memo] (ro : Nat) (a0 : Value) (si : St) (K : Value → St → Prop) : wbody P ro 12 Tryd.f44 c44 [a0] si K = v44 (prims P ro) a0 si K := xbody_eq 12 P ro (x44 _ a0 si K)
/- attestor/attestorref01.Mul -/
noncomputable def c45 : Code := bodyOf Tryd.f45
def k45 : List (List Nat) := []
theorem b45 : BodyOk P 22 3 45 Tryd.f45 c45 := ⟨Tryd.func45, by kernel_rfl, by kernel_rfl, by kernel_rfl, by kernel_rfl, by kernel_rfl⟩
def v45 (I : Prims) (a0 a1 a2 : Value) (si : St) (K : Value → St → Prop) : Prop :=
 I.call 39 [a0] (ent si) fun v8_0 s0 =>
 I.wop (.unOp .not 4 (.const v8_0)) 4 s0 fun v9_1 s1 =>
 wdec v9_1
 (I.fin si K (.int .u64 0) s1)
 (I.call 51 [a0] s1 fun v12_2 s2 =>
 I.wop (.binOp .rem 38 (.const a1) (.const v12_2) 38) 38 s2 fun v13_3 s3 =>
 I.call 51 [a0] s3 fun v16_4 s4 =>
 I.wop (.binOp .rem 38 (.const a2) (.const v16_4) 38) 38 s4 fun v17_5 s5 =>
 I.wop (.binOp .mul 38 (.const v13_3) (.const v17_5) 38) 38 s5 fun v18_6 s6 =>
 I.call 51 [a0] s6 fun v20_7 s7 =>
 I.wop (.binOp .rem 38 (.const v18_6) (.const v20_7) 38) 38 s7 fun v21_8 s8 =>
 I.fin si K v21_8 s8)
theorem x45 (I : Prims) (a0 a1 a2 : Value) (si : St) (K : Value → St → Prop) : xbody I 22 k45 Tryd.f45 c45 [a0, a1, a2] si K = v45 I a0 a1 a2 si K := by kernel_rfl
theorem n45 [Memo] (ro : Nat) (a0 a1 a2 : Value) (si : St) (K : Value → St → Prop) : wbody P ro 22 Tryd.f45 c45 [a0, a1, a2] si K = v45 (prims P ro) a0 a1 a2 si K := xbody_eq 22 P ro (x45 _ a0 a1 a2 si K)
/- slices.Max[[]uint64,uint64] -/
noncomputable def c46 : Code := bodyOf Tryd.f46
noncomputable def c46_11 : Code := subCode [1, 1] c46
noncomputable def c46_1110100 : Code := subCode [1, 1, 1, 0, 1, 0, 0] c46
def k46 : List (List Nat) := [[1, 1]]
def k46_1110100 : List (List Nat) := []
theorem l46_1110100 : ltCode 25 c46_1110100 = true := by kernel_rfl
theorem m46_1110100 : notMap c46_1110100 = true := by kernel_rfl
theorem b46 : BodyOk P 25 1 46 Tryd.f46 c46 := ⟨Tryd.func46, by kernel_rfl, by kernel_rfl, by kernel_rfl, by kernel_rfl, by kernel_rfl⟩
def v46_11 (I : Prims) (τ : Tau) (ds : List Deferred) (s : St) (Q : Ex → XK) : Prop :=
 I.wop (.indexAddr 25 (.const (τ 0)) (.const (.int .i64 0))) 0 s fun v10_0 s0 =>
 I.wop (.load 38 (.const v10_0)) 38 s0 fun v11_1 s1 =>
 I.loop 25 none c46_1110100 (U τ [(4, (.int .i64 1)), (3, v11_1), (11, v11_1), (10, v10_0), (9, (τ 0))]) ds s1 (fun τ ds s => (Q .ret) τ [] ds s) [(0, fun τ2 ds2 s2 =>
 Q .ret τ2 [(2, (τ2 3)), (24, (τ2 3))] ds2 s2)]
theorem n46_11 (I : Prims) (τ : Tau) (ds : List Deferred) (s : St) (Q : Ex → XK) : xp I none 25 k46 c46_11 [1, 1] τ [] ds s Q = v46_11 I τ ds s Q := by kernel_rfl
def v46_1110100 (I : Prims) (rnd : Option Nat) (τ : Tau) (ds : List Deferred) (s : St) (Q : Ex → WK) : Prop :=
 I.wop (.call ⟨.builtin .len, ⟨[(.const (τ 0))]⟩, #[25]⟩) 3 s fun v14_0 s0 =>
 I.wop (.binOp .lss 3 (.const (τ 4)) (.const v14_0) 3) 4 s0 fun v15_1 s1 =>
 wdec v15_1
 (I.wop (.indexAddr 25 (.const (τ 0)) (.const (τ 4))) 0 s1 fun v21_2 s2 =>
 I.wop (.load 38 (.const v21_2)) 38 s2 fun v22_3 s3 =>
 I.wop (.call ⟨.builtin .max, ⟨[(.const (τ 3)), (.const v22_3)]⟩, #[38, 38]⟩) 38 s3 fun v23_4 s4 =>
 I.wop (.binOp .add 3 (.const (τ 4)) (.const (.int .i64 1)) 3) 3 s4 fun v17_5 s5 =>
 Q .normal (U τ [(4, v17_5), (17, v17_5), (16, (τ 4)), (3, v23_4), (23, v23_4), (22, v22_3), (21, v21_2), (20, (τ 4)), (19, (τ 0)), (18, (τ 3)), (15, (.bool true)), (15, v15_1), (14, v14_0), (13, (τ 0)), (12, (τ 4))]) ds s5)
 (Q (.exit 0) (U τ [(15, (.bool false)), (15, v15_1), (14, v14_0), (13, (τ 0)), (12, (τ 4))]) ds s1)
theorem x46_1110100 (I : Prims) (rnd : Option Nat) (τ : Tau) (ds : List Deferred) (s : St) (Q : Ex → WK) : xp I rnd 25 k46_1110100 c46_1110100 [] τ [] ds s (lift Q) = v46_1110100 I rnd τ ds s Q := by kernel_rfl
theorem n46_1110100 [Memo] (ro : Nat) (rnd : Option Nat) (τ : Tau) (ds : List Deferred) (s : St) (Q : Ex → WK) : wp P ro 25 rnd c46_1110100 τ ds s Q = v46_1110100 (prims P ro) rnd τ ds s Q := xp_wp rnd 25 P ro (x46_1110100 _ rnd τ ds s Q)
def v46 (I : Prims) (a0 : Value) (si : St) (K : Value → St → Prop) : Prop :=
 I.wop (.call ⟨.builtin .len, ⟨[(.const a0)]⟩, #[25]⟩) 3 (ent si) fun v6_0 s0 =>
 I.wop (.binOp .lss 3 (.const v6_0) (.const (.int .i64 1)) 3) 4 s0 fun v7_1 s1 =>
 wdec v7_1
 (I.wop (.makeInterface 9 (.const (.string (ByteArray.mk #[115, 108, 105, 99, 101, 115, 46, 77, 97, 120, 58, 32, 101, 109, 112, 116, 121, 32, 108, 105, 115, 116])))) 20 s1 fun v8_2 s2 =>
 I.wop (.panic (.tmp 8)) 0 s2 fun _ s3 =>
 I.hold (xp I none 25 k46 c46_11 [1, 1] (U undefT [(8, v8_2), (7, (.bool true)), (7, v7_1), (6, v6_0), (5, a0), (2, (.int .u64 0)), (0, a0)]) [] [] s3 (xleave I si Tryd.f46.results.toList K)))
 (I.hold (xp I none 25 k46 c46_11 [1, 1] (U undefT [(7, (.bool false)), (7, v7_1), (6, v6_0), (5, a0), (2, (.int .u64 0)), (0, a0)]) [] [] s1 (xleave I si Tryd.f46.results.toList K)))
theorem x46 (I : Prims) (a0 : Value) (si : St) (K : Value → St → Prop) : xbody I 25 k46 Tryd.f46 c46 [a0] si K = v46 I a0 si K := by kernel_rfl
theorem n46 [Memo] (ro : Nat) (a0 : Value) (si : St) (K : Value → St → Prop) : wbody P ro 25 Tryd.f46 c46 [a0] si K = v46 (prims P ro) a0 si K := xbody_eq 25 P ro (x46 _ a0 si K)
theorem r46 (I : Prims) (si : St) (K : Value → St → Prop) (τ : Tau) (ds : List Deferred) (s : St) : xleave I si Tryd.f46.results.toList K .ret τ [] ds s =
 (xdefers I ds s fun s0 =>
 I.fin si K (τ 2) s0) := by kernel_rfl
/- attestor/field.P -/
noncomputable def c47 : Code := bodyOf Tryd.f47
def k47 : List (List Nat) := []
theorem b47 : BodyOk P 6 1 47 Tryd.f47 c47 := ⟨Tryd.func47, by kernel_rfl, by kernel_rfl, by kernel_rfl, by kernel_rfl, by kernel_rfl⟩
def v47 (I : Prims) (a0 : Value) (si : St) (K : Value → St → Prop) : Prop :=
 I.call 66 [a0] (ent si) fun v4_0 s0 =>
 I.wop (.field 75 (.const v4_0) 0) 38 s0 fun v5_1 s1 =>
 I.fin si K v5_1 s1
theorem x47 (I : Prims) (a0 : Value) (si : St) (K : Value → St → Prop) : xbody I 6 k47 Tryd.f47 c47 [a0] si K = v47 I a0 si K := by kernel_rfl
theorem n47 [Memo] (ro : Nat) (a0 : Value) (si : St) (K : Value → St → Prop) : wbody P ro 6 Tryd.f47 c47 [a0] si K = v47 (prims P ro) a0 si K := xbody_eq 6 P ro (x47 _ a0 si K)
/- attestor/field.Add -/
noncomputable def c48 : Code := bodyOf Tryd.f48
def k48 : List (List Nat) := []
theorem b48 : BodyOk P 27 3 48 Tryd.f48 c48 := ⟨Tryd.func48, by kernel_rfl, by kernel_rfl, by kernel_rfl, by kernel_rfl, by kernel_rfl⟩
def v48 (I : Prims) (a0 a1 a2 : Value) (si : St) (K : Value → St → Prop) : Prop :=
 I.call 47 [a0] (ent si) fun v10_0 s0 =>
 I.wop (.binOp .eql 38 (.const v10_0) (.const (.int .u64 0)) 38) 4 s0 fun v12_1 s1 =>
 wdec v12_1
 (I.fin si K (.int .u64 0) s1)
 (I.wop (.binOp .rem 38 (.const a1) (.const v10_0) 38) 38 s1 fun v15_2 s2 =>
 I.wop (.binOp .rem 38 (.const a2) (.const v10_0) 38) 38 s2 fun v18_3 s3 =>
 I.wop (.binOp .add 38 (.const v15_2) (.const v18_3) 38) 38 s3 fun v19_4 s4 =>
 I.wop (.binOp .geq 38 (.const v19_4) (.const v10_0) 38) 4 s4 fun v22_5 s5 =>
 wdec v22_5
 (I.wop (.binOp .sub 38 (.const v19_4) (.const v10_0) 38) 38 s5 fun v25_6 s6 =>
 I.fin si K v25_6 s6)
 (I.fin si K v19_4 s5))
theorem x48 (I : Prims) (a0 a1 a2 : Value) (si : St) (K : Value → St → Prop) : xbody I 27 k48 Tryd.f48 c48 [a0, a1, a2] si K = v48 I a0 a1 a2 si K := by kernel_rfl
theorem n48 [Memo] (ro : Nat) (a0 a1 a2 : Value) (si : St) (K : Value → St → Prop) : wbody P ro 27 Tryd.f48 c48 [a0, a1, a2] si K = v48 (prims P ro) a0 a1 a2 si K := xbody_eq 27 P ro (x48 _ a0 a1 a2 si K)
/- attestor/field.Mul -/
noncomputable def c49 : Code := bodyOf Tryd.f49
def k49 : List (List Nat) := []
theorem b49 : BodyOk P 21 3 49 Tryd.f49 c49 := ⟨Tryd.func49, by kernel_rfl, by kernel_rfl, by kernel_rfl, by kernel_rfl, by kernel_rfl⟩
def v49 (I : Prims) (a0 a1 a2 : Value) (si : St) (K : Value → St → Prop) : Prop :=
 I.call 47 [a0] (ent si) fun v9_0 s0 =>
 I.wop (.binOp .eql 38 (.const v9_0) (.const (.int .u64 0)) 38) 4 s0 fun v11_1 s1 =>
 wdec v11_1
 (I.fin si K (.int .u64 0) s1)
 (I.wop (.binOp .rem 38 (.const a1) (.const v9_0) 38) 38 s1 fun v14_2 s2 =>
 I.wop (.binOp .rem 38 (.const a2) (.const v9_0) 38) 38 s2 fun v17_3 s3 =>
 I.wop (.binOp .mul 38 (.const v14_2) (.const v17_3) 38) 38 s3 fun v18_4 s4 =>
 I.wop (.binOp .rem 38 (.const v18_4) (.const v9_0) 38) 38 s4 fun v20_5 s5 =>
 I.fin si K v20_5 s5)
theorem x49 (I : Prims) (a0 a1 a2 : Value) (si : St) (K : Value → St → Prop) : xbody I 21 k49 Tryd.f49 c49 [a0, a1, a2] si K = v49 I a0 a1 a2 si K := by kernel_rfl
theorem n49 [Memo] (ro : Nat) (a0 a1 a2 : Value) (si : St) (K : Value → St → Prop) : wbody P ro 21 Tryd.f49 c49 [a0, a1, a2] si K = v49 (prims P ro) a0 a1 a2 si K := xbody_eq 21 P ro (x49 _ a0 a1 a2 si K)
/- attestor/gates.wire -/
noncomputable def c50 : Code := bodyOf Tryd.f50
def k50 : List (List Nat) := []
theorem b50 : BodyOk P 19 3 50 Tryd.f50 c50 := ⟨Tryd.func50, by kernel_rfl, by kernel_rfl, by kernel_rfl, by kernel_rfl, by kernel_rfl⟩
def v50 (I : Prims) (a0 a1 a2 : Value) (si : St) (K : Value → St → Prop) : Prop :=
 I.wop (.box 43 (.const a0)) 0 (ent si) fun v3_0 s0 =>
 I.wop (.load 43 (.const v3_0)) 43 s0 fun v7_1 s1 =>
 I.call 63 [v7_1] s1 fun v8_2 s2 =>
 I.wop (.index 70 (.const v8_2) (.const a2)) 4 s2 fun v10_3 s3 =>
 I.wop (.unOp .not 4 (.const v10_3)) 4 s3 fun v11_4 s4 =>
 wdec v11_4
 (I.fin si K (.int .u64 0) s4)
 (I.wop (.fieldAddr 43 (.const v3_0) 1) 0 s4 fun v14_5 s5 =>
 I.wop (.indexAddr 41 (.const v14_5) (.const a2)) 0 s5 fun v15_6 s6 =>
 I.wop (.load 3 (.const v15_6)) 3 s6 fun v16_7 s7 =>
 I.wop (.indexAddr 25 (.const a1) (.const v16_7)) 0 s7 fun v17_8 s8 =>
 I.wop (.load 38 (.const v17_8)) 38 s8 fun v18_9 s9 =>
 I.fin si K v18_9 s9)
theorem x50 (I : Prims) (a0 a1 a2 : Value) (si : St) (K : Value → St → Prop) : xbody I 19 k50 Tryd.f50 c50 [a0, a1, a2] si K = v50 I a0 a1 a2 si K := by kernel_rfl
theorem n50 [Memo] (ro : Nat) (a0 a1 a2 : Value) (si : St) (K : Value → St → Prop) : wbody P ro 19 Tryd.f50 c50 [a0, a1, a2] si K = v50 (prims P ro) a0 a1 a2 si K := xbody_eq 19 P ro (x50 _ a0 a1 a2 si K)
/- attestor/attestorref01.P -/
noncomputable def c51 : Code := bodyOf Tryd.f51
def k51 : List (List Nat) := []
theorem b51 : BodyOk P 12 1 51 Tryd.f51 c51 := ⟨Tryd.func51, by kernel_rfl, by kernel_rfl, by kernel_rfl, by kernel_rfl, by kernel_rfl⟩
def v51 (I : Prims) (a0 : Value) (si : St) (K : Value → St → Prop) : Prop :=
 I.wop (.binOp .eql 3 (.const a0) (.const (.int .i64 0)) 3) 4 (ent si) fun v5_0 s0 =>
 wdec v5_0
 (I.fin si K (.int .u64 97) s0)
 (I.wop (.binOp .eql 3 (.const a0) (.const (.int .i64 1)) 3) 4 s0 fun v7_1 s1 =>
 wdec v7_1
 (I.fin si K (.int .u64 257) s1)
 (I.wop (.binOp .eql 3 (.const a0) (.const (.int .i64 2)) 3) 4 s1 fun v9_2 s2 =>
 wdec v9_2
 (I.fin si K (.int .u64 12289) s2)
 (I.wop (.binOp .eql 3 (.const a0) (.const (.int .i64 3)) 3) 4 s2 fun v11_3 s3 =>
 wdec v11_3
 (I.fin si K (.int .u64 998244353) s3)
 (I.fin si K (.int .u64 0) s3))))
theorem x51 (I : Prims) (a0 : Value) (si : St) (K : Value → St → Prop) : xbody I 12 k51 Tryd.f51 c51 [a0] si K = v51 I a0 si K := by kernel_rfl
theorem n51 [Memo] (ro : Nat) (a0 : Value) (si : St) (K : Value → St → Prop) : wbody P ro 12 Tryd.f51 c51 [a0] si K = v51 (prims P ro) a0 si K := xbody_eq 12 P ro (x51 _ a0 si K)
/- attestor/attestorref23.formed -/
noncomputable def c52 : Code := bodyOf Tryd.f52
noncomputable def c52_11 : Code := subCode [1, 1] c52
noncomputable def c52_1110100 : Code := subCode [1, 1, 1, 0, 1, 0, 0] c52
noncomputable def c52_11110100 : Code := subCode [1, 1, 1, 1, 0, 1, 0, 0] c52
noncomputable def c52_1111110100 : Code := subCode [1, 1, 1, 1, 1, 1, 0, 1, 0, 0] c52
def k52 : List (List Nat) := [[1, 1]]
def k52_1110100 : List (List Nat) := []
theorem l52_1110100 : ltCode 104 c52_1110100 = true := by kernel_rfl
theorem m52_1110100 : notMap c52_1110100 = true := by kernel_rfl
def k52_11110100 : List (List Nat) := []
theorem l52_11110100 : ltCode 104 c52_11110100 = true := by kernel_rfl
theorem m52_11110100 : notMap c52_11110100 = true := by kernel_rfl
def k52_1111110100 : List (List Nat) := []
theorem l52_1111110100 : ltCode 104 c52_1111110100 = true := by kernel_rfl
theorem m52_1111110100 : notMap c52_1111110100 = true := by kernel_rfl
theorem b52 : BodyOk P 104 2 52 Tryd.f52 c52 := ⟨Tryd.func52, by kernel_rfl, by kernel_rfl, by kernel_rfl, by kernel_rfl, by kernel_rfl⟩
def v52_11 (I : Prims) (τ : Tau) (ds : List Deferred) (s : St) (Q : Ex → XK) : Prop :=
 I.wop (.fieldAddr 43 (.const (τ 3)) 2) 0 s fun v33_0 s0 =>
 I.wop (.load 38 (.const v33_0)) 38 s0 fun v34_1 s1 =>
 I.wop (.fieldAddr 43 (.const (τ 3)) 3) 0 s1 fun v35_2 s2 =>
 I.wop (.load 38 (.const v35_2)) 38 s2 fun v36_3 s3 =>
 I.wop (.fieldAddr 43 (.const (τ 3)) 4) 0 s3 fun v37_4 s4 =>
 I.wop (.load 38 (.const v37_4)) 38 s4 fun v38_5 s5 =>
 I.wop (.fieldAddr 43 (.const (τ 3)) 5) 0 s5 fun v39_6 s6 =>
 I.wop (.load 38 (.const v39_6)) 38 s6 fun v40_7 s7 =>
 I.wop (.fieldAddr 43 (.const (τ 3)) 6) 0 s7 fun v41_8 s8 =>
 I.wop (.load 38 (.const v41_8)) 38 s8 fun v42_9 s9 =>
 I.wop (.buildSlice 25 5 ⟨[(0, (.const v34_1)), (1, (.const v36_3)), (2, (.const v38_5)), (3, (.const v40_7)), (4, (.const v42_9))]⟩) 25 s9 fun v43_10 s10 =>
 I.loop 104 none c52_1110100 (U τ [(6, (.int .i64 0)), (5, v43_10), (43, v43_10), (42, v42_9), (41, v41_8), (40, v40_7), (39, v39_6), (38, v38_5), (37, v37_4), (36, v36_3), (35, v35_2), (34, v34_1), (33, v33_0)]) ds s10 (fun τ ds s => (Q .ret) τ [] ds s) [(0, fun τ11 ds11 s11 =>
 I.loop 104 none c52_11110100 (U τ11 [(7, (.int .i64 0))]) ds11 s11 (fun τ ds s => (Q .ret) τ [] ds s) [(2, fun τ12 ds12 s12 =>
 I.wop (.load 43 (.const (τ12 3))) 43 s12 fun v88_13 s13 =>
 I.call 53 [v88_13] s13 fun v89_14 s14 =>
 I.loop 104 none c52_1111110100 (U τ12 [(9, (.int .i64 0)), (8, v89_14), (89, v89_14), (88, v88_13)]) ds12 s14 (fun τ ds s => (Q .ret) τ [] ds s) [(4, fun τ15 ds15 s15 =>
 Q .ret τ15 [(4, (.bool true))] ds15 s15)])])]
theorem n52_11 (I : Prims) (τ : Tau) (ds : List Deferred) (s : St) (Q : Ex → XK) : xp I none 104 k52 c52_11 [1, 1] τ [] ds s Q = v52_11 I τ ds s Q := by kernel_rfl
def v52_1110100 (I : Prims) (rnd : Option Nat) (τ : Tau) (ds : List Deferred) (s : St) (Q : Ex → WK) : Prop :=
 I.wop (.call ⟨.builtin .len, ⟨[(.const (τ 5))]⟩, #[25]⟩) 3 s fun v46_0 s0 =>
 I.wop (.binOp .lss 3 (.const (τ 6)) (.const v46_0) 3) 4 s0 fun v47_1 s1 =>
 wdec v47_1
 (I.wop (.indexAddr 25 (.const (τ 5)) (.const (τ 6))) 0 s1 fun v52_2 s2 =>
 I.wop (.load 38 (.const v52_2)) 38 s2 fun v53_3 s3 =>
 veq v53_3 v53_3 = true ∧ I.wop (.fieldAddr 24 (.const (τ 2)) 0) 0 s3 fun v54_4 s4 =>
 I.wop (.load 3 (.const v54_4)) 3 s4 fun v55_5 s5 =>
 veq v55_5 v55_5 = true ∧ I.call 51 [v55_5] s5 fun v56_6 s6 =>
 Keeps [(3, .ptr v52_2)] s5 s6 ∧ I.wop (.binOp .geq 38 (.const v53_3) (.const v56_6) 38) 4 s6 fun v57_7 s7 =>
 wdec v57_7
 (Q .ret (U τ [(4, (.bool false)), (69, (.bool true)), (69, (.bool true)), (58, (.bool true)), (68, undef), (58, (.bool true)), (67, undef), (66, undef), (65, undef), (64, undef), (63, undef), (62, undef), (58, (.bool true)), (61, undef), (58, (.bool true)), (60, undef), (58, (.bool true)), (59, undef), (58, (.bool true)), (58, v57_7), (57, v57_7), (56, v56_6), (55, v55_5), (54, v54_4), (53, v53_3), (52, v52_2), (51, (τ 6)), (50, (τ 5)), (47, (.bool true)), (47, v47_1), (46, v46_0), (45, (τ 5)), (44, (τ 6))]) ds s7)
 (I.wop (.fieldAddr 43 (.const (τ 3)) 0) 0 s7 fun v59_8 s8 =>
 I.wop (.load 40 (.const v59_8)) 40 s8 fun v60_9 s9 =>
 veq v60_9 v60_9 = true ∧ I.wop (.binOp .neq 40 (.const v60_9) (.const (.int .u8 1)) 40) 4 s9 fun v61_10 s10 =>
 wdec v61_10
 (I.wop (.indexAddr 25 (.const (τ 5)) (.const (τ 6))) 0 s10 fun v65_11 s11 =>
 I.wop (.load 38 (.const v65_11)) 38 s11 fun v66_12 s12 =>
 veq v66_12 v66_12 = true ∧ I.wop (.binOp .neq 38 (.const v66_12) (.const (.int .u64 0)) 38) 4 s12 fun v67_13 s13 =>
 wdec v67_13
 (Q .ret (U τ [(4, (.bool false)), (69, (.bool true)), (69, v67_13), (58, (.bool false)), (68, v67_13), (62, (.bool true)), (58, (.bool false)), (67, v67_13), (62, (.bool true)), (66, v66_12), (62, (.bool true)), (65, v65_11), (62, (.bool true)), (64, (τ 6)), (62, (.bool true)), (63, (τ 5)), (62, (.bool true)), (62, v61_10), (58, (.bool false)), (61, v61_10), (58, (.bool false)), (60, v60_9), (58, (.bool false)), (59, v59_8), (58, (.bool false)), (58, v57_7), (57, v57_7), (56, v56_6), (55, v55_5), (54, v54_4), (53, v53_3), (52, v52_2), (51, (τ 6)), (50, (τ 5)), (47, (.bool true)), (47, v47_1), (46, v46_0), (45, (τ 5)), (44, (τ 6))]) ds s13)
 (I.wop (.binOp .add 3 (.const (τ 6)) (.const (.int .i64 1)) 3) 3 s13 fun v49_14 s14 =>
 Q .normal (U τ [(6, v49_14), (49, v49_14), (48, (τ 6)), (69, (.bool false)), (69, v67_13), (58, (.bool false)), (68, v67_13), (62, (.bool true)), (58, (.bool false)), (67, v67_13), (62, (.bool true)), (66, v66_12), (62, (.bool true)), (65, v65_11), (62, (.bool true)), (64, (τ 6)), (62, (.bool true)), (63, (τ 5)), (62, (.bool true)), (62, v61_10), (58, (.bool false)), (61, v61_10), (58, (.bool false)), (60, v60_9), (58, (.bool false)), (59, v59_8), (58, (.bool false)), (58, v57_7), (57, v57_7), (56, v56_6), (55, v55_5), (54, v54_4), (53, v53_3), (52, v52_2), (51, (τ 6)), (50, (τ 5)), (47, (.bool true)), (47, v47_1), (46, v46_0), (45, (τ 5)), (44, (τ 6))]) ds s14))
 (I.wop (.binOp .add 3 (.const (τ 6)) (.const (.int .i64 1)) 3) 3 s10 fun v49_15 s15 =>
 Q .normal (U τ [(6, v49_15), (49, v49_15), (48, (τ 6)), (69, (.bool false)), (69, (.bool false)), (58, (.bool false)), (68, (.bool false)), (62, (.bool false)), (58, (.bool false)), (67, undef), (62, (.bool false)), (66, undef), (62, (.bool false)), (65, undef), (62, (.bool false)), (64, undef), (62, (.bool false)), (63, undef), (62, (.bool false)), (62, v61_10), (58, (.bool false)), (61, v61_10), (58, (.bool false)), (60, v60_9), (58, (.bool false)), (59, v59_8), (58, (.bool false)), (58, v57_7), (57, v57_7), (56, v56_6), (55, v55_5), (54, v54_4), (53, v53_3), (52, v52_2), (51, (τ 6)), (50, (τ 5)), (47, (.bool true)), (47, v47_1), (46, v46_0), (45, (τ 5)), (44, (τ 6))]) ds s15)))
 (Q (.exit 0) (U τ [(47, (.bool false)), (47, v47_1), (46, v46_0), (45, (τ 5)), (44, (τ 6))]) ds s1)
theorem x52_1110100 (I : Prims) (rnd : Option Nat) (τ : Tau) (ds : List Deferred) (s : St) (Q : Ex → WK) : xp I rnd 104 k52_1110100 c52_1110100 [] τ [] ds s (lift Q) = v52_1110100 I rnd τ ds s Q := by kernel_rfl
theorem n52_1110100 [Memo] (ro : Nat) (rnd : Option Nat) (τ : Tau) (ds : List Deferred) (s : St) (Q : Ex → WK) : wp P ro 104 rnd c52_1110100 τ ds s Q = v52_1110100 (prims P ro) rnd τ ds s Q := xp_wp rnd 104 P ro (x52_1110100 _ rnd τ ds s Q)
def v52_11110100 (I : Prims) (rnd : Option Nat) (τ : Tau) (ds : List Deferred) (s : St) (Q : Ex → WK) : Prop :=
 I.wop (.binOp .lss 3 (.const (τ 7)) (.const (.int .i64 4)) 3) 4 s fun v71_0 s0 =>
 wdec v71_0
 (I.wop (.fieldAddr 43 (.const (τ 3)) 1) 0 s0 fun v75_1 s1 =>
 I.wop (.indexAddr 41 (.const v75_1) (.const (τ 7))) 0 s1 fun v76_2 s2 =>
 I.wop (.load 3 (.const v76_2)) 3 s2 fun v77_3 s3 =>
 I.wop (.binOp .lss 3 (.const v77_3) (.const (.int .i64 (-1))) 3) 4 s3 fun v78_4 s4 =>
 wdec v78_4
 (Q .ret (U τ [(4, (.bool false)), (87, (.bool true)), (87, (.bool true)), (79, (.bool true)), (86, undef), (79, (.bool true)), (85, undef), (79, (.bool true)), (84, undef), (79, (.bool true)), (83, undef), (79, (.bool true)), (82, undef), (79, (.bool true)), (81, undef), (79, (.bool true)), (80, undef), (79, (.bool true)), (79, v78_4), (78, v78_4), (77, v77_3), (76, v76_2), (75, v75_1), (74, (τ 7)), (71, (.bool true)), (71, v71_0), (70, (τ 7))]) ds s4)
 (I.wop (.fieldAddr 43 (.const (τ 3)) 1) 0 s4 fun v81_5 s5 =>
 I.wop (.indexAddr 41 (.const v81_5) (.const (τ 7))) 0 s5 fun v82_6 s6 =>
 I.wop (.load 3 (.const v82_6)) 3 s6 fun v83_7 s7 =>
 I.wop (.fieldAddr 24 (.const (τ 2)) 1) 0 s7 fun v84_8 s8 =>
 I.wop (.load 3 (.const v84_8)) 3 s8 fun v85_9 s9 =>
 I.wop (.binOp .geq 3 (.const v83_7) (.const v85_9) 3) 4 s9 fun v86_10 s10 =>
 wdec v86_10
 (Q .ret (U τ [(4, (.bool false)), (87, (.bool true)), (87, v86_10), (79, (.bool false)), (86, v86_10), (79, (.bool false)), (85, v85_9), (79, (.bool false)), (84, v84_8), (79, (.bool false)), (83, v83_7), (79, (.bool false)), (82, v82_6), (79, (.bool false)), (81, v81_5), (79, (.bool false)), (80, (τ 7)), (79, (.bool false)), (79, v78_4), (78, v78_4), (77, v77_3), (76, v76_2), (75, v75_1), (74, (τ 7)), (71, (.bool true)), (71, v71_0), (70, (τ 7))]) ds s10)
 (I.wop (.binOp .add 3 (.const (τ 7)) (.const (.int .i64 1)) 3) 3 s10 fun v73_11 s11 =>
 Q .normal (U τ [(7, v73_11), (73, v73_11), (72, (τ 7)), (87, (.bool false)), (87, v86_10), (79, (.bool false)), (86, v86_10), (79, (.bool false)), (85, v85_9), (79, (.bool false)), (84, v84_8), (79, (.bool false)), (83, v83_7), (79, (.bool false)), (82, v82_6), (79, (.bool false)), (81, v81_5), (79, (.bool false)), (80, (τ 7)), (79, (.bool false)), (79, v78_4), (78, v78_4), (77, v77_3), (76, v76_2), (75, v75_1), (74, (τ 7)), (71, (.bool true)), (71, v71_0), (70, (τ 7))]) ds s11)))
 (Q (.exit 2) (U τ [(71, (.bool false)), (71, v71_0), (70, (τ 7))]) ds s0)
theorem x52_11110100 (I : Prims) (rnd : Option Nat) (τ : Tau) (ds : List Deferred) (s : St) (Q : Ex → WK) : xp I rnd 104 k52_11110100 c52_11110100 [] τ [] ds s (lift Q) = v52_11110100 I rnd τ ds s Q := by kernel_rfl
theorem n52_11110100 [Memo] (ro : Nat) (rnd : Option Nat) (τ : Tau) (ds : List Deferred) (s : St) (Q : Ex → WK) : wp P ro 104 rnd c52_11110100 τ ds s Q = v52_11110100 (prims P ro) rnd τ ds s Q := xp_wp rnd 104 P ro (x52_11110100 _ rnd τ ds s Q)
def v52_1111110100 (I : Prims) (rnd : Option Nat) (τ : Tau) (ds : List Deferred) (s : St) (Q : Ex → WK) : Prop :=
 I.wop (.call ⟨.builtin .len, ⟨[(.const (τ 8))]⟩, #[49]⟩) 3 s fun v92_0 s0 =>
 I.wop (.binOp .lss 3 (.const (τ 9)) (.const v92_0) 3) 4 s0 fun v93_1 s1 =>
 wdec v93_1
 (I.wop (.indexAddr 49 (.const (τ 8)) (.const (τ 9))) 0 s1 fun v98_2 s2 =>
 I.wop (.load 3 (.const v98_2)) 3 s2 fun v99_3 s3 =>
 I.wop (.fieldAddr 43 (.const (τ 3)) 1) 0 s3 fun v100_4 s4 =>
 I.wop (.indexAddr 41 (.const v100_4) (.const v99_3)) 0 s4 fun v101_5 s5 =>
 I.wop (.load 3 (.const v101_5)) 3 s5 fun v102_6 s6 =>
 I.wop (.binOp .lss 3 (.const v102_6) (.const (.int .i64 0)) 3) 4 s6 fun v103_7 s7 =>
 wdec v103_7
 (Q .ret (U τ [(4, (.bool false)), (103, (.bool true)), (103, v103_7), (102, v102_6), (101, v101_5), (100, v100_4), (99, v99_3), (98, v98_2), (97, (τ 9)), (96, (τ 8)), (93, (.bool true)), (93, v93_1), (92, v92_0), (91, (τ 8)), (90, (τ 9))]) ds s7)
 (I.wop (.binOp .add 3 (.const (τ 9)) (.const (.int .i64 1)) 3) 3 s7 fun v95_8 s8 =>
 Q .normal (U τ [(9, v95_8), (95, v95_8), (94, (τ 9)), (103, (.bool false)), (103, v103_7), (102, v102_6), (101, v101_5), (100, v100_4), (99, v99_3), (98, v98_2), (97, (τ 9)), (96, (τ 8)), (93, (.bool true)), (93, v93_1), (92, v92_0), (91, (τ 8)), (90, (τ 9))]) ds s8))
 (Q (.exit 4) (U τ [(93, (.bool false)), (93, v93_1), (92, v92_0), (91, (τ 8)), (90, (τ 9))]) ds s1)
theorem x52_1111110100 (I : Prims) (rnd : Option Nat) (τ : Tau) (ds : List Deferred) (s : St) (Q : Ex → WK) : xp I rnd 104 k52_1111110100 c52_1111110100 [] τ [] ds s (lift Q) = v52_1111110100 I rnd τ ds s Q := by kernel_rfl
theorem n52_1111110100 [Memo] (ro : Nat) (rnd : Option Nat) (τ : Tau) (ds : List Deferred) (s : St) (Q : Ex → WK) : wp P ro 104 rnd c52_1111110100 τ ds s Q = v52_1111110100 (prims P ro) rnd τ ds s Q := xp_wp rnd 104 P ro (x52_1111110100 _ rnd τ ds s Q)
def v52 (I : Prims) (a0 a1 : Value) (si : St) (K : Value → St → Prop) : Prop :=
 I.wop (.box 24 (.const a0)) 0 (ent si) fun v2_0 s0 =>
 I.wop (.box 43 (.const a1)) 0 s0 fun v3_1 s1 =>
 I.wop (.fieldAddr 43 (.const v3_1) 0) 0 s1 fun v10_2 s2 =>
 I.wop (.load 40 (.const v10_2)) 40 s2 fun v11_3 s3 =>
 I.wop (.binOp .gtr 40 (.const v11_3) (.const (.int .u8 3)) 40) 4 s3 fun v12_4 s4 =>
 wdec v12_4
 (I.fin si K (.bool false) s4)
 (I.wop (.fieldAddr 43 (.const v3_1) 7) 0 s4 fun v14_5 s5 =>
 I.wop (.load 3 (.const v14_5)) 3 s5 fun v15_6 s6 =>
 I.wop (.binOp .lss 3 (.const v15_6) (.const (.int .i64 0)) 3) 4 s6 fun v16_7 s7 =>
 wdec v16_7
 (I.fin si K (.bool false) s7)
 (I.wop (.fieldAddr 43 (.const v3_1) 7) 0 s7 fun v19_8 s8 =>
 I.wop (.load 3 (.const v19_8)) 3 s8 fun v20_9 s9 =>
 I.wop (.binOp .gtr 3 (.const v20_9) (.const (.int .i64 7)) 3) 4 s9 fun v21_10 s10 =>
 wdec v21_10
 (I.fin si K (.bool false) s10)
 (I.wop (.fieldAddr 43 (.const v3_1) 0) 0 s10 fun v24_11 s11 =>
 I.wop (.load 40 (.const v24_11)) 40 s11 fun v25_12 s12 =>
 I.wop (.binOp .neq 40 (.const v25_12) (.const (.int .u8 3)) 40) 4 s12 fun v26_13 s13 =>
 wdec v26_13
 (I.wop (.fieldAddr 43 (.const v3_1) 7) 0 s13 fun v28_14 s14 =>
 I.wop (.load 3 (.const v28_14)) 3 s14 fun v29_15 s15 =>
 I.wop (.binOp .neq 3 (.const v29_15) (.const (.int .i64 0)) 3) 4 s15 fun v30_16 s16 =>
 wdec v30_16
 (I.fin si K (.bool false) s16)
 (I.hold (xp I none 104 k52 c52_11 [1, 1] (U undefT [(32, (.bool false)), (32, v30_16), (23, (.bool false)), (31, v30_16), (27, (.bool true)), (23, (.bool false)), (30, v30_16), (27, (.bool true)), (29, v29_15), (27, (.bool true)), (28, v28_14), (27, (.bool true)), (27, v26_13), (23, (.bool false)), (26, v26_13), (23, (.bool false)), (25, v25_12), (23, (.bool false)), (24, v24_11), (23, (.bool false)), (23, v21_10), (22, v21_10), (18, (.bool false)), (21, v21_10), (18, (.bool false)), (20, v20_9), (18, (.bool false)), (19, v19_8), (18, (.bool false)), (18, v16_7), (17, v16_7), (13, (.bool false)), (16, v16_7), (13, (.bool false)), (15, v15_6), (13, (.bool false)), (14, v14_5), (13, (.bool false)), (13, v12_4), (12, v12_4), (11, v11_3), (10, v10_2), (4, (.bool false)), (3, v3_1), (2, v2_0), (0, a0), (1, a1)]) [] [] s16 (xleave I si Tryd.f52.results.toList K))))
 (I.hold (xp I none 104 k52 c52_11 [1, 1] (U undefT [(32, (.bool false)), (32, (.bool false)), (23, (.bool false)), (31, (.bool false)), (27, (.bool false)), (23, (.bool false)), (30, undef), (27, (.bool false)), (29, undef), (27, (.bool false)), (28, undef), (27, (.bool false)), (27, v26_13), (23, (.bool false)), (26, v26_13), (23, (.bool false)), (25, v25_12), (23, (.bool false)), (24, v24_11), (23, (.bool false)), (23, v21_10), (22, v21_10), (18, (.bool false)), (21, v21_10), (18, (.bool false)), (20, v20_9), (18, (.bool false)), (19, v19_8), (18, (.bool false)), (18, v16_7), (17, v16_7), (13, (.bool false)), (16, v16_7), (13, (.bool false)), (15, v15_6), (13, (.bool false)), (14, v14_5), (13, (.bool false)), (13, v12_4), (12, v12_4), (11, v11_3), (10, v10_2), (4, (.bool false)), (3, v3_1), (2, v2_0), (0, a0), (1, a1)]) [] [] s13 (xleave I si Tryd.f52.results.toList K))))))
theorem x52 (I : Prims) (a0 a1 : Value) (si : St) (K : Value → St → Prop) : xbody I 104 k52 Tryd.f52 c52 [a0, a1] si K = v52 I a0 a1 si K := by kernel_rfl
theorem n52 [Memo] (ro : Nat) (a0 a1 : Value) (si : St) (K : Value → St → Prop) : wbody P ro 104 Tryd.f52 c52 [a0, a1] si K = v52 (prims P ro) a0 a1 si K := xbody_eq 104 P ro (x52 _ a0 a1 si K)
theorem r52 (I : Prims) (si : St) (K : Value → St → Prop) (τ : Tau) (ds : List Deferred) (s : St) : xleave I si Tryd.f52.results.toList K .ret τ [] ds s =
 (xdefers I ds s fun s0 =>
 I.fin si K (τ 4) s0) := by kernel_rfl
/- attestor/attestorref23.Reads -/
noncomputable def c53 : Code := bodyOf Tryd.f53
noncomputable def c53_11010101 : Code := subCode [1, 1, 0, 1, 0, 1, 0, 1] c53
noncomputable def c53_111 : Code := subCode [1, 1, 1] c53
def k53 : List (List Nat) := [[1, 0, 1, 0, 1, 0, 1, 1]]
theorem b53 : BodyOk P 47 1 53 Tryd.f53 c53 := ⟨Tryd.func53, by kernel_rfl, by kernel_rfl, by kernel_rfl, by kernel_rfl, by kernel_rfl⟩
def v53_11010101 (I : Prims) (τ : Tau) (ds : List Deferred) (s : St) (Q : Ex → XK) : Prop :=
 I.wop (.fieldAddr 43 (.const (τ 1)) 3) 0 s fun v19_0 s0 =>
 I.wop (.load 38 (.const v19_0)) 38 s0 fun v20_1 s1 =>
 I.wop (.binOp .neq 38 (.const v20_1) (.const (.int .u64 0)) 38) 4 s1 fun v21_2 s2 =>
 wdec v21_2
 (I.wop (.buildSlice 49 1 ⟨[(0, (.const (.int .i64 1)))]⟩) 49 s2 fun v28_3 s3 =>
 I.wop (.call ⟨.builtin .append, ⟨[(.const (τ 3)), (.const v28_3)]⟩, #[49, 49]⟩) 49 s3 fun v29_4 s4 =>
 I.wop (.fieldAddr 43 (.const (τ 1)) 5) 0 s4 fun v30_5 s5 =>
 I.wop (.load 38 (.const v30_5)) 38 s5 fun v31_6 s6 =>
 I.wop (.binOp .neq 38 (.const v31_6) (.const (.int .u64 0)) 38) 4 s6 fun v32_7 s7 =>
 wdec v32_7
 (I.wop (.buildSlice 49 1 ⟨[(0, (.const (.int .i64 2)))]⟩) 49 s7 fun v34_8 s8 =>
 I.wop (.call ⟨.builtin .append, ⟨[(.const v29_4), (.const v34_8)]⟩, #[49, 49]⟩) 49 s8 fun v35_9 s9 =>
 Q .normal τ [(3, v35_9), (35, v35_9), (34, v34_8), (33, v29_4), (32, (.bool true)), (32, v32_7), (31, v31_6), (30, v30_5), (3, v29_4), (29, v29_4), (28, v28_3), (27, (τ 3)), (26, (.bool true)), (26, (.bool true)), (22, (.bool true)), (25, undef), (22, (.bool true)), (24, undef), (22, (.bool true)), (23, undef), (22, (.bool true)), (22, v21_2), (21, v21_2), (20, v20_1), (19, v19_0)] ds s9)
 (Q .normal τ [(32, (.bool false)), (32, v32_7), (31, v31_6), (30, v30_5), (3, v29_4), (29, v29_4), (28, v28_3), (27, (τ 3)), (26, (.bool true)), (26, (.bool true)), (22, (.bool true)), (25, undef), (22, (.bool true)), (24, undef), (22, (.bool true)), (23, undef), (22, (.bool true)), (22, v21_2), (21, v21_2), (20, v20_1), (19, v19_0)] ds s7))
 (I.wop (.fieldAddr 43 (.const (τ 1)) 4) 0 s2 fun v23_10 s10 =>
 I.wop (.load 38 (.const v23_10)) 38 s10 fun v24_11 s11 =>
 I.wop (.binOp .neq 38 (.const v24_11) (.const (.int .u64 0)) 38) 4 s11 fun v25_12 s12 =>
 wdec v25_12
 (I.wop (.buildSlice 49 1 ⟨[(0, (.const (.int .i64 1)))]⟩) 49 s12 fun v28_13 s13 =>
 I.wop (.call ⟨.builtin .append, ⟨[(.const (τ 3)), (.const v28_13)]⟩, #[49, 49]⟩) 49 s13 fun v29_14 s14 =>
 I.wop (.fieldAddr 43 (.const (τ 1)) 5) 0 s14 fun v30_15 s15 =>
 I.wop (.load 38 (.const v30_15)) 38 s15 fun v31_16 s16 =>
 I.wop (.binOp .neq 38 (.const v31_16) (.const (.int .u64 0)) 38) 4 s16 fun v32_17 s17 =>
 wdec v32_17
 (I.wop (.buildSlice 49 1 ⟨[(0, (.const (.int .i64 2)))]⟩) 49 s17 fun v34_18 s18 =>
 I.wop (.call ⟨.builtin .append, ⟨[(.const v29_14), (.const v34_18)]⟩, #[49, 49]⟩) 49 s18 fun v35_19 s19 =>
 Q .normal τ [(3, v35_19), (35, v35_19), (34, v34_18), (33, v29_14), (32, (.bool true)), (32, v32_17), (31, v31_16), (30, v30_15), (3, v29_14), (29, v29_14), (28, v28_13), (27, (τ 3)), (26, (.bool true)), (26, v25_12), (22, (.bool false)), (25, v25_12), (22, (.bool false)), (24, v24_11), (22, (.bool false)), (23, v23_10), (22, (.bool false)), (22, v21_2), (21, v21_2), (20, v20_1), (19, v19_0)] ds s19)
 (Q .normal τ [(32, (.bool false)), (32, v32_17), (31, v31_16), (30, v30_15), (3, v29_14), (29, v29_14), (28, v28_13), (27, (τ 3)), (26, (.bool true)), (26, v25_12), (22, (.bool false)), (25, v25_12), (22, (.bool false)), (24, v24_11), (22, (.bool false)), (23, v23_10), (22, (.bool false)), (22, v21_2), (21, v21_2), (20, v20_1), (19, v19_0)] ds s17))
 (I.wop (.fieldAddr 43 (.const (τ 1)) 5) 0 s12 fun v30_20 s20 =>
 I.wop (.load 38 (.const v30_20)) 38 s20 fun v31_21 s21 =>
 I.wop (.binOp .neq 38 (.const v31_21) (.const (.int .u64 0)) 38) 4 s21 fun v32_22 s22 =>
 wdec v32_22
 (I.wop (.buildSlice 49 1 ⟨[(0, (.const (.int .i64 2)))]⟩) 49 s22 fun v34_23 s23 =>
 I.wop (.call ⟨.builtin .append, ⟨[(.const (τ 3)), (.const v34_23)]⟩, #[49, 49]⟩) 49 s23 fun v35_24 s24 =>
 Q .normal τ [(3, v35_24), (35, v35_24), (34, v34_23), (33, (τ 3)), (32, (.bool true)), (32, v32_22), (31, v31_21), (30, v30_20), (26, (.bool false)), (26, v25_12), (22, (.bool false)), (25, v25_12), (22, (.bool false)), (24, v24_11), (22, (.bool false)), (23, v23_10), (22, (.bool false)), (22, v21_2), (21, v21_2), (20, v20_1), (19, v19_0)] ds s24)
 (Q .normal τ [(32, (.bool false)), (32, v32_22), (31, v31_21), (30, v30_20), (26, (.bool false)), (26, v25_12), (22, (.bool false)), (25, v25_12), (22, (.bool false)), (24, v24_11), (22, (.bool false)), (23, v23_10), (22, (.bool false)), (22, v21_2), (21, v21_2), (20, v20_1), (19, v19_0)] ds s22)))
theorem n53_11010101 (I : Prims) (τ : Tau) (ds : List Deferred) (s : St) (Q : Ex → XK) : xp I none 47 k53 c53_11010101 [1, 0, 1, 0, 1, 0, 1, 1] τ [] ds s Q = v53_11010101 I τ ds s Q := by kernel_rfl
def v53_111 (I : Prims) (τ : Tau) (ds : List Deferred) (s : St) (Q : Ex → XK) : Prop :=
 Q .ret τ [(2, (τ 3)), (46, (τ 3))] ds s
theorem n53_111 (I : Prims) (τ : Tau) (ds : List Deferred) (s : St) (Q : Ex → XK) : xp I none 47 k53 c53_111 [1, 1, 1] τ [] ds s Q = v53_111 I τ ds s Q := by kernel_rfl
def v53 (I : Prims) (a0 : Value) (si : St) (K : Value → St → Prop) : Prop :=
 I.wop (.box 43 (.const a0)) 0 (ent si) fun v1_0 s0 =>
 I.wop (.fieldAddr 43 (.const v1_0) 0) 0 s0 fun v4_1 s1 =>
 I.wop (.load 40 (.const v4_1)) 40 s1 fun v5_2 s2 =>
 I.wop (.binOp .eql 40 (.const v5_2) (.const (.int .u8 1)) 40) 4 s2 fun v7_3 s3 =>
 wdec v7_3
 (I.wop (.fieldAddr 43 (.const v1_0) 2) 0 s3 fun v8_4 s4 =>
 I.wop (.load 38 (.const v8_4)) 38 s4 fun v9_5 s5 =>
 I.wop (.binOp .neq 38 (.const v9_5) (.const (.int .u64 0)) 38) 4 s5 fun v10_6 s6 =>
 wdec v10_6
 (I.wop (.buildSlice 49 1 ⟨[(0, (.const (.int .i64 0)))]⟩) 49 s6 fun v17_7 s7 =>
 I.wop (.call ⟨.builtin .append, ⟨[(.const (.slice none 0 0)), (.const v17_7)]⟩, #[49, 49]⟩) 49 s7 fun v18_8 s8 =>
 I.hold (xp I none 47 k53 c53_11010101 [1, 0, 1, 0, 1, 0, 1, 1] (U undefT [(3, v18_8), (18, v18_8), (17, v17_7), (16, (.slice none 0 0)), (15, (.bool true)), (15, (.bool true)), (11, (.bool true)), (14, undef), (11, (.bool true)), (13, undef), (11, (.bool true)), (12, undef), (11, (.bool true)), (11, v10_6), (10, v10_6), (9, v9_5), (8, v8_4), (6, (.bool true)), (6, v7_3), (7, v7_3), (5, v5_2), (4, v4_1), (3, (.slice none 0 0)), (2, (.slice none 0 0)), (1, v1_0), (0, a0)]) [] [] s8 (blkX 0 (sX I none 47 k53 c53_111 [1, 1, 1] (xleave I si Tryd.f53.results.toList K)))))
 (I.wop (.fieldAddr 43 (.const v1_0) 4) 0 s6 fun v12_9 s9 =>
 I.wop (.load 38 (.const v12_9)) 38 s9 fun v13_10 s10 =>
 I.wop (.binOp .neq 38 (.const v13_10) (.const (.int .u64 0)) 38) 4 s10 fun v14_11 s11 =>
 wdec v14_11
 (I.wop (.buildSlice 49 1 ⟨[(0, (.const (.int .i64 0)))]⟩) 49 s11 fun v17_12 s12 =>
 I.wop (.call ⟨.builtin .append, ⟨[(.const (.slice none 0 0)), (.const v17_12)]⟩, #[49, 49]⟩) 49 s12 fun v18_13 s13 =>
 I.hold (xp I none 47 k53 c53_11010101 [1, 0, 1, 0, 1, 0, 1, 1] (U undefT [(3, v18_13), (18, v18_13), (17, v17_12), (16, (.slice none 0 0)), (15, (.bool true)), (15, v14_11), (11, (.bool false)), (14, v14_11), (11, (.bool false)), (13, v13_10), (11, (.bool false)), (12, v12_9), (11, (.bool false)), (11, v10_6), (10, v10_6), (9, v9_5), (8, v8_4), (6, (.bool true)), (6, v7_3), (7, v7_3), (5, v5_2), (4, v4_1), (3, (.slice none 0 0)), (2, (.slice none 0 0)), (1, v1_0), (0, a0)]) [] [] s13 (blkX 0 (sX I none 47 k53 c53_111 [1, 1, 1] (xleave I si Tryd.f53.results.toList K)))))
 (I.hold (xp I none 47 k53 c53_11010101 [1, 0, 1, 0, 1, 0, 1, 1] (U undefT [(15, (.bool false)), (15, v14_11), (11, (.bool false)), (14, v14_11), (11, (.bool false)), (13, v13_10), (11, (.bool false)), (12, v12_9), (11, (.bool false)), (11, v10_6), (10, v10_6), (9, v9_5), (8, v8_4), (6, (.bool true)), (6, v7_3), (7, v7_3), (5, v5_2), (4, v4_1), (3, (.slice none 0 0)), (2, (.slice none 0 0)), (1, v1_0), (0, a0)]) [] [] s11 (blkX 0 (sX I none 47 k53 c53_111 [1, 1, 1] (xleave I si Tryd.f53.results.toList K)))))))
 (I.wop (.binOp .eql 40 (.const v5_2) (.const (.int .u8 2)) 40) 4 s3 fun v37_14 s14 =>
 wdec v37_14
 (I.wop (.buildSlice 49 1 ⟨[(0, (.const (.int .i64 0)))]⟩) 49 s14 fun v39_15 s15 =>
 I.wop (.call ⟨.builtin .append, ⟨[(.const (.slice none 0 0)), (.const v39_15)]⟩, #[49, 49]⟩) 49 s15 fun v40_16 s16 =>
 I.fin si K v40_16 s16)
 (I.wop (.binOp .eql 40 (.const v5_2) (.const (.int .u8 3)) 40) 4 s14 fun v42_17 s17 =>
 wdec v42_17
 (I.wop (.buildSlice 49 4 ⟨[(0, (.const (.int .i64 0))), (1, (.const (.int .i64 1))), (2, (.const (.int .i64 2))), (3, (.const (.int .i64 3)))]⟩) 49 s17 fun v44_18 s18 =>
 I.wop (.call ⟨.builtin .append, ⟨[(.const (.slice none 0 0)), (.const v44_18)]⟩, #[49, 49]⟩) 49 s18 fun v45_19 s19 =>
 I.fin si K v45_19 s19)
 (I.fin si K (.slice none 0 0) s17)))
theorem x53 (I : Prims) (a0 : Value) (si : St) (K : Value → St → Prop) : xbody I 47 k53 Tryd.f53 c53 [a0] si K = v53 I a0 si K := by kernel_rfl
theorem n53 [Memo] (ro : Nat) (a0 : Value) (si : St) (K : Value → St → Prop) : wbody P ro 47 Tryd.f53 c53 [a0] si K = v53 (prims P ro) a0 si K := xbody_eq 47 P ro (x53 _ a0 si K)
theorem r53 (I : Prims) (si : St) (K : Value → St → Prop) (τ : Tau) (ds : List Deferred) (s : St) : xleave I si Tryd.f53.results.toList K .ret τ [] ds s =
 (xdefers I ds s fun s0 =>
 I.fin si K (τ 2) s0) := by kernel_rfl
/- attestor/sponge.Round -/
noncomputable def c54 : Code := bodyOf Tryd.f54
def k54 : List (List Nat) := []
theorem b54 : BodyOk P 33 3 54 Tryd.f54 c54 := ⟨Tryd.func54, by kernel_rfl, by kernel_rfl, by kernel_rfl, by kernel_rfl, by kernel_rfl⟩
def v54 (I : Prims) (a0 a1 a2 : Value) (si : St) (K : Value → St → Prop) : Prop :=
 I.wop (.box 39 (.const a2)) 0 (ent si) fun v5_0 s0 =>
 I.wop (.alloc 39) 0 s0 fun v6_1 s1 =>
 I.call 67 [a0, a1] s1 fun v12_2 s2 =>
 I.wop (.unOp .not 4 (.const v12_2)) 4 s2 fun v13_3 s3 =>
 wdec v13_3
 (I.wop (.build 39 ⟨[]⟩) 39 s3 fun v14_4 s4 =>
 I.wop (.store 39 (.const v6_1) (.const v14_4)) 0 s4 fun _ s5 =>
 I.wop (.load 39 (.const v6_1)) 39 s5 fun v6_6 _ =>
 I.fin si K v6_6 s5)
 (I.call 68 [a0] s3 fun v16_7 s7 =>
 I.wop (.alloc 79) 0 s7 fun v7_8 s8 =>
 I.wop (.store 79 (.const v7_8) (.const v16_7)) 0 s8 fun _ s9 =>
 I.wop (.load 79 (.const v7_8)) 79 s9 fun v18_10 s10 =>
 veq v18_10 v18_10 = true ∧ I.wop (.fieldAddr 79 (.const v7_8) 1) 0 s10 fun v20_11 s11 =>
 I.wop (.load 38 (.const v20_11)) 38 s11 fun v21_12 s12 =>
 veq v21_12 v21_12 = true ∧ I.wop (.binOp .mul 3 (.const (.int .i64 4)) (.const a1) 3) 3 s12 fun v23_13 s13 =>
 I.wop (.convert 3 38 (.const v23_13)) 38 s13 fun v24_14 s14 =>
 s14 = s13 ∧ veq v24_14 v24_14 = true ∧ I.wop (.load 79 (.const v7_8)) 79 s14 fun v26_15 s15 =>
 veq v26_15 v26_15 = true ∧ I.wop (.load 39 (.const v5_0)) 39 s15 fun v27_16 s16 =>
 veq v27_16 v27_16 = true ∧ I.wop (.alloc 39) 0 s16 fun v9_17 s17 =>
 FreshOk s16 s17 ∧ I.call 70 [a0, v21_12, v24_14] s17 fun v25_18 s18 =>
 Keeps [(15, .blk s16.n), (9, .ptr v5_0), (8, .ptr v7_8), (0, .ptr v7_8)] s17 s18 ∧ I.call 71 [v26_15, v27_16] s18 fun v28_19 s19 =>
 Keeps [(15, .blk s16.n), (0, .ptr v7_8)] s18 s19 ∧ I.call 69 [v18_10, v25_18, v28_19] s19 fun v29_20 s20 =>
 Keeps [(15, .blk s16.n)] s19 s20 ∧ I.wop (.extract (.const v29_20) 0) 38 s20 fun _ s21 =>
 I.wop (.extract (.const v29_20) 1) 39 s21 fun v31_22 s22 =>
 I.wop (.store 39 (.const v9_17) (.const v31_22)) 0 s22 fun _ s23 =>
 s22.n ≤ s23.n ∧ I.wop (.load 39 (.const v9_17)) 39 s23 fun v32_24 s24 =>
 I.wop (.store 39 (.const v6_1) (.const v32_24)) 0 s24 fun _ s25 =>
 I.wop (.load 39 (.const v6_1)) 39 s25 fun v6_26 _ =>
 I.fin si K v6_26 s25)
theorem x54 (I : Prims) (a0 a1 a2 : Value) (si : St) (K : Value → St → Prop) : xbody I 33 k54 Tryd.f54 c54 [a0, a1, a2] si K = v54 I a0 a1 a2 si K := by kernel_rfl
theorem n54 [Memo] (ro : Nat) (a0 a1 a2 : Value) (si : St) (K : Value → St → Prop) : wbody P ro 33 Tryd.f54 c54 [a0, a1, a2] si K = v54 (prims P ro) a0 a1 a2 si K := xbody_eq 33 P ro (x54 _ a0 a1 a2 si K)
/- attestor/field.Inv -/
noncomputable def c55 : Code := bodyOf Tryd.f55
noncomputable def c55_11111000 : Code := subCode [1, 1, 1, 1, 1, 0, 0, 0] c55
def k55 : List (List Nat) := []
def k55_11111000 : List (List Nat) := []
theorem l55_11111000 : ltCode 52 c55_11111000 = true := by kernel_rfl
theorem m55_11111000 : notMap c55_11111000 = true := by kernel_rfl
theorem b55 : BodyOk P 52 2 55 Tryd.f55 c55 := ⟨Tryd.func55, by kernel_rfl, by kernel_rfl, by kernel_rfl, by kernel_rfl, by kernel_rfl⟩
def v55_11111000 (I : Prims) (rnd : Option Nat) (τ : Tau) (ds : List Deferred) (s : St) (Q : Ex → WK) : Prop :=
 I.wop (.binOp .neq 2 (.const (τ 7)) (.const (.int .i64 0)) 2) 4 s fun v28_0 s0 =>
 wdec v28_0
 (I.wop (.binOp .quo 2 (.const (τ 6)) (.const (τ 7)) 2) 2 s0 fun v31_1 s1 =>
 I.wop (.binOp .mul 2 (.const v31_1) (.const (τ 7)) 2) 2 s1 fun v36_2 s2 =>
 I.wop (.binOp .sub 2 (.const (τ 6)) (.const v36_2) 2) 2 s2 fun v37_3 s3 =>
 I.wop (.binOp .mul 2 (.const v31_1) (.const (τ 9)) 2) 2 s3 fun v42_4 s4 =>
 I.wop (.binOp .sub 2 (.const (τ 8)) (.const v42_4) 2) 2 s4 fun v43_5 s5 =>
 Q .normal (U τ [(9, v43_5), (8, (τ 9)), (43, v43_5), (42, v42_4), (41, (τ 9)), (40, v31_1), (39, (τ 8)), (38, (τ 9)), (7, v37_3), (6, (τ 7)), (37, v37_3), (36, v36_2), (35, (τ 7)), (34, v31_1), (33, (τ 6)), (32, (τ 7)), (10, v31_1), (31, v31_1), (30, (τ 7)), (29, (τ 6)), (28, (.bool true)), (28, v28_0), (27, (τ 7))]) ds s5)
 (Q (.exit 0) (U τ [(28, (.bool false)), (28, v28_0), (27, (τ 7))]) ds s0)
theorem x55_11111000 (I : Prims) (rnd : Option Nat) (τ : Tau) (ds : List Deferred) (s : St) (Q : Ex → WK) : xp I rnd 52 k55_11111000 c55_11111000 [] τ [] ds s (lift Q) = v55_11111000 I rnd τ ds s Q := by kernel_rfl
theorem n55_11111000 [Memo] (ro : Nat) (rnd : Option Nat) (τ : Tau) (ds : List Deferred) (s : St) (Q : Ex → WK) : wp P ro 52 rnd c55_11111000 τ ds s Q = v55_11111000 (prims P ro) rnd τ ds s Q := xp_wp rnd 52 P ro (x55_11111000 _ rnd τ ds s Q)
def v55 (I : Prims) (a0 a1 : Value) (si : St) (K : Value → St → Prop) : Prop :=
 I.call 47 [a0] (ent si) fun v12_0 s0 =>
 I.wop (.binOp .eql 38 (.const v12_0) (.const (.int .u64 0)) 38) 4 s0 fun v14_1 s1 =>
 wdec v14_1
 (I.fin si K (.int .u64 0) s1)
 (I.wop (.binOp .rem 38 (.const a1) (.const v12_0) 38) 38 s1 fun v18_2 s2 =>
 I.wop (.binOp .eql 38 (.const v18_2) (.const (.int .u64 0)) 38) 4 s2 fun v19_3 s3 =>
 wdec v19_3
 (I.fin si K (.int .u64 0) s3)
 (I.wop (.convert 38 2 (.const v12_0)) 2 s3 fun v22_4 s4 =>
 s4 = s3 ∧ I.wop (.binOp .rem 38 (.const a1) (.const v12_0) 38) 38 s4 fun v25_5 s5 =>
 I.wop (.convert 38 2 (.const v25_5)) 2 s5 fun v26_6 s6 =>
 s6 = s5 ∧ I.loop 52 none c55_11111000 (U undefT [(9, (.int .i64 1)), (8, (.int .i64 0)), (7, v26_6), (6, v22_4), (26, v26_6), (25, v25_5), (24, v12_0), (23, a1), (22, v22_4), (21, v12_0), (20, (.bool false)), (20, v19_3), (15, (.bool false)), (19, v19_3), (15, (.bool false)), (18, v18_2), (15, (.bool false)), (17, v12_0), (15, (.bool false)), (16, a1), (15, (.bool false)), (15, v14_1), (14, v14_1), (13, v12_0), (5, v12_0), (12, v12_0), (11, a0), (4, (.int .u64 0)), (0, a0), (1, a1)]) [] s6 (fun τ ds s => ((xleave I si Tryd.f55.results.toList K) .ret) τ [] ds s) [(0, fun τ7 ds7 s7 =>
 I.wop (.binOp .lss 2 (.const (τ7 8)) (.const (.int .i64 0)) 2) 4 s7 fun v45_8 s8 =>
 wdec v45_8
 (I.wop (.convert 38 2 (.const (τ7 5))) 2 s8 fun v48_9 s9 =>
 I.wop (.binOp .add 2 (.const (τ7 8)) (.const v48_9) 2) 2 s9 fun v49_10 s10 =>
 I.wop (.convert 2 38 (.const v49_10)) 38 s10 fun v51_11 s11 =>
 xdefers I ds7 s11 fun s12 =>
 I.fin si K v51_11 s12)
 (I.wop (.convert 2 38 (.const (τ7 8))) 38 s8 fun v51_13 s13 =>
 xdefers I ds7 s13 fun s14 =>
 I.fin si K v51_13 s14))]))
theorem x55 (I : Prims) (a0 a1 : Value) (si : St) (K : Value → St → Prop) : xbody I 52 k55 Tryd.f55 c55 [a0, a1] si K = v55 I a0 a1 si K := by kernel_rfl
theorem n55 [Memo] (ro : Nat) (a0 a1 : Value) (si : St) (K : Value → St → Prop) : wbody P ro 52 Tryd.f55 c55 [a0, a1] si K = v55 (prims P ro) a0 a1 si K := xbody_eq 52 P ro (x55 _ a0 a1 si K)
/- attestor/attestorref01.Sub -/
noncomputable def c56 : Code := bodyOf Tryd.f56
def k56 : List (List Nat) := []
theorem b56 : BodyOk P 25 3 56 Tryd.f56 c56 := ⟨Tryd.func56, by kernel_rfl, by kernel_rfl, by kernel_rfl, by kernel_rfl, by kernel_rfl⟩
def v56 (I : Prims) (a0 a1 a2 : Value) (si : St) (K : Value → St → Prop) : Prop :=
 I.call 39 [a0] (ent si) fun v8_0 s0 =>
 I.wop (.unOp .not 4 (.const v8_0)) 4 s0 fun v9_1 s1 =>
 wdec v9_1
 (I.fin si K (.int .u64 0) s1)
 (I.call 51 [a0] s1 fun v12_2 s2 =>
 I.wop (.binOp .rem 38 (.const a1) (.const v12_2) 38) 38 s2 fun v13_3 s3 =>
 I.call 51 [a0] s3 fun v15_4 s4 =>
 I.wop (.binOp .add 38 (.const v13_3) (.const v15_4) 38) 38 s4 fun v16_5 s5 =>
 I.call 51 [a0] s5 fun v19_6 s6 =>
 I.wop (.binOp .rem 38 (.const a2) (.const v19_6) 38) 38 s6 fun v20_7 s7 =>
 I.wop (.binOp .sub 38 (.const v16_5) (.const v20_7) 38) 38 s7 fun v21_8 s8 =>
 I.call 51 [a0] s8 fun v23_9 s9 =>
 I.wop (.binOp .rem 38 (.const v21_8) (.const v23_9) 38) 38 s9 fun v24_10 s10 =>
 I.fin si K v24_10 s10)
theorem x56 (I : Prims) (a0 a1 a2 : Value) (si : St) (K : Value → St → Prop) : xbody I 25 k56 Tryd.f56 c56 [a0, a1, a2] si K = v56 I a0 a1 a2 si K := by kernel_rfl
theorem n56 [Memo] (ro : Nat) (a0 a1 a2 : Value) (si : St) (K : Value → St → Prop) : wbody P ro 25 Tryd.f56 c56 [a0, a1, a2] si K = v56 (prims P ro) a0 a1 a2 si K := xbody_eq 25 P ro (x56 _ a0 a1 a2 si K)
/- attestor/attestorref01.Inv -/
noncomputable def c57 : Code := bodyOf Tryd.f57
def k57 : List (List Nat) := []
theorem b57 : BodyOk P 14 2 57 Tryd.f57 c57 := ⟨Tryd.func57, by kernel_rfl, by kernel_rfl, by kernel_rfl, by kernel_rfl, by kernel_rfl⟩
def v57 (I : Prims) (a0 a1 : Value) (si : St) (K : Value → St → Prop) : Prop :=
 I.call 39 [a0] (ent si) fun v6_0 s0 =>
 I.wop (.unOp .not 4 (.const v6_0)) 4 s0 fun v7_1 s1 =>
 wdec v7_1
 (I.fin si K (.int .u64 0) s1)
 (I.call 51 [a0] s1 fun v11_2 s2 =>
 I.wop (.binOp .sub 38 (.const v11_2) (.const (.int .u64 2)) 38) 38 s2 fun v12_3 s3 =>
 I.call 42 [a0, a1, v12_3] s3 fun v13_4 s4 =>
 I.fin si K v13_4 s4)
theorem x57 (I : Prims) (a0 a1 : Value) (si : St) (K : Value → St → Prop) : xbody I 14 k57 Tryd.f57 c57 [a0, a1] si K = v57 I a0 a1 si K := by kernel_rfl
theorem n57 [Memo] (ro : Nat) (a0 a1 : Value) (si : St) (K : Value → St → Prop) : wbody P ro 14 Tryd.f57 c57 [a0, a1] si K = v57 (prims P ro) a0 a1 si K := xbody_eq 14 P ro (x57 _ a0 a1 si K)
/- attestor/field.Valid -/
noncomputable def c58 : Code := bodyOf Tryd.f58
def k58 : List (List Nat) := []
theorem b58 : BodyOk P 9 1 58 Tryd.f58 c58 := ⟨Tryd.func58, by kernel_rfl, by kernel_rfl, by kernel_rfl, by kernel_rfl, by kernel_rfl⟩
def v58 (I : Prims) (a0 : Value) (si : St) (K : Value → St → Prop) : Prop :=
 I.wop (.binOp .geq 3 (.const a0) (.const (.int .i64 0)) 3) 4 (ent si) fun v4_0 s0 =>
 wdec v4_0
 (I.wop (.binOp .lss 3 (.const a0) (.const (.int .i64 4)) 3) 4 s0 fun v7_1 s1 =>
 I.fin si K v7_1 s1)
 (I.fin si K (.bool false) s0)
theorem x58 (I : Prims) (a0 : Value) (si : St) (K : Value → St → Prop) : xbody I 9 k58 Tryd.f58 c58 [a0] si K = v58 I a0 si K := by kernel_rfl
theorem n58 [Memo] (ro : Nat) (a0 : Value) (si : St) (K : Value → St → Prop) : wbody P ro 9 Tryd.f58 c58 [a0] si K = v58 (prims P ro) a0 si K := xbody_eq 9 P ro (x58 _ a0 si K)
/- slices.Repeat[[]int,int] -/
noncomputable def c59 : Code := bodyOf Tryd.f59
noncomputable def c59_11 : Code := subCode [1, 1] c59
noncomputable def c59_1111 : Code := subCode [1, 1, 1, 1] c59
noncomputable def c59_111111000 : Code := subCode [1, 1, 1, 1, 1, 1, 0, 0, 0] c59
def k59 : List (List Nat) := [[1, 1], [1, 1, 1, 1]]
def k59_111111000 : List (List Nat) := []
theorem l59_111111000 : ltCode 48 c59_111111000 = true := by kernel_rfl
theorem m59_111111000 : notMap c59_111111000 = true := by kernel_rfl
theorem b59 : BodyOk P 48 2 59 Tryd.f59 c59 := ⟨Tryd.func59, by kernel_rfl, by kernel_rfl, by kernel_rfl, by kernel_rfl, by kernel_rfl⟩
def v59_11 (I : Prims) (τ : Tau) (ds : List Deferred) (s : St) (Q : Ex → XK) : Prop :=
 I.wop (.call ⟨.builtin .len, ⟨[(.const (τ 0))]⟩, #[49]⟩) 3 s fun v14_0 s0 =>
 I.wop (.convert 3 84 (.const v14_0)) 84 s0 fun v15_1 s1 =>
 I.wop (.convert 3 84 (.const (τ 1))) 84 s1 fun v17_2 s2 =>
 I.call 72 [v15_1, v17_2] s2 fun v18_3 s3 =>
 I.wop (.extract (.const v18_3) 0) 84 s3 fun v19_4 s4 =>
 I.wop (.extract (.const v18_3) 1) 84 s4 fun v20_5 s5 =>
 I.wop (.binOp .gtr 84 (.const v19_4) (.const (.int .u64 0)) 84) 4 s5 fun v22_6 s6 =>
 wdec v22_6
 (I.wop (.makeInterface 9 (.const (.string (ByteArray.mk #[116, 104, 101, 32, 114, 101, 115, 117, 108, 116, 32, 111, 102, 32, 40, 108, 101, 110, 40, 120, 41, 32, 42, 32, 99, 111, 117, 110, 116, 41, 32, 111, 118, 101, 114, 102, 108, 111, 119, 115])))) 20 s6 fun v27_7 s7 =>
 I.wop (.panic (.tmp 27)) 0 s7 fun _ s8 =>
 I.hold (xp I none 48 k59 c59_1111 [1, 1, 1, 1] (U τ [(27, v27_7), (26, (.bool true)), (26, (.bool true)), (23, (.bool true)), (25, undef), (23, (.bool true)), (24, undef), (23, (.bool true)), (23, v22_6), (22, v22_6), (21, v19_4), (6, v20_5), (5, v19_4), (20, v20_5), (19, v19_4), (12, v18_3), (18, v18_3), (17, v17_2), (16, (τ 1)), (15, v15_1), (14, v14_0), (13, (τ 0))]) [] ds s8 Q))
 (I.wop (.binOp .gtr 84 (.const v20_5) (.const (.int .u64 9223372036854775807)) 84) 4 s6 fun v25_9 s9 =>
 wdec v25_9
 (I.wop (.makeInterface 9 (.const (.string (ByteArray.mk #[116, 104, 101, 32, 114, 101, 115, 117, 108, 116, 32, 111, 102, 32, 40, 108, 101, 110, 40, 120, 41, 32, 42, 32, 99, 111, 117, 110, 116, 41, 32, 111, 118, 101, 114, 102, 108, 111, 119, 115])))) 20 s9 fun v27_10 s10 =>
 I.wop (.panic (.tmp 27)) 0 s10 fun _ s11 =>
 I.hold (xp I none 48 k59 c59_1111 [1, 1, 1, 1] (U τ [(27, v27_10), (26, (.bool true)), (26, v25_9), (23, (.bool false)), (25, v25_9), (23, (.bool false)), (24, v20_5), (23, (.bool false)), (23, v22_6), (22, v22_6), (21, v19_4), (6, v20_5), (5, v19_4), (20, v20_5), (19, v19_4), (12, v18_3), (18, v18_3), (17, v17_2), (16, (τ 1)), (15, v15_1), (14, v14_0), (13, (τ 0))]) [] ds s11 Q))
 (I.hold (xp I none 48 k59 c59_1111 [1, 1, 1, 1] (U τ [(26, (.bool false)), (26, v25_9), (23, (.bool false)), (25, v25_9), (23, (.bool false)), (24, v20_5), (23, (.bool false)), (23, v22_6), (22, v22_6), (21, v19_4), (6, v20_5), (5, v19_4), (20, v20_5), (19, v19_4), (12, v18_3), (18, v18_3), (17, v17_2), (16, (τ 1)), (15, v15_1), (14, v14_0), (13, (τ 0))]) [] ds s9 Q)))
theorem n59_11 (I : Prims) (τ : Tau) (ds : List Deferred) (s : St) (Q : Ex → XK) : xp I none 48 k59 c59_11 [1, 1] τ [] ds s Q = v59_11 I τ ds s Q := by kernel_rfl
def v59_1111 (I : Prims) (τ : Tau) (ds : List Deferred) (s : St) (Q : Ex → XK) : Prop :=
 I.wop (.convert 84 3 (.const (τ 6))) 3 s fun v29_0 s0 =>
 I.wop (.makeSlice 49 (.const v29_0) (.const v29_0)) 49 s0 fun v30_1 s1 =>
 I.wop (.call ⟨.builtin .copy, ⟨[(.const v30_1), (.const (τ 0))]⟩, #[49, 49]⟩) 3 s1 fun v33_2 s2 =>
 I.loop 48 none c59_111111000 (U τ [(8, v33_2), (33, v33_2), (32, (τ 0)), (31, v30_1), (7, v30_1), (30, v30_1), (29, v29_0), (28, (τ 6))]) ds s2 (fun τ ds s => (Q .ret) τ [] ds s) [(0, fun τ3 ds3 s3 =>
 Q .ret τ3 [(4, (τ3 7)), (47, (τ3 7))] ds3 s3)]
theorem n59_1111 (I : Prims) (τ : Tau) (ds : List Deferred) (s : St) (Q : Ex → XK) : xp I none 48 k59 c59_1111 [1, 1, 1, 1] τ [] ds s Q = v59_1111 I τ ds s Q := by kernel_rfl
def v59_111111000 (I : Prims) (rnd : Option Nat) (τ : Tau) (ds : List Deferred) (s : St) (Q : Ex → WK) : Prop :=
 I.wop (.call ⟨.builtin .len, ⟨[(.const (τ 7))]⟩, #[49]⟩) 3 s fun v36_0 s0 =>
 I.wop (.binOp .lss 3 (.const (τ 8)) (.const v36_0) 3) 4 s0 fun v37_1 s1 =>
 wdec v37_1
 (I.wop (.slice 49 (.const (τ 7)) (some (.const (τ 8))) none none) 49 s1 fun v41_2 s2 =>
 I.wop (.slice 49 (.const (τ 7)) none (some (.const (τ 8))) none) 49 s2 fun v44_3 s3 =>
 I.wop (.call ⟨.builtin .copy, ⟨[(.const v41_2), (.const v44_3)]⟩, #[49, 49]⟩) 3 s3 fun v45_4 s4 =>
 I.wop (.binOp .add 3 (.const (τ 8)) (.const v45_4) 3) 3 s4 fun v46_5 s5 =>
 Q .normal (U τ [(8, v46_5), (46, v46_5), (45, v45_4), (44, v44_3), (43, (τ 8)), (42, (τ 7)), (41, v41_2), (40, (τ 8)), (39, (τ 7)), (38, (τ 8)), (37, (.bool true)), (37, v37_1), (36, v36_0), (35, (τ 7)), (34, (τ 8))]) ds s5)
 (Q (.exit 0) (U τ [(37, (.bool false)), (37, v37_1), (36, v36_0), (35, (τ 7)), (34, (τ 8))]) ds s1)
theorem x59_111111000 (I : Prims) (rnd : Option Nat) (τ : Tau) (ds : List Deferred) (s : St) (Q : Ex → WK) : xp I rnd 48 k59_111111000 c59_111111000 [] τ [] ds s (lift Q) = v59_111111000 I rnd τ ds s Q := by kernel_rfl
theorem n59_111111000 [Memo] (ro : Nat) (rnd : Option Nat) (τ : Tau) (ds : List Deferred) (s : St) (Q : Ex → WK) : wp P ro 48 rnd c59_111111000 τ ds s Q = v59_111111000 (prims P ro) rnd τ ds s Q := xp_wp rnd 48 P ro (x59_111111000 _ rnd τ ds s Q)
def v59 (I : Prims) (a0 a1 : Value) (si : St) (K : Value → St → Prop) : Prop :=
 I.wop (.binOp .lss 3 (.const a1) (.const (.int .i64 0)) 3) 4 (ent si) fun v10_0 s0 =>
 wdec v10_0
 (I.wop (.makeInterface 9 (.const (.string (ByteArray.mk #[99, 97, 110, 110, 111, 116, 32, 98, 101, 32, 110, 101, 103, 97, 116, 105, 118, 101])))) 20 s0 fun v11_1 s1 =>
 I.wop (.panic (.tmp 11)) 0 s1 fun _ s2 =>
 I.hold (xp I none 48 k59 c59_11 [1, 1] (U undefT [(11, v11_1), (10, (.bool true)), (10, v10_0), (9, a1), (4, (.slice none 0 0)), (0, a0), (1, a1)]) [] [] s2 (xleave I si Tryd.f59.results.toList K)))
 (I.hold (xp I none 48 k59 c59_11 [1, 1] (U undefT [(10, (.bool false)), (10, v10_0), (9, a1), (4, (.slice none 0 0)), (0, a0), (1, a1)]) [] [] s0 (xleave I si Tryd.f59.results.toList K)))
theorem x59 (I : Prims) (a0 a1 : Value) (si : St) (K : Value → St → Prop) : xbody I 48 k59 Tryd.f59 c59 [a0, a1] si K = v59 I a0 a1 si K := by kernel_rfl
theorem n59 [Memo] (ro : Nat) (a0 a1 : Value) (si : St) (K : Value → St → Prop) : wbody P ro 48 Tryd.f59 c59 [a0, a1] si K = v59 (prims P ro) a0 a1 si K := xbody_eq 48 P ro (x59 _ a0 a1 si K)
theorem r59 (I : Prims) (si : St) (K : Value → St → Prop) (τ : Tau) (ds : List Deferred) (s : St) : xleave I si Tryd.f59.results.toList K .ret τ [] ds s =
 (xdefers I ds s fun s0 =>
 I.fin si K (τ 4) s0) := by kernel_rfl
/- attestor/gates.formed -/
noncomputable def c60 : Code := bodyOf Tryd.f60
noncomputable def c60_11001 : Code := subCode [1, 1, 0, 0, 1] c60
noncomputable def c60_111 : Code := subCode [1, 1, 1] c60
noncomputable def c60_1100111 : Code := subCode [1, 1, 0, 0, 1, 1, 1] c60
noncomputable def c60_1110100 : Code := subCode [1, 1, 1, 0, 1, 0, 0] c60
def k60 : List (List Nat) := [[1, 0, 0, 1, 1], [1, 1, 1, 0, 0, 1, 1]]
def k60_1110100 : List (List Nat) := []
theorem l60_1110100 : ltCode 80 c60_1110100 = true := by kernel_rfl
theorem m60_1110100 : notMap c60_1110100 = true := by kernel_rfl
theorem b60 : BodyOk P 80 2 60 Tryd.f60 c60 := ⟨Tryd.func60, by kernel_rfl, by kernel_rfl, by kernel_rfl, by kernel_rfl, by kernel_rfl⟩
def v60_11001 (I : Prims) (τ : Tau) (ds : List Deferred) (s : St) (Q : Ex → XK) : Prop :=
 wdec (τ 20)
 (Q .ret τ [(4, (.bool false)), (20, (.bool true))] ds s)
 (I.wop (.fieldAddr 43 (.const (τ 3)) 0) 0 s fun v31_0 s0 =>
 I.wop (.load 40 (.const v31_0)) 40 s0 fun v32_1 s1 =>
 I.wop (.binOp .neq 40 (.const v32_1) (.const (.int .u8 3)) 40) 4 s1 fun v33_2 s2 =>
 wdec v33_2
 (I.wop (.fieldAddr 43 (.const (τ 3)) 7) 0 s2 fun v35_3 s3 =>
 I.wop (.load 3 (.const v35_3)) 3 s3 fun v36_4 s4 =>
 I.wop (.binOp .neq 3 (.const v36_4) (.const (.int .i64 0)) 3) 4 s4 fun v37_5 s5 =>
 wdec v37_5
 (I.hold (xp I none 80 k60 c60_1100111 [1, 1, 1, 0, 0, 1, 1] (U τ [(30, (.bool true)), (30, v37_5), (38, v37_5), (34, (.bool true)), (37, v37_5), (34, (.bool true)), (36, v36_4), (34, (.bool true)), (35, v35_3), (34, (.bool true)), (34, v33_2), (33, v33_2), (32, v32_1), (31, v31_0), (20, (.bool false))]) [] ds s5 Q))
 (I.wop (.fieldAddr 24 (.const (τ 2)) 0) 0 s5 fun v41_6 s6 =>
 I.wop (.load 3 (.const v41_6)) 3 s6 fun v42_7 s7 =>
 veq v42_7 v42_7 = true ∧ I.call 46 [(τ 5)] s7 fun v40_8 s8 =>
 Keeps [(3, .ptr v41_6)] s7 s8 ∧ I.call 47 [v42_7] s8 fun v43_9 s9 =>
 I.wop (.binOp .geq 38 (.const v40_8) (.const v43_9) 38) 4 s9 fun v44_10 s10 =>
 I.hold (xp I none 80 k60 c60_1100111 [1, 1, 1, 0, 0, 1, 1] (U τ [(30, v44_10), (44, v44_10), (43, v43_9), (40, v40_8), (42, v42_7), (41, v41_6), (39, (τ 5)), (30, (.bool false)), (30, v37_5), (38, v37_5), (34, (.bool true)), (37, v37_5), (34, (.bool true)), (36, v36_4), (34, (.bool true)), (35, v35_3), (34, (.bool true)), (34, v33_2), (33, v33_2), (32, v32_1), (31, v31_0), (20, (.bool false))]) [] ds s10 Q)))
 (I.wop (.fieldAddr 24 (.const (τ 2)) 0) 0 s2 fun v41_11 s11 =>
 I.wop (.load 3 (.const v41_11)) 3 s11 fun v42_12 s12 =>
 veq v42_12 v42_12 = true ∧ I.call 46 [(τ 5)] s12 fun v40_13 s13 =>
 Keeps [(3, .ptr v41_11)] s12 s13 ∧ I.call 47 [v42_12] s13 fun v43_14 s14 =>
 I.wop (.binOp .geq 38 (.const v40_13) (.const v43_14) 38) 4 s14 fun v44_15 s15 =>
 I.hold (xp I none 80 k60 c60_1100111 [1, 1, 1, 0, 0, 1, 1] (U τ [(30, v44_15), (44, v44_15), (43, v43_14), (40, v40_13), (42, v42_12), (41, v41_11), (39, (τ 5)), (30, (.bool false)), (30, (.bool false)), (38, (.bool false)), (34, (.bool false)), (37, undef), (34, (.bool false)), (36, undef), (34, (.bool false)), (35, undef), (34, (.bool false)), (34, v33_2), (33, v33_2), (32, v32_1), (31, v31_0), (20, (.bool false))]) [] ds s15 Q)))
theorem n60_11001 (I : Prims) (τ : Tau) (ds : List Deferred) (s : St) (Q : Ex → XK) : xp I none 80 k60 c60_11001 [1, 0, 0, 1, 1] τ [] ds s Q = v60_11001 I τ ds s Q := by kernel_rfl
def v60_111 (I : Prims) (τ : Tau) (ds : List Deferred) (s : St) (Q : Ex → XK) : Prop :=
 I.wop (.load 43 (.const (τ 3))) 43 s fun v54_0 s0 =>
 I.call 63 [v54_0] s0 fun v55_1 s1 =>
 I.loop 80 none c60_1110100 (U τ [(56, (.int .i64 0)), (55, v55_1), (54, v54_0)]) ds s1 (fun τ ds s => (Q .ret) τ [] ds s) [(1, fun τ2 ds2 s2 =>
 Q .ret τ2 [(4, (.bool true))] ds2 s2)]
theorem n60_111 (I : Prims) (τ : Tau) (ds : List Deferred) (s : St) (Q : Ex → XK) : xp I none 80 k60 c60_111 [1, 1, 1] τ [] ds s Q = v60_111 I τ ds s Q := by kernel_rfl
def v60_1100111 (I : Prims) (τ : Tau) (ds : List Deferred) (s : St) (Q : Ex → XK) : Prop :=
 wdec (τ 30)
 (Q .ret τ [(4, (.bool false)), (30, (.bool true))] ds s)
 (I.wop (.fieldAddr 43 (.const (τ 3)) 0) 0 s fun v46_0 s0 =>
 I.wop (.load 40 (.const v46_0)) 40 s0 fun v47_1 s1 =>
 I.wop (.binOp .neq 40 (.const v47_1) (.const (.int .u8 1)) 40) 4 s1 fun v48_2 s2 =>
 wdec v48_2
 (I.call 46 [(τ 5)] s2 fun v51_3 s3 =>
 I.wop (.binOp .neq 38 (.const v51_3) (.const (.int .u64 0)) 38) 4 s3 fun v52_4 s4 =>
 wdec v52_4
 (Q .ret τ [(4, (.bool false)), (45, (.bool true)), (45, v52_4), (53, v52_4), (49, (.bool true)), (52, v52_4), (49, (.bool true)), (51, v51_3), (49, (.bool true)), (50, (τ 5)), (49, (.bool true)), (49, v48_2), (48, v48_2), (47, v47_1), (46, v46_0), (30, (.bool false))] ds s4)
 (Q .normal τ [(45, (.bool false)), (45, v52_4), (53, v52_4), (49, (.bool true)), (52, v52_4), (49, (.bool true)), (51, v51_3), (49, (.bool true)), (50, (τ 5)), (49, (.bool true)), (49, v48_2), (48, v48_2), (47, v47_1), (46, v46_0), (30, (.bool false))] ds s4))
 (Q .normal τ [(45, (.bool false)), (45, (.bool false)), (53, (.bool false)), (49, (.bool false)), (52, undef), (49, (.bool false)), (51, undef), (49, (.bool false)), (50, undef), (49, (.bool false)), (49, v48_2), (48, v48_2), (47, v47_1), (46, v46_0), (30, (.bool false))] ds s2))
theorem n60_1100111 (I : Prims) (τ : Tau) (ds : List Deferred) (s : St) (Q : Ex → XK) : xp I none 80 k60 c60_1100111 [1, 1, 1, 0, 0, 1, 1] τ [] ds s Q = v60_1100111 I τ ds s Q := by kernel_rfl
def v60_1110100 (I : Prims) (rnd : Option Nat) (τ : Tau) (ds : List Deferred) (s : St) (Q : Ex → WK) : Prop :=
 I.wop (.binOp .lss 3 (.const (τ 56)) (.const (.int .i64 4)) 3) 0 s fun v57_0 s0 =>
 wdec v57_0
 (I.wop (.index 70 (.const (τ 55)) (.const (τ 56))) 4 s0 fun v59_1 s1 =>
 I.wop (.fieldAddr 43 (.const (τ 3)) 1) 0 s1 fun v61_2 s2 =>
 I.wop (.indexAddr 41 (.const v61_2) (.const (τ 56))) 0 s2 fun v62_3 s3 =>
 I.wop (.load 3 (.const v62_3)) 3 s3 fun v63_4 s4 =>
 I.wop (.binOp .lss 3 (.const v63_4) (.const (.int .i64 (-1))) 3) 4 s4 fun v65_5 s5 =>
 wdec v65_5
 (Q .ret (U τ [(4, (.bool false)), (78, (.bool true)), (78, (.bool true)), (72, (.bool true)), (77, undef), (72, (.bool true)), (76, undef), (75, undef), (74, undef), (72, (.bool true)), (73, undef), (72, (.bool true)), (72, (.bool true)), (71, (.bool true)), (66, (.bool true)), (70, undef), (66, (.bool true)), (69, undef), (66, (.bool true)), (68, undef), (66, (.bool true)), (67, undef), (66, (.bool true)), (66, v65_5), (65, v65_5), (64, v63_4), (8, v63_4), (63, v63_4), (62, v62_3), (61, v61_2), (60, (τ 56)), (7, v59_1), (6, (τ 56)), (59, v59_1), (58, (τ 56)), (57, (.bool true)), (57, v57_0)]) ds s5)
 (I.wop (.fieldAddr 24 (.const (τ 2)) 1) 0 s5 fun v68_6 s6 =>
 I.wop (.load 3 (.const v68_6)) 3 s6 fun v69_7 s7 =>
 I.wop (.binOp .geq 3 (.const v63_4) (.const v69_7) 3) 4 s7 fun v70_8 s8 =>
 wdec v70_8
 (Q .ret (U τ [(4, (.bool false)), (78, (.bool true)), (78, (.bool true)), (72, (.bool true)), (77, undef), (72, (.bool true)), (76, undef), (75, undef), (74, undef), (72, (.bool true)), (73, undef), (72, (.bool true)), (72, v70_8), (71, v70_8), (66, (.bool false)), (70, v70_8), (66, (.bool false)), (69, v69_7), (66, (.bool false)), (68, v68_6), (66, (.bool false)), (67, v63_4), (66, (.bool false)), (66, v65_5), (65, v65_5), (64, v63_4), (8, v63_4), (63, v63_4), (62, v62_3), (61, v61_2), (60, (τ 56)), (7, v59_1), (6, (τ 56)), (59, v59_1), (58, (τ 56)), (57, (.bool true)), (57, v57_0)]) ds s8)
 (wdec v59_1
 (I.wop (.binOp .lss 3 (.const v63_4) (.const (.int .i64 0)) 3) 4 s8 fun v76_9 s9 =>
 wdec v76_9
 (Q .ret (U τ [(4, (.bool false)), (78, (.bool true)), (78, v76_9), (72, (.bool false)), (77, v76_9), (74, (.bool true)), (72, (.bool false)), (76, v76_9), (74, (.bool true)), (75, v63_4), (74, (.bool true)), (74, v59_1), (72, (.bool false)), (73, v59_1), (72, (.bool false)), (72, v70_8), (71, v70_8), (66, (.bool false)), (70, v70_8), (66, (.bool false)), (69, v69_7), (66, (.bool false)), (68, v68_6), (66, (.bool false)), (67, v63_4), (66, (.bool false)), (66, v65_5), (65, v65_5), (64, v63_4), (8, v63_4), (63, v63_4), (62, v62_3), (61, v61_2), (60, (τ 56)), (7, v59_1), (6, (τ 56)), (59, v59_1), (58, (τ 56)), (57, (.bool true)), (57, v57_0)]) ds s9)
 (I.wop (.binOp .add 3 (.const (τ 56)) (.const (.int .i64 1)) 3) 3 s9 fun v79_10 s10 =>
 Q .normal (U τ [(56, v79_10), (79, v79_10), (78, (.bool false)), (78, v76_9), (72, (.bool false)), (77, v76_9), (74, (.bool true)), (72, (.bool false)), (76, v76_9), (74, (.bool true)), (75, v63_4), (74, (.bool true)), (74, v59_1), (72, (.bool false)), (73, v59_1), (72, (.bool false)), (72, v70_8), (71, v70_8), (66, (.bool false)), (70, v70_8), (66, (.bool false)), (69, v69_7), (66, (.bool false)), (68, v68_6), (66, (.bool false)), (67, v63_4), (66, (.bool false)), (66, v65_5), (65, v65_5), (64, v63_4), (8, v63_4), (63, v63_4), (62, v62_3), (61, v61_2), (60, (τ 56)), (7, v59_1), (6, (τ 56)), (59, v59_1), (58, (τ 56)), (57, (.bool true)), (57, v57_0)]) ds s10))
 (I.wop (.binOp .add 3 (.const (τ 56)) (.const (.int .i64 1)) 3) 3 s8 fun v79_11 s11 =>
 Q .normal (U τ [(56, v79_11), (79, v79_11), (78, (.bool false)), (78, (.bool false)), (72, (.bool false)), (77, (.bool false)), (74, (.bool false)), (72, (.bool false)), (76, undef), (74, (.bool false)), (75, undef), (74, (.bool false)), (74, v59_1), (72, (.bool false)), (73, v59_1), (72, (.bool false)), (72, v70_8), (71, v70_8), (66, (.bool false)), (70, v70_8), (66, (.bool false)), (69, v69_7), (66, (.bool false)), (68, v68_6), (66, (.bool false)), (67, v63_4), (66, (.bool false)), (66, v65_5), (65, v65_5), (64, v63_4), (8, v63_4), (63, v63_4), (62, v62_3), (61, v61_2), (60, (τ 56)), (7, v59_1), (6, (τ 56)), (59, v59_1), (58, (τ 56)), (57, (.bool true)), (57, v57_0)]) ds s11))))
 (Q (.exit 1) (U τ [(57, (.bool false)), (57, v57_0)]) ds s0)
theorem x60_1110100 (I : Prims) (rnd : Option Nat) (τ : Tau) (ds : List Deferred) (s : St) (Q : Ex → WK) : xp I rnd 80 k60_1110100 c60_1110100 [] τ [] ds s (lift Q) = v60_1110100 I rnd τ ds s Q := by kernel_rfl
theorem n60_1110100 [Memo] (ro : Nat) (rnd : Option Nat) (τ : Tau) (ds : List Deferred) (s : St) (Q : Ex → WK) : wp P ro 80 rnd c60_1110100 τ ds s Q = v60_1110100 (prims P ro) rnd τ ds s Q := xp_wp rnd 80 P ro (x60_1110100 _ rnd τ ds s Q)
def v60 (I : Prims) (a0 a1 : Value) (si : St) (K : Value → St → Prop) : Prop :=
 I.wop (.box 24 (.const a0)) 0 (ent si) fun v2_0 s0 =>
 I.wop (.box 43 (.const a1)) 0 s0 fun v3_1 s1 =>
 I.wop (.fieldAddr 43 (.const v3_1) 2) 0 s1 fun v9_2 s2 =>
 I.wop (.load 38 (.const v9_2)) 38 s2 fun v10_3 s3 =>
 I.wop (.fieldAddr 43 (.const v3_1) 3) 0 s3 fun v11_4 s4 =>
 I.wop (.load 38 (.const v11_4)) 38 s4 fun v12_5 s5 =>
 I.wop (.fieldAddr 43 (.const v3_1) 4) 0 s5 fun v13_6 s6 =>
 I.wop (.load 38 (.const v13_6)) 38 s6 fun v14_7 s7 =>
 I.wop (.fieldAddr 43 (.const v3_1) 5) 0 s7 fun v15_8 s8 =>
 I.wop (.load 38 (.const v15_8)) 38 s8 fun v16_9 s9 =>
 I.wop (.fieldAddr 43 (.const v3_1) 6) 0 s9 fun v17_10 s10 =>
 I.wop (.load 38 (.const v17_10)) 38 s10 fun v18_11 s11 =>
 I.wop (.buildSlice 25 5 ⟨[(0, (.const v10_3)), (1, (.const v12_5)), (2, (.const v14_7)), (3, (.const v16_9)), (4, (.const v18_11))]⟩) 25 s11 fun v19_12 s12 =>
 I.wop (.fieldAddr 43 (.const v3_1) 0) 0 s12 fun v21_13 s13 =>
 I.wop (.load 40 (.const v21_13)) 40 s13 fun v22_14 s14 =>
 I.wop (.binOp .gtr 40 (.const v22_14) (.const (.int .u8 3)) 40) 4 s14 fun v23_15 s15 =>
 wdec v23_15
 (I.hold (xp I none 80 k60 c60_11001 [1, 0, 0, 1, 1] (U undefT [(20, (.bool true)), (20, v23_15), (23, v23_15), (22, v22_14), (21, v21_13), (5, v19_12), (19, v19_12), (18, v18_11), (17, v17_10), (16, v16_9), (15, v15_8), (14, v14_7), (13, v13_6), (12, v12_5), (11, v11_4), (10, v10_3), (9, v9_2), (4, (.bool false)), (3, v3_1), (2, v2_0), (0, a0), (1, a1)]) [] [] s15 (blkX 0 (sX I none 80 k60 c60_111 [1, 1, 1] (xleave I si Tryd.f60.results.toList K)))))
 (I.wop (.fieldAddr 43 (.const v3_1) 7) 0 s15 fun v24_16 s16 =>
 I.wop (.load 3 (.const v24_16)) 3 s16 fun v25_17 s17 =>
 I.wop (.binOp .lss 3 (.const v25_17) (.const (.int .i64 0)) 3) 4 s17 fun v26_18 s18 =>
 wdec v26_18
 (I.hold (xp I none 80 k60 c60_11001 [1, 0, 0, 1, 1] (U undefT [(20, (.bool true)), (20, v26_18), (26, v26_18), (25, v25_17), (24, v24_16), (20, (.bool false)), (20, v23_15), (23, v23_15), (22, v22_14), (21, v21_13), (5, v19_12), (19, v19_12), (18, v18_11), (17, v17_10), (16, v16_9), (15, v15_8), (14, v14_7), (13, v13_6), (12, v12_5), (11, v11_4), (10, v10_3), (9, v9_2), (4, (.bool false)), (3, v3_1), (2, v2_0), (0, a0), (1, a1)]) [] [] s18 (blkX 0 (sX I none 80 k60 c60_111 [1, 1, 1] (xleave I si Tryd.f60.results.toList K)))))
 (I.wop (.fieldAddr 43 (.const v3_1) 7) 0 s18 fun v27_19 s19 =>
 I.wop (.load 3 (.const v27_19)) 3 s19 fun v28_20 s20 =>
 I.wop (.binOp .geq 3 (.const v28_20) (.const (.int .i64 8)) 3) 4 s20 fun v29_21 s21 =>
 I.hold (xp I none 80 k60 c60_11001 [1, 0, 0, 1, 1] (U undefT [(20, v29_21), (29, v29_21), (28, v28_20), (27, v27_19), (20, (.bool false)), (20, v26_18), (26, v26_18), (25, v25_17), (24, v24_16), (20, (.bool false)), (20, v23_15), (23, v23_15), (22, v22_14), (21, v21_13), (5, v19_12), (19, v19_12), (18, v18_11), (17, v17_10), (16, v16_9), (15, v15_8), (14, v14_7), (13, v13_6), (12, v12_5), (11, v11_4), (10, v10_3), (9, v9_2), (4, (.bool false)), (3, v3_1), (2, v2_0), (0, a0), (1, a1)]) [] [] s21 (blkX 0 (sX I none 80 k60 c60_111 [1, 1, 1] (xleave I si Tryd.f60.results.toList K))))))
theorem x60 (I : Prims) (a0 a1 : Value) (si : St) (K : Value → St → Prop) : xbody I 80 k60 Tryd.f60 c60 [a0, a1] si K = v60 I a0 a1 si K := by kernel_rfl
theorem n60 [Memo] (ro : Nat) (a0 a1 : Value) (si : St) (K : Value → St → Prop) : wbody P ro 80 Tryd.f60 c60 [a0, a1] si K = v60 (prims P ro) a0 a1 si K := xbody_eq 80 P ro (x60 _ a0 a1 si K)
theorem r60 (I : Prims) (si : St) (K : Value → St → Prop) (τ : Tau) (ds : List Deferred) (s : St) : xleave I si Tryd.f60.results.toList K .ret τ [] ds s =
 (xdefers I ds s fun s0 =>
 I.fin si K (τ 4) s0) := by kernel_rfl
/- slices.Min[[]int,int] -/
noncomputable def c61 : Code := bodyOf Tryd.f61
noncomputable def c61_11 : Code := subCode [1, 1] c61
noncomputable def c61_1110100 : Code := subCode [1, 1, 1, 0, 1, 0, 0] c61
def k61 : List (List Nat) := [[1, 1]]
def k61_1110100 : List (List Nat) := []
theorem l61_1110100 : ltCode 25 c61_1110100 = true := by kernel_rfl
theorem m61_1110100 : notMap c61_1110100 = true := by kernel_rfl
theorem b61 : BodyOk P 25 1 61 Tryd.f61 c61 := ⟨Tryd.func61, by kernel_rfl, by kernel_rfl, by kernel_rfl, by kernel_rfl, by kernel_rfl⟩
def v61_11 (I : Prims) (τ : Tau) (ds : List Deferred) (s : St) (Q : Ex → XK) : Prop :=
 I.wop (.indexAddr 49 (.const (τ 0)) (.const (.int .i64 0))) 0 s fun v10_0 s0 =>
 I.wop (.load 3 (.const v10_0)) 3 s0 fun v11_1 s1 =>
 I.loop 25 none c61_1110100 (U τ [(4, (.int .i64 1)), (3, v11_1), (11, v11_1), (10, v10_0), (9, (τ 0))]) ds s1 (fun τ ds s => (Q .ret) τ [] ds s) [(0, fun τ2 ds2 s2 =>
 Q .ret τ2 [(2, (τ2 3)), (24, (τ2 3))] ds2 s2)]
theorem n61_11 (I : Prims) (τ : Tau) (ds : List Deferred) (s : St) (Q : Ex → XK) : xp I none 25 k61 c61_11 [1, 1] τ [] ds s Q = v61_11 I τ ds s Q := by kernel_rfl
def v61_1110100 (I : Prims) (rnd : Option Nat) (τ : Tau) (ds : List Deferred) (s : St) (Q : Ex → WK) : Prop :=
 I.wop (.call ⟨.builtin .len, ⟨[(.const (τ 0))]⟩, #[49]⟩) 3 s fun v14_0 s0 =>
 I.wop (.binOp .lss 3 (.const (τ 4)) (.const v14_0) 3) 4 s0 fun v15_1 s1 =>
 wdec v15_1
 (I.wop (.indexAddr 49 (.const (τ 0)) (.const (τ 4))) 0 s1 fun v21_2 s2 =>
 I.wop (.load 3 (.const v21_2)) 3 s2 fun v22_3 s3 =>
 I.wop (.call ⟨.builtin .min, ⟨[(.const (τ 3)), (.const v22_3)]⟩, #[3, 3]⟩) 3 s3 fun v23_4 s4 =>
 I.wop (.binOp .add 3 (.const (τ 4)) (.const (.int .i64 1)) 3) 3 s4 fun v17_5 s5 =>
 Q .normal (U τ [(4, v17_5), (17, v17_5), (16, (τ 4)), (3, v23_4), (23, v23_4), (22, v22_3), (21, v21_2), (20, (τ 4)), (19, (τ 0)), (18, (τ 3)), (15, (.bool true)), (15, v15_1), (14, v14_0), (13, (τ 0)), (12, (τ 4))]) ds s5)
 (Q (.exit 0) (U τ [(15, (.bool false)), (15, v15_1), (14, v14_0), (13, (τ 0)), (12, (τ 4))]) ds s1)
theorem x61_1110100 (I : Prims) (rnd : Option Nat) (τ : Tau) (ds : List Deferred) (s : St) (Q : Ex → WK) : xp I rnd 25 k61_1110100 c61_1110100 [] τ [] ds s (lift Q) = v61_1110100 I rnd τ ds s Q := by kernel_rfl
theorem n61_1110100 [Memo] (ro : Nat) (rnd : Option Nat) (τ : Tau) (ds : List Deferred) (s : St) (Q : Ex → WK) : wp P ro 25 rnd c61_1110100 τ ds s Q = v61_1110100 (prims P ro) rnd τ ds s Q := xp_wp rnd 25 P ro (x61_1110100 _ rnd τ ds s Q)
def v61 (I : Prims) (a0 : Value) (si : St) (K : Value → St → Prop) : Prop :=
 I.wop (.call ⟨.builtin .len, ⟨[(.const a0)]⟩, #[49]⟩) 3 (ent si) fun v6_0 s0 =>
 I.wop (.binOp .lss 3 (.const v6_0) (.const (.int .i64 1)) 3) 4 s0 fun v7_1 s1 =>
 wdec v7_1
 (I.wop (.makeInterface 9 (.const (.string (ByteArray.mk #[115, 108, 105, 99, 101, 115, 46, 77, 105, 110, 58, 32, 101, 109, 112, 116, 121, 32, 108, 105, 115, 116])))) 20 s1 fun v8_2 s2 =>
 I.wop (.panic (.tmp 8)) 0 s2 fun _ s3 =>
 I.hold (xp I none 25 k61 c61_11 [1, 1] (U undefT [(8, v8_2), (7, (.bool true)), (7, v7_1), (6, v6_0), (5, a0), (2, (.int .i64 0)), (0, a0)]) [] [] s3 (xleave I si Tryd.f61.results.toList K)))
 (I.hold (xp I none 25 k61 c61_11 [1, 1] (U undefT [(7, (.bool false)), (7, v7_1), (6, v6_0), (5, a0), (2, (.int .i64 0)), (0, a0)]) [] [] s1 (xleave I si Tryd.f61.results.toList K)))
theorem x61 (I : Prims) (a0 : Value) (si : St) (K : Value → St → Prop) : xbody I 25 k61 Tryd.f61 c61 [a0] si K = v61 I a0 si K := by kernel_rfl
theorem n61 [Memo] (ro : Nat) (a0 : Value) (si : St) (K : Value → St → Prop) : wbody P ro 25 Tryd.f61 c61 [a0] si K = v61 (prims P ro) a0 si K := xbody_eq 25 P ro (x61 _ a0 si K)
theorem r61 (I : Prims) (si : St) (K : Value → St → Prop) (τ : Tau) (ds : List Deferred) (s : St) : xleave I si Tryd.f61.results.toList K .ret τ [] ds s =
 (xdefers I ds s fun s0 =>
 I.fin si K (τ 2) s0) := by kernel_rfl
/- slices.Max[[]int,int] -/
noncomputable def c62 : Code := bodyOf Tryd.f62
noncomputable def c62_11 : Code := subCode [1, 1] c62
noncomputable def c62_1110100 : Code := subCode [1, 1, 1, 0, 1, 0, 0] c62
def k62 : List (List Nat) := [[1, 1]]
def k62_1110100 : List (List Nat) := []
theorem l62_1110100 : ltCode 25 c62_1110100 = true := by kernel_rfl
theorem m62_1110100 : notMap c62_1110100 = true := by kernel_rfl
theorem b62 : BodyOk P 25 1 62 Tryd.f62 c62 := ⟨Tryd.func62, by kernel_rfl, by kernel_rfl, by kernel_rfl, by kernel_rfl, by kernel_rfl⟩
def v62_11 (I : Prims) (τ : Tau) (ds : List Deferred) (s : St) (Q : Ex → XK) : Prop :=
 I.wop (.indexAddr 49 (.const (τ 0)) (.const (.int .i64 0))) 0 s fun v10_0 s0 =>
 I.wop (.load 3 (.const v10_0)) 3 s0 fun v11_1 s1 =>
 I.loop 25 none c62_1110100 (U τ [(4, (.int .i64 1)), (3, v11_1), (11, v11_1), (10, v10_0), (9, (τ 0))]) ds s1 (fun τ ds s => (Q .ret) τ [] ds s) [(0, fun τ2 ds2 s2 =>
 Q .ret τ2 [(2, (τ2 3)), (24, (τ2 3))] ds2 s2)]
theorem n62_11 (I : Prims) (τ : Tau) (ds : List Deferred) (s : St) (Q : Ex → XK) : xp I none 25 k62 c62_11 [1, 1] τ [] ds s Q = v62_11 I τ ds s Q := by kernel_rfl
def v62_1110100 (I : Prims) (rnd : Option Nat) (τ : Tau) (ds : List Deferred) (s : St) (Q : Ex → WK) : Prop :=
 I.wop (.call ⟨.builtin .len, ⟨[(.const (τ 0))]⟩, #[49]⟩) 3 s fun v14_0 s0 =>
 I.wop (.binOp .lss 3 (.const (τ 4)) (.const v14_0) 3) 4 s0 fun v15_1 s1 =>
 wdec v15_1
 (I.wop (.indexAddr 49 (.const (τ 0)) (.const (τ 4))) 0 s1 fun v21_2 s2 =>
 I.wop (.load 3 (.const v21_2)) 3 s2 fun v22_3 s3 =>
 I.wop (.call ⟨.builtin .max, ⟨[(.const (τ 3)), (.const v22_3)]⟩, #[3, 3]⟩) 3 s3 fun v23_4 s4 =>
 I.wop (.binOp .add 3 (.const (τ 4)) (.const (.int .i64 1)) 3) 3 s4 fun v17_5 s5 =>
 Q .normal (U τ [(4, v17_5), (17, v17_5), (16, (τ 4)), (3, v23_4), (23, v23_4), (22, v22_3), (21, v21_2), (20, (τ 4)), (19, (τ 0)), (18, (τ 3)), (15, (.bool true)), (15, v15_1), (14, v14_0), (13, (τ 0)), (12, (τ 4))]) ds s5)
 (Q (.exit 0) (U τ [(15, (.bool false)), (15, v15_1), (14, v14_0), (13, (τ 0)), (12, (τ 4))]) ds s1)
theorem x62_1110100 (I : Prims) (rnd : Option Nat) (τ : Tau) (ds : List Deferred) (s : St) (Q : Ex → WK) : xp I rnd 25 k62_1110100 c62_1110100 [] τ [] ds s (lift Q) = v62_1110100 I rnd τ ds s Q := by kernel_rfl
theorem n62_1110100 [Memo] (ro : Nat) (rnd : Option Nat) (τ : Tau) (ds : List Deferred) (s : St) (Q : Ex → WK) : wp P ro 25 rnd c62_1110100 τ ds s Q = v62_1110100 (prims P ro) rnd τ ds s Q := xp_wp rnd 25 P ro (x62_1110100 _ rnd τ ds s Q)
def v62 (I : Prims) (a0 : Value) (si : St) (K : Value → St → Prop) : Prop :=
 I.wop (.call ⟨.builtin .len, ⟨[(.const a0)]⟩, #[49]⟩) 3 (ent si) fun v6_0 s0 =>
 I.wop (.binOp .lss 3 (.const v6_0) (.const (.int .i64 1)) 3) 4 s0 fun v7_1 s1 =>
 wdec v7_1
 (I.wop (.makeInterface 9 (.const (.string (ByteArray.mk #[115, 108, 105, 99, 101, 115, 46, 77, 97, 120, 58, 32, 101, 109, 112, 116, 121, 32, 108, 105, 115, 116])))) 20 s1 fun v8_2 s2 =>
 I.wop (.panic (.tmp 8)) 0 s2 fun _ s3 =>
 I.hold (xp I none 25 k62 c62_11 [1, 1] (U undefT [(8, v8_2), (7, (.bool true)), (7, v7_1), (6, v6_0), (5, a0), (2, (.int .i64 0)), (0, a0)]) [] [] s3 (xleave I si Tryd.f62.results.toList K)))
 (I.hold (xp I none 25 k62 c62_11 [1, 1] (U undefT [(7, (.bool false)), (7, v7_1), (6, v6_0), (5, a0), (2, (.int .i64 0)), (0, a0)]) [] [] s1 (xleave I si Tryd.f62.results.toList K)))
theorem x62 (I : Prims) (a0 : Value) (si : St) (K : Value → St → Prop) : xbody I 25 k62 Tryd.f62 c62 [a0] si K = v62 I a0 si K := by kernel_rfl
theorem n62 [Memo] (ro : Nat) (a0 : Value) (si : St) (K : Value → St → Prop) : wbody P ro 25 Tryd.f62 c62 [a0] si K = v62 (prims P ro) a0 si K := xbody_eq 25 P ro (x62 _ a0 si K)
theorem r62 (I : Prims) (si : St) (K : Value → St → Prop) (τ : Tau) (ds : List Deferred) (s : St) : xleave I si Tryd.f62.results.toList K .ret τ [] ds s =
 (xdefers I ds s fun s0 =>
 I.fin si K (τ 2) s0) := by kernel_rfl
/- attestor/gates.reads -/
noncomputable def c63 : Code := bodyOf Tryd.f63
def k63 : List (List Nat) := []
theorem b63 : BodyOk P 36 1 63 Tryd.f63 c63 := ⟨Tryd.func63, by kernel_rfl, by kernel_rfl, by kernel_rfl, by kernel_rfl, by kernel_rfl⟩
def v63 (I : Prims) (a0 : Value) (si : St) (K : Value → St → Prop) : Prop :=
 I.wop (.box 43 (.const a0)) 0 (ent si) fun v1_0 s0 =>
 I.wop (.alloc 70) 0 s0 fun v2_1 s1 =>
 I.wop (.fieldAddr 43 (.const v1_0) 0) 0 s1 fun v3_2 s2 =>
 I.wop (.load 40 (.const v3_2)) 40 s2 fun v4_3 s3 =>
 I.wop (.binOp .eql 40 (.const v4_3) (.const (.int .u8 1)) 40) 4 s3 fun v6_4 s4 =>
 wdec v6_4
 (I.wop (.fieldAddr 43 (.const v1_0) 2) 0 s4 fun v11_5 s5 =>
 I.wop (.load 38 (.const v11_5)) 38 s5 fun v12_6 s6 =>
 I.wop (.binOp .neq 38 (.const v12_6) (.const (.int .u64 0)) 38) 4 s6 fun v13_7 s7 =>
 wdec v13_7
 (I.wop (.fieldAddr 43 (.const v1_0) 3) 0 s7 fun v19_8 s8 =>
 I.wop (.load 38 (.const v19_8)) 38 s8 fun v20_9 s9 =>
 I.wop (.binOp .neq 38 (.const v20_9) (.const (.int .u64 0)) 38) 4 s9 fun v21_10 s10 =>
 wdec v21_10
 (I.wop (.fieldAddr 43 (.const v1_0) 5) 0 s10 fun v27_11 s11 =>
 I.wop (.load 38 (.const v27_11)) 38 s11 fun v28_12 s12 =>
 I.wop (.binOp .neq 38 (.const v28_12) (.const (.int .u64 0)) 38) 4 s12 fun v29_13 s13 =>
 I.wop (.build 70 ⟨[(0, (.const (.bool true))), (1, (.const (.bool true))), (2, (.const v29_13)), (3, (.const (.bool false)))]⟩) 70 s13 fun v30_14 s14 =>
 I.wop (.store 70 (.const v2_1) (.const v30_14)) 0 s14 fun _ s15 =>
 I.wop (.load 70 (.const v2_1)) 70 s15 fun v2_16 _ =>
 I.fin si K v2_16 s15)
 (I.wop (.fieldAddr 43 (.const v1_0) 4) 0 s10 fun v23_17 s17 =>
 I.wop (.load 38 (.const v23_17)) 38 s17 fun v24_18 s18 =>
 I.wop (.binOp .neq 38 (.const v24_18) (.const (.int .u64 0)) 38) 4 s18 fun v25_19 s19 =>
 I.wop (.fieldAddr 43 (.const v1_0) 5) 0 s19 fun v27_20 s20 =>
 I.wop (.load 38 (.const v27_20)) 38 s20 fun v28_21 s21 =>
 I.wop (.binOp .neq 38 (.const v28_21) (.const (.int .u64 0)) 38) 4 s21 fun v29_22 s22 =>
 I.wop (.build 70 ⟨[(0, (.const (.bool true))), (1, (.const v25_19)), (2, (.const v29_22)), (3, (.const (.bool false)))]⟩) 70 s22 fun v30_23 s23 =>
 I.wop (.store 70 (.const v2_1) (.const v30_23)) 0 s23 fun _ s24 =>
 I.wop (.load 70 (.const v2_1)) 70 s24 fun v2_25 _ =>
 I.fin si K v2_25 s24))
 (I.wop (.fieldAddr 43 (.const v1_0) 4) 0 s7 fun v15_26 s26 =>
 I.wop (.load 38 (.const v15_26)) 38 s26 fun v16_27 s27 =>
 I.wop (.binOp .neq 38 (.const v16_27) (.const (.int .u64 0)) 38) 4 s27 fun v17_28 s28 =>
 I.wop (.fieldAddr 43 (.const v1_0) 3) 0 s28 fun v19_29 s29 =>
 I.wop (.load 38 (.const v19_29)) 38 s29 fun v20_30 s30 =>
 I.wop (.binOp .neq 38 (.const v20_30) (.const (.int .u64 0)) 38) 4 s30 fun v21_31 s31 =>
 wdec v21_31
 (I.wop (.fieldAddr 43 (.const v1_0) 5) 0 s31 fun v27_32 s32 =>
 I.wop (.load 38 (.const v27_32)) 38 s32 fun v28_33 s33 =>
 I.wop (.binOp .neq 38 (.const v28_33) (.const (.int .u64 0)) 38) 4 s33 fun v29_34 s34 =>
 I.wop (.build 70 ⟨[(0, (.const v17_28)), (1, (.const (.bool true))), (2, (.const v29_34)), (3, (.const (.bool false)))]⟩) 70 s34 fun v30_35 s35 =>
 I.wop (.store 70 (.const v2_1) (.const v30_35)) 0 s35 fun _ s36 =>
 I.wop (.load 70 (.const v2_1)) 70 s36 fun v2_37 _ =>
 I.fin si K v2_37 s36)
 (I.wop (.fieldAddr 43 (.const v1_0) 4) 0 s31 fun v23_38 s38 =>
 I.wop (.load 38 (.const v23_38)) 38 s38 fun v24_39 s39 =>
 I.wop (.binOp .neq 38 (.const v24_39) (.const (.int .u64 0)) 38) 4 s39 fun v25_40 s40 =>
 I.wop (.fieldAddr 43 (.const v1_0) 5) 0 s40 fun v27_41 s41 =>
 I.wop (.load 38 (.const v27_41)) 38 s41 fun v28_42 s42 =>
 I.wop (.binOp .neq 38 (.const v28_42) (.const (.int .u64 0)) 38) 4 s42 fun v29_43 s43 =>
 I.wop (.build 70 ⟨[(0, (.const v17_28)), (1, (.const v25_40)), (2, (.const v29_43)), (3, (.const (.bool false)))]⟩) 70 s43 fun v30_44 s44 =>
 I.wop (.store 70 (.const v2_1) (.const v30_44)) 0 s44 fun _ s45 =>
 I.wop (.load 70 (.const v2_1)) 70 s45 fun v2_46 _ =>
 I.fin si K v2_46 s45)))
 (I.wop (.binOp .eql 40 (.const v4_3) (.const (.int .u8 3)) 40) 4 s4 fun v8_47 s47 =>
 wdec v8_47
 (I.wop (.indexAddr 70 (.const v2_1) (.const (.int .i64 3))) 0 s47 fun v31_48 s48 =>
 I.wop (.store 4 (.const v31_48) (.const (.bool true))) 0 s48 fun _ s49 =>
 I.wop (.indexAddr 70 (.const v2_1) (.const (.int .i64 2))) 0 s49 fun v32_50 s50 =>
 I.wop (.store 4 (.const v32_50) (.const (.bool true))) 0 s50 fun _ s51 =>
 I.wop (.indexAddr 70 (.const v2_1) (.const (.int .i64 1))) 0 s51 fun v33_52 s52 =>
 I.wop (.store 4 (.const v33_52) (.const (.bool true))) 0 s52 fun _ s53 =>
 I.wop (.indexAddr 70 (.const v2_1) (.const (.int .i64 0))) 0 s53 fun v34_54 s54 =>
 I.wop (.store 4 (.const v34_54) (.const (.bool true))) 0 s54 fun _ s55 =>
 I.wop (.load 70 (.const v2_1)) 70 s55 fun v35_56 s56 =>
 I.wop (.store 70 (.const v2_1) (.const v35_56)) 0 s56 fun _ s57 =>
 I.wop (.load 70 (.const v2_1)) 70 s57 fun v2_58 _ =>
 I.fin si K v2_58 s57)
 (I.wop (.binOp .eql 40 (.const v4_3) (.const (.int .u8 2)) 40) 4 s47 fun v10_59 s59 =>
 wdec v10_59
 (I.wop (.indexAddr 70 (.const v2_1) (.const (.int .i64 0))) 0 s59 fun v34_60 s60 =>
 I.wop (.store 4 (.const v34_60) (.const (.bool true))) 0 s60 fun _ s61 =>
 I.wop (.load 70 (.const v2_1)) 70 s61 fun v35_62 s62 =>
 I.wop (.store 70 (.const v2_1) (.const v35_62)) 0 s62 fun _ s63 =>
 I.wop (.load 70 (.const v2_1)) 70 s63 fun v2_64 _ =>
 I.fin si K v2_64 s63)
 (I.wop (.load 70 (.const v2_1)) 70 s59 fun v35_65 s65 =>
 I.wop (.store 70 (.const v2_1) (.const v35_65)) 0 s65 fun _ s66 =>
 I.wop (.load 70 (.const v2_1)) 70 s66 fun v2_67 _ =>
 I.fin si K v2_67 s66)))
theorem x63 (I : Prims) (a0 : Value) (si : St) (K : Value → St → Prop) : xbody I 36 k63 Tryd.f63 c63 [a0] si K = v63 I a0 si K := by kernel_rfl
theorem n63 [Memo] (ro : Nat) (a0 : Value) (si : St) (K : Value → St → Prop) : wbody P ro 36 Tryd.f63 c63 [a0] si K = v63 (prims P ro) a0 si K := xbody_eq 36 P ro (x63 _ a0 si K)
/- slices.Contains[[]int,int] -/
noncomputable def c64 : Code := bodyOf Tryd.f64
def k64 : List (List Nat) := []
theorem b64 : BodyOk P 9 2 64 Tryd.f64 c64 := ⟨Tryd.func64, by kernel_rfl, by kernel_rfl, by kernel_rfl, by kernel_rfl, by kernel_rfl⟩
def v64 (I : Prims) (a0 a1 : Value) (si : St) (K : Value → St → Prop) : Prop :=
 I.call 73 [a0, a1] (ent si) fun v7_0 s0 =>
 I.wop (.binOp .geq 3 (.const v7_0) (.const (.int .i64 0)) 3) 4 s0 fun v8_1 s1 =>
 I.fin si K v8_1 s1
theorem x64 (I : Prims) (a0 a1 : Value) (si : St) (K : Value → St → Prop) : xbody I 9 k64 Tryd.f64 c64 [a0, a1] si K = v64 I a0 a1 si K := by kernel_rfl
theorem n64 [Memo] (ro : Nat) (a0 a1 : Value) (si : St) (K : Value → St → Prop) : wbody P ro 9 Tryd.f64 c64 [a0, a1] si K = v64 (prims P ro) a0 a1 si K := xbody_eq 9 P ro (x64 _ a0 a1 si K)
/- attestor/attestorref01.Generator -/
noncomputable def c65 : Code := bodyOf Tryd.f65
def k65 : List (List Nat) := []
theorem b65 : BodyOk P 11 1 65 Tryd.f65 c65 := ⟨Tryd.func65, by kernel_rfl, by kernel_rfl, by kernel_rfl, by kernel_rfl, by kernel_rfl⟩
def v65 (I : Prims) (a0 : Value) (si : St) (K : Value → St → Prop) : Prop :=
 I.wop (.binOp .eql 3 (.const a0) (.const (.int .i64 0)) 3) 4 (ent si) fun v5_0 s0 =>
 wdec v5_0
 (I.fin si K (.int .u64 5) s0)
 (I.wop (.binOp .eql 3 (.const a0) (.const (.int .i64 1)) 3) 4 s0 fun v7_1 s1 =>
 wdec v7_1
 (I.fin si K (.int .u64 3) s1)
 (I.wop (.binOp .eql 3 (.const a0) (.const (.int .i64 3)) 3) 4 s1 fun v8_2 s2 =>
 wdec v8_2
 (I.fin si K (.int .u64 3) s2)
 (I.wop (.binOp .eql 3 (.const a0) (.const (.int .i64 2)) 3) 4 s2 fun v10_3 s3 =>
 wdec v10_3
 (I.fin si K (.int .u64 11) s3)
 (I.fin si K (.int .u64 0) s3))))
theorem x65 (I : Prims) (a0 : Value) (si : St) (K : Value → St → Prop) : xbody I 11 k65 Tryd.f65 c65 [a0] si K = v65 I a0 si K := by kernel_rfl
theorem n65 [Memo] (ro : Nat) (a0 : Value) (si : St) (K : Value → St → Prop) : wbody P ro 11 Tryd.f65 c65 [a0] si K = v65 (prims P ro) a0 si K := xbody_eq 11 P ro (x65 _ a0 si K)
/- attestor/field.of -/
noncomputable def c66 : Code := bodyOf Tryd.f66
def k66 : List (List Nat) := []
theorem b66 : BodyOk P 10 1 66 Tryd.f66 c66 := ⟨Tryd.func66, by kernel_rfl, by kernel_rfl, by kernel_rfl, by kernel_rfl, by kernel_rfl⟩
def v66 (I : Prims) (a0 : Value) (si : St) (K : Value → St → Prop) : Prop :=
 I.wop (.alloc 75) 0 (ent si) fun v2_0 s0 =>
 I.call 58 [a0] s0 fun v4_1 s1 =>
 I.wop (.unOp .not 4 (.const v4_1)) 4 s1 fun v5_2 s2 =>
 wdec v5_2
 (I.wop (.build 75 ⟨[]⟩) 75 s2 fun v6_3 s3 =>
 I.wop (.store 75 (.const v2_0) (.const v6_3)) 0 s3 fun _ s4 =>
 I.wop (.load 75 (.const v2_0)) 75 s4 fun v2_5 _ =>
 I.fin si K v2_5 s4)
 (I.wop (.indexAddr 88 (.const (.pointer (some ⟨0, 0, none⟩))) (.const a0)) 0 s2 fun v8_6 s6 =>
 I.wop (.load 75 (.const v8_6)) 75 s6 fun v9_7 s7 =>
 I.wop (.store 75 (.const v2_0) (.const v9_7)) 0 s7 fun _ s8 =>
 I.wop (.load 75 (.const v2_0)) 75 s8 fun v2_9 _ =>
 I.fin si K v2_9 s8)
theorem x66 (I : Prims) (a0 : Value) (si : St) (K : Value → St → Prop) : xbody I 10 k66 Tryd.f66 c66 [a0] si K = v66 I a0 si K := by kernel_rfl
theorem n66 [Memo] (ro : Nat) (a0 : Value) (si : St) (K : Value → St → Prop) : wbody P ro 10 Tryd.f66 c66 [a0] si K = v66 (prims P ro) a0 si K := xbody_eq 10 P ro (x66 _ a0 si K)
/- attestor/sponge.known -/
noncomputable def c67 : Code := bodyOf Tryd.f67
def k67 : List (List Nat) := []
theorem b67 : BodyOk P 15 2 67 Tryd.f67 c67 := ⟨Tryd.func67, by kernel_rfl, by kernel_rfl, by kernel_rfl, by kernel_rfl, by kernel_rfl⟩
def v67 (I : Prims) (a0 a1 : Value) (si : St) (K : Value → St → Prop) : Prop :=
 I.call 58 [a0] (ent si) fun v6_0 s0 =>
 wdec v6_0
 (I.wop (.binOp .geq 3 (.const a1) (.const (.int .i64 0)) 3) 4 s0 fun v9_1 s1 =>
 wdec v9_1
 (I.wop (.binOp .lss 3 (.const a1) (.const (.int .i64 8)) 3) 4 s1 fun v13_2 s2 =>
 I.fin si K v13_2 s2)
 (I.fin si K (.bool false) s1))
 (I.fin si K (.bool false) s0)
theorem x67 (I : Prims) (a0 a1 : Value) (si : St) (K : Value → St → Prop) : xbody I 15 k67 Tryd.f67 c67 [a0, a1] si K = v67 I a0 a1 si K := by kernel_rfl
theorem n67 [Memo] (ro : Nat) (a0 a1 : Value) (si : St) (K : Value → St → Prop) : wbody P ro 15 Tryd.f67 c67 [a0, a1] si K = v67 (prims P ro) a0 a1 si K := xbody_eq 15 P ro (x67 _ a0 a1 si K)
/- attestor/sponge.in -/
noncomputable def c68 : Code := bodyOf Tryd.f68
def k68 : List (List Nat) := []
theorem b68 : BodyOk P 11 1 68 Tryd.f68 c68 := ⟨Tryd.func68, by kernel_rfl, by kernel_rfl, by kernel_rfl, by kernel_rfl, by kernel_rfl⟩
def v68 (I : Prims) (a0 : Value) (si : St) (K : Value → St → Prop) : Prop :=
 I.wop (.alloc 79) 0 (ent si) fun v2_0 s0 =>
 I.call 47 [a0] s0 fun v4_1 s1 =>
 I.call 74 [a0] s1 fun v6_2 s2 =>
 I.call 75 [a0] s2 fun v8_3 s3 =>
 I.wop (.binOp .eql 3 (.const v8_3) (.const (.int .i64 5)) 3) 4 s3 fun v9_4 s4 =>
 I.wop (.build 79 ⟨[(0, (.const v4_1)), (1, (.const v6_2)), (2, (.const v9_4))]⟩) 79 s4 fun v10_5 s5 =>
 I.wop (.store 79 (.const v2_0) (.const v10_5)) 0 s5 fun _ s6 =>
 I.wop (.load 79 (.const v2_0)) 79 s6 fun v2_7 _ =>
 I.fin si K v2_7 s6
theorem x68 (I : Prims) (a0 : Value) (si : St) (K : Value → St → Prop) : xbody I 11 k68 Tryd.f68 c68 [a0] si K = v68 I a0 si K := by kernel_rfl
theorem n68 [Memo] (ro : Nat) (a0 : Value) (si : St) (K : Value → St → Prop) : wbody P ro 11 Tryd.f68 c68 [a0] si K = v68 (prims P ro) a0 si K := xbody_eq 11 P ro (x68 _ a0 si K)
/- (attestor/sponge.mixer).round -/
noncomputable def c69 : Code := bodyOf Tryd.f69
noncomputable def c69_10100 : Code := subCode [1, 0, 1, 0, 0] c69
def k69 : List (List Nat) := []
def k69_10100 : List (List Nat) := []
theorem l69_10100 : ltCode 91 c69_10100 = true := by kernel_rfl
theorem m69_10100 : notMap c69_10100 = true := by kernel_rfl
theorem b69 : BodyOk P 91 3 69 Tryd.f69 c69 := ⟨Tryd.func69, by kernel_rfl, by kernel_rfl, by kernel_rfl, by kernel_rfl, by kernel_rfl⟩
def v69_10100 (I : Prims) (rnd : Option Nat) (τ : Tau) (ds : List Deferred) (s : St) (Q : Ex → WK) : Prop :=
 I.wop (.binOp .lss 3 (.const (τ 10)) (.const (.int .i64 4)) 3) 0 s fun v11_0 s0 =>
 wdec v11_0
 (I.wop (.fieldAddr 79 (.const (τ 3)) 1) 0 s0 fun v14_1 s1 =>
 I.wop (.load 38 (.const v14_1)) 38 s1 fun v15_2 s2 =>
 I.wop (.binOp .mul 38 (.const (τ 1)) (.const v15_2) 38) 38 s2 fun v16_3 s3 =>
 I.wop (.fieldAddr 79 (.const (τ 3)) 0) 0 s3 fun v17_4 s4 =>
 I.wop (.load 38 (.const v17_4)) 38 s4 fun v18_5 s5 =>
 I.wop (.binOp .rem 38 (.const v16_3) (.const v18_5) 38) 38 s5 fun v19_6 s6 =>
 I.wop (.load 79 (.const (τ 3))) 79 s6 fun v21_7 s7 =>
 veq v21_7 v21_7 = true ∧ I.wop (.indexAddr 39 (.const (τ 5)) (.const (τ 10))) 0 s7 fun v23_8 s8 =>
 I.wop (.load 38 (.const v23_8)) 38 s8 fun v24_9 s9 =>
 veq v24_9 v24_9 = true ∧ I.wop (.binOp .add 38 (.const v24_9) (.const v19_6) 38) 38 s9 fun v26_10 s10 =>
 I.wop (.binOp .add 38 (.const v26_10) (.const (.int .u64 7)) 38) 38 s10 fun v27_11 s11 =>
 I.wop (.fieldAddr 79 (.const (τ 3)) 0) 0 s11 fun v28_12 s12 =>
 I.wop (.load 38 (.const v28_12)) 38 s12 fun v29_13 s13 =>
 veq v29_13 v29_13 = true ∧ I.wop (.binOp .rem 38 (.const v27_11) (.const v29_13) 38) 38 s13 fun v30_14 s14 =>
 I.call 76 [v21_7, v30_14] s14 fun v31_15 s15 =>
 I.wop (.indexAddr 39 (.const (τ 5)) (.const (τ 10))) 0 s15 fun v32_16 s16 =>
 I.wop (.store 38 (.const v32_16) (.const v31_15)) 0 s16 fun _ s17 =>
 I.wop (.binOp .add 3 (.const (τ 10)) (.const (.int .i64 1)) 3) 3 s17 fun v33_18 s18 =>
 Q .normal (U τ [(10, v33_18), (33, v33_18), (32, v32_16), (31, v31_15), (30, v30_14), (29, v29_13), (28, v28_12), (27, v27_11), (26, v26_10), (25, v19_6), (24, v24_9), (23, v23_8), (22, (τ 10)), (21, v21_7), (20, (τ 10)), (1, v19_6), (19, v19_6), (18, v18_5), (17, v17_4), (16, v16_3), (15, v15_2), (14, v14_1), (13, (τ 1)), (8, (τ 10)), (12, (τ 10)), (11, (.bool true)), (11, v11_0)]) ds s18)
 (Q (.exit 0) (U τ [(11, (.bool false)), (11, v11_0)]) ds s0)
theorem x69_10100 (I : Prims) (rnd : Option Nat) (τ : Tau) (ds : List Deferred) (s : St) (Q : Ex → WK) : xp I rnd 91 k69_10100 c69_10100 [] τ [] ds s (lift Q) = v69_10100 I rnd τ ds s Q := by kernel_rfl
theorem n69_10100 [Memo] (ro : Nat) (rnd : Option Nat) (τ : Tau) (ds : List Deferred) (s : St) (Q : Ex → WK) : wp P ro 91 rnd c69_10100 τ ds s Q = v69_10100 (prims P ro) rnd τ ds s Q := xp_wp rnd 91 P ro (x69_10100 _ rnd τ ds s Q)
def v69 (I : Prims) (a0 a1 a2 : Value) (si : St) (K : Value → St → Prop) : Prop :=
 I.wop (.box 79 (.const a0)) 0 (ent si) fun v3_0 s0 =>
 I.wop (.box 39 (.const a2)) 0 s0 fun v5_1 s1 =>
 I.wop (.alloc 39) 0 s1 fun v7_2 s2 =>
 I.loop 91 none c69_10100 (U undefT [(10, (.int .i64 0)), (7, v7_2), (6, (.int .u64 0)), (5, v5_1), (3, v3_0), (0, a0), (1, a1), (2, a2)]) [] s2 (fun τ ds s => ((xleave I si Tryd.f69.results.toList K) .ret) τ [] ds s) [(0, fun τ3 ds3 s3 =>
 I.wop (.indexAddr 39 (.const (τ3 5)) (.const (.int .i64 0))) 0 s3 fun v34_4 s4 =>
 I.wop (.load 38 (.const v34_4)) 38 s4 fun v35_5 s5 =>
 I.wop (.indexAddr 39 (.const (τ3 5)) (.const (.int .i64 1))) 0 s5 fun v36_6 s6 =>
 I.wop (.load 38 (.const v36_6)) 38 s6 fun v37_7 s7 =>
 I.wop (.binOp .add 38 (.const v35_5) (.const v37_7) 38) 38 s7 fun v38_8 s8 =>
 I.wop (.indexAddr 39 (.const (τ3 5)) (.const (.int .i64 2))) 0 s8 fun v39_9 s9 =>
 I.wop (.load 38 (.const v39_9)) 38 s9 fun v40_10 s10 =>
 I.wop (.binOp .add 38 (.const v38_8) (.const v40_10) 38) 38 s10 fun v41_11 s11 =>
 I.wop (.indexAddr 39 (.const (τ3 5)) (.const (.int .i64 3))) 0 s11 fun v42_12 s12 =>
 I.wop (.load 38 (.const v42_12)) 38 s12 fun v43_13 s13 =>
 I.wop (.binOp .add 38 (.const v41_11) (.const v43_13) 38) 38 s13 fun v44_14 s14 =>
 I.wop (.indexAddr 39 (.const (τ3 5)) (.const (.int .i64 0))) 0 s14 fun v47_15 s15 =>
 I.wop (.load 38 (.const v47_15)) 38 s15 fun v48_16 s16 =>
 veq v48_16 v48_16 = true ∧ I.wop (.binOp .add 38 (.const v44_14) (.const v48_16) 38) 38 s16 fun v49_17 s17 =>
 I.wop (.indexAddr 39 (.const (τ3 5)) (.const (.int .i64 1))) 0 s17 fun v50_18 s18 =>
 I.wop (.load 38 (.const v50_18)) 38 s18 fun v51_19 s19 =>
 veq v51_19 v51_19 = true ∧ I.wop (.binOp .mul 38 (.const (.int .u64 2)) (.const v51_19) 38) 38 s19 fun v52_20 s20 =>
 I.wop (.binOp .add 38 (.const v49_17) (.const v52_20) 38) 38 s20 fun v53_21 s21 =>
 I.wop (.fieldAddr 79 (.const (τ3 3)) 0) 0 s21 fun v54_22 s22 =>
 I.wop (.load 38 (.const v54_22)) 38 s22 fun v55_23 s23 =>
 veq v55_23 v55_23 = true ∧ I.wop (.binOp .rem 38 (.const v53_21) (.const v55_23) 38) 38 s23 fun v56_24 s24 =>
 I.wop (.indexAddr 39 (.const (τ3 5)) (.const (.int .i64 1))) 0 s24 fun v58_25 s25 =>
 I.wop (.load 38 (.const v58_25)) 38 s25 fun v59_26 s26 =>
 veq v59_26 v59_26 = true ∧ I.wop (.binOp .add 38 (.const v44_14) (.const v59_26) 38) 38 s26 fun v60_27 s27 =>
 I.wop (.indexAddr 39 (.const (τ3 5)) (.const (.int .i64 2))) 0 s27 fun v61_28 s28 =>
 I.wop (.load 38 (.const v61_28)) 38 s28 fun v62_29 s29 =>
 veq v62_29 v62_29 = true ∧ I.wop (.binOp .mul 38 (.const (.int .u64 2)) (.const v62_29) 38) 38 s29 fun v63_30 s30 =>
 I.wop (.binOp .add 38 (.const v60_27) (.const v63_30) 38) 38 s30 fun v64_31 s31 =>
 I.wop (.fieldAddr 79 (.const (τ3 3)) 0) 0 s31 fun v65_32 s32 =>
 I.wop (.load 38 (.const v65_32)) 38 s32 fun v66_33 s33 =>
 veq v66_33 v66_33 = true ∧ I.wop (.binOp .rem 38 (.const v64_31) (.const v66_33) 38) 38 s33 fun v67_34 s34 =>
 I.wop (.indexAddr 39 (.const (τ3 5)) (.const (.int .i64 2))) 0 s34 fun v69_35 s35 =>
 I.wop (.load 38 (.const v69_35)) 38 s35 fun v70_36 s36 =>
 veq v70_36 v70_36 = true ∧ I.wop (.binOp .add 38 (.const v44_14) (.const v70_36) 38) 38 s36 fun v71_37 s37 =>
 I.wop (.indexAddr 39 (.const (τ3 5)) (.const (.int .i64 3))) 0 s37 fun v72_38 s38 =>
 I.wop (.load 38 (.const v72_38)) 38 s38 fun v73_39 s39 =>
 veq v73_39 v73_39 = true ∧ I.wop (.binOp .mul 38 (.const (.int .u64 2)) (.const v73_39) 38) 38 s39 fun v74_40 s40 =>
 I.wop (.binOp .add 38 (.const v71_37) (.const v74_40) 38) 38 s40 fun v75_41 s41 =>
 I.wop (.fieldAddr 79 (.const (τ3 3)) 0) 0 s41 fun v76_42 s42 =>
 I.wop (.load 38 (.const v76_42)) 38 s42 fun v77_43 s43 =>
 veq v77_43 v77_43 = true ∧ I.wop (.binOp .rem 38 (.const v75_41) (.const v77_43) 38) 38 s43 fun v78_44 s44 =>
 I.wop (.indexAddr 39 (.const (τ3 5)) (.const (.int .i64 3))) 0 s44 fun v80_45 s45 =>
 I.wop (.load 38 (.const v80_45)) 38 s45 fun v81_46 s46 =>
 veq v81_46 v81_46 = true ∧ I.wop (.binOp .add 38 (.const v44_14) (.const v81_46) 38) 38 s46 fun v82_47 s47 =>
 I.wop (.indexAddr 39 (.const (τ3 5)) (.const (.int .i64 0))) 0 s47 fun v83_48 s48 =>
 I.wop (.load 38 (.const v83_48)) 38 s48 fun v84_49 s49 =>
 veq v84_49 v84_49 = true ∧ I.wop (.binOp .mul 38 (.const (.int .u64 2)) (.const v84_49) 38) 38 s49 fun v85_50 s50 =>
 I.wop (.binOp .add 38 (.const v82_47) (.const v85_50) 38) 38 s50 fun v86_51 s51 =>
 I.wop (.fieldAddr 79 (.const (τ3 3)) 0) 0 s51 fun v87_52 s52 =>
 I.wop (.load 38 (.const v87_52)) 38 s52 fun v88_53 s53 =>
 veq v88_53 v88_53 = true ∧ I.wop (.binOp .rem 38 (.const v86_51) (.const v88_53) 38) 38 s53 fun v89_54 s54 =>
 I.wop (.build 39 ⟨[(0, (.const v56_24)), (1, (.const v67_34)), (2, (.const v78_44)), (3, (.const v89_54))]⟩) 39 s54 fun v90_55 s55 =>
 I.wop (.store 39 (.const (τ3 7)) (.const v90_55)) 0 s55 fun _ s56 =>
 xdefers I ds3 s56 fun s57 =>
 I.wop (.load 39 (.const (τ3 7))) 39 s57 fun v7_58 _ =>
 I.fin si K (.tuple (.mk [(τ3 1), v7_58])) s57)]
theorem x69 (I : Prims) (a0 a1 a2 : Value) (si : St) (K : Value → St → Prop) : xbody I 91 k69 Tryd.f69 c69 [a0, a1, a2] si K = v69 I a0 a1 a2 si K := by kernel_rfl
theorem n69 [Memo] (ro : Nat) (a0 a1 a2 : Value) (si : St) (K : Value → St → Prop) : wbody P ro 91 Tryd.f69 c69 [a0, a1, a2] si K = v69 (prims P ro) a0 a1 a2 si K := xbody_eq 91 P ro (x69 _ a0 a1 a2 si K)
/- attestor/field.Pow -/
noncomputable def c70 : Code := bodyOf Tryd.f70
noncomputable def c70_111000 : Code := subCode [1, 1, 1, 0, 0, 0] c70
def k70 : List (List Nat) := []
def k70_111000 : List (List Nat) := []
theorem l70_111000 : ltCode 27 c70_111000 = true := by kernel_rfl
theorem m70_111000 : notMap c70_111000 = true := by kernel_rfl
theorem b70 : BodyOk P 27 3 70 Tryd.f70 c70 := ⟨Tryd.func70, by kernel_rfl, by kernel_rfl, by kernel_rfl, by kernel_rfl, by kernel_rfl⟩
def v70_111000 (I : Prims) (rnd : Option Nat) (τ : Tau) (ds : List Deferred) (s : St) (Q : Ex → WK) : Prop :=
 I.wop (.binOp .gtr 38 (.const (τ 2)) (.const (.int .u64 0)) 38) 4 s fun v12_0 s0 =>
 wdec v12_0
 (I.wop (.binOp .and 38 (.const (τ 2)) (.const (.int .u64 1)) 38) 38 s0 fun v16_1 s1 =>
 I.wop (.binOp .eql 38 (.const v16_1) (.const (.int .u64 1)) 38) 4 s1 fun v17_2 s2 =>
 wdec v17_2
 (I.call 49 [(τ 0), (τ 7), (τ 1)] s2 fun v21_3 s3 =>
 I.call 49 [(τ 0), (τ 1), (τ 1)] s3 fun v25_4 s4 =>
 I.wop (.binOp .shr 38 (.const (τ 2)) (.const (.int .u64 1)) 84) 38 s4 fun v14_5 s5 =>
 Q .normal (U τ [(2, v14_5), (14, v14_5), (13, (τ 2)), (1, v25_4), (25, v25_4), (24, (τ 1)), (23, (τ 1)), (22, (τ 0)), (7, v21_3), (21, v21_3), (20, (τ 1)), (19, (τ 7)), (18, (τ 0)), (17, (.bool true)), (17, v17_2), (16, v16_1), (15, (τ 2)), (12, (.bool true)), (12, v12_0), (11, (τ 2))]) ds s5)
 (I.call 49 [(τ 0), (τ 1), (τ 1)] s2 fun v25_6 s6 =>
 I.wop (.binOp .shr 38 (.const (τ 2)) (.const (.int .u64 1)) 84) 38 s6 fun v14_7 s7 =>
 Q .normal (U τ [(2, v14_7), (14, v14_7), (13, (τ 2)), (1, v25_6), (25, v25_6), (24, (τ 1)), (23, (τ 1)), (22, (τ 0)), (17, (.bool false)), (17, v17_2), (16, v16_1), (15, (τ 2)), (12, (.bool true)), (12, v12_0), (11, (τ 2))]) ds s7))
 (Q (.exit 0) (U τ [(12, (.bool false)), (12, v12_0), (11, (τ 2))]) ds s0)
theorem x70_111000 (I : Prims) (rnd : Option Nat) (τ : Tau) (ds : List Deferred) (s : St) (Q : Ex → WK) : xp I rnd 27 k70_111000 c70_111000 [] τ [] ds s (lift Q) = v70_111000 I rnd τ ds s Q := by kernel_rfl
theorem n70_111000 [Memo] (ro : Nat) (rnd : Option Nat) (τ : Tau) (ds : List Deferred) (s : St) (Q : Ex → WK) : wp P ro 27 rnd c70_111000 τ ds s Q = v70_111000 (prims P ro) rnd τ ds s Q := xp_wp rnd 27 P ro (x70_111000 _ rnd τ ds s Q)
def v70 (I : Prims) (a0 a1 a2 : Value) (si : St) (K : Value → St → Prop) : Prop :=
 I.call 58 [a0] (ent si) fun v9_0 s0 =>
 I.wop (.unOp .not 4 (.const v9_0)) 4 s0 fun v10_1 s1 =>
 wdec v10_1
 (I.fin si K (.int .u64 0) s1)
 (I.loop 27 none c70_111000 (U undefT [(7, (.int .u64 1)), (10, (.bool false)), (10, v10_1), (9, v9_0), (8, a0), (6, (.int .u64 0)), (0, a0), (1, a1), (2, a2)]) [] s1 (fun τ ds s => ((xleave I si Tryd.f70.results.toList K) .ret) τ [] ds s) [(0, fun τ2 ds2 s2 =>
 xdefers I ds2 s2 fun s3 =>
 I.fin si K (τ2 7) s3)])
theorem x70 (I : Prims) (a0 a1 a2 : Value) (si : St) (K : Value → St → Prop) : xbody I 27 k70 Tryd.f70 c70 [a0, a1, a2] si K = v70 I a0 a1 a2 si K := by kernel_rfl
theorem n70 [Memo] (ro : Nat) (a0 a1 a2 : Value) (si : St) (K : Value → St → Prop) : wbody P ro 27 Tryd.f70 c70 [a0, a1, a2] si K = v70 (prims P ro) a0 a1 a2 si K := xbody_eq 27 P ro (x70 _ a0 a1 a2 si K)
/- (attestor/sponge.mixer).reduced -/
noncomputable def c71 : Code := bodyOf Tryd.f71
noncomputable def c71_10100 : Code := subCode [1, 0, 1, 0, 0] c71
def k71 : List (List Nat) := []
def k71_10100 : List (List Nat) := []
theorem l71_10100 : ltCode 18 c71_10100 = true := by kernel_rfl
theorem m71_10100 : notMap c71_10100 = true := by kernel_rfl
theorem b71 : BodyOk P 18 2 71 Tryd.f71 c71 := ⟨Tryd.func71, by kernel_rfl, by kernel_rfl, by kernel_rfl, by kernel_rfl, by kernel_rfl⟩
def v71_10100 (I : Prims) (rnd : Option Nat) (τ : Tau) (ds : List Deferred) (s : St) (Q : Ex → WK) : Prop :=
 I.wop (.binOp .lss 3 (.const (τ 6)) (.const (.int .i64 4)) 3) 0 s fun v7_0 s0 =>
 wdec v7_0
 (I.wop (.indexAddr 39 (.const (τ 3)) (.const (τ 6))) 0 s0 fun v10_1 s1 =>
 I.wop (.load 38 (.const v10_1)) 38 s1 fun v11_2 s2 =>
 veq v11_2 v11_2 = true ∧ I.wop (.fieldAddr 79 (.const (τ 2)) 0) 0 s2 fun v12_3 s3 =>
 I.wop (.load 38 (.const v12_3)) 38 s3 fun v13_4 s4 =>
 veq v13_4 v13_4 = true ∧ I.wop (.binOp .rem 38 (.const v11_2) (.const v13_4) 38) 38 s4 fun v14_5 s5 =>
 I.wop (.indexAddr 39 (.const (τ 3)) (.const (τ 6))) 0 s5 fun v15_6 s6 =>
 I.wop (.store 38 (.const v15_6) (.const v14_5)) 0 s6 fun _ s7 =>
 I.wop (.binOp .add 3 (.const (τ 6)) (.const (.int .i64 1)) 3) 3 s7 fun v16_8 s8 =>
 Q .normal (U τ [(6, v16_8), (16, v16_8), (15, v15_6), (14, v14_5), (13, v13_4), (12, v12_3), (11, v11_2), (10, v10_1), (9, (τ 6)), (5, (τ 6)), (8, (τ 6)), (7, (.bool true)), (7, v7_0)]) ds s8)
 (Q (.exit 0) (U τ [(7, (.bool false)), (7, v7_0)]) ds s0)
theorem x71_10100 (I : Prims) (rnd : Option Nat) (τ : Tau) (ds : List Deferred) (s : St) (Q : Ex → WK) : xp I rnd 18 k71_10100 c71_10100 [] τ [] ds s (lift Q) = v71_10100 I rnd τ ds s Q := by kernel_rfl
theorem n71_10100 [Memo] (ro : Nat) (rnd : Option Nat) (τ : Tau) (ds : List Deferred) (s : St) (Q : Ex → WK) : wp P ro 18 rnd c71_10100 τ ds s Q = v71_10100 (prims P ro) rnd τ ds s Q := xp_wp rnd 18 P ro (x71_10100 _ rnd τ ds s Q)
def v71 (I : Prims) (a0 a1 : Value) (si : St) (K : Value → St → Prop) : Prop :=
 I.wop (.box 79 (.const a0)) 0 (ent si) fun v2_0 s0 =>
 I.wop (.box 39 (.const a1)) 0 s0 fun v3_1 s1 =>
 I.wop (.alloc 39) 0 s1 fun v4_2 s2 =>
 I.loop 18 none c71_10100 (U undefT [(6, (.int .i64 0)), (4, v4_2), (3, v3_1), (2, v2_0), (0, a0), (1, a1)]) [] s2 (fun τ ds s => ((xleave I si Tryd.f71.results.toList K) .ret) τ [] ds s) [(0, fun τ3 ds3 s3 =>
 I.wop (.load 39 (.const (τ3 3))) 39 s3 fun v17_4 s4 =>
 I.wop (.store 39 (.const (τ3 4)) (.const v17_4)) 0 s4 fun _ s5 =>
 xdefers I ds3 s5 fun s6 =>
 I.wop (.load 39 (.const (τ3 4))) 39 s6 fun v4_7 _ =>
 I.fin si K v4_7 s6)]
theorem x71 (I : Prims) (a0 a1 : Value) (si : St) (K : Value → St → Prop) : xbody I 18 k71 Tryd.f71 c71 [a0, a1] si K = v71 I a0 a1 si K := by kernel_rfl
theorem n71 [Memo] (ro : Nat) (a0 a1 : Value) (si : St) (K : Value → St → Prop) : wbody P ro 18 Tryd.f71 c71 [a0, a1] si K = v71 (prims P ro) a0 a1 si K := xbody_eq 18 P ro (x71 _ a0 a1 si K)
/- math/bits.Mul -/
noncomputable def c72 : Code := bodyOf Tryd.f72
def k72 : List (List Nat) := []
theorem b72 : BodyOk P 30 2 72 Tryd.f72 c72 := ⟨Tryd.func72, by kernel_rfl, by kernel_rfl, by kernel_rfl, by kernel_rfl, by kernel_rfl⟩
def v72 (I : Prims) (a0 a1 : Value) (si : St) (K : Value → St → Prop) : Prop :=
 I.call 78 [a0, a1] (ent si) fun v25_0 s0 =>
 I.wop (.extract (.const v25_0) 0) 38 s0 fun v26_1 s1 =>
 I.wop (.extract (.const v25_0) 1) 38 s1 fun v27_2 s2 =>
 I.fin si K (.tuple (.mk [v26_1, v27_2])) s2
theorem x72 (I : Prims) (a0 a1 : Value) (si : St) (K : Value → St → Prop) : xbody I 30 k72 Tryd.f72 c72 [a0, a1] si K = v72 I a0 a1 si K := by kernel_rfl
theorem n72 [Memo] (ro : Nat) (a0 a1 : Value) (si : St) (K : Value → St → Prop) : wbody P ro 30 Tryd.f72 c72 [a0, a1] si K = v72 (prims P ro) a0 a1 si K := xbody_eq 30 P ro (x72 _ a0 a1 si K)
/- slices.Index[[]int,int] -/
noncomputable def c73 : Code := bodyOf Tryd.f73
noncomputable def c73_10100 : Code := subCode [1, 0, 1, 0, 0] c73
def k73 : List (List Nat) := []
def k73_10100 : List (List Nat) := []
theorem l73_10100 : ltCode 19 c73_10100 = true := by kernel_rfl
theorem m73_10100 : notMap c73_10100 = true := by kernel_rfl
theorem b73 : BodyOk P 19 2 73 Tryd.f73 c73 := ⟨Tryd.func73, by kernel_rfl, by kernel_rfl, by kernel_rfl, by kernel_rfl, by kernel_rfl⟩
def v73_10100 (I : Prims) (rnd : Option Nat) (τ : Tau) (ds : List Deferred) (s : St) (Q : Ex → WK) : Prop :=
 I.wop (.binOp .lss 3 (.const (τ 8)) (.const (τ 7)) 3) 0 s fun v9_0 s0 =>
 wdec v9_0
 (I.wop (.indexAddr 49 (.const (τ 0)) (.const (τ 8))) 0 s0 fun v14_1 s1 =>
 I.wop (.load 3 (.const v14_1)) 3 s1 fun v15_2 s2 =>
 I.wop (.binOp .eql 3 (.const (τ 1)) (.const v15_2) 3) 4 s2 fun v16_3 s3 =>
 wdec v16_3
 (Q .ret (U τ [(4, (τ 8)), (17, (τ 8)), (16, (.bool true)), (16, v16_3), (15, v15_2), (14, v14_1), (13, (τ 8)), (12, (τ 0)), (11, (τ 1)), (5, (τ 8)), (10, (τ 8)), (9, (.bool true)), (9, v9_0)]) ds s3)
 (I.wop (.binOp .add 3 (.const (τ 8)) (.const (.int .i64 1)) 3) 3 s3 fun v18_4 s4 =>
 Q .normal (U τ [(8, v18_4), (18, v18_4), (16, (.bool false)), (16, v16_3), (15, v15_2), (14, v14_1), (13, (τ 8)), (12, (τ 0)), (11, (τ 1)), (5, (τ 8)), (10, (τ 8)), (9, (.bool true)), (9, v9_0)]) ds s4))
 (Q (.exit 0) (U τ [(9, (.bool false)), (9, v9_0)]) ds s0)
theorem x73_10100 (I : Prims) (rnd : Option Nat) (τ : Tau) (ds : List Deferred) (s : St) (Q : Ex → WK) : xp I rnd 19 k73_10100 c73_10100 [] τ [] ds s (lift Q) = v73_10100 I rnd τ ds s Q := by kernel_rfl
theorem n73_10100 [Memo] (ro : Nat) (rnd : Option Nat) (τ : Tau) (ds : List Deferred) (s : St) (Q : Ex → WK) : wp P ro 19 rnd c73_10100 τ ds s Q = v73_10100 (prims P ro) rnd τ ds s Q := xp_wp rnd 19 P ro (x73_10100 _ rnd τ ds s Q)
def v73 (I : Prims) (a0 a1 : Value) (si : St) (K : Value → St → Prop) : Prop :=
 I.wop (.call ⟨.builtin .len, ⟨[(.const a0)]⟩, #[49]⟩) 3 (ent si) fun v7_0 s0 =>
 I.loop 19 none c73_10100 (U undefT [(8, (.int .i64 0)), (7, v7_0), (6, a0), (4, (.int .i64 0)), (0, a0), (1, a1)]) [] s0 (fun τ ds s => ((xleave I si Tryd.f73.results.toList K) .ret) τ [] ds s) [(0, fun _ ds1 s1 =>
 xdefers I ds1 s1 fun s2 =>
 I.fin si K (.int .i64 (-1)) s2)]
theorem x73 (I : Prims) (a0 a1 : Value) (si : St) (K : Value → St → Prop) : xbody I 19 k73 Tryd.f73 c73 [a0, a1] si K = v73 I a0 a1 si K := by kernel_rfl
theorem n73 [Memo] (ro : Nat) (a0 a1 : Value) (si : St) (K : Value → St → Prop) : wbody P ro 19 Tryd.f73 c73 [a0, a1] si K = v73 (prims P ro) a0 a1 si K := xbody_eq 19 P ro (x73 _ a0 a1 si K)
theorem r73 (I : Prims) (si : St) (K : Value → St → Prop) (τ : Tau) (ds : List Deferred) (s : St) : xleave I si Tryd.f73.results.toList K .ret τ [] ds s =
 (xdefers I ds s fun s0 =>
 I.fin si K (τ 4) s0) := by kernel_rfl
/- attestor/field.Generator -/
noncomputable def c74 : Code := bodyOf Tryd.f74
def k74 : List (List Nat) := []
theorem b74 : BodyOk P 6 1 74 Tryd.f74 c74 := ⟨Tryd.func74, by kernel_rfl, by kernel_rfl, by kernel_rfl, by kernel_rfl, by kernel_rfl⟩
def v74 (I : Prims) (a0 : Value) (si : St) (K : Value → St → Prop) : Prop :=
 I.call 66 [a0] (ent si) fun v4_0 s0 =>
 I.wop (.field 75 (.const v4_0) 1) 38 s0 fun v5_1 s1 =>
 I.fin si K v5_1 s1
theorem x74 (I : Prims) (a0 : Value) (si : St) (K : Value → St → Prop) : xbody I 6 k74 Tryd.f74 c74 [a0] si K = v74 I a0 si K := by kernel_rfl
theorem n74 [Memo] (ro : Nat) (a0 : Value) (si : St) (K : Value → St → Prop) : wbody P ro 6 Tryd.f74 c74 [a0] si K = v74 (prims P ro) a0 si K := xbody_eq 6 P ro (x74 _ a0 si K)
/- attestor/field.Exponent -/
noncomputable def c75 : Code := bodyOf Tryd.f75
def k75 : List (List Nat) := []
theorem b75 : BodyOk P 6 1 75 Tryd.f75 c75 := ⟨Tryd.func75, by kernel_rfl, by kernel_rfl, by kernel_rfl, by kernel_rfl, by kernel_rfl⟩
def v75 (I : Prims) (a0 : Value) (si : St) (K : Value → St → Prop) : Prop :=
 I.call 66 [a0] (ent si) fun v4_0 s0 =>
 I.wop (.field 75 (.const v4_0) 3) 3 s0 fun v5_1 s1 =>
 I.fin si K v5_1 s1
theorem x75 (I : Prims) (a0 : Value) (si : St) (K : Value → St → Prop) : xbody I 6 k75 Tryd.f75 c75 [a0] si K = v75 I a0 si K := by kernel_rfl
theorem n75 [Memo] (ro : Nat) (a0 : Value) (si : St) (K : Value → St → Prop) : wbody P ro 6 Tryd.f75 c75 [a0] si K = v75 (prims P ro) a0 si K := xbody_eq 6 P ro (x75 _ a0 si K)
/- (attestor/sponge.mixer).power -/
noncomputable def c76 : Code := bodyOf Tryd.f76
def k76 : List (List Nat) := []
theorem b76 : BodyOk P 26 2 76 Tryd.f76 c76 := ⟨Tryd.func76, by kernel_rfl, by kernel_rfl, by kernel_rfl, by kernel_rfl, by kernel_rfl⟩
def v76 (I : Prims) (a0 a1 : Value) (si : St) (K : Value → St → Prop) : Prop :=
 I.wop (.box 79 (.const a0)) 0 (ent si) fun v2_0 s0 =>
 I.wop (.binOp .mul 38 (.const a1) (.const a1) 38) 38 s0 fun v8_1 s1 =>
 I.wop (.fieldAddr 79 (.const v2_0) 0) 0 s1 fun v9_2 s2 =>
 I.wop (.load 38 (.const v9_2)) 38 s2 fun v10_3 s3 =>
 I.wop (.binOp .rem 38 (.const v8_1) (.const v10_3) 38) 38 s3 fun v11_4 s4 =>
 I.wop (.fieldAddr 79 (.const v2_0) 2) 0 s4 fun v12_5 s5 =>
 I.wop (.load 4 (.const v12_5)) 4 s5 fun v13_6 s6 =>
 wdec v13_6
 (I.wop (.binOp .mul 38 (.const v11_4) (.const v11_4) 38) 38 s6 fun v16_7 s7 =>
 I.wop (.fieldAddr 79 (.const v2_0) 0) 0 s7 fun v17_8 s8 =>
 I.wop (.load 38 (.const v17_8)) 38 s8 fun v18_9 s9 =>
 I.wop (.binOp .rem 38 (.const v16_7) (.const v18_9) 38) 38 s9 fun v19_10 s10 =>
 I.wop (.binOp .mul 38 (.const v19_10) (.const a1) 38) 38 s10 fun v22_11 s11 =>
 I.wop (.fieldAddr 79 (.const v2_0) 0) 0 s11 fun v23_12 s12 =>
 I.wop (.load 38 (.const v23_12)) 38 s12 fun v24_13 s13 =>
 I.wop (.binOp .rem 38 (.const v22_11) (.const v24_13) 38) 38 s13 fun v25_14 s14 =>
 I.fin si K v25_14 s14)
 (I.wop (.binOp .mul 38 (.const v11_4) (.const a1) 38) 38 s6 fun v22_15 s15 =>
 I.wop (.fieldAddr 79 (.const v2_0) 0) 0 s15 fun v23_16 s16 =>
 I.wop (.load 38 (.const v23_16)) 38 s16 fun v24_17 s17 =>
 I.wop (.binOp .rem 38 (.const v22_15) (.const v24_17) 38) 38 s17 fun v25_18 s18 =>
 I.fin si K v25_18 s18)
theorem x76 (I : Prims) (a0 a1 : Value) (si : St) (K : Value → St → Prop) : xbody I 26 k76 Tryd.f76 c76 [a0, a1] si K = v76 I a0 a1 si K := by kernel_rfl
theorem n76 [Memo] (ro : Nat) (a0 a1 : Value) (si : St) (K : Value → St → Prop) : wbody P ro 26 Tryd.f76 c76 [a0, a1] si K = v76 (prims P ro) a0 a1 si K := xbody_eq 26 P ro (x76 _ a0 a1 si K)
/- math/bits.Mul64 -/
noncomputable def c78 : Code := bodyOf Tryd.f78
def k78 : List (List Nat) := []
theorem b78 : BodyOk P 51 2 78 Tryd.f78 c78 := ⟨Tryd.func78, by kernel_rfl, by kernel_rfl, by kernel_rfl, by kernel_rfl, by kernel_rfl⟩
def v78 (I : Prims) (a0 a1 : Value) (si : St) (K : Value → St → Prop) : Prop :=
 I.wop (.binOp .and 38 (.const a0) (.const (.int .u64 4294967295)) 38) 38 (ent si) fun v15_0 s0 =>
 I.wop (.binOp .shr 38 (.const a0) (.const (.int .u64 32)) 84) 38 s0 fun v17_1 s1 =>
 I.wop (.binOp .and 38 (.const a1) (.const (.int .u64 4294967295)) 38) 38 s1 fun v19_2 s2 =>
 I.wop (.binOp .shr 38 (.const a1) (.const (.int .u64 32)) 84) 38 s2 fun v21_3 s3 =>
 I.wop (.binOp .mul 38 (.const v15_0) (.const v19_2) 38) 38 s3 fun v24_4 s4 =>
 I.wop (.binOp .mul 38 (.const v17_1) (.const v19_2) 38) 38 s4 fun v27_5 s5 =>
 I.wop (.binOp .shr 38 (.const v24_4) (.const (.int .u64 32)) 84) 38 s5 fun v29_6 s6 =>
 I.wop (.binOp .add 38 (.const v27_5) (.const v29_6) 38) 38 s6 fun v30_7 s7 =>
 I.wop (.binOp .and 38 (.const v30_7) (.const (.int .u64 4294967295)) 38) 38 s7 fun v32_8 s8 =>
 I.wop (.binOp .shr 38 (.const v30_7) (.const (.int .u64 32)) 84) 38 s8 fun v34_9 s9 =>
 I.wop (.binOp .mul 38 (.const v15_0) (.const v21_3) 38) 38 s9 fun v38_10 s10 =>
 I.wop (.binOp .add 38 (.const v32_8) (.const v38_10) 38) 38 s10 fun v39_11 s11 =>
 I.wop (.binOp .mul 38 (.const v17_1) (.const v21_3) 38) 38 s11 fun v42_12 s12 =>
 I.wop (.binOp .add 38 (.const v42_12) (.const v34_9) 38) 38 s12 fun v44_13 s13 =>
 I.wop (.binOp .shr 38 (.const v39_11) (.const (.int .u64 32)) 84) 38 s13 fun v46_14 s14 =>
 I.wop (.binOp .add 38 (.const v44_13) (.const v46_14) 38) 38 s14 fun v47_15 s15 =>
 I.wop (.binOp .mul 38 (.const a0) (.const a1) 38) 38 s15 fun v50_16 s16 =>
 I.fin si K (.tuple (.mk [v47_15, v50_16])) s16
theorem x78 (I : Prims) (a0 a1 : Value) (si : St) (K : Value → St → Prop) : xbody I 51 k78 Tryd.f78 c78 [a0, a1] si K = v78 I a0 a1 si K := by kernel_rfl
theorem n78 [Memo] (ro : Nat) (a0 a1 : Value) (si : St) (K : Value → St → Prop) : wbody P ro 51 Tryd.f78 c78 [a0, a1] si K = v78 (prims P ro) a0 a1 si K := xbody_eq 51 P ro (x78 _ a0 a1 si K)
end Go.VE
