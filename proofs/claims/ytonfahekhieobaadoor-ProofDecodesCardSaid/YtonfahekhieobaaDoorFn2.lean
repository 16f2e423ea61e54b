/-
 What the functions' code does, operation by operation.
-/
import Derived.Test.YtonfahekhieobaaDoorFn1
set_option linter.unusedSimpArgs false
set_option linter.unusedVariables false
namespace Go.VE
open Go Go.Proofs
noncomputable def c69 : Code := Za7 Tryd.f69
noncomputable def Zg9 : Code := Za3 [1, 1, 0, 1, 0, 0] c69
noncomputable def Ze3 : Code := Za3 [1, 1, 1, 1, 0, 1, 0, 0] c69
noncomputable def Zgf : Code := Za3 [1, 1, 1, 1, 1, 1, 0, 0] c69
noncomputable def Zb6 : Code := Za3 [1, 1, 1, 1, 0, 1, 0, 0, 1, 1, 0, 0, 1, 0, 1, 0, 0] c69
noncomputable def Zbz : Code := Za3 [1, 1, 1, 1, 0, 1, 0, 0, 1, 1, 0, 0, 1, 1, 0, 1, 0, 0] c69
noncomputable def Zby : Code := Za3 [1, 1, 1, 1, 0, 1, 0, 0, 1, 1, 0, 0, 1, 1, 1, 1, 0, 0] c69
def k69 : List (List Nat) := []
def Z5t : List (List Nat) := []
theorem Z5n : Zbd 131 Zg9 = true := by kernel_rfl
theorem Z5f : Zcc Zg9 = true := by kernel_rfl
def Zyn : List (List Nat) := []
theorem Zyi : Zbd 131 Ze3 = true := by kernel_rfl
theorem Zya : Zcc Ze3 = true := by kernel_rfl
def Zym : List (List Nat) := []
theorem Zyh : Zbd 131 Zgf = true := by kernel_rfl
theorem Zx9 : Zcc Zgf = true := by kernel_rfl
def Zlb : List (List Nat) := []
theorem Zla : Zbd 131 Zb6 = true := by kernel_rfl
theorem Zk9 : Zcc Zb6 = true := by kernel_rfl
def Zkj : List (List Nat) := []
theorem Zkf : Zbd 131 Zbz = true := by kernel_rfl
theorem Zkb : Zcc Zbz = true := by kernel_rfl
def Zki : List (List Nat) := []
theorem Zke : Zbd 131 Zby = true := by kernel_rfl
theorem Zka : Zcc Zby = true := by kernel_rfl
theorem b69 : BodyOk P 131 2 69 Tryd.f69 c69 := ⟨Tryd.func69, by kernel_rfl, by kernel_rfl, by kernel_rfl, by kernel_rfl, by kernel_rfl⟩
def Zo0 (I : Prims) (rnd : Option Nat) (τ : Tau) (ds : List Deferred) (s : St) (Q : Ex → WK) : Prop :=
 I.wop (.binOp .lss 3 (.const (τ 38)) (.const (τ 37)) 3) 4 s fun x0 s0 =>
 wdec x0
 (I.wop (.load 23 (.const (τ 1))) 23 s0 fun x1 s1 =>
 I.call 73 [x1, (τ 38)] s1 fun x2 s2 =>
 I.wop (.field 102 (.const x2) 0) 3 s2 fun x3 s3 =>
 I.wop (.binOp .mul 3 (.const (.int .i64 2)) (.const x3) 3) 3 s3 fun x4 s4 =>
 I.wop (.build 30 ⟨[(0, (.const (.int .u8 5))), (2, (.const (τ 38))), (3, (.const x4))]⟩) 30 s4 fun x5 s5 =>
 I.wop (.buildSlice 24 1 ⟨[(0, (.const x5))]⟩) 24 s5 fun x6 s6 =>
 I.wop (.call ⟨.builtin .append, ⟨[(.const (τ 5)), (.const x6)]⟩, #[24, 24]⟩) 24 s6 fun x7 s7 =>
 I.wop (.binOp .add 3 (.const (τ 38)) (.const (.int .i64 1)) 3) 3 s7 fun x8 s8 =>
 Q .normal (U τ [(38, x8), (51, x8), (5, x7), (50, x7), (49, x6), (48, x5), (47, x4), (46, x3), (45, x2), (44, (τ 38)), (43, x1), (42, (τ 38)), (41, (τ 5)), (6, (τ 38)), (40, (τ 38)), (39, (.bool true)), (39, x0)]) ds s8)
 (Q (.exit 0) (U τ [(39, (.bool false)), (39, x0)]) ds s0)
theorem Z4e (I : Prims) (rnd : Option Nat) (τ : Tau) (ds : List Deferred) (s : St) (Q : Ex → WK) : xp I rnd 131 Z5t Zg9 [] τ [] ds s (lift Q) = Zo0 I rnd τ ds s Q := by kernel_rfl
theorem Z47 [Memo] (ro : Nat) (rnd : Option Nat) (τ : Tau) (ds : List Deferred) (s : St) (Q : Ex → WK) : wp P ro 131 rnd Zg9 τ ds s Q = Zo0 (Zao P ro) rnd τ ds s Q := Zc8 rnd 131 P ro (Z4e _ rnd τ ds s Q)
def Zks (I : Prims) (rnd : Option Nat) (τ : Tau) (ds : List Deferred) (s : St) (Q : Ex → WK) : Prop :=
 I.wop (.binOp .lss 3 (.const (τ 66)) (.const (τ 65)) 3) 4 s fun x0 s0 =>
 wdec x0
 (I.wop (.load 71 (.const (τ 4))) 71 s0 fun x1 s1 =>
 I.loop 131 rnd Zb6 (U τ [(70, (.int .i64 0)), (69, x1), (7, (τ 66)), (68, (τ 66)), (67, (.bool true)), (67, x0)]) ds s1 (fun τ ds s => ((lift Q) .ret) τ [] ds s) [(4, fun τ2 ds2 s2 =>
 I.wop (.load 71 (.const (τ2 4))) 71 s2 fun x3 s3 =>
 I.loop 131 rnd Zbz (U τ2 [(83, (.int .i64 0)), (82, x3)]) ds2 s3 (fun τ ds s => ((lift Q) .ret) τ [] ds s) [(6, fun τ4 ds4 s4 =>
 I.wop (.load 23 (.const (τ4 1))) 23 s4 fun x5 s5 =>
 I.call 54 [x5] s5 fun x6 s6 =>
 I.loop 131 rnd Zby (U τ4 [(101, (.int .i64 0)), (100, x6), (99, x5)]) ds4 s6 (fun τ ds s => ((lift Q) .ret) τ [] ds s) [(8, fun τ7 ds7 s7 =>
 I.wop (.binOp .add 3 (.const (τ7 66)) (.const (.int .i64 1)) 3) 3 s7 fun x8 s8 =>
 Q .normal (U τ7 [(66, x8), (119, x8)]) ds7 s8)])])])
 (Q (.exit 2) (U τ [(67, (.bool false)), (67, x0)]) ds s0)
theorem Zw3 (I : Prims) (rnd : Option Nat) (τ : Tau) (ds : List Deferred) (s : St) (Q : Ex → WK) : xp I rnd 131 Zyn Ze3 [] τ [] ds s (lift Q) = Zks I rnd τ ds s Q := by kernel_rfl
theorem Zx2 [Memo] (ro : Nat) (rnd : Option Nat) (τ : Tau) (ds : List Deferred) (s : St) (Q : Ex → WK) : wp P ro 131 rnd Ze3 τ ds s Q = Zks (Zao P ro) rnd τ ds s Q := Zc8 rnd 131 P ro (Zw3 _ rnd τ ds s Q)
def Zkr (I : Prims) (rnd : Option Nat) (τ : Tau) (ds : List Deferred) (s : St) (Q : Ex → WK) : Prop :=
 I.wop (.binOp .lss 3 (.const (τ 122)) (.const (τ 121)) 3) 0 s fun x0 s0 =>
 wdec x0
 (I.wop (.indexAddr 24 (.const (τ 120)) (.const (τ 122))) 0 s0 fun x1 s1 =>
 I.wop (.load 30 (.const x1)) 30 s1 fun x2 s2 =>
 I.wop (.alloc 30) 0 s2 fun x3 s3 =>
 I.wop (.store 30 (.const x3) (.const x2)) 0 s3 fun _ s4 =>
 I.wop (.load 30 (.const x3)) 30 s4 fun x5 s5 =>
 Zio I (τ 0) [x5] s5 fun x6 s6 =>
 I.wop (.unOp .not 4 (.const x6)) 4 s6 fun x7 s7 =>
 wdec x7
 (Q .ret (U τ [(129, (.bool true)), (129, x7), (128, x6), (127, x5), (126, (τ 0)), (14, x3), (125, x2), (124, x1), (123, (.bool true)), (123, x0)]) ds s7)
 (I.wop (.binOp .add 3 (.const (τ 122)) (.const (.int .i64 1)) 3) 3 s7 fun x8 s8 =>
 Q .normal (U τ [(122, x8), (130, x8), (129, (.bool false)), (129, x7), (128, x6), (127, x5), (126, (τ 0)), (14, x3), (125, x2), (124, x1), (123, (.bool true)), (123, x0)]) ds s8))
 (Q (.exit 10) (U τ [(123, (.bool false)), (123, x0)]) ds s0)
theorem Zw2 (I : Prims) (rnd : Option Nat) (τ : Tau) (ds : List Deferred) (s : St) (Q : Ex → WK) : xp I rnd 131 Zym Zgf [] τ [] ds s (lift Q) = Zkr I rnd τ ds s Q := by kernel_rfl
theorem Zx1 [Memo] (ro : Nat) (rnd : Option Nat) (τ : Tau) (ds : List Deferred) (s : St) (Q : Ex → WK) : wp P ro 131 rnd Zgf τ ds s Q = Zkr (Zao P ro) rnd τ ds s Q := Zc8 rnd 131 P ro (Zw2 _ rnd τ ds s Q)
def Zd8 (I : Prims) (rnd : Option Nat) (τ : Tau) (ds : List Deferred) (s : St) (Q : Ex → WK) : Prop :=
 I.wop (.binOp .lss 3 (.const (τ 70)) (.const (.int .i64 6)) 3) 0 s fun x0 s0 =>
 wdec x0
 (I.wop (.index 71 (.const (τ 69)) (.const (τ 70))) 3 s0 fun x1 s1 =>
 I.wop (.build 30 ⟨[(0, (.const (.int .u8 8))), (1, (.const (τ 7))), (2, (.const (τ 70))), (3, (.const x1))]⟩) 30 s1 fun x2 s2 =>
 I.wop (.buildSlice 24 1 ⟨[(0, (.const x2))]⟩) 24 s2 fun x3 s3 =>
 I.wop (.call ⟨.builtin .append, ⟨[(.const (τ 5)), (.const x3)]⟩, #[24, 24]⟩) 24 s3 fun x4 s4 =>
 I.wop (.binOp .add 3 (.const (τ 70)) (.const (.int .i64 1)) 3) 3 s4 fun x5 s5 =>
 Q .normal (U τ [(70, x5), (81, x5), (5, x4), (80, x4), (79, x3), (78, x2), (77, x1), (76, (τ 70)), (75, (τ 7)), (74, (τ 5)), (9, x1), (8, (τ 70)), (73, x1), (72, (τ 70)), (71, (.bool true)), (71, x0)]) ds s5)
 (Q (.exit 4) (U τ [(71, (.bool false)), (71, x0)]) ds s0)
theorem Zkn (I : Prims) (rnd : Option Nat) (τ : Tau) (ds : List Deferred) (s : St) (Q : Ex → WK) : xp I rnd 131 Zlb Zb6 [] τ [] ds s (lift Q) = Zd8 I rnd τ ds s Q := by kernel_rfl
theorem Zk7 [Memo] (ro : Nat) (rnd : Option Nat) (τ : Tau) (ds : List Deferred) (s : St) (Q : Ex → WK) : wp P ro 131 rnd Zb6 τ ds s Q = Zd8 (Zao P ro) rnd τ ds s Q := Zc8 rnd 131 P ro (Zkn _ rnd τ ds s Q)
def Zdz (I : Prims) (rnd : Option Nat) (τ : Tau) (ds : List Deferred) (s : St) (Q : Ex → WK) : Prop :=
 I.wop (.binOp .lss 3 (.const (τ 83)) (.const (.int .i64 6)) 3) 0 s fun x0 s0 =>
 wdec x0
 (I.wop (.index 71 (.const (τ 82)) (.const (τ 83))) 3 s0 fun x1 s1 =>
 I.wop (.fieldAddr 102 (.const (τ 3)) 1) 0 s1 fun x2 s2 =>
 I.wop (.load 3 (.const x2)) 3 s2 fun x3 s3 =>
 I.wop (.binOp .mul 3 (.const (.int .i64 2)) (.const x3) 3) 3 s3 fun x4 s4 =>
 I.call 72 [x1, x4] s4 fun x5 s5 =>
 I.wop (.build 30 ⟨[(0, (.const (.int .u8 9))), (1, (.const (τ 7))), (2, (.const (τ 83))), (3, (.const x5))]⟩) 30 s5 fun x6 s6 =>
 I.wop (.buildSlice 24 1 ⟨[(0, (.const x6))]⟩) 24 s6 fun x7 s7 =>
 I.wop (.call ⟨.builtin .append, ⟨[(.const (τ 5)), (.const x7)]⟩, #[24, 24]⟩) 24 s7 fun x8 s8 =>
 I.wop (.binOp .add 3 (.const (τ 83)) (.const (.int .i64 1)) 3) 3 s8 fun x9 s9 =>
 Q .normal (U τ [(83, x9), (98, x9), (5, x8), (97, x8), (96, x7), (95, x6), (94, x5), (93, x4), (92, x3), (91, x2), (90, x1), (89, (τ 83)), (88, (τ 7)), (87, (τ 5)), (11, x1), (10, (τ 83)), (86, x1), (85, (τ 83)), (84, (.bool true)), (84, x0)]) ds s9)
 (Q (.exit 6) (U τ [(84, (.bool false)), (84, x0)]) ds s0)
theorem Zj2 (I : Prims) (rnd : Option Nat) (τ : Tau) (ds : List Deferred) (s : St) (Q : Ex → WK) : xp I rnd 131 Zkj Zbz [] τ [] ds s (lift Q) = Zdz I rnd τ ds s Q := by kernel_rfl
theorem Zj7 [Memo] (ro : Nat) (rnd : Option Nat) (τ : Tau) (ds : List Deferred) (s : St) (Q : Ex → WK) : wp P ro 131 rnd Zbz τ ds s Q = Zdz (Zao P ro) rnd τ ds s Q := Zc8 rnd 131 P ro (Zj2 _ rnd τ ds s Q)
def Zdy (I : Prims) (rnd : Option Nat) (τ : Tau) (ds : List Deferred) (s : St) (Q : Ex → WK) : Prop :=
 I.wop (.binOp .lss 3 (.const (τ 101)) (.const (τ 100)) 3) 4 s fun x0 s0 =>
 wdec x0
 (I.wop (.build 30 ⟨[(0, (.const (.int .u8 10))), (1, (.const (τ 7))), (2, (.const (τ 101))), (3, (.const (.int .i64 8)))]⟩) 30 s0 fun x1 s1 =>
 I.wop (.load 23 (.const (τ 1))) 23 s1 fun x2 s2 =>
 I.call 73 [x2, (τ 101)] s2 fun x3 s3 =>
 I.wop (.field 102 (.const x3) 1) 3 s3 fun x4 s4 =>
 I.wop (.binOp .mul 3 (.const (.int .i64 2)) (.const x4) 3) 3 s4 fun x5 s5 =>
 I.wop (.build 30 ⟨[(0, (.const (.int .u8 11))), (1, (.const (τ 7))), (2, (.const (τ 101))), (3, (.const x5))]⟩) 30 s5 fun x6 s6 =>
 I.wop (.buildSlice 24 2 ⟨[(0, (.const x1)), (1, (.const x6))]⟩) 24 s6 fun x7 s7 =>
 I.wop (.call ⟨.builtin .append, ⟨[(.const (τ 5)), (.const x7)]⟩, #[24, 24]⟩) 24 s7 fun x8 s8 =>
 I.wop (.binOp .add 3 (.const (τ 101)) (.const (.int .i64 1)) 3) 3 s8 fun x9 s9 =>
 Q .normal (U τ [(101, x9), (118, x9), (5, x8), (117, x8), (116, x7), (115, x6), (114, x5), (113, x4), (112, x3), (111, (τ 101)), (110, x2), (109, (τ 101)), (108, (τ 7)), (107, x1), (106, (τ 101)), (105, (τ 7)), (104, (τ 5)), (12, (τ 101)), (103, (τ 101)), (102, (.bool true)), (102, x0)]) ds s9)
 (Q (.exit 8) (U τ [(102, (.bool false)), (102, x0)]) ds s0)
theorem Zj1 (I : Prims) (rnd : Option Nat) (τ : Tau) (ds : List Deferred) (s : St) (Q : Ex → WK) : xp I rnd 131 Zki Zby [] τ [] ds s (lift Q) = Zdy I rnd τ ds s Q := by kernel_rfl
theorem Zj6 [Memo] (ro : Nat) (rnd : Option Nat) (τ : Tau) (ds : List Deferred) (s : St) (Q : Ex → WK) : wp P ro 131 rnd Zby τ ds s Q = Zdy (Zao P ro) rnd τ ds s Q := Zc8 rnd 131 P ro (Zj1 _ rnd τ ds s Q)
def v69 (I : Prims) (a0 a1 : Value) (si : St) (K : Value → St → Prop) : Prop :=
 I.wop (.load 23 (.const a1)) 23 (ent si) fun x0 s0 =>
 veq x0 x0 = true ∧ I.wop (.load 23 (.const a1)) 23 s0 fun x1 s1 =>
 veq x1 x1 = true ∧ I.wop (.alloc 102) 0 s1 fun x2 s2 =>
 Zcm s1 s2 ∧ I.wop (.alloc 71) 0 s2 fun x3 s3 =>
 Zcm s2 s3 ∧ I.call 70 [x0] s3 fun x4 s4 =>
 Keeps [(5, .blk s2.n), (4, .blk s1.n), (2, .ptr a1)] s3 s4 ∧ I.call 71 [x1] s4 fun x5 s5 =>
 Keeps [(5, .blk s2.n), (4, .blk s1.n)] s4 s5 ∧ I.wop (.store 102 (.const x2) (.const x4)) 0 s5 fun _ s6 =>
 s5.n ≤ s6.n ∧ I.wop (.store 71 (.const x3) (.const x5)) 0 s6 fun _ s7 =>
 s6.n ≤ s7.n ∧ I.wop (.fieldAddr 102 (.const x2) 0) 0 s7 fun x8 s8 =>
 I.wop (.load 3 (.const x8)) 3 s8 fun x9 s9 =>
 veq x9 x9 = true ∧ I.wop (.binOp .mul 3 (.const (.int .i64 2)) (.const x9) 3) 3 s9 fun x10 s10 =>
 I.wop (.build 30 ⟨[(0, (.const (.int .u8 1))), (3, (.const x10))]⟩) 30 s10 fun x11 s11 =>
 I.wop (.build 30 ⟨[(0, (.const (.int .u8 2))), (3, (.const (.int .i64 1)))]⟩) 30 s11 fun x12 s12 =>
 I.wop (.fieldAddr 23 (.const a1) 7) 0 s12 fun x13 s13 =>
 I.wop (.load 3 (.const x13)) 3 s13 fun x14 s14 =>
 veq x14 x14 = true ∧ I.wop (.fieldAddr 102 (.const x2) 0) 0 s14 fun x15 s15 =>
 I.wop (.load 3 (.const x15)) 3 s15 fun x16 s16 =>
 veq x16 x16 = true ∧ I.wop (.binOp .mul 3 (.const (.int .i64 2)) (.const x16) 3) 3 s16 fun x17 s17 =>
 I.wop (.fieldAddr 102 (.const x2) 0) 0 s17 fun x18 s18 =>
 I.wop (.load 3 (.const x18)) 3 s18 fun x19 s19 =>
 veq x19 x19 = true ∧ I.wop (.binOp .mul 3 (.const (.int .i64 2)) (.const x19) 3) 3 s19 fun x20 s20 =>
 I.wop (.build 30 ⟨[(0, (.const (.int .u8 4))), (3, (.const x20))]⟩) 30 s20 fun x21 s21 =>
 I.call 72 [x14, x17] s21 fun x22 s22 =>
 Keeps [(13, .ptr x18), (1, .ptr x8)] s21 s22 ∧ I.wop (.build 30 ⟨[(0, (.const (.int .u8 3))), (3, (.const x22))]⟩) 30 s22 fun x23 s23 =>
 I.wop (.buildSlice 24 4 ⟨[(0, (.const x11)), (1, (.const x12)), (2, (.const x23)), (3, (.const x21))]⟩) 24 s23 fun x24 s24 =>
 Zcm s23 s24 ∧ I.wop (.load 23 (.const a1)) 23 s24 fun x25 s25 =>
 I.call 54 [x25] s25 fun x26 s26 =>
 I.loop 131 none Zg9 (U Zb2 [(38, (.int .i64 0)), (37, x26), (36, x25), (5, x24), (35, x24), (30, x23), (29, x22), (34, x21), (33, x20), (32, x19), (31, x18), (28, x17), (27, x16), (26, x15), (25, x14), (24, x13), (23, x12), (22, x11), (21, x10), (20, x9), (19, x8), (18, x5), (16, x4), (4, x3), (3, x2), (17, x1), (15, x0), (0, a0), (1, a1)]) [] s26 (fun τ ds s => ((Za5 I si Tryd.f69.results.toList K) .ret) τ [] ds s) [(0, fun τ27 ds27 s27 =>
 I.wop (.fieldAddr 23 (.const (τ27 1)) 1) 0 s27 fun x28 s28 =>
 I.wop (.load 3 (.const x28)) 3 s28 fun x29 s29 =>
 veq x29 x29 = true ∧ I.wop (.load 23 (.const (τ27 1))) 23 s29 fun x30 s30 =>
 veq x30 x30 = true ∧ I.wop (.build 30 ⟨[(0, (.const (.int .u8 7))), (3, (.const (.int .i64 1)))]⟩) 30 s30 fun x31 s31 =>
 I.call 54 [x30] s31 fun x32 s32 =>
 Keeps [(2, .ptr x28)] s31 s32 ∧ I.wop (.binOp .mul 3 (.const (.int .i64 3)) (.const x32) 3) 3 s32 fun x33 s33 =>
 I.wop (.binOp .sub 3 (.const x29) (.const x33) 3) 3 s33 fun x34 s34 =>
 I.wop (.binOp .shl 3 (.const (.int .i64 1)) (.const x34) 3) 3 s34 fun x35 s35 =>
 I.wop (.build 30 ⟨[(0, (.const (.int .u8 6))), (3, (.const x35))]⟩) 30 s35 fun x36 s36 =>
 I.wop (.buildSlice 24 2 ⟨[(0, (.const x36)), (1, (.const x31))]⟩) 24 s36 fun x37 s37 =>
 Zcm s36 s37 ∧ I.wop (.call ⟨.builtin .append, ⟨[(.const (τ27 5)), (.const x37)]⟩, #[24, 24]⟩) 24 s37 fun x38 s38 =>
 s37.n ≤ s38.n ∧ I.wop (.fieldAddr 23 (.const (τ27 1)) 4) 0 s38 fun x39 s39 =>
 I.wop (.load 3 (.const x39)) 3 s39 fun x40 s40 =>
 I.loop 131 none Ze3 (U τ27 [(66, (.int .i64 0)), (65, x40), (64, x39), (5, x38), (63, x38), (62, x37), (60, x36), (59, x35), (58, x34), (57, x33), (56, x32), (61, x31), (55, x30), (54, x29), (53, x28), (52, (τ27 5))]) ds27 s40 (fun τ ds s => ((Za5 I si Tryd.f69.results.toList K) .ret) τ [] ds s) [(2, fun τ41 ds41 s41 =>
 I.wop (.call ⟨.builtin .len, ⟨[(.const (τ41 5))]⟩, #[24]⟩) 3 s41 fun x42 s42 =>
 I.loop 131 none Zgf (U τ41 [(122, (.int .i64 0)), (121, x42), (120, (τ41 5))]) ds41 s42 (fun τ ds s => ((Za5 I si Tryd.f69.results.toList K) .ret) τ [] ds s) [(10, fun _ ds43 s43 =>
 Zbh I ds43 s43 fun s44 =>
 I.fin si K (.tuple (.mk [])) s44)]), (4, fun _ _ _ =>
 False), (6, fun _ _ _ =>
 False), (8, fun _ _ _ =>
 False)])]
theorem x69 (I : Prims) (a0 a1 : Value) (si : St) (K : Value → St → Prop) : Zbs I 131 k69 Tryd.f69 c69 [a0, a1] si K = v69 I a0 a1 si K := by kernel_rfl
theorem n69 [Memo] (ro : Nat) (a0 a1 : Value) (si : St) (K : Value → St → Prop) : Zbr P ro 131 Tryd.f69 c69 [a0, a1] si K = v69 (Zao P ro) a0 a1 si K := Zap 131 P ro (x69 _ a0 a1 si K)
theorem r69 (I : Prims) (si : St) (K : Value → St → Prop) (τ : Tau) (ds : List Deferred) (s : St) : Za5 I si Tryd.f69.results.toList K .ret τ [] ds s =
 (Zbh I ds s fun s0 =>
 I.fin si K (.tuple (.mk [])) s0) := by kernel_rfl
noncomputable def c70 : Code := Za7 Tryd.f70
def k70 : List (List Nat) := []
theorem b70 : BodyOk P 10 1 70 Tryd.f70 c70 := ⟨Tryd.func70, by kernel_rfl, by kernel_rfl, by kernel_rfl, by kernel_rfl, by kernel_rfl⟩
def v70 (I : Prims) (a0 : Value) (si : St) (K : Value → St → Prop) : Prop :=
 I.wop (.box 23 (.const a0)) 0 (ent si) fun x0 s0 =>
 I.wop (.alloc 102) 0 s0 fun x1 s1 =>
 I.wop (.load 23 (.const x0)) 23 s1 fun x2 s2 =>
 I.wop (.fieldAddr 23 (.const x0) 1) 0 s2 fun x3 s3 =>
 I.wop (.load 3 (.const x3)) 3 s3 fun x4 s4 =>
 I.wop (.fieldAddr 23 (.const x0) 2) 0 s4 fun x5 s5 =>
 I.wop (.load 3 (.const x5)) 3 s5 fun x6 s6 =>
 I.wop (.binOp .add 3 (.const x4) (.const x6) 3) 3 s6 fun x7 s7 =>
 I.call 95 [x2, x7] s7 fun x8 s8 =>
 I.wop (.store 102 (.const x1) (.const x8)) 0 s8 fun _ s9 =>
 I.wop (.load 102 (.const x1)) 102 s9 fun x10 _ =>
 I.fin si K x10 s9
theorem x70 (I : Prims) (a0 : Value) (si : St) (K : Value → St → Prop) : Zbs I 10 k70 Tryd.f70 c70 [a0] si K = v70 I a0 si K := by kernel_rfl
theorem n70 [Memo] (ro : Nat) (a0 : Value) (si : St) (K : Value → St → Prop) : Zbr P ro 10 Tryd.f70 c70 [a0] si K = v70 (Zao P ro) a0 si K := Zap 10 P ro (x70 _ a0 si K)
noncomputable def c71 : Code := Za7 Tryd.f71
def k71 : List (List Nat) := []
theorem b71 : BodyOk P 16 1 71 Tryd.f71 c71 := ⟨Tryd.func71, by kernel_rfl, by kernel_rfl, by kernel_rfl, by kernel_rfl, by kernel_rfl⟩
def v71 (I : Prims) (a0 : Value) (si : St) (K : Value → St → Prop) : Prop :=
 I.wop (.box 23 (.const a0)) 0 (ent si) fun x0 s0 =>
 I.wop (.alloc 71) 0 s0 fun x1 s1 =>
 I.wop (.fieldAddr 23 (.const x0) 5) 0 s1 fun x2 s2 =>
 I.wop (.load 3 (.const x2)) 3 s2 fun x3 s3 =>
 I.wop (.fieldAddr 23 (.const x0) 6) 0 s3 fun x4 s4 =>
 I.wop (.load 3 (.const x4)) 3 s4 fun x5 s5 =>
 I.wop (.fieldAddr 23 (.const x0) 7) 0 s5 fun x6 s6 =>
 I.wop (.load 3 (.const x6)) 3 s6 fun x7 s7 =>
 I.wop (.fieldAddr 23 (.const x0) 8) 0 s7 fun x8 s8 =>
 I.wop (.load 3 (.const x8)) 3 s8 fun x9 s9 =>
 I.wop (.fieldAddr 23 (.const x0) 6) 0 s9 fun x10 s10 =>
 I.wop (.load 3 (.const x10)) 3 s10 fun Zir s11 =>
 I.wop (.fieldAddr 23 (.const x0) 7) 0 s11 fun x12 s12 =>
 I.wop (.load 3 (.const x12)) 3 s12 fun x13 s13 =>
 I.wop (.build 71 ⟨[(0, (.const x3)), (1, (.const x5)), (2, (.const x7)), (3, (.const x9)), (4, (.const Zir)), (5, (.const x13))]⟩) 71 s13 fun x14 s14 =>
 I.wop (.store 71 (.const x1) (.const x14)) 0 s14 fun _ s15 =>
 I.wop (.load 71 (.const x1)) 71 s15 fun x16 _ =>
 I.fin si K x16 s15
theorem x71 (I : Prims) (a0 : Value) (si : St) (K : Value → St → Prop) : Zbs I 16 k71 Tryd.f71 c71 [a0] si K = v71 I a0 si K := by kernel_rfl
theorem n71 [Memo] (ro : Nat) (a0 : Value) (si : St) (K : Value → St → Prop) : Zbr P ro 16 Tryd.f71 c71 [a0] si K = v71 (Zao P ro) a0 si K := Zap 16 P ro (x71 _ a0 si K)
noncomputable def c72 : Code := Za7 Tryd.f72
def k72 : List (List Nat) := []
theorem b72 : BodyOk P 8 2 72 Tryd.f72 c72 := ⟨Tryd.func72, by kernel_rfl, by kernel_rfl, by kernel_rfl, by kernel_rfl, by kernel_rfl⟩
def v72 (I : Prims) (a0 a1 : Value) (si : St) (K : Value → St → Prop) : Prop :=
 I.wop (.binOp .eql 3 (.const a0) (.const (.int .i64 0)) 3) 4 (ent si) fun x0 s0 =>
 wdec x0
 (I.fin si K (.int .i64 0) s0)
 (I.fin si K a1 s0)
theorem x72 (I : Prims) (a0 a1 : Value) (si : St) (K : Value → St → Prop) : Zbs I 8 k72 Tryd.f72 c72 [a0, a1] si K = v72 I a0 a1 si K := by kernel_rfl
theorem n72 [Memo] (ro : Nat) (a0 a1 : Value) (si : St) (K : Value → St → Prop) : Zbr P ro 8 Tryd.f72 c72 [a0, a1] si K = v72 (Zao P ro) a0 a1 si K := Zap 8 P ro (x72 _ a0 a1 si K)
noncomputable def c73 : Code := Za7 Tryd.f73
def k73 : List (List Nat) := []
theorem b73 : BodyOk P 16 2 73 Tryd.f73 c73 := ⟨Tryd.func73, by kernel_rfl, by kernel_rfl, by kernel_rfl, by kernel_rfl, by kernel_rfl⟩
def v73 (I : Prims) (a0 a1 : Value) (si : St) (K : Value → St → Prop) : Prop :=
 I.wop (.box 23 (.const a0)) 0 (ent si) fun x0 s0 =>
 I.wop (.alloc 102) 0 s0 fun x1 s1 =>
 I.wop (.load 23 (.const x0)) 23 s1 fun x2 s2 =>
 I.wop (.fieldAddr 23 (.const x0) 1) 0 s2 fun x3 s3 =>
 I.wop (.load 3 (.const x3)) 3 s3 fun x4 s4 =>
 I.wop (.fieldAddr 23 (.const x0) 2) 0 s4 fun x5 s5 =>
 I.wop (.load 3 (.const x5)) 3 s5 fun x6 s6 =>
 I.wop (.binOp .add 3 (.const x4) (.const x6) 3) 3 s6 fun x7 s7 =>
 I.wop (.binOp .add 3 (.const a1) (.const (.int .i64 1)) 3) 3 s7 fun x8 s8 =>
 I.wop (.binOp .mul 3 (.const (.int .i64 3)) (.const x8) 3) 3 s8 fun x9 s9 =>
 I.wop (.binOp .sub 3 (.const x7) (.const x9) 3) 3 s9 fun x10 s10 =>
 I.call 95 [x2, x10] s10 fun x11 s11 =>
 I.wop (.store 102 (.const x1) (.const x11)) 0 s11 fun _ s12 =>
 I.wop (.load 102 (.const x1)) 102 s12 fun x13 _ =>
 I.fin si K x13 s12
theorem x73 (I : Prims) (a0 a1 : Value) (si : St) (K : Value → St → Prop) : Zbs I 16 k73 Tryd.f73 c73 [a0, a1] si K = v73 I a0 a1 si K := by kernel_rfl
theorem n73 [Memo] (ro : Nat) (a0 a1 : Value) (si : St) (K : Value → St → Prop) : Zbr P ro 16 Tryd.f73 c73 [a0, a1] si K = v73 (Zao P ro) a0 a1 si K := Zap 16 P ro (x73 _ a0 a1 si K)
noncomputable def c74 : Code := Za7 Tryd.f74
def k74 : List (List Nat) := []
theorem b74 : BodyOk P 10 1 74 Tryd.f74 c74 := ⟨Tryd.func74, by kernel_rfl, by kernel_rfl, by kernel_rfl, by kernel_rfl, by kernel_rfl⟩
def v74 (I : Prims) (a0 : Value) (si : St) (K : Value → St → Prop) : Prop :=
 I.wop (.alloc 107) 0 (ent si) fun x0 s0 =>
 I.call 40 [a0] s0 fun x1 s1 =>
 I.wop (.unOp .not 4 (.const x1)) 4 s1 fun x2 s2 =>
 wdec x2
 (I.wop (.build 107 ⟨[]⟩) 107 s2 fun x3 s3 =>
 I.wop (.store 107 (.const x0) (.const x3)) 0 s3 fun _ s4 =>
 I.wop (.load 107 (.const x0)) 107 s4 fun x5 _ =>
 I.fin si K x5 s4)
 (I.wop (.indexAddr 129 (.const (.pointer (some ⟨0, 0, none⟩))) (.const a0)) 0 s2 fun x6 s6 =>
 I.wop (.load 107 (.const x6)) 107 s6 fun x7 s7 =>
 I.wop (.store 107 (.const x0) (.const x7)) 0 s7 fun _ s8 =>
 I.wop (.load 107 (.const x0)) 107 s8 fun x9 _ =>
 I.fin si K x9 s8)
theorem x74 (I : Prims) (a0 : Value) (si : St) (K : Value → St → Prop) : Zbs I 10 k74 Tryd.f74 c74 [a0] si K = v74 I a0 si K := by kernel_rfl
theorem n74 [Memo] (ro : Nat) (a0 : Value) (si : St) (K : Value → St → Prop) : Zbr P ro 10 Tryd.f74 c74 [a0] si K = v74 (Zao P ro) a0 si K := Zap 10 P ro (x74 _ a0 si K)
noncomputable def c75 : Code := Za7 Tryd.f75
def k75 : List (List Nat) := []
theorem b75 : BodyOk P 9 2 75 Tryd.f75 c75 := ⟨Tryd.func75, by kernel_rfl, by kernel_rfl, by kernel_rfl, by kernel_rfl, by kernel_rfl⟩
def v75 (I : Prims) (a0 a1 : Value) (si : St) (K : Value → St → Prop) : Prop :=
 I.wop (.box 30 (.const a1)) 0 (ent si) fun _ s0 =>
 I.wop (.alloc 82) 0 s0 fun x1 s1 =>
 I.wop (.nilCheck (.const a0)) 0 s1 fun x2 s2 =>
 I.wop (.fieldAddr 39 (.const x2) 0) 0 s2 fun x3 s3 =>
 I.wop (.build 82 ⟨[(1, (.const x3))]⟩) 82 s3 fun x4 s4 =>
 I.wop (.store 82 (.const x1) (.const x4)) 0 s4 fun _ s5 =>
 I.wop (.load 82 (.const x1)) 82 s5 fun x6 _ =>
 I.fin si K x6 s5
theorem x75 (I : Prims) (a0 a1 : Value) (si : St) (K : Value → St → Prop) : Zbs I 9 k75 Tryd.f75 c75 [a0, a1] si K = v75 I a0 a1 si K := by kernel_rfl
theorem n75 [Memo] (ro : Nat) (a0 a1 : Value) (si : St) (K : Value → St → Prop) : Zbr P ro 9 Tryd.f75 c75 [a0, a1] si K = v75 (Zao P ro) a0 a1 si K := Zap 9 P ro (x75 _ a0 a1 si K)
noncomputable def c76 : Code := Za7 Tryd.f76
def k76 : List (List Nat) := []
theorem b76 : BodyOk P 9 2 76 Tryd.f76 c76 := ⟨Tryd.func76, by kernel_rfl, by kernel_rfl, by kernel_rfl, by kernel_rfl, by kernel_rfl⟩
def v76 (I : Prims) (a0 a1 : Value) (si : St) (K : Value → St → Prop) : Prop :=
 I.wop (.box 30 (.const a1)) 0 (ent si) fun _ s0 =>
 I.wop (.alloc 82) 0 s0 fun x1 s1 =>
 I.wop (.nilCheck (.const a0)) 0 s1 fun x2 s2 =>
 I.wop (.fieldAddr 39 (.const x2) 3) 0 s2 fun x3 s3 =>
 I.wop (.build 82 ⟨[(2, (.const x3))]⟩) 82 s3 fun x4 s4 =>
 I.wop (.store 82 (.const x1) (.const x4)) 0 s4 fun _ s5 =>
 I.wop (.load 82 (.const x1)) 82 s5 fun x6 _ =>
 I.fin si K x6 s5
theorem x76 (I : Prims) (a0 a1 : Value) (si : St) (K : Value → St → Prop) : Zbs I 9 k76 Tryd.f76 c76 [a0, a1] si K = v76 I a0 a1 si K := by kernel_rfl
theorem n76 [Memo] (ro : Nat) (a0 a1 : Value) (si : St) (K : Value → St → Prop) : Zbr P ro 9 Tryd.f76 c76 [a0, a1] si K = v76 (Zao P ro) a0 a1 si K := Zap 9 P ro (x76 _ a0 a1 si K)
noncomputable def c77 : Code := Za7 Tryd.f77
def k77 : List (List Nat) := []
theorem b77 : BodyOk P 9 2 77 Tryd.f77 c77 := ⟨Tryd.func77, by kernel_rfl, by kernel_rfl, by kernel_rfl, by kernel_rfl, by kernel_rfl⟩
def v77 (I : Prims) (a0 a1 : Value) (si : St) (K : Value → St → Prop) : Prop :=
 I.wop (.box 30 (.const a1)) 0 (ent si) fun _ s0 =>
 I.wop (.alloc 82) 0 s0 fun x1 s1 =>
 I.wop (.nilCheck (.const a0)) 0 s1 fun x2 s2 =>
 I.wop (.fieldAddr 39 (.const x2) 1) 0 s2 fun x3 s3 =>
 I.wop (.build 82 ⟨[(1, (.const x3))]⟩) 82 s3 fun x4 s4 =>
 I.wop (.store 82 (.const x1) (.const x4)) 0 s4 fun _ s5 =>
 I.wop (.load 82 (.const x1)) 82 s5 fun x6 _ =>
 I.fin si K x6 s5
theorem x77 (I : Prims) (a0 a1 : Value) (si : St) (K : Value → St → Prop) : Zbs I 9 k77 Tryd.f77 c77 [a0, a1] si K = v77 I a0 a1 si K := by kernel_rfl
theorem n77 [Memo] (ro : Nat) (a0 a1 : Value) (si : St) (K : Value → St → Prop) : Zbr P ro 9 Tryd.f77 c77 [a0, a1] si K = v77 (Zao P ro) a0 a1 si K := Zap 9 P ro (x77 _ a0 a1 si K)
noncomputable def c78 : Code := Za7 Tryd.f78
def k78 : List (List Nat) := []
theorem b78 : BodyOk P 9 2 78 Tryd.f78 c78 := ⟨Tryd.func78, by kernel_rfl, by kernel_rfl, by kernel_rfl, by kernel_rfl, by kernel_rfl⟩
def v78 (I : Prims) (a0 a1 : Value) (si : St) (K : Value → St → Prop) : Prop :=
 I.wop (.box 30 (.const a1)) 0 (ent si) fun _ s0 =>
 I.wop (.alloc 82) 0 s0 fun x1 s1 =>
 I.wop (.nilCheck (.const a0)) 0 s1 fun x2 s2 =>
 I.wop (.fieldAddr 39 (.const x2) 2) 0 s2 fun x3 s3 =>
 I.wop (.build 82 ⟨[(1, (.const x3))]⟩) 82 s3 fun x4 s4 =>
 I.wop (.store 82 (.const x1) (.const x4)) 0 s4 fun _ s5 =>
 I.wop (.load 82 (.const x1)) 82 s5 fun x6 _ =>
 I.fin si K x6 s5
theorem x78 (I : Prims) (a0 a1 : Value) (si : St) (K : Value → St → Prop) : Zbs I 9 k78 Tryd.f78 c78 [a0, a1] si K = v78 I a0 a1 si K := by kernel_rfl
theorem n78 [Memo] (ro : Nat) (a0 a1 : Value) (si : St) (K : Value → St → Prop) : Zbr P ro 9 Tryd.f78 c78 [a0, a1] si K = v78 (Zao P ro) a0 a1 si K := Zap 9 P ro (x78 _ a0 a1 si K)
noncomputable def c79 : Code := Za7 Tryd.f79
def k79 : List (List Nat) := []
theorem b79 : BodyOk P 13 2 79 Tryd.f79 c79 := ⟨Tryd.func79, by kernel_rfl, by kernel_rfl, by kernel_rfl, by kernel_rfl, by kernel_rfl⟩
def v79 (I : Prims) (a0 a1 : Value) (si : St) (K : Value → St → Prop) : Prop :=
 I.wop (.box 30 (.const a1)) 0 (ent si) fun x0 s0 =>
 I.wop (.alloc 82) 0 s0 fun x1 s1 =>
 I.wop (.nilCheck (.const a0)) 0 s1 fun x2 s2 =>
 I.wop (.fieldAddr 39 (.const x2) 4) 0 s2 fun x3 s3 =>
 I.wop (.load 35 (.const x3)) 35 s3 fun x4 s4 =>
 veq x4 x4 = true ∧ I.wop (.fieldAddr 30 (.const x0) 2) 0 s4 fun x5 s5 =>
 I.wop (.load 3 (.const x5)) 3 s5 fun x6 s6 =>
 veq x6 x6 = true ∧ I.wop (.indexAddr 35 (.const x4) (.const x6)) 0 s6 fun x7 s7 =>
 I.wop (.build 82 ⟨[(1, (.const x7))]⟩) 82 s7 fun x8 s8 =>
 I.wop (.store 82 (.const x1) (.const x8)) 0 s8 fun _ s9 =>
 I.wop (.load 82 (.const x1)) 82 s9 fun x10 _ =>
 I.fin si K x10 s9
theorem x79 (I : Prims) (a0 a1 : Value) (si : St) (K : Value → St → Prop) : Zbs I 13 k79 Tryd.f79 c79 [a0, a1] si K = v79 I a0 a1 si K := by kernel_rfl
theorem n79 [Memo] (ro : Nat) (a0 a1 : Value) (si : St) (K : Value → St → Prop) : Zbr P ro 13 Tryd.f79 c79 [a0, a1] si K = v79 (Zao P ro) a0 a1 si K := Zap 13 P ro (x79 _ a0 a1 si K)
noncomputable def c80 : Code := Za7 Tryd.f80
def k80 : List (List Nat) := []
theorem b80 : BodyOk P 9 2 80 Tryd.f80 c80 := ⟨Tryd.func80, by kernel_rfl, by kernel_rfl, by kernel_rfl, by kernel_rfl, by kernel_rfl⟩
def v80 (I : Prims) (a0 a1 : Value) (si : St) (K : Value → St → Prop) : Prop :=
 I.wop (.box 30 (.const a1)) 0 (ent si) fun _ s0 =>
 I.wop (.alloc 82) 0 s0 fun x1 s1 =>
 I.wop (.nilCheck (.const a0)) 0 s1 fun x2 s2 =>
 I.wop (.fieldAddr 39 (.const x2) 5) 0 s2 fun x3 s3 =>
 I.wop (.build 82 ⟨[(0, (.const x3))]⟩) 82 s3 fun x4 s4 =>
 I.wop (.store 82 (.const x1) (.const x4)) 0 s4 fun _ s5 =>
 I.wop (.load 82 (.const x1)) 82 s5 fun x6 _ =>
 I.fin si K x6 s5
theorem x80 (I : Prims) (a0 a1 : Value) (si : St) (K : Value → St → Prop) : Zbs I 9 k80 Tryd.f80 c80 [a0, a1] si K = v80 I a0 a1 si K := by kernel_rfl
theorem n80 [Memo] (ro : Nat) (a0 a1 : Value) (si : St) (K : Value → St → Prop) : Zbr P ro 9 Tryd.f80 c80 [a0, a1] si K = v80 (Zao P ro) a0 a1 si K := Zap 9 P ro (x80 _ a0 a1 si K)
noncomputable def c81 : Code := Za7 Tryd.f81
def k81 : List (List Nat) := []
theorem b81 : BodyOk P 9 2 81 Tryd.f81 c81 := ⟨Tryd.func81, by kernel_rfl, by kernel_rfl, by kernel_rfl, by kernel_rfl, by kernel_rfl⟩
def v81 (I : Prims) (a0 a1 : Value) (si : St) (K : Value → St → Prop) : Prop :=
 I.wop (.box 30 (.const a1)) 0 (ent si) fun _ s0 =>
 I.wop (.alloc 82) 0 s0 fun x1 s1 =>
 I.wop (.nilCheck (.const a0)) 0 s1 fun x2 s2 =>
 I.wop (.fieldAddr 39 (.const x2) 6) 0 s2 fun x3 s3 =>
 I.wop (.build 82 ⟨[(2, (.const x3))]⟩) 82 s3 fun x4 s4 =>
 I.wop (.store 82 (.const x1) (.const x4)) 0 s4 fun _ s5 =>
 I.wop (.load 82 (.const x1)) 82 s5 fun x6 _ =>
 I.fin si K x6 s5
theorem x81 (I : Prims) (a0 a1 : Value) (si : St) (K : Value → St → Prop) : Zbs I 9 k81 Tryd.f81 c81 [a0, a1] si K = v81 I a0 a1 si K := by kernel_rfl
theorem n81 [Memo] (ro : Nat) (a0 a1 : Value) (si : St) (K : Value → St → Prop) : Zbr P ro 9 Tryd.f81 c81 [a0, a1] si K = v81 (Zao P ro) a0 a1 si K := Zap 9 P ro (x81 _ a0 a1 si K)
noncomputable def c82 : Code := Za7 Tryd.f82
def k82 : List (List Nat) := []
theorem b82 : BodyOk P 36 2 82 Tryd.f82 c82 := ⟨Tryd.func82, by kernel_rfl, by kernel_rfl, by kernel_rfl, by kernel_rfl, by kernel_rfl⟩
def v82 (I : Prims) (a0 a1 : Value) (si : St) (K : Value → St → Prop) : Prop :=
 I.wop (.box 30 (.const a1)) 0 (ent si) fun x0 s0 =>
 I.wop (.alloc 82) 0 s0 fun x1 s1 =>
 I.wop (.nilCheck (.const a0)) 0 s1 fun x2 s2 =>
 I.wop (.fieldAddr 39 (.const x2) 7) 0 s2 fun x3 s3 =>
 I.wop (.load 37 (.const x3)) 37 s3 fun x4 s4 =>
 I.wop (.fieldAddr 30 (.const x0) 1) 0 s4 fun x5 s5 =>
 I.wop (.load 3 (.const x5)) 3 s5 fun x6 s6 =>
 I.wop (.indexAddr 37 (.const x4) (.const x6)) 0 s6 fun x7 s7 =>
 I.wop (.nilCheck (.const x7)) 0 s7 fun x8 s8 =>
 I.wop (.fieldAddr 59 (.const x8) 0) 0 s8 fun x9 s9 =>
 I.wop (.nilCheck (.const x7)) 0 s9 fun x10 s10 =>
 I.wop (.fieldAddr 59 (.const x10) 1) 0 s10 fun x11 s11 =>
 I.wop (.nilCheck (.const x7)) 0 s11 fun x12 s12 =>
 I.wop (.fieldAddr 59 (.const x12) 2) 0 s12 fun x13 s13 =>
 I.wop (.nilCheck (.const x7)) 0 s13 fun x14 s14 =>
 I.wop (.fieldAddr 59 (.const x14) 3) 0 s14 fun x15 s15 =>
 I.wop (.nilCheck (.const x7)) 0 s15 fun x16 s16 =>
 I.wop (.fieldAddr 59 (.const x16) 4) 0 s16 fun x17 s17 =>
 I.wop (.nilCheck (.const x7)) 0 s17 fun x18 s18 =>
 I.wop (.fieldAddr 59 (.const x18) 5) 0 s18 fun x19 s19 =>
 I.wop (.build 110 ⟨[(0, (.const x9)), (1, (.const x11)), (2, (.const x13)), (3, (.const x15)), (4, (.const x17)), (5, (.const x19))]⟩) 110 s19 fun x20 s20 =>
 I.wop (.fieldAddr 30 (.const x0) 2) 0 s20 fun x21 s21 =>
 I.wop (.load 3 (.const x21)) 3 s21 fun x22 s22 =>
 veq x22 x22 = true ∧ I.wop (.index 110 (.const x20) (.const x22)) 77 s22 fun x23 s23 =>
 I.wop (.build 82 ⟨[(0, (.const x23))]⟩) 82 s23 fun x24 s24 =>
 I.wop (.store 82 (.const x1) (.const x24)) 0 s24 fun _ s25 =>
 I.wop (.load 82 (.const x1)) 82 s25 fun x26 _ =>
 I.fin si K x26 s25
theorem x82 (I : Prims) (a0 a1 : Value) (si : St) (K : Value → St → Prop) : Zbs I 36 k82 Tryd.f82 c82 [a0, a1] si K = v82 I a0 a1 si K := by kernel_rfl
theorem n82 [Memo] (ro : Nat) (a0 a1 : Value) (si : St) (K : Value → St → Prop) : Zbr P ro 36 Tryd.f82 c82 [a0, a1] si K = v82 (Zao P ro) a0 a1 si K := Zap 36 P ro (x82 _ a0 a1 si K)
noncomputable def c83 : Code := Za7 Tryd.f83
def k83 : List (List Nat) := []
theorem b83 : BodyOk P 36 2 83 Tryd.f83 c83 := ⟨Tryd.func83, by kernel_rfl, by kernel_rfl, by kernel_rfl, by kernel_rfl, by kernel_rfl⟩
def v83 (I : Prims) (a0 a1 : Value) (si : St) (K : Value → St → Prop) : Prop :=
 I.wop (.box 30 (.const a1)) 0 (ent si) fun x0 s0 =>
 I.wop (.alloc 82) 0 s0 fun x1 s1 =>
 I.wop (.nilCheck (.const a0)) 0 s1 fun x2 s2 =>
 I.wop (.fieldAddr 39 (.const x2) 7) 0 s2 fun x3 s3 =>
 I.wop (.load 37 (.const x3)) 37 s3 fun x4 s4 =>
 I.wop (.fieldAddr 30 (.const x0) 1) 0 s4 fun x5 s5 =>
 I.wop (.load 3 (.const x5)) 3 s5 fun x6 s6 =>
 I.wop (.indexAddr 37 (.const x4) (.const x6)) 0 s6 fun x7 s7 =>
 I.wop (.nilCheck (.const x7)) 0 s7 fun x8 s8 =>
 I.wop (.fieldAddr 59 (.const x8) 6) 0 s8 fun x9 s9 =>
 I.wop (.nilCheck (.const x7)) 0 s9 fun x10 s10 =>
 I.wop (.fieldAddr 59 (.const x10) 7) 0 s10 fun x11 s11 =>
 I.wop (.nilCheck (.const x7)) 0 s11 fun x12 s12 =>
 I.wop (.fieldAddr 59 (.const x12) 8) 0 s12 fun x13 s13 =>
 I.wop (.nilCheck (.const x7)) 0 s13 fun x14 s14 =>
 I.wop (.fieldAddr 59 (.const x14) 9) 0 s14 fun x15 s15 =>
 I.wop (.nilCheck (.const x7)) 0 s15 fun x16 s16 =>
 I.wop (.fieldAddr 59 (.const x16) 10) 0 s16 fun x17 s17 =>
 I.wop (.nilCheck (.const x7)) 0 s17 fun x18 s18 =>
 I.wop (.fieldAddr 59 (.const x18) 11) 0 s18 fun x19 s19 =>
 I.wop (.build 111 ⟨[(0, (.const x9)), (1, (.const x11)), (2, (.const x13)), (3, (.const x15)), (4, (.const x17)), (5, (.const x19))]⟩) 111 s19 fun x20 s20 =>
 I.wop (.fieldAddr 30 (.const x0) 2) 0 s20 fun x21 s21 =>
 I.wop (.load 3 (.const x21)) 3 s21 fun x22 s22 =>
 veq x22 x22 = true ∧ I.wop (.index 111 (.const x20) (.const x22)) 78 s22 fun x23 s23 =>
 I.wop (.build 82 ⟨[(1, (.const x23))]⟩) 82 s23 fun x24 s24 =>
 I.wop (.store 82 (.const x1) (.const x24)) 0 s24 fun _ s25 =>
 I.wop (.load 82 (.const x1)) 82 s25 fun x26 _ =>
 I.fin si K x26 s25
theorem x83 (I : Prims) (a0 a1 : Value) (si : St) (K : Value → St → Prop) : Zbs I 36 k83 Tryd.f83 c83 [a0, a1] si K = v83 I a0 a1 si K := by kernel_rfl
theorem n83 [Memo] (ro : Nat) (a0 a1 : Value) (si : St) (K : Value → St → Prop) : Zbr P ro 36 Tryd.f83 c83 [a0, a1] si K = v83 (Zao P ro) a0 a1 si K := Zap 36 P ro (x83 _ a0 a1 si K)
noncomputable def c84 : Code := Za7 Tryd.f84
def k84 : List (List Nat) := []
theorem b84 : BodyOk P 19 2 84 Tryd.f84 c84 := ⟨Tryd.func84, by kernel_rfl, by kernel_rfl, by kernel_rfl, by kernel_rfl, by kernel_rfl⟩
def v84 (I : Prims) (a0 a1 : Value) (si : St) (K : Value → St → Prop) : Prop :=
 I.wop (.box 30 (.const a1)) 0 (ent si) fun x0 s0 =>
 I.wop (.alloc 82) 0 s0 fun x1 s1 =>
 I.wop (.nilCheck (.const a0)) 0 s1 fun x2 s2 =>
 I.wop (.fieldAddr 39 (.const x2) 7) 0 s2 fun x3 s3 =>
 I.wop (.load 37 (.const x3)) 37 s3 fun x4 s4 =>
 veq x4 x4 = true ∧ I.wop (.fieldAddr 30 (.const x0) 1) 0 s4 fun x5 s5 =>
 I.wop (.load 3 (.const x5)) 3 s5 fun x6 s6 =>
 veq x6 x6 = true ∧ I.wop (.indexAddr 37 (.const x4) (.const x6)) 0 s6 fun x7 s7 =>
 I.wop (.fieldAddr 59 (.const x7) 12) 0 s7 fun x8 s8 =>
 I.wop (.load 57 (.const x8)) 57 s8 fun x9 s9 =>
 veq x9 x9 = true ∧ I.wop (.fieldAddr 30 (.const x0) 2) 0 s9 fun x10 s10 =>
 I.wop (.load 3 (.const x10)) 3 s10 fun x11 s11 =>
 veq x11 x11 = true ∧ I.wop (.indexAddr 57 (.const x9) (.const x11)) 0 s11 fun x12 s12 =>
 I.wop (.fieldAddr 114 (.const x12) 0) 0 s12 fun x13 s13 =>
 I.wop (.build 82 ⟨[(3, (.const x13))]⟩) 82 s13 fun x14 s14 =>
 I.wop (.store 82 (.const x1) (.const x14)) 0 s14 fun _ s15 =>
 I.wop (.load 82 (.const x1)) 82 s15 fun x16 _ =>
 I.fin si K x16 s15
theorem x84 (I : Prims) (a0 a1 : Value) (si : St) (K : Value → St → Prop) : Zbs I 19 k84 Tryd.f84 c84 [a0, a1] si K = v84 I a0 a1 si K := by kernel_rfl
theorem n84 [Memo] (ro : Nat) (a0 a1 : Value) (si : St) (K : Value → St → Prop) : Zbr P ro 19 Tryd.f84 c84 [a0, a1] si K = v84 (Zao P ro) a0 a1 si K := Zap 19 P ro (x84 _ a0 a1 si K)
noncomputable def c85 : Code := Za7 Tryd.f85
def k85 : List (List Nat) := []
theorem b85 : BodyOk P 19 2 85 Tryd.f85 c85 := ⟨Tryd.func85, by kernel_rfl, by kernel_rfl, by kernel_rfl, by kernel_rfl, by kernel_rfl⟩
def v85 (I : Prims) (a0 a1 : Value) (si : St) (K : Value → St → Prop) : Prop :=
 I.wop (.box 30 (.const a1)) 0 (ent si) fun x0 s0 =>
 I.wop (.alloc 82) 0 s0 fun x1 s1 =>
 I.wop (.nilCheck (.const a0)) 0 s1 fun x2 s2 =>
 I.wop (.fieldAddr 39 (.const x2) 7) 0 s2 fun x3 s3 =>
 I.wop (.load 37 (.const x3)) 37 s3 fun x4 s4 =>
 veq x4 x4 = true ∧ I.wop (.fieldAddr 30 (.const x0) 1) 0 s4 fun x5 s5 =>
 I.wop (.load 3 (.const x5)) 3 s5 fun x6 s6 =>
 veq x6 x6 = true ∧ I.wop (.indexAddr 37 (.const x4) (.const x6)) 0 s6 fun x7 s7 =>
 I.wop (.fieldAddr 59 (.const x7) 12) 0 s7 fun x8 s8 =>
 I.wop (.load 57 (.const x8)) 57 s8 fun x9 s9 =>
 veq x9 x9 = true ∧ I.wop (.fieldAddr 30 (.const x0) 2) 0 s9 fun x10 s10 =>
 I.wop (.load 3 (.const x10)) 3 s10 fun x11 s11 =>
 veq x11 x11 = true ∧ I.wop (.indexAddr 57 (.const x9) (.const x11)) 0 s11 fun x12 s12 =>
 I.wop (.fieldAddr 114 (.const x12) 1) 0 s12 fun x13 s13 =>
 I.wop (.build 82 ⟨[(1, (.const x13))]⟩) 82 s13 fun x14 s14 =>
 I.wop (.store 82 (.const x1) (.const x14)) 0 s14 fun _ s15 =>
 I.wop (.load 82 (.const x1)) 82 s15 fun x16 _ =>
 I.fin si K x16 s15
theorem x85 (I : Prims) (a0 a1 : Value) (si : St) (K : Value → St → Prop) : Zbs I 19 k85 Tryd.f85 c85 [a0, a1] si K = v85 I a0 a1 si K := by kernel_rfl
theorem n85 [Memo] (ro : Nat) (a0 a1 : Value) (si : St) (K : Value → St → Prop) : Zbr P ro 19 Tryd.f85 c85 [a0, a1] si K = v85 (Zao P ro) a0 a1 si K := Zap 19 P ro (x85 _ a0 a1 si K)
noncomputable def c86 : Code := Za7 Tryd.f86
def k86 : List (List Nat) := []
theorem b86 : BodyOk P 9 2 86 Tryd.f86 c86 := ⟨Tryd.func86, by kernel_rfl, by kernel_rfl, by kernel_rfl, by kernel_rfl, by kernel_rfl⟩
def v86 (I : Prims) (a0 a1 : Value) (si : St) (K : Value → St → Prop) : Prop :=
 I.wop (.box 36 (.const a0)) 0 (ent si) fun x0 s0 =>
 I.wop (.box 3 (.const a1)) 0 s0 fun x1 s1 =>
 I.wop (.load 3 (.const x1)) 3 s1 fun x2 s2 =>
 I.wop (.binOp .lss 3 (.const x2) (.const (.int .i64 1)) 3) 4 s2 fun x3 s3 =>
 wdec x3
 (I.wop (.makeInterface 9 (.const (.string (ByteArray.mk #[99, 97, 110, 110, 111, 116, 32, 98, 101, 32, 108, 101, 115, 115, 32, 116, 104, 97, 110, 32, 49])))) 20 s3 fun _ s4 =>
 I.wop (.panic (.tmp 7)) 0 s4 fun _ s5 =>
 I.fin si K (.func (.func 96) (.mk []) (.mk [x0, x1])) s5)
 (I.fin si K (.func (.func 96) (.mk []) (.mk [x0, x1])) s3)
theorem x86 (I : Prims) (a0 a1 : Value) (si : St) (K : Value → St → Prop) : Zbs I 9 k86 Tryd.f86 c86 [a0, a1] si K = v86 I a0 a1 si K := by kernel_rfl
theorem n86 [Memo] (ro : Nat) (a0 a1 : Value) (si : St) (K : Value → St → Prop) : Zbr P ro 9 Tryd.f86 c86 [a0, a1] si K = v86 (Zao P ro) a0 a1 si K := Zap 9 P ro (x86 _ a0 a1 si K)
noncomputable def c87 : Code := Za7 Tryd.f87
noncomputable def Zix : Code := Za3 [1, 1, 0, 1, 0, 0] c87
def k87 : List (List Nat) := []
def Z5s : List (List Nat) := []
theorem Z5m : Zbd 26 Zix = true := by kernel_rfl
theorem Z5e : Zcc Zix = true := by kernel_rfl
theorem b87 : BodyOk P 26 1 87 Tryd.f87 c87 := ⟨Tryd.func87, by kernel_rfl, by kernel_rfl, by kernel_rfl, by kernel_rfl, by kernel_rfl⟩
def Zoz (I : Prims) (rnd : Option Nat) (τ : Tau) (ds : List Deferred) (s : St) (Q : Ex → WK) : Prop :=
 I.wop (.binOp .add 3 (.const (τ 4)) (.const (.int .i64 1)) 3) 3 s fun x0 s0 =>
 I.wop (.call ⟨.builtin .len, ⟨[(.const (τ 0))]⟩, #[36]⟩) 3 s0 fun x1 s1 =>
 I.wop (.binOp .lss 3 (.const x0) (.const x1) 3) 4 s1 fun x2 s2 =>
 wdec x2
 (I.wop (.indexAddr 36 (.const (τ 0)) (.const (τ 4))) 0 s2 fun x3 s3 =>
 I.wop (.load 34 (.const x3)) 34 s3 fun x4 s4 =>
 veq x4 x4 = true ∧ I.wop (.binOp .add 3 (.const (τ 4)) (.const (.int .i64 1)) 3) 3 s4 fun x5 s5 =>
 I.wop (.indexAddr 36 (.const (τ 0)) (.const x5)) 0 s5 fun x6 s6 =>
 I.wop (.load 34 (.const x6)) 34 s6 fun x7 s7 =>
 veq x7 x7 = true ∧ I.wop (.build 55 ⟨[(0, (.const x4)), (1, (.const x7))]⟩) 55 s7 fun x8 s8 =>
 I.wop (.buildSlice 33 1 ⟨[(0, (.const x8))]⟩) 33 s8 fun x9 s9 =>
 Zcm s8 s9 ∧ I.wop (.call ⟨.builtin .append, ⟨[(.const (τ 3)), (.const x9)]⟩, #[33, 33]⟩) 33 s9 fun x10 s10 =>
 s9.n ≤ s10.n ∧ I.wop (.binOp .add 3 (.const (τ 4)) (.const (.int .i64 2)) 3) 3 s10 fun x11 s11 =>
 Q .normal (U τ [(4, x11), (11, x11), (10, (τ 4)), (3, x10), (24, x10), (23, x9), (22, x8), (21, x7), (20, x6), (19, x5), (18, (τ 4)), (17, (τ 0)), (16, x4), (15, x3), (14, (τ 4)), (13, (τ 0)), (12, (τ 3)), (9, (.bool true)), (9, x2), (8, x1), (7, (τ 0)), (6, x0), (5, (τ 4))]) ds s11)
 (Q (.exit 0) (U τ [(9, (.bool false)), (9, x2), (8, x1), (7, (τ 0)), (6, x0), (5, (τ 4))]) ds s2)
theorem Z4d (I : Prims) (rnd : Option Nat) (τ : Tau) (ds : List Deferred) (s : St) (Q : Ex → WK) : xp I rnd 26 Z5s Zix [] τ [] ds s (lift Q) = Zoz I rnd τ ds s Q := by kernel_rfl
theorem Z46 [Memo] (ro : Nat) (rnd : Option Nat) (τ : Tau) (ds : List Deferred) (s : St) (Q : Ex → WK) : wp P ro 26 rnd Zix τ ds s Q = Zoz (Zao P ro) rnd τ ds s Q := Zc8 rnd 26 P ro (Z4d _ rnd τ ds s Q)
def v87 (I : Prims) (a0 : Value) (si : St) (K : Value → St → Prop) : Prop :=
 I.loop 26 none Zix (U Zb2 [(4, (.int .i64 0)), (3, (.slice none 0 0)), (2, (.slice none 0 0)), (0, a0)]) [] (ent si) (fun τ ds s => ((Za5 I si Tryd.f87.results.toList K) .ret) τ [] ds s) [(0, fun τ0 ds0 s0 =>
 Zbh I ds0 s0 fun s1 =>
 I.fin si K (τ0 3) s1)]
theorem x87 (I : Prims) (a0 : Value) (si : St) (K : Value → St → Prop) : Zbs I 26 k87 Tryd.f87 c87 [a0] si K = v87 I a0 si K := by kernel_rfl
theorem n87 [Memo] (ro : Nat) (a0 : Value) (si : St) (K : Value → St → Prop) : Zbr P ro 26 Tryd.f87 c87 [a0] si K = v87 (Zao P ro) a0 si K := Zap 26 P ro (x87 _ a0 si K)
noncomputable def c88 : Code := Za7 Tryd.f88
noncomputable def Zge : Code := Za3 [1, 0, 0, 1, 0, 1, 0, 0] c88
noncomputable def Zic : Code := Za3 [1, 0, 0, 1, 1, 1, 1, 1] c88
noncomputable def Z33 : Code := Za3 [1, 1] c88
noncomputable def Zf8 : Code := Za3 [1, 0, 0, 1, 1, 1, 1, 1, 1, 1] c88
noncomputable def Zev : Code := Za3 [1, 0, 0, 1, 1, 1, 1, 1, 1, 1, 1, 1] c88
noncomputable def Zd6 : Code := Za3 [1, 0, 0, 1, 1, 1, 1, 1, 1, 1, 1, 1, 1, 1] c88
noncomputable def Zdf : Code := Za3 [1, 0, 0, 1, 1, 1, 1, 1, 1, 1, 1, 1, 1, 1, 1, 1] c88
def k88 : List (List Nat) := [[1, 1, 1, 1, 1, 0, 0, 1], [1, 1, 1, 1, 1, 1, 1, 0, 0, 1], [1, 1, 1, 1, 1, 1, 1, 1, 1, 0, 0, 1], [1, 1, 1, 1, 1, 1, 1, 1, 1, 1, 1, 0, 0, 1], [1, 1, 1, 1, 1, 1, 1, 1, 1, 1, 1, 1, 1, 0, 0, 1]]
def Zyl : List (List Nat) := []
theorem Zyg : Zbd 140 Zge = true := by kernel_rfl
theorem Zx8 : Zcc Zge = true := by kernel_rfl
theorem b88 : BodyOk P 140 3 88 Tryd.f88 c88 := ⟨Tryd.func88, by kernel_rfl, by kernel_rfl, by kernel_rfl, by kernel_rfl, by kernel_rfl⟩
def Zkq (I : Prims) (rnd : Option Nat) (τ : Tau) (ds : List Deferred) (s : St) (Q : Ex → WK) : Prop :=
 I.wop (.binOp .lss 3 (.const (τ 7)) (.const (.int .i64 8)) 3) 4 s fun x0 s0 =>
 wdec x0
 (I.wop (.fieldAddr 59 (.const (τ 3)) 12) 0 s0 fun x1 s1 =>
 I.wop (.load 57 (.const x1)) 57 s1 fun x2 s2 =>
 veq x2 x2 = true ∧ I.wop (.fieldAddr 30 (.const (τ 4)) 2) 0 s2 fun x3 s3 =>
 I.wop (.load 3 (.const x3)) 3 s3 fun x4 s4 =>
 veq x4 x4 = true ∧ I.wop (.indexAddr 36 (.const (τ 2)) (.const (τ 7))) 0 s4 fun x5 s5 =>
 I.wop (.load 34 (.const x5)) 34 s5 fun x6 s6 =>
 veq x6 x6 = true ∧ I.wop (.indexAddr 57 (.const x2) (.const x4)) 0 s6 fun x7 s7 =>
 I.wop (.fieldAddr 114 (.const x7) 0) 0 s7 fun x8 s8 =>
 I.wop (.indexAddr 112 (.const x8) (.const (τ 7))) 0 s8 fun x9 s9 =>
 I.wop (.store 34 (.const x9) (.const x6)) 0 s9 fun _ s10 =>
 I.wop (.binOp .add 3 (.const (τ 7)) (.const (.int .i64 1)) 3) 3 s10 fun x11 s11 =>
 Q .normal (U τ [(7, x11), (18, x11), (17, (τ 7)), (30, x9), (29, x8), (28, x7), (27, x6), (26, x5), (25, (τ 7)), (24, (τ 2)), (23, (τ 7)), (22, x4), (21, x3), (20, x2), (19, x1), (16, (.bool true)), (16, x0), (15, (τ 7))]) ds s11)
 (Q (.exit 1) (U τ [(16, (.bool false)), (16, x0), (15, (τ 7))]) ds s0)
theorem Zw1 (I : Prims) (rnd : Option Nat) (τ : Tau) (ds : List Deferred) (s : St) (Q : Ex → WK) : xp I rnd 140 Zyl Zge [] τ [] ds s (lift Q) = Zkq I rnd τ ds s Q := by kernel_rfl
theorem Zx0 [Memo] (ro : Nat) (rnd : Option Nat) (τ : Tau) (ds : List Deferred) (s : St) (Q : Ex → WK) : wp P ro 140 rnd Zge τ ds s Q = Zkq (Zao P ro) rnd τ ds s Q := Zc8 rnd 140 P ro (Zw1 _ rnd τ ds s Q)
def Zpy (I : Prims) (τ : Tau) (ds : List Deferred) (s : St) (Q : Ex → XK) : Prop :=
 wdec (τ 43)
 (I.wop (.fieldAddr 59 (.const (τ 3)) 0) 0 s fun x0 s0 =>
 I.wop (.store 36 (.const x0) (.const (τ 2))) 0 s0 fun _ s1 =>
 Q .normal τ [(53, x0), (52, (τ 2)), (43, (.bool true))] ds s1)
 (I.wop (.fieldAddr 30 (.const (τ 4)) 0) 0 s fun x2 s2 =>
 I.wop (.load 28 (.const x2)) 28 s2 fun x3 s3 =>
 I.wop (.binOp .eql 28 (.const x3) (.const (.int .u8 8)) 28) 4 s3 fun x4 s4 =>
 wdec x4
 (I.wop (.fieldAddr 30 (.const (τ 4)) 2) 0 s4 fun x5 s5 =>
 I.wop (.load 3 (.const x5)) 3 s5 fun x6 s6 =>
 I.wop (.binOp .eql 3 (.const x6) (.const (.int .i64 1)) 3) 4 s6 fun x7 s7 =>
 I.hold (xp I none 140 k88 Zf8 [1, 1, 1, 1, 1, 1, 1, 0, 0, 1] (U τ [(54, x7), (62, x7), (58, (.bool true)), (61, x7), (58, (.bool true)), (60, x6), (58, (.bool true)), (59, x5), (58, (.bool true)), (58, x4), (57, x4), (56, x3), (55, x2), (43, (.bool false))]) [] ds s7 Q))
 (I.hold (xp I none 140 k88 Zf8 [1, 1, 1, 1, 1, 1, 1, 0, 0, 1] (U τ [(54, (.bool false)), (62, (.bool false)), (58, (.bool false)), (61, undef), (58, (.bool false)), (60, undef), (58, (.bool false)), (59, undef), (58, (.bool false)), (58, x4), (57, x4), (56, x3), (55, x2), (43, (.bool false))]) [] ds s4 Q)))
theorem Zxz (I : Prims) (τ : Tau) (ds : List Deferred) (s : St) (Q : Ex → XK) : xp I none 140 k88 Zic [1, 1, 1, 1, 1, 0, 0, 1] τ [] ds s Q = Zpy I τ ds s Q := by kernel_rfl
def Ya9 (I : Prims) (τ : Tau) (ds : List Deferred) (s : St) (Q : Ex → XK) : Prop :=
 I.wop (.load 59 (.const (τ 3))) 59 s fun x0 s0 =>
 I.wop (.store 59 (.const (τ 6)) (.const x0)) 0 s0 fun _ s1 =>
 Q .ret τ [(139, x0)] ds s1
theorem Yep (I : Prims) (τ : Tau) (ds : List Deferred) (s : St) (Q : Ex → XK) : xp I none 140 k88 Z33 [1, 1] τ [] ds s Q = Ya9 I τ ds s Q := by kernel_rfl
def Zmw (I : Prims) (τ : Tau) (ds : List Deferred) (s : St) (Q : Ex → XK) : Prop :=
 wdec (τ 54)
 (I.wop (.fieldAddr 59 (.const (τ 3)) 1) 0 s fun x0 s0 =>
 I.wop (.store 36 (.const x0) (.const (τ 2))) 0 s0 fun _ s1 =>
 Q .normal τ [(64, x0), (63, (τ 2)), (54, (.bool true))] ds s1)
 (I.wop (.fieldAddr 30 (.const (τ 4)) 0) 0 s fun x2 s2 =>
 I.wop (.load 28 (.const x2)) 28 s2 fun x3 s3 =>
 I.wop (.binOp .eql 28 (.const x3) (.const (.int .u8 8)) 28) 4 s3 fun x4 s4 =>
 wdec x4
 (I.wop (.fieldAddr 30 (.const (τ 4)) 2) 0 s4 fun x5 s5 =>
 I.wop (.load 3 (.const x5)) 3 s5 fun x6 s6 =>
 I.wop (.binOp .eql 3 (.const x6) (.const (.int .i64 2)) 3) 4 s6 fun x7 s7 =>
 I.hold (xp I none 140 k88 Zev [1, 1, 1, 1, 1, 1, 1, 1, 1, 0, 0, 1] (U τ [(65, x7), (73, x7), (69, (.bool true)), (72, x7), (69, (.bool true)), (71, x6), (69, (.bool true)), (70, x5), (69, (.bool true)), (69, x4), (68, x4), (67, x3), (66, x2), (54, (.bool false))]) [] ds s7 Q))
 (I.hold (xp I none 140 k88 Zev [1, 1, 1, 1, 1, 1, 1, 1, 1, 0, 0, 1] (U τ [(65, (.bool false)), (73, (.bool false)), (69, (.bool false)), (72, undef), (69, (.bool false)), (71, undef), (69, (.bool false)), (70, undef), (69, (.bool false)), (69, x4), (68, x4), (67, x3), (66, x2), (54, (.bool false))]) [] ds s4 Q)))
theorem Ztu (I : Prims) (τ : Tau) (ds : List Deferred) (s : St) (Q : Ex → XK) : xp I none 140 k88 Zf8 [1, 1, 1, 1, 1, 1, 1, 0, 0, 1] τ [] ds s Q = Zmw I τ ds s Q := by kernel_rfl
def Zjx (I : Prims) (τ : Tau) (ds : List Deferred) (s : St) (Q : Ex → XK) : Prop :=
 wdec (τ 65)
 (I.wop (.fieldAddr 59 (.const (τ 3)) 2) 0 s fun x0 s0 =>
 I.wop (.store 36 (.const x0) (.const (τ 2))) 0 s0 fun _ s1 =>
 Q .normal τ [(75, x0), (74, (τ 2)), (65, (.bool true))] ds s1)
 (I.wop (.fieldAddr 30 (.const (τ 4)) 0) 0 s fun x2 s2 =>
 I.wop (.load 28 (.const x2)) 28 s2 fun x3 s3 =>
 I.wop (.binOp .eql 28 (.const x3) (.const (.int .u8 8)) 28) 4 s3 fun x4 s4 =>
 wdec x4
 (I.wop (.fieldAddr 30 (.const (τ 4)) 2) 0 s4 fun x5 s5 =>
 I.wop (.load 3 (.const x5)) 3 s5 fun x6 s6 =>
 I.wop (.binOp .eql 3 (.const x6) (.const (.int .i64 3)) 3) 4 s6 fun x7 s7 =>
 I.hold (xp I none 140 k88 Zd6 [1, 1, 1, 1, 1, 1, 1, 1, 1, 1, 1, 0, 0, 1] (U τ [(76, x7), (84, x7), (80, (.bool true)), (83, x7), (80, (.bool true)), (82, x6), (80, (.bool true)), (81, x5), (80, (.bool true)), (80, x4), (79, x4), (78, x3), (77, x2), (65, (.bool false))]) [] ds s7 Q))
 (I.hold (xp I none 140 k88 Zd6 [1, 1, 1, 1, 1, 1, 1, 1, 1, 1, 1, 0, 0, 1] (U τ [(76, (.bool false)), (84, (.bool false)), (80, (.bool false)), (83, undef), (80, (.bool false)), (82, undef), (80, (.bool false)), (81, undef), (80, (.bool false)), (80, x4), (79, x4), (78, x3), (77, x2), (65, (.bool false))]) [] ds s4 Q)))
theorem Zqv (I : Prims) (τ : Tau) (ds : List Deferred) (s : St) (Q : Ex → XK) : xp I none 140 k88 Zev [1, 1, 1, 1, 1, 1, 1, 1, 1, 0, 0, 1] τ [] ds s Q = Zjx I τ ds s Q := by kernel_rfl
def Zh3 (I : Prims) (τ : Tau) (ds : List Deferred) (s : St) (Q : Ex → XK) : Prop :=
 wdec (τ 76)
 (I.wop (.fieldAddr 59 (.const (τ 3)) 3) 0 s fun x0 s0 =>
 I.wop (.store 36 (.const x0) (.const (τ 2))) 0 s0 fun _ s1 =>
 Q .normal τ [(86, x0), (85, (τ 2)), (76, (.bool true))] ds s1)
 (I.wop (.fieldAddr 30 (.const (τ 4)) 0) 0 s fun x2 s2 =>
 I.wop (.load 28 (.const x2)) 28 s2 fun x3 s3 =>
 I.wop (.binOp .eql 28 (.const x3) (.const (.int .u8 8)) 28) 4 s3 fun x4 s4 =>
 wdec x4
 (I.wop (.fieldAddr 30 (.const (τ 4)) 2) 0 s4 fun x5 s5 =>
 I.wop (.load 3 (.const x5)) 3 s5 fun x6 s6 =>
 I.wop (.binOp .eql 3 (.const x6) (.const (.int .i64 4)) 3) 4 s6 fun x7 s7 =>
 I.hold (xp I none 140 k88 Zdf [1, 1, 1, 1, 1, 1, 1, 1, 1, 1, 1, 1, 1, 0, 0, 1] (U τ [(87, x7), (95, x7), (91, (.bool true)), (94, x7), (91, (.bool true)), (93, x6), (91, (.bool true)), (92, x5), (91, (.bool true)), (91, x4), (90, x4), (89, x3), (88, x2), (76, (.bool false))]) [] ds s7 Q))
 (I.hold (xp I none 140 k88 Zdf [1, 1, 1, 1, 1, 1, 1, 1, 1, 1, 1, 1, 1, 0, 0, 1] (U τ [(87, (.bool false)), (95, (.bool false)), (91, (.bool false)), (94, undef), (91, (.bool false)), (93, undef), (91, (.bool false)), (92, undef), (91, (.bool false)), (91, x4), (90, x4), (89, x3), (88, x2), (76, (.bool false))]) [] ds s4 Q)))
theorem Zof (I : Prims) (τ : Tau) (ds : List Deferred) (s : St) (Q : Ex → XK) : xp I none 140 k88 Zd6 [1, 1, 1, 1, 1, 1, 1, 1, 1, 1, 1, 0, 0, 1] τ [] ds s Q = Zh3 I τ ds s Q := by kernel_rfl
def Zgo (I : Prims) (τ : Tau) (ds : List Deferred) (s : St) (Q : Ex → XK) : Prop :=
 wdec (τ 87)
 (I.wop (.fieldAddr 59 (.const (τ 3)) 4) 0 s fun x0 s0 =>
 I.wop (.store 36 (.const x0) (.const (τ 2))) 0 s0 fun _ s1 =>
 Q .normal τ [(97, x0), (96, (τ 2)), (87, (.bool true))] ds s1)
 (I.wop (.fieldAddr 30 (.const (τ 4)) 0) 0 s fun x2 s2 =>
 I.wop (.load 28 (.const x2)) 28 s2 fun x3 s3 =>
 I.wop (.binOp .eql 28 (.const x3) (.const (.int .u8 8)) 28) 4 s3 fun x4 s4 =>
 wdec x4
 (I.wop (.fieldAddr 59 (.const (τ 3)) 5) 0 s4 fun x5 s5 =>
 I.wop (.store 36 (.const x5) (.const (τ 2))) 0 s5 fun _ s6 =>
 Q .normal τ [(103, x5), (102, (τ 2)), (98, (.bool true)), (98, x4), (101, x4), (100, x3), (99, x2), (87, (.bool false))] ds s6)
 (I.wop (.fieldAddr 30 (.const (τ 4)) 2) 0 s4 fun x7 s7 =>
 I.wop (.load 3 (.const x7)) 3 s7 fun x8 s8 =>
 I.wop (.binOp .eql 3 (.const x8) (.const (.int .i64 0)) 3) 4 s8 fun x9 s9 =>
 wdec x9
 (I.call 87 [(τ 2)] s9 fun x10 s10 =>
 I.wop (.fieldAddr 59 (.const (τ 3)) 6) 0 s10 fun x11 s11 =>
 I.wop (.store 33 (.const x11) (.const x10)) 0 s11 fun _ s12 =>
 Q .normal τ [(110, x11), (109, x10), (108, (τ 2)), (104, (.bool true)), (104, x9), (107, x9), (106, x8), (105, x7), (98, (.bool false)), (98, x4), (101, x4), (100, x3), (99, x2), (87, (.bool false))] ds s12)
 (I.wop (.fieldAddr 30 (.const (τ 4)) 2) 0 s9 fun x13 s13 =>
 I.wop (.load 3 (.const x13)) 3 s13 fun x14 s14 =>
 I.wop (.binOp .eql 3 (.const x14) (.const (.int .i64 1)) 3) 4 s14 fun x15 s15 =>
 wdec x15
 (I.call 87 [(τ 2)] s15 fun x16 s16 =>
 I.wop (.fieldAddr 59 (.const (τ 3)) 7) 0 s16 fun x17 s17 =>
 I.wop (.store 33 (.const x17) (.const x16)) 0 s17 fun _ s18 =>
 Q .normal τ [(117, x17), (116, x16), (115, (τ 2)), (111, (.bool true)), (111, x15), (114, x15), (113, x14), (112, x13), (104, (.bool false)), (104, x9), (107, x9), (106, x8), (105, x7), (98, (.bool false)), (98, x4), (101, x4), (100, x3), (99, x2), (87, (.bool false))] ds s18)
 (I.wop (.fieldAddr 30 (.const (τ 4)) 2) 0 s15 fun x19 s19 =>
 I.wop (.load 3 (.const x19)) 3 s19 fun x20 s20 =>
 I.wop (.binOp .eql 3 (.const x20) (.const (.int .i64 2)) 3) 4 s20 fun x21 s21 =>
 wdec x21
 (I.call 87 [(τ 2)] s21 fun x22 s22 =>
 I.wop (.fieldAddr 59 (.const (τ 3)) 8) 0 s22 fun x23 s23 =>
 I.wop (.store 33 (.const x23) (.const x22)) 0 s23 fun _ s24 =>
 Q .normal τ [(124, x23), (123, x22), (122, (τ 2)), (118, (.bool true)), (118, x21), (121, x21), (120, x20), (119, x19), (111, (.bool false)), (111, x15), (114, x15), (113, x14), (112, x13), (104, (.bool false)), (104, x9), (107, x9), (106, x8), (105, x7), (98, (.bool false)), (98, x4), (101, x4), (100, x3), (99, x2), (87, (.bool false))] ds s24)
 (I.wop (.fieldAddr 30 (.const (τ 4)) 2) 0 s21 fun x25 s25 =>
 I.wop (.load 3 (.const x25)) 3 s25 fun x26 s26 =>
 I.wop (.binOp .eql 3 (.const x26) (.const (.int .i64 3)) 3) 4 s26 fun x27 s27 =>
 wdec x27
 (I.call 87 [(τ 2)] s27 fun x28 s28 =>
 I.wop (.fieldAddr 59 (.const (τ 3)) 9) 0 s28 fun x29 s29 =>
 I.wop (.store 33 (.const x29) (.const x28)) 0 s29 fun _ s30 =>
 Q .normal τ [(131, x29), (130, x28), (129, (τ 2)), (125, (.bool true)), (125, x27), (128, x27), (127, x26), (126, x25), (118, (.bool false)), (118, x21), (121, x21), (120, x20), (119, x19), (111, (.bool false)), (111, x15), (114, x15), (113, x14), (112, x13), (104, (.bool false)), (104, x9), (107, x9), (106, x8), (105, x7), (98, (.bool false)), (98, x4), (101, x4), (100, x3), (99, x2), (87, (.bool false))] ds s30)
 (I.wop (.fieldAddr 30 (.const (τ 4)) 2) 0 s27 fun x31 s31 =>
 I.wop (.load 3 (.const x31)) 3 s31 fun x32 s32 =>
 I.wop (.binOp .eql 3 (.const x32) (.const (.int .i64 4)) 3) 4 s32 fun x33 s33 =>
 wdec x33
 (I.call 87 [(τ 2)] s33 fun x34 s34 =>
 I.wop (.fieldAddr 59 (.const (τ 3)) 10) 0 s34 fun x35 s35 =>
 I.wop (.store 33 (.const x35) (.const x34)) 0 s35 fun _ s36 =>
 Q .normal τ [(138, x35), (137, x34), (136, (τ 2)), (132, (.bool true)), (132, x33), (135, x33), (134, x32), (133, x31), (125, (.bool false)), (125, x27), (128, x27), (127, x26), (126, x25), (118, (.bool false)), (118, x21), (121, x21), (120, x20), (119, x19), (111, (.bool false)), (111, x15), (114, x15), (113, x14), (112, x13), (104, (.bool false)), (104, x9), (107, x9), (106, x8), (105, x7), (98, (.bool false)), (98, x4), (101, x4), (100, x3), (99, x2), (87, (.bool false))] ds s36)
 (I.call 87 [(τ 2)] s33 fun x37 s37 =>
 I.wop (.fieldAddr 59 (.const (τ 3)) 11) 0 s37 fun x38 s38 =>
 I.wop (.store 33 (.const x38) (.const x37)) 0 s38 fun _ s39 =>
 Q .normal τ [(10, x38), (9, x37), (8, (τ 2)), (132, (.bool false)), (132, x33), (135, x33), (134, x32), (133, x31), (125, (.bool false)), (125, x27), (128, x27), (127, x26), (126, x25), (118, (.bool false)), (118, x21), (121, x21), (120, x20), (119, x19), (111, (.bool false)), (111, x15), (114, x15), (113, x14), (112, x13), (104, (.bool false)), (104, x9), (107, x9), (106, x8), (105, x7), (98, (.bool false)), (98, x4), (101, x4), (100, x3), (99, x2), (87, (.bool false))] ds s39)))))))
theorem Zmn (I : Prims) (τ : Tau) (ds : List Deferred) (s : St) (Q : Ex → XK) : xp I none 140 k88 Zdf [1, 1, 1, 1, 1, 1, 1, 1, 1, 1, 1, 1, 1, 0, 0, 1] τ [] ds s Q = Zgo I τ ds s Q := by kernel_rfl
def v88 (I : Prims) (a0 a1 a2 : Value) (si : St) (K : Value → St → Prop) : Prop :=
 I.wop (.box 59 (.const a0)) 0 (ent si) fun x0 s0 =>
 I.wop (.box 30 (.const a1)) 0 s0 fun x1 s1 =>
 I.wop (.alloc 59) 0 s1 fun x2 s2 =>
 I.wop (.fieldAddr 30 (.const x1) 0) 0 s2 fun x3 s3 =>
 I.wop (.load 28 (.const x3)) 28 s3 fun x4 s4 =>
 I.wop (.binOp .eql 28 (.const x4) (.const (.int .u8 10)) 28) 4 s4 fun x5 s5 =>
 wdec x5
 (I.loop 140 none Zge (U Zb2 [(7, (.int .i64 0)), (11, (.bool true)), (11, x5), (14, x5), (13, x4), (12, x3), (6, x2), (4, x1), (3, x0), (0, a0), (1, a1), (2, a2)]) [] s5 (fun τ ds s => ((Za5 I si Tryd.f88.results.toList K) .ret) τ [] ds s) [(1, fun τ6 ds6 s6 =>
 I.wop (.load 59 (.const (τ6 3))) 59 s6 fun x7 s7 =>
 I.wop (.store 59 (.const (τ6 6)) (.const x7)) 0 s7 fun _ s8 =>
 Zbh I ds6 s8 fun s9 =>
 I.wop (.load 59 (.const (τ6 6))) 59 s9 fun x10 _ =>
 I.fin si K x10 s9)])
 (I.wop (.fieldAddr 30 (.const x1) 0) 0 s5 fun x11 s11 =>
 I.wop (.load 28 (.const x11)) 28 s11 fun x12 s12 =>
 I.wop (.binOp .eql 28 (.const x12) (.const (.int .u8 11)) 28) 4 s12 fun x13 s13 =>
 wdec x13
 (I.wop (.fieldAddr 59 (.const x0) 12) 0 s13 fun x14 s14 =>
 I.wop (.load 57 (.const x14)) 57 s14 fun x15 s15 =>
 veq x15 x15 = true ∧ I.wop (.fieldAddr 30 (.const x1) 2) 0 s15 fun x16 s16 =>
 I.wop (.load 3 (.const x16)) 3 s16 fun x17 s17 =>
 veq x17 x17 = true ∧ I.call 87 [a2] s17 fun x18 s18 =>
 Keeps [(3, .ptr x16), (1, .ptr x14)] s17 s18 ∧ I.wop (.indexAddr 57 (.const x15) (.const x17)) 0 s18 fun x19 s19 =>
 I.wop (.fieldAddr 114 (.const x19) 1) 0 s19 fun x20 s20 =>
 I.wop (.store 33 (.const x20) (.const x18)) 0 s20 fun _ s21 =>
 I.wop (.load 59 (.const x0)) 59 s21 fun x22 s22 =>
 I.wop (.store 59 (.const x2) (.const x22)) 0 s22 fun _ s23 =>
 I.wop (.load 59 (.const x2)) 59 s23 fun x24 _ =>
 I.fin si K x24 s23)
 (I.wop (.fieldAddr 30 (.const x1) 0) 0 s13 fun x25 s25 =>
 I.wop (.load 28 (.const x25)) 28 s25 fun x26 s26 =>
 I.wop (.binOp .eql 28 (.const x26) (.const (.int .u8 8)) 28) 4 s26 fun x27 s27 =>
 wdec x27
 (I.wop (.fieldAddr 30 (.const x1) 2) 0 s27 fun x28 s28 =>
 I.wop (.load 3 (.const x28)) 3 s28 fun x29 s29 =>
 I.wop (.binOp .eql 3 (.const x29) (.const (.int .i64 0)) 3) 4 s29 fun x30 s30 =>
 I.hold (xp I none 140 k88 Zic [1, 1, 1, 1, 1, 0, 0, 1] (U Zb2 [(43, x30), (51, x30), (47, (.bool true)), (50, x30), (47, (.bool true)), (49, x29), (47, (.bool true)), (48, x28), (47, (.bool true)), (47, x27), (46, x27), (45, x26), (44, x25), (31, (.bool false)), (31, x13), (34, x13), (33, x12), (32, x11), (11, (.bool false)), (11, x5), (14, x5), (13, x4), (12, x3), (6, x2), (4, x1), (3, x0), (0, a0), (1, a1), (2, a2)]) [] [] s30 (blkX 0 (sX I none 140 k88 Z33 [1, 1] (Za5 I si Tryd.f88.results.toList K)))))
 (I.hold (xp I none 140 k88 Zic [1, 1, 1, 1, 1, 0, 0, 1] (U Zb2 [(43, (.bool false)), (51, (.bool false)), (47, (.bool false)), (50, undef), (47, (.bool false)), (49, undef), (47, (.bool false)), (48, undef), (47, (.bool false)), (47, x27), (46, x27), (45, x26), (44, x25), (31, (.bool false)), (31, x13), (34, x13), (33, x12), (32, x11), (11, (.bool false)), (11, x5), (14, x5), (13, x4), (12, x3), (6, x2), (4, x1), (3, x0), (0, a0), (1, a1), (2, a2)]) [] [] s27 (blkX 0 (sX I none 140 k88 Z33 [1, 1] (Za5 I si Tryd.f88.results.toList K)))))))
theorem x88 (I : Prims) (a0 a1 a2 : Value) (si : St) (K : Value → St → Prop) : Zbs I 140 k88 Tryd.f88 c88 [a0, a1, a2] si K = v88 I a0 a1 a2 si K := by kernel_rfl
theorem n88 [Memo] (ro : Nat) (a0 a1 a2 : Value) (si : St) (K : Value → St → Prop) : Zbr P ro 140 Tryd.f88 c88 [a0, a1, a2] si K = v88 (Zao P ro) a0 a1 a2 si K := Zap 140 P ro (x88 _ a0 a1 a2 si K)
theorem r88 (I : Prims) (si : St) (K : Value → St → Prop) (τ : Tau) (ds : List Deferred) (s : St) : Za5 I si Tryd.f88.results.toList K .ret τ [] ds s =
 (Zbh I ds s fun s0 =>
 I.wop (.load 59 (.const (τ 6))) 59 s0 fun x1 _ =>
 I.fin si K x1 s0) := by kernel_rfl
noncomputable def c89 : Code := Za7 Tryd.f89
def k89 : List (List Nat) := []
theorem b89 : BodyOk P 16 1 89 Tryd.f89 c89 := ⟨Tryd.func89, by kernel_rfl, by kernel_rfl, by kernel_rfl, by kernel_rfl, by kernel_rfl⟩
def v89 (I : Prims) (a0 : Value) (si : St) (K : Value → St → Prop) : Prop :=
 I.wop (.box 59 (.const a0)) 0 (ent si) fun x0 s0 =>
 I.wop (.alloc 120) 0 s0 fun x1 s1 =>
 I.wop (.fieldAddr 59 (.const x0) 0) 0 s1 fun x2 s2 =>
 I.wop (.load 36 (.const x2)) 36 s2 fun x3 s3 =>
 I.wop (.fieldAddr 59 (.const x0) 1) 0 s3 fun x4 s4 =>
 I.wop (.load 36 (.const x4)) 36 s4 fun x5 s5 =>
 I.wop (.fieldAddr 59 (.const x0) 2) 0 s5 fun x6 s6 =>
 I.wop (.load 36 (.const x6)) 36 s6 fun x7 s7 =>
 I.wop (.fieldAddr 59 (.const x0) 3) 0 s7 fun x8 s8 =>
 I.wop (.load 36 (.const x8)) 36 s8 fun x9 s9 =>
 I.wop (.fieldAddr 59 (.const x0) 4) 0 s9 fun x10 s10 =>
 I.wop (.load 36 (.const x10)) 36 s10 fun Zir s11 =>
 I.wop (.fieldAddr 59 (.const x0) 5) 0 s11 fun x12 s12 =>
 I.wop (.load 36 (.const x12)) 36 s12 fun x13 s13 =>
 I.wop (.build 120 ⟨[(0, (.const x3)), (1, (.const x5)), (2, (.const x7)), (3, (.const x9)), (4, (.const Zir)), (5, (.const x13))]⟩) 120 s13 fun x14 s14 =>
 I.wop (.store 120 (.const x1) (.const x14)) 0 s14 fun _ s15 =>
 I.wop (.load 120 (.const x1)) 120 s15 fun x16 _ =>
 I.fin si K x16 s15
theorem x89 (I : Prims) (a0 : Value) (si : St) (K : Value → St → Prop) : Zbs I 16 k89 Tryd.f89 c89 [a0] si K = v89 I a0 si K := by kernel_rfl
theorem n89 [Memo] (ro : Nat) (a0 : Value) (si : St) (K : Value → St → Prop) : Zbr P ro 16 Tryd.f89 c89 [a0] si K = v89 (Zao P ro) a0 si K := Zap 16 P ro (x89 _ a0 si K)
noncomputable def c90 : Code := Za7 Tryd.f90
def k90 : List (List Nat) := []
theorem b90 : BodyOk P 16 1 90 Tryd.f90 c90 := ⟨Tryd.func90, by kernel_rfl, by kernel_rfl, by kernel_rfl, by kernel_rfl, by kernel_rfl⟩
def v90 (I : Prims) (a0 : Value) (si : St) (K : Value → St → Prop) : Prop :=
 I.wop (.box 59 (.const a0)) 0 (ent si) fun x0 s0 =>
 I.wop (.alloc 122) 0 s0 fun x1 s1 =>
 I.wop (.fieldAddr 59 (.const x0) 6) 0 s1 fun x2 s2 =>
 I.wop (.load 33 (.const x2)) 33 s2 fun x3 s3 =>
 I.wop (.fieldAddr 59 (.const x0) 7) 0 s3 fun x4 s4 =>
 I.wop (.load 33 (.const x4)) 33 s4 fun x5 s5 =>
 I.wop (.fieldAddr 59 (.const x0) 8) 0 s5 fun x6 s6 =>
 I.wop (.load 33 (.const x6)) 33 s6 fun x7 s7 =>
 I.wop (.fieldAddr 59 (.const x0) 9) 0 s7 fun x8 s8 =>
 I.wop (.load 33 (.const x8)) 33 s8 fun x9 s9 =>
 I.wop (.fieldAddr 59 (.const x0) 10) 0 s9 fun x10 s10 =>
 I.wop (.load 33 (.const x10)) 33 s10 fun Zir s11 =>
 I.wop (.fieldAddr 59 (.const x0) 11) 0 s11 fun x12 s12 =>
 I.wop (.load 33 (.const x12)) 33 s12 fun x13 s13 =>
 I.wop (.build 122 ⟨[(0, (.const x3)), (1, (.const x5)), (2, (.const x7)), (3, (.const x9)), (4, (.const Zir)), (5, (.const x13))]⟩) 122 s13 fun x14 s14 =>
 I.wop (.store 122 (.const x1) (.const x14)) 0 s14 fun _ s15 =>
 I.wop (.load 122 (.const x1)) 122 s15 fun x16 _ =>
 I.fin si K x16 s15
theorem x90 (I : Prims) (a0 : Value) (si : St) (K : Value → St → Prop) : Zbs I 16 k90 Tryd.f90 c90 [a0] si K = v90 I a0 si K := by kernel_rfl
theorem n90 [Memo] (ro : Nat) (a0 : Value) (si : St) (K : Value → St → Prop) : Zbr P ro 16 Tryd.f90 c90 [a0] si K = v90 (Zao P ro) a0 si K := Zap 16 P ro (x90 _ a0 si K)
noncomputable def c91 : Code := Za7 Tryd.f91
noncomputable def Zln : Code := Za3 [1, 0, 1, 0, 0] c91
def k91 : List (List Nat) := []
def Z8k : List (List Nat) := []
theorem Z8f : Zbd 19 Zln = true := by kernel_rfl
theorem Z75 : Zcc Zln = true := by kernel_rfl
theorem b91 : BodyOk P 19 2 91 Tryd.f91 c91 := ⟨Tryd.func91, by kernel_rfl, by kernel_rfl, by kernel_rfl, by kernel_rfl, by kernel_rfl⟩
def Zru (I : Prims) (rnd : Option Nat) (τ : Tau) (ds : List Deferred) (s : St) (Q : Ex → WK) : Prop :=
 I.wop (.binOp .lss 3 (.const (τ 8)) (.const (τ 7)) 3) 0 s fun x0 s0 =>
 wdec x0
 (I.wop (.indexAddr 37 (.const (τ 0)) (.const (τ 8))) 0 s0 fun x1 s1 =>
 I.wop (.load 59 (.const x1)) 59 s1 fun x2 s2 =>
 Zio I (τ 1) [x2] s2 fun x3 s3 =>
 wdec x3
 (Q .ret (U τ [(4, (τ 8)), (17, (τ 8)), (16, (.bool true)), (16, x3), (15, x2), (14, x1), (13, (τ 8)), (12, (τ 0)), (11, (τ 1)), (5, (τ 8)), (10, (τ 8)), (9, (.bool true)), (9, x0)]) ds s3)
 (I.wop (.binOp .add 3 (.const (τ 8)) (.const (.int .i64 1)) 3) 3 s3 fun x4 s4 =>
 Q .normal (U τ [(8, x4), (18, x4), (16, (.bool false)), (16, x3), (15, x2), (14, x1), (13, (τ 8)), (12, (τ 0)), (11, (τ 1)), (5, (τ 8)), (10, (τ 8)), (9, (.bool true)), (9, x0)]) ds s4))
 (Q (.exit 0) (U τ [(9, (.bool false)), (9, x0)]) ds s0)
theorem Z6n (I : Prims) (rnd : Option Nat) (τ : Tau) (ds : List Deferred) (s : St) (Q : Ex → WK) : xp I rnd 19 Z8k Zln [] τ [] ds s (lift Q) = Zru I rnd τ ds s Q := by kernel_rfl
theorem Z7y [Memo] (ro : Nat) (rnd : Option Nat) (τ : Tau) (ds : List Deferred) (s : St) (Q : Ex → WK) : wp P ro 19 rnd Zln τ ds s Q = Zru (Zao P ro) rnd τ ds s Q := Zc8 rnd 19 P ro (Z6n _ rnd τ ds s Q)
def v91 (I : Prims) (a0 a1 : Value) (si : St) (K : Value → St → Prop) : Prop :=
 I.wop (.call ⟨.builtin .len, ⟨[(.const a0)]⟩, #[37]⟩) 3 (ent si) fun x0 s0 =>
 I.loop 19 none Zln (U Zb2 [(8, (.int .i64 0)), (7, x0), (6, a0), (4, (.int .i64 0)), (0, a0), (1, a1)]) [] s0 (fun τ ds s => ((Za5 I si Tryd.f91.results.toList K) .ret) τ [] ds s) [(0, fun _ ds1 s1 =>
 Zbh I ds1 s1 fun s2 =>
 I.fin si K (.int .i64 (-1)) s2)]
theorem x91 (I : Prims) (a0 a1 : Value) (si : St) (K : Value → St → Prop) : Zbs I 19 k91 Tryd.f91 c91 [a0, a1] si K = v91 I a0 a1 si K := by kernel_rfl
theorem n91 [Memo] (ro : Nat) (a0 a1 : Value) (si : St) (K : Value → St → Prop) : Zbr P ro 19 Tryd.f91 c91 [a0, a1] si K = v91 (Zao P ro) a0 a1 si K := Zap 19 P ro (x91 _ a0 a1 si K)
noncomputable def c95 : Code := Za7 Tryd.f95
def k95 : List (List Nat) := []
theorem b95 : BodyOk P 16 2 95 Tryd.f95 c95 := ⟨Tryd.func95, by kernel_rfl, by kernel_rfl, by kernel_rfl, by kernel_rfl, by kernel_rfl⟩
def v95 (I : Prims) (a0 a1 : Value) (si : St) (K : Value → St → Prop) : Prop :=
 I.wop (.box 23 (.const a0)) 0 (ent si) fun x0 s0 =>
 I.wop (.alloc 102) 0 s0 fun x1 s1 =>
 I.wop (.fieldAddr 23 (.const x0) 3) 0 s1 fun x2 s2 =>
 I.wop (.load 3 (.const x2)) 3 s2 fun x3 s3 =>
 I.wop (.call ⟨.builtin .min, ⟨[(.const x3), (.const a1)]⟩, #[3, 3]⟩) 3 s3 fun x4 s4 =>
 I.wop (.binOp .shl 3 (.const (.int .i64 1)) (.const x4) 3) 3 s4 fun x5 s5 =>
 I.wop (.binOp .sub 3 (.const a1) (.const x4) 3) 3 s5 fun x6 s6 =>
 I.wop (.build 102 ⟨[(0, (.const x5)), (1, (.const x6))]⟩) 102 s6 fun x7 s7 =>
 I.wop (.store 102 (.const x1) (.const x7)) 0 s7 fun _ s8 =>
 I.wop (.load 102 (.const x1)) 102 s8 fun x9 _ =>
 I.fin si K x9 s8
theorem x95 (I : Prims) (a0 a1 : Value) (si : St) (K : Value → St → Prop) : Zbs I 16 k95 Tryd.f95 c95 [a0, a1] si K = v95 I a0 a1 si K := by kernel_rfl
theorem n95 [Memo] (ro : Nat) (a0 a1 : Value) (si : St) (K : Value → St → Prop) : Zbr P ro 16 Tryd.f95 c95 [a0, a1] si K = v95 (Zao P ro) a0 a1 si K := Zap 16 P ro (x95 _ a0 a1 si K)
noncomputable def c96 : Code := Za7 Tryd.f96
noncomputable def Zs8 : Code := Za3 [1, 0, 0] c96
def k96 : List (List Nat) := []
def Ycw : List (List Nat) := []
theorem Ycv : Zbd 31 Zs8 = true := by kernel_rfl
theorem Ycu : Zcc Zs8 = true := by kernel_rfl
theorem b96 : BodyOk P 31 3 96 Tryd.f96 c96 := ⟨Tryd.func96, by kernel_rfl, by kernel_rfl, by kernel_rfl, by kernel_rfl, by kernel_rfl⟩
def Zz6 (I : Prims) (rnd : Option Nat) (τ : Tau) (ds : List Deferred) (s : St) (Q : Ex → WK) : Prop :=
 I.wop (.load 36 (.const (τ 1))) 36 s fun x0 s0 =>
 I.wop (.call ⟨.builtin .len, ⟨[(.const x0)]⟩, #[36]⟩) 3 s0 fun x1 s1 =>
 I.wop (.binOp .lss 3 (.const (τ 4)) (.const x1) 3) 4 s1 fun x2 s2 =>
 wdec x2
 (I.wop (.load 3 (.const (τ 2))) 3 s2 fun x3 s3 =>
 I.wop (.load 36 (.const (τ 1))) 36 s3 fun x4 s4 =>
 I.wop (.slice 36 (.const x4) (some (.const (τ 4))) none none) 36 s4 fun x5 s5 =>
 I.wop (.call ⟨.builtin .len, ⟨[(.const x5)]⟩, #[36]⟩) 3 s5 fun x6 s6 =>
 I.wop (.call ⟨.builtin .min, ⟨[(.const x3), (.const x6)]⟩, #[3, 3]⟩) 3 s6 fun x7 s7 =>
 I.wop (.load 36 (.const (τ 1))) 36 s7 fun x8 s8 =>
 I.wop (.binOp .add 3 (.const (τ 4)) (.const x7) 3) 3 s8 fun x9 s9 =>
 I.wop (.binOp .add 3 (.const (τ 4)) (.const x7) 3) 3 s9 fun x10 s10 =>
 I.wop (.slice 36 (.const x8) (some (.const (τ 4))) (some (.const x9)) (some (.const x10))) 36 s10 fun x11 s11 =>
 Zio I (τ 0) [x11] s11 fun x12 s12 =>
 I.wop (.unOp .not 4 (.const x12)) 4 s12 fun x13 s13 =>
 wdec x13
 (Q .ret (U τ [(30, (.bool true)), (30, x13), (29, x12), (28, x11), (27, x10), (26, x7), (25, (τ 4)), (24, x9), (23, x7), (22, (τ 4)), (21, (τ 4)), (20, x8), (19, (τ 0)), (5, x7), (18, x7), (17, x6), (16, x5), (15, (τ 4)), (14, x4), (13, x3), (9, (.bool true)), (9, x2), (8, x1), (7, x0), (6, (τ 4))]) ds s13)
 (I.wop (.load 3 (.const (τ 2))) 3 s13 fun x14 s14 =>
 I.wop (.binOp .add 3 (.const (τ 4)) (.const x14) 3) 3 s14 fun x15 s15 =>
 Q .normal (U τ [(4, x15), (12, x15), (11, x14), (10, (τ 4)), (30, (.bool false)), (30, x13), (29, x12), (28, x11), (27, x10), (26, x7), (25, (τ 4)), (24, x9), (23, x7), (22, (τ 4)), (21, (τ 4)), (20, x8), (19, (τ 0)), (5, x7), (18, x7), (17, x6), (16, x5), (15, (τ 4)), (14, x4), (13, x3), (9, (.bool true)), (9, x2), (8, x1), (7, x0), (6, (τ 4))]) ds s15))
 (Q (.exit 0) (U τ [(9, (.bool false)), (9, x2), (8, x1), (7, x0), (6, (τ 4))]) ds s2)
theorem Ybv (I : Prims) (rnd : Option Nat) (τ : Tau) (ds : List Deferred) (s : St) (Q : Ex → WK) : xp I rnd 31 Ycw Zs8 [] τ [] ds s (lift Q) = Zz6 I rnd τ ds s Q := by kernel_rfl
theorem Ycs [Memo] (ro : Nat) (rnd : Option Nat) (τ : Tau) (ds : List Deferred) (s : St) (Q : Ex → WK) : wp P ro 31 rnd Zs8 τ ds s Q = Zz6 (Zao P ro) rnd τ ds s Q := Zc8 rnd 31 P ro (Ybv _ rnd τ ds s Q)
def v96 (I : Prims) (a0 a1 a2 : Value) (si : St) (K : Value → St → Prop) : Prop :=
 I.loop 31 none Zs8 (U Zb2 [(4, (.int .i64 0)), (0, a0), (1, a1), (2, a2)]) [] (ent si) (fun τ ds s => ((Za5 I si Tryd.f96.results.toList K) .ret) τ [] ds s) [(0, fun _ ds0 s0 =>
 Zbh I ds0 s0 fun s1 =>
 I.fin si K (.tuple (.mk [])) s1)]
theorem x96 (I : Prims) (a0 a1 a2 : Value) (si : St) (K : Value → St → Prop) : Zbs I 31 k96 Tryd.f96 c96 [a0, a1, a2] si K = v96 I a0 a1 a2 si K := by kernel_rfl
theorem n96 [Memo] (ro : Nat) (a0 a1 a2 : Value) (si : St) (K : Value → St → Prop) : Zbr P ro 31 Tryd.f96 c96 [a0, a1, a2] si K = v96 (Zao P ro) a0 a1 a2 si K := Zap 31 P ro (x96 _ a0 a1 a2 si K)
end Go.VE
