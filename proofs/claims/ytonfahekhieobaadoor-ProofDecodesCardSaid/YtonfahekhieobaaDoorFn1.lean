/-
 What the functions' code does, operation by operation.
-/
import Derived.Test.YtonfahekhieobaaDoorTy
set_option linter.unusedSimpArgs false
set_option linter.unusedVariables false
namespace Go.VE
open Go Go.Proofs
noncomputable def c4 : Code := Za7 Tryd.f4
def k4 : List (List Nat) := []
theorem b4 : BodyOk P 45 2 4 Tryd.f4 c4 := ⟨Tryd.func4, by kernel_rfl, by kernel_rfl, by kernel_rfl, by kernel_rfl, by kernel_rfl⟩
def v4 (I : Prims) (a0 a1 : Value) (si : St) (K : Value → St → Prop) : Prop :=
 I.wop (.box 23 (.const a0)) 0 (ent si) fun x0 s0 =>
 I.wop (.call ⟨.builtin .len, ⟨[(.const a1)]⟩, #[32]⟩) 3 s0 fun x1 s1 =>
 I.wop (.binOp .gtr 3 (.const x1) (.const (.int .i64 600000)) 3) 4 s1 fun x2 s2 =>
 wdec x2
 (I.call 16 [] s2 fun x3 s3 =>
 I.fin si K x3 s3)
 (I.wop (.load 23 (.const x0)) 23 s2 fun x4 s4 =>
 I.call 17 [x4, a1] s4 fun x5 s5 =>
 I.wop (.extract (.const x5) 0) 39 s5 fun x6 s6 =>
 I.wop (.extract (.const x5) 1) 3 s6 fun x7 s7 =>
 I.wop (.extract (.const x5) 2) 40 s7 fun x8 s8 =>
 I.wop (.alloc 39) 0 s8 fun x9 s9 =>
 I.wop (.store 39 (.const x9) (.const x6)) 0 s9 fun _ s10 =>
 I.wop (.load 23 (.const x0)) 23 s10 fun x11 s11 =>
 I.call 18 [x11, a1] s11 fun x12 s12 =>
 I.wop (.extract (.const x12) 0) 39 s12 fun x13 s13 =>
 I.wop (.extract (.const x12) 1) 3 s13 fun x14 s14 =>
 I.wop (.extract (.const x12) 2) 40 s14 fun x15 s15 =>
 I.wop (.alloc 39) 0 s15 fun x16 s16 =>
 I.wop (.store 39 (.const x16) (.const x13)) 0 s16 fun _ s17 =>
 I.wop (.load 39 (.const x9)) 39 s17 fun x18 s18 =>
 I.wop (.load 39 (.const x16)) 39 s18 fun x19 s19 =>
 I.call 19 [x18, x19] s19 fun x20 s20 =>
 wdec x20
 (I.wop (.binOp .eql 3 (.const x7) (.const x14) 3) 4 s20 fun x21 s21 =>
 wdec x21
 (I.wop (.binOp .eql 40 (.const x8) (.const x15) 40) 4 s21 fun x22 s22 =>
 wdec x22
 (I.call 16 [] s22 fun x23 s23 =>
 I.fin si K x23 s23)
 (I.fin si K (.bool false) s22))
 (I.fin si K (.bool false) s21))
 (I.fin si K (.bool false) s20))
theorem x4 (I : Prims) (a0 a1 : Value) (si : St) (K : Value → St → Prop) : Zbs I 45 k4 Tryd.f4 c4 [a0, a1] si K = v4 I a0 a1 si K := by kernel_rfl
theorem n4 [Memo] (ro : Nat) (a0 a1 : Value) (si : St) (K : Value → St → Prop) : Zbr P ro 45 Tryd.f4 c4 [a0, a1] si K = v4 (Zao P ro) a0 a1 si K := Zap 45 P ro (x4 _ a0 a1 si K)
theorem r4 (I : Prims) (si : St) (K : Value → St → Prop) (τ : Tau) (ds : List Deferred) (s : St) : Za5 I si Tryd.f4.results.toList K .ret τ [] ds s =
 (Zbh I ds s fun s0 =>
 I.fin si K (τ 4) s0) := by kernel_rfl
noncomputable def c10 : Code := Za7 Tryd.f10
def k10 : List (List Nat) := []
theorem b10 : BodyOk P 10 1 10 Tryd.f10 c10 := ⟨Tryd.func10, by kernel_rfl, by kernel_rfl, by kernel_rfl, by kernel_rfl, by kernel_rfl⟩
def v10 (I : Prims) (a0 : Value) (si : St) (K : Value → St → Prop) : Prop :=
 I.wop (.box 23 (.const a0)) 0 (ent si) fun x0 s0 =>
 I.wop (.load 23 (.const x0)) 23 s0 fun x1 s1 =>
 I.call 12 [x1] s1 fun x2 s2 =>
 I.wop (.unOp .not 4 (.const x2)) 4 s2 fun x3 s3 =>
 wdec x3
 (I.fin si K (.slice none 0 0) s3)
 (I.wop (.load 23 (.const x0)) 23 s3 fun x4 s4 =>
 I.call 32 [x4] s4 fun x5 s5 =>
 I.call 31 [x5] s5 fun x6 s6 =>
 I.call 30 [x6, (.func (.func 33) (.mk []) (.mk []))] s6 fun x7 s7 =>
 I.fin si K x7 s7)
theorem x10 (I : Prims) (a0 : Value) (si : St) (K : Value → St → Prop) : Zbs I 10 k10 Tryd.f10 c10 [a0] si K = v10 I a0 si K := by kernel_rfl
theorem n10 [Memo] (ro : Nat) (a0 : Value) (si : St) (K : Value → St → Prop) : Zbr P ro 10 Tryd.f10 c10 [a0] si K = v10 (Zao P ro) a0 si K := Zap 10 P ro (x10 _ a0 si K)
noncomputable def c11 : Code := Za7 Tryd.f11
noncomputable def Zjn : Code := Za3 [1, 1, 1, 1, 1, 1, 1] c11
noncomputable def Zc6 : Code := Za3 [1, 1, 1, 1, 1, 1, 1, 1, 0, 1, 0, 0] c11
noncomputable def Zcf : Code := Za3 [1, 1, 1, 1, 1, 1, 1, 1, 1, 1, 1, 1, 0, 1, 0, 0] c11
noncomputable def Zbn : Code := Za3 [1, 1, 1, 1, 1, 1, 1, 1, 1, 1, 1, 1, 0, 1, 0, 0, 1, 0, 0, 0, 1, 0, 0] c11
noncomputable def Zbl : Code := Za3 [1, 1, 1, 1, 1, 1, 1, 1, 1, 1, 1, 1, 0, 1, 0, 0, 1, 0, 0, 1, 0, 1, 0, 0] c11
noncomputable def Zbk : Code := Za3 [1, 1, 1, 1, 1, 1, 1, 1, 1, 1, 1, 1, 0, 1, 0, 0, 1, 0, 0, 1, 1, 1, 0, 0] c11
def k11 : List (List Nat) := [[1, 1, 1, 1, 1, 1, 1]]
def Zq5 : List (List Nat) := []
theorem Zq2 : Zbd 125 Zc6 = true := by kernel_rfl
theorem Zqz : Zcc Zc6 = true := by kernel_rfl
def Zmr : List (List Nat) := []
theorem Zmq : Zbd 125 Zcf = true := by kernel_rfl
theorem Zmp : Zcc Zcf = true := by kernel_rfl
def Zho : List (List Nat) := []
theorem Zhn : Zbd 125 Zbn = true := by kernel_rfl
theorem Zhl : Zcc Zbn = true := by kernel_rfl
def Zg2 : List (List Nat) := []
theorem Zg0 : Zbd 125 Zbl = true := by kernel_rfl
theorem Zgy : Zcc Zbl = true := by kernel_rfl
def Zg1 : List (List Nat) := []
theorem Zgz : Zbd 125 Zbk = true := by kernel_rfl
theorem Zgx : Zcc Zbk = true := by kernel_rfl
theorem b11 : BodyOk P 125 1 11 Tryd.f11 c11 := ⟨Tryd.func11, by kernel_rfl, by kernel_rfl, by kernel_rfl, by kernel_rfl, by kernel_rfl⟩
def Zrz (I : Prims) (τ : Tau) (ds : List Deferred) (s : St) (Q : Ex → XK) : Prop :=
 I.wop (.load 23 (.const (τ 1))) 23 s fun x0 s0 =>
 I.call 35 [x0, (τ 4)] s0 fun x1 s1 =>
 I.wop (.binOp .mul 3 (.const (.int .i64 2)) (.const x1) 3) 3 s1 fun x2 s2 =>
 I.call 34 [(τ 3), (.int .u8 4), (.int .i64 0), (.int .i64 0), x2] s2 fun x3 s3 =>
 I.loop 125 none Zc6 (U τ [(5, (.int .i64 0)), (3, x3), (41, x3), (40, x2), (39, x1), (38, (τ 4)), (37, x0), (36, (τ 3))]) ds s3 (fun τ ds s => (Q .ret) τ [] ds s) [(0, fun τ4 ds4 s4 =>
 I.wop (.fieldAddr 23 (.const (τ4 1)) 1) 0 s4 fun x5 s5 =>
 I.wop (.load 3 (.const x5)) 3 s5 fun x6 s6 =>
 veq x6 x6 = true ∧ I.wop (.load 23 (.const (τ4 1))) 23 s6 fun x7 s7 =>
 veq x7 x7 = true ∧ I.call 36 [x7] s7 fun x8 s8 =>
 Keeps [(2, .ptr x5)] s7 s8 ∧ I.wop (.binOp .mul 3 (.const (.int .i64 3)) (.const x8) 3) 3 s8 fun x9 s9 =>
 I.wop (.binOp .sub 3 (.const x6) (.const x9) 3) 3 s9 fun x10 s10 =>
 I.wop (.convert 3 52 (.const x10)) 52 s10 fun x11 s11 =>
 s11 = s10 ∧ veq x11 x11 = true ∧ I.wop (.binOp .shl 3 (.const (.int .i64 1)) (.const x11) 52) 3 s11 fun x12 s12 =>
 I.call 34 [(τ4 3), (.int .u8 6), (.int .i64 0), (.int .i64 0), x12] s12 fun x13 s13 =>
 I.call 34 [x13, (.int .u8 7), (.int .i64 0), (.int .i64 0), (.int .i64 1)] s13 fun x14 s14 =>
 I.wop (.load 23 (.const (τ4 1))) 23 s14 fun x15 s15 =>
 I.call 38 [x15] s15 fun x16 s16 =>
 I.wop (.alloc 71) 0 s16 fun x17 s17 =>
 I.wop (.store 71 (.const x17) (.const x16)) 0 s17 fun _ s18 =>
 I.loop 125 none Zcf (U τ4 [(7, (.int .i64 0)), (6, x17), (70, x16), (69, x15), (3, x14), (68, x14), (67, x13), (3, x13), (66, x13), (65, x12), (64, x11), (63, x10), (62, x9), (61, x8), (60, x7), (59, x6), (58, x5), (57, (τ4 3))]) ds4 s18 (fun τ ds s => (Q .ret) τ [] ds s) [(2, fun τ19 ds19 s19 =>
 Q .ret τ19 [(2, (τ19 3)), (124, (τ19 3))] ds19 s19), (4, fun τ20 ds20 s20 =>
 Q (.exit 4) τ20 [] ds20 s20), (6, fun τ21 ds21 s21 =>
 Q (.exit 6) τ21 [] ds21 s21), (8, fun τ22 ds22 s22 =>
 Q (.exit 8) τ22 [] ds22 s22)])]
theorem Z0w (I : Prims) (τ : Tau) (ds : List Deferred) (s : St) (Q : Ex → XK) : xp I none 125 k11 Zjn [1, 1, 1, 1, 1, 1, 1] τ [] ds s Q = Zrz I τ ds s Q := by kernel_rfl
def Zgk (I : Prims) (rnd : Option Nat) (τ : Tau) (ds : List Deferred) (s : St) (Q : Ex → WK) : Prop :=
 I.wop (.load 23 (.const (τ 1))) 23 s fun x0 s0 =>
 I.call 36 [x0] s0 fun x1 s1 =>
 I.wop (.binOp .lss 3 (.const (τ 5)) (.const x1) 3) 4 s1 fun x2 s2 =>
 wdec x2
 (I.wop (.load 23 (.const (τ 1))) 23 s2 fun x3 s3 =>
 veq x3 x3 = true ∧ I.wop (.load 23 (.const (τ 1))) 23 s3 fun x4 s4 =>
 veq x4 x4 = true ∧ I.call 37 [x4, (τ 5)] s4 fun x5 s5 =>
 Keeps [(2, .ptr (τ 1))] s4 s5 ∧ I.call 35 [x3, x5] s5 fun x6 s6 =>
 I.wop (.binOp .mul 3 (.const (.int .i64 2)) (.const x6) 3) 3 s6 fun x7 s7 =>
 I.call 34 [(τ 3), (.int .u8 5), (.int .i64 0), (τ 5), x7] s7 fun x8 s8 =>
 I.wop (.binOp .add 3 (.const (τ 5)) (.const (.int .i64 1)) 3) 3 s8 fun x9 s9 =>
 Q .normal (U τ [(5, x9), (47, x9), (46, (τ 5)), (3, x8), (56, x8), (55, x7), (54, x6), (53, x5), (52, (τ 5)), (51, x4), (50, x3), (49, (τ 5)), (48, (τ 3)), (45, (.bool true)), (45, x2), (44, x1), (43, x0), (42, (τ 5))]) ds s9)
 (Q (.exit 0) (U τ [(45, (.bool false)), (45, x2), (44, x1), (43, x0), (42, (τ 5))]) ds s2)
theorem Zqo (I : Prims) (rnd : Option Nat) (τ : Tau) (ds : List Deferred) (s : St) (Q : Ex → WK) : xp I rnd 125 Zq5 Zc6 [] τ [] ds s (lift Q) = Zgk I rnd τ ds s Q := by kernel_rfl
theorem Zqy [Memo] (ro : Nat) (rnd : Option Nat) (τ : Tau) (ds : List Deferred) (s : St) (Q : Ex → WK) : wp P ro 125 rnd Zc6 τ ds s Q = Zgk (Zao P ro) rnd τ ds s Q := Zc8 rnd 125 P ro (Zqo _ rnd τ ds s Q)
def Zej (I : Prims) (rnd : Option Nat) (τ : Tau) (ds : List Deferred) (s : St) (Q : Ex → WK) : Prop :=
 I.wop (.fieldAddr 23 (.const (τ 1)) 4) 0 s fun x0 s0 =>
 I.wop (.load 3 (.const x0)) 3 s0 fun x1 s1 =>
 I.wop (.binOp .lss 3 (.const (τ 7)) (.const x1) 3) 4 s1 fun x2 s2 =>
 wdec x2
 (I.loop 125 rnd Zbn (U τ [(8, (.int .i64 0)), (74, (.bool true)), (74, x2), (73, x1), (72, x0), (71, (τ 7))]) ds s2 (fun τ ds s => ((lift Q) .ret) τ [] ds s) [(4, fun τ3 ds3 s3 =>
 I.loop 125 rnd Zbl (U τ3 [(9, (.int .i64 0))]) ds3 s3 (fun τ ds s => ((lift Q) .ret) τ [] ds s) [(6, fun τ4 ds4 s4 =>
 I.loop 125 rnd Zbk (U τ4 [(10, (.int .i64 0))]) ds4 s4 (fun τ ds s => ((lift Q) .ret) τ [] ds s) [(8, fun τ5 ds5 s5 =>
 I.wop (.binOp .add 3 (.const (τ5 7)) (.const (.int .i64 1)) 3) 3 s5 fun x6 s6 =>
 Q .normal (U τ5 [(7, x6), (76, x6), (75, (τ5 7))]) ds5 s6)])])])
 (Q (.exit 2) (U τ [(74, (.bool false)), (74, x2), (73, x1), (72, x0), (71, (τ 7))]) ds s2)
theorem Zmj (I : Prims) (rnd : Option Nat) (τ : Tau) (ds : List Deferred) (s : St) (Q : Ex → WK) : xp I rnd 125 Zmr Zcf [] τ [] ds s (lift Q) = Zej I rnd τ ds s Q := by kernel_rfl
theorem Zmo [Memo] (ro : Nat) (rnd : Option Nat) (τ : Tau) (ds : List Deferred) (s : St) (Q : Ex → WK) : wp P ro 125 rnd Zcf τ ds s Q = Zej (Zao P ro) rnd τ ds s Q := Zc8 rnd 125 P ro (Zmj _ rnd τ ds s Q)
def Zcw (I : Prims) (rnd : Option Nat) (τ : Tau) (ds : List Deferred) (s : St) (Q : Ex → WK) : Prop :=
 I.wop (.binOp .lss 3 (.const (τ 8)) (.const (.int .i64 6)) 3) 4 s fun x0 s0 =>
 wdec x0
 (I.wop (.indexAddr 71 (.const (τ 6)) (.const (τ 8))) 0 s0 fun x1 s1 =>
 I.wop (.load 3 (.const x1)) 3 s1 fun x2 s2 =>
 I.call 34 [(τ 3), (.int .u8 8), (τ 7), (τ 8), x2] s2 fun x3 s3 =>
 I.wop (.binOp .add 3 (.const (τ 8)) (.const (.int .i64 1)) 3) 3 s3 fun x4 s4 =>
 Q .normal (U τ [(8, x4), (80, x4), (79, (τ 8)), (3, x3), (87, x3), (86, x2), (85, x1), (84, (τ 8)), (83, (τ 8)), (82, (τ 7)), (81, (τ 3)), (78, (.bool true)), (78, x0), (77, (τ 8))]) ds s4)
 (Q (.exit 4) (U τ [(78, (.bool false)), (78, x0), (77, (τ 8))]) ds s0)
theorem Zhe (I : Prims) (rnd : Option Nat) (τ : Tau) (ds : List Deferred) (s : St) (Q : Ex → WK) : xp I rnd 125 Zho Zbn [] τ [] ds s (lift Q) = Zcw I rnd τ ds s Q := by kernel_rfl
theorem Zhk [Memo] (ro : Nat) (rnd : Option Nat) (τ : Tau) (ds : List Deferred) (s : St) (Q : Ex → WK) : wp P ro 125 rnd Zbn τ ds s Q = Zcw (Zao P ro) rnd τ ds s Q := Zc8 rnd 125 P ro (Zhe _ rnd τ ds s Q)
def Zcs (I : Prims) (rnd : Option Nat) (τ : Tau) (ds : List Deferred) (s : St) (Q : Ex → WK) : Prop :=
 I.wop (.binOp .lss 3 (.const (τ 9)) (.const (.int .i64 6)) 3) 4 s fun x0 s0 =>
 wdec x0
 (I.wop (.indexAddr 71 (.const (τ 6)) (.const (τ 9))) 0 s0 fun x1 s1 =>
 I.wop (.load 3 (.const x1)) 3 s1 fun x2 s2 =>
 I.wop (.binOp .gtr 3 (.const x2) (.const (.int .i64 0)) 3) 4 s2 fun x3 s3 =>
 wdec x3
 (I.wop (.load 23 (.const (τ 1))) 23 s3 fun x4 s4 =>
 I.call 39 [x4, (τ 4)] s4 fun x5 s5 =>
 I.wop (.binOp .mul 3 (.const (.int .i64 2)) (.const x5) 3) 3 s5 fun x6 s6 =>
 I.call 34 [(τ 3), (.int .u8 9), (τ 7), (τ 9), x6] s6 fun x7 s7 =>
 I.wop (.binOp .add 3 (.const (τ 9)) (.const (.int .i64 1)) 3) 3 s7 fun x8 s8 =>
 Q .normal (U τ [(9, x8), (91, x8), (90, (τ 9)), (3, x7), (103, x7), (102, x6), (101, x5), (100, (τ 4)), (99, x4), (98, (τ 9)), (97, (τ 7)), (96, (τ 3)), (95, (.bool true)), (95, x3), (94, x2), (93, x1), (92, (τ 9)), (89, (.bool true)), (89, x0), (88, (τ 9))]) ds s8)
 (I.wop (.binOp .add 3 (.const (τ 9)) (.const (.int .i64 1)) 3) 3 s3 fun x9 s9 =>
 Q .normal (U τ [(9, x9), (91, x9), (90, (τ 9)), (95, (.bool false)), (95, x3), (94, x2), (93, x1), (92, (τ 9)), (89, (.bool true)), (89, x0), (88, (τ 9))]) ds s9))
 (Q (.exit 6) (U τ [(89, (.bool false)), (89, x0), (88, (τ 9))]) ds s0)
theorem Zgs (I : Prims) (rnd : Option Nat) (τ : Tau) (ds : List Deferred) (s : St) (Q : Ex → WK) : xp I rnd 125 Zg2 Zbl [] τ [] ds s (lift Q) = Zcs I rnd τ ds s Q := by kernel_rfl
theorem Zgw [Memo] (ro : Nat) (rnd : Option Nat) (τ : Tau) (ds : List Deferred) (s : St) (Q : Ex → WK) : wp P ro 125 rnd Zbl τ ds s Q = Zcs (Zao P ro) rnd τ ds s Q := Zc8 rnd 125 P ro (Zgs _ rnd τ ds s Q)
def Zcr (I : Prims) (rnd : Option Nat) (τ : Tau) (ds : List Deferred) (s : St) (Q : Ex → WK) : Prop :=
 I.wop (.load 23 (.const (τ 1))) 23 s fun x0 s0 =>
 I.call 36 [x0] s0 fun x1 s1 =>
 I.wop (.binOp .lss 3 (.const (τ 10)) (.const x1) 3) 4 s1 fun x2 s2 =>
 wdec x2
 (I.call 34 [(τ 3), (.int .u8 10), (τ 7), (τ 10), (.int .i64 8)] s2 fun x3 s3 =>
 I.wop (.load 23 (.const (τ 1))) 23 s3 fun x4 s4 =>
 veq x4 x4 = true ∧ I.wop (.load 23 (.const (τ 1))) 23 s4 fun x5 s5 =>
 veq x5 x5 = true ∧ I.call 37 [x5, (τ 10)] s5 fun x6 s6 =>
 Keeps [(3, .ptr (τ 1))] s5 s6 ∧ I.call 39 [x4, x6] s6 fun x7 s7 =>
 I.wop (.binOp .mul 3 (.const (.int .i64 2)) (.const x7) 3) 3 s7 fun x8 s8 =>
 I.call 34 [x3, (.int .u8 11), (τ 7), (τ 10), x8] s8 fun x9 s9 =>
 I.wop (.binOp .add 3 (.const (τ 10)) (.const (.int .i64 1)) 3) 3 s9 fun x10 s10 =>
 Q .normal (U τ [(10, x10), (109, x10), (108, (τ 10)), (3, x9), (123, x9), (122, x8), (121, x7), (120, x6), (119, (τ 10)), (118, x5), (117, x4), (116, (τ 10)), (115, (τ 7)), (114, x3), (3, x3), (113, x3), (112, (τ 10)), (111, (τ 7)), (110, (τ 3)), (107, (.bool true)), (107, x2), (106, x1), (105, x0), (104, (τ 10))]) ds s10)
 (Q (.exit 8) (U τ [(107, (.bool false)), (107, x2), (106, x1), (105, x0), (104, (τ 10))]) ds s2)
theorem Zgr (I : Prims) (rnd : Option Nat) (τ : Tau) (ds : List Deferred) (s : St) (Q : Ex → WK) : xp I rnd 125 Zg1 Zbk [] τ [] ds s (lift Q) = Zcr I rnd τ ds s Q := by kernel_rfl
theorem Zgv [Memo] (ro : Nat) (rnd : Option Nat) (τ : Tau) (ds : List Deferred) (s : St) (Q : Ex → WK) : wp P ro 125 rnd Zbk τ ds s Q = Zcr (Zao P ro) rnd τ ds s Q := Zc8 rnd 125 P ro (Zgr _ rnd τ ds s Q)
def v11 (I : Prims) (a0 : Value) (si : St) (K : Value → St → Prop) : Prop :=
 I.wop (.box 23 (.const a0)) 0 (ent si) fun x0 s0 =>
 I.wop (.load 23 (.const x0)) 23 s0 fun x1 s1 =>
 I.call 13 [x1] s1 fun x2 s2 =>
 I.wop (.unOp .not 4 (.const x2)) 4 s2 fun x3 s3 =>
 wdec x3
 (I.fin si K (.slice none 0 0) s3)
 (I.wop (.fieldAddr 23 (.const x0) 1) 0 s3 fun x4 s4 =>
 I.wop (.load 3 (.const x4)) 3 s4 fun x5 s5 =>
 I.wop (.fieldAddr 23 (.const x0) 2) 0 s5 fun x6 s6 =>
 I.wop (.load 3 (.const x6)) 3 s6 fun x7 s7 =>
 I.wop (.binOp .add 3 (.const x5) (.const x7) 3) 3 s7 fun x8 s8 =>
 I.wop (.load 23 (.const x0)) 23 s8 fun x9 s9 =>
 I.call 35 [x9, x8] s9 fun x10 s10 =>
 I.wop (.binOp .mul 3 (.const (.int .i64 2)) (.const x10) 3) 3 s10 fun x11 s11 =>
 I.call 34 [(.slice none 0 0), (.int .u8 1), (.int .i64 0), (.int .i64 0), x11] s11 fun x12 s12 =>
 I.call 34 [x12, (.int .u8 2), (.int .i64 0), (.int .i64 0), (.int .i64 1)] s12 fun x13 s13 =>
 I.wop (.fieldAddr 23 (.const x0) 7) 0 s13 fun x14 s14 =>
 I.wop (.load 3 (.const x14)) 3 s14 fun x15 s15 =>
 I.wop (.binOp .gtr 3 (.const x15) (.const (.int .i64 0)) 3) 4 s15 fun x16 s16 =>
 wdec x16
 (I.wop (.load 23 (.const x0)) 23 s16 fun x17 s17 =>
 I.call 35 [x17, x8] s17 fun x18 s18 =>
 I.wop (.binOp .mul 3 (.const (.int .i64 2)) (.const x18) 3) 3 s18 fun x19 s19 =>
 I.call 34 [x13, (.int .u8 3), (.int .i64 0), (.int .i64 0), x19] s19 fun x20 s20 =>
 I.hold (xp I none 125 k11 Zjn [1, 1, 1, 1, 1, 1, 1] (U Zb2 [(3, x20), (35, x20), (34, x19), (33, x18), (32, x8), (31, x17), (30, x13), (29, (.bool true)), (29, x16), (28, x15), (27, x14), (3, x13), (26, x13), (25, x12), (3, x12), (24, x12), (23, x11), (22, x10), (21, x8), (20, x9), (19, (.slice none 0 0)), (4, x8), (18, x8), (17, x7), (16, x6), (15, x5), (14, x4), (3, (.slice none 0 0)), (13, (.bool false)), (13, x3), (12, x2), (11, x1), (2, (.slice none 0 0)), (1, x0), (0, a0)]) [] [] s20 (Za5 I si Tryd.f11.results.toList K)))
 (I.hold (xp I none 125 k11 Zjn [1, 1, 1, 1, 1, 1, 1] (U Zb2 [(29, (.bool false)), (29, x16), (28, x15), (27, x14), (3, x13), (26, x13), (25, x12), (3, x12), (24, x12), (23, x11), (22, x10), (21, x8), (20, x9), (19, (.slice none 0 0)), (4, x8), (18, x8), (17, x7), (16, x6), (15, x5), (14, x4), (3, (.slice none 0 0)), (13, (.bool false)), (13, x3), (12, x2), (11, x1), (2, (.slice none 0 0)), (1, x0), (0, a0)]) [] [] s16 (Za5 I si Tryd.f11.results.toList K))))
theorem x11 (I : Prims) (a0 : Value) (si : St) (K : Value → St → Prop) : Zbs I 125 k11 Tryd.f11 c11 [a0] si K = v11 I a0 si K := by kernel_rfl
theorem n11 [Memo] (ro : Nat) (a0 : Value) (si : St) (K : Value → St → Prop) : Zbr P ro 125 Tryd.f11 c11 [a0] si K = v11 (Zao P ro) a0 si K := Zap 125 P ro (x11 _ a0 si K)
theorem r11 (I : Prims) (si : St) (K : Value → St → Prop) (τ : Tau) (ds : List Deferred) (s : St) : Za5 I si Tryd.f11.results.toList K .ret τ [] ds s =
 (Zbh I ds s fun s0 =>
 I.fin si K (τ 2) s0) := by kernel_rfl
noncomputable def c12 : Code := Za7 Tryd.f12
noncomputable def Zmd : Code := Za3 [1, 0, 0, 1] c12
noncomputable def Zs9 : Code := Za3 [1, 1] c12
def k12 : List (List Nat) := [[1, 0, 0, 1]]
theorem b12 : BodyOk P 60 1 12 Tryd.f12 c12 := ⟨Tryd.func12, by kernel_rfl, by kernel_rfl, by kernel_rfl, by kernel_rfl, by kernel_rfl⟩
def Z27 (I : Prims) (τ : Tau) (ds : List Deferred) (s : St) (Q : Ex → XK) : Prop :=
 wdec (τ 3)
 (Q .ret τ [(2, (.bool false)), (3, (.bool true))] ds s)
 (I.wop (.fieldAddr 23 (.const (τ 1)) 3) 0 s fun x0 s0 =>
 I.wop (.load 3 (.const x0)) 3 s0 fun x1 s1 =>
 I.call 41 [x1, (.int .i64 0), (.int .i64 8)] s1 fun x2 s2 =>
 I.wop (.unOp .not 4 (.const x2)) 4 s2 fun x3 s3 =>
 wdec x3
 (Q .ret τ [(2, (.bool false)), (31, (.bool true)), (31, (.bool true)), (41, (.bool true)), (36, (.bool true)), (40, undef), (36, (.bool true)), (39, undef), (36, (.bool true)), (38, undef), (36, (.bool true)), (37, undef), (36, (.bool true)), (36, x3), (35, x3), (34, x2), (33, x1), (32, x0), (3, (.bool false))] ds s3)
 (I.wop (.fieldAddr 23 (.const (τ 1)) 4) 0 s3 fun x4 s4 =>
 I.wop (.load 3 (.const x4)) 3 s4 fun x5 s5 =>
 I.call 41 [x5, (.int .i64 1), (.int .i64 64)] s5 fun x6 s6 =>
 I.wop (.unOp .not 4 (.const x6)) 4 s6 fun x7 s7 =>
 wdec x7
 (Q .ret τ [(2, (.bool false)), (31, (.bool true)), (31, x7), (41, x7), (36, (.bool false)), (40, x7), (36, (.bool false)), (39, x6), (36, (.bool false)), (38, x5), (36, (.bool false)), (37, x4), (36, (.bool false)), (36, x3), (35, x3), (34, x2), (33, x1), (32, x0), (3, (.bool false))] ds s7)
 (Q .normal τ [(31, (.bool false)), (31, x7), (41, x7), (36, (.bool false)), (40, x7), (36, (.bool false)), (39, x6), (36, (.bool false)), (38, x5), (36, (.bool false)), (37, x4), (36, (.bool false)), (36, x3), (35, x3), (34, x2), (33, x1), (32, x0), (3, (.bool false))] ds s7)))
theorem Yaj (I : Prims) (τ : Tau) (ds : List Deferred) (s : St) (Q : Ex → XK) : xp I none 60 k12 Zmd [1, 0, 0, 1] τ [] ds s Q = Z27 I τ ds s Q := by kernel_rfl
def Zir (I : Prims) (τ : Tau) (ds : List Deferred) (s : St) (Q : Ex → XK) : Prop :=
 I.wop (.fieldAddr 23 (.const (τ 1)) 5) 0 s fun x0 s0 =>
 I.wop (.load 3 (.const x0)) 3 s0 fun x1 s1 =>
 I.call 41 [x1, (.int .i64 0), (.int .i64 64)] s1 fun x2 s2 =>
 wdec x2
 (I.wop (.fieldAddr 23 (.const (τ 1)) 6) 0 s2 fun x3 s3 =>
 I.wop (.load 3 (.const x3)) 3 s3 fun x4 s4 =>
 I.call 41 [x4, (.int .i64 1), (.int .i64 64)] s4 fun x5 s5 =>
 wdec x5
 (I.wop (.fieldAddr 23 (.const (τ 1)) 7) 0 s5 fun x6 s6 =>
 I.wop (.load 3 (.const x6)) 3 s6 fun x7 s7 =>
 I.call 41 [x7, (.int .i64 0), (.int .i64 16)] s7 fun x8 s8 =>
 wdec x8
 (I.wop (.fieldAddr 23 (.const (τ 1)) 8) 0 s8 fun x9 s9 =>
 I.wop (.load 3 (.const x9)) 3 s9 fun x10 s10 =>
 I.call 41 [x10, (.int .i64 1), (.int .i64 16)] s10 fun x11 s11 =>
 Q .ret τ [(2, x11), (59, x11), (55, (.bool true)), (58, x11), (55, (.bool true)), (57, x10), (55, (.bool true)), (56, x9), (55, (.bool true)), (55, x8), (54, x8), (50, (.bool true)), (53, x8), (50, (.bool true)), (52, x7), (50, (.bool true)), (51, x6), (50, (.bool true)), (50, x5), (49, x5), (45, (.bool true)), (48, x5), (45, (.bool true)), (47, x4), (45, (.bool true)), (46, x3), (45, (.bool true)), (45, x2), (44, x2), (43, x1), (42, x0)] ds s11)
 (Q .ret τ [(2, (.bool false)), (59, (.bool false)), (55, (.bool false)), (58, undef), (55, (.bool false)), (57, undef), (55, (.bool false)), (56, undef), (55, (.bool false)), (55, x8), (54, x8), (50, (.bool true)), (53, x8), (50, (.bool true)), (52, x7), (50, (.bool true)), (51, x6), (50, (.bool true)), (50, x5), (49, x5), (45, (.bool true)), (48, x5), (45, (.bool true)), (47, x4), (45, (.bool true)), (46, x3), (45, (.bool true)), (45, x2), (44, x2), (43, x1), (42, x0)] ds s8))
 (Q .ret τ [(2, (.bool false)), (59, (.bool false)), (55, (.bool false)), (58, undef), (55, (.bool false)), (57, undef), (55, (.bool false)), (56, undef), (55, (.bool false)), (55, (.bool false)), (54, (.bool false)), (50, (.bool false)), (53, undef), (50, (.bool false)), (52, undef), (50, (.bool false)), (51, undef), (50, (.bool false)), (50, x5), (49, x5), (45, (.bool true)), (48, x5), (45, (.bool true)), (47, x4), (45, (.bool true)), (46, x3), (45, (.bool true)), (45, x2), (44, x2), (43, x1), (42, x0)] ds s5))
 (Q .ret τ [(2, (.bool false)), (59, (.bool false)), (55, (.bool false)), (58, undef), (55, (.bool false)), (57, undef), (55, (.bool false)), (56, undef), (55, (.bool false)), (55, (.bool false)), (54, (.bool false)), (50, (.bool false)), (53, undef), (50, (.bool false)), (52, undef), (50, (.bool false)), (51, undef), (50, (.bool false)), (50, (.bool false)), (49, (.bool false)), (45, (.bool false)), (48, undef), (45, (.bool false)), (47, undef), (45, (.bool false)), (46, undef), (45, (.bool false)), (45, x2), (44, x2), (43, x1), (42, x0)] ds s2)
theorem Yer (I : Prims) (τ : Tau) (ds : List Deferred) (s : St) (Q : Ex → XK) : xp I none 60 k12 Zs9 [1, 1] τ [] ds s Q = Zir I τ ds s Q := by kernel_rfl
def v12 (I : Prims) (a0 : Value) (si : St) (K : Value → St → Prop) : Prop :=
 I.wop (.box 23 (.const a0)) 0 (ent si) fun x0 s0 =>
 I.wop (.fieldAddr 23 (.const x0) 0) 0 s0 fun x1 s1 =>
 I.wop (.load 3 (.const x1)) 3 s1 fun x2 s2 =>
 veq x2 x2 = true ∧ I.call 40 [x2] s2 fun x3 s3 =>
 I.wop (.unOp .not 4 (.const x3)) 4 s3 fun x4 s4 =>
 wdec x4
 (I.hold (xp I none 60 k12 Zmd [1, 0, 0, 1] (U Zb2 [(3, (.bool true)), (30, (.bool true)), (20, (.bool true)), (29, undef), (20, (.bool true)), (28, undef), (20, (.bool true)), (27, undef), (20, (.bool true)), (26, undef), (20, (.bool true)), (25, undef), (20, (.bool true)), (24, undef), (20, (.bool true)), (23, undef), (20, (.bool true)), (22, undef), (20, (.bool true)), (21, undef), (20, (.bool true)), (20, (.bool true)), (19, (.bool true)), (14, (.bool true)), (18, undef), (14, (.bool true)), (17, undef), (14, (.bool true)), (16, undef), (14, (.bool true)), (15, undef), (14, (.bool true)), (14, (.bool true)), (13, (.bool true)), (8, (.bool true)), (12, undef), (8, (.bool true)), (11, undef), (8, (.bool true)), (10, undef), (8, (.bool true)), (9, undef), (8, (.bool true)), (8, x4), (7, x4), (6, x3), (5, x2), (4, x1), (2, (.bool false)), (1, x0), (0, a0)]) [] [] s4 (blkX 0 (sX I none 60 k12 Zs9 [1, 1] (Za5 I si Tryd.f12.results.toList K)))))
 (I.wop (.fieldAddr 23 (.const x0) 1) 0 s4 fun x5 s5 =>
 I.wop (.load 3 (.const x5)) 3 s5 fun x6 s6 =>
 veq x6 x6 = true ∧ I.call 41 [x6, (.int .i64 1), (.int .i64 13)] s6 fun x7 s7 =>
 I.wop (.unOp .not 4 (.const x7)) 4 s7 fun x8 s8 =>
 wdec x8
 (I.hold (xp I none 60 k12 Zmd [1, 0, 0, 1] (U Zb2 [(3, (.bool true)), (30, (.bool true)), (20, (.bool true)), (29, undef), (20, (.bool true)), (28, undef), (20, (.bool true)), (27, undef), (20, (.bool true)), (26, undef), (20, (.bool true)), (25, undef), (20, (.bool true)), (24, undef), (20, (.bool true)), (23, undef), (20, (.bool true)), (22, undef), (20, (.bool true)), (21, undef), (20, (.bool true)), (20, (.bool true)), (19, (.bool true)), (14, (.bool true)), (18, undef), (14, (.bool true)), (17, undef), (14, (.bool true)), (16, undef), (14, (.bool true)), (15, undef), (14, (.bool true)), (14, x8), (13, x8), (8, (.bool false)), (12, x8), (8, (.bool false)), (11, x7), (8, (.bool false)), (10, x6), (8, (.bool false)), (9, x5), (8, (.bool false)), (8, x4), (7, x4), (6, x3), (5, x2), (4, x1), (2, (.bool false)), (1, x0), (0, a0)]) [] [] s8 (blkX 0 (sX I none 60 k12 Zs9 [1, 1] (Za5 I si Tryd.f12.results.toList K)))))
 (I.wop (.fieldAddr 23 (.const x0) 2) 0 s8 fun x9 s9 =>
 I.wop (.load 3 (.const x9)) 3 s9 fun x10 s10 =>
 veq x10 x10 = true ∧ I.call 41 [x10, (.int .i64 1), (.int .i64 5)] s10 fun x11 s11 =>
 I.wop (.unOp .not 4 (.const x11)) 4 s11 fun x12 s12 =>
 wdec x12
 (I.hold (xp I none 60 k12 Zmd [1, 0, 0, 1] (U Zb2 [(3, (.bool true)), (30, (.bool true)), (20, (.bool true)), (29, undef), (20, (.bool true)), (28, undef), (20, (.bool true)), (27, undef), (20, (.bool true)), (26, undef), (20, (.bool true)), (25, undef), (20, (.bool true)), (24, undef), (20, (.bool true)), (23, undef), (20, (.bool true)), (22, undef), (20, (.bool true)), (21, undef), (20, (.bool true)), (20, x12), (19, x12), (14, (.bool false)), (18, x12), (14, (.bool false)), (17, x11), (14, (.bool false)), (16, x10), (14, (.bool false)), (15, x9), (14, (.bool false)), (14, x8), (13, x8), (8, (.bool false)), (12, x8), (8, (.bool false)), (11, x7), (8, (.bool false)), (10, x6), (8, (.bool false)), (9, x5), (8, (.bool false)), (8, x4), (7, x4), (6, x3), (5, x2), (4, x1), (2, (.bool false)), (1, x0), (0, a0)]) [] [] s12 (blkX 0 (sX I none 60 k12 Zs9 [1, 1] (Za5 I si Tryd.f12.results.toList K)))))
 (I.wop (.fieldAddr 23 (.const x0) 1) 0 s12 fun x13 s13 =>
 I.wop (.load 3 (.const x13)) 3 s13 fun x14 s14 =>
 veq x14 x14 = true ∧ I.wop (.fieldAddr 23 (.const x0) 2) 0 s14 fun x15 s15 =>
 I.wop (.load 3 (.const x15)) 3 s15 fun x16 s16 =>
 veq x16 x16 = true ∧ I.wop (.binOp .add 3 (.const x14) (.const x16) 3) 3 s16 fun x17 s17 =>
 I.wop (.fieldAddr 23 (.const x0) 0) 0 s17 fun x18 s18 =>
 I.wop (.load 3 (.const x18)) 3 s18 fun x19 s19 =>
 veq x19 x19 = true ∧ I.call 42 [x19] s19 fun x20 s20 =>
 Keeps [(20, .ptr x15), (18, .ptr x13)] s19 s20 ∧ I.wop (.binOp .gtr 3 (.const x17) (.const x20) 3) 4 s20 fun x21 s21 =>
 I.hold (xp I none 60 k12 Zmd [1, 0, 0, 1] (U Zb2 [(3, x21), (30, x21), (20, (.bool false)), (29, x21), (20, (.bool false)), (28, x20), (20, (.bool false)), (27, x19), (20, (.bool false)), (26, x18), (20, (.bool false)), (25, x17), (20, (.bool false)), (24, x16), (20, (.bool false)), (23, x15), (20, (.bool false)), (22, x14), (20, (.bool false)), (21, x13), (20, (.bool false)), (20, x12), (19, x12), (14, (.bool false)), (18, x12), (14, (.bool false)), (17, x11), (14, (.bool false)), (16, x10), (14, (.bool false)), (15, x9), (14, (.bool false)), (14, x8), (13, x8), (8, (.bool false)), (12, x8), (8, (.bool false)), (11, x7), (8, (.bool false)), (10, x6), (8, (.bool false)), (9, x5), (8, (.bool false)), (8, x4), (7, x4), (6, x3), (5, x2), (4, x1), (2, (.bool false)), (1, x0), (0, a0)]) [] [] s21 (blkX 0 (sX I none 60 k12 Zs9 [1, 1] (Za5 I si Tryd.f12.results.toList K)))))))
theorem x12 (I : Prims) (a0 : Value) (si : St) (K : Value → St → Prop) : Zbs I 60 k12 Tryd.f12 c12 [a0] si K = v12 I a0 si K := by kernel_rfl
theorem n12 [Memo] (ro : Nat) (a0 : Value) (si : St) (K : Value → St → Prop) : Zbr P ro 60 Tryd.f12 c12 [a0] si K = v12 (Zao P ro) a0 si K := Zap 60 P ro (x12 _ a0 si K)
theorem r12 (I : Prims) (si : St) (K : Value → St → Prop) (τ : Tau) (ds : List Deferred) (s : St) : Za5 I si Tryd.f12.results.toList K .ret τ [] ds s =
 (Zbh I ds s fun s0 =>
 I.fin si K (τ 2) s0) := by kernel_rfl
noncomputable def c13 : Code := Za7 Tryd.f13
noncomputable def Zuu : Code := Za3 [1, 1] c13
noncomputable def Zpm : Code := Za3 [1, 1, 1] c13
def k13 : List (List Nat) := [[1, 1], [1, 1, 1]]
theorem b13 : BodyOk P 61 1 13 Tryd.f13 c13 := ⟨Tryd.func13, by kernel_rfl, by kernel_rfl, by kernel_rfl, by kernel_rfl, by kernel_rfl⟩
def Yba (I : Prims) (τ : Tau) (ds : List Deferred) (s : St) (Q : Ex → XK) : Prop :=
 I.wop (.fieldAddr 23 (.const (τ 1)) 5) 0 s fun x0 s0 =>
 I.wop (.load 3 (.const x0)) 3 s0 fun x1 s1 =>
 I.call 43 [x1, (.int .i64 0), (.int .i64 64)] s1 fun x2 s2 =>
 wdec x2
 (I.wop (.fieldAddr 23 (.const (τ 1)) 6) 0 s2 fun x3 s3 =>
 I.wop (.load 3 (.const x3)) 3 s3 fun x4 s4 =>
 I.call 43 [x4, (.int .i64 1), (.int .i64 64)] s4 fun x5 s5 =>
 wdec x5
 (I.wop (.fieldAddr 23 (.const (τ 1)) 7) 0 s5 fun x6 s6 =>
 I.wop (.load 3 (.const x6)) 3 s6 fun x7 s7 =>
 I.call 43 [x7, (.int .i64 0), (.int .i64 16)] s7 fun x8 s8 =>
 wdec x8
 (I.wop (.fieldAddr 23 (.const (τ 1)) 8) 0 s8 fun x9 s9 =>
 I.wop (.load 3 (.const x9)) 3 s9 fun x10 s10 =>
 I.call 43 [x10, (.int .i64 1), (.int .i64 16)] s10 fun x11 s11 =>
 I.hold (xp I none 61 k13 Zpm [1, 1, 1] (U τ [(4, x11), (40, x11), (36, (.bool true)), (39, x11), (36, (.bool true)), (38, x10), (36, (.bool true)), (37, x9), (36, (.bool true)), (36, x8), (35, x8), (31, (.bool true)), (34, x8), (31, (.bool true)), (33, x7), (31, (.bool true)), (32, x6), (31, (.bool true)), (31, x5), (30, x5), (26, (.bool true)), (29, x5), (26, (.bool true)), (28, x4), (26, (.bool true)), (27, x3), (26, (.bool true)), (26, x2), (25, x2), (24, x1), (23, x0)]) [] ds s11 Q))
 (I.hold (xp I none 61 k13 Zpm [1, 1, 1] (U τ [(4, (.bool false)), (40, (.bool false)), (36, (.bool false)), (39, undef), (36, (.bool false)), (38, undef), (36, (.bool false)), (37, undef), (36, (.bool false)), (36, x8), (35, x8), (31, (.bool true)), (34, x8), (31, (.bool true)), (33, x7), (31, (.bool true)), (32, x6), (31, (.bool true)), (31, x5), (30, x5), (26, (.bool true)), (29, x5), (26, (.bool true)), (28, x4), (26, (.bool true)), (27, x3), (26, (.bool true)), (26, x2), (25, x2), (24, x1), (23, x0)]) [] ds s8 Q)))
 (I.hold (xp I none 61 k13 Zpm [1, 1, 1] (U τ [(4, (.bool false)), (40, (.bool false)), (36, (.bool false)), (39, undef), (36, (.bool false)), (38, undef), (36, (.bool false)), (37, undef), (36, (.bool false)), (36, (.bool false)), (35, (.bool false)), (31, (.bool false)), (34, undef), (31, (.bool false)), (33, undef), (31, (.bool false)), (32, undef), (31, (.bool false)), (31, x5), (30, x5), (26, (.bool true)), (29, x5), (26, (.bool true)), (28, x4), (26, (.bool true)), (27, x3), (26, (.bool true)), (26, x2), (25, x2), (24, x1), (23, x0)]) [] ds s5 Q)))
 (I.hold (xp I none 61 k13 Zpm [1, 1, 1] (U τ [(4, (.bool false)), (40, (.bool false)), (36, (.bool false)), (39, undef), (36, (.bool false)), (38, undef), (36, (.bool false)), (37, undef), (36, (.bool false)), (36, (.bool false)), (35, (.bool false)), (31, (.bool false)), (34, undef), (31, (.bool false)), (33, undef), (31, (.bool false)), (32, undef), (31, (.bool false)), (31, (.bool false)), (30, (.bool false)), (26, (.bool false)), (29, undef), (26, (.bool false)), (28, undef), (26, (.bool false)), (27, undef), (26, (.bool false)), (26, x2), (25, x2), (24, x1), (23, x0)]) [] ds s2 Q))
theorem Yeq (I : Prims) (τ : Tau) (ds : List Deferred) (s : St) (Q : Ex → XK) : xp I none 61 k13 Zuu [1, 1] τ [] ds s Q = Yba I τ ds s Q := by kernel_rfl
def Z66 (I : Prims) (τ : Tau) (ds : List Deferred) (s : St) (Q : Ex → XK) : Prop :=
 I.wop (.fieldAddr 23 (.const (τ 1)) 0) 0 s fun x0 s0 =>
 I.wop (.load 3 (.const x0)) 3 s0 fun x1 s1 =>
 veq x1 x1 = true ∧ I.call 44 [x1] s1 fun x2 s2 =>
 wdec x2
 (wdec (τ 3)
 (wdec (τ 4)
 (I.wop (.fieldAddr 23 (.const (τ 1)) 1) 0 s2 fun x3 s3 =>
 I.wop (.load 3 (.const x3)) 3 s3 fun x4 s4 =>
 veq x4 x4 = true ∧ I.wop (.fieldAddr 23 (.const (τ 1)) 2) 0 s4 fun x5 s5 =>
 I.wop (.load 3 (.const x5)) 3 s5 fun x6 s6 =>
 veq x6 x6 = true ∧ I.wop (.binOp .add 3 (.const x4) (.const x6) 3) 3 s6 fun x7 s7 =>
 I.wop (.fieldAddr 23 (.const (τ 1)) 0) 0 s7 fun x8 s8 =>
 I.wop (.load 3 (.const x8)) 3 s8 fun x9 s9 =>
 veq x9 x9 = true ∧ I.call 45 [x9] s9 fun x10 s10 =>
 Keeps [(13, .ptr x5), (11, .ptr x3)] s9 s10 ∧ I.wop (.binOp .leq 3 (.const x7) (.const x10) 3) 4 s10 fun x11 s11 =>
 Q .ret τ [(2, x11), (60, x11), (50, (.bool true)), (59, x11), (50, (.bool true)), (58, x10), (50, (.bool true)), (57, x9), (50, (.bool true)), (56, x8), (50, (.bool true)), (55, x7), (50, (.bool true)), (54, x6), (50, (.bool true)), (53, x5), (50, (.bool true)), (52, x4), (50, (.bool true)), (51, x3), (50, (.bool true)), (50, (τ 4)), (49, (τ 4)), (47, (.bool true)), (48, (τ 4)), (47, (.bool true)), (47, (τ 3)), (46, (τ 3)), (44, (.bool true)), (45, (τ 3)), (44, (.bool true)), (44, x2), (43, x2), (42, x1), (41, x0)] ds s11)
 (Q .ret τ [(2, (.bool false)), (60, (.bool false)), (50, (.bool false)), (59, undef), (50, (.bool false)), (58, undef), (50, (.bool false)), (57, undef), (50, (.bool false)), (56, undef), (50, (.bool false)), (55, undef), (50, (.bool false)), (54, undef), (50, (.bool false)), (53, undef), (50, (.bool false)), (52, undef), (50, (.bool false)), (51, undef), (50, (.bool false)), (50, (τ 4)), (49, (τ 4)), (47, (.bool true)), (48, (τ 4)), (47, (.bool true)), (47, (τ 3)), (46, (τ 3)), (44, (.bool true)), (45, (τ 3)), (44, (.bool true)), (44, x2), (43, x2), (42, x1), (41, x0)] ds s2))
 (Q .ret τ [(2, (.bool false)), (60, (.bool false)), (50, (.bool false)), (59, undef), (50, (.bool false)), (58, undef), (50, (.bool false)), (57, undef), (50, (.bool false)), (56, undef), (50, (.bool false)), (55, undef), (50, (.bool false)), (54, undef), (50, (.bool false)), (53, undef), (50, (.bool false)), (52, undef), (50, (.bool false)), (51, undef), (50, (.bool false)), (50, (.bool false)), (49, (.bool false)), (47, (.bool false)), (48, undef), (47, (.bool false)), (47, (τ 3)), (46, (τ 3)), (44, (.bool true)), (45, (τ 3)), (44, (.bool true)), (44, x2), (43, x2), (42, x1), (41, x0)] ds s2))
 (Q .ret τ [(2, (.bool false)), (60, (.bool false)), (50, (.bool false)), (59, undef), (50, (.bool false)), (58, undef), (50, (.bool false)), (57, undef), (50, (.bool false)), (56, undef), (50, (.bool false)), (55, undef), (50, (.bool false)), (54, undef), (50, (.bool false)), (53, undef), (50, (.bool false)), (52, undef), (50, (.bool false)), (51, undef), (50, (.bool false)), (50, (.bool false)), (49, (.bool false)), (47, (.bool false)), (48, undef), (47, (.bool false)), (47, (.bool false)), (46, (.bool false)), (44, (.bool false)), (45, undef), (44, (.bool false)), (44, x2), (43, x2), (42, x1), (41, x0)] ds s2)
theorem Yct (I : Prims) (τ : Tau) (ds : List Deferred) (s : St) (Q : Ex → XK) : xp I none 61 k13 Zpm [1, 1, 1] τ [] ds s Q = Z66 I τ ds s Q := by kernel_rfl
def v13 (I : Prims) (a0 : Value) (si : St) (K : Value → St → Prop) : Prop :=
 I.wop (.box 23 (.const a0)) 0 (ent si) fun x0 s0 =>
 I.wop (.fieldAddr 23 (.const x0) 1) 0 s0 fun x1 s1 =>
 I.wop (.load 3 (.const x1)) 3 s1 fun x2 s2 =>
 I.call 43 [x2, (.int .i64 1), (.int .i64 13)] s2 fun x3 s3 =>
 wdec x3
 (I.wop (.fieldAddr 23 (.const x0) 2) 0 s3 fun x4 s4 =>
 I.wop (.load 3 (.const x4)) 3 s4 fun x5 s5 =>
 I.call 43 [x5, (.int .i64 1), (.int .i64 5)] s5 fun x6 s6 =>
 wdec x6
 (I.wop (.fieldAddr 23 (.const x0) 3) 0 s6 fun x7 s7 =>
 I.wop (.load 3 (.const x7)) 3 s7 fun x8 s8 =>
 I.call 43 [x8, (.int .i64 0), (.int .i64 8)] s8 fun x9 s9 =>
 wdec x9
 (I.wop (.fieldAddr 23 (.const x0) 4) 0 s9 fun x10 s10 =>
 I.wop (.load 3 (.const x10)) 3 s10 fun x11 s11 =>
 I.call 43 [x11, (.int .i64 1), (.int .i64 64)] s11 fun x12 s12 =>
 I.hold (xp I none 61 k13 Zuu [1, 1] (U Zb2 [(3, x12), (22, x12), (18, (.bool true)), (21, x12), (18, (.bool true)), (20, x11), (18, (.bool true)), (19, x10), (18, (.bool true)), (18, x9), (17, x9), (13, (.bool true)), (16, x9), (13, (.bool true)), (15, x8), (13, (.bool true)), (14, x7), (13, (.bool true)), (13, x6), (12, x6), (8, (.bool true)), (11, x6), (8, (.bool true)), (10, x5), (8, (.bool true)), (9, x4), (8, (.bool true)), (8, x3), (7, x3), (6, x2), (5, x1), (2, (.bool false)), (1, x0), (0, a0)]) [] [] s12 (Za5 I si Tryd.f13.results.toList K)))
 (I.hold (xp I none 61 k13 Zuu [1, 1] (U Zb2 [(3, (.bool false)), (22, (.bool false)), (18, (.bool false)), (21, undef), (18, (.bool false)), (20, undef), (18, (.bool false)), (19, undef), (18, (.bool false)), (18, x9), (17, x9), (13, (.bool true)), (16, x9), (13, (.bool true)), (15, x8), (13, (.bool true)), (14, x7), (13, (.bool true)), (13, x6), (12, x6), (8, (.bool true)), (11, x6), (8, (.bool true)), (10, x5), (8, (.bool true)), (9, x4), (8, (.bool true)), (8, x3), (7, x3), (6, x2), (5, x1), (2, (.bool false)), (1, x0), (0, a0)]) [] [] s9 (Za5 I si Tryd.f13.results.toList K))))
 (I.hold (xp I none 61 k13 Zuu [1, 1] (U Zb2 [(3, (.bool false)), (22, (.bool false)), (18, (.bool false)), (21, undef), (18, (.bool false)), (20, undef), (18, (.bool false)), (19, undef), (18, (.bool false)), (18, (.bool false)), (17, (.bool false)), (13, (.bool false)), (16, undef), (13, (.bool false)), (15, undef), (13, (.bool false)), (14, undef), (13, (.bool false)), (13, x6), (12, x6), (8, (.bool true)), (11, x6), (8, (.bool true)), (10, x5), (8, (.bool true)), (9, x4), (8, (.bool true)), (8, x3), (7, x3), (6, x2), (5, x1), (2, (.bool false)), (1, x0), (0, a0)]) [] [] s6 (Za5 I si Tryd.f13.results.toList K))))
 (I.hold (xp I none 61 k13 Zuu [1, 1] (U Zb2 [(3, (.bool false)), (22, (.bool false)), (18, (.bool false)), (21, undef), (18, (.bool false)), (20, undef), (18, (.bool false)), (19, undef), (18, (.bool false)), (18, (.bool false)), (17, (.bool false)), (13, (.bool false)), (16, undef), (13, (.bool false)), (15, undef), (13, (.bool false)), (14, undef), (13, (.bool false)), (13, (.bool false)), (12, (.bool false)), (8, (.bool false)), (11, undef), (8, (.bool false)), (10, undef), (8, (.bool false)), (9, undef), (8, (.bool false)), (8, x3), (7, x3), (6, x2), (5, x1), (2, (.bool false)), (1, x0), (0, a0)]) [] [] s3 (Za5 I si Tryd.f13.results.toList K)))
theorem x13 (I : Prims) (a0 : Value) (si : St) (K : Value → St → Prop) : Zbs I 61 k13 Tryd.f13 c13 [a0] si K = v13 I a0 si K := by kernel_rfl
theorem n13 [Memo] (ro : Nat) (a0 : Value) (si : St) (K : Value → St → Prop) : Zbr P ro 61 Tryd.f13 c13 [a0] si K = v13 (Zao P ro) a0 si K := Zap 61 P ro (x13 _ a0 si K)
theorem r13 (I : Prims) (si : St) (K : Value → St → Prop) (τ : Tau) (ds : List Deferred) (s : St) : Za5 I si Tryd.f13.results.toList K .ret τ [] ds s =
 (Zbh I ds s fun s0 =>
 I.fin si K (τ 2) s0) := by kernel_rfl
noncomputable def c14 : Code := Za7 Tryd.f14
noncomputable def Zhb : Code := Za3 [1, 1, 0, 1, 0, 0] c14
def k14 : List (List Nat) := []
def Z5y : List (List Nat) := []
theorem Z5r : Zbd 20 Zhb = true := by kernel_rfl
theorem Z5j : Zcc Zhb = true := by kernel_rfl
theorem b14 : BodyOk P 20 1 14 Tryd.f14 c14 := ⟨Tryd.func14, by kernel_rfl, by kernel_rfl, by kernel_rfl, by kernel_rfl, by kernel_rfl⟩
def Zo4 (I : Prims) (rnd : Option Nat) (τ : Tau) (ds : List Deferred) (s : St) (Q : Ex → WK) : Prop :=
 I.wop (.binOp .lss 3 (.const (τ 9)) (.const (τ 8)) 3) 0 s fun x0 s0 =>
 wdec x0
 (I.wop (.indexAddr 24 (.const (τ 7)) (.const (τ 9))) 0 s0 fun x1 s1 =>
 I.wop (.load 30 (.const x1)) 30 s1 fun x2 s2 =>
 I.wop (.alloc 30) 0 s2 fun x3 s3 =>
 I.wop (.store 30 (.const x3) (.const x2)) 0 s3 fun _ s4 =>
 I.wop (.fieldAddr 30 (.const x3) 3) 0 s4 fun x5 s5 =>
 I.wop (.load 3 (.const x5)) 3 s5 fun x6 s6 =>
 I.wop (.binOp .mul 3 (.const (.int .i64 4)) (.const x6) 3) 3 s6 fun x7 s7 =>
 I.wop (.binOp .add 3 (.const (τ 3)) (.const x7) 3) 3 s7 fun x8 s8 =>
 I.wop (.binOp .add 3 (.const (τ 9)) (.const (.int .i64 1)) 3) 3 s8 fun x9 s9 =>
 Q .normal (U τ [(9, x9), (18, x9), (3, x8), (17, x8), (16, x7), (15, x6), (14, x5), (13, (τ 3)), (5, x3), (12, x2), (11, x1), (10, (.bool true)), (10, x0)]) ds s9)
 (Q (.exit 0) (U τ [(10, (.bool false)), (10, x0)]) ds s0)
theorem Z4j (I : Prims) (rnd : Option Nat) (τ : Tau) (ds : List Deferred) (s : St) (Q : Ex → WK) : xp I rnd 20 Z5y Zhb [] τ [] ds s (lift Q) = Zo4 I rnd τ ds s Q := by kernel_rfl
theorem Z5b [Memo] (ro : Nat) (rnd : Option Nat) (τ : Tau) (ds : List Deferred) (s : St) (Q : Ex → WK) : wp P ro 20 rnd Zhb τ ds s Q = Zo4 (Zao P ro) rnd τ ds s Q := Zc8 rnd 20 P ro (Z4j _ rnd τ ds s Q)
def v14 (I : Prims) (a0 : Value) (si : St) (K : Value → St → Prop) : Prop :=
 I.wop (.box 23 (.const a0)) 0 (ent si) fun x0 s0 =>
 I.wop (.load 23 (.const x0)) 23 s0 fun x1 s1 =>
 I.call 10 [x1] s1 fun x2 s2 =>
 I.wop (.call ⟨.builtin .len, ⟨[(.const x2)]⟩, #[24]⟩) 3 s2 fun x3 s3 =>
 I.loop 20 none Zhb (U Zb2 [(9, (.int .i64 0)), (8, x3), (7, x2), (6, x1), (3, (.int .i64 0)), (2, (.int .i64 0)), (1, x0), (0, a0)]) [] s3 (fun τ ds s => ((Za5 I si Tryd.f14.results.toList K) .ret) τ [] ds s) [(0, fun τ4 ds4 s4 =>
 Zbh I ds4 s4 fun s5 =>
 I.fin si K (τ4 3) s5)]
theorem x14 (I : Prims) (a0 : Value) (si : St) (K : Value → St → Prop) : Zbs I 20 k14 Tryd.f14 c14 [a0] si K = v14 I a0 si K := by kernel_rfl
theorem n14 [Memo] (ro : Nat) (a0 : Value) (si : St) (K : Value → St → Prop) : Zbr P ro 20 Tryd.f14 c14 [a0] si K = v14 (Zao P ro) a0 si K := Zap 20 P ro (x14 _ a0 si K)
noncomputable def c16 : Code := Za7 Tryd.f16
def k16 : List (List Nat) := []
theorem b16 : BodyOk P 93 0 16 Tryd.f16 c16 := ⟨Tryd.func16, by kernel_rfl, by kernel_rfl, by kernel_rfl, by kernel_rfl, by kernel_rfl⟩
def v16 (I : Prims) (si : St) (K : Value → St → Prop) : Prop :=
 I.call 25 [] (ent si) fun x0 s0 =>
 I.call 10 [x0] s0 fun x1 s1 =>
 I.wop (.call ⟨.builtin .len, ⟨[(.const x1)]⟩, #[24]⟩) 3 s1 fun x2 s2 =>
 I.wop (.binOp .neq 3 (.const x2) (.const (.int .i64 17)) 3) 4 s2 fun x3 s3 =>
 wdec x3
 (I.fin si K (.bool false) s3)
 (I.wop (.indexAddr 24 (.const x1) (.const (.int .i64 0))) 0 s3 fun x4 s4 =>
 I.wop (.load 30 (.const x4)) 30 s4 fun x5 s5 =>
 I.wop (.build 30 ⟨[(0, (.const (.int .u8 1))), (3, (.const (.int .i64 4)))]⟩) 30 s5 fun x6 s6 =>
 I.wop (.binOp .neq 30 (.const x5) (.const x6) 30) 4 s6 fun x7 s7 =>
 wdec x7
 (I.fin si K (.bool false) s7)
 (I.wop (.indexAddr 24 (.const x1) (.const (.int .i64 3))) 0 s7 fun x8 s8 =>
 I.wop (.fieldAddr 30 (.const x8) 0) 0 s8 fun x9 s9 =>
 I.wop (.load 28 (.const x9)) 28 s9 fun x10 s10 =>
 I.wop (.binOp .neq 28 (.const x10) (.const (.int .u8 6)) 28) 4 s10 fun x11 s11 =>
 wdec x11
 (I.fin si K (.bool false) s11)
 (I.wop (.indexAddr 24 (.const x1) (.const (.int .i64 3))) 0 s11 fun x12 s12 =>
 I.wop (.fieldAddr 30 (.const x12) 3) 0 s12 fun x13 s13 =>
 I.wop (.load 3 (.const x13)) 3 s13 fun x14 s14 =>
 I.wop (.binOp .neq 3 (.const x14) (.const (.int .i64 4)) 3) 4 s14 fun x15 s15 =>
 wdec x15
 (I.fin si K (.bool false) s15)
 (I.wop (.indexAddr 24 (.const x1) (.const (.int .i64 8))) 0 s15 fun x16 s16 =>
 I.wop (.load 30 (.const x16)) 30 s16 fun x17 s17 =>
 I.wop (.build 30 ⟨[(0, (.const (.int .u8 9))), (2, (.const (.int .i64 1))), (3, (.const (.int .i64 4)))]⟩) 30 s17 fun x18 s18 =>
 I.wop (.binOp .neq 30 (.const x17) (.const x18) 30) 4 s18 fun x19 s19 =>
 wdec x19
 (I.fin si K (.bool false) s19)
 (I.call 25 [] s19 fun x20 s20 =>
 I.call 14 [x20] s20 fun x21 s21 =>
 I.wop (.binOp .neq 3 (.const x21) (.const (.int .i64 176)) 3) 4 s21 fun x22 s22 =>
 wdec x22
 (I.fin si K (.bool false) s22)
 (I.wop (.makeSlice 32 (.const (.int .i64 176)) (.const (.int .i64 176))) 32 s22 fun x23 s23 =>
 I.wop (.indexAddr 32 (.const x23) (.const (.int .i64 4))) 0 s23 fun x24 s24 =>
 I.wop (.store 5 (.const x24) (.const (.int .u8 7))) 0 s24 fun _ s25 =>
 I.call 25 [] s25 fun x26 s26 =>
 I.call 17 [x26, x23] s26 fun x27 s27 =>
 I.wop (.extract (.const x27) 0) 39 s27 fun x28 s28 =>
 I.wop (.extract (.const x27) 1) 3 s28 fun x29 s29 =>
 I.wop (.extract (.const x27) 2) 40 s29 fun x30 s30 =>
 I.wop (.alloc 39) 0 s30 fun x31 s31 =>
 I.wop (.store 39 (.const x31) (.const x28)) 0 s31 fun _ s32 =>
 I.wop (.load 39 (.const x31)) 39 s32 fun x33 s33 =>
 veq x33 x33 = true ∧ I.call 25 [] s33 fun x34 s34 =>
 Keeps [(1, .ptr x31)] s33 s34 ∧ I.call 23 [x34, x33] s34 fun x35 s35 =>
 I.wop (.extract (.const x35) 0) 32 s35 fun x36 s36 =>
 I.wop (.extract (.const x35) 1) 40 s36 fun x37 s37 =>
 I.wop (.binOp .eql 3 (.const x29) (.const (.int .i64 0)) 3) 4 s37 fun x38 s38 =>
 wdec x38
 (I.wop (.binOp .eql 40 (.const x30) (.const (.int .i64 0)) 40) 4 s38 fun x39 s39 =>
 wdec x39
 (I.wop (.fieldAddr 39 (.const x31) 0) 0 s39 fun x40 s40 =>
 I.wop (.load 33 (.const x40)) 33 s40 fun x41 s41 =>
 I.wop (.call ⟨.builtin .len, ⟨[(.const x41)]⟩, #[33]⟩) 3 s41 fun x42 s42 =>
 I.wop (.binOp .eql 3 (.const x42) (.const (.int .i64 2)) 3) 4 s42 fun x43 s43 =>
 wdec x43
 (I.wop (.fieldAddr 39 (.const x31) 0) 0 s43 fun x44 s44 =>
 I.wop (.load 33 (.const x44)) 33 s44 fun x45 s45 =>
 I.wop (.indexAddr 33 (.const x45) (.const (.int .i64 0))) 0 s45 fun x46 s46 =>
 I.wop (.load 55 (.const x46)) 55 s46 fun x47 s47 =>
 I.wop (.build 55 ⟨[(0, (.const (.int .u64 0))), (1, (.const (.int .u64 7)))]⟩) 55 s47 fun x48 s48 =>
 I.wop (.binOp .eql 55 (.const x47) (.const x48) 55) 4 s48 fun x49 s49 =>
 wdec x49
 (I.wop (.binOp .eql 40 (.const x37) (.const (.int .i64 0)) 40) 4 s49 fun x50 s50 =>
 wdec x50
 (I.wop (.convert 32 9 (.const x23)) 9 s50 fun x51 s51 =>
 I.wop (.convert 32 9 (.const x36)) 9 s51 fun x52 s52 =>
 I.wop (.binOp .eql 9 (.const x51) (.const x52) 9) 4 s52 fun x53 s53 =>
 I.fin si K x53 s53)
 (I.fin si K (.bool false) s50))
 (I.fin si K (.bool false) s49))
 (I.fin si K (.bool false) s43))
 (I.fin si K (.bool false) s39))
 (I.fin si K (.bool false) s38)))))))
theorem x16 (I : Prims) (si : St) (K : Value → St → Prop) : Zbs I 93 k16 Tryd.f16 c16 [] si K = v16 I si K := by kernel_rfl
theorem n16 [Memo] (ro : Nat) (si : St) (K : Value → St → Prop) : Zbr P ro 93 Tryd.f16 c16 [] si K = v16 (Zao P ro) si K := Zap 93 P ro (x16 _ si K)
noncomputable def c17 : Code := Za7 Tryd.f17
noncomputable def Ze4 : Code := Za3 [1, 1, 1, 1, 0, 1, 0, 0] c17
noncomputable def Zb1 : Code := Za3 [1, 1, 1, 1, 0, 1, 0, 0, 1, 1, 0, 0, 1, 1, 0, 1, 0, 0] c17
noncomputable def Zba : Code := Za3 [1, 1, 1, 1, 0, 1, 0, 0, 1, 1, 0, 0, 1, 1, 0, 1, 0, 0, 1, 1, 0, 0, 1, 1, 0, 1, 0, 0] c17
def k17 : List (List Nat) := []
def Zyo : List (List Nat) := []
theorem Zyj : Zbd 93 Ze4 = true := by kernel_rfl
theorem Zyb : Zcc Ze4 = true := by kernel_rfl
def Zkl : List (List Nat) := []
theorem Zkh : Zbd 93 Zb1 = true := by kernel_rfl
theorem Zkd : Zcc Zb1 = true := by kernel_rfl
def Zfk : List (List Nat) := []
theorem Zfj : Zbd 93 Zba = true := by kernel_rfl
theorem Zfi : Zcc Zba = true := by kernel_rfl
theorem b17 : BodyOk P 93 2 17 Tryd.f17 c17 := ⟨Tryd.func17, by kernel_rfl, by kernel_rfl, by kernel_rfl, by kernel_rfl, by kernel_rfl⟩
def Zkt (I : Prims) (rnd : Option Nat) (τ : Tau) (ds : List Deferred) (s : St) (Q : Ex → WK) : Prop :=
 I.wop (.binOp .lss 3 (.const (τ 24)) (.const (τ 23)) 3) 0 s fun x0 s0 =>
 wdec x0
 (I.wop (.indexAddr 24 (.const (τ 22)) (.const (τ 24))) 0 s0 fun x1 s1 =>
 I.wop (.load 30 (.const x1)) 30 s1 fun x2 s2 =>
 I.wop (.alloc 30) 0 s2 fun x3 s3 =>
 I.wop (.store 30 (.const x3) (.const x2)) 0 s3 fun _ s4 =>
 I.wop (.fieldAddr 30 (.const x3) 3) 0 s4 fun x5 s5 =>
 I.wop (.load 3 (.const x5)) 3 s5 fun x6 s6 =>
 I.wop (.makeSlice 36 (.const (.int .i64 0)) (.const x6)) 36 s6 fun x7 s7 =>
 I.wop (.fieldAddr 30 (.const x3) 3) 0 s7 fun x8 s8 =>
 I.wop (.load 3 (.const x8)) 3 s8 fun x9 s9 =>
 I.loop 93 rnd Zb1 (U τ [(33, (.int .i64 0)), (32, x9), (31, x8), (11, x7), (30, x7), (29, x6), (28, x5), (10, x3), (27, x2), (26, x1), (25, (.bool true)), (25, x0)]) ds s9 (fun τ ds s => ((lift Q) .ret) τ [] ds s) [(2, fun τ10 ds10 s10 =>
 I.wop (.fieldAddr 30 (.const (τ10 10)) 0) 0 s10 fun x11 s11 =>
 I.wop (.load 28 (.const x11)) 28 s11 fun x12 s12 =>
 veq x12 x12 = true ∧ I.wop (.load 30 (.const (τ10 10))) 30 s12 fun x13 s13 =>
 veq x13 x13 = true ∧ I.call 48 [] s13 fun x14 s14 =>
 Keeps [(5, .ptr (τ10 10)), (2, .ptr x11)] s13 s14 ∧ I.wop (.indexAddr 84 (.const x14) (.const x12)) 0 s14 fun x15 s15 =>
 I.wop (.load 83 (.const x15)) 83 s15 fun x16 s16 =>
 veq x16 x16 = true ∧ Zio I x16 [(τ10 7), x13] s16 fun x17 s17 =>
 I.call 49 [x17, (τ10 11)] s17 fun x18 s18 =>
 I.wop (.binOp .add 3 (.const (τ10 24)) (.const (.int .i64 1)) 3) 3 s18 fun x19 s19 =>
 Q .normal (U τ10 [(24, x19), (85, x19), (84, x18), (82, x17), (80, x16), (79, x15), (76, x14), (83, (τ10 11)), (81, x13), (78, x12), (77, x11)]) ds10 s19), (4, fun τ20 ds20 s20 =>
 Q (.exit 4) τ20 ds20 s20)])
 (Q (.exit 0) (U τ [(25, (.bool false)), (25, x0)]) ds s0)
theorem Zw4 (I : Prims) (rnd : Option Nat) (τ : Tau) (ds : List Deferred) (s : St) (Q : Ex → WK) : xp I rnd 93 Zyo Ze4 [] τ [] ds s (lift Q) = Zkt I rnd τ ds s Q := by kernel_rfl
theorem Zx3 [Memo] (ro : Nat) (rnd : Option Nat) (τ : Tau) (ds : List Deferred) (s : St) (Q : Ex → WK) : wp P ro 93 rnd Ze4 τ ds s Q = Zkt (Zao P ro) rnd τ ds s Q := Zc8 rnd 93 P ro (Zw4 _ rnd τ ds s Q)
def Zd1 (I : Prims) (rnd : Option Nat) (τ : Tau) (ds : List Deferred) (s : St) (Q : Ex → WK) : Prop :=
 I.wop (.binOp .lss 3 (.const (τ 33)) (.const (τ 32)) 3) 4 s fun x0 s0 =>
 wdec x0
 (I.wop (.binOp .add 3 (.const (τ 8)) (.const (.int .i64 4)) 3) 3 s0 fun x1 s1 =>
 I.wop (.call ⟨.builtin .len, ⟨[(.const (τ 1))]⟩, #[32]⟩) 3 s1 fun x2 s2 =>
 I.wop (.binOp .gtr 3 (.const x1) (.const x2) 3) 4 s2 fun x3 s3 =>
 wdec x3
 (I.wop (.build 39 ⟨[]⟩) 39 s3 fun x4 s4 =>
 I.wop (.call ⟨.builtin .len, ⟨[(.const (τ 1))]⟩, #[32]⟩) 3 s4 fun x5 s5 =>
 I.wop (.store 39 (.const (τ 4)) (.const x4)) 0 s5 fun _ s6 =>
 Q .ret (U τ [(6, (.int .i64 5)), (5, x5), (42, x5), (41, (τ 1)), (40, x4), (39, (.bool true)), (39, x3), (38, x2), (37, (τ 1)), (36, x1), (35, (τ 8)), (34, (.bool true)), (34, x0)]) ds s6)
 (I.wop (.binOp .add 3 (.const (τ 8)) (.const (.int .i64 4)) 3) 3 s3 fun x7 s7 =>
 I.wop (.slice 32 (.const (τ 1)) (some (.const (τ 8))) (some (.const x7)) none) 32 s7 fun x8 s8 =>
 I.wop (.call ⟨.builtin .len, ⟨[(.const x8)]⟩, #[32]⟩) 3 s8 fun x9 s9 =>
 I.loop 93 rnd Zba (U τ [(49, (.int .i64 0)), (48, x9), (47, x8), (46, x7), (45, (τ 8)), (44, (τ 8)), (43, (τ 1)), (12, (.int .u64 0)), (39, (.bool false)), (39, x3), (38, x2), (37, (τ 1)), (36, x1), (35, (τ 8)), (34, (.bool true)), (34, x0)]) ds s9 (fun τ ds s => ((lift Q) .ret) τ [] ds s) [(4, fun τ10 ds10 s10 =>
 I.wop (.fieldAddr 23 (.const (τ10 2)) 0) 0 s10 fun x11 s11 =>
 I.wop (.load 3 (.const x11)) 3 s11 fun x12 s12 =>
 I.call 47 [x12] s12 fun x13 s13 =>
 I.wop (.binOp .geq 34 (.const (τ10 12)) (.const x13) 34) 4 s13 fun x14 s14 =>
 wdec x14
 (I.wop (.build 39 ⟨[]⟩) 39 s14 fun x15 s15 =>
 I.wop (.store 39 (.const (τ10 4)) (.const x15)) 0 s15 fun _ s16 =>
 Q .ret (U τ10 [(6, (.int .i64 2)), (5, (τ10 8)), (68, (τ10 8)), (67, x15), (66, (.bool true)), (66, x14), (65, x13), (64, x12), (63, x11), (62, (τ10 12))]) ds10 s16)
 (I.wop (.buildSlice 36 1 ⟨[(0, (.const (τ10 12)))]⟩) 36 s14 fun x17 s17 =>
 I.wop (.call ⟨.builtin .append, ⟨[(.const (τ10 11)), (.const x17)]⟩, #[36, 36]⟩) 36 s17 fun x18 s18 =>
 I.wop (.binOp .add 3 (.const (τ10 8)) (.const (.int .i64 4)) 3) 3 s18 fun x19 s19 =>
 I.wop (.binOp .add 3 (.const (τ10 33)) (.const (.int .i64 1)) 3) 3 s19 fun x20 s20 =>
 Q .normal (U τ10 [(33, x20), (75, x20), (8, x19), (74, x19), (73, (τ10 8)), (11, x18), (72, x18), (71, x17), (70, (τ10 12)), (69, (τ10 11)), (66, (.bool false)), (66, x14), (65, x13), (64, x12), (63, x11), (62, (τ10 12))]) ds10 s20))]))
 (Q (.exit 2) (U τ [(34, (.bool false)), (34, x0)]) ds s0)
theorem Zj4 (I : Prims) (rnd : Option Nat) (τ : Tau) (ds : List Deferred) (s : St) (Q : Ex → WK) : xp I rnd 93 Zkl Zb1 [] τ [] ds s (lift Q) = Zd1 I rnd τ ds s Q := by kernel_rfl
theorem Zj9 [Memo] (ro : Nat) (rnd : Option Nat) (τ : Tau) (ds : List Deferred) (s : St) (Q : Ex → WK) : wp P ro 93 rnd Zb1 τ ds s Q = Zd1 (Zao P ro) rnd τ ds s Q := Zc8 rnd 93 P ro (Zj4 _ rnd τ ds s Q)
def Zcg (I : Prims) (rnd : Option Nat) (τ : Tau) (ds : List Deferred) (s : St) (Q : Ex → WK) : Prop :=
 I.wop (.binOp .lss 3 (.const (τ 49)) (.const (τ 48)) 3) 0 s fun x0 s0 =>
 wdec x0
 (I.wop (.indexAddr 32 (.const (τ 47)) (.const (τ 49))) 0 s0 fun x1 s1 =>
 I.wop (.load 5 (.const x1)) 5 s1 fun x2 s2 =>
 I.wop (.convert 5 34 (.const x2)) 34 s2 fun x3 s3 =>
 I.wop (.binOp .mul 3 (.const (.int .i64 8)) (.const (τ 49)) 3) 3 s3 fun x4 s4 =>
 I.wop (.binOp .shl 34 (.const x3) (.const x4) 3) 34 s4 fun x5 s5 =>
 I.wop (.binOp .or 34 (.const (τ 12)) (.const x5) 34) 34 s5 fun x6 s6 =>
 I.wop (.binOp .add 3 (.const (τ 49)) (.const (.int .i64 1)) 3) 3 s6 fun x7 s7 =>
 Q .normal (U τ [(49, x7), (61, x7), (12, x6), (60, x6), (59, x5), (58, x4), (57, (τ 49)), (56, x3), (55, x2), (54, (τ 12)), (14, x2), (13, (τ 49)), (53, x2), (52, x1), (51, (τ 49)), (50, (.bool true)), (50, x0)]) ds s7)
 (Q (.exit 4) (U τ [(50, (.bool false)), (50, x0)]) ds s0)
theorem Zfg (I : Prims) (rnd : Option Nat) (τ : Tau) (ds : List Deferred) (s : St) (Q : Ex → WK) : xp I rnd 93 Zfk Zba [] τ [] ds s (lift Q) = Zcg I rnd τ ds s Q := by kernel_rfl
theorem Zfh [Memo] (ro : Nat) (rnd : Option Nat) (τ : Tau) (ds : List Deferred) (s : St) (Q : Ex → WK) : wp P ro 93 rnd Zba τ ds s Q = Zcg (Zao P ro) rnd τ ds s Q := Zc8 rnd 93 P ro (Zfg _ rnd τ ds s Q)
def v17 (I : Prims) (a0 a1 : Value) (si : St) (K : Value → St → Prop) : Prop :=
 I.wop (.box 23 (.const a0)) 0 (ent si) fun x0 s0 =>
 I.wop (.alloc 39) 0 s0 fun x1 s1 =>
 I.wop (.load 23 (.const x0)) 23 s1 fun x2 s2 =>
 I.call 12 [x2] s2 fun x3 s3 =>
 I.wop (.unOp .not 4 (.const x3)) 4 s3 fun x4 s4 =>
 wdec x4
 (I.wop (.build 39 ⟨[]⟩) 39 s4 fun x5 s5 =>
 I.wop (.store 39 (.const x1) (.const x5)) 0 s5 fun _ s6 =>
 I.wop (.load 39 (.const x1)) 39 s6 fun x7 _ =>
 I.fin si K (.tuple (.mk [x7, (.int .i64 0), (.int .i64 1)])) s6)
 (I.wop (.load 23 (.const x0)) 23 s4 fun x8 s8 =>
 I.call 46 [x8] s8 fun x9 s9 =>
 I.wop (.alloc 39) 0 s9 fun x10 s10 =>
 I.wop (.store 39 (.const x10) (.const x9)) 0 s10 fun _ s11 =>
 I.wop (.load 23 (.const x0)) 23 s11 fun x12 s12 =>
 I.call 10 [x12] s12 fun x13 s13 =>
 I.wop (.call ⟨.builtin .len, ⟨[(.const x13)]⟩, #[24]⟩) 3 s13 fun x14 s14 =>
 I.loop 93 none Ze4 (U Zb2 [(24, (.int .i64 0)), (23, x14), (22, x13), (21, x12), (8, (.int .i64 0)), (7, x10), (20, x9), (19, x8), (17, (.bool false)), (17, x4), (16, x3), (15, x2), (6, (.int .i64 0)), (5, (.int .i64 0)), (4, x1), (2, x0), (0, a0), (1, a1)]) [] s14 (fun τ ds s => ((Za5 I si Tryd.f17.results.toList K) .ret) τ [] ds s) [(0, fun τ15 ds15 s15 =>
 I.wop (.call ⟨.builtin .len, ⟨[(.const (τ15 1))]⟩, #[32]⟩) 3 s15 fun x16 s16 =>
 I.wop (.binOp .lss 3 (.const (τ15 8)) (.const x16) 3) 4 s16 fun x17 s17 =>
 wdec x17
 (I.wop (.build 39 ⟨[]⟩) 39 s17 fun x18 s18 =>
 I.wop (.store 39 (.const (τ15 4)) (.const x18)) 0 s18 fun _ s19 =>
 Zbh I ds15 s19 fun s20 =>
 I.wop (.load 39 (.const (τ15 4))) 39 s20 fun x21 _ =>
 I.fin si K (.tuple (.mk [x21, (τ15 8), (.int .i64 3)])) s20)
 (I.wop (.load 39 (.const (τ15 7))) 39 s17 fun x22 s22 =>
 I.wop (.store 39 (.const (τ15 4)) (.const x22)) 0 s22 fun _ s23 =>
 Zbh I ds15 s23 fun s24 =>
 I.wop (.load 39 (.const (τ15 4))) 39 s24 fun x25 _ =>
 I.fin si K (.tuple (.mk [x25, (.int .i64 0), (.int .i64 0)])) s24)), (2, fun _ _ _ =>
 False), (4, fun _ _ _ =>
 False)])
theorem x17 (I : Prims) (a0 a1 : Value) (si : St) (K : Value → St → Prop) : Zbs I 93 k17 Tryd.f17 c17 [a0, a1] si K = v17 I a0 a1 si K := by kernel_rfl
theorem n17 [Memo] (ro : Nat) (a0 a1 : Value) (si : St) (K : Value → St → Prop) : Zbr P ro 93 Tryd.f17 c17 [a0, a1] si K = v17 (Zao P ro) a0 a1 si K := Zap 93 P ro (x17 _ a0 a1 si K)
theorem r17 (I : Prims) (si : St) (K : Value → St → Prop) (τ : Tau) (ds : List Deferred) (s : St) : Za5 I si Tryd.f17.results.toList K .ret τ [] ds s =
 (Zbh I ds s fun s0 =>
 I.wop (.load 39 (.const (τ 4))) 39 s0 fun x1 _ =>
 I.fin si K (.tuple (.mk [x1, (τ 5), (τ 6)])) s0) := by kernel_rfl
noncomputable def c18 : Code := Za7 Tryd.f18
noncomputable def Zfy : Code := Za3 [1, 1, 1, 0, 1, 0, 0] c18
noncomputable def Zdw : Code := Za3 [1, 1, 1, 1, 1, 1, 0, 1, 0, 0] c18
noncomputable def Zb0 : Code := Za3 [1, 1, 1, 1, 1, 1, 0, 1, 0, 0, 1, 0, 0, 1, 0, 1, 0, 0] c18
def k18 : List (List Nat) := []
def Z1m : List (List Nat) := []
theorem Z1c : Zbd 121 Zfy = true := by kernel_rfl
theorem Z01 : Zcc Zfy = true := by kernel_rfl
def Zty : List (List Nat) := []
theorem Ztx : Zbd 121 Zdw = true := by kernel_rfl
theorem Ztw : Zcc Zdw = true := by kernel_rfl
def Zkk : List (List Nat) := []
theorem Zkg : Zbd 121 Zb0 = true := by kernel_rfl
theorem Zkc : Zcc Zb0 = true := by kernel_rfl
theorem b18 : BodyOk P 121 2 18 Tryd.f18 c18 := ⟨Tryd.func18, by kernel_rfl, by kernel_rfl, by kernel_rfl, by kernel_rfl, by kernel_rfl⟩
def Znj (I : Prims) (rnd : Option Nat) (τ : Tau) (ds : List Deferred) (s : St) (Q : Ex → WK) : Prop :=
 I.wop (.fieldAddr 23 (.const (τ 2)) 4) 0 s fun x0 s0 =>
 I.wop (.load 3 (.const x0)) 3 s0 fun x1 s1 =>
 I.wop (.binOp .lss 3 (.const (τ 8)) (.const x1) 3) 4 s1 fun x2 s2 =>
 wdec x2
 (I.wop (.fieldAddr 39 (.const (τ 7)) 7) 0 s2 fun x3 s3 =>
 I.wop (.load 37 (.const x3)) 37 s3 fun x4 s4 =>
 veq x4 x4 = true ∧ I.wop (.load 23 (.const (τ 2))) 23 s4 fun x5 s5 =>
 veq x5 x5 = true ∧ I.call 36 [x5] s5 fun x6 s6 =>
 Keeps [(1, .ptr x3)] s5 s6 ∧ I.wop (.makeSlice 57 (.const x6) (.const x6)) 57 s6 fun x7 s7 =>
 Zcm s6 s7 ∧ I.wop (.indexAddr 37 (.const x4) (.const (τ 8))) 0 s7 fun x8 s8 =>
 I.wop (.fieldAddr 59 (.const x8) 12) 0 s8 fun x9 s9 =>
 I.wop (.store 57 (.const x9) (.const x7)) 0 s9 fun _ s10 =>
 s9.n ≤ s10.n ∧ I.wop (.binOp .add 3 (.const (τ 8)) (.const (.int .i64 1)) 3) 3 s10 fun x11 s11 =>
 Q .normal (U τ [(8, x11), (31, x11), (30, (τ 8)), (39, x9), (38, x8), (37, x7), (36, x6), (35, x5), (34, (τ 8)), (33, x4), (32, x3), (29, (.bool true)), (29, x2), (28, x1), (27, x0), (26, (τ 8))]) ds s11)
 (Q (.exit 0) (U τ [(29, (.bool false)), (29, x2), (28, x1), (27, x0), (26, (τ 8))]) ds s2)
theorem Zzv (I : Prims) (rnd : Option Nat) (τ : Tau) (ds : List Deferred) (s : St) (Q : Ex → WK) : xp I rnd 121 Z1m Zfy [] τ [] ds s (lift Q) = Znj I rnd τ ds s Q := by kernel_rfl
theorem Z0v [Memo] (ro : Nat) (rnd : Option Nat) (τ : Tau) (ds : List Deferred) (s : St) (Q : Ex → WK) : wp P ro 121 rnd Zfy τ ds s Q = Znj (Zao P ro) rnd τ ds s Q := Zc8 rnd 121 P ro (Zzv _ rnd τ ds s Q)
def Zif (I : Prims) (rnd : Option Nat) (τ : Tau) (ds : List Deferred) (s : St) (Q : Ex → WK) : Prop :=
 I.wop (.call ⟨.builtin .len, ⟨[(.const (τ 10))]⟩, #[24]⟩) 3 s fun x0 s0 =>
 I.wop (.binOp .lss 3 (.const (τ 11)) (.const x0) 3) 4 s0 fun x1 s1 =>
 wdec x1
 (I.loop 121 rnd Zb0 (U τ [(13, (.int .i64 0)), (12, (.slice none 0 0)), (45, (.bool true)), (45, x1), (44, x0), (43, (τ 10)), (42, (τ 11))]) ds s1 (fun τ ds s => ((lift Q) .ret) τ [] ds s) [(4, fun τ2 ds2 s2 =>
 I.wop (.load 39 (.const (τ2 7))) 39 s2 fun x3 s3 =>
 veq x3 x3 = true ∧ I.wop (.indexAddr 24 (.const (τ2 10)) (.const (τ2 11))) 0 s3 fun x4 s4 =>
 I.wop (.load 30 (.const x4)) 30 s4 fun x5 s5 =>
 veq x5 x5 = true ∧ I.call 50 [x3, x5, (τ2 12)] s5 fun x6 s6 =>
 I.wop (.store 39 (.const (τ2 7)) (.const x6)) 0 s6 fun _ s7 =>
 I.wop (.binOp .add 3 (.const (τ2 11)) (.const (.int .i64 1)) 3) 3 s7 fun x8 s8 =>
 Q .normal (U τ2 [(11, x8), (47, x8), (46, (τ2 11)), (113, x6), (112, (τ2 12)), (111, x5), (110, x4), (109, (τ2 11)), (108, (τ2 10)), (107, x3)]) ds2 s8)])
 (Q (.exit 2) (U τ [(45, (.bool false)), (45, x1), (44, x0), (43, (τ 10)), (42, (τ 11))]) ds s1)
theorem Ztn (I : Prims) (rnd : Option Nat) (τ : Tau) (ds : List Deferred) (s : St) (Q : Ex → WK) : xp I rnd 121 Zty Zdw [] τ [] ds s (lift Q) = Zif I rnd τ ds s Q := by kernel_rfl
theorem Ztv [Memo] (ro : Nat) (rnd : Option Nat) (τ : Tau) (ds : List Deferred) (s : St) (Q : Ex → WK) : wp P ro 121 rnd Zdw τ ds s Q = Zif (Zao P ro) rnd τ ds s Q := Zc8 rnd 121 P ro (Ztn _ rnd τ ds s Q)
def Zd0 (I : Prims) (rnd : Option Nat) (τ : Tau) (ds : List Deferred) (s : St) (Q : Ex → WK) : Prop :=
 I.wop (.indexAddr 24 (.const (τ 10)) (.const (τ 11))) 0 s fun x0 s0 =>
 I.wop (.fieldAddr 30 (.const x0) 3) 0 s0 fun x1 s1 =>
 I.wop (.load 3 (.const x1)) 3 s1 fun x2 s2 =>
 I.wop (.binOp .lss 3 (.const (τ 13)) (.const x2) 3) 4 s2 fun x3 s3 =>
 wdec x3
 (I.wop (.call ⟨.builtin .len, ⟨[(.const (τ 1))]⟩, #[32]⟩) 3 s3 fun x4 s4 =>
 I.wop (.binOp .sub 3 (.const x4) (.const (τ 9)) 3) 3 s4 fun x5 s5 =>
 I.wop (.binOp .lss 3 (.const x5) (.const (.int .i64 4)) 3) 4 s5 fun x6 s6 =>
 wdec x6
 (I.wop (.build 39 ⟨[]⟩) 39 s6 fun x7 s7 =>
 I.wop (.call ⟨.builtin .len, ⟨[(.const (τ 1))]⟩, #[32]⟩) 3 s7 fun x8 s8 =>
 I.wop (.store 39 (.const (τ 4)) (.const x7)) 0 s8 fun _ s9 =>
 Q .ret (U τ [(6, (.int .i64 5)), (5, x8), (64, x8), (63, (τ 1)), (62, x7), (61, (.bool true)), (61, x6), (60, x5), (59, (τ 9)), (58, x4), (57, (τ 1)), (54, (.bool true)), (54, x3), (53, x2), (52, x1), (51, x0), (50, (τ 11)), (49, (τ 10)), (48, (τ 13))]) ds s9)
 (I.wop (.indexAddr 32 (.const (τ 1)) (.const (τ 9))) 0 s6 fun x10 s10 =>
 I.wop (.load 5 (.const x10)) 5 s10 fun x11 s11 =>
 I.wop (.convert 5 34 (.const x11)) 34 s11 fun x12 s12 =>
 s12 = s11 ∧ I.wop (.binOp .add 3 (.const (τ 9)) (.const (.int .i64 1)) 3) 3 s12 fun x13 s13 =>
 I.wop (.indexAddr 32 (.const (τ 1)) (.const x13)) 0 s13 fun x14 s14 =>
 I.wop (.load 5 (.const x14)) 5 s14 fun x15 s15 =>
 I.wop (.convert 5 34 (.const x15)) 34 s15 fun x16 s16 =>
 s16 = s15 ∧ I.wop (.binOp .shl 34 (.const x16) (.const (.int .u64 8)) 52) 34 s16 fun x17 s17 =>
 I.wop (.binOp .or 34 (.const x12) (.const x17) 34) 34 s17 fun x18 s18 =>
 I.wop (.binOp .add 3 (.const (τ 9)) (.const (.int .i64 2)) 3) 3 s18 fun x19 s19 =>
 I.wop (.indexAddr 32 (.const (τ 1)) (.const x19)) 0 s19 fun x20 s20 =>
 I.wop (.load 5 (.const x20)) 5 s20 fun x21 s21 =>
 I.wop (.convert 5 34 (.const x21)) 34 s21 fun x22 s22 =>
 s22 = s21 ∧ I.wop (.binOp .shl 34 (.const x22) (.const (.int .u64 16)) 52) 34 s22 fun x23 s23 =>
 I.wop (.binOp .or 34 (.const x18) (.const x23) 34) 34 s23 fun x24 s24 =>
 I.wop (.binOp .add 3 (.const (τ 9)) (.const (.int .i64 3)) 3) 3 s24 fun x25 s25 =>
 I.wop (.indexAddr 32 (.const (τ 1)) (.const x25)) 0 s25 fun x26 s26 =>
 I.wop (.load 5 (.const x26)) 5 s26 fun x27 s27 =>
 I.wop (.convert 5 34 (.const x27)) 34 s27 fun x28 s28 =>
 s28 = s27 ∧ I.wop (.binOp .shl 34 (.const x28) (.const (.int .u64 24)) 52) 34 s28 fun x29 s29 =>
 I.wop (.binOp .or 34 (.const x24) (.const x29) 34) 34 s29 fun x30 s30 =>
 I.wop (.fieldAddr 23 (.const (τ 2)) 0) 0 s30 fun x31 s31 =>
 I.wop (.load 3 (.const x31)) 3 s31 fun x32 s32 =>
 I.call 21 [x32] s32 fun x33 s33 =>
 I.wop (.binOp .geq 34 (.const x30) (.const x33) 34) 4 s33 fun x34 s34 =>
 wdec x34
 (I.wop (.build 39 ⟨[]⟩) 39 s34 fun x35 s35 =>
 I.wop (.store 39 (.const (τ 4)) (.const x35)) 0 s35 fun _ s36 =>
 Q .ret (U τ [(6, (.int .i64 2)), (5, (τ 9)), (100, (τ 9)), (99, x35), (98, (.bool true)), (98, x34), (97, x33), (96, x32), (95, x31), (94, x30), (14, x30), (93, x30), (92, x29), (91, x28), (90, x27), (89, x26), (88, x25), (87, (τ 9)), (86, (τ 1)), (85, x24), (84, x23), (83, x22), (82, x21), (81, x20), (80, x19), (79, (τ 9)), (78, (τ 1)), (77, x18), (76, x17), (75, x16), (74, x15), (73, x14), (72, x13), (71, (τ 9)), (70, (τ 1)), (69, x12), (68, x11), (67, x10), (66, (τ 9)), (65, (τ 1)), (61, (.bool false)), (61, x6), (60, x5), (59, (τ 9)), (58, x4), (57, (τ 1)), (54, (.bool true)), (54, x3), (53, x2), (52, x1), (51, x0), (50, (τ 11)), (49, (τ 10)), (48, (τ 13))]) ds s36)
 (I.wop (.buildSlice 36 1 ⟨[(0, (.const x30))]⟩) 36 s34 fun x37 s37 =>
 I.wop (.call ⟨.builtin .append, ⟨[(.const (τ 12)), (.const x37)]⟩, #[36, 36]⟩) 36 s37 fun x38 s38 =>
 I.wop (.binOp .add 3 (.const (τ 9)) (.const (.int .i64 4)) 3) 3 s38 fun x39 s39 =>
 I.wop (.binOp .add 3 (.const (τ 13)) (.const (.int .i64 1)) 3) 3 s39 fun x40 s40 =>
 Q .normal (U τ [(13, x40), (56, x40), (55, (τ 13)), (9, x39), (106, x39), (105, (τ 9)), (12, x38), (104, x38), (103, x37), (102, x30), (101, (τ 12)), (98, (.bool false)), (98, x34), (97, x33), (96, x32), (95, x31), (94, x30), (14, x30), (93, x30), (92, x29), (91, x28), (90, x27), (89, x26), (88, x25), (87, (τ 9)), (86, (τ 1)), (85, x24), (84, x23), (83, x22), (82, x21), (81, x20), (80, x19), (79, (τ 9)), (78, (τ 1)), (77, x18), (76, x17), (75, x16), (74, x15), (73, x14), (72, x13), (71, (τ 9)), (70, (τ 1)), (69, x12), (68, x11), (67, x10), (66, (τ 9)), (65, (τ 1)), (61, (.bool false)), (61, x6), (60, x5), (59, (τ 9)), (58, x4), (57, (τ 1)), (54, (.bool true)), (54, x3), (53, x2), (52, x1), (51, x0), (50, (τ 11)), (49, (τ 10)), (48, (τ 13))]) ds s40)))
 (Q (.exit 4) (U τ [(54, (.bool false)), (54, x3), (53, x2), (52, x1), (51, x0), (50, (τ 11)), (49, (τ 10)), (48, (τ 13))]) ds s3)
theorem Zj3 (I : Prims) (rnd : Option Nat) (τ : Tau) (ds : List Deferred) (s : St) (Q : Ex → WK) : xp I rnd 121 Zkk Zb0 [] τ [] ds s (lift Q) = Zd0 I rnd τ ds s Q := by kernel_rfl
theorem Zj8 [Memo] (ro : Nat) (rnd : Option Nat) (τ : Tau) (ds : List Deferred) (s : St) (Q : Ex → WK) : wp P ro 121 rnd Zb0 τ ds s Q = Zd0 (Zao P ro) rnd τ ds s Q := Zc8 rnd 121 P ro (Zj3 _ rnd τ ds s Q)
def v18 (I : Prims) (a0 a1 : Value) (si : St) (K : Value → St → Prop) : Prop :=
 I.wop (.box 23 (.const a0)) 0 (ent si) fun x0 s0 =>
 I.wop (.alloc 39) 0 s0 fun x1 s1 =>
 I.wop (.load 23 (.const x0)) 23 s1 fun x2 s2 =>
 I.call 13 [x2] s2 fun x3 s3 =>
 I.wop (.unOp .not 4 (.const x3)) 4 s3 fun x4 s4 =>
 wdec x4
 (I.wop (.build 39 ⟨[]⟩) 39 s4 fun x5 s5 =>
 I.wop (.store 39 (.const x1) (.const x5)) 0 s5 fun _ s6 =>
 I.wop (.load 39 (.const x1)) 39 s6 fun x7 _ =>
 I.fin si K (.tuple (.mk [x7, (.int .i64 0), (.int .i64 1)])) s6)
 (I.wop (.load 23 (.const x0)) 23 s4 fun x8 s8 =>
 veq x8 x8 = true ∧ I.wop (.fieldAddr 23 (.const x0) 4) 0 s8 fun x9 s9 =>
 I.wop (.load 3 (.const x9)) 3 s9 fun x10 s10 =>
 veq x10 x10 = true ∧ I.wop (.makeSlice 37 (.const x10) (.const x10)) 37 s10 fun x11 s11 =>
 Zcm s10 s11 ∧ I.wop (.alloc 39) 0 s11 fun x12 s12 =>
 Zcm s11 s12 ∧ I.call 36 [x8] s12 fun x13 s13 =>
 Keeps [(7, .blk s11.n), (5, .blk s10.n), (4, .ptr x9)] s12 s13 ∧ I.wop (.makeSlice 35 (.const x13) (.const x13)) 35 s13 fun x14 s14 =>
 Zcm s13 s14 ∧ I.wop (.build 39 ⟨[(4, (.const x14)), (7, (.const x11))]⟩) 39 s14 fun x15 s15 =>
 I.wop (.store 39 (.const x12) (.const x15)) 0 s15 fun _ s16 =>
 s15.n ≤ s16.n ∧ I.loop 121 none Zfy (U Zb2 [(8, (.int .i64 0)), (25, x15), (21, x14), (20, x13), (7, x12), (24, x11), (23, x10), (22, x9), (19, x8), (17, (.bool false)), (17, x4), (16, x3), (15, x2), (6, (.int .i64 0)), (5, (.int .i64 0)), (4, x1), (2, x0), (0, a0), (1, a1)]) [] s16 (fun τ ds s => ((Za5 I si Tryd.f18.results.toList K) .ret) τ [] ds s) [(0, fun τ17 ds17 s17 =>
 I.wop (.load 23 (.const (τ17 2))) 23 s17 fun x18 s18 =>
 I.call 11 [x18] s18 fun x19 s19 =>
 I.loop 121 none Zdw (U τ17 [(11, (.int .i64 0)), (10, x19), (41, x19), (40, x18), (9, (.int .i64 0))]) ds17 s19 (fun τ ds s => ((Za5 I si Tryd.f18.results.toList K) .ret) τ [] ds s) [(2, fun τ20 ds20 s20 =>
 I.wop (.call ⟨.builtin .len, ⟨[(.const (τ20 1))]⟩, #[32]⟩) 3 s20 fun x21 s21 =>
 I.wop (.binOp .lss 3 (.const (τ20 9)) (.const x21) 3) 4 s21 fun x22 s22 =>
 wdec x22
 (I.wop (.build 39 ⟨[]⟩) 39 s22 fun x23 s23 =>
 I.wop (.store 39 (.const (τ20 4)) (.const x23)) 0 s23 fun _ s24 =>
 Zbh I ds20 s24 fun s25 =>
 I.wop (.load 39 (.const (τ20 4))) 39 s25 fun x26 _ =>
 I.fin si K (.tuple (.mk [x26, (τ20 9), (.int .i64 3)])) s25)
 (I.wop (.load 39 (.const (τ20 7))) 39 s22 fun x27 s27 =>
 I.wop (.store 39 (.const (τ20 4)) (.const x27)) 0 s27 fun _ s28 =>
 Zbh I ds20 s28 fun s29 =>
 I.wop (.load 39 (.const (τ20 4))) 39 s29 fun x30 _ =>
 I.fin si K (.tuple (.mk [x30, (.int .i64 0), (.int .i64 0)])) s29)), (4, fun _ _ _ =>
 False)])])
theorem x18 (I : Prims) (a0 a1 : Value) (si : St) (K : Value → St → Prop) : Zbs I 121 k18 Tryd.f18 c18 [a0, a1] si K = v18 I a0 a1 si K := by kernel_rfl
theorem n18 [Memo] (ro : Nat) (a0 a1 : Value) (si : St) (K : Value → St → Prop) : Zbr P ro 121 Tryd.f18 c18 [a0, a1] si K = v18 (Zao P ro) a0 a1 si K := Zap 121 P ro (x18 _ a0 a1 si K)
theorem r18 (I : Prims) (si : St) (K : Value → St → Prop) (τ : Tau) (ds : List Deferred) (s : St) : Za5 I si Tryd.f18.results.toList K .ret τ [] ds s =
 (Zbh I ds s fun s0 =>
 I.wop (.load 39 (.const (τ 4))) 39 s0 fun x1 _ =>
 I.fin si K (.tuple (.mk [x1, (τ 5), (τ 6)])) s0) := by kernel_rfl
noncomputable def c19 : Code := Za7 Tryd.f19
noncomputable def Zha : Code := Za3 [1, 1, 0, 1, 0, 0] c19
noncomputable def Zfx : Code := Za3 [1, 1, 1, 0, 1, 0, 0] c19
def k19 : List (List Nat) := []
def Z5x : List (List Nat) := []
theorem Zun : Zbd 107 Zha = true := by kernel_rfl
theorem Zuk : Zcc Zha = true := by kernel_rfl
def Z1l : List (List Nat) := []
theorem Zsr : Zbd 107 Zfx = true := by kernel_rfl
theorem Zso : Zcc Zfx = true := by kernel_rfl
theorem b19 : BodyOk P 107 2 19 Tryd.f19 c19 := ⟨Tryd.func19, by kernel_rfl, by kernel_rfl, by kernel_rfl, by kernel_rfl, by kernel_rfl⟩
def Zlz (I : Prims) (rnd : Option Nat) (τ : Tau) (ds : List Deferred) (s : St) (Q : Ex → WK) : Prop :=
 I.wop (.fieldAddr 39 (.const (τ 2)) 4) 0 s fun x0 s0 =>
 I.wop (.load 35 (.const x0)) 35 s0 fun x1 s1 =>
 I.wop (.call ⟨.builtin .len, ⟨[(.const x1)]⟩, #[35]⟩) 3 s1 fun x2 s2 =>
 I.wop (.binOp .lss 3 (.const (τ 5)) (.const x2) 3) 4 s2 fun x3 s3 =>
 wdec x3
 (I.wop (.fieldAddr 39 (.const (τ 2)) 4) 0 s3 fun x4 s4 =>
 I.wop (.load 35 (.const x4)) 35 s4 fun x5 s5 =>
 veq x5 x5 = true ∧ I.wop (.indexAddr 35 (.const x5) (.const (τ 5))) 0 s5 fun x6 s6 =>
 I.wop (.load 33 (.const x6)) 33 s6 fun x7 s7 =>
 veq x7 x7 = true ∧ I.wop (.fieldAddr 39 (.const (τ 3)) 4) 0 s7 fun x8 s8 =>
 I.wop (.load 35 (.const x8)) 35 s8 fun x9 s9 =>
 veq x9 x9 = true ∧ I.wop (.indexAddr 35 (.const x9) (.const (τ 5))) 0 s9 fun x10 s10 =>
 I.wop (.load 33 (.const x10)) 33 s10 fun x11 s11 =>
 veq x11 x11 = true ∧ I.call 51 [x7, x11] s11 fun x12 s12 =>
 I.wop (.unOp .not 4 (.const x12)) 4 s12 fun x13 s13 =>
 wdec x13
 (Q .ret (U τ [(4, (.bool false)), (87, (.bool true)), (87, x13), (86, x12), (85, x11), (84, x10), (83, (τ 5)), (82, x9), (81, x8), (80, x7), (79, x6), (78, (τ 5)), (77, x5), (76, x4), (73, (.bool true)), (73, x3), (72, x2), (71, x1), (70, x0), (69, (τ 5))]) ds s13)
 (I.wop (.binOp .add 3 (.const (τ 5)) (.const (.int .i64 1)) 3) 3 s13 fun x14 s14 =>
 Q .normal (U τ [(5, x14), (75, x14), (74, (τ 5)), (87, (.bool false)), (87, x13), (86, x12), (85, x11), (84, x10), (83, (τ 5)), (82, x9), (81, x8), (80, x7), (79, x6), (78, (τ 5)), (77, x5), (76, x4), (73, (.bool true)), (73, x3), (72, x2), (71, x1), (70, x0), (69, (τ 5))]) ds s14))
 (Q (.exit 0) (U τ [(73, (.bool false)), (73, x3), (72, x2), (71, x1), (70, x0), (69, (τ 5))]) ds s3)
theorem Z4i (I : Prims) (rnd : Option Nat) (τ : Tau) (ds : List Deferred) (s : St) (Q : Ex → WK) : xp I rnd 107 Z5x Zha [] τ [] ds s (lift Q) = Zlz I rnd τ ds s Q := by kernel_rfl
theorem Zui [Memo] (ro : Nat) (rnd : Option Nat) (τ : Tau) (ds : List Deferred) (s : St) (Q : Ex → WK) : wp P ro 107 rnd Zha τ ds s Q = Zlz (Zao P ro) rnd τ ds s Q := Zc8 rnd 107 P ro (Z4i _ rnd τ ds s Q)
def Zi8 (I : Prims) (rnd : Option Nat) (τ : Tau) (ds : List Deferred) (s : St) (Q : Ex → WK) : Prop :=
 I.wop (.fieldAddr 39 (.const (τ 2)) 7) 0 s fun x0 s0 =>
 I.wop (.load 37 (.const x0)) 37 s0 fun x1 s1 =>
 I.wop (.call ⟨.builtin .len, ⟨[(.const x1)]⟩, #[37]⟩) 3 s1 fun x2 s2 =>
 I.wop (.binOp .lss 3 (.const (τ 6)) (.const x2) 3) 4 s2 fun x3 s3 =>
 wdec x3
 (I.wop (.fieldAddr 39 (.const (τ 2)) 7) 0 s3 fun x4 s4 =>
 I.wop (.load 37 (.const x4)) 37 s4 fun x5 s5 =>
 veq x5 x5 = true ∧ I.wop (.indexAddr 37 (.const x5) (.const (τ 6))) 0 s5 fun x6 s6 =>
 I.wop (.load 59 (.const x6)) 59 s6 fun x7 s7 =>
 veq x7 x7 = true ∧ I.wop (.fieldAddr 39 (.const (τ 3)) 7) 0 s7 fun x8 s8 =>
 I.wop (.load 37 (.const x8)) 37 s8 fun x9 s9 =>
 veq x9 x9 = true ∧ I.wop (.indexAddr 37 (.const x9) (.const (τ 6))) 0 s9 fun x10 s10 =>
 I.wop (.load 59 (.const x10)) 59 s10 fun x11 s11 =>
 veq x11 x11 = true ∧ I.call 53 [x7, x11] s11 fun x12 s12 =>
 I.wop (.unOp .not 4 (.const x12)) 4 s12 fun x13 s13 =>
 wdec x13
 (Q .ret (U τ [(4, (.bool false)), (106, (.bool true)), (106, x13), (105, x12), (104, x11), (103, x10), (102, (τ 6)), (101, x9), (100, x8), (99, x7), (98, x6), (97, (τ 6)), (96, x5), (95, x4), (92, (.bool true)), (92, x3), (91, x2), (90, x1), (89, x0), (88, (τ 6))]) ds s13)
 (I.wop (.binOp .add 3 (.const (τ 6)) (.const (.int .i64 1)) 3) 3 s13 fun x14 s14 =>
 Q .normal (U τ [(6, x14), (94, x14), (93, (τ 6)), (106, (.bool false)), (106, x13), (105, x12), (104, x11), (103, x10), (102, (τ 6)), (101, x9), (100, x8), (99, x7), (98, x6), (97, (τ 6)), (96, x5), (95, x4), (92, (.bool true)), (92, x3), (91, x2), (90, x1), (89, x0), (88, (τ 6))]) ds s14))
 (Q (.exit 2) (U τ [(92, (.bool false)), (92, x3), (91, x2), (90, x1), (89, x0), (88, (τ 6))]) ds s3)
theorem Zzu (I : Prims) (rnd : Option Nat) (τ : Tau) (ds : List Deferred) (s : St) (Q : Ex → WK) : xp I rnd 107 Z1l Zfx [] τ [] ds s (lift Q) = Zi8 I rnd τ ds s Q := by kernel_rfl
theorem Zsj [Memo] (ro : Nat) (rnd : Option Nat) (τ : Tau) (ds : List Deferred) (s : St) (Q : Ex → WK) : wp P ro 107 rnd Zfx τ ds s Q = Zi8 (Zao P ro) rnd τ ds s Q := Zc8 rnd 107 P ro (Zzu _ rnd τ ds s Q)
def v19 (I : Prims) (a0 a1 : Value) (si : St) (K : Value → St → Prop) : Prop :=
 I.wop (.box 39 (.const a0)) 0 (ent si) fun x0 s0 =>
 I.wop (.box 39 (.const a1)) 0 s0 fun x1 s1 =>
 I.wop (.fieldAddr 39 (.const x0) 3) 0 s1 fun x2 s2 =>
 I.wop (.load 34 (.const x2)) 34 s2 fun x3 s3 =>
 I.wop (.fieldAddr 39 (.const x1) 3) 0 s3 fun x4 s4 =>
 I.wop (.load 34 (.const x4)) 34 s4 fun x5 s5 =>
 I.wop (.binOp .neq 34 (.const x3) (.const x5) 34) 4 s5 fun x6 s6 =>
 wdec x6
 (I.fin si K (.bool false) s6)
 (I.wop (.fieldAddr 39 (.const x0) 6) 0 s6 fun x7 s7 =>
 I.wop (.load 34 (.const x7)) 34 s7 fun x8 s8 =>
 I.wop (.fieldAddr 39 (.const x1) 6) 0 s8 fun x9 s9 =>
 I.wop (.load 34 (.const x9)) 34 s9 fun x10 s10 =>
 I.wop (.binOp .neq 34 (.const x8) (.const x10) 34) 4 s10 fun x11 s11 =>
 wdec x11
 (I.fin si K (.bool false) s11)
 (I.wop (.fieldAddr 39 (.const x0) 4) 0 s11 fun x12 s12 =>
 I.wop (.load 35 (.const x12)) 35 s12 fun x13 s13 =>
 I.wop (.call ⟨.builtin .len, ⟨[(.const x13)]⟩, #[35]⟩) 3 s13 fun x14 s14 =>
 I.wop (.fieldAddr 39 (.const x1) 4) 0 s14 fun x15 s15 =>
 I.wop (.load 35 (.const x15)) 35 s15 fun x16 s16 =>
 I.wop (.call ⟨.builtin .len, ⟨[(.const x16)]⟩, #[35]⟩) 3 s16 fun x17 s17 =>
 I.wop (.binOp .neq 3 (.const x14) (.const x17) 3) 4 s17 fun x18 s18 =>
 wdec x18
 (I.fin si K (.bool false) s18)
 (I.wop (.fieldAddr 39 (.const x0) 7) 0 s18 fun x19 s19 =>
 I.wop (.load 37 (.const x19)) 37 s19 fun x20 s20 =>
 I.wop (.call ⟨.builtin .len, ⟨[(.const x20)]⟩, #[37]⟩) 3 s20 fun x21 s21 =>
 I.wop (.fieldAddr 39 (.const x1) 7) 0 s21 fun x22 s22 =>
 I.wop (.load 37 (.const x22)) 37 s22 fun x23 s23 =>
 I.wop (.call ⟨.builtin .len, ⟨[(.const x23)]⟩, #[37]⟩) 3 s23 fun x24 s24 =>
 I.wop (.binOp .neq 3 (.const x21) (.const x24) 3) 4 s24 fun x25 s25 =>
 wdec x25
 (I.fin si K (.bool false) s25)
 (I.wop (.fieldAddr 39 (.const x0) 0) 0 s25 fun x26 s26 =>
 I.wop (.load 33 (.const x26)) 33 s26 fun x27 s27 =>
 I.wop (.fieldAddr 39 (.const x1) 0) 0 s27 fun x28 s28 =>
 I.wop (.load 33 (.const x28)) 33 s28 fun x29 s29 =>
 I.call 51 [x27, x29] s29 fun x30 s30 =>
 I.wop (.unOp .not 4 (.const x30)) 4 s30 fun x31 s31 =>
 wdec x31
 (I.fin si K (.bool false) s31)
 (I.wop (.fieldAddr 39 (.const x0) 1) 0 s31 fun x32 s32 =>
 I.wop (.load 33 (.const x32)) 33 s32 fun x33 s33 =>
 I.wop (.fieldAddr 39 (.const x1) 1) 0 s33 fun x34 s34 =>
 I.wop (.load 33 (.const x34)) 33 s34 fun x35 s35 =>
 I.call 51 [x33, x35] s35 fun x36 s36 =>
 I.wop (.unOp .not 4 (.const x36)) 4 s36 fun x37 s37 =>
 wdec x37
 (I.fin si K (.bool false) s37)
 (I.wop (.fieldAddr 39 (.const x0) 2) 0 s37 fun x38 s38 =>
 I.wop (.load 33 (.const x38)) 33 s38 fun x39 s39 =>
 I.wop (.fieldAddr 39 (.const x1) 2) 0 s39 fun x40 s40 =>
 I.wop (.load 33 (.const x40)) 33 s40 fun x41 s41 =>
 I.call 51 [x39, x41] s41 fun x42 s42 =>
 I.wop (.unOp .not 4 (.const x42)) 4 s42 fun x43 s43 =>
 wdec x43
 (I.fin si K (.bool false) s43)
 (I.wop (.fieldAddr 39 (.const x0) 5) 0 s43 fun x44 s44 =>
 I.wop (.load 36 (.const x44)) 36 s44 fun x45 s45 =>
 I.wop (.fieldAddr 39 (.const x1) 5) 0 s45 fun x46 s46 =>
 I.wop (.load 36 (.const x46)) 36 s46 fun x47 s47 =>
 I.call 52 [x45, x47] s47 fun x48 s48 =>
 I.wop (.unOp .not 4 (.const x48)) 4 s48 fun x49 s49 =>
 wdec x49
 (I.fin si K (.bool false) s49)
 (I.loop 107 none Zha (U Zb2 [(5, (.int .i64 0)), (68, (.bool false)), (68, x49), (61, (.bool false)), (67, x49), (61, (.bool false)), (66, x48), (61, (.bool false)), (65, x47), (61, (.bool false)), (64, x46), (61, (.bool false)), (63, x45), (61, (.bool false)), (62, x44), (61, (.bool false)), (61, x43), (60, x43), (53, (.bool false)), (59, x43), (53, (.bool false)), (58, x42), (53, (.bool false)), (57, x41), (53, (.bool false)), (56, x40), (53, (.bool false)), (55, x39), (53, (.bool false)), (54, x38), (53, (.bool false)), (53, x37), (52, x37), (45, (.bool false)), (51, x37), (45, (.bool false)), (50, x36), (45, (.bool false)), (49, x35), (45, (.bool false)), (48, x34), (45, (.bool false)), (47, x33), (45, (.bool false)), (46, x32), (45, (.bool false)), (45, x31), (44, x31), (37, (.bool false)), (43, x31), (37, (.bool false)), (42, x30), (37, (.bool false)), (41, x29), (37, (.bool false)), (40, x28), (37, (.bool false)), (39, x27), (37, (.bool false)), (38, x26), (37, (.bool false)), (37, x25), (36, x25), (28, (.bool false)), (35, x25), (28, (.bool false)), (34, x24), (28, (.bool false)), (33, x23), (28, (.bool false)), (32, x22), (28, (.bool false)), (31, x21), (28, (.bool false)), (30, x20), (28, (.bool false)), (29, x19), (28, (.bool false)), (28, x18), (27, x18), (19, (.bool false)), (26, x18), (19, (.bool false)), (25, x17), (19, (.bool false)), (24, x16), (19, (.bool false)), (23, x15), (19, (.bool false)), (22, x14), (19, (.bool false)), (21, x13), (19, (.bool false)), (20, x12), (19, (.bool false)), (19, x11), (18, x11), (12, (.bool false)), (17, x11), (12, (.bool false)), (16, x10), (12, (.bool false)), (15, x9), (12, (.bool false)), (14, x8), (12, (.bool false)), (13, x7), (12, (.bool false)), (12, x6), (11, x6), (10, x5), (9, x4), (8, x3), (7, x2), (4, (.bool false)), (3, x1), (2, x0), (0, a0), (1, a1)]) [] s49 (fun τ ds s => ((Za5 I si Tryd.f19.results.toList K) .ret) τ [] ds s) [(0, fun τ50 ds50 s50 =>
 I.loop 107 none Zfx (U τ50 [(6, (.int .i64 0))]) ds50 s50 (fun τ ds s => ((Za5 I si Tryd.f19.results.toList K) .ret) τ [] ds s) [(2, fun _ ds51 s51 =>
 Zbh I ds51 s51 fun s52 =>
 I.fin si K (.bool true) s52)])]))))))))
theorem x19 (I : Prims) (a0 a1 : Value) (si : St) (K : Value → St → Prop) : Zbs I 107 k19 Tryd.f19 c19 [a0, a1] si K = v19 I a0 a1 si K := by kernel_rfl
theorem n19 [Memo] (ro : Nat) (a0 a1 : Value) (si : St) (K : Value → St → Prop) : Zbr P ro 107 Tryd.f19 c19 [a0, a1] si K = v19 (Zao P ro) a0 a1 si K := Zap 107 P ro (x19 _ a0 a1 si K)
theorem r19 (I : Prims) (si : St) (K : Value → St → Prop) (τ : Tau) (ds : List Deferred) (s : St) : Za5 I si Tryd.f19.results.toList K .ret τ [] ds s =
 (Zbh I ds s fun s0 =>
 I.fin si K (τ 4) s0) := by kernel_rfl
noncomputable def c21 : Code := Za7 Tryd.f21
def k21 : List (List Nat) := []
theorem b21 : BodyOk P 12 1 21 Tryd.f21 c21 := ⟨Tryd.func21, by kernel_rfl, by kernel_rfl, by kernel_rfl, by kernel_rfl, by kernel_rfl⟩
def v21 (I : Prims) (a0 : Value) (si : St) (K : Value → St → Prop) : Prop :=
 I.wop (.binOp .eql 3 (.const a0) (.const (.int .i64 0)) 3) 4 (ent si) fun x0 s0 =>
 wdec x0
 (I.fin si K (.int .u64 97) s0)
 (I.wop (.binOp .eql 3 (.const a0) (.const (.int .i64 1)) 3) 4 s0 fun x1 s1 =>
 wdec x1
 (I.fin si K (.int .u64 257) s1)
 (I.wop (.binOp .eql 3 (.const a0) (.const (.int .i64 2)) 3) 4 s1 fun x2 s2 =>
 wdec x2
 (I.fin si K (.int .u64 12289) s2)
 (I.wop (.binOp .eql 3 (.const a0) (.const (.int .i64 3)) 3) 4 s2 fun x3 s3 =>
 wdec x3
 (I.fin si K (.int .u64 998244353) s3)
 (I.fin si K (.int .u64 0) s3))))
theorem x21 (I : Prims) (a0 : Value) (si : St) (K : Value → St → Prop) : Zbs I 12 k21 Tryd.f21 c21 [a0] si K = v21 I a0 si K := by kernel_rfl
theorem n21 [Memo] (ro : Nat) (a0 : Value) (si : St) (K : Value → St → Prop) : Zbr P ro 12 Tryd.f21 c21 [a0] si K = v21 (Zao P ro) a0 si K := Zap 12 P ro (x21 _ a0 si K)
noncomputable def c22 : Code := Za7 Tryd.f22
noncomputable def Ze2 : Code := Za3 [1, 1, 1, 0, 1, 0, 0] c22
noncomputable def Ze1 : Code := Za3 [1, 1, 1, 0, 1, 0, 1] c22
def k22 : List (List Nat) := []
def Z1k : List (List Nat) := []
theorem Z1b : Zbd 53 Ze2 = true := by kernel_rfl
def Z1j : List (List Nat) := []
theorem Z1a : Zbd 53 Ze1 = true := by kernel_rfl
theorem b22 : BodyOk P 53 2 22 Tryd.f22 c22 := ⟨Tryd.func22, by kernel_rfl, by kernel_rfl, by kernel_rfl, by kernel_rfl, by kernel_rfl⟩
def Zni (I : Prims) (rnd : Option Nat) (τ : Tau) (ds : List Deferred) (s : St) (Q : Ex → WK) : Prop :=
 I.wop (.alloc 30) 0 s fun x0 s0 =>
 I.wop (.store 30 (.const x0) (.const (τ 32))) 0 s0 fun _ s1 =>
 Q .normal (U τ [(5, x0)]) ds s1
theorem Zzt (I : Prims) (rnd : Option Nat) (τ : Tau) (ds : List Deferred) (s : St) (Q : Ex → WK) : xp I rnd 53 Z1k Ze2 [] τ [] ds s (lift Q) = Zni I rnd τ ds s Q := by kernel_rfl
theorem Z0u [Memo] (ro : Nat) (rnd : Option Nat) (τ : Tau) (ds : List Deferred) (s : St) (Q : Ex → WK) : wp P ro 53 rnd Ze2 τ ds s Q = Zni (Zao P ro) rnd τ ds s Q := Zc8 rnd 53 P ro (Zzt _ rnd τ ds s Q)
def Znh (I : Prims) (rnd : Option Nat) (τ : Tau) (ds : List Deferred) (s : St) (Q : Ex → WK) : Prop :=
 I.wop (.fieldAddr 30 (.const (τ 5)) 0) 0 s fun x0 s0 =>
 I.wop (.load 28 (.const x0)) 28 s0 fun x1 s1 =>
 veq x1 x1 = true ∧ I.wop (.load 30 (.const (τ 5))) 30 s1 fun x2 s2 =>
 veq x2 x2 = true ∧ I.call 48 [] s2 fun x3 s3 =>
 Keeps [(5, .ptr (τ 5)), (2, .ptr x0)] s2 s3 ∧ I.wop (.indexAddr 84 (.const x3) (.const x1)) 0 s3 fun x4 s4 =>
 I.wop (.load 83 (.const x4)) 83 s4 fun x5 s5 =>
 veq x5 x5 = true ∧ Zio I x5 [(τ 3), x2] s5 fun x6 s6 =>
 I.call 57 [x6] s6 fun x7 s7 =>
 I.wop (.call ⟨.builtin .len, ⟨[(.const x7)]⟩, #[36]⟩) 3 s7 fun x8 s8 =>
 I.wop (.fieldAddr 30 (.const (τ 5)) 3) 0 s8 fun x9 s9 =>
 I.wop (.load 3 (.const x9)) 3 s9 fun x10 s10 =>
 I.wop (.binOp .neq 3 (.const x8) (.const x10) 3) 4 s10 fun x11 s11 =>
 wdec x11
 (I.wop (.store 4 (.const (τ 4)) (.const (.bool false))) 0 s11 fun _ s12 =>
 Q .ret (U τ [(52, (.bool true)), (52, (.bool true)), (46, (.bool true)), (51, undef), (46, (.bool true)), (50, undef), (46, (.bool true)), (49, undef), (46, (.bool true)), (48, undef), (46, (.bool true)), (47, undef), (46, (.bool true)), (46, x11), (45, x11), (44, x10), (43, x9), (42, x8), (41, x7), (6, x7), (40, x7), (39, x6), (37, x5), (36, x4), (33, x3), (38, x2), (35, x1), (34, x0)]) ds s12)
 (I.wop (.fieldAddr 23 (.const (τ 2)) 0) 0 s11 fun x13 s13 =>
 I.wop (.load 3 (.const x13)) 3 s13 fun x14 s14 =>
 I.call 58 [x14, x7] s14 fun x15 s15 =>
 I.wop (.unOp .not 4 (.const x15)) 4 s15 fun x16 s16 =>
 wdec x16
 (I.wop (.store 4 (.const (τ 4)) (.const (.bool false))) 0 s16 fun _ s17 =>
 Q .ret (U τ [(52, (.bool true)), (52, x16), (46, (.bool false)), (51, x16), (46, (.bool false)), (50, x15), (46, (.bool false)), (49, x7), (46, (.bool false)), (48, x14), (46, (.bool false)), (47, x13), (46, (.bool false)), (46, x11), (45, x11), (44, x10), (43, x9), (42, x8), (41, x7), (6, x7), (40, x7), (39, x6), (37, x5), (36, x4), (33, x3), (38, x2), (35, x1), (34, x0)]) ds s17)
 (Q .normal (U τ [(52, (.bool false)), (52, x16), (46, (.bool false)), (51, x16), (46, (.bool false)), (50, x15), (46, (.bool false)), (49, x7), (46, (.bool false)), (48, x14), (46, (.bool false)), (47, x13), (46, (.bool false)), (46, x11), (45, x11), (44, x10), (43, x9), (42, x8), (41, x7), (6, x7), (40, x7), (39, x6), (37, x5), (36, x4), (33, x3), (38, x2), (35, x1), (34, x0)]) ds s16))
theorem Zzs (I : Prims) (rnd : Option Nat) (τ : Tau) (ds : List Deferred) (s : St) (Q : Ex → WK) : xp I rnd 53 Z1j Ze1 [] τ [] ds s (lift Q) = Znh I rnd τ ds s Q := by kernel_rfl
theorem Z0t [Memo] (ro : Nat) (rnd : Option Nat) (τ : Tau) (ds : List Deferred) (s : St) (Q : Ex → WK) : wp P ro 53 rnd Ze1 τ ds s Q = Znh (Zao P ro) rnd τ ds s Q := Zc8 rnd 53 P ro (Zzs _ rnd τ ds s Q)
def v22 (I : Prims) (a0 a1 : Value) (si : St) (K : Value → St → Prop) : Prop :=
 I.wop (.box 23 (.const a0)) 0 (ent si) fun x0 s0 =>
 I.wop (.box 39 (.const a1)) 0 s0 fun x1 s1 =>
 I.wop (.alloc 4) 0 s1 fun x2 s2 =>
 I.wop (.load 23 (.const x0)) 23 s2 fun x3 s3 =>
 veq x3 x3 = true ∧ I.call 12 [x3] s3 fun x4 s4 =>
 I.wop (.unOp .not 4 (.const x4)) 4 s4 fun x5 s5 =>
 wdec x5
 (I.wop (.store 4 (.const x2) (.const (.bool false))) 0 s5 fun _ s6 =>
 I.wop (.load 4 (.const x2)) 4 s6 fun x7 _ =>
 I.fin si K x7 s6)
 (I.wop (.fieldAddr 39 (.const x1) 4) 0 s5 fun x8 s8 =>
 I.wop (.load 35 (.const x8)) 35 s8 fun x9 s9 =>
 veq x9 x9 = true ∧ I.wop (.call ⟨.builtin .len, ⟨[(.const x9)]⟩, #[35]⟩) 3 s9 fun x10 s10 =>
 I.wop (.load 23 (.const x0)) 23 s10 fun x11 s11 =>
 veq x11 x11 = true ∧ I.call 54 [x11] s11 fun x12 s12 =>
 Keeps [(5, .ptr x8)] s11 s12 ∧ I.wop (.binOp .neq 3 (.const x10) (.const x12) 3) 4 s12 fun x13 s13 =>
 wdec x13
 (I.wop (.store 4 (.const x2) (.const (.bool false))) 0 s13 fun _ s14 =>
 I.wop (.load 4 (.const x2)) 4 s14 fun x15 _ =>
 I.fin si K x15 s14)
 (I.wop (.fieldAddr 39 (.const x1) 7) 0 s13 fun x16 s16 =>
 I.wop (.load 37 (.const x16)) 37 s16 fun x17 s17 =>
 veq x17 x17 = true ∧ I.wop (.call ⟨.builtin .len, ⟨[(.const x17)]⟩, #[37]⟩) 3 s17 fun x18 s18 =>
 I.wop (.fieldAddr 23 (.const x0) 4) 0 s18 fun x19 s19 =>
 I.wop (.load 3 (.const x19)) 3 s19 fun x20 s20 =>
 veq x20 x20 = true ∧ I.wop (.binOp .neq 3 (.const x18) (.const x20) 3) 4 s20 fun x21 s21 =>
 wdec x21
 (I.wop (.store 4 (.const x2) (.const (.bool false))) 0 s21 fun _ s22 =>
 I.wop (.load 4 (.const x2)) 4 s22 fun x23 _ =>
 I.fin si K x23 s22)
 (I.wop (.fieldAddr 39 (.const x1) 7) 0 s21 fun x24 s24 =>
 I.wop (.load 37 (.const x24)) 37 s24 fun x25 s25 =>
 I.call 55 [x25, (.func (.func 56) (.mk []) (.mk [x0]))] s25 fun x26 s26 =>
 wdec x26
 (I.wop (.store 4 (.const x2) (.const (.bool false))) 0 s26 fun _ s27 =>
 I.wop (.load 4 (.const x2)) 4 s27 fun x28 _ =>
 I.fin si K x28 s27)
 (I.wop (.load 23 (.const x0)) 23 s26 fun x29 s29 =>
 I.call 32 [x29] s29 fun x30 s30 =>
 I.range 53 none x30 #[32] Ze2 Ze1 (U Zb2 [(31, x30), (30, x29), (29, (.bool false)), (29, x26), (28, (.func (.func 56) (.mk []) (.mk [x0]))), (27, x25), (26, x24), (25, (.bool false)), (25, x21), (18, (.bool false)), (24, x21), (18, (.bool false)), (23, x20), (18, (.bool false)), (22, x19), (18, (.bool false)), (21, x18), (18, (.bool false)), (20, x17), (18, (.bool false)), (19, x16), (18, (.bool false)), (18, x13), (17, x13), (10, (.bool false)), (16, x13), (10, (.bool false)), (15, x12), (10, (.bool false)), (14, x11), (10, (.bool false)), (13, x10), (10, (.bool false)), (12, x9), (10, (.bool false)), (11, x8), (10, (.bool false)), (10, x5), (9, x5), (8, x4), (7, x3), (4, x2), (3, x1), (2, x0), (0, a0), (1, a1)]) [] s30 (fun τ31 ds31 s31 =>
 I.wop (.store 4 (.const (τ31 4)) (.const (.bool true))) 0 s31 fun _ s32 =>
 Zbh I ds31 s32 fun s33 =>
 I.wop (.load 4 (.const (τ31 4))) 4 s33 fun x34 _ =>
 I.fin si K x34 s33) (fun τ ds s => ((Za5 I si Tryd.f22.results.toList K) .ret) τ [] ds s) []))))
theorem x22 (I : Prims) (a0 a1 : Value) (si : St) (K : Value → St → Prop) : Zbs I 53 k22 Tryd.f22 c22 [a0, a1] si K = v22 I a0 a1 si K := by kernel_rfl
theorem n22 [Memo] (ro : Nat) (a0 a1 : Value) (si : St) (K : Value → St → Prop) : Zbr P ro 53 Tryd.f22 c22 [a0, a1] si K = v22 (Zao P ro) a0 a1 si K := Zap 53 P ro (x22 _ a0 a1 si K)
theorem r22 (I : Prims) (si : St) (K : Value → St → Prop) (τ : Tau) (ds : List Deferred) (s : St) : Za5 I si Tryd.f22.results.toList K .ret τ [] ds s =
 (Zbh I ds s fun s0 =>
 I.wop (.load 4 (.const (τ 4))) 4 s0 fun x1 _ =>
 I.fin si K x1 s0) := by kernel_rfl
noncomputable def c23 : Code := Za7 Tryd.f23
noncomputable def Ze0 : Code := Za3 [1, 1, 1, 0, 1, 0, 0] c23
noncomputable def Zez : Code := Za3 [1, 1, 1, 0, 1, 0, 1] c23
noncomputable def Zdj : Code := Za3 [1, 1, 1, 0, 1, 0, 1, 0, 1, 0, 0] c23
noncomputable def Zbv : Code := Za3 [1, 1, 1, 0, 1, 0, 1, 0, 1, 0, 0, 1, 1, 0, 0, 1, 1, 0, 0] c23
def k23 : List (List Nat) := []
def Z1i : List (List Nat) := []
theorem Z09 : Zbd 48 Ze0 = true := by kernel_rfl
def Z1h : List (List Nat) := []
theorem Z08 : Zbd 48 Zez = true := by kernel_rfl
def Zss : List (List Nat) := []
theorem Zsq : Zbd 48 Zdj = true := by kernel_rfl
theorem Zsn : Zcc Zdj = true := by kernel_rfl
def Zjj : List (List Nat) := []
theorem Zji : Zbd 48 Zbv = true := by kernel_rfl
theorem Zjg : Zcc Zbv = true := by kernel_rfl
theorem b23 : BodyOk P 48 2 23 Tryd.f23 c23 := ⟨Tryd.func23, by kernel_rfl, by kernel_rfl, by kernel_rfl, by kernel_rfl, by kernel_rfl⟩
def Zng (I : Prims) (rnd : Option Nat) (τ : Tau) (ds : List Deferred) (s : St) (Q : Ex → WK) : Prop :=
 I.wop (.alloc 30) 0 s fun x0 s0 =>
 I.wop (.store 30 (.const x0) (.const (τ 20))) 0 s0 fun _ s1 =>
 Q .normal (U τ [(7, x0)]) ds s1
theorem Zzr (I : Prims) (rnd : Option Nat) (τ : Tau) (ds : List Deferred) (s : St) (Q : Ex → WK) : xp I rnd 48 Z1i Ze0 [] τ [] ds s (lift Q) = Zng I rnd τ ds s Q := by kernel_rfl
theorem Z0s [Memo] (ro : Nat) (rnd : Option Nat) (τ : Tau) (ds : List Deferred) (s : St) (Q : Ex → WK) : wp P ro 48 rnd Ze0 τ ds s Q = Zng (Zao P ro) rnd τ ds s Q := Zc8 rnd 48 P ro (Zzr _ rnd τ ds s Q)
def Znf (I : Prims) (rnd : Option Nat) (τ : Tau) (ds : List Deferred) (s : St) (Q : Ex → WK) : Prop :=
 I.wop (.fieldAddr 30 (.const (τ 7)) 0) 0 s fun x0 s0 =>
 I.wop (.load 28 (.const x0)) 28 s0 fun x1 s1 =>
 veq x1 x1 = true ∧ I.wop (.load 30 (.const (τ 7))) 30 s1 fun x2 s2 =>
 veq x2 x2 = true ∧ I.call 48 [] s2 fun x3 s3 =>
 Keeps [(5, .ptr (τ 7)), (2, .ptr x0)] s2 s3 ∧ I.wop (.indexAddr 84 (.const x3) (.const x1)) 0 s3 fun x4 s4 =>
 I.wop (.load 83 (.const x4)) 83 s4 fun x5 s5 =>
 veq x5 x5 = true ∧ Zio I x5 [(τ 3), x2] s5 fun x6 s6 =>
 I.call 57 [x6] s6 fun x7 s7 =>
 I.wop (.call ⟨.builtin .len, ⟨[(.const x7)]⟩, #[36]⟩) 3 s7 fun x8 s8 =>
 I.loop 48 rnd Zdj (U τ [(29, x8), (28, x7), (27, x6), (25, x5), (24, x4), (21, x3), (30, (.int .i64 0)), (26, x2), (23, x1), (22, x0)]) ds s8 (fun τ ds s => ((lift Q) .ret) τ [] ds s) [(2, fun τ9 ds9 s9 =>
 Q .normal τ9 ds9 s9), (4, fun τ10 ds10 s10 =>
 Q (.exit 4) τ10 ds10 s10)]
theorem Zzq (I : Prims) (rnd : Option Nat) (τ : Tau) (ds : List Deferred) (s : St) (Q : Ex → WK) : xp I rnd 48 Z1h Zez [] τ [] ds s (lift Q) = Znf I rnd τ ds s Q := by kernel_rfl
theorem Z0r [Memo] (ro : Nat) (rnd : Option Nat) (τ : Tau) (ds : List Deferred) (s : St) (Q : Ex → WK) : wp P ro 48 rnd Zez τ ds s Q = Znf (Zao P ro) rnd τ ds s Q := Zc8 rnd 48 P ro (Zzq _ rnd τ ds s Q)
def Zhg (I : Prims) (rnd : Option Nat) (τ : Tau) (ds : List Deferred) (s : St) (Q : Ex → WK) : Prop :=
 I.wop (.binOp .lss 3 (.const (τ 30)) (.const (τ 29)) 3) 0 s fun x0 s0 =>
 wdec x0
 (I.wop (.indexAddr 36 (.const (τ 28)) (.const (τ 30))) 0 s0 fun x1 s1 =>
 I.wop (.load 34 (.const x1)) 34 s1 fun x2 s2 =>
 I.loop 48 rnd Zbv (U τ [(34, (.int .i64 0)), (9, x2), (33, x2), (32, x1), (31, (.bool true)), (31, x0)]) ds s2 (fun τ ds s => ((lift Q) .ret) τ [] ds s) [(4, fun τ3 ds3 s3 =>
 I.wop (.binOp .add 3 (.const (τ3 30)) (.const (.int .i64 1)) 3) 3 s3 fun x4 s4 =>
 Q .normal (U τ3 [(30, x4), (46, x4)]) ds3 s4)])
 (Q (.exit 2) (U τ [(31, (.bool false)), (31, x0)]) ds s0)
theorem Zro (I : Prims) (rnd : Option Nat) (τ : Tau) (ds : List Deferred) (s : St) (Q : Ex → WK) : xp I rnd 48 Zss Zdj [] τ [] ds s (lift Q) = Zhg I rnd τ ds s Q := by kernel_rfl
theorem Zsi [Memo] (ro : Nat) (rnd : Option Nat) (τ : Tau) (ds : List Deferred) (s : St) (Q : Ex → WK) : wp P ro 48 rnd Zdj τ ds s Q = Zhg (Zao P ro) rnd τ ds s Q := Zc8 rnd 48 P ro (Zro _ rnd τ ds s Q)
def Zdn (I : Prims) (rnd : Option Nat) (τ : Tau) (ds : List Deferred) (s : St) (Q : Ex → WK) : Prop :=
 I.wop (.binOp .lss 3 (.const (τ 34)) (.const (.int .i64 4)) 3) 4 s fun x0 s0 =>
 wdec x0
 (I.wop (.load 32 (.const (τ 6))) 32 s0 fun x1 s1 =>
 veq x1 x1 = true ∧ I.wop (.binOp .mul 3 (.const (.int .i64 8)) (.const (τ 34)) 3) 3 s1 fun x2 s2 =>
 I.wop (.binOp .shr 34 (.const (τ 9)) (.const x2) 3) 34 s2 fun x3 s3 =>
 I.wop (.convert 34 5 (.const x3)) 5 s3 fun x4 s4 =>
 s4 = s3 ∧ veq x4 x4 = true ∧ I.wop (.buildSlice 32 1 ⟨[(0, (.const x4))]⟩) 32 s4 fun x5 s5 =>
 Zcm s4 s5 ∧ I.wop (.call ⟨.builtin .append, ⟨[(.const x1), (.const x5)]⟩, #[32, 32]⟩) 32 s5 fun x6 s6 =>
 s5.n ≤ s6.n ∧ I.wop (.store 32 (.const (τ 6)) (.const x6)) 0 s6 fun _ s7 =>
 s6.n ≤ s7.n ∧ I.wop (.binOp .add 3 (.const (τ 34)) (.const (.int .i64 1)) 3) 3 s7 fun x8 s8 =>
 Q .normal (U τ [(34, x8), (45, x8), (44, x6), (43, x5), (42, x4), (41, x3), (40, x2), (39, (τ 34)), (38, (τ 9)), (37, x1), (10, (τ 34)), (36, (τ 34)), (35, (.bool true)), (35, x0)]) ds s8)
 (Q (.exit 4) (U τ [(35, (.bool false)), (35, x0)]) ds s0)
theorem Zi4 (I : Prims) (rnd : Option Nat) (τ : Tau) (ds : List Deferred) (s : St) (Q : Ex → WK) : xp I rnd 48 Zjj Zbv [] τ [] ds s (lift Q) = Zdn I rnd τ ds s Q := by kernel_rfl
theorem Zjd [Memo] (ro : Nat) (rnd : Option Nat) (τ : Tau) (ds : List Deferred) (s : St) (Q : Ex → WK) : wp P ro 48 rnd Zbv τ ds s Q = Zdn (Zao P ro) rnd τ ds s Q := Zc8 rnd 48 P ro (Zi4 _ rnd τ ds s Q)
def v23 (I : Prims) (a0 a1 : Value) (si : St) (K : Value → St → Prop) : Prop :=
 I.wop (.box 23 (.const a0)) 0 (ent si) fun x0 s0 =>
 I.wop (.box 39 (.const a1)) 0 s0 fun x1 s1 =>
 I.wop (.load 23 (.const x0)) 23 s1 fun x2 s2 =>
 I.wop (.load 39 (.const x1)) 39 s2 fun x3 s3 =>
 I.call 22 [x2, x3] s3 fun x4 s4 =>
 I.wop (.unOp .not 4 (.const x4)) 4 s4 fun x5 s5 =>
 wdec x5
 (I.fin si K (.tuple (.mk [(.slice none 0 0), (.int .i64 1)])) s5)
 (I.wop (.load 23 (.const x0)) 23 s5 fun x6 s6 =>
 I.call 14 [x6] s6 fun x7 s7 =>
 I.wop (.makeSlice 32 (.const (.int .i64 0)) (.const x7)) 32 s7 fun x8 s8 =>
 I.wop (.alloc 32) 0 s8 fun x9 s9 =>
 I.wop (.store 32 (.const x9) (.const x8)) 0 s9 fun _ s10 =>
 I.wop (.load 23 (.const x0)) 23 s10 fun x11 s11 =>
 I.call 32 [x11] s11 fun x12 s12 =>
 I.range 48 none x12 #[20] Ze0 Zez (U Zb2 [(19, x12), (18, x11), (6, x9), (17, x8), (16, x7), (15, x6), (14, (.bool false)), (14, x5), (13, x4), (12, x3), (11, x2), (5, (.int .i64 0)), (4, (.slice none 0 0)), (3, x1), (2, x0), (0, a0), (1, a1)]) [] s12 (fun τ15 ds15 s15 =>
 I.wop (.load 32 (.const (τ15 6))) 32 s15 fun x16 s16 =>
 Zbh I ds15 s16 fun s17 =>
 I.fin si K (.tuple (.mk [x16, (.int .i64 0)])) s17) (fun τ ds s => ((Za5 I si Tryd.f23.results.toList K) .ret) τ [] ds s) [(2, fun _ _ _ =>
 False), (4, fun _ _ _ =>
 False)])
theorem x23 (I : Prims) (a0 a1 : Value) (si : St) (K : Value → St → Prop) : Zbs I 48 k23 Tryd.f23 c23 [a0, a1] si K = v23 I a0 a1 si K := by kernel_rfl
theorem n23 [Memo] (ro : Nat) (a0 a1 : Value) (si : St) (K : Value → St → Prop) : Zbr P ro 48 Tryd.f23 c23 [a0, a1] si K = v23 (Zao P ro) a0 a1 si K := Zap 48 P ro (x23 _ a0 a1 si K)
noncomputable def c25 : Code := Za7 Tryd.f25
def k25 : List (List Nat) := []
theorem b25 : BodyOk P 2 0 25 Tryd.f25 c25 := ⟨Tryd.func25, by kernel_rfl, by kernel_rfl, by kernel_rfl, by kernel_rfl, by kernel_rfl⟩
def v25 (I : Prims) (si : St) (K : Value → St → Prop) : Prop :=
 I.wop (.alloc 23) 0 (ent si) fun x0 s0 =>
 I.wop (.build 23 ⟨[(1, (.const (.int .i64 2))), (2, (.const (.int .i64 1))), (3, (.const (.int .i64 1))), (4, (.const (.int .i64 2))), (6, (.const (.int .i64 1))), (8, (.const (.int .i64 1)))]⟩) 23 s0 fun x1 s1 =>
 I.wop (.store 23 (.const x0) (.const x1)) 0 s1 fun _ s2 =>
 I.wop (.load 23 (.const x0)) 23 s2 fun x3 _ =>
 I.fin si K x3 s2
theorem x25 (I : Prims) (si : St) (K : Value → St → Prop) : Zbs I 2 k25 Tryd.f25 c25 [] si K = v25 I si K := by kernel_rfl
theorem n25 [Memo] (ro : Nat) (si : St) (K : Value → St → Prop) : Zbr P ro 2 Tryd.f25 c25 [] si K = v25 (Zao P ro) si K := Zap 2 P ro (x25 _ si K)
noncomputable def c30 : Code := Za7 Tryd.f30
noncomputable def Zhv : Code := Za3 [1, 1, 1, 0, 1, 0, 0] c30
def k30 : List (List Nat) := []
def Z1g : List (List Nat) := []
theorem Z07 : Zbd 42 Zhv = true := by kernel_rfl
theorem Z00 : Zcc Zhv = true := by kernel_rfl
theorem b30 : BodyOk P 42 2 30 Tryd.f30 c30 := ⟨Tryd.func30, by kernel_rfl, by kernel_rfl, by kernel_rfl, by kernel_rfl, by kernel_rfl⟩
def Zne (I : Prims) (rnd : Option Nat) (τ : Tau) (ds : List Deferred) (s : St) (Q : Ex → WK) : Prop :=
 I.wop (.call ⟨.builtin .len, ⟨[(.const (τ 0))]⟩, #[24]⟩) 3 s fun x0 s0 =>
 I.wop (.binOp .lss 3 (.const (τ 6)) (.const x0) 3) 4 s0 fun x1 s1 =>
 wdec x1
 (I.wop (.indexAddr 24 (.const (τ 0)) (.const (τ 6))) 0 s1 fun x2 s2 =>
 I.wop (.load 30 (.const x2)) 30 s2 fun x3 s3 =>
 I.wop (.alloc 30) 0 s3 fun x4 s4 =>
 I.wop (.store 30 (.const x4) (.const x3)) 0 s4 fun _ s5 =>
 I.wop (.load 30 (.const x4)) 30 s5 fun x6 s6 =>
 Zio I (τ 1) [x6] s6 fun x7 s7 =>
 I.wop (.unOp .not 4 (.const x7)) 4 s7 fun x8 s8 =>
 wdec x8
 (I.wop (.load 30 (.const x4)) 30 s8 fun x9 s9 =>
 I.wop (.indexAddr 24 (.const (τ 0)) (.const (τ 5))) 0 s9 fun x10 s10 =>
 I.wop (.store 30 (.const x10) (.const x9)) 0 s10 fun _ s11 =>
 I.wop (.binOp .add 3 (.const (τ 5)) (.const (.int .i64 1)) 3) 3 s11 fun x12 s12 =>
 I.wop (.binOp .add 3 (.const (τ 6)) (.const (.int .i64 1)) 3) 3 s12 fun x13 s13 =>
 Q .normal (U τ [(6, x13), (21, x13), (20, (τ 6)), (5, x12), (35, x12), (34, (τ 5)), (33, x10), (32, x9), (31, (τ 5)), (30, (τ 0)), (29, (.bool true)), (29, x8), (28, x7), (27, x6), (26, (τ 1)), (7, x4), (25, x3), (24, x2), (23, (τ 6)), (22, (τ 0)), (19, (.bool true)), (19, x1), (18, x0), (17, (τ 0)), (16, (τ 6))]) ds s13)
 (I.wop (.binOp .add 3 (.const (τ 6)) (.const (.int .i64 1)) 3) 3 s8 fun x14 s14 =>
 Q .normal (U τ [(6, x14), (21, x14), (20, (τ 6)), (29, (.bool false)), (29, x8), (28, x7), (27, x6), (26, (τ 1)), (7, x4), (25, x3), (24, x2), (23, (τ 6)), (22, (τ 0)), (19, (.bool true)), (19, x1), (18, x0), (17, (τ 0)), (16, (τ 6))]) ds s14))
 (Q (.exit 0) (U τ [(19, (.bool false)), (19, x1), (18, x0), (17, (τ 0)), (16, (τ 6))]) ds s1)
theorem Zzp (I : Prims) (rnd : Option Nat) (τ : Tau) (ds : List Deferred) (s : St) (Q : Ex → WK) : xp I rnd 42 Z1g Zhv [] τ [] ds s (lift Q) = Zne I rnd τ ds s Q := by kernel_rfl
theorem Z0q [Memo] (ro : Nat) (rnd : Option Nat) (τ : Tau) (ds : List Deferred) (s : St) (Q : Ex → WK) : wp P ro 42 rnd Zhv τ ds s Q = Zne (Zao P ro) rnd τ ds s Q := Zc8 rnd 42 P ro (Zzp _ rnd τ ds s Q)
def v30 (I : Prims) (a0 a1 : Value) (si : St) (K : Value → St → Prop) : Prop :=
 I.call 67 [a0, a1] (ent si) fun x0 s0 =>
 I.wop (.binOp .eql 3 (.const x0) (.const (.int .i64 (-1))) 3) 4 s0 fun x1 s1 =>
 wdec x1
 (I.fin si K a0 s1)
 (I.wop (.binOp .add 3 (.const x0) (.const (.int .i64 1)) 3) 3 s1 fun x2 s2 =>
 I.loop 42 none Zhv (U Zb2 [(6, x2), (15, x2), (14, x0), (12, (.bool false)), (12, x1), (11, x0), (5, x0), (10, x0), (9, a1), (8, a0), (4, (.slice none 0 0)), (0, a0), (1, a1)]) [] s2 (fun τ ds s => ((Za5 I si Tryd.f30.results.toList K) .ret) τ [] ds s) [(0, fun τ3 ds3 s3 =>
 I.wop (.slice 24 (.const (τ3 0)) (some (.const (τ3 5))) none none) 24 s3 fun x4 s4 =>
 I.wop (.call ⟨.builtin .clear, ⟨[(.const x4)]⟩, #[24]⟩) 0 s4 fun _ s5 =>
 I.wop (.slice 24 (.const (τ3 0)) none (some (.const (τ3 5))) none) 24 s5 fun x6 s6 =>
 Zbh I ds3 s6 fun s7 =>
 I.fin si K x6 s7)])
theorem x30 (I : Prims) (a0 a1 : Value) (si : St) (K : Value → St → Prop) : Zbs I 42 k30 Tryd.f30 c30 [a0, a1] si K = v30 I a0 a1 si K := by kernel_rfl
theorem n30 [Memo] (ro : Nat) (a0 a1 : Value) (si : St) (K : Value → St → Prop) : Zbr P ro 42 Tryd.f30 c30 [a0, a1] si K = v30 (Zao P ro) a0 a1 si K := Zap 42 P ro (x30 _ a0 a1 si K)
theorem r30 (I : Prims) (si : St) (K : Value → St → Prop) (τ : Tau) (ds : List Deferred) (s : St) : Za5 I si Tryd.f30.results.toList K .ret τ [] ds s =
 (Zbh I ds s fun s0 =>
 I.fin si K (τ 4) s0) := by kernel_rfl
noncomputable def c31 : Code := Za7 Tryd.f31
def k31 : List (List Nat) := []
theorem b31 : BodyOk P 5 1 31 Tryd.f31 c31 := ⟨Tryd.func31, by kernel_rfl, by kernel_rfl, by kernel_rfl, by kernel_rfl, by kernel_rfl⟩
def v31 (I : Prims) (a0 : Value) (si : St) (K : Value → St → Prop) : Prop :=
 I.call 68 [(.slice none 0 0), a0] (ent si) fun x0 s0 =>
 I.fin si K x0 s0
theorem x31 (I : Prims) (a0 : Value) (si : St) (K : Value → St → Prop) : Zbs I 5 k31 Tryd.f31 c31 [a0] si K = v31 I a0 si K := by kernel_rfl
theorem n31 [Memo] (ro : Nat) (a0 : Value) (si : St) (K : Value → St → Prop) : Zbr P ro 5 Tryd.f31 c31 [a0] si K = v31 (Zao P ro) a0 si K := Zap 5 P ro (x31 _ a0 si K)
noncomputable def c32 : Code := Za7 Tryd.f32
def k32 : List (List Nat) := []
theorem b32 : BodyOk P 4 1 32 Tryd.f32 c32 := ⟨Tryd.func32, by kernel_rfl, by kernel_rfl, by kernel_rfl, by kernel_rfl, by kernel_rfl⟩
def v32 (I : Prims) (a0 : Value) (si : St) (K : Value → St → Prop) : Prop :=
 I.wop (.box 23 (.const a0)) 0 (ent si) fun x0 s0 =>
 I.fin si K (.func (.func 69) (.mk []) (.mk [x0])) s0
theorem x32 (I : Prims) (a0 : Value) (si : St) (K : Value → St → Prop) : Zbs I 4 k32 Tryd.f32 c32 [a0] si K = v32 I a0 si K := by kernel_rfl
theorem n32 [Memo] (ro : Nat) (a0 : Value) (si : St) (K : Value → St → Prop) : Zbr P ro 4 Tryd.f32 c32 [a0] si K = v32 (Zao P ro) a0 si K := Zap 4 P ro (x32 _ a0 si K)
noncomputable def c33 : Code := Za7 Tryd.f33
def k33 : List (List Nat) := []
theorem b33 : BodyOk P 6 1 33 Tryd.f33 c33 := ⟨Tryd.func33, by kernel_rfl, by kernel_rfl, by kernel_rfl, by kernel_rfl, by kernel_rfl⟩
def v33 (I : Prims) (a0 : Value) (si : St) (K : Value → St → Prop) : Prop :=
 I.wop (.box 30 (.const a0)) 0 (ent si) fun x0 s0 =>
 I.wop (.fieldAddr 30 (.const x0) 3) 0 s0 fun x1 s1 =>
 I.wop (.load 3 (.const x1)) 3 s1 fun x2 s2 =>
 I.wop (.binOp .eql 3 (.const x2) (.const (.int .i64 0)) 3) 4 s2 fun x3 s3 =>
 I.fin si K x3 s3
theorem x33 (I : Prims) (a0 : Value) (si : St) (K : Value → St → Prop) : Zbs I 6 k33 Tryd.f33 c33 [a0] si K = v33 I a0 si K := by kernel_rfl
theorem n33 [Memo] (ro : Nat) (a0 : Value) (si : St) (K : Value → St → Prop) : Zbr P ro 6 Tryd.f33 c33 [a0] si K = v33 (Zao P ro) a0 si K := Zap 6 P ro (x33 _ a0 si K)
theorem r33 (I : Prims) (si : St) (K : Value → St → Prop) (τ : Tau) (ds : List Deferred) (s : St) : Za5 I si Tryd.f33.results.toList K .ret τ [] ds s =
 (Zbh I ds s fun s0 =>
 I.fin si K (τ 2) s0) := by kernel_rfl
noncomputable def c34 : Code := Za7 Tryd.f34
def k34 : List (List Nat) := []
theorem b34 : BodyOk P 22 5 34 Tryd.f34 c34 := ⟨Tryd.func34, by kernel_rfl, by kernel_rfl, by kernel_rfl, by kernel_rfl, by kernel_rfl⟩
def v34 (I : Prims) (a0 a1 a2 a3 a4 : Value) (si : St) (K : Value → St → Prop) : Prop :=
 I.wop (.binOp .eql 3 (.const a4) (.const (.int .i64 0)) 3) 4 (ent si) fun x0 s0 =>
 wdec x0
 (I.fin si K a0 s0)
 (I.wop (.build 30 ⟨[(0, (.const a1)), (1, (.const a2)), (2, (.const a3)), (3, (.const a4))]⟩) 30 s0 fun x1 s1 =>
 I.wop (.buildSlice 24 1 ⟨[(0, (.const x1))]⟩) 24 s1 fun x2 s2 =>
 I.wop (.call ⟨.builtin .append, ⟨[(.const a0), (.const x2)]⟩, #[24, 24]⟩) 24 s2 fun x3 s3 =>
 I.fin si K x3 s3)
theorem x34 (I : Prims) (a0 a1 a2 a3 a4 : Value) (si : St) (K : Value → St → Prop) : Zbs I 22 k34 Tryd.f34 c34 [a0, a1, a2, a3, a4] si K = v34 I a0 a1 a2 a3 a4 si K := by kernel_rfl
theorem n34 [Memo] (ro : Nat) (a0 a1 a2 a3 a4 : Value) (si : St) (K : Value → St → Prop) : Zbr P ro 22 Tryd.f34 c34 [a0, a1, a2, a3, a4] si K = v34 (Zao P ro) a0 a1 a2 a3 a4 si K := Zap 22 P ro (x34 _ a0 a1 a2 a3 a4 si K)
noncomputable def c35 : Code := Za7 Tryd.f35
def k35 : List (List Nat) := []
theorem b35 : BodyOk P 11 2 35 Tryd.f35 c35 := ⟨Tryd.func35, by kernel_rfl, by kernel_rfl, by kernel_rfl, by kernel_rfl, by kernel_rfl⟩
def v35 (I : Prims) (a0 a1 : Value) (si : St) (K : Value → St → Prop) : Prop :=
 I.wop (.box 23 (.const a0)) 0 (ent si) fun x0 s0 =>
 I.wop (.fieldAddr 23 (.const x0) 3) 0 s0 fun x1 s1 =>
 I.wop (.load 3 (.const x1)) 3 s1 fun x2 s2 =>
 I.wop (.call ⟨.builtin .min, ⟨[(.const x2), (.const a1)]⟩, #[3, 3]⟩) 3 s2 fun x3 s3 =>
 I.wop (.convert 3 52 (.const x3)) 52 s3 fun x4 s4 =>
 I.wop (.binOp .shl 3 (.const (.int .i64 1)) (.const x4) 52) 3 s4 fun x5 s5 =>
 I.fin si K x5 s5
theorem x35 (I : Prims) (a0 a1 : Value) (si : St) (K : Value → St → Prop) : Zbs I 11 k35 Tryd.f35 c35 [a0, a1] si K = v35 I a0 a1 si K := by kernel_rfl
theorem n35 [Memo] (ro : Nat) (a0 a1 : Value) (si : St) (K : Value → St → Prop) : Zbr P ro 11 Tryd.f35 c35 [a0, a1] si K = v35 (Zao P ro) a0 a1 si K := Zap 11 P ro (x35 _ a0 a1 si K)
noncomputable def c36 : Code := Za7 Tryd.f36
def k36 : List (List Nat) := []
theorem b36 : BodyOk P 6 1 36 Tryd.f36 c36 := ⟨Tryd.func36, by kernel_rfl, by kernel_rfl, by kernel_rfl, by kernel_rfl, by kernel_rfl⟩
def v36 (I : Prims) (a0 : Value) (si : St) (K : Value → St → Prop) : Prop :=
 I.wop (.box 23 (.const a0)) 0 (ent si) fun x0 s0 =>
 I.wop (.fieldAddr 23 (.const x0) 1) 0 s0 fun x1 s1 =>
 I.wop (.load 3 (.const x1)) 3 s1 fun x2 s2 =>
 I.wop (.binOp .quo 3 (.const x2) (.const (.int .i64 3)) 3) 3 s2 fun x3 s3 =>
 I.fin si K x3 s3
theorem x36 (I : Prims) (a0 : Value) (si : St) (K : Value → St → Prop) : Zbs I 6 k36 Tryd.f36 c36 [a0] si K = v36 I a0 si K := by kernel_rfl
theorem n36 [Memo] (ro : Nat) (a0 : Value) (si : St) (K : Value → St → Prop) : Zbr P ro 6 Tryd.f36 c36 [a0] si K = v36 (Zao P ro) a0 si K := Zap 6 P ro (x36 _ a0 si K)
noncomputable def c37 : Code := Za7 Tryd.f37
def k37 : List (List Nat) := []
theorem b37 : BodyOk P 14 2 37 Tryd.f37 c37 := ⟨Tryd.func37, by kernel_rfl, by kernel_rfl, by kernel_rfl, by kernel_rfl, by kernel_rfl⟩
def v37 (I : Prims) (a0 a1 : Value) (si : St) (K : Value → St → Prop) : Prop :=
 I.wop (.box 23 (.const a0)) 0 (ent si) fun x0 s0 =>
 I.wop (.fieldAddr 23 (.const x0) 1) 0 s0 fun x1 s1 =>
 I.wop (.load 3 (.const x1)) 3 s1 fun x2 s2 =>
 I.wop (.fieldAddr 23 (.const x0) 2) 0 s2 fun x3 s3 =>
 I.wop (.load 3 (.const x3)) 3 s3 fun x4 s4 =>
 I.wop (.binOp .add 3 (.const x2) (.const x4) 3) 3 s4 fun x5 s5 =>
 I.wop (.binOp .add 3 (.const a1) (.const (.int .i64 1)) 3) 3 s5 fun x6 s6 =>
 I.wop (.binOp .mul 3 (.const (.int .i64 3)) (.const x6) 3) 3 s6 fun x7 s7 =>
 I.wop (.binOp .sub 3 (.const x5) (.const x7) 3) 3 s7 fun x8 s8 =>
 I.fin si K x8 s8
theorem x37 (I : Prims) (a0 a1 : Value) (si : St) (K : Value → St → Prop) : Zbs I 14 k37 Tryd.f37 c37 [a0, a1] si K = v37 I a0 a1 si K := by kernel_rfl
theorem n37 [Memo] (ro : Nat) (a0 a1 : Value) (si : St) (K : Value → St → Prop) : Zbr P ro 14 Tryd.f37 c37 [a0, a1] si K = v37 (Zao P ro) a0 a1 si K := Zap 14 P ro (x37 _ a0 a1 si K)
noncomputable def c38 : Code := Za7 Tryd.f38
def k38 : List (List Nat) := []
theorem b38 : BodyOk P 16 1 38 Tryd.f38 c38 := ⟨Tryd.func38, by kernel_rfl, by kernel_rfl, by kernel_rfl, by kernel_rfl, by kernel_rfl⟩
def v38 (I : Prims) (a0 : Value) (si : St) (K : Value → St → Prop) : Prop :=
 I.wop (.box 23 (.const a0)) 0 (ent si) fun x0 s0 =>
 I.wop (.alloc 71) 0 s0 fun x1 s1 =>
 I.wop (.fieldAddr 23 (.const x0) 5) 0 s1 fun x2 s2 =>
 I.wop (.load 3 (.const x2)) 3 s2 fun x3 s3 =>
 I.wop (.fieldAddr 23 (.const x0) 6) 0 s3 fun x4 s4 =>
 I.wop (.load 3 (.const x4)) 3 s4 fun x5 s5 =>
 I.wop (.fieldAddr 23 (.const x0) 7) 0 s5 fun x6 s6 =>
 I.wop (.load 3 (.const x6)) 3 s6 fun x7 s7 =>
 I.wop (.fieldAddr 23 (.const x0) 8) 0 s7 fun x8 s8 =>
 I.wop (.load 3 (.const x8)) 3 s8 fun x9 s9 =>
 I.wop (.fieldAddr 23 (.const x0) 6) 0 s9 fun x10 s10 =>
 I.wop (.load 3 (.const x10)) 3 s10 fun Zir s11 =>
 I.wop (.fieldAddr 23 (.const x0) 7) 0 s11 fun x12 s12 =>
 I.wop (.load 3 (.const x12)) 3 s12 fun x13 s13 =>
 I.wop (.build 71 ⟨[(0, (.const x3)), (1, (.const x5)), (2, (.const x7)), (3, (.const x9)), (4, (.const Zir)), (5, (.const x13))]⟩) 71 s13 fun x14 s14 =>
 I.wop (.store 71 (.const x1) (.const x14)) 0 s14 fun _ s15 =>
 I.wop (.load 71 (.const x1)) 71 s15 fun x16 _ =>
 I.fin si K x16 s15
theorem x38 (I : Prims) (a0 : Value) (si : St) (K : Value → St → Prop) : Zbs I 16 k38 Tryd.f38 c38 [a0] si K = v38 I a0 si K := by kernel_rfl
theorem n38 [Memo] (ro : Nat) (a0 : Value) (si : St) (K : Value → St → Prop) : Zbr P ro 16 Tryd.f38 c38 [a0] si K = v38 (Zao P ro) a0 si K := Zap 16 P ro (x38 _ a0 si K)
noncomputable def c39 : Code := Za7 Tryd.f39
def k39 : List (List Nat) := []
theorem b39 : BodyOk P 11 2 39 Tryd.f39 c39 := ⟨Tryd.func39, by kernel_rfl, by kernel_rfl, by kernel_rfl, by kernel_rfl, by kernel_rfl⟩
def v39 (I : Prims) (a0 a1 : Value) (si : St) (K : Value → St → Prop) : Prop :=
 I.wop (.box 23 (.const a0)) 0 (ent si) fun x0 s0 =>
 I.wop (.fieldAddr 23 (.const x0) 3) 0 s0 fun x1 s1 =>
 I.wop (.load 3 (.const x1)) 3 s1 fun x2 s2 =>
 I.wop (.call ⟨.builtin .min, ⟨[(.const x2), (.const a1)]⟩, #[3, 3]⟩) 3 s2 fun x3 s3 =>
 I.wop (.binOp .sub 3 (.const a1) (.const x3) 3) 3 s3 fun x4 s4 =>
 I.fin si K x4 s4
theorem x39 (I : Prims) (a0 a1 : Value) (si : St) (K : Value → St → Prop) : Zbs I 11 k39 Tryd.f39 c39 [a0, a1] si K = v39 I a0 a1 si K := by kernel_rfl
theorem n39 [Memo] (ro : Nat) (a0 a1 : Value) (si : St) (K : Value → St → Prop) : Zbr P ro 11 Tryd.f39 c39 [a0, a1] si K = v39 (Zao P ro) a0 a1 si K := Zap 11 P ro (x39 _ a0 a1 si K)
noncomputable def c40 : Code := Za7 Tryd.f40
def k40 : List (List Nat) := []
theorem b40 : BodyOk P 9 1 40 Tryd.f40 c40 := ⟨Tryd.func40, by kernel_rfl, by kernel_rfl, by kernel_rfl, by kernel_rfl, by kernel_rfl⟩
def v40 (I : Prims) (a0 : Value) (si : St) (K : Value → St → Prop) : Prop :=
 I.wop (.binOp .geq 3 (.const a0) (.const (.int .i64 0)) 3) 4 (ent si) fun x0 s0 =>
 wdec x0
 (I.wop (.binOp .lss 3 (.const a0) (.const (.int .i64 4)) 3) 4 s0 fun x1 s1 =>
 I.fin si K x1 s1)
 (I.fin si K (.bool false) s0)
theorem x40 (I : Prims) (a0 : Value) (si : St) (K : Value → St → Prop) : Zbs I 9 k40 Tryd.f40 c40 [a0] si K = v40 I a0 si K := by kernel_rfl
theorem n40 [Memo] (ro : Nat) (a0 : Value) (si : St) (K : Value → St → Prop) : Zbr P ro 9 Tryd.f40 c40 [a0] si K = v40 (Zao P ro) a0 si K := Zap 9 P ro (x40 _ a0 si K)
noncomputable def c41 : Code := Za7 Tryd.f41
def k41 : List (List Nat) := []
theorem b41 : BodyOk P 15 3 41 Tryd.f41 c41 := ⟨Tryd.func41, by kernel_rfl, by kernel_rfl, by kernel_rfl, by kernel_rfl, by kernel_rfl⟩
def v41 (I : Prims) (a0 a1 a2 : Value) (si : St) (K : Value → St → Prop) : Prop :=
 I.wop (.binOp .geq 3 (.const a0) (.const a1) 3) 4 (ent si) fun x0 s0 =>
 wdec x0
 (I.wop (.binOp .leq 3 (.const a0) (.const a2) 3) 4 s0 fun x1 s1 =>
 I.fin si K x1 s1)
 (I.fin si K (.bool false) s0)
theorem x41 (I : Prims) (a0 a1 a2 : Value) (si : St) (K : Value → St → Prop) : Zbs I 15 k41 Tryd.f41 c41 [a0, a1, a2] si K = v41 I a0 a1 a2 si K := by kernel_rfl
theorem n41 [Memo] (ro : Nat) (a0 a1 a2 : Value) (si : St) (K : Value → St → Prop) : Zbr P ro 15 Tryd.f41 c41 [a0, a1, a2] si K = v41 (Zao P ro) a0 a1 a2 si K := Zap 15 P ro (x41 _ a0 a1 a2 si K)
noncomputable def c42 : Code := Za7 Tryd.f42
def k42 : List (List Nat) := []
theorem b42 : BodyOk P 6 1 42 Tryd.f42 c42 := ⟨Tryd.func42, by kernel_rfl, by kernel_rfl, by kernel_rfl, by kernel_rfl, by kernel_rfl⟩
def v42 (I : Prims) (a0 : Value) (si : St) (K : Value → St → Prop) : Prop :=
 I.call 74 [a0] (ent si) fun x0 s0 =>
 I.wop (.field 107 (.const x0) 2) 3 s0 fun x1 s1 =>
 I.fin si K x1 s1
theorem x42 (I : Prims) (a0 : Value) (si : St) (K : Value → St → Prop) : Zbs I 6 k42 Tryd.f42 c42 [a0] si K = v42 I a0 si K := by kernel_rfl
theorem n42 [Memo] (ro : Nat) (a0 : Value) (si : St) (K : Value → St → Prop) : Zbr P ro 6 Tryd.f42 c42 [a0] si K = v42 (Zao P ro) a0 si K := Zap 6 P ro (x42 _ a0 si K)
noncomputable def c43 : Code := Za7 Tryd.f43
def k43 : List (List Nat) := []
theorem b43 : BodyOk P 15 3 43 Tryd.f43 c43 := ⟨Tryd.func43, by kernel_rfl, by kernel_rfl, by kernel_rfl, by kernel_rfl, by kernel_rfl⟩
def v43 (I : Prims) (a0 a1 a2 : Value) (si : St) (K : Value → St → Prop) : Prop :=
 I.wop (.binOp .geq 3 (.const a0) (.const a1) 3) 4 (ent si) fun x0 s0 =>
 wdec x0
 (I.wop (.binOp .leq 3 (.const a0) (.const a2) 3) 4 s0 fun x1 s1 =>
 I.fin si K x1 s1)
 (I.fin si K (.bool false) s0)
theorem x43 (I : Prims) (a0 a1 a2 : Value) (si : St) (K : Value → St → Prop) : Zbs I 15 k43 Tryd.f43 c43 [a0, a1, a2] si K = v43 I a0 a1 a2 si K := by kernel_rfl
theorem n43 [Memo] (ro : Nat) (a0 a1 a2 : Value) (si : St) (K : Value → St → Prop) : Zbr P ro 15 Tryd.f43 c43 [a0, a1, a2] si K = v43 (Zao P ro) a0 a1 a2 si K := Zap 15 P ro (x43 _ a0 a1 a2 si K)
noncomputable def c44 : Code := Za7 Tryd.f44
def k44 : List (List Nat) := []
theorem b44 : BodyOk P 9 1 44 Tryd.f44 c44 := ⟨Tryd.func44, by kernel_rfl, by kernel_rfl, by kernel_rfl, by kernel_rfl, by kernel_rfl⟩
def v44 (I : Prims) (a0 : Value) (si : St) (K : Value → St → Prop) : Prop :=
 I.wop (.binOp .geq 3 (.const a0) (.const (.int .i64 0)) 3) 4 (ent si) fun x0 s0 =>
 wdec x0
 (I.wop (.binOp .leq 3 (.const a0) (.const (.int .i64 3)) 3) 4 s0 fun x1 s1 =>
 I.fin si K x1 s1)
 (I.fin si K (.bool false) s0)
theorem x44 (I : Prims) (a0 : Value) (si : St) (K : Value → St → Prop) : Zbs I 9 k44 Tryd.f44 c44 [a0] si K = v44 I a0 si K := by kernel_rfl
theorem n44 [Memo] (ro : Nat) (a0 : Value) (si : St) (K : Value → St → Prop) : Zbr P ro 9 Tryd.f44 c44 [a0] si K = v44 (Zao P ro) a0 si K := Zap 9 P ro (x44 _ a0 si K)
noncomputable def c45 : Code := Za7 Tryd.f45
def k45 : List (List Nat) := []
theorem b45 : BodyOk P 12 1 45 Tryd.f45 c45 := ⟨Tryd.func45, by kernel_rfl, by kernel_rfl, by kernel_rfl, by kernel_rfl, by kernel_rfl⟩
def v45 (I : Prims) (a0 : Value) (si : St) (K : Value → St → Prop) : Prop :=
 I.wop (.binOp .eql 3 (.const a0) (.const (.int .i64 0)) 3) 4 (ent si) fun x0 s0 =>
 wdec x0
 (I.fin si K (.int .i64 5) s0)
 (I.wop (.binOp .eql 3 (.const a0) (.const (.int .i64 1)) 3) 4 s0 fun x1 s1 =>
 wdec x1
 (I.fin si K (.int .i64 8) s1)
 (I.wop (.binOp .eql 3 (.const a0) (.const (.int .i64 2)) 3) 4 s1 fun x2 s2 =>
 wdec x2
 (I.fin si K (.int .i64 12) s2)
 (I.wop (.binOp .eql 3 (.const a0) (.const (.int .i64 3)) 3) 4 s2 fun x3 s3 =>
 wdec x3
 (I.fin si K (.int .i64 23) s3)
 (I.fin si K (.int .i64 0) s3))))
theorem x45 (I : Prims) (a0 : Value) (si : St) (K : Value → St → Prop) : Zbs I 12 k45 Tryd.f45 c45 [a0] si K = v45 I a0 si K := by kernel_rfl
theorem n45 [Memo] (ro : Nat) (a0 : Value) (si : St) (K : Value → St → Prop) : Zbr P ro 12 Tryd.f45 c45 [a0] si K = v45 (Zao P ro) a0 si K := Zap 12 P ro (x45 _ a0 si K)
noncomputable def c46 : Code := Za7 Tryd.f46
noncomputable def Zi2 : Code := Za3 [1, 1, 0, 1, 0, 0] c46
def k46 : List (List Nat) := []
def Z5w : List (List Nat) := []
theorem Z5q : Zbd 28 Zi2 = true := by kernel_rfl
theorem Z5i : Zcc Zi2 = true := by kernel_rfl
theorem b46 : BodyOk P 28 1 46 Tryd.f46 c46 := ⟨Tryd.func46, by kernel_rfl, by kernel_rfl, by kernel_rfl, by kernel_rfl, by kernel_rfl⟩
def Zo3 (I : Prims) (rnd : Option Nat) (τ : Tau) (ds : List Deferred) (s : St) (Q : Ex → WK) : Prop :=
 I.wop (.binOp .lss 3 (.const (τ 15)) (.const (τ 14)) 3) 0 s fun x0 s0 =>
 wdec x0
 (I.wop (.fieldAddr 39 (.const (τ 3)) 7) 0 s0 fun x1 s1 =>
 I.wop (.load 37 (.const x1)) 37 s1 fun x2 s2 =>
 veq x2 x2 = true ∧ I.wop (.load 23 (.const (τ 1))) 23 s2 fun x3 s3 =>
 veq x3 x3 = true ∧ I.call 54 [x3] s3 fun x4 s4 =>
 Keeps [(1, .ptr x1)] s3 s4 ∧ I.wop (.makeSlice 57 (.const x4) (.const x4)) 57 s4 fun x5 s5 =>
 Zcm s4 s5 ∧ I.wop (.indexAddr 37 (.const x2) (.const (τ 15))) 0 s5 fun x6 s6 =>
 I.wop (.fieldAddr 59 (.const x6) 12) 0 s6 fun x7 s7 =>
 I.wop (.store 57 (.const x7) (.const x5)) 0 s7 fun _ s8 =>
 s7.n ≤ s8.n ∧ I.wop (.binOp .add 3 (.const (τ 15)) (.const (.int .i64 1)) 3) 3 s8 fun x9 s9 =>
 Q .normal (U τ [(15, x9), (26, x9), (25, x7), (24, x6), (23, x5), (22, x4), (21, x3), (20, (τ 15)), (19, x2), (18, x1), (4, (τ 15)), (17, (τ 15)), (16, (.bool true)), (16, x0)]) ds s9)
 (Q (.exit 0) (U τ [(16, (.bool false)), (16, x0)]) ds s0)
theorem Z4h (I : Prims) (rnd : Option Nat) (τ : Tau) (ds : List Deferred) (s : St) (Q : Ex → WK) : xp I rnd 28 Z5w Zi2 [] τ [] ds s (lift Q) = Zo3 I rnd τ ds s Q := by kernel_rfl
theorem Z5a [Memo] (ro : Nat) (rnd : Option Nat) (τ : Tau) (ds : List Deferred) (s : St) (Q : Ex → WK) : wp P ro 28 rnd Zi2 τ ds s Q = Zo3 (Zao P ro) rnd τ ds s Q := Zc8 rnd 28 P ro (Z4h _ rnd τ ds s Q)
def v46 (I : Prims) (a0 : Value) (si : St) (K : Value → St → Prop) : Prop :=
 I.wop (.box 23 (.const a0)) 0 (ent si) fun x0 s0 =>
 I.wop (.alloc 39) 0 s0 fun x1 s1 =>
 I.wop (.load 23 (.const x0)) 23 s1 fun x2 s2 =>
 veq x2 x2 = true ∧ I.wop (.fieldAddr 23 (.const x0) 4) 0 s2 fun x3 s3 =>
 I.wop (.load 3 (.const x3)) 3 s3 fun x4 s4 =>
 veq x4 x4 = true ∧ I.wop (.makeSlice 37 (.const x4) (.const x4)) 37 s4 fun x5 s5 =>
 Zcm s4 s5 ∧ I.wop (.alloc 39) 0 s5 fun x6 s6 =>
 Zcm s5 s6 ∧ I.call 54 [x2] s6 fun x7 s7 =>
 Keeps [(7, .blk s5.n), (5, .blk s4.n), (4, .ptr x3)] s6 s7 ∧ I.wop (.makeSlice 35 (.const x7) (.const x7)) 35 s7 fun x8 s8 =>
 Zcm s7 s8 ∧ I.wop (.build 39 ⟨[(4, (.const x8)), (7, (.const x5))]⟩) 39 s8 fun x9 s9 =>
 I.wop (.store 39 (.const x6) (.const x9)) 0 s9 fun _ s10 =>
 s9.n ≤ s10.n ∧ I.wop (.fieldAddr 39 (.const x6) 7) 0 s10 fun Zir s11 =>
 I.wop (.load 37 (.const Zir)) 37 s11 fun x12 s12 =>
 I.wop (.call ⟨.builtin .len, ⟨[(.const x12)]⟩, #[37]⟩) 3 s12 fun x13 s13 =>
 I.loop 28 none Zi2 (U Zb2 [(15, (.int .i64 0)), (14, x13), (13, x12), (12, Zir), (11, x9), (7, x8), (6, x7), (3, x6), (10, x5), (9, x4), (8, x3), (5, x2), (2, x1), (1, x0), (0, a0)]) [] s13 (fun τ ds s => ((Za5 I si Tryd.f46.results.toList K) .ret) τ [] ds s) [(0, fun τ14 ds14 s14 =>
 I.wop (.load 39 (.const (τ14 3))) 39 s14 fun x15 s15 =>
 I.wop (.store 39 (.const (τ14 2)) (.const x15)) 0 s15 fun _ s16 =>
 Zbh I ds14 s16 fun s17 =>
 I.wop (.load 39 (.const (τ14 2))) 39 s17 fun x18 _ =>
 I.fin si K x18 s17)]
theorem x46 (I : Prims) (a0 : Value) (si : St) (K : Value → St → Prop) : Zbs I 28 k46 Tryd.f46 c46 [a0] si K = v46 I a0 si K := by kernel_rfl
theorem n46 [Memo] (ro : Nat) (a0 : Value) (si : St) (K : Value → St → Prop) : Zbr P ro 28 Tryd.f46 c46 [a0] si K = v46 (Zao P ro) a0 si K := Zap 28 P ro (x46 _ a0 si K)
noncomputable def c47 : Code := Za7 Tryd.f47
def k47 : List (List Nat) := []
theorem b47 : BodyOk P 6 1 47 Tryd.f47 c47 := ⟨Tryd.func47, by kernel_rfl, by kernel_rfl, by kernel_rfl, by kernel_rfl, by kernel_rfl⟩
def v47 (I : Prims) (a0 : Value) (si : St) (K : Value → St → Prop) : Prop :=
 I.call 74 [a0] (ent si) fun x0 s0 =>
 I.wop (.field 107 (.const x0) 0) 34 s0 fun x1 s1 =>
 I.fin si K x1 s1
theorem x47 (I : Prims) (a0 : Value) (si : St) (K : Value → St → Prop) : Zbs I 6 k47 Tryd.f47 c47 [a0] si K = v47 I a0 si K := by kernel_rfl
theorem n47 [Memo] (ro : Nat) (a0 : Value) (si : St) (K : Value → St → Prop) : Zbr P ro 6 Tryd.f47 c47 [a0] si K = v47 (Zao P ro) a0 si K := Zap 6 P ro (x47 _ a0 si K)
noncomputable def c48 : Code := Za7 Tryd.f48
def k48 : List (List Nat) := []
theorem b48 : BodyOk P 2 0 48 Tryd.f48 c48 := ⟨Tryd.func48, by kernel_rfl, by kernel_rfl, by kernel_rfl, by kernel_rfl, by kernel_rfl⟩
def v48 (I : Prims) (si : St) (K : Value → St → Prop) : Prop :=
 I.wop (.buildSlice 84 12 ⟨[(1, (.const (.func (.func 75) (.mk []) (.mk [])))), (2, (.const (.func (.func 76) (.mk []) (.mk [])))), (3, (.const (.func (.func 77) (.mk []) (.mk [])))), (4, (.const (.func (.func 78) (.mk []) (.mk [])))), (5, (.const (.func (.func 79) (.mk []) (.mk [])))), (6, (.const (.func (.func 80) (.mk []) (.mk [])))), (7, (.const (.func (.func 81) (.mk []) (.mk [])))), (8, (.const (.func (.func 82) (.mk []) (.mk [])))), (9, (.const (.func (.func 83) (.mk []) (.mk [])))), (10, (.const (.func (.func 84) (.mk []) (.mk [])))), (11, (.const (.func (.func 85) (.mk []) (.mk []))))]⟩) 84 (ent si) fun x0 s0 =>
 I.fin si K x0 s0
theorem x48 (I : Prims) (si : St) (K : Value → St → Prop) : Zbs I 2 k48 Tryd.f48 c48 [] si K = v48 I si K := by kernel_rfl
theorem n48 [Memo] (ro : Nat) (si : St) (K : Value → St → Prop) : Zbr P ro 2 Tryd.f48 c48 [] si K = v48 (Zao P ro) si K := Zap 2 P ro (x48 _ si K)
noncomputable def c49 : Code := Za7 Tryd.f49
noncomputable def Zc5 : Code := Za3 [1, 0, 1, 1, 1, 1, 1, 1, 1, 1, 0, 0] c49
noncomputable def Zc4 : Code := Za3 [1, 0, 1, 1, 1, 1, 1, 1, 1, 1, 0, 1] c49
def k49 : List (List Nat) := []
def Zq4 : List (List Nat) := []
theorem Zq1 : Zbd 51 Zc5 = true := by kernel_rfl
def Zq3 : List (List Nat) := []
theorem Zq0 : Zbd 51 Zc4 = true := by kernel_rfl
theorem b49 : BodyOk P 51 2 49 Tryd.f49 c49 := ⟨Tryd.func49, by kernel_rfl, by kernel_rfl, by kernel_rfl, by kernel_rfl, by kernel_rfl⟩
def Zgj (I : Prims) (rnd : Option Nat) (τ : Tau) (ds : List Deferred) (s : St) (Q : Ex → WK) : Prop :=
 Q .normal (U τ [(4, (τ 10))]) ds s
theorem Zqn (I : Prims) (rnd : Option Nat) (τ : Tau) (ds : List Deferred) (s : St) (Q : Ex → WK) : xp I rnd 51 Zq4 Zc5 [] τ [] ds s (lift Q) = Zgj I rnd τ ds s Q := by kernel_rfl
theorem Zqx [Memo] (ro : Nat) (rnd : Option Nat) (τ : Tau) (ds : List Deferred) (s : St) (Q : Ex → WK) : wp P ro 51 rnd Zc5 τ ds s Q = Zgj (Zao P ro) rnd τ ds s Q := Zc8 rnd 51 P ro (Zqn _ rnd τ ds s Q)
def Zgi (I : Prims) (rnd : Option Nat) (τ : Tau) (ds : List Deferred) (s : St) (Q : Ex → WK) : Prop :=
 I.wop (.fieldAddr 82 (.const (τ 2)) 1) 0 s fun x0 s0 =>
 I.wop (.load 78 (.const x0)) 78 s0 fun x1 s1 =>
 veq x1 x1 = true ∧ I.wop (.fieldAddr 82 (.const (τ 2)) 1) 0 s1 fun x2 s2 =>
 I.wop (.load 78 (.const x2)) 78 s2 fun x3 s3 =>
 veq x3 x3 = true ∧ I.wop (.nilCheck (.const x3)) 0 s3 fun x4 s4 =>
 I.wop (.load 33 (.const x4)) 33 s4 fun x5 s5 =>
 veq x5 x5 = true ∧ I.wop (.sliceToArrayPointer 55 (.const (τ 4))) 0 s5 fun x6 s6 =>
 I.wop (.load 55 (.const x6)) 55 s6 fun x7 s7 =>
 veq x7 x7 = true ∧ I.wop (.buildSlice 33 1 ⟨[(0, (.const x7))]⟩) 33 s7 fun x8 s8 =>
 Zcm s7 s8 ∧ I.wop (.call ⟨.builtin .append, ⟨[(.const x5), (.const x8)]⟩, #[33, 33]⟩) 33 s8 fun x9 s9 =>
 Keeps [(1, .ptr x0)] s8 s9 ∧ I.wop (.nilCheck (.const x1)) 0 s9 fun x10 s10 =>
 I.wop (.store 33 (.const x10) (.const x9)) 0 s10 fun _ s11 =>
 s10.n ≤ s11.n ∧ Q .normal (U τ [(22, x10), (21, x9), (20, x8), (19, x7), (18, x6), (17, (τ 4)), (16, x5), (15, x4), (14, x3), (13, x2), (12, x1), (11, x0)]) ds s11
theorem Zqm (I : Prims) (rnd : Option Nat) (τ : Tau) (ds : List Deferred) (s : St) (Q : Ex → WK) : xp I rnd 51 Zq3 Zc4 [] τ [] ds s (lift Q) = Zgi I rnd τ ds s Q := by kernel_rfl
theorem Zqw [Memo] (ro : Nat) (rnd : Option Nat) (τ : Tau) (ds : List Deferred) (s : St) (Q : Ex → WK) : wp P ro 51 rnd Zc4 τ ds s Q = Zgi (Zao P ro) rnd τ ds s Q := Zc8 rnd 51 P ro (Zqm _ rnd τ ds s Q)
def v49 (I : Prims) (a0 a1 : Value) (si : St) (K : Value → St → Prop) : Prop :=
 I.wop (.box 82 (.const a0)) 0 (ent si) fun x0 s0 =>
 I.wop (.fieldAddr 82 (.const x0) 0) 0 s0 fun x1 s1 =>
 I.wop (.load 77 (.const x1)) 77 s1 fun x2 s2 =>
 I.wop (.binOp .neq 77 (.const x2) (.const (.pointer none)) 77) 4 s2 fun x3 s3 =>
 wdec x3
 (I.wop (.fieldAddr 82 (.const x0) 0) 0 s3 fun x4 s4 =>
 I.wop (.load 77 (.const x4)) 77 s4 fun x5 s5 =>
 I.wop (.nilCheck (.const x5)) 0 s5 fun x6 s6 =>
 I.wop (.store 36 (.const x6) (.const a1)) 0 s6 fun _ s7 =>
 I.fin si K (.tuple (.mk [])) s7)
 (I.wop (.fieldAddr 82 (.const x0) 2) 0 s3 fun x8 s8 =>
 I.wop (.load 79 (.const x8)) 79 s8 fun x9 s9 =>
 I.wop (.binOp .neq 79 (.const x9) (.const (.pointer none)) 79) 4 s9 fun x10 s10 =>
 wdec x10
 (I.wop (.fieldAddr 82 (.const x0) 2) 0 s10 fun x11 s11 =>
 I.wop (.load 79 (.const x11)) 79 s11 fun x12 s12 =>
 veq x12 x12 = true ∧ I.wop (.indexAddr 36 (.const a1) (.const (.int .i64 0))) 0 s12 fun x13 s13 =>
 I.wop (.load 34 (.const x13)) 34 s13 fun x14 s14 =>
 veq x14 x14 = true ∧ I.wop (.nilCheck (.const x12)) 0 s14 fun x15 s15 =>
 I.wop (.store 34 (.const x15) (.const x14)) 0 s15 fun _ s16 =>
 I.fin si K (.tuple (.mk [])) s16)
 (I.wop (.fieldAddr 82 (.const x0) 3) 0 s10 fun x17 s17 =>
 I.wop (.load 80 (.const x17)) 80 s17 fun x18 s18 =>
 I.wop (.binOp .neq 80 (.const x18) (.const (.pointer none)) 80) 4 s18 fun x19 s19 =>
 wdec x19
 (I.wop (.fieldAddr 82 (.const x0) 3) 0 s19 fun x20 s20 =>
 I.wop (.load 80 (.const x20)) 80 s20 fun x21 s21 =>
 I.wop (.nilCheck (.const x21)) 80 s21 fun x22 s22 =>
 I.wop (.slice 112 (.const x22) none none none) 36 s22 fun x23 s23 =>
 I.wop (.call ⟨.builtin .copy, ⟨[(.const x23), (.const a1)]⟩, #[36, 36]⟩) 3 s23 fun _ s24 =>
 I.fin si K (.tuple (.mk [])) s24)
 (I.wop (.fieldAddr 82 (.const x0) 1) 0 s19 fun x25 s25 =>
 I.wop (.load 78 (.const x25)) 78 s25 fun x26 s26 =>
 I.wop (.nilCheck (.const x26)) 0 s26 fun x27 s27 =>
 I.wop (.store 33 (.const x27) (.const (.slice none 0 0))) 0 s27 fun _ s28 =>
 I.call 86 [a1, (.int .i64 2)] s28 fun x29 s29 =>
 I.range 51 none x29 #[10] Zc5 Zc4 (U Zb2 [(9, x29), (8, a1), (7, x27), (6, x26), (5, x25), (41, (.bool false)), (41, x19), (44, x19), (43, x18), (42, x17), (31, (.bool false)), (31, x10), (34, x10), (33, x9), (32, x8), (23, (.bool false)), (23, x3), (26, x3), (25, x2), (24, x1), (2, x0), (0, a0), (1, a1)]) [] s29 (fun _ ds30 s30 =>
 Zbh I ds30 s30 fun s31 =>
 I.fin si K (.tuple (.mk [])) s31) (fun τ ds s => ((Za5 I si Tryd.f49.results.toList K) .ret) τ [] ds s) [])))
theorem x49 (I : Prims) (a0 a1 : Value) (si : St) (K : Value → St → Prop) : Zbs I 51 k49 Tryd.f49 c49 [a0, a1] si K = v49 I a0 a1 si K := by kernel_rfl
theorem n49 [Memo] (ro : Nat) (a0 a1 : Value) (si : St) (K : Value → St → Prop) : Zbr P ro 51 Tryd.f49 c49 [a0, a1] si K = v49 (Zao P ro) a0 a1 si K := Zap 51 P ro (x49 _ a0 a1 si K)
noncomputable def c50 : Code := Za7 Tryd.f50
def k50 : List (List Nat) := []
theorem b50 : BodyOk P 64 3 50 Tryd.f50 c50 := ⟨Tryd.func50, by kernel_rfl, by kernel_rfl, by kernel_rfl, by kernel_rfl, by kernel_rfl⟩
def v50 (I : Prims) (a0 a1 a2 : Value) (si : St) (K : Value → St → Prop) : Prop :=
 I.wop (.box 39 (.const a0)) 0 (ent si) fun x0 s0 =>
 I.wop (.box 30 (.const a1)) 0 s0 fun x1 s1 =>
 I.wop (.alloc 39) 0 s1 fun x2 s2 =>
 I.wop (.fieldAddr 30 (.const x1) 0) 0 s2 fun x3 s3 =>
 I.wop (.load 28 (.const x3)) 28 s3 fun x4 s4 =>
 I.wop (.binOp .eql 28 (.const x4) (.const (.int .u8 1)) 28) 4 s4 fun x5 s5 =>
 wdec x5
 (I.call 87 [a2] s5 fun x6 s6 =>
 I.wop (.fieldAddr 39 (.const x0) 0) 0 s6 fun x7 s7 =>
 I.wop (.store 33 (.const x7) (.const x6)) 0 s7 fun _ s8 =>
 I.wop (.load 39 (.const x0)) 39 s8 fun x9 s9 =>
 I.wop (.store 39 (.const x2) (.const x9)) 0 s9 fun _ s10 =>
 I.wop (.load 39 (.const x2)) 39 s10 fun x11 _ =>
 I.fin si K x11 s10)
 (I.wop (.binOp .eql 28 (.const x4) (.const (.int .u8 2)) 28) 4 s5 fun x12 s12 =>
 wdec x12
 (I.wop (.indexAddr 36 (.const a2) (.const (.int .i64 0))) 0 s12 fun x13 s13 =>
 I.wop (.load 34 (.const x13)) 34 s13 fun x14 s14 =>
 I.wop (.fieldAddr 39 (.const x0) 3) 0 s14 fun x15 s15 =>
 I.wop (.store 34 (.const x15) (.const x14)) 0 s15 fun _ s16 =>
 I.wop (.load 39 (.const x0)) 39 s16 fun x17 s17 =>
 I.wop (.store 39 (.const x2) (.const x17)) 0 s17 fun _ s18 =>
 I.wop (.load 39 (.const x2)) 39 s18 fun x19 _ =>
 I.fin si K x19 s18)
 (I.wop (.binOp .eql 28 (.const x4) (.const (.int .u8 3)) 28) 4 s12 fun x20 s20 =>
 wdec x20
 (I.call 87 [a2] s20 fun x21 s21 =>
 I.wop (.fieldAddr 39 (.const x0) 1) 0 s21 fun x22 s22 =>
 I.wop (.store 33 (.const x22) (.const x21)) 0 s22 fun _ s23 =>
 I.wop (.load 39 (.const x0)) 39 s23 fun x24 s24 =>
 I.wop (.store 39 (.const x2) (.const x24)) 0 s24 fun _ s25 =>
 I.wop (.load 39 (.const x2)) 39 s25 fun x26 _ =>
 I.fin si K x26 s25)
 (I.wop (.binOp .eql 28 (.const x4) (.const (.int .u8 4)) 28) 4 s20 fun x27 s27 =>
 wdec x27
 (I.call 87 [a2] s27 fun x28 s28 =>
 I.wop (.fieldAddr 39 (.const x0) 2) 0 s28 fun x29 s29 =>
 I.wop (.store 33 (.const x29) (.const x28)) 0 s29 fun _ s30 =>
 I.wop (.load 39 (.const x0)) 39 s30 fun x31 s31 =>
 I.wop (.store 39 (.const x2) (.const x31)) 0 s31 fun _ s32 =>
 I.wop (.load 39 (.const x2)) 39 s32 fun x33 _ =>
 I.fin si K x33 s32)
 (I.wop (.binOp .eql 28 (.const x4) (.const (.int .u8 5)) 28) 4 s27 fun x34 s34 =>
 wdec x34
 (I.wop (.fieldAddr 39 (.const x0) 4) 0 s34 fun x35 s35 =>
 I.wop (.load 35 (.const x35)) 35 s35 fun x36 s36 =>
 veq x36 x36 = true ∧ I.wop (.fieldAddr 30 (.const x1) 2) 0 s36 fun x37 s37 =>
 I.wop (.load 3 (.const x37)) 3 s37 fun x38 s38 =>
 veq x38 x38 = true ∧ I.call 87 [a2] s38 fun x39 s39 =>
 Keeps [(3, .ptr x37), (1, .ptr x35)] s38 s39 ∧ I.wop (.indexAddr 35 (.const x36) (.const x38)) 0 s39 fun x40 s40 =>
 I.wop (.store 33 (.const x40) (.const x39)) 0 s40 fun _ s41 =>
 I.wop (.load 39 (.const x0)) 39 s41 fun x42 s42 =>
 I.wop (.store 39 (.const x2) (.const x42)) 0 s42 fun _ s43 =>
 I.wop (.load 39 (.const x2)) 39 s43 fun x44 _ =>
 I.fin si K x44 s43)
 (I.wop (.binOp .eql 28 (.const x4) (.const (.int .u8 6)) 28) 4 s34 fun x45 s45 =>
 wdec x45
 (I.wop (.fieldAddr 39 (.const x0) 5) 0 s45 fun x46 s46 =>
 I.wop (.store 36 (.const x46) (.const a2)) 0 s46 fun _ s47 =>
 I.wop (.load 39 (.const x0)) 39 s47 fun x48 s48 =>
 I.wop (.store 39 (.const x2) (.const x48)) 0 s48 fun _ s49 =>
 I.wop (.load 39 (.const x2)) 39 s49 fun x50 _ =>
 I.fin si K x50 s49)
 (I.wop (.binOp .eql 28 (.const x4) (.const (.int .u8 7)) 28) 4 s45 fun x51 s51 =>
 wdec x51
 (I.wop (.indexAddr 36 (.const a2) (.const (.int .i64 0))) 0 s51 fun x52 s52 =>
 I.wop (.load 34 (.const x52)) 34 s52 fun x53 s53 =>
 I.wop (.fieldAddr 39 (.const x0) 6) 0 s53 fun x54 s54 =>
 I.wop (.store 34 (.const x54) (.const x53)) 0 s54 fun _ s55 =>
 I.wop (.load 39 (.const x0)) 39 s55 fun x56 s56 =>
 I.wop (.store 39 (.const x2) (.const x56)) 0 s56 fun _ s57 =>
 I.wop (.load 39 (.const x2)) 39 s57 fun x58 _ =>
 I.fin si K x58 s57)
 (I.wop (.fieldAddr 39 (.const x0) 7) 0 s51 fun x59 s59 =>
 I.wop (.load 37 (.const x59)) 37 s59 fun x60 s60 =>
 veq x60 x60 = true ∧ I.wop (.fieldAddr 30 (.const x1) 1) 0 s60 fun x61 s61 =>
 I.wop (.load 3 (.const x61)) 3 s61 fun x62 s62 =>
 veq x62 x62 = true ∧ I.wop (.fieldAddr 39 (.const x0) 7) 0 s62 fun x63 s63 =>
 I.wop (.load 37 (.const x63)) 37 s63 fun x64 s64 =>
 veq x64 x64 = true ∧ I.wop (.fieldAddr 30 (.const x1) 1) 0 s64 fun x65 s65 =>
 I.wop (.load 3 (.const x65)) 3 s65 fun x66 s66 =>
 veq x66 x66 = true ∧ I.wop (.indexAddr 37 (.const x64) (.const x66)) 0 s66 fun x67 s67 =>
 I.wop (.load 59 (.const x67)) 59 s67 fun x68 s68 =>
 veq x68 x68 = true ∧ I.wop (.load 30 (.const x1)) 30 s68 fun x69 s69 =>
 veq x69 x69 = true ∧ I.call 88 [x68, x69, a2] s69 fun x70 s70 =>
 Keeps [(3, .ptr x61), (1, .ptr x59)] s69 s70 ∧ I.wop (.indexAddr 37 (.const x60) (.const x62)) 0 s70 fun x71 s71 =>
 I.wop (.store 59 (.const x71) (.const x70)) 0 s71 fun _ s72 =>
 I.wop (.load 39 (.const x0)) 39 s72 fun x73 s73 =>
 I.wop (.store 39 (.const x2) (.const x73)) 0 s73 fun _ s74 =>
 I.wop (.load 39 (.const x2)) 39 s74 fun x75 _ =>
 I.fin si K x75 s74)))))))
theorem x50 (I : Prims) (a0 a1 a2 : Value) (si : St) (K : Value → St → Prop) : Zbs I 64 k50 Tryd.f50 c50 [a0, a1, a2] si K = v50 I a0 a1 a2 si K := by kernel_rfl
theorem n50 [Memo] (ro : Nat) (a0 a1 a2 : Value) (si : St) (K : Value → St → Prop) : Zbr P ro 64 Tryd.f50 c50 [a0, a1, a2] si K = v50 (Zao P ro) a0 a1 a2 si K := Zap 64 P ro (x50 _ a0 a1 a2 si K)
noncomputable def c51 : Code := Za7 Tryd.f51
noncomputable def Zi1 : Code := Za3 [1, 1, 0, 1, 0, 0] c51
def k51 : List (List Nat) := []
def Z5v : List (List Nat) := []
theorem Z5p : Zbd 26 Zi1 = true := by kernel_rfl
theorem Z5h : Zcc Zi1 = true := by kernel_rfl
theorem b51 : BodyOk P 26 2 51 Tryd.f51 c51 := ⟨Tryd.func51, by kernel_rfl, by kernel_rfl, by kernel_rfl, by kernel_rfl, by kernel_rfl⟩
def Zo2 (I : Prims) (rnd : Option Nat) (τ : Tau) (ds : List Deferred) (s : St) (Q : Ex → WK) : Prop :=
 I.wop (.call ⟨.builtin .len, ⟨[(.const (τ 0))]⟩, #[33]⟩) 3 s fun x0 s0 =>
 I.wop (.binOp .lss 3 (.const (τ 5)) (.const x0) 3) 4 s0 fun x1 s1 =>
 wdec x1
 (I.wop (.indexAddr 33 (.const (τ 0)) (.const (τ 5))) 0 s1 fun x2 s2 =>
 I.wop (.load 55 (.const x2)) 55 s2 fun x3 s3 =>
 I.wop (.indexAddr 33 (.const (τ 1)) (.const (τ 5))) 0 s3 fun x4 s4 =>
 I.wop (.load 55 (.const x4)) 55 s4 fun x5 s5 =>
 I.wop (.binOp .neq 55 (.const x3) (.const x5) 55) 4 s5 fun x6 s6 =>
 wdec x6
 (Q .ret (U τ [(4, (.bool false)), (25, (.bool true)), (25, x6), (24, x5), (23, x4), (22, (τ 5)), (21, (τ 1)), (20, x3), (19, x2), (18, (τ 5)), (17, (τ 0)), (14, (.bool true)), (14, x1), (13, x0), (12, (τ 0)), (11, (τ 5))]) ds s6)
 (I.wop (.binOp .add 3 (.const (τ 5)) (.const (.int .i64 1)) 3) 3 s6 fun x7 s7 =>
 Q .normal (U τ [(5, x7), (16, x7), (15, (τ 5)), (25, (.bool false)), (25, x6), (24, x5), (23, x4), (22, (τ 5)), (21, (τ 1)), (20, x3), (19, x2), (18, (τ 5)), (17, (τ 0)), (14, (.bool true)), (14, x1), (13, x0), (12, (τ 0)), (11, (τ 5))]) ds s7))
 (Q (.exit 0) (U τ [(14, (.bool false)), (14, x1), (13, x0), (12, (τ 0)), (11, (τ 5))]) ds s1)
theorem Z4g (I : Prims) (rnd : Option Nat) (τ : Tau) (ds : List Deferred) (s : St) (Q : Ex → WK) : xp I rnd 26 Z5v Zi1 [] τ [] ds s (lift Q) = Zo2 I rnd τ ds s Q := by kernel_rfl
theorem Z49 [Memo] (ro : Nat) (rnd : Option Nat) (τ : Tau) (ds : List Deferred) (s : St) (Q : Ex → WK) : wp P ro 26 rnd Zi1 τ ds s Q = Zo2 (Zao P ro) rnd τ ds s Q := Zc8 rnd 26 P ro (Z4g _ rnd τ ds s Q)
def v51 (I : Prims) (a0 a1 : Value) (si : St) (K : Value → St → Prop) : Prop :=
 I.wop (.call ⟨.builtin .len, ⟨[(.const a0)]⟩, #[33]⟩) 3 (ent si) fun x0 s0 =>
 I.wop (.call ⟨.builtin .len, ⟨[(.const a1)]⟩, #[33]⟩) 3 s0 fun x1 s1 =>
 I.wop (.binOp .neq 3 (.const x0) (.const x1) 3) 4 s1 fun x2 s2 =>
 wdec x2
 (I.fin si K (.bool false) s2)
 (I.loop 26 none Zi1 (U Zb2 [(5, (.int .i64 0)), (10, (.bool false)), (10, x2), (9, x1), (8, a1), (7, x0), (6, a0), (4, (.bool false)), (0, a0), (1, a1)]) [] s2 (fun τ ds s => ((Za5 I si Tryd.f51.results.toList K) .ret) τ [] ds s) [(0, fun _ ds3 s3 =>
 Zbh I ds3 s3 fun s4 =>
 I.fin si K (.bool true) s4)])
theorem x51 (I : Prims) (a0 a1 : Value) (si : St) (K : Value → St → Prop) : Zbs I 26 k51 Tryd.f51 c51 [a0, a1] si K = v51 I a0 a1 si K := by kernel_rfl
theorem n51 [Memo] (ro : Nat) (a0 a1 : Value) (si : St) (K : Value → St → Prop) : Zbr P ro 26 Tryd.f51 c51 [a0, a1] si K = v51 (Zao P ro) a0 a1 si K := Zap 26 P ro (x51 _ a0 a1 si K)
theorem r51 (I : Prims) (si : St) (K : Value → St → Prop) (τ : Tau) (ds : List Deferred) (s : St) : Za5 I si Tryd.f51.results.toList K .ret τ [] ds s =
 (Zbh I ds s fun s0 =>
 I.fin si K (τ 4) s0) := by kernel_rfl
noncomputable def c52 : Code := Za7 Tryd.f52
noncomputable def Zi0 : Code := Za3 [1, 1, 0, 1, 0, 0] c52
def k52 : List (List Nat) := []
def Z5u : List (List Nat) := []
theorem Z5o : Zbd 26 Zi0 = true := by kernel_rfl
theorem Z5g : Zcc Zi0 = true := by kernel_rfl
theorem b52 : BodyOk P 26 2 52 Tryd.f52 c52 := ⟨Tryd.func52, by kernel_rfl, by kernel_rfl, by kernel_rfl, by kernel_rfl, by kernel_rfl⟩
def Zo1 (I : Prims) (rnd : Option Nat) (τ : Tau) (ds : List Deferred) (s : St) (Q : Ex → WK) : Prop :=
 I.wop (.call ⟨.builtin .len, ⟨[(.const (τ 0))]⟩, #[36]⟩) 3 s fun x0 s0 =>
 I.wop (.binOp .lss 3 (.const (τ 5)) (.const x0) 3) 4 s0 fun x1 s1 =>
 wdec x1
 (I.wop (.indexAddr 36 (.const (τ 0)) (.const (τ 5))) 0 s1 fun x2 s2 =>
 I.wop (.load 34 (.const x2)) 34 s2 fun x3 s3 =>
 I.wop (.indexAddr 36 (.const (τ 1)) (.const (τ 5))) 0 s3 fun x4 s4 =>
 I.wop (.load 34 (.const x4)) 34 s4 fun x5 s5 =>
 I.wop (.binOp .neq 34 (.const x3) (.const x5) 34) 4 s5 fun x6 s6 =>
 wdec x6
 (Q .ret (U τ [(4, (.bool false)), (25, (.bool true)), (25, x6), (24, x5), (23, x4), (22, (τ 5)), (21, (τ 1)), (20, x3), (19, x2), (18, (τ 5)), (17, (τ 0)), (14, (.bool true)), (14, x1), (13, x0), (12, (τ 0)), (11, (τ 5))]) ds s6)
 (I.wop (.binOp .add 3 (.const (τ 5)) (.const (.int .i64 1)) 3) 3 s6 fun x7 s7 =>
 Q .normal (U τ [(5, x7), (16, x7), (15, (τ 5)), (25, (.bool false)), (25, x6), (24, x5), (23, x4), (22, (τ 5)), (21, (τ 1)), (20, x3), (19, x2), (18, (τ 5)), (17, (τ 0)), (14, (.bool true)), (14, x1), (13, x0), (12, (τ 0)), (11, (τ 5))]) ds s7))
 (Q (.exit 0) (U τ [(14, (.bool false)), (14, x1), (13, x0), (12, (τ 0)), (11, (τ 5))]) ds s1)
theorem Z4f (I : Prims) (rnd : Option Nat) (τ : Tau) (ds : List Deferred) (s : St) (Q : Ex → WK) : xp I rnd 26 Z5u Zi0 [] τ [] ds s (lift Q) = Zo1 I rnd τ ds s Q := by kernel_rfl
theorem Z48 [Memo] (ro : Nat) (rnd : Option Nat) (τ : Tau) (ds : List Deferred) (s : St) (Q : Ex → WK) : wp P ro 26 rnd Zi0 τ ds s Q = Zo1 (Zao P ro) rnd τ ds s Q := Zc8 rnd 26 P ro (Z4f _ rnd τ ds s Q)
def v52 (I : Prims) (a0 a1 : Value) (si : St) (K : Value → St → Prop) : Prop :=
 I.wop (.call ⟨.builtin .len, ⟨[(.const a0)]⟩, #[36]⟩) 3 (ent si) fun x0 s0 =>
 I.wop (.call ⟨.builtin .len, ⟨[(.const a1)]⟩, #[36]⟩) 3 s0 fun x1 s1 =>
 I.wop (.binOp .neq 3 (.const x0) (.const x1) 3) 4 s1 fun x2 s2 =>
 wdec x2
 (I.fin si K (.bool false) s2)
 (I.loop 26 none Zi0 (U Zb2 [(5, (.int .i64 0)), (10, (.bool false)), (10, x2), (9, x1), (8, a1), (7, x0), (6, a0), (4, (.bool false)), (0, a0), (1, a1)]) [] s2 (fun τ ds s => ((Za5 I si Tryd.f52.results.toList K) .ret) τ [] ds s) [(0, fun _ ds3 s3 =>
 Zbh I ds3 s3 fun s4 =>
 I.fin si K (.bool true) s4)])
theorem x52 (I : Prims) (a0 a1 : Value) (si : St) (K : Value → St → Prop) : Zbs I 26 k52 Tryd.f52 c52 [a0, a1] si K = v52 I a0 a1 si K := by kernel_rfl
theorem n52 [Memo] (ro : Nat) (a0 a1 : Value) (si : St) (K : Value → St → Prop) : Zbr P ro 26 Tryd.f52 c52 [a0, a1] si K = v52 (Zao P ro) a0 a1 si K := Zap 26 P ro (x52 _ a0 a1 si K)
theorem r52 (I : Prims) (si : St) (K : Value → St → Prop) (τ : Tau) (ds : List Deferred) (s : St) : Za5 I si Tryd.f52.results.toList K .ret τ [] ds s =
 (Zbh I ds s fun s0 =>
 I.fin si K (τ 4) s0) := by kernel_rfl
noncomputable def c53 : Code := Za7 Tryd.f53
noncomputable def Zfw : Code := Za3 [1, 1, 1, 0, 1, 0, 0] c53
noncomputable def Zeh : Code := Za3 [1, 1, 1, 1, 1, 0, 1, 0, 0] c53
def k53 : List (List Nat) := []
def Z1f : List (List Nat) := []
theorem Z06 : Zbd 84 Zfw = true := by kernel_rfl
theorem Z0z : Zcc Zfw = true := by kernel_rfl
def Zvx : List (List Nat) := []
theorem Zvv : Zbd 84 Zeh = true := by kernel_rfl
theorem Zvu : Zcc Zeh = true := by kernel_rfl
theorem b53 : BodyOk P 84 2 53 Tryd.f53 c53 := ⟨Tryd.func53, by kernel_rfl, by kernel_rfl, by kernel_rfl, by kernel_rfl, by kernel_rfl⟩
def Znd (I : Prims) (rnd : Option Nat) (τ : Tau) (ds : List Deferred) (s : St) (Q : Ex → WK) : Prop :=
 I.wop (.binOp .lss 3 (.const (τ 9)) (.const (.int .i64 6)) 3) 4 s fun x0 s0 =>
 wdec x0
 (I.wop (.indexAddr 120 (.const (τ 5)) (.const (τ 9))) 0 s0 fun x1 s1 =>
 I.wop (.load 36 (.const x1)) 36 s1 fun x2 s2 =>
 veq x2 x2 = true ∧ I.wop (.indexAddr 120 (.const (τ 6)) (.const (τ 9))) 0 s2 fun x3 s3 =>
 I.wop (.load 36 (.const x3)) 36 s3 fun x4 s4 =>
 veq x4 x4 = true ∧ I.call 52 [x2, x4] s4 fun x5 s5 =>
 I.wop (.unOp .not 4 (.const x5)) 4 s5 fun x6 s6 =>
 wdec x6
 (Q .ret (U τ [(4, (.bool false)), (40, (.bool true)), (40, (.bool true)), (31, (.bool true)), (39, undef), (31, (.bool true)), (38, undef), (31, (.bool true)), (37, undef), (31, (.bool true)), (36, undef), (31, (.bool true)), (35, undef), (31, (.bool true)), (34, undef), (31, (.bool true)), (33, undef), (31, (.bool true)), (32, undef), (31, (.bool true)), (31, x6), (30, x6), (29, x5), (28, x4), (27, x3), (26, (τ 9)), (25, x2), (24, x1), (23, (τ 9)), (20, (.bool true)), (20, x0), (19, (τ 9))]) ds s6)
 (I.wop (.indexAddr 122 (.const (τ 7)) (.const (τ 9))) 0 s6 fun x7 s7 =>
 I.wop (.load 33 (.const x7)) 33 s7 fun x8 s8 =>
 veq x8 x8 = true ∧ I.wop (.indexAddr 122 (.const (τ 8)) (.const (τ 9))) 0 s8 fun x9 s9 =>
 I.wop (.load 33 (.const x9)) 33 s9 fun x10 s10 =>
 veq x10 x10 = true ∧ I.call 51 [x8, x10] s10 fun x11 s11 =>
 I.wop (.unOp .not 4 (.const x11)) 4 s11 fun x12 s12 =>
 wdec x12
 (Q .ret (U τ [(4, (.bool false)), (40, (.bool true)), (40, x12), (31, (.bool false)), (39, x12), (31, (.bool false)), (38, x11), (31, (.bool false)), (37, x10), (31, (.bool false)), (36, x9), (31, (.bool false)), (35, (τ 9)), (31, (.bool false)), (34, x8), (31, (.bool false)), (33, x7), (31, (.bool false)), (32, (τ 9)), (31, (.bool false)), (31, x6), (30, x6), (29, x5), (28, x4), (27, x3), (26, (τ 9)), (25, x2), (24, x1), (23, (τ 9)), (20, (.bool true)), (20, x0), (19, (τ 9))]) ds s12)
 (I.wop (.binOp .add 3 (.const (τ 9)) (.const (.int .i64 1)) 3) 3 s12 fun x13 s13 =>
 Q .normal (U τ [(9, x13), (22, x13), (21, (τ 9)), (40, (.bool false)), (40, x12), (31, (.bool false)), (39, x12), (31, (.bool false)), (38, x11), (31, (.bool false)), (37, x10), (31, (.bool false)), (36, x9), (31, (.bool false)), (35, (τ 9)), (31, (.bool false)), (34, x8), (31, (.bool false)), (33, x7), (31, (.bool false)), (32, (τ 9)), (31, (.bool false)), (31, x6), (30, x6), (29, x5), (28, x4), (27, x3), (26, (τ 9)), (25, x2), (24, x1), (23, (τ 9)), (20, (.bool true)), (20, x0), (19, (τ 9))]) ds s13)))
 (Q (.exit 0) (U τ [(20, (.bool false)), (20, x0), (19, (τ 9))]) ds s0)
theorem Zzo (I : Prims) (rnd : Option Nat) (τ : Tau) (ds : List Deferred) (s : St) (Q : Ex → WK) : xp I rnd 84 Z1f Zfw [] τ [] ds s (lift Q) = Znd I rnd τ ds s Q := by kernel_rfl
theorem Z0p [Memo] (ro : Nat) (rnd : Option Nat) (τ : Tau) (ds : List Deferred) (s : St) (Q : Ex → WK) : wp P ro 84 rnd Zfw τ ds s Q = Znd (Zao P ro) rnd τ ds s Q := Zc8 rnd 84 P ro (Zzo _ rnd τ ds s Q)
def Zi7 (I : Prims) (rnd : Option Nat) (τ : Tau) (ds : List Deferred) (s : St) (Q : Ex → WK) : Prop :=
 I.wop (.fieldAddr 59 (.const (τ 2)) 12) 0 s fun x0 s0 =>
 I.wop (.load 57 (.const x0)) 57 s0 fun x1 s1 =>
 I.wop (.call ⟨.builtin .len, ⟨[(.const x1)]⟩, #[57]⟩) 3 s1 fun x2 s2 =>
 I.wop (.binOp .lss 3 (.const (τ 10)) (.const x2) 3) 4 s2 fun x3 s3 =>
 wdec x3
 (I.wop (.fieldAddr 59 (.const (τ 2)) 12) 0 s3 fun x4 s4 =>
 I.wop (.load 57 (.const x4)) 57 s4 fun x5 s5 =>
 veq x5 x5 = true ∧ I.wop (.indexAddr 57 (.const x5) (.const (τ 10))) 0 s5 fun x6 s6 =>
 I.wop (.fieldAddr 114 (.const x6) 0) 0 s6 fun x7 s7 =>
 I.wop (.load 112 (.const x7)) 112 s7 fun x8 s8 =>
 veq x8 x8 = true ∧ I.wop (.fieldAddr 59 (.const (τ 3)) 12) 0 s8 fun x9 s9 =>
 I.wop (.load 57 (.const x9)) 57 s9 fun x10 s10 =>
 veq x10 x10 = true ∧ I.wop (.indexAddr 57 (.const x10) (.const (τ 10))) 0 s10 fun x11 s11 =>
 I.wop (.fieldAddr 114 (.const x11) 0) 0 s11 fun x12 s12 =>
 I.wop (.load 112 (.const x12)) 112 s12 fun x13 s13 =>
 veq x13 x13 = true ∧ I.wop (.binOp .neq 112 (.const x8) (.const x13) 112) 4 s13 fun x14 s14 =>
 wdec x14
 (Q .ret (U τ [(4, (.bool false)), (83, (.bool true)), (83, (.bool true)), (68, (.bool true)), (82, undef), (68, (.bool true)), (81, undef), (68, (.bool true)), (80, undef), (68, (.bool true)), (79, undef), (68, (.bool true)), (78, undef), (68, (.bool true)), (77, undef), (68, (.bool true)), (76, undef), (68, (.bool true)), (75, undef), (68, (.bool true)), (74, undef), (68, (.bool true)), (73, undef), (68, (.bool true)), (72, undef), (68, (.bool true)), (71, undef), (68, (.bool true)), (70, undef), (68, (.bool true)), (69, undef), (68, (.bool true)), (68, x14), (67, x14), (66, x13), (65, x12), (64, x11), (63, (τ 10)), (62, x10), (61, x9), (60, x8), (59, x7), (58, x6), (57, (τ 10)), (56, x5), (55, x4), (52, (.bool true)), (52, x3), (51, x2), (50, x1), (49, x0), (48, (τ 10))]) ds s14)
 (I.wop (.fieldAddr 59 (.const (τ 2)) 12) 0 s14 fun x15 s15 =>
 I.wop (.load 57 (.const x15)) 57 s15 fun x16 s16 =>
 veq x16 x16 = true ∧ I.wop (.indexAddr 57 (.const x16) (.const (τ 10))) 0 s16 fun x17 s17 =>
 I.wop (.fieldAddr 114 (.const x17) 1) 0 s17 fun x18 s18 =>
 I.wop (.load 33 (.const x18)) 33 s18 fun x19 s19 =>
 veq x19 x19 = true ∧ I.wop (.fieldAddr 59 (.const (τ 3)) 12) 0 s19 fun x20 s20 =>
 I.wop (.load 57 (.const x20)) 57 s20 fun x21 s21 =>
 veq x21 x21 = true ∧ I.wop (.indexAddr 57 (.const x21) (.const (τ 10))) 0 s21 fun x22 s22 =>
 I.wop (.fieldAddr 114 (.const x22) 1) 0 s22 fun x23 s23 =>
 I.wop (.load 33 (.const x23)) 33 s23 fun x24 s24 =>
 veq x24 x24 = true ∧ I.call 51 [x19, x24] s24 fun x25 s25 =>
 I.wop (.unOp .not 4 (.const x25)) 4 s25 fun x26 s26 =>
 wdec x26
 (Q .ret (U τ [(4, (.bool false)), (83, (.bool true)), (83, x26), (68, (.bool false)), (82, x26), (68, (.bool false)), (81, x25), (68, (.bool false)), (80, x24), (68, (.bool false)), (79, x23), (68, (.bool false)), (78, x22), (68, (.bool false)), (77, (τ 10)), (68, (.bool false)), (76, x21), (68, (.bool false)), (75, x20), (68, (.bool false)), (74, x19), (68, (.bool false)), (73, x18), (68, (.bool false)), (72, x17), (68, (.bool false)), (71, (τ 10)), (68, (.bool false)), (70, x16), (68, (.bool false)), (69, x15), (68, (.bool false)), (68, x14), (67, x14), (66, x13), (65, x12), (64, x11), (63, (τ 10)), (62, x10), (61, x9), (60, x8), (59, x7), (58, x6), (57, (τ 10)), (56, x5), (55, x4), (52, (.bool true)), (52, x3), (51, x2), (50, x1), (49, x0), (48, (τ 10))]) ds s26)
 (I.wop (.binOp .add 3 (.const (τ 10)) (.const (.int .i64 1)) 3) 3 s26 fun x27 s27 =>
 Q .normal (U τ [(10, x27), (54, x27), (53, (τ 10)), (83, (.bool false)), (83, x26), (68, (.bool false)), (82, x26), (68, (.bool false)), (81, x25), (68, (.bool false)), (80, x24), (68, (.bool false)), (79, x23), (68, (.bool false)), (78, x22), (68, (.bool false)), (77, (τ 10)), (68, (.bool false)), (76, x21), (68, (.bool false)), (75, x20), (68, (.bool false)), (74, x19), (68, (.bool false)), (73, x18), (68, (.bool false)), (72, x17), (68, (.bool false)), (71, (τ 10)), (68, (.bool false)), (70, x16), (68, (.bool false)), (69, x15), (68, (.bool false)), (68, x14), (67, x14), (66, x13), (65, x12), (64, x11), (63, (τ 10)), (62, x10), (61, x9), (60, x8), (59, x7), (58, x6), (57, (τ 10)), (56, x5), (55, x4), (52, (.bool true)), (52, x3), (51, x2), (50, x1), (49, x0), (48, (τ 10))]) ds s27)))
 (Q (.exit 2) (U τ [(52, (.bool false)), (52, x3), (51, x2), (50, x1), (49, x0), (48, (τ 10))]) ds s3)
theorem Zu6 (I : Prims) (rnd : Option Nat) (τ : Tau) (ds : List Deferred) (s : St) (Q : Ex → WK) : xp I rnd 84 Zvx Zeh [] τ [] ds s (lift Q) = Zi7 I rnd τ ds s Q := by kernel_rfl
theorem Zvq [Memo] (ro : Nat) (rnd : Option Nat) (τ : Tau) (ds : List Deferred) (s : St) (Q : Ex → WK) : wp P ro 84 rnd Zeh τ ds s Q = Zi7 (Zao P ro) rnd τ ds s Q := Zc8 rnd 84 P ro (Zu6 _ rnd τ ds s Q)
def v53 (I : Prims) (a0 a1 : Value) (si : St) (K : Value → St → Prop) : Prop :=
 I.wop (.box 59 (.const a0)) 0 (ent si) fun x0 s0 =>
 I.wop (.box 59 (.const a1)) 0 s0 fun x1 s1 =>
 I.wop (.load 59 (.const x0)) 59 s1 fun x2 s2 =>
 veq x2 x2 = true ∧ I.wop (.load 59 (.const x1)) 59 s2 fun x3 s3 =>
 veq x3 x3 = true ∧ I.wop (.alloc 120) 0 s3 fun x4 s4 =>
 Zcm s3 s4 ∧ I.wop (.alloc 120) 0 s4 fun x5 s5 =>
 Zcm s4 s5 ∧ I.call 89 [x2] s5 fun x6 s6 =>
 Keeps [(5, .blk s4.n), (4, .blk s3.n), (2, .ptr x1)] s5 s6 ∧ I.call 89 [x3] s6 fun x7 s7 =>
 Keeps [(5, .blk s4.n), (4, .blk s3.n)] s6 s7 ∧ I.wop (.store 120 (.const x4) (.const x6)) 0 s7 fun _ s8 =>
 s7.n ≤ s8.n ∧ I.wop (.store 120 (.const x5) (.const x7)) 0 s8 fun _ s9 =>
 s8.n ≤ s9.n ∧ I.wop (.load 59 (.const x0)) 59 s9 fun x10 s10 =>
 veq x10 x10 = true ∧ I.wop (.load 59 (.const x1)) 59 s10 fun x11 s11 =>
 veq x11 x11 = true ∧ I.wop (.alloc 122) 0 s11 fun x12 s12 =>
 Zcm s11 s12 ∧ I.wop (.alloc 122) 0 s12 fun x13 s13 =>
 Zcm s12 s13 ∧ I.call 90 [x10] s13 fun x14 s14 =>
 Keeps [(5, .blk s12.n), (4, .blk s11.n), (2, .ptr x1)] s13 s14 ∧ I.call 90 [x11] s14 fun x15 s15 =>
 Keeps [(5, .blk s12.n), (4, .blk s11.n)] s14 s15 ∧ I.wop (.store 122 (.const x12) (.const x14)) 0 s15 fun _ s16 =>
 s15.n ≤ s16.n ∧ I.wop (.store 122 (.const x13) (.const x15)) 0 s16 fun _ s17 =>
 s16.n ≤ s17.n ∧ I.loop 84 none Zfw (U Zb2 [(9, (.int .i64 0)), (18, x15), (16, x14), (8, x13), (7, x12), (17, x11), (15, x10), (14, x7), (12, x6), (6, x5), (5, x4), (13, x3), (11, x2), (4, (.bool false)), (3, x1), (2, x0), (0, a0), (1, a1)]) [] s17 (fun τ ds s => ((Za5 I si Tryd.f53.results.toList K) .ret) τ [] ds s) [(0, fun τ18 ds18 s18 =>
 I.wop (.fieldAddr 59 (.const (τ18 2)) 12) 0 s18 fun x19 s19 =>
 I.wop (.load 57 (.const x19)) 57 s19 fun x20 s20 =>
 I.wop (.call ⟨.builtin .len, ⟨[(.const x20)]⟩, #[57]⟩) 3 s20 fun x21 s21 =>
 I.wop (.fieldAddr 59 (.const (τ18 3)) 12) 0 s21 fun x22 s22 =>
 I.wop (.load 57 (.const x22)) 57 s22 fun x23 s23 =>
 I.wop (.call ⟨.builtin .len, ⟨[(.const x23)]⟩, #[57]⟩) 3 s23 fun x24 s24 =>
 I.wop (.binOp .neq 3 (.const x21) (.const x24) 3) 4 s24 fun x25 s25 =>
 wdec x25
 (Zbh I ds18 s25 fun s26 =>
 I.fin si K (.bool false) s26)
 (I.loop 84 none Zeh (U τ18 [(10, (.int .i64 0)), (47, (.bool false)), (47, x25), (46, x24), (45, x23), (44, x22), (43, x21), (42, x20), (41, x19)]) ds18 s25 (fun τ ds s => ((Za5 I si Tryd.f53.results.toList K) .ret) τ [] ds s) [(2, fun _ ds27 s27 =>
 Zbh I ds27 s27 fun s28 =>
 I.fin si K (.bool true) s28)]))]
theorem x53 (I : Prims) (a0 a1 : Value) (si : St) (K : Value → St → Prop) : Zbs I 84 k53 Tryd.f53 c53 [a0, a1] si K = v53 I a0 a1 si K := by kernel_rfl
theorem n53 [Memo] (ro : Nat) (a0 a1 : Value) (si : St) (K : Value → St → Prop) : Zbr P ro 84 Tryd.f53 c53 [a0, a1] si K = v53 (Zao P ro) a0 a1 si K := Zap 84 P ro (x53 _ a0 a1 si K)
theorem r53 (I : Prims) (si : St) (K : Value → St → Prop) (τ : Tau) (ds : List Deferred) (s : St) : Za5 I si Tryd.f53.results.toList K .ret τ [] ds s =
 (Zbh I ds s fun s0 =>
 I.fin si K (τ 4) s0) := by kernel_rfl
noncomputable def c54 : Code := Za7 Tryd.f54
def k54 : List (List Nat) := []
theorem b54 : BodyOk P 6 1 54 Tryd.f54 c54 := ⟨Tryd.func54, by kernel_rfl, by kernel_rfl, by kernel_rfl, by kernel_rfl, by kernel_rfl⟩
def v54 (I : Prims) (a0 : Value) (si : St) (K : Value → St → Prop) : Prop :=
 I.wop (.box 23 (.const a0)) 0 (ent si) fun x0 s0 =>
 I.wop (.fieldAddr 23 (.const x0) 1) 0 s0 fun x1 s1 =>
 I.wop (.load 3 (.const x1)) 3 s1 fun x2 s2 =>
 I.wop (.binOp .quo 3 (.const x2) (.const (.int .i64 3)) 3) 3 s2 fun x3 s3 =>
 I.fin si K x3 s3
theorem x54 (I : Prims) (a0 : Value) (si : St) (K : Value → St → Prop) : Zbs I 6 k54 Tryd.f54 c54 [a0] si K = v54 I a0 si K := by kernel_rfl
theorem n54 [Memo] (ro : Nat) (a0 : Value) (si : St) (K : Value → St → Prop) : Zbr P ro 6 Tryd.f54 c54 [a0] si K = v54 (Zao P ro) a0 si K := Zap 6 P ro (x54 _ a0 si K)
noncomputable def c55 : Code := Za7 Tryd.f55
def k55 : List (List Nat) := []
theorem b55 : BodyOk P 9 2 55 Tryd.f55 c55 := ⟨Tryd.func55, by kernel_rfl, by kernel_rfl, by kernel_rfl, by kernel_rfl, by kernel_rfl⟩
def v55 (I : Prims) (a0 a1 : Value) (si : St) (K : Value → St → Prop) : Prop :=
 I.call 91 [a0, a1] (ent si) fun x0 s0 =>
 I.wop (.binOp .geq 3 (.const x0) (.const (.int .i64 0)) 3) 4 s0 fun x1 s1 =>
 I.fin si K x1 s1
theorem x55 (I : Prims) (a0 a1 : Value) (si : St) (K : Value → St → Prop) : Zbs I 9 k55 Tryd.f55 c55 [a0, a1] si K = v55 I a0 a1 si K := by kernel_rfl
theorem n55 [Memo] (ro : Nat) (a0 a1 : Value) (si : St) (K : Value → St → Prop) : Zbr P ro 9 Tryd.f55 c55 [a0, a1] si K = v55 (Zao P ro) a0 a1 si K := Zap 9 P ro (x55 _ a0 a1 si K)
noncomputable def c56 : Code := Za7 Tryd.f56
def k56 : List (List Nat) := []
theorem b56 : BodyOk P 10 2 56 Tryd.f56 c56 := ⟨Tryd.func56, by kernel_rfl, by kernel_rfl, by kernel_rfl, by kernel_rfl, by kernel_rfl⟩
def v56 (I : Prims) (a0 a1 : Value) (si : St) (K : Value → St → Prop) : Prop :=
 I.wop (.box 59 (.const a0)) 0 (ent si) fun x0 s0 =>
 I.wop (.fieldAddr 59 (.const x0) 12) 0 s0 fun x1 s1 =>
 I.wop (.load 57 (.const x1)) 57 s1 fun x2 s2 =>
 veq x2 x2 = true ∧ I.wop (.call ⟨.builtin .len, ⟨[(.const x2)]⟩, #[57]⟩) 3 s2 fun x3 s3 =>
 I.wop (.load 23 (.const a1)) 23 s3 fun x4 s4 =>
 veq x4 x4 = true ∧ I.call 54 [x4] s4 fun x5 s5 =>
 Keeps [(1, .ptr x1)] s4 s5 ∧ I.wop (.binOp .neq 3 (.const x3) (.const x5) 3) 4 s5 fun x6 s6 =>
 I.fin si K x6 s6
theorem x56 (I : Prims) (a0 a1 : Value) (si : St) (K : Value → St → Prop) : Zbs I 10 k56 Tryd.f56 c56 [a0, a1] si K = v56 I a0 a1 si K := by kernel_rfl
theorem n56 [Memo] (ro : Nat) (a0 a1 : Value) (si : St) (K : Value → St → Prop) : Zbr P ro 10 Tryd.f56 c56 [a0, a1] si K = v56 (Zao P ro) a0 a1 si K := Zap 10 P ro (x56 _ a0 a1 si K)
noncomputable def c57 : Code := Za7 Tryd.f57
noncomputable def Zhu : Code := Za3 [1, 1, 1, 0, 1, 0, 0] c57
def k57 : List (List Nat) := []
def Z1e : List (List Nat) := []
theorem Z05 : Zbd 52 Zhu = true := by kernel_rfl
theorem Z0y : Zcc Zhu = true := by kernel_rfl
theorem b57 : BodyOk P 52 1 57 Tryd.f57 c57 := ⟨Tryd.func57, by kernel_rfl, by kernel_rfl, by kernel_rfl, by kernel_rfl, by kernel_rfl⟩
def Znc (I : Prims) (rnd : Option Nat) (τ : Tau) (ds : List Deferred) (s : St) (Q : Ex → WK) : Prop :=
 I.wop (.binOp .lss 3 (.const (τ 43)) (.const (τ 42)) 3) 0 s fun x0 s0 =>
 wdec x0
 (I.wop (.indexAddr 33 (.const (τ 41)) (.const (τ 43))) 0 s0 fun x1 s1 =>
 I.wop (.load 55 (.const x1)) 55 s1 fun x2 s2 =>
 I.wop (.alloc 55) 0 s2 fun x3 s3 =>
 I.wop (.store 55 (.const x3) (.const x2)) 0 s3 fun _ s4 =>
 I.wop (.slice 55 (.const x3) none none none) 36 s4 fun x5 s5 =>
 I.wop (.call ⟨.builtin .append, ⟨[(.const (τ 3)), (.const x5)]⟩, #[36, 36]⟩) 36 s5 fun x6 s6 =>
 I.wop (.binOp .add 3 (.const (τ 43)) (.const (.int .i64 1)) 3) 3 s6 fun x7 s7 =>
 Q .normal (U τ [(43, x7), (50, x7), (3, x6), (49, x6), (48, x5), (47, (τ 3)), (5, x3), (46, x2), (45, x1), (44, (.bool true)), (44, x0)]) ds s7)
 (Q (.exit 1) (U τ [(44, (.bool false)), (44, x0)]) ds s0)
theorem Zzn (I : Prims) (rnd : Option Nat) (τ : Tau) (ds : List Deferred) (s : St) (Q : Ex → WK) : xp I rnd 52 Z1e Zhu [] τ [] ds s (lift Q) = Znc I rnd τ ds s Q := by kernel_rfl
theorem Z0o [Memo] (ro : Nat) (rnd : Option Nat) (τ : Tau) (ds : List Deferred) (s : St) (Q : Ex → WK) : wp P ro 52 rnd Zhu τ ds s Q = Znc (Zao P ro) rnd τ ds s Q := Zc8 rnd 52 P ro (Zzn _ rnd τ ds s Q)
def v57 (I : Prims) (a0 : Value) (si : St) (K : Value → St → Prop) : Prop :=
 I.wop (.box 82 (.const a0)) 0 (ent si) fun x0 s0 =>
 I.wop (.fieldAddr 82 (.const x0) 0) 0 s0 fun x1 s1 =>
 I.wop (.load 77 (.const x1)) 77 s1 fun x2 s2 =>
 I.wop (.binOp .neq 77 (.const x2) (.const (.pointer none)) 77) 4 s2 fun x3 s3 =>
 wdec x3
 (I.wop (.fieldAddr 82 (.const x0) 0) 0 s3 fun x4 s4 =>
 I.wop (.load 77 (.const x4)) 77 s4 fun x5 s5 =>
 I.wop (.nilCheck (.const x5)) 0 s5 fun x6 s6 =>
 I.wop (.load 36 (.const x6)) 36 s6 fun x7 s7 =>
 I.fin si K x7 s7)
 (I.wop (.fieldAddr 82 (.const x0) 2) 0 s3 fun x8 s8 =>
 I.wop (.load 79 (.const x8)) 79 s8 fun x9 s9 =>
 I.wop (.binOp .neq 79 (.const x9) (.const (.pointer none)) 79) 4 s9 fun x10 s10 =>
 wdec x10
 (I.wop (.fieldAddr 82 (.const x0) 2) 0 s10 fun x11 s11 =>
 I.wop (.load 79 (.const x11)) 79 s11 fun x12 s12 =>
 I.wop (.nilCheck (.const x12)) 0 s12 fun x13 s13 =>
 I.wop (.load 34 (.const x13)) 34 s13 fun x14 s14 =>
 I.wop (.buildSlice 36 1 ⟨[(0, (.const x14))]⟩) 36 s14 fun x15 s15 =>
 I.fin si K x15 s15)
 (I.wop (.fieldAddr 82 (.const x0) 3) 0 s10 fun x16 s16 =>
 I.wop (.load 80 (.const x16)) 80 s16 fun x17 s17 =>
 I.wop (.binOp .neq 80 (.const x17) (.const (.pointer none)) 80) 4 s17 fun x18 s18 =>
 wdec x18
 (I.wop (.fieldAddr 82 (.const x0) 3) 0 s18 fun x19 s19 =>
 I.wop (.load 80 (.const x19)) 80 s19 fun x20 s20 =>
 I.wop (.nilCheck (.const x20)) 80 s20 fun x21 s21 =>
 I.wop (.slice 112 (.const x21) none none none) 36 s21 fun x22 s22 =>
 I.fin si K x22 s22)
 (I.wop (.fieldAddr 82 (.const x0) 1) 0 s18 fun x23 s23 =>
 I.wop (.load 78 (.const x23)) 78 s23 fun x24 s24 =>
 I.wop (.nilCheck (.const x24)) 0 s24 fun x25 s25 =>
 I.wop (.load 33 (.const x25)) 33 s25 fun x26 s26 =>
 I.wop (.call ⟨.builtin .len, ⟨[(.const x26)]⟩, #[33]⟩) 3 s26 fun x27 s27 =>
 I.wop (.binOp .mul 3 (.const (.int .i64 2)) (.const x27) 3) 3 s27 fun x28 s28 =>
 I.wop (.makeSlice 36 (.const (.int .i64 0)) (.const x28)) 36 s28 fun x29 s29 =>
 I.wop (.fieldAddr 82 (.const x0) 1) 0 s29 fun x30 s30 =>
 I.wop (.load 78 (.const x30)) 78 s30 fun x31 s31 =>
 I.wop (.nilCheck (.const x31)) 0 s31 fun x32 s32 =>
 I.wop (.load 33 (.const x32)) 33 s32 fun x33 s33 =>
 I.wop (.call ⟨.builtin .len, ⟨[(.const x33)]⟩, #[33]⟩) 3 s33 fun x34 s34 =>
 I.loop 52 none Zhu (U Zb2 [(43, (.int .i64 0)), (42, x34), (41, x33), (40, x32), (39, x31), (38, x30), (3, x29), (37, x29), (36, x28), (35, x27), (34, x26), (33, x25), (32, x24), (31, x23), (23, (.bool false)), (23, x18), (26, x18), (25, x17), (24, x16), (14, (.bool false)), (14, x10), (17, x10), (16, x9), (15, x8), (6, (.bool false)), (6, x3), (9, x3), (8, x2), (7, x1), (2, (.slice none 0 0)), (1, x0), (0, a0)]) [] s34 (fun τ ds s => ((Za5 I si Tryd.f57.results.toList K) .ret) τ [] ds s) [(1, fun τ35 ds35 s35 =>
 Zbh I ds35 s35 fun s36 =>
 I.fin si K (τ35 3) s36)])))
theorem x57 (I : Prims) (a0 : Value) (si : St) (K : Value → St → Prop) : Zbs I 52 k57 Tryd.f57 c57 [a0] si K = v57 I a0 si K := by kernel_rfl
theorem n57 [Memo] (ro : Nat) (a0 : Value) (si : St) (K : Value → St → Prop) : Zbr P ro 52 Tryd.f57 c57 [a0] si K = v57 (Zao P ro) a0 si K := Zap 52 P ro (x57 _ a0 si K)
noncomputable def c58 : Code := Za7 Tryd.f58
noncomputable def Zlp : Code := Za3 [1, 0, 1, 0, 0] c58
def k58 : List (List Nat) := []
def Z8o : List (List Nat) := []
theorem Z8j : Zbd 20 Zlp = true := by kernel_rfl
theorem Z77 : Zcc Zlp = true := by kernel_rfl
theorem b58 : BodyOk P 20 2 58 Tryd.f58 c58 := ⟨Tryd.func58, by kernel_rfl, by kernel_rfl, by kernel_rfl, by kernel_rfl, by kernel_rfl⟩
def Zry (I : Prims) (rnd : Option Nat) (τ : Tau) (ds : List Deferred) (s : St) (Q : Ex → WK) : Prop :=
 I.wop (.binOp .lss 3 (.const (τ 9)) (.const (τ 8)) 3) 0 s fun x0 s0 =>
 wdec x0
 (I.wop (.indexAddr 36 (.const (τ 7)) (.const (τ 9))) 0 s0 fun x1 s1 =>
 I.wop (.load 34 (.const x1)) 34 s1 fun x2 s2 =>
 I.call 47 [(τ 0)] s2 fun x3 s3 =>
 I.wop (.binOp .geq 34 (.const x2) (.const x3) 34) 4 s3 fun x4 s4 =>
 wdec x4
 (Q .ret (U τ [(4, (.bool false)), (16, (.bool true)), (16, x4), (15, x3), (14, (τ 0)), (13, x2), (6, x2), (12, x2), (11, x1), (10, (.bool true)), (10, x0)]) ds s4)
 (I.wop (.binOp .add 3 (.const (τ 9)) (.const (.int .i64 1)) 3) 3 s4 fun x5 s5 =>
 Q .normal (U τ [(9, x5), (17, x5), (16, (.bool false)), (16, x4), (15, x3), (14, (τ 0)), (13, x2), (6, x2), (12, x2), (11, x1), (10, (.bool true)), (10, x0)]) ds s5))
 (Q (.exit 0) (U τ [(10, (.bool false)), (10, x0)]) ds s0)
theorem Z6r (I : Prims) (rnd : Option Nat) (τ : Tau) (ds : List Deferred) (s : St) (Q : Ex → WK) : xp I rnd 20 Z8o Zlp [] τ [] ds s (lift Q) = Zry I rnd τ ds s Q := by kernel_rfl
theorem Z72 [Memo] (ro : Nat) (rnd : Option Nat) (τ : Tau) (ds : List Deferred) (s : St) (Q : Ex → WK) : wp P ro 20 rnd Zlp τ ds s Q = Zry (Zao P ro) rnd τ ds s Q := Zc8 rnd 20 P ro (Z6r _ rnd τ ds s Q)
def v58 (I : Prims) (a0 a1 : Value) (si : St) (K : Value → St → Prop) : Prop :=
 I.wop (.call ⟨.builtin .len, ⟨[(.const a1)]⟩, #[36]⟩) 3 (ent si) fun x0 s0 =>
 I.loop 20 none Zlp (U Zb2 [(9, (.int .i64 0)), (8, x0), (7, a1), (4, (.bool false)), (0, a0), (1, a1)]) [] s0 (fun τ ds s => ((Za5 I si Tryd.f58.results.toList K) .ret) τ [] ds s) [(0, fun τ1 ds1 s1 =>
 I.call 40 [(τ1 0)] s1 fun x2 s2 =>
 Zbh I ds1 s2 fun s3 =>
 I.fin si K x2 s3)]
theorem x58 (I : Prims) (a0 a1 : Value) (si : St) (K : Value → St → Prop) : Zbs I 20 k58 Tryd.f58 c58 [a0, a1] si K = v58 I a0 a1 si K := by kernel_rfl
theorem n58 [Memo] (ro : Nat) (a0 a1 : Value) (si : St) (K : Value → St → Prop) : Zbr P ro 20 Tryd.f58 c58 [a0, a1] si K = v58 (Zao P ro) a0 a1 si K := Zap 20 P ro (x58 _ a0 a1 si K)
theorem r58 (I : Prims) (si : St) (K : Value → St → Prop) (τ : Tau) (ds : List Deferred) (s : St) : Za5 I si Tryd.f58.results.toList K .ret τ [] ds s =
 (Zbh I ds s fun s0 =>
 I.fin si K (τ 4) s0) := by kernel_rfl
noncomputable def c67 : Code := Za7 Tryd.f67
noncomputable def Zlo : Code := Za3 [1, 0, 1, 0, 0] c67
def k67 : List (List Nat) := []
def Z8n : List (List Nat) := []
theorem Z8i : Zbd 19 Zlo = true := by kernel_rfl
theorem Z76 : Zcc Zlo = true := by kernel_rfl
theorem b67 : BodyOk P 19 2 67 Tryd.f67 c67 := ⟨Tryd.func67, by kernel_rfl, by kernel_rfl, by kernel_rfl, by kernel_rfl, by kernel_rfl⟩
def Zrx (I : Prims) (rnd : Option Nat) (τ : Tau) (ds : List Deferred) (s : St) (Q : Ex → WK) : Prop :=
 I.wop (.binOp .lss 3 (.const (τ 8)) (.const (τ 7)) 3) 0 s fun x0 s0 =>
 wdec x0
 (I.wop (.indexAddr 24 (.const (τ 0)) (.const (τ 8))) 0 s0 fun x1 s1 =>
 I.wop (.load 30 (.const x1)) 30 s1 fun x2 s2 =>
 Zio I (τ 1) [x2] s2 fun x3 s3 =>
 wdec x3
 (Q .ret (U τ [(4, (τ 8)), (17, (τ 8)), (16, (.bool true)), (16, x3), (15, x2), (14, x1), (13, (τ 8)), (12, (τ 0)), (11, (τ 1)), (5, (τ 8)), (10, (τ 8)), (9, (.bool true)), (9, x0)]) ds s3)
 (I.wop (.binOp .add 3 (.const (τ 8)) (.const (.int .i64 1)) 3) 3 s3 fun x4 s4 =>
 Q .normal (U τ [(8, x4), (18, x4), (16, (.bool false)), (16, x3), (15, x2), (14, x1), (13, (τ 8)), (12, (τ 0)), (11, (τ 1)), (5, (τ 8)), (10, (τ 8)), (9, (.bool true)), (9, x0)]) ds s4))
 (Q (.exit 0) (U τ [(9, (.bool false)), (9, x0)]) ds s0)
theorem Z6q (I : Prims) (rnd : Option Nat) (τ : Tau) (ds : List Deferred) (s : St) (Q : Ex → WK) : xp I rnd 19 Z8n Zlo [] τ [] ds s (lift Q) = Zrx I rnd τ ds s Q := by kernel_rfl
theorem Z71 [Memo] (ro : Nat) (rnd : Option Nat) (τ : Tau) (ds : List Deferred) (s : St) (Q : Ex → WK) : wp P ro 19 rnd Zlo τ ds s Q = Zrx (Zao P ro) rnd τ ds s Q := Zc8 rnd 19 P ro (Z6q _ rnd τ ds s Q)
def v67 (I : Prims) (a0 a1 : Value) (si : St) (K : Value → St → Prop) : Prop :=
 I.wop (.call ⟨.builtin .len, ⟨[(.const a0)]⟩, #[24]⟩) 3 (ent si) fun x0 s0 =>
 I.loop 19 none Zlo (U Zb2 [(8, (.int .i64 0)), (7, x0), (6, a0), (4, (.int .i64 0)), (0, a0), (1, a1)]) [] s0 (fun τ ds s => ((Za5 I si Tryd.f67.results.toList K) .ret) τ [] ds s) [(0, fun _ ds1 s1 =>
 Zbh I ds1 s1 fun s2 =>
 I.fin si K (.int .i64 (-1)) s2)]
theorem x67 (I : Prims) (a0 a1 : Value) (si : St) (K : Value → St → Prop) : Zbs I 19 k67 Tryd.f67 c67 [a0, a1] si K = v67 I a0 a1 si K := by kernel_rfl
theorem n67 [Memo] (ro : Nat) (a0 a1 : Value) (si : St) (K : Value → St → Prop) : Zbr P ro 19 Tryd.f67 c67 [a0, a1] si K = v67 (Zao P ro) a0 a1 si K := Zap 19 P ro (x67 _ a0 a1 si K)
theorem r67 (I : Prims) (si : St) (K : Value → St → Prop) (τ : Tau) (ds : List Deferred) (s : St) : Za5 I si Tryd.f67.results.toList K .ret τ [] ds s =
 (Zbh I ds s fun s0 =>
 I.fin si K (τ 4) s0) := by kernel_rfl
noncomputable def c68 : Code := Za7 Tryd.f68
noncomputable def Ziz : Code := Za3 [1, 0, 1, 0, 0] c68
noncomputable def Ziy : Code := Za3 [1, 0, 1, 0, 1] c68
def k68 : List (List Nat) := []
def Z8m : List (List Nat) := []
theorem Z8h : Zbd 13 Ziz = true := by kernel_rfl
def Z8l : List (List Nat) := []
theorem Z8g : Zbd 13 Ziy = true := by kernel_rfl
theorem b68 : BodyOk P 13 2 68 Tryd.f68 c68 := ⟨Tryd.func68, by kernel_rfl, by kernel_rfl, by kernel_rfl, by kernel_rfl, by kernel_rfl⟩
def Zrw (I : Prims) (rnd : Option Nat) (τ : Tau) (ds : List Deferred) (s : St) (Q : Ex → WK) : Prop :=
 I.wop (.alloc 30) 0 s fun x0 s0 =>
 I.wop (.store 30 (.const x0) (.const (τ 7))) 0 s0 fun _ s1 =>
 Q .normal (U τ [(5, x0)]) ds s1
theorem Z6p (I : Prims) (rnd : Option Nat) (τ : Tau) (ds : List Deferred) (s : St) (Q : Ex → WK) : xp I rnd 13 Z8m Ziz [] τ [] ds s (lift Q) = Zrw I rnd τ ds s Q := by kernel_rfl
theorem Z70 [Memo] (ro : Nat) (rnd : Option Nat) (τ : Tau) (ds : List Deferred) (s : St) (Q : Ex → WK) : wp P ro 13 rnd Ziz τ ds s Q = Zrw (Zao P ro) rnd τ ds s Q := Zc8 rnd 13 P ro (Z6p _ rnd τ ds s Q)
def Zrv (I : Prims) (rnd : Option Nat) (τ : Tau) (ds : List Deferred) (s : St) (Q : Ex → WK) : Prop :=
 I.wop (.load 24 (.const (τ 2))) 24 s fun x0 s0 =>
 I.wop (.load 30 (.const (τ 5))) 30 s0 fun x1 s1 =>
 I.wop (.buildSlice 24 1 ⟨[(0, (.const x1))]⟩) 24 s1 fun x2 s2 =>
 I.wop (.call ⟨.builtin .append, ⟨[(.const x0), (.const x2)]⟩, #[24, 24]⟩) 24 s2 fun x3 s3 =>
 I.wop (.store 24 (.const (τ 2)) (.const x3)) 0 s3 fun _ s4 =>
 Q .normal (U τ [(11, x3), (10, x2), (9, x1), (8, x0)]) ds s4
theorem Z6o (I : Prims) (rnd : Option Nat) (τ : Tau) (ds : List Deferred) (s : St) (Q : Ex → WK) : xp I rnd 13 Z8l Ziy [] τ [] ds s (lift Q) = Zrv I rnd τ ds s Q := by kernel_rfl
theorem Z7z [Memo] (ro : Nat) (rnd : Option Nat) (τ : Tau) (ds : List Deferred) (s : St) (Q : Ex → WK) : wp P ro 13 rnd Ziy τ ds s Q = Zrv (Zao P ro) rnd τ ds s Q := Zc8 rnd 13 P ro (Z6o _ rnd τ ds s Q)
def v68 (I : Prims) (a0 a1 : Value) (si : St) (K : Value → St → Prop) : Prop :=
 I.wop (.box 24 (.const a0)) 0 (ent si) fun x0 s0 =>
 I.range 13 none a1 #[7] Ziz Ziy (U Zb2 [(6, a1), (4, (.slice none 0 0)), (2, x0), (0, a0), (1, a1)]) [] s0 (fun τ1 ds1 s1 =>
 I.wop (.load 24 (.const (τ1 2))) 24 s1 fun x2 s2 =>
 Zbh I ds1 s2 fun s3 =>
 I.fin si K x2 s3) (fun τ ds s => ((Za5 I si Tryd.f68.results.toList K) .ret) τ [] ds s) []
theorem x68 (I : Prims) (a0 a1 : Value) (si : St) (K : Value → St → Prop) : Zbs I 13 k68 Tryd.f68 c68 [a0, a1] si K = v68 I a0 a1 si K := by kernel_rfl
theorem n68 [Memo] (ro : Nat) (a0 a1 : Value) (si : St) (K : Value → St → Prop) : Zbr P ro 13 Tryd.f68 c68 [a0, a1] si K = v68 (Zao P ro) a0 a1 si K := Zap 13 P ro (x68 _ a0 a1 si K)
end Go.VE
