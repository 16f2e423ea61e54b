/-
 The program's types.
-/
import Derived.Test.YtonfahekhieobaaDoorVe6
import Derived.Test.YtonfahekhieobaaDoorRows
set_option linter.unusedSimpArgs false
set_option linter.unusedVariables false
namespace Go.VE
open Go Go.Proofs
noncomputable abbrev P : Program := Tryd.prog
theorem ty_3 : tyOk P 3 1 8 (.int .i64 0) = true := by kernel_rfl
theorem Yf7 : isz P 3 = some 1 := Zb7 ty_3
theorem ap_3 (c : List Value) (o : Nat) : Zc1 P 3 c o = c[o]? := by kernel_rfl
theorem me_3 (n : Nat) (a : List Value) (s : St) : Mean P (n + 1) 3 a s = (∃ i, a = [.int .i64 i] ∧ (Lit.int .i64 i).wf = true) := by kernel_rfl
theorem ty_4 : tyOk P 4 1 1 (.bool false) = true := by kernel_rfl
theorem Yey : isz P 4 = some 1 := Zb7 ty_4
theorem ap_4 (c : List Value) (o : Nat) : Zc1 P 4 c o = c[o]? := by kernel_rfl
theorem ty_5 : tyOk P 5 1 1 (.int .u8 0) = true := by kernel_rfl
theorem Yaq : isz P 5 = some 1 := Zb7 ty_5
theorem ap_5 (c : List Value) (o : Nat) : Zc1 P 5 c o = c[o]? := by kernel_rfl
theorem me_5 (n : Nat) (a : List Value) (s : St) : Mean P (n + 1) 5 a s = (∃ i, a = [.int .u8 i] ∧ (Lit.int .u8 i).wf = true) := by kernel_rfl
theorem Yd8 : tyOk P 23 9 72 (.agg (.mk [(.int .i64 0), (.int .i64 0), (.int .i64 0), (.int .i64 0), (.int .i64 0), (.int .i64 0), (.int .i64 0), (.int .i64 0), (.int .i64 0)])) = true := by kernel_rfl
theorem Ye0 : isz P 23 = some 9 := Zb7 Yd8
theorem Zc2 (c : List Value) (o : Nat) : Zc1 P 23 c o = (cut c o 9).map fun l => .agg l.toArray := by kernel_rfl
theorem Yf5 (n : Nat) (a : List Value) (s : St) : Mean P (n + 1) 23 a s = Z9s (Mean P n) [3, 3, 3, 3, 3, 3, 3, 3, 3] a s := by kernel_rfl
theorem Ygo (a : List Value) (v : Value) : AVal P 23 a v = (v = .agg (.mk a)) := by kernel_rfl
theorem Zdi (A o : Nat) : Zat P 23 (.pointer (some ⟨A, o, none⟩)) 0 = some (.pointer (some ⟨A, o + 0, none⟩)) := by kernel_rfl
theorem Zdc (A o : Nat) : Zat P 23 (.pointer (some ⟨A, o, none⟩)) 1 = some (.pointer (some ⟨A, o + 1, none⟩)) := by kernel_rfl
theorem Zdp (A o : Nat) : Zat P 23 (.pointer (some ⟨A, o, none⟩)) 2 = some (.pointer (some ⟨A, o + 2, none⟩)) := by kernel_rfl
theorem Zee (A o : Nat) : Zat P 23 (.pointer (some ⟨A, o, none⟩)) 3 = some (.pointer (some ⟨A, o + 3, none⟩)) := by kernel_rfl
theorem Zc0 (A o : Nat) : Zat P 23 (.pointer (some ⟨A, o, none⟩)) 4 = some (.pointer (some ⟨A, o + 4, none⟩)) := by kernel_rfl
theorem Zed (A o : Nat) : Zat P 23 (.pointer (some ⟨A, o, none⟩)) 5 = some (.pointer (some ⟨A, o + 5, none⟩)) := by kernel_rfl
theorem Zec (A o : Nat) : Zat P 23 (.pointer (some ⟨A, o, none⟩)) 6 = some (.pointer (some ⟨A, o + 6, none⟩)) := by kernel_rfl
theorem Zdh (A o : Nat) : Zat P 23 (.pointer (some ⟨A, o, none⟩)) 7 = some (.pointer (some ⟨A, o + 7, none⟩)) := by kernel_rfl
theorem Zeb (A o : Nat) : Zat P 23 (.pointer (some ⟨A, o, none⟩)) 8 = some (.pointer (some ⟨A, o + 8, none⟩)) := by kernel_rfl
theorem Yfz : tyOk P 24 1 24 (.slice none 0 0) = true := by kernel_rfl
theorem Yez : isz P 24 = some 1 := Zb7 Yfz
theorem Yfc (c : List Value) (o : Nat) : Zc1 P 24 c o = c[o]? := by kernel_rfl
theorem Zis : Zbq P 24 = some 30 := by kernel_rfl
theorem Yfs : P.underlying 24 = some (.slice 30) := by kernel_rfl
theorem Zms (c : List Value) (o : Nat) : Zc1 P 28 c o = c[o]? := by kernel_rfl
theorem Zku : tyOk P 30 4 32 (.agg (.mk [(.int .u8 0), (.int .i64 0), (.int .i64 0), (.int .i64 0)])) = true := by kernel_rfl
theorem Zjz : isz P 30 = some 4 := Zb7 Zku
theorem Ztz (c : List Value) (o : Nat) : Zc1 P 30 c o = (cut c o 4).map fun l => .agg l.toArray := by kernel_rfl
theorem Zcz (A o : Nat) : Zat P 30 (.pointer (some ⟨A, o, none⟩)) 0 = some (.pointer (some ⟨A, o + 0, none⟩)) := by kernel_rfl
theorem Zpj (A o : Nat) : Zat P 30 (.pointer (some ⟨A, o, none⟩)) 1 = some (.pointer (some ⟨A, o + 1, none⟩)) := by kernel_rfl
theorem Zd2 (A o : Nat) : Zat P 30 (.pointer (some ⟨A, o, none⟩)) 2 = some (.pointer (some ⟨A, o + 2, none⟩)) := by kernel_rfl
theorem Znq (A o : Nat) : Zat P 30 (.pointer (some ⟨A, o, none⟩)) 3 = some (.pointer (some ⟨A, o + 3, none⟩)) := by kernel_rfl
theorem Yd7 : tyOk P 32 1 24 (.slice none 0 0) = true := by kernel_rfl
theorem Ybk : isz P 32 = some 1 := Zb7 Yd7
theorem Yfb (c : List Value) (o : Nat) : Zc1 P 32 c o = c[o]? := by kernel_rfl
theorem Yf4 (n : Nat) (a : List Value) (s : St) : Mean P (n + 1) 32 a s = (∃ (u : Value) (l : List (List Value)), a = [u] ∧ l.length ≤ maxLen ∧ Sl s u 1 l.length l.flatten ∧ ∀ c ∈ l, c.length = 1 ∧ Mean P n 5 c s) := by kernel_rfl
theorem Ygn (a : List Value) (v : Value) : AVal P 32 a v = (a = [v]) := by kernel_rfl
theorem Zr9 : Zbq P 32 = some 5 := by kernel_rfl
theorem Yb6 : P.underlying 32 = some (.slice 5) := by kernel_rfl
theorem Yb9 : tyOk P 33 1 24 (.slice none 0 0) = true := by kernel_rfl
theorem Zm1 : isz P 33 = some 1 := Zb7 Yb9
theorem Zfl (c : List Value) (o : Nat) : Zc1 P 33 c o = c[o]? := by kernel_rfl
theorem Zr8 : Zbq P 33 = some 55 := by kernel_rfl
theorem Zvb : tyOk P 34 1 8 (.int .u64 0) = true := by kernel_rfl
theorem Zfm : isz P 34 = some 1 := Zb7 Zvb
theorem Zoq (c : List Value) (o : Nat) : Zc1 P 34 c o = c[o]? := by kernel_rfl
theorem Zwp (c : List Value) (o : Nat) : Zc1 P 35 c o = c[o]? := by kernel_rfl
theorem Zvf : Zbq P 35 = some 33 := by kernel_rfl
theorem Yfr : P.underlying 35 = some (.slice 33) := by kernel_rfl
theorem Yfy : tyOk P 36 1 24 (.slice none 0 0) = true := by kernel_rfl
theorem Z3s : isz P 36 = some 1 := Zb7 Yfy
theorem Znu (c : List Value) (o : Nat) : Zc1 P 36 c o = c[o]? := by kernel_rfl
theorem Zh1 : Zbq P 36 = some 34 := by kernel_rfl
theorem Ydz : P.underlying 36 = some (.slice 34) := by kernel_rfl
theorem Znt (c : List Value) (o : Nat) : Zc1 P 37 c o = c[o]? := by kernel_rfl
theorem Zr7 : Zbq P 37 = some 59 := by kernel_rfl
theorem Yb5 : P.underlying 37 = some (.slice 59) := by kernel_rfl
theorem Zh0 : tyOk P 39 8 160 (.agg (.mk [(.slice none 0 0), (.slice none 0 0), (.slice none 0 0), (.int .u64 0), (.slice none 0 0), (.slice none 0 0), (.int .u64 0), (.slice none 0 0)])) = true := by kernel_rfl
theorem Zea : isz P 39 = some 8 := Zb7 Zh0
theorem Zhy (c : List Value) (o : Nat) : Zc1 P 39 c o = (cut c o 8).map fun l => .agg l.toArray := by kernel_rfl
theorem Zs2 (A o : Nat) : Zat P 39 (.pointer (some ⟨A, o, none⟩)) 0 = some (.pointer (some ⟨A, o + 0, none⟩)) := by kernel_rfl
theorem Zwg (A o : Nat) : Zat P 39 (.pointer (some ⟨A, o, none⟩)) 1 = some (.pointer (some ⟨A, o + 1, none⟩)) := by kernel_rfl
theorem Zwf (A o : Nat) : Zat P 39 (.pointer (some ⟨A, o, none⟩)) 2 = some (.pointer (some ⟨A, o + 2, none⟩)) := by kernel_rfl
theorem Zwe (A o : Nat) : Zat P 39 (.pointer (some ⟨A, o, none⟩)) 3 = some (.pointer (some ⟨A, o + 3, none⟩)) := by kernel_rfl
theorem Zjk (A o : Nat) : Zat P 39 (.pointer (some ⟨A, o, none⟩)) 4 = some (.pointer (some ⟨A, o + 4, none⟩)) := by kernel_rfl
theorem Zwd (A o : Nat) : Zat P 39 (.pointer (some ⟨A, o, none⟩)) 5 = some (.pointer (some ⟨A, o + 5, none⟩)) := by kernel_rfl
theorem Zwc (A o : Nat) : Zat P 39 (.pointer (some ⟨A, o, none⟩)) 6 = some (.pointer (some ⟨A, o + 6, none⟩)) := by kernel_rfl
theorem Zel (A o : Nat) : Zat P 39 (.pointer (some ⟨A, o, none⟩)) 7 = some (.pointer (some ⟨A, o + 7, none⟩)) := by kernel_rfl
theorem Z4p : tyOk P 55 2 16 (.agg (.mk [(.int .u64 0), (.int .u64 0)])) = true := by kernel_rfl
theorem Z8q : isz P 55 = some 2 := Zb7 Z4p
theorem Ydf (c : List Value) (o : Nat) : Zc1 P 55 c o = (cut c o 2).map fun l => .agg l.toArray := by kernel_rfl
theorem Ydy : P.underlying 55 = some (.array 2 34) := by kernel_rfl
theorem Yfx : tyOk P 57 1 24 (.slice none 0 0) = true := by kernel_rfl
theorem Ybj : isz P 57 = some 1 := Zb7 Yfx
theorem Zwo (c : List Value) (o : Nat) : Zc1 P 57 c o = c[o]? := by kernel_rfl
theorem Z4v : Zbq P 57 = some 114 := by kernel_rfl
theorem Yfq : P.underlying 57 = some (.slice 114) := by kernel_rfl
theorem Z4o : tyOk P 59 13 312 (.agg (.mk [(.slice none 0 0), (.slice none 0 0), (.slice none 0 0), (.slice none 0 0), (.slice none 0 0), (.slice none 0 0), (.slice none 0 0), (.slice none 0 0), (.slice none 0 0), (.slice none 0 0), (.slice none 0 0), (.slice none 0 0), (.slice none 0 0)])) = true := by kernel_rfl
theorem Zuq : isz P 59 = some 13 := Zb7 Z4o
theorem Zq7 (c : List Value) (o : Nat) : Zc1 P 59 c o = (cut c o 13).map fun l => .agg l.toArray := by kernel_rfl
theorem Z13 (A o : Nat) : Zat P 59 (.pointer (some ⟨A, o, none⟩)) 0 = some (.pointer (some ⟨A, o + 0, none⟩)) := by kernel_rfl
theorem Z12 (A o : Nat) : Zat P 59 (.pointer (some ⟨A, o, none⟩)) 1 = some (.pointer (some ⟨A, o + 1, none⟩)) := by kernel_rfl
theorem Z11 (A o : Nat) : Zat P 59 (.pointer (some ⟨A, o, none⟩)) 2 = some (.pointer (some ⟨A, o + 2, none⟩)) := by kernel_rfl
theorem Z10 (A o : Nat) : Zat P 59 (.pointer (some ⟨A, o, none⟩)) 3 = some (.pointer (some ⟨A, o + 3, none⟩)) := by kernel_rfl
theorem Z1z (A o : Nat) : Zat P 59 (.pointer (some ⟨A, o, none⟩)) 4 = some (.pointer (some ⟨A, o + 4, none⟩)) := by kernel_rfl
theorem Z1y (A o : Nat) : Zat P 59 (.pointer (some ⟨A, o, none⟩)) 5 = some (.pointer (some ⟨A, o + 5, none⟩)) := by kernel_rfl
theorem Z1x (A o : Nat) : Zat P 59 (.pointer (some ⟨A, o, none⟩)) 6 = some (.pointer (some ⟨A, o + 6, none⟩)) := by kernel_rfl
theorem Z1w (A o : Nat) : Zat P 59 (.pointer (some ⟨A, o, none⟩)) 7 = some (.pointer (some ⟨A, o + 7, none⟩)) := by kernel_rfl
theorem Z1v (A o : Nat) : Zat P 59 (.pointer (some ⟨A, o, none⟩)) 8 = some (.pointer (some ⟨A, o + 8, none⟩)) := by kernel_rfl
theorem Z1u (A o : Nat) : Zat P 59 (.pointer (some ⟨A, o, none⟩)) 9 = some (.pointer (some ⟨A, o + 9, none⟩)) := by kernel_rfl
theorem Zwb (A o : Nat) : Zat P 59 (.pointer (some ⟨A, o, none⟩)) 10 = some (.pointer (some ⟨A, o + 10, none⟩)) := by kernel_rfl
theorem Zwa (A o : Nat) : Zat P 59 (.pointer (some ⟨A, o, none⟩)) 11 = some (.pointer (some ⟨A, o + 11, none⟩)) := by kernel_rfl
theorem Zd5 (A o : Nat) : Zat P 59 (.pointer (some ⟨A, o, none⟩)) 12 = some (.pointer (some ⟨A, o + 12, none⟩)) := by kernel_rfl
theorem Z7a : tyOk P 71 6 48 (.agg (.mk [(.int .i64 0), (.int .i64 0), (.int .i64 0), (.int .i64 0), (.int .i64 0), (.int .i64 0)])) = true := by kernel_rfl
theorem Z3r : isz P 71 = some 6 := Zb7 Z7a
theorem Ya2 (c : List Value) (o : Nat) : Zc1 P 71 c o = (cut c o 6).map fun l => .agg l.toArray := by kernel_rfl
theorem Yfp : P.underlying 71 = some (.array 6 3) := by kernel_rfl
theorem Yfw : tyOk P 77 1 8 (.pointer none) = true := by kernel_rfl
theorem Yex : isz P 77 = some 1 := Zb7 Yfw
theorem Zwn (c : List Value) (o : Nat) : Zc1 P 77 c o = c[o]? := by kernel_rfl
theorem Yfv : tyOk P 78 1 8 (.pointer none) = true := by kernel_rfl
theorem Yew : isz P 78 = some 1 := Zb7 Yfv
theorem Z9g (c : List Value) (o : Nat) : Zc1 P 78 c o = c[o]? := by kernel_rfl
theorem Z6a (c : List Value) (o : Nat) : Zc1 P 79 c o = c[o]? := by kernel_rfl
theorem Ya1 (c : List Value) (o : Nat) : Zc1 P 80 c o = c[o]? := by kernel_rfl
theorem Zqp : tyOk P 82 4 32 (.agg (.mk [(.pointer none), (.pointer none), (.pointer none), (.pointer none)])) = true := by kernel_rfl
theorem Zlc : isz P 82 = some 4 := Zb7 Zqp
theorem Ztj (c : List Value) (o : Nat) : Zc1 P 82 c o = (cut c o 4).map fun l => .agg l.toArray := by kernel_rfl
theorem Zlj (A o : Nat) : Zat P 82 (.pointer (some ⟨A, o, none⟩)) 0 = some (.pointer (some ⟨A, o + 0, none⟩)) := by kernel_rfl
theorem Zv9 (A o : Nat) : Zat P 82 (.pointer (some ⟨A, o, none⟩)) 1 = some (.pointer (some ⟨A, o + 1, none⟩)) := by kernel_rfl
theorem Zpi (A o : Nat) : Zat P 82 (.pointer (some ⟨A, o, none⟩)) 2 = some (.pointer (some ⟨A, o + 2, none⟩)) := by kernel_rfl
theorem Zv8 (A o : Nat) : Zat P 82 (.pointer (some ⟨A, o, none⟩)) 3 = some (.pointer (some ⟨A, o + 3, none⟩)) := by kernel_rfl
theorem Yfu : tyOk P 83 1 8 .nilFunc = true := by kernel_rfl
theorem Z8p : isz P 83 = some 1 := Zb7 Yfu
theorem Yde (c : List Value) (o : Nat) : Zc1 P 83 c o = c[o]? := by kernel_rfl
theorem Yb4 : P.underlying 84 = some (.slice 83) := by kernel_rfl
theorem Zxd : tyOk P 102 2 16 (.agg (.mk [(.int .i64 0), (.int .i64 0)])) = true := by kernel_rfl
theorem Zvy : isz P 102 = some 2 := Zb7 Zxd
theorem Z9h (c : List Value) (o : Nat) : Zc1 P 102 c o = (cut c o 2).map fun l => .agg l.toArray := by kernel_rfl
theorem Yav (A o : Nat) : Zat P 102 (.pointer (some ⟨A, o, none⟩)) 0 = some (.pointer (some ⟨A, o + 0, none⟩)) := by kernel_rfl
theorem Yau (A o : Nat) : Zat P 102 (.pointer (some ⟨A, o, none⟩)) 1 = some (.pointer (some ⟨A, o + 1, none⟩)) := by kernel_rfl
theorem Ybb : tyOk P 107 5 56 (.agg (.mk [(.int .u64 0), (.int .u64 0), (.int .i64 0), (.int .i64 0), (.slice none 0 0)])) = true := by kernel_rfl
theorem Z8r : isz P 107 = some 5 := Zb7 Ybb
theorem Zza (c : List Value) (o : Nat) : Zc1 P 107 c o = (cut c o 5).map fun l => .agg l.toArray := by kernel_rfl
theorem Yat (l : List Value) : Zqi P 107 (.agg (.mk l)) 0 = Zc1 P 34 l 0 := by kernel_rfl
theorem Yas (l : List Value) : Zqi P 107 (.agg (.mk l)) 2 = Zc1 P 3 l 2 := by kernel_rfl
theorem Yd4 : P.underlying 110 = some (.array 6 77) := by kernel_rfl
theorem Yd3 : P.underlying 111 = some (.array 6 78) := by kernel_rfl
theorem Ybp (c : List Value) (o : Nat) : Zc1 P 112 c o = (cut c o 8).map fun l => .agg l.toArray := by kernel_rfl
theorem Z67 : P.underlying 112 = some (.array 8 34) := by kernel_rfl
theorem Z7b : tyOk P 114 9 88 (.agg (.mk [(.int .u64 0), (.int .u64 0), (.int .u64 0), (.int .u64 0), (.int .u64 0), (.int .u64 0), (.int .u64 0), (.int .u64 0), (.slice none 0 0)])) = true := by kernel_rfl
theorem Ycy : isz P 114 = some 9 := Zb7 Z7b
theorem Zri (A o : Nat) : Zat P 114 (.pointer (some ⟨A, o, none⟩)) 0 = some (.pointer (some ⟨A, o + 0, none⟩)) := by kernel_rfl
theorem Zrh (A o : Nat) : Zat P 114 (.pointer (some ⟨A, o, none⟩)) 1 = some (.pointer (some ⟨A, o + 8, none⟩)) := by kernel_rfl
theorem Z3a : tyOk P 120 6 144 (.agg (.mk [(.slice none 0 0), (.slice none 0 0), (.slice none 0 0), (.slice none 0 0), (.slice none 0 0), (.slice none 0 0)])) = true := by kernel_rfl
theorem Z1o : isz P 120 = some 6 := Zb7 Z3a
theorem Yfe (c : List Value) (o : Nat) : Zc1 P 120 c o = (cut c o 6).map fun l => .agg l.toArray := by kernel_rfl
theorem Yd2 : P.underlying 120 = some (.array 6 36) := by kernel_rfl
theorem Z29 : tyOk P 122 6 144 (.agg (.mk [(.slice none 0 0), (.slice none 0 0), (.slice none 0 0), (.slice none 0 0), (.slice none 0 0), (.slice none 0 0)])) = true := by kernel_rfl
theorem Z1n : isz P 122 = some 6 := Zb7 Z29
theorem Yfd (c : List Value) (o : Nat) : Zc1 P 122 c o = (cut c o 6).map fun l => .agg l.toArray := by kernel_rfl
theorem Yd1 : P.underlying 122 = some (.array 6 33) := by kernel_rfl
theorem Yd0 : P.underlying 129 = some (.array 4 107) := by kernel_rfl
end Go.VE
