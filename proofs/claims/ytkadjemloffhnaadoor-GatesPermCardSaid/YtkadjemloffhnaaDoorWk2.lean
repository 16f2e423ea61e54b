/-
  What the functions compute.
-/
import Derived.Test.YtkadjemloffhnaaDoorWk1
set_option linter.unusedSimpArgs false
set_option linter.unusedVariables false
/- Numbers: primes, Fermat, inverses. -/
namespace Go.VE
open Go Go.Proofs
set_option maxRecDepth 20000
def PrimeN (p : Nat) : Prop := 1 < p ∧ ∀ g, g ∣ p → g = 1 ∨ g = p
def ndv (n : Nat) : Nat → Nat → Bool
  | 0, lo => n % lo != 0
  | k + 1, lo => ndv n k lo && ndv n k (lo + 2 ^ k)
theorem ndv_ok {n : Nat} : ∀ {k lo : Nat}, ndv n k lo = true → ∀ d, lo ≤ d → d < lo + 2 ^ k → n % d ≠ 0
  | 0, lo, h, d, h1, h2 => by
    obtain rfl : d = lo := by omega
    simpa [ndv] using h
  | k + 1, lo, h, d, h1, h2 => by
    rw [ndv, Bool.and_eq_true] at h
    rw [Nat.pow_succ] at h2
    rcases Nat.lt_or_ge d (lo + 2 ^ k) with h3 | h3
    · exact ndv_ok h.1 d h1 h3
    · exact ndv_ok h.2 d h3 (by omega)
theorem prime_ndv {n k : Nat} (h : ndv n k 2 = true) (hb : n < (2 + 2 ^ k) * (2 + 2 ^ k)) (hn : 1 < n) : PrimeN n := by
  refine ⟨hn, fun g hg => ?_⟩
  obtain ⟨q, hq⟩ := hg
  have hn' := ndv_ok h
  rcases Nat.lt_or_ge g 2 with h1 | h1
  · have : g ≠ 0 := by rintro rfl; rw [Nat.zero_mul] at hq; omega
    omega
  · rcases Nat.lt_or_ge q 2 with h' | h'
    · have : q ≠ 0 := by rintro rfl; rw [Nat.mul_zero] at hq; omega
      obtain rfl : q = 1 := by omega
      omega
    · exfalso
      rcases Nat.lt_or_ge g (2 + 2 ^ k) with h2 | h2
      · exact hn' g h1 h2 (by rw [hq, Nat.mul_mod_right])
      · rcases Nat.lt_or_ge q (2 + 2 ^ k) with h3 | h3
        · exact hn' q h' h3 (by rw [hq, Nat.mul_mod_left])
        · have := Nat.mul_le_mul h2 h3
          omega
theorem prime_97 : PrimeN 97 := prime_ndv (k := 3) (by decide +kernel) (by decide) (by decide)
theorem prime_257 : PrimeN 257 := prime_ndv (k := 4) (by decide +kernel) (by decide) (by decide)
theorem prime_12289 : PrimeN 12289 := prime_ndv (k := 7) (by decide +kernel) (by decide) (by decide)
theorem prime_998244353 : PrimeN 998244353 := prime_ndv (k := 15) (by decide +kernel) (by decide) (by decide)
theorem PrimeN.cop {p a : Nat} (h : PrimeN p) (ha : a % p ≠ 0) : Nat.Coprime p a := by
  rcases h.2 _ (Nat.gcd_dvd_left p a) with e | e
  · exact e
  · exfalso
    have := Nat.gcd_dvd_right p a
    rw [e] at this
    exact ha (Nat.mod_eq_zero_of_dvd this)
theorem PrimeN.euclid {p m n : Nat} (h : PrimeN p) (hd : p ∣ m * n) : p ∣ m ∨ p ∣ n := by
  by_cases hm : m % p = 0
  · exact .inl (Nat.dvd_of_mod_eq_zero hm)
  · exact .inr ((h.cop hm).dvd_of_dvd_mul_left hd)
theorem mod_sub {p a b : Nat} (h : a ≤ b) : a % p = b % p ↔ p ∣ b - a := by
  constructor
  · intro e
    exact Nat.dvd_of_mod_eq_zero (Nat.sub_mod_eq_zero_of_mod_eq e.symm)
  · rintro ⟨k, hk⟩
    have : b = a + p * k := by omega
    rw [this, Nat.add_mul_mod_self_left]
def prodN : List Nat → Nat
  | [] => 1
  | x :: l => x * prodN l
def factN : Nat → Nat
  | 0 => 1
  | n + 1 => (n + 1) * factN n
theorem prodN_perm {l l' : List Nat} (h : l.Perm l') : prodN l = prodN l' := by
  induction h with
  | nil => rfl
  | cons x _ ih => rw [prodN, prodN, ih]
  | swap x y l => rw [prodN, prodN, prodN, prodN, Nat.mul_left_comm]
  | trans _ _ ih1 ih2 => rw [ih1, ih2]
theorem pigeon : ∀ {n : Nat} {l : List Nat}, l.Nodup → (∀ x ∈ l, 1 ≤ x ∧ x ≤ n) → l.length ≤ n
  | 0, [], _, _ => Nat.le_refl _
  | 0, x :: l, _, h => by have := h x (by simp); omega
  | n + 1, l, hd, h => by
    by_cases hm : n + 1 ∈ l
    · have h1 := pigeon (n := n) (hd.erase (n + 1)) fun x hx => by
        have h2 := (hd.mem_erase_iff).1 hx
        have := h x h2.2
        have := h2.1
        omega
      rw [List.length_erase_of_mem hm] at h1
      omega
    · have := pigeon (n := n) hd fun x hx => by
        have h1 := h x hx
        have : x ≠ n + 1 := fun e => hm (e ▸ hx)
        omega
      omega
theorem prodN_fact : ∀ {n : Nat} {l : List Nat}, l.Nodup → (∀ x ∈ l, 1 ≤ x ∧ x ≤ n) → l.length = n → prodN l = factN n
  | 0, l, _, _, hl => by
    have : l = [] := List.length_eq_zero_iff.1 hl
    subst this
    rfl
  | n + 1, l, hd, h, hl => by
    have hm : n + 1 ∈ l := by
      apply Classical.byContradiction
      intro hm
      have := pigeon (n := n) hd fun x hx => by
        have h1 := h x hx
        have : x ≠ n + 1 := fun e => hm (e ▸ hx)
        omega
      omega
    rw [prodN_perm (List.perm_cons_erase hm), prodN, prodN_fact (n := n) (hd.erase (n + 1)) (fun x hx => by
      have h2 := (hd.mem_erase_iff).1 hx
      have := h x h2.2
      have := h2.1
      omega) (by rw [List.length_erase_of_mem hm]; omega), factN]
theorem fact_ndvd {p : Nat} (h : PrimeN p) : ∀ n, n < p → ¬ p ∣ factN n
  | 0, _ => fun hd => by
    have := Nat.le_of_dvd (by decide) hd
    have := h.1
    have e : factN 0 = 1 := rfl
    omega
  | n + 1, hn => fun hd => by
    rw [factN] at hd
    rcases h.euclid hd with h1 | h1
    · have := Nat.le_of_dvd (by omega) h1
      omega
    · exact fact_ndvd h n (by omega) h1
theorem prodN_map {a p : Nat} : ∀ l : List Nat, prodN (l.map fun i => a * i % p) % p = a ^ l.length * prodN l % p
  | [] => by simp [prodN]
  | x :: l => by
    rw [List.map_cons, prodN, prodN, List.length_cons, Nat.pow_succ, Nat.mod_mul_mod, Nat.mul_mod, prodN_map l, ← Nat.mul_mod]
    congr 1
    rw [Nat.mul_comm (a ^ l.length) a, Nat.mul_assoc, Nat.mul_assoc, Nat.mul_left_comm x]
theorem fermat {p a : Nat} (h : PrimeN p) (ha : a % p ≠ 0) : a ^ (p - 1) % p = 1 := by
  have hp := h.1
  have hc := h.cop ha
  have hl : ((List.range (p - 1)).map (· + 1)).Nodup := by
    rw [List.nodup_iff_pairwise_ne, List.pairwise_map]
    exact (List.pairwise_lt_range).imp fun h => by omega
  have hr : ∀ x ∈ (List.range (p - 1)).map (· + 1), 1 ≤ x ∧ x ≤ p - 1 := fun x hx => by
    obtain ⟨i, hi, rfl⟩ := List.mem_map.1 hx
    have := List.mem_range.1 hi
    omega
  have hn : ((List.range (p - 1)).map (· + 1)).length = p - 1 := by rw [List.length_map, List.length_range]
  have e1 := prodN_fact hl hr hn
  have hl2 : (((List.range (p - 1)).map (· + 1)).map fun i => a * i % p).Nodup := by
    rw [List.map_map, List.nodup_iff_pairwise_ne, List.pairwise_map]
    refine (List.pairwise_lt_range).imp_of_mem fun {i j} hi hj hij => ?_
    have hi' := List.mem_range.1 hi
    have hj' := List.mem_range.1 hj
    intro e
    have e' : a * (i + 1) % p = a * (j + 1) % p := e
    have hd : p ∣ a * (j + 1) - a * (i + 1) := (mod_sub (Nat.mul_le_mul_left a (by omega))).1 e'
    rw [← Nat.mul_sub] at hd
    have := Nat.le_of_dvd (by omega) (hc.dvd_of_dvd_mul_left hd)
    omega
  have hr2 : ∀ x ∈ ((List.range (p - 1)).map (· + 1)).map fun i => a * i % p, 1 ≤ x ∧ x ≤ p - 1 := fun x hx => by
    obtain ⟨i, hi, rfl⟩ := List.mem_map.1 hx
    have := hr i hi
    have hlt := Nat.mod_lt (a * i) (show 0 < p by omega)
    have : a * i % p ≠ 0 := fun e => by
      have := Nat.le_of_dvd (by omega) (hc.dvd_of_dvd_mul_left (Nat.dvd_of_mod_eq_zero e))
      omega
    omega
  have e2 := prodN_fact hl2 hr2 (by rw [List.length_map]; exact hn)
  have e3 := prodN_map (a := a) (p := p) ((List.range (p - 1)).map (· + 1))
  rw [e2, e1, hn] at e3
  have hle : factN (p - 1) ≤ a ^ (p - 1) * factN (p - 1) := Nat.le_mul_of_pos_left _ (Nat.pow_pos (by
    rcases Nat.eq_zero_or_pos a with h0 | h0
    · rw [h0, Nat.zero_mod] at ha; exact absurd rfl ha
    · exact h0))
  have hd : p ∣ a ^ (p - 1) * factN (p - 1) - factN (p - 1) := (mod_sub hle).1 e3
  have hd2 : p ∣ (a ^ (p - 1) - 1) * factN (p - 1) := by rw [Nat.sub_mul, Nat.one_mul]; exact hd
  rcases h.euclid hd2 with h1 | h1
  · have hpos : 1 ≤ a ^ (p - 1) := Nat.pow_pos (by
      rcases Nat.eq_zero_or_pos a with h0 | h0
      · rw [h0, Nat.zero_mod] at ha; exact absurd rfl ha
      · exact h0)
    have := (mod_sub hpos).2 h1
    have e : 1 % p = a ^ (p - 1) % p := this
    rw [← e, Nat.mod_eq_of_lt hp]
  · exact absurd h1 (fact_ndvd h _ (by omega))
theorem inv_one {p a : Nat} (h : PrimeN p) (ha : a % p ≠ 0) {x : Int} (h0 : 0 ≤ x) (h1 : x < p) (hx : (p : Int) ∣ x * a - 1) : x = (a : Int) ^ (p - 2) % p := by
  have hp := h.1
  have hf := fermat h ha
  have hfi : (p : Int) ∣ (a : Int) ^ (p - 1) - 1 := by
    have hpos : 1 ≤ a ^ (p - 1) := Nat.pow_pos (by
      rcases Nat.eq_zero_or_pos a with h0 | h0
      · rw [h0, Nat.zero_mod] at ha; exact absurd rfl ha
      · exact h0)
    have hd : p ∣ a ^ (p - 1) - 1 := (mod_sub hpos).1 (by show 1 % p = _; rw [hf, Nat.mod_eq_of_lt hp])
    have := Int.natCast_dvd_natCast.2 hd
    rw [Int.natCast_sub hpos, Int.natCast_pow] at this
    exact this
  have e : (a : Int) ^ (p - 1) = (a : Int) ^ (p - 2) * a := by rw [← Int.pow_succ]; congr 1; omega
  rw [e] at hfi
  have hd : (p : Int) ∣ (x - (a : Int) ^ (p - 2)) * a := by
    have := Int.dvd_sub hx hfi
    have e2 : x * a - 1 - ((a : Int) ^ (p - 2) * a - 1) = (x - (a : Int) ^ (p - 2)) * a := by rw [Int.sub_mul]; omega
    rw [e2] at this
    exact this
  have hn : p ∣ (x - (a : Int) ^ (p - 2)).natAbs * a := by
    have := Int.natAbs_dvd_natAbs.2 hd
    rw [Int.natAbs_mul, Int.natAbs_natCast, Int.natAbs_natCast] at this
    exact this
  have h2 : p ∣ (x - (a : Int) ^ (p - 2)).natAbs := (h.cop ha).dvd_of_dvd_mul_right hn
  have h3 : (p : Int) ∣ x - (a : Int) ^ (p - 2) := Int.natAbs_dvd_natAbs.1 (by rw [Int.natAbs_natCast]; exact h2)
  have h4 := Int.emod_emod_of_dvd x (Int.dvd_refl (p : Int))
  have h5 : x % p = (a : Int) ^ (p - 2) % p := Int.emod_eq_emod_iff_emod_sub_eq_zero.2 (Int.emod_eq_zero_of_dvd h3)
  rw [← h5, Int.emod_eq_of_lt h0 h1]
structure Euc (p a : Nat) (r s : Nat) (x y : Int) : Prop where
  gcd : Nat.gcd r s = 1
  lt : s < r
  rx : (p : Int) ∣ x * a - r
  sy : (p : Int) ∣ y * a - s
  sum : y.natAbs * r + x.natAbs * s = p
  sg : (0 ≤ x ∧ y ≤ 0) ∨ (x ≤ 0 ∧ 0 ≤ y)
  xb : x.natAbs < p
theorem Euc.start {p a : Nat} (h : PrimeN p) (ha : a % p ≠ 0) (hl : a < p) : Euc p a p a 0 1 := by
  refine ⟨h.cop ha, hl, ?_, ?_, by simp, .inr ⟨Int.le_refl _, by decide⟩, by have := h.1; simp; omega⟩
  · rw [Int.zero_mul, Int.zero_sub]; exact (Int.dvd_neg).2 (Int.dvd_refl _)
  · rw [Int.one_mul, Int.sub_self]; exact Int.dvd_zero _
theorem Euc.step {p a r s : Nat} {x y : Int} (h : Euc p a r s x y) (hs : s ≠ 0) : Euc p a s (r % s) y (x - (r / s : Nat) * y) ∧ (x - (r / s : Nat) * y).natAbs ≤ p ∧ ((r / s : Nat) * y).natAbs ≤ p := by
  have hdm := Nat.div_add_mod r s
  have hlt := Nat.mod_lt r (Nat.pos_of_ne_zero hs)
  have hr2 : 2 ≤ r := by have := h.lt; omega
  have hq : ((r / s : Nat) * y).natAbs = r / s * y.natAbs := by rw [Int.natAbs_mul, Int.natAbs_natCast]
  have hm0 : 0 ≤ y → 0 ≤ ((r / s : Nat) : Int) * y := fun hy => Int.mul_nonneg (Int.natCast_nonneg _) hy
  have hm1 : y ≤ 0 → ((r / s : Nat) : Int) * y ≤ 0 := fun hy => Int.mul_nonpos_of_nonneg_of_nonpos (Int.natCast_nonneg _) hy
  have habs : (x - (r / s : Nat) * y).natAbs = x.natAbs + r / s * y.natAbs := by
    rw [← hq]
    rcases h.sg with ⟨a1, a2⟩ | ⟨a1, a2⟩
    · have := hm1 a2; omega
    · have := hm0 a2; omega
  have hsum : (x - (r / s : Nat) * y).natAbs * s + y.natAbs * (r % s) = p := by
    rw [habs, Nat.add_mul, ← h.sum]
    have e : y.natAbs * r = y.natAbs * (s * (r / s)) + y.natAbs * (r % s) := by rw [← Nat.mul_add, hdm]
    rw [e]
    have e2 : r / s * y.natAbs * s = y.natAbs * (s * (r / s)) := by rw [Nat.mul_comm (r / s), Nat.mul_assoc, Nat.mul_comm (r / s)]
    omega
  have hle : (x - (r / s : Nat) * y).natAbs ≤ p := by
    have : (x - (r / s : Nat) * y).natAbs * 1 ≤ (x - (r / s : Nat) * y).natAbs * s := Nat.mul_le_mul_left _ (by omega)
    omega
  refine ⟨⟨?_, hlt, h.sy, ?_, hsum, ?_, ?_⟩, hle, by rw [hq]; omega⟩
  · rw [← h.gcd, Nat.gcd_comm r s, Nat.gcd_rec s r, Nat.gcd_comm]
  · have h1 := Int.dvd_sub h.rx (Int.dvd_mul_of_dvd_right (b := ((r / s : Nat) : Int)) h.sy)
    have e : x * a - r - ((r / s : Nat) : Int) * (y * a - s) = (x - (r / s : Nat) * y) * a - (r % s : Nat) := by
      have e3 : (r : Int) = s * (r / s : Nat) + (r % s : Nat) := by rw [← Int.natCast_mul, ← Int.natCast_add, hdm]
      rw [Int.mul_sub, Int.sub_mul, Int.mul_assoc, Int.mul_comm ((r / s : Nat) : Int) (s : Int)]
      omega
    rw [e] at h1
    exact h1
  · rcases h.sg with ⟨a1, a2⟩ | ⟨a1, a2⟩
    · have := hm1 a2; exact .inr ⟨a2, by omega⟩
    · have := hm0 a2; exact .inl ⟨a2, by omega⟩
  · have h1 := h.sum
    have : y.natAbs * 2 ≤ y.natAbs * r := Nat.mul_le_mul_left _ hr2
    have h2 := h.xb
    by_cases hy : y.natAbs = 0
    · omega
    · omega
theorem Euc.done {p a r : Nat} {x y : Int} (hp : PrimeN p) (ha : a % p ≠ 0) (h : Euc p a r 0 x y) : (if x < 0 then x + p else x) = (a : Int) ^ (p - 2) % p := by
  have hr : r = 1 := by have := h.gcd; rw [Nat.gcd_zero_right] at this; exact this
  subst hr
  have hx := h.rx
  have hb := h.xb
  split
  · refine inv_one hp ha (by omega) (by omega) ?_
    have := Int.dvd_add hx (Int.dvd_mul_right (p : Int) a)
    have e : x * a - (1 : Nat) + p * a = (x + p) * a - 1 := by rw [Int.add_mul]; omega
    rw [e] at this
    exact this
  · exact inv_one hp ha (by omega) (by omega) hx
theorem fP_prime {f : Int} (h : fV f = true) : PrimeN (fP f).toNat := by
  rcases fV_cases h with rfl | rfl | rfl | rfl
  · exact prime_97
  · exact prime_257
  · exact prime_12289
  · exact prime_998244353
end Go.VE
/- The fields of the program: Generator, Exponent, Pow, Inv, Div. -/
namespace Go.VE
open Go Go.Proofs
set_option maxRecDepth 20000
theorem and1_64 {x : Int} (h0 : 0 ≤ x) (h1 : x < 2 ^ 64) : ((BitVec.ofInt 64 x &&& BitVec.ofInt 64 1).toNat : Int) = x % 2 := by
  rw [BitVec.toNat_and]
  have e1 : (BitVec.ofInt 64 x).toNat = x.toNat := by
    rw [BitVec.toNat_ofInt]
    congr 1
    exact Int.emod_eq_of_lt h0 h1
  have e2 : (BitVec.ofInt 64 1).toNat = 1 := rfl
  rw [e1, e2, Nat.and_one_is_mod]
  omega
theorem andU1 {x : Int} (h0 : 0 ≤ x) (h1 : x < 2 ^ 64) : abinInt P .and .u64 x .u64 1 = some (.int .u64 (x % 2)) := by
  rw [int_and keq_u64]
  have e : IntKind.u64.bits = 64 := rfl
  rw [e, and1_64 h0 h1, wrap_u64 (by omega) (by omega)]
theorem shrU1 {x : Int} (h0 : 0 ≤ x) : abinInt P .shr .u64 x .u64 1 = some (.int .u64 (x / 2)) := by
  rw [int_shr _ _ _ _ (by decide)]
  have e : (2 : Int) ^ min (1 : Int).toNat IntKind.u64.bits = 2 := rfl
  rw [e, Int.fdiv_eq_ediv_of_nonneg _ (by decide)]
theorem emod_pow (a p : Int) : ∀ n : Nat, (a % p) ^ n % p = a ^ n % p
  | 0 => by rw [Int.pow_zero, Int.pow_zero]
  | n + 1 => by rw [Int.pow_succ, Int.pow_succ, Int.mul_emod, emod_pow a p n, Int.emod_emod, ← Int.mul_emod]
theorem mulL (a b p : Int) : (a % p) * b % p = a * b % p := by rw [Int.mul_emod, Int.emod_emod, ← Int.mul_emod]
section
variable {ro : Nat} {s : St} {K : Value → St → Prop}
theorem conv_u64_i64 (a : Int) (ty : TypeId) (s : St) (K : Value → St → Prop) : wop P ro (.convert 38 2 (.const (.int .u64 a))) ty s K = K (.int .i64 (IntKind.i64.wrap a)) s := by kernel_rfl
theorem conv_i64_u64 (a : Int) (ty : TypeId) (s : St) (K : Value → St → Prop) : wop P ro (.convert 2 38 (.const (.int .i64 a))) ty s K = K (.int .u64 (IntKind.u64.wrap a)) s := by kernel_rfl
theorem wfGen (f : Int) (hw : Wf s) (hro : ro ≤ s.n) (hG : FieldsAt s) : CallWP P ro 74 [.int .i64 f] s K = K (.int .u64 (fGen f)) s := by
  refine callEq (call_wp b74 rfl ?_) K
  rw [n74]
  unfold v74
  simp only [wW, reduceCtorEq, Nat.reduceEqDiff]
  refine wfOf f hw.ent hro hG fun x n c s' hg => ?_
  rw [fd_75_1, ap_38]
  simp only [wopt_some, List.getElem?_cons_zero, List.getElem?_cons_succ]
  rw [wfin_flat (by rw [hg.lo]; exact Nat.le_refl _) rfl]
  exact ⟨rfl, rfl⟩
theorem wfExp (f : Int) (hw : Wf s) (hro : ro ≤ s.n) (hG : FieldsAt s) : CallWP P ro 75 [.int .i64 f] s K = K (.int .i64 (fExp f)) s := by
  refine callEq (call_wp b75 rfl ?_) K
  rw [n75]
  unfold v75
  simp only [wW, reduceCtorEq, Nat.reduceEqDiff]
  refine wfOf f hw.ent hro hG fun x n c s' hg => ?_
  rw [fd_75_3, ap_3]
  simp only [wopt_some, List.getElem?_cons_zero, List.getElem?_cons_succ]
  rw [wfin_flat (by rw [hg.lo]; exact Nat.le_refl _) rfl]
  exact ⟨rfl, rfl⟩
theorem wfPow (f : Int) {a n : Int} (ha : 0 ≤ a) (hn : 0 ≤ n) (hn2 : n < 2 ^ 64) (hw : Wf s) (hro : ro ≤ s.n) (hG : FieldsAt s) : CallWP P ro 70 [.int .i64 f, .int .u64 a, .int .u64 n] s K = K (.int .u64 (fPow f a n)) s := by
  refine callEq (call_wp b70 rfl ?_) K
  rw [n70]
  unfold v70
  simp (maxSteps := 10000000) only [wW, reduceCtorEq, Nat.reduceEqDiff]
  rw [wfValid]
  cases hv : fV f with
  | false =>
    simp (maxSteps := 10000000) only [wW, reduceCtorEq, Nat.reduceEqDiff]
    refine fin_flat rfl (.refl _) ⟨?_, rfl⟩
    unfold fPow
    rw [hv]; rfl
  | true =>
    simp (maxSteps := 10000000) only [wW, reduceCtorEq, Nat.reduceEqDiff]
    have hp := fP_pos hv
    have hp1 : 1 < fP f := by rcases fV_cases hv with rfl | rfl | rfl | rfl <;> decide
    have hb : ∀ x y : Int, 0 ≤ fMul f x y ∧ fMul f x y < fP f := fun x y => by
      unfold fMul
      rw [if_pos hv]
      exact mod_bounds hp
    have hm : ∀ x y : Int, fMul f x y = x * y % fP f := fun x y => by unfold fMul; rw [if_pos hv]
    refine wloop l70_111000 m70_111000 (fun (m : Nat) τ ds s' => ds = [] ∧ s' = ent s ∧ τ 0 = .int .i64 f ∧ ∃ a' out : Int, τ 1 = .int .u64 a' ∧ τ 2 = .int .u64 m ∧ τ 7 = .int .u64 out ∧ 0 ≤ a' ∧ (0 ≤ out ∧ out < fP f) ∧ (m : Int) < 2 ^ 64 ∧ out * a' ^ m % fP f = fPow f a n) (fun m => m) ?_ n.toNat ⟨rfl, rfl, ?_, a, 1, ?_, ?_, ?_, ha, ⟨by decide, hp1⟩, by omega, ?_⟩
    · rintro m τ ds s' ⟨rfl, rfl, t0, a', out, t1, t2, t7, ha', ho, hm64, hinv⟩
      rw [n70_111000]
      unfold v70_111000
      simp (maxSteps := 10000000) only [wW, reduceCtorEq, Nat.reduceEqDiff, t0, t1, t2, t7]
      by_cases h0 : m = 0
      · subst h0
        rw [if_neg (by omega)]
        rw [Int.pow_zero, Int.mul_one, Int.emod_eq_of_lt ho.1 ho.2] at hinv
        simp (maxSteps := 10000000) only [U, tset_eq, wW, reduceCtorEq, Nat.reduceEqDiff, t7]
        exact fin_flat rfl (.refl _) ⟨by rw [hinv], rfl⟩
      · rw [if_pos (by omega), andU1 (by omega) hm64, wopt_some]
        simp (maxSteps := 10000000) only [wW, reduceCtorEq, Nat.reduceEqDiff]
        have hdiv : ((m : Int) / 2) = ((m / 2 : Nat) : Int) := by omega
        by_cases h1 : (m : Int) % 2 = 1
        · rw [if_pos h1, wfMul f ho.1 ha' hw.ent hro hG, wfMul f ha' ha' hw.ent hro hG, shrU1 (by omega), wopt_some]
          refine ⟨m / 2, by omega, trivial, rfl, ?_, fMul f a' a', fMul f out a', ?_, ?_, ?_, (hb _ _).1, hb _ _, by omega, ?_⟩
          · simp only [U, tset_eq, wW, reduceCtorEq, Nat.reduceEqDiff, t0]
          · simp only [U, tset_eq, wW, reduceCtorEq, Nat.reduceEqDiff]
          · simp only [U, tset_eq, wW, reduceCtorEq, Nat.reduceEqDiff, hdiv]
          · simp only [U, tset_eq, wW, reduceCtorEq, Nat.reduceEqDiff]
          · rw [← hinv, hm, hm, Int.mul_emod, emod_pow, ← Int.mul_emod, mulL]
            have e : m = 1 + 2 * (m / 2) := by omega
            have e2 : a' ^ m = a' * (a' * a') ^ (m / 2) := by
              conv => lhs; rw [e, Int.pow_add, Int.pow_one, Int.pow_mul, Int.pow_succ, Int.pow_one]
            rw [e2, Int.mul_assoc]
        · rw [if_neg h1, wfMul f ha' ha' hw.ent hro hG, shrU1 (by omega), wopt_some]
          refine ⟨m / 2, by omega, trivial, rfl, ?_, fMul f a' a', out, ?_, ?_, ?_, (hb _ _).1, ho, by omega, ?_⟩
          · simp only [U, tset_eq, wW, reduceCtorEq, Nat.reduceEqDiff, t0]
          · simp only [U, tset_eq, wW, reduceCtorEq, Nat.reduceEqDiff]
          · simp only [U, tset_eq, wW, reduceCtorEq, Nat.reduceEqDiff, hdiv]
          · simp only [U, tset_eq, wW, reduceCtorEq, Nat.reduceEqDiff, t7]
          · rw [← hinv, hm, Int.mul_emod, emod_pow, ← Int.mul_emod]
            have e : m = 2 * (m / 2) := by omega
            have e2 : a' ^ m = (a' * a') ^ (m / 2) := by
              conv => lhs; rw [e, Int.pow_mul, Int.pow_succ, Int.pow_one]
            rw [e2]
    · simp only [U, tset_eq, wW, reduceCtorEq, Nat.reduceEqDiff]
    · simp only [U, tset_eq, wW, reduceCtorEq, Nat.reduceEqDiff]
    · simp only [U, tset_eq, wW, reduceCtorEq, Nat.reduceEqDiff]
      rw [Int.toNat_of_nonneg hn]
    · simp only [U, tset_eq, wW, reduceCtorEq, Nat.reduceEqDiff]
    · unfold fPow
      rw [hv, Int.one_mul, if_pos rfl]
theorem wfInv (f : Int) {a : Int} (ha : 0 ≤ a) (hw : Wf s) (hro : ro ≤ s.n) (hG : FieldsAt s) : CallWP P ro 55 [.int .i64 f, .int .u64 a] s K = K (.int .u64 (fInv f a)) s := by
  refine callEq (call_wp b55 rfl ?_) K
  rw [n55]
  unfold v55
  simp (maxSteps := 10000000) only [wW, reduceCtorEq, Nat.reduceEqDiff]
  rw [wfP f hw.ent hro hG]
  simp (maxSteps := 10000000) only [wW, reduceCtorEq, Nat.reduceEqDiff]
  cases hv : fV f with
  | false =>
    rw [fP_zero hv, if_pos rfl]
    refine fin_flat rfl (.refl _) ⟨?_, rfl⟩
    unfold fInv fPow
    rw [hv]; rfl
  | true =>
    have hp := fP_pos hv
    have hl := fP_lt f
    have hpr := fP_prime hv
    have hp1 := hpr.1
    have hb := mod_bounds (a := a) hp
    have hI : fInv f a = (a % fP f) ^ ((fP f).toNat - 2) % fP f := by
      unfold fInv fPow
      rw [if_pos hv, emod_pow]
      congr 2
      omega
    rw [if_neg (by omega), int_rem keq_u64 _ _ (by omega), wopt_some, tmod_nonneg ha]
    simp (maxSteps := 10000000) only [wW, reduceCtorEq, Nat.reduceEqDiff]
    by_cases h0 : a % fP f = 0
    · rw [if_pos h0]
      refine fin_flat rfl (.refl _) ⟨?_, rfl⟩
      have hk : (fP f).toNat - 2 ≠ 0 := by rcases fV_cases hv with rfl | rfl | rfl | rfl <;> decide
      rw [hI, h0, Int.zero_pow hk, Int.zero_emod]
    · rw [if_neg h0, conv_u64_i64, wrap_i64 (by omega) (by omega)]
      refine ⟨rfl, ?_⟩
      rw [conv_u64_i64, wrap_i64 (by omega) (by omega)]
      refine ⟨rfl, ?_⟩
      rw [hI]
      have hpN : ((fP f).toNat : Int) = fP f := Int.toNat_of_nonneg (by omega)
      have hbN : ((a % fP f).toNat : Int) = a % fP f := Int.toNat_of_nonneg hb.1
      have haN : (a % fP f).toNat % (fP f).toNat ≠ 0 := by rw [Nat.mod_eq_of_lt (by omega)]; omega
      have hst := Euc.start hpr haN (by omega)
      refine wloop l55_11111000 m55_11111000 (fun (m : Nat) τ ds s' => ds = [] ∧ s' = ent s ∧ τ 5 = .int .u64 (fP f) ∧ ∃ (r : Nat) (x y : Int), τ 6 = .int .i64 r ∧ τ 7 = .int .i64 m ∧ τ 8 = .int .i64 x ∧ τ 9 = .int .i64 y ∧ Euc (fP f).toNat (a % fP f).toNat r m x y ∧ r ≤ (fP f).toNat) (fun m => m) ?_ (a % fP f).toNat ⟨rfl, rfl, ?_, (fP f).toNat, 0, 1, ?_, ?_, ?_, ?_, hst, Nat.le_refl _⟩
      · rintro m τ ds s' ⟨rfl, rfl, t5, r, x, y, t6, t7, t8, t9, hE, hr⟩
        rw [n55_11111000]
        unfold v55_11111000
        simp (maxSteps := 10000000) only [wW, reduceCtorEq, Nat.reduceEqDiff, t5, t6, t7, t8, t9]
        by_cases hm : m = 0
        · subst hm
          have hd := hE.done hpr haN
          rw [hpN, hbN] at hd
          have hxb := hE.xb
          rw [if_neg (by simp)]
          simp (maxSteps := 10000000) only [U, tset_eq, wW, reduceCtorEq, Nat.reduceEqDiff, t5, t8]
          by_cases hx : x < 0
          · rw [if_pos hx] at hd ⊢
            rw [conv_u64_i64, wrap_i64 (by omega) (by omega)]
            simp (maxSteps := 10000000) only [wW, reduceCtorEq, Nat.reduceEqDiff]
            rw [wrap_i64 (by omega) (by omega), conv_i64_u64, wrap_u64 (by omega) (by omega), hd]
            exact fin_flat rfl (.refl _) ⟨rfl, rfl⟩
          · rw [if_neg hx] at hd ⊢
            rw [conv_i64_u64, wrap_u64 (by omega) (by omega), hd]
            exact fin_flat rfl (.refl _) ⟨rfl, rfl⟩
        · obtain ⟨h1, h2, h3⟩ := hE.step hm
          have hlt := hE.lt
          have hdm := Nat.div_add_mod r m
          have hml := Nat.mod_lt r (Nat.pos_of_ne_zero hm)
          have hq : Int.tdiv (r : Int) (m : Int) = ((r / m : Nat) : Int) := by rw [Int.tdiv_eq_ediv_of_nonneg (by omega)]; rfl
          have hq0 : (0 : Int) ≤ ((r / m : Nat) : Int) := Int.natCast_nonneg _
          have hqb : ((r / m : Nat) : Int) ≤ r := by have := Nat.div_le_self r m; omega
          have hqs : ((r / m : Nat) : Int) * (m : Int) = ((r - r % m : Nat) : Int) := by rw [← Int.natCast_mul]; congr 1; rw [Nat.mul_comm]; omega
          rw [if_pos (by omega), int_quo keq_i64 _ _ (by omega), wopt_some, hq, wrap_i64 (by omega) (by omega)]
          simp (maxSteps := 10000000) only [wW, reduceCtorEq, Nat.reduceEqDiff]
          rw [hqs, wrap_i64 (n := ((r - r % m : Nat) : Int)) (by omega) (by omega)]
          have e1 : (r : Int) - ((r - r % m : Nat) : Int) = ((r % m : Nat) : Int) := by have := Nat.mod_le r m; omega
          rw [e1, wrap_i64 (n := ((r % m : Nat) : Int)) (by omega) (by omega), wrap_i64 (n := ((r / m : Nat) : Int) * y) (by omega) (by omega), wrap_i64 (n := x - ((r / m : Nat) : Int) * y) (by omega) (by omega)]
          refine ⟨r % m, hml, trivial, trivial, ?_, m, y, x - ((r / m : Nat) : Int) * y, ?_, ?_, ?_, ?_, h1, by omega⟩
          · simp only [U, tset_eq, wW, reduceCtorEq, Nat.reduceEqDiff, t5]
          · simp only [U, tset_eq, wW, reduceCtorEq, Nat.reduceEqDiff]
          · simp only [U, tset_eq, wW, reduceCtorEq, Nat.reduceEqDiff]
          · simp only [U, tset_eq, wW, reduceCtorEq, Nat.reduceEqDiff]
          · simp only [U, tset_eq, wW, reduceCtorEq, Nat.reduceEqDiff]
      · simp only [U, tset_eq, wW, reduceCtorEq, Nat.reduceEqDiff]
      · simp only [U, tset_eq, wW, reduceCtorEq, Nat.reduceEqDiff, hpN]
      · simp only [U, tset_eq, wW, reduceCtorEq, Nat.reduceEqDiff, hbN]
      · simp only [U, tset_eq, wW, reduceCtorEq, Nat.reduceEqDiff]
      · simp only [U, tset_eq, wW, reduceCtorEq, Nat.reduceEqDiff]
theorem wfDiv (f : Int) {a b : Int} (ha : 0 ≤ a) (hb : 0 ≤ b) (hw : Wf s) (hro : ro ≤ s.n) (hG : FieldsAt s) : CallWP P ro 31 [.int .i64 f, .int .u64 a, .int .u64 b] s K = K (.int .u64 (fDiv f a b)) s := by
  refine callEq (call_wp b31 rfl ?_) K
  rw [n31]
  unfold v31
  simp (maxSteps := 10000000) only [wW, reduceCtorEq, Nat.reduceEqDiff]
  rw [wfInv f hb hw.ent hro hG, wfMul f ha (show 0 ≤ fInv f b from (fPow_bounds f b _).1) hw.ent hro hG]
  exact fin_flat rfl (.refl _) ⟨rfl, rfl⟩
end
end Go.VE
/- The program's sponge: a round. -/
namespace Go.VE
open Go Go.Proofs
set_option maxRecDepth 20000
def sqR (f r : Int) (l : List Int) (j : Nat) : Int := fPow f (fAdd f (at0 l j) (fConst f r j)) (fExp f)
def mixT (f a b c d : Int) (s : Int × Int) : Int := (a + b + c + d + s.1 + 2 * s.2) % fP f
theorem len4' {l : List Int} (h : l.length = 4) : ∃ a b c d, l = [a, b, c, d] := by
  match l, h with
  | [a, b, c, d], _ => exact ⟨a, b, c, d, rfl⟩
theorem mix_row {f : Int} (hv : fV f = true) (m0 m1 m2 m3 a b c d : Int) : fAdd f (fAdd f (fAdd f (fAdd f 0 (fMul f m0 a)) (fMul f m1 b)) (fMul f m2 c)) (fMul f m3 d) = (m0 * a + m1 * b + m2 * c + m3 * d) % fP f := by
  unfold fAdd fMul
  simp only [hv, if_true, Int.zero_add, Int.emod_add_emod, Int.add_emod_emod, Int.emod_emod]
theorem roundM_out {f : Int} (hv : fV f = true) (r : Int) {l : List Int} (hl : l.length = 4) :
    roundM f r l = [mixT f (sqR f r l 0) (sqR f r l 1) (sqR f r l 2) (sqR f r l 3) (sqR f r l 0, sqR f r l 1), mixT f (sqR f r l 0) (sqR f r l 1) (sqR f r l 2) (sqR f r l 3) (sqR f r l 1, sqR f r l 2), mixT f (sqR f r l 0) (sqR f r l 1) (sqR f r l 2) (sqR f r l 3) (sqR f r l 2, sqR f r l 3), mixT f (sqR f r l 0) (sqR f r l 1) (sqR f r l 2) (sqR f r l 3) (sqR f r l 3, sqR f r l 0)] := by
  obtain ⟨a, b, c, d, rfl⟩ := len4' hl
  have hS : rnS f r [a, b, c, d] = [sqR f r [a, b, c, d] 0, sqR f r [a, b, c, d] 1, sqR f r [a, b, c, d] 2, sqR f r [a, b, c, d] 3] := rfl
  unfold roundM
  rw [hS]
  generalize sqR f r [a, b, c, d] 0 = x0
  generalize sqR f r [a, b, c, d] 1 = x1
  generalize sqR f r [a, b, c, d] 2 = x2
  generalize sqR f r [a, b, c, d] 3 = x3
  have hR : it (rnD f [x0, x1, x2, x3]) 4 [0, 0, 0, 0] = [fAdd f (fAdd f (fAdd f (fAdd f 0 (fMul f 2 x0)) (fMul f 3 x1)) (fMul f 1 x2)) (fMul f 1 x3), fAdd f (fAdd f (fAdd f (fAdd f 0 (fMul f 1 x0)) (fMul f 2 x1)) (fMul f 3 x2)) (fMul f 1 x3), fAdd f (fAdd f (fAdd f (fAdd f 0 (fMul f 1 x0)) (fMul f 1 x1)) (fMul f 2 x2)) (fMul f 3 x3), fAdd f (fAdd f (fAdd f (fAdd f 0 (fMul f 3 x0)) (fMul f 1 x1)) (fMul f 1 x2)) (fMul f 2 x3)] := by kernel_rfl
  rw [hR, mix_row hv, mix_row hv, mix_row hv, mix_row hv]
  have e0 : 2 * x0 + 3 * x1 + 1 * x2 + 1 * x3 = x0 + x1 + x2 + x3 + x0 + 2 * x1 := by omega
  have e1 : 1 * x0 + 2 * x1 + 3 * x2 + 1 * x3 = x0 + x1 + x2 + x3 + x1 + 2 * x2 := by omega
  have e2 : 1 * x0 + 1 * x1 + 2 * x2 + 3 * x3 = x0 + x1 + x2 + x3 + x2 + 2 * x3 := by omega
  have e3 : 3 * x0 + 1 * x1 + 1 * x2 + 2 * x3 = x0 + x1 + x2 + x3 + x3 + 2 * x0 := by omega
  simp only [mixT]
  rw [e0, e1, e2, e3]
def kJ (f k : Int) : Nat → Int
  | 0 => k
  | j + 1 => kJ f k j * fGen f % fP f
def stJ (f k : Int) (j : Nat) (l : List Int) : List Int := l.set j (fPow f ((at0 l j + kJ f k (j + 1) + 7) % fP f) (fExp f))
def red4 (f : Int) (j : Nat) (l : List Int) : List Int := l.set j (at0 l j % fP f)
theorem kJ_pow {f : Int} (hv : fV f = true) (r : Int) (hr : 0 ≤ r) : ∀ j : Nat, kJ f (fPow f (fGen f) (4 * r)) j = fPow f (fGen f) (4 * r + j)
  | 0 => by rw [kJ]; congr 1; omega
  | j + 1 => by
    rw [kJ, kJ_pow hv r hr j]
    unfold fPow
    rw [if_pos hv, if_pos hv, mulL, ← Int.pow_succ]
    congr 2
    omega
theorem stJ_out {f : Int} (hv : fV f = true) {r : Int} (hr : 0 ≤ r) {l : List Int} (hl : l.length = 4) :
    it (stJ f (fPow f (fGen f) (4 * r))) 4 (it (red4 f) 4 l) = [sqR f r l 0, sqR f r l 1, sqR f r l 2, sqR f r l 3] := by
  obtain ⟨a, b, c, d, rfl⟩ := len4' hl
  have hA : it (red4 f) 4 [a, b, c, d] = [a % fP f, b % fP f, c % fP f, d % fP f] := rfl
  rw [hA]
  have hB : it (stJ f (fPow f (fGen f) (4 * r))) 4 [a % fP f, b % fP f, c % fP f, d % fP f] = [fPow f ((a % fP f + kJ f (fPow f (fGen f) (4 * r)) 1 + 7) % fP f) (fExp f), fPow f ((b % fP f + kJ f (fPow f (fGen f) (4 * r)) 2 + 7) % fP f) (fExp f), fPow f ((c % fP f + kJ f (fPow f (fGen f) (4 * r)) 3 + 7) % fP f) (fExp f), fPow f ((d % fP f + kJ f (fPow f (fGen f) (4 * r)) 4 + 7) % fP f) (fExp f)] := rfl
  rw [hB]
  have key : ∀ (x : Int) (j : Nat), fPow f ((x % fP f + kJ f (fPow f (fGen f) (4 * r)) (j + 1) + 7) % fP f) (fExp f) = fPow f (fAdd f x (fConst f r j)) (fExp f) := fun x j => by
    rw [kJ_pow hv r hr]
    congr 1
    unfold fConst fAdd
    simp only [hv, if_true]
    rw [Int.add_emod_emod, Int.add_assoc, Int.emod_add_emod]
    congr 3
    congr 1
    omega
  rw [key, key, key, key]
  rfl
section
variable {ro : Nat} {s : St} {K : Value → St → Prop}
def mxc (f : Int) : List Value := [.int .u64 (fP f), .int .u64 (fGen f), .bool (decide (fExp f = 5))]
theorem mx0 (f : Int) : (mxc f)[0]? = some (.int .u64 (fP f)) := rfl
theorem mx1 (f : Int) : (mxc f)[1]? = some (.int .u64 (fGen f)) := rfl
theorem mx2 (f : Int) : (mxc f)[2]? = some (.bool (decide (fExp f = 5))) := rfl
theorem mxVeq (f : Int) : veq (.agg (mxc f).toArray) (.agg (mxc f).toArray) = true := by simp [veq, veqA, veqL, mxc]
theorem mfa0 (A : Nat) : afieldAddr P 79 (ptr A) 0 = some (.pointer (some ⟨A, 0, none⟩)) := by kernel_rfl
theorem mfa1 (A : Nat) : afieldAddr P 79 (ptr A) 1 = some (.pointer (some ⟨A, 1, none⟩)) := by kernel_rfl
theorem mfa2 (A : Nat) : afieldAddr P 79 (ptr A) 2 = some (.pointer (some ⟨A, 2, none⟩)) := by kernel_rfl
theorem buildMx (a b : Int) (c : Bool) : abuild P 79 (partVals .e [(0, .const (.int .u64 a)), (1, .const (.int .u64 b)), (2, .const (.bool c))]) = some (.agg (.mk [.int .u64 a, .int .u64 b, .bool c])) := by kernel_rfl
theorem wKnown (f r : Int) : CallWP P ro 67 [.int .i64 f, .int .i64 r] s K = K (.bool (fV f && (decide (0 ≤ r) && decide (r < 8)))) s := by
  refine callEq (call_wp b67 rfl ?_) K
  rw [n67]
  unfold v67
  simp (maxSteps := 10000000) only [wW, reduceCtorEq, Nat.reduceEqDiff]
  rw [wfValid]
  cases hv : fV f with
  | false =>
    simp (maxSteps := 10000000) only [wW, reduceCtorEq, Nat.reduceEqDiff]
    exact fin_flat rfl (.refl _) ⟨rfl, rfl⟩
  | true =>
    simp (maxSteps := 10000000) only [wW, reduceCtorEq, Nat.reduceEqDiff]
    by_cases h0 : 0 ≤ r
    · rw [if_pos (by omega), decide_eq_true h0]
      exact fin_flat rfl (.refl _) ⟨rfl, rfl⟩
    · rw [if_neg (by omega), decide_eq_false h0]
      exact fin_flat rfl (.refl _) ⟨rfl, rfl⟩
theorem wIn (f : Int) (hw : Wf s) (hro : ro ≤ s.n) (hG : FieldsAt s) (hr0 : 0 < ro) : CallWP P ro 68 [.int .i64 f] s K = K (.agg (.mk (mxc f))) s := by
  refine callEq (call_wp b68 rfl ?_) K
  rw [n68]
  unfold v68
  simp (maxSteps := 10000000) only [wW, reduceCtorEq, Nat.reduceEqDiff]
  refine alloc_rule ty_79 hw.ent fun M s1 m1 => ?_
  have e1 := m1.eq
  have n1 := m1.n
  have hn0 : (ent s).n = s.n := rfl
  have hG1 : FieldsAt s1 := FieldsAt.grew (s := ent s) hG m1.grew
  rw [wfP f m1.wf (by omega) hG1, wfGen f m1.wf (by omega) hG1, wfExp f m1.wf (by omega) hG1]
  simp (maxSteps := 10000000) only [wW, reduceCtorEq, Nat.reduceEqDiff, buildMx]
  refine storeAll_rule isz_79 m1.here (l := mxc f) rfl (by decide) m1.wf (by omega) rfl rfl fun s2 p2 => ?_
  refine load_rule (load_all ap_79 p2.here rfl) ?_
  exact fin_flat rfl (p2.grew _ hw.ent m1.grew (by omega)) ⟨rfl, rfl⟩
theorem mul_lt30 {x y : Int} (h0 : 0 ≤ x) (h1 : x < 2 ^ 30) (h2 : 0 ≤ y) (h3 : y < 2 ^ 30) : 0 ≤ x * y ∧ x * y < 2 ^ 60 := by
  refine ⟨Int.mul_nonneg h0 h2, ?_⟩
  have : x * y ≤ (2 ^ 30 - 1) * (2 ^ 30 - 1) := Int.mul_le_mul (by omega) (by omega) h2 (by decide)
  omega
theorem wPower (f : Int) (hv : fV f = true) {x : Int} (h0 : 0 ≤ x) (h1 : x < fP f) (hw : Wf s) : CallWP P ro 76 [.agg (.mk (mxc f)), .int .u64 x] s K = K (.int .u64 (fPow f x (fExp f))) s := by
  refine callEq (call_wp b76 rfl ?_) K
  rw [n76]
  unfold v76
  simp (maxSteps := 10000000) only [wW, reduceCtorEq, Nat.reduceEqDiff]
  refine box_rule hw.ent fun M s1 m1 => ?_
  have hM : s1.at M = some (.cells (mxc f) 79 false) := m1.here
  have hp := fP_pos hv
  have hl := fP_lt f
  have b1 := mul_lt30 h0 (by omega) h0 (by omega)
  have c1 := mod_bounds (a := x * x) hp
  have b2 := mul_lt30 c1.1 (by omega) c1.1 (by omega)
  have c2 := mod_bounds (a := x * x % fP f * (x * x % fP f)) hp
  have b3 := mul_lt30 c2.1 (by omega) h0 (by omega)
  have b4 := mul_lt30 c1.1 (by omega) h0 (by omega)
  have r : ∀ a : Int, 0 ≤ a → abinInt P .rem .u64 a .u64 (fP f) = some (.int .u64 (a % fP f)) := fun a ha => by rw [int_rem keq_u64 _ _ (by omega), tmod_nonneg ha]
  simp (maxSteps := 10000000) only [wW, reduceCtorEq, Nat.reduceEqDiff, wL, Nat.reduceAdd, mfa0, mfa2, acells_some hM, mx0, mx2]
  rw [wrap_u64 (n := x * x) (by omega) (by omega), r _ b1.1, wopt_some]
  have hE : fPow f x (fExp f) = x ^ (fExp f).toNat % fP f := by unfold fPow; rw [if_pos hv]
  by_cases h5 : fExp f = 5
  · rw [if_pos h5]
    simp (maxSteps := 10000000) only [wW, reduceCtorEq, Nat.reduceEqDiff, wL, Nat.reduceAdd, mfa0, acells_some hM, mx0]
    rw [wrap_u64 (n := x * x % fP f * (x * x % fP f)) (by omega) (by omega), r _ b2.1, wopt_some]
    simp (maxSteps := 10000000) only [wW, reduceCtorEq, Nat.reduceEqDiff, wL, Nat.reduceAdd, mfa0, acells_some hM, mx0]
    rw [wrap_u64 (n := x * x % fP f * (x * x % fP f) % fP f * x) (by omega) (by omega), r _ b3.1, wopt_some]
    refine fin_flat rfl m1.grew ⟨?_, rfl⟩
    rw [hE, h5, mulL]
    have e : x * x % fP f * (x * x % fP f) * x % fP f = x * x * (x * x) * x % fP f := by rw [Int.mul_emod, ← Int.mul_emod (x * x) (x * x), ← Int.mul_emod]
    rw [e]
    have e2 : x ^ (5 : Int).toNat = x * x * (x * x) * x := by
      show x ^ 5 = _
      rw [Int.pow_succ, Int.pow_succ, Int.pow_succ, Int.pow_succ, Int.pow_succ, Int.pow_zero, Int.one_mul]
      simp only [Int.mul_assoc]
    rw [e2]
  · have h3 : fExp f = 3 := by rcases fV_cases hv with rfl | rfl | rfl | rfl <;> first | rfl | exact absurd rfl h5
    rw [if_neg h5]
    simp (maxSteps := 10000000) only [wW, reduceCtorEq, Nat.reduceEqDiff, wL, Nat.reduceAdd, mfa0, acells_some hM, mx0]
    rw [wrap_u64 (n := x * x % fP f * x) (by omega) (by omega), r _ b4.1, wopt_some]
    refine fin_flat rfl m1.grew ⟨?_, rfl⟩
    rw [hE, h3, mulL]
    have e2 : x ^ (3 : Int).toNat = x * x * x := by
      show x ^ 3 = _
      rw [Int.pow_succ, Int.pow_succ, Int.pow_succ, Int.pow_zero, Int.one_mul]
    rw [e2]
theorem red4_len (f : Int) (j : Nat) (l : List Int) : (red4 f j l).length = l.length := List.length_set
theorem stJ_len (f k : Int) (j : Nat) (l : List Int) : (stJ f k j l).length = l.length := List.length_set
theorem wReduced (f : Int) (hv : fV f = true) {l : List Int} (hl : l.length = 4) (hnn : ∀ x ∈ l, 0 ≤ x) (hw : Wf s) (hro : ro ≤ s.n) : CallWP P ro 71 [.agg (.mk (mxc f)), .agg (.mk (u4 l))] s K = K (.agg (.mk (u4 (it (red4 f) 4 l)))) s := by
  refine callEq (call_wp b71 rfl ?_) K
  rw [n71]
  unfold v71
  simp (maxSteps := 10000000) only [wW, reduceCtorEq, Nat.reduceEqDiff]
  refine box_rule hw.ent fun M s1 m1 => ?_
  refine box_rule m1.wf fun S s2 m2 => ?_
  refine alloc_rule ty_39 m2.wf fun R s3 m3 => ?_
  have e1 := m1.eq
  have e2 := m2.eq
  have e3 := m3.eq
  have n1 := m1.n
  have n2 := m2.n
  have hn0 : (ent s).n = s.n := rfl
  have hp := fP_pos hv
  have g3 := m1.grew.trans (m2.grew.trans m3.grew)
  have hM : s3.at M = some (.cells (mxc f) 79 false) := (m3.grew.same M (by omega)).trans ((m2.grew.same M (by omega)).trans m1.here)
  have hS : s3.at S = some (.cells (u4 l) 39 false) := (m3.grew.same S (by omega)).trans m2.here
  have hR : ∃ c, s3.at R = some (.cells c 39 false) ∧ c.length = 4 := ⟨_, m3.here, rfl⟩
  have rnn : ∀ j, ∀ x ∈ it (red4 f) j l, (0 : Int) ≤ x := it_nn (fun j l h => nn_set h (mod_bounds hp).1) hnn
  refine wloop l71_10100 m71_10100 (fun (j : Nat) τ ds s' => j ≤ 4 ∧ τ 2 = ptr M ∧ τ 3 = ptr S ∧ τ 4 = ptr R ∧ τ 6 = .int .i64 j ∧ ds = [] ∧ Vec (ent s) s' S (it (red4 f) j l) ∧ s'.at M = some (.cells (mxc f) 79 false) ∧ ∃ c, s'.at R = some (.cells c 39 false) ∧ c.length = 4) (fun j => 4 - j) ?_ 0 ⟨by omega, rfl, rfl, rfl, rfl, rfl, ⟨hS, by omega, m3.wf, g3⟩, hM, hR⟩
  rintro j τ ds s' ⟨hj, t2, t3, t4, t6, rfl, v, hM', c, hRc, hcl⟩
  rw [n71_10100]
  unfold v71_10100
  have hlj : (it (red4 f) j l).length = 4 := by rw [it_len (red4_len f), hl]
  by_cases hj4 : j < 4
  · have hb : acells (s'.at S) = some (u4 (it (red4 f) j l)) := acells_some v.here
    have hi : ∀ z : Int, veq (.int .u64 z) (.int .u64 z) = true := fun z => by simp [veq]
    simp (maxSteps := 10000000) only [wW, reduceCtorEq, Nat.reduceEqDiff, wL, Nat.reduceAdd, t2, t3, t6, six S 0 hj4, hb, u4_get (show j < (it (red4 f) j l).length by omega), mfa0, acells_some hM', mx0, hi, true_and]
    rw [if_pos (by omega), int_rem keq_u64 _ _ (by omega), wopt_some, tmod_nonneg (at0_nn (rnn j) _)]
    refine v.store hw.ent hro (by omega) fun s4 v4 r4 => ?_
    rw [wrap_i64 (by omega) (by omega)]
    refine ⟨j + 1, by omega, by omega, ?_, ?_, ?_, ?_, v4, (r4 M (by omega)).trans hM', c, (r4 R (by omega)).trans hRc, hcl⟩
    · simp only [U, tset_eq, wW, reduceCtorEq, Nat.reduceEqDiff, t2]
    · simp only [U, tset_eq, wW, reduceCtorEq, Nat.reduceEqDiff, t3]
    · simp only [U, tset_eq, wW, reduceCtorEq, Nat.reduceEqDiff, t4]
    · simp only [U, tset_eq, wW, reduceCtorEq, Nat.reduceEqDiff]; rfl
  · obtain rfl : j = 4 := by omega
    simp (maxSteps := 10000000) only [wW, reduceCtorEq, Nat.reduceEqDiff, t6]
    rw [if_neg (by omega)]
    have hle : (u4 (it (red4 f) 4 l)).length = 4 := by rw [u4_len]; exact hlj
    simp (maxSteps := 10000000) only [U, tset_eq, wW, reduceCtorEq, Nat.reduceEqDiff, t3, t4]
    refine load_rule (load_all ap_39 v.here hle) ?_
    refine storeAll_rule isz_39 hRc hle (by decide) v.wf (by omega) hcl (u4_one _) fun s7 p7 => ?_
    refine load_rule (load_all ap_39 p7.here hle) ?_
    exact fin_flat (u4_flat hlj) (p7.grew _ hw.ent v.grew (by omega)) ⟨rfl, rfl⟩
end
end Go.VE
/- The program's sponge: Round. -/
namespace Go.VE
open Go Go.Proofs
set_option maxRecDepth 20000
theorem fGen_bounds (f : Int) : 0 ≤ fGen f ∧ fGen f < 2 ^ 30 := by
  unfold fGen
  split
  · decide
  · split
    · decide
    · split <;> decide
theorem fPow_lt {f : Int} (hv : fV f = true) (a n : Int) : 0 ≤ fPow f a n ∧ fPow f a n < fP f := by
  unfold fPow
  rw [if_pos hv]
  exact mod_bounds (fP_pos hv)
theorem kJ_lt {f k : Int} (hv : fV f = true) (hk : 0 ≤ k ∧ k < fP f) : ∀ j, 0 ≤ kJ f k j ∧ kJ f k j < fP f
  | 0 => hk
  | _ + 1 => mod_bounds (fP_pos hv)
theorem stJ_rng {f k : Int} (hv : fV f = true) {l : List Int} (h : ∀ x ∈ l, 0 ≤ x ∧ x < fP f) : ∀ j, ∀ x ∈ it (stJ f k) j l, 0 ≤ x ∧ x < fP f
  | 0 => h
  | j + 1 => fun x hx => by
    rw [it] at hx
    unfold stJ at hx
    rcases List.mem_or_eq_of_mem_set hx with hx | rfl
    · exact stJ_rng hv h j x hx
    · exact fPow_lt hv _ _
theorem at0_rng {p : Int} {l : List Int} (hp : 0 < p) (h : ∀ x ∈ l, 0 ≤ x ∧ x < p) (i : Int) : 0 ≤ at0 l i ∧ at0 l i < p := by
  unfold at0
  cases hx : l[i.toNat]? with
  | none => exact ⟨Int.le_refl _, hp⟩
  | some x => exact h x (List.mem_of_getElem? hx)
def mixL (f : Int) (l : List Int) : List Int := [mixT f (at0 l 0) (at0 l 1) (at0 l 2) (at0 l 3) (at0 l 0, at0 l 1), mixT f (at0 l 0) (at0 l 1) (at0 l 2) (at0 l 3) (at0 l 1, at0 l 2), mixT f (at0 l 0) (at0 l 1) (at0 l 2) (at0 l 3) (at0 l 2, at0 l 3), mixT f (at0 l 0) (at0 l 1) (at0 l 2) (at0 l 3) (at0 l 3, at0 l 0)]
theorem wrapSums {z0 z1 z2 z3 : Int} (h0 : 0 ≤ z0 ∧ z0 < 2 ^ 30) (h1 : 0 ≤ z1 ∧ z1 < 2 ^ 30) (h2 : 0 ≤ z2 ∧ z2 < 2 ^ 30) (h3 : 0 ≤ z3 ∧ z3 < 2 ^ 30) : (IntKind.u64.wrap (z0 + z1) = z0 + z1) ∧ (IntKind.u64.wrap (z0 + z1 + z2) = z0 + z1 + z2) ∧ (IntKind.u64.wrap (z0 + z1 + z2 + z3) = z0 + z1 + z2 + z3) ∧ (IntKind.u64.wrap (z0 + z1 + z2 + z3 + z0) = z0 + z1 + z2 + z3 + z0) ∧ (IntKind.u64.wrap (z0 + z1 + z2 + z3 + z1) = z0 + z1 + z2 + z3 + z1) ∧ (IntKind.u64.wrap (z0 + z1 + z2 + z3 + z2) = z0 + z1 + z2 + z3 + z2) ∧ (IntKind.u64.wrap (z0 + z1 + z2 + z3 + z3) = z0 + z1 + z2 + z3 + z3) ∧ (IntKind.u64.wrap (2 * z0) = 2 * z0) ∧ (IntKind.u64.wrap (2 * z1) = 2 * z1) ∧ (IntKind.u64.wrap (2 * z2) = 2 * z2) ∧ (IntKind.u64.wrap (2 * z3) = 2 * z3) ∧ (IntKind.u64.wrap (z0 + z1 + z2 + z3 + z0 + 2 * z1) = z0 + z1 + z2 + z3 + z0 + 2 * z1) ∧ (IntKind.u64.wrap (z0 + z1 + z2 + z3 + z1 + 2 * z2) = z0 + z1 + z2 + z3 + z1 + 2 * z2) ∧ (IntKind.u64.wrap (z0 + z1 + z2 + z3 + z2 + 2 * z3) = z0 + z1 + z2 + z3 + z2 + 2 * z3) ∧ (IntKind.u64.wrap (z0 + z1 + z2 + z3 + z3 + 2 * z0) = z0 + z1 + z2 + z3 + z3 + 2 * z0) := by
  have w : ∀ z : Int, 0 ≤ z → z < 2 ^ 40 → IntKind.u64.wrap z = z := fun z a b => wrap_u64 a (by omega)
  refine ⟨w _ ?_ ?_, w _ ?_ ?_, w _ ?_ ?_, w _ ?_ ?_, w _ ?_ ?_, w _ ?_ ?_, w _ ?_ ?_, w _ ?_ ?_, w _ ?_ ?_, w _ ?_ ?_, w _ ?_ ?_, w _ ?_ ?_, w _ ?_ ?_, w _ ?_ ?_, w _ ?_ ?_⟩ <;> omega
section
variable {ro : Nat} {s : St} {K : Value → St → Prop}
theorem wMround (f : Int) (hv : fV f = true) {k : Int} (hk : 0 ≤ k ∧ k < fP f) {l : List Int} (hl : l.length = 4) (hr : ∀ x ∈ l, 0 ≤ x ∧ x < fP f) (hw : Wf s) (hro : ro ≤ s.n) :
    CallWP P ro 69 [.agg (.mk (mxc f)), .int .u64 k, .agg (.mk (u4 l))] s K = K (.tuple (.mk [.int .u64 (kJ f k 4), .agg (.mk (u4 (mixL f (it (stJ f k) 4 l))))])) s := by
  refine callEq (call_wp b69 rfl ?_) K
  rw [n69]
  unfold v69
  simp (maxSteps := 10000000) only [wW, reduceCtorEq, Nat.reduceEqDiff]
  refine box_rule hw.ent fun M s1 m1 => ?_
  refine box_rule m1.wf fun S s2 m2 => ?_
  refine alloc_rule ty_39 m2.wf fun R s3 m3 => ?_
  have e1 := m1.eq
  have e2 := m2.eq
  have e3 := m3.eq
  have n1 := m1.n
  have n2 := m2.n
  have hn0 : (ent s).n = s.n := rfl
  have hp := fP_pos hv
  have hpl := fP_lt f
  have hg := fGen_bounds f
  have g3 := m1.grew.trans (m2.grew.trans m3.grew)
  have hM : s3.at M = some (.cells (mxc f) 79 false) := (m3.grew.same M (by omega)).trans ((m2.grew.same M (by omega)).trans m1.here)
  have hS : s3.at S = some (.cells (u4 l) 39 false) := (m3.grew.same S (by omega)).trans m2.here
  have hR : ∃ c, s3.at R = some (.cells c 39 false) ∧ c.length = 4 := ⟨_, m3.here, rfl⟩
  have hi : ∀ z : Int, veq (.int .u64 z) (.int .u64 z) = true := fun z => by simp [veq]
  refine wloop l69_10100 m69_10100 (fun (j : Nat) τ ds s' => j ≤ 4 ∧ τ 1 = .int .u64 (kJ f k j) ∧ τ 3 = ptr M ∧ τ 5 = ptr S ∧ τ 7 = ptr R ∧ τ 10 = .int .i64 j ∧ ds = [] ∧ Vec (ent s) s' S (it (stJ f k) j l) ∧ s'.at M = some (.cells (mxc f) 79 false) ∧ ∃ c, s'.at R = some (.cells c 39 false) ∧ c.length = 4) (fun j => 4 - j) ?_ 0 ⟨by omega, rfl, rfl, rfl, rfl, rfl, rfl, ⟨hS, by omega, m3.wf, g3⟩, hM, hR⟩
  rintro j τ ds s' ⟨hj, t1, t3, t5, t7, t10, rfl, v, hM', c, hRc, hcl⟩
  rw [n69_10100]
  unfold v69_10100
  have hlj : (it (stJ f k) j l).length = 4 := by rw [it_len (stJ_len f k), hl]
  have hrj := stJ_rng (k := k) hv hr j
  by_cases hj4 : j < 4
  · have hb : acells (s'.at S) = some (u4 (it (stJ f k) j l)) := acells_some v.here
    have hkj := kJ_lt hv hk j
    have hm := mul_lt30 hkj.1 (by omega) hg.1 hg.2
    have hk1 := kJ_lt hv hk (j + 1)
    have hkd : kJ f k j * fGen f % fP f = kJ f k (j + 1) := rfl
    have hst : it (stJ f k) (j + 1) l = (it (stJ f k) j l).set j (fPow f ((at0 (it (stJ f k) j l) j + kJ f k (j + 1) + 7) % fP f) (fExp f)) := rfl
    have ha := at0_rng hp hrj j
    simp (maxSteps := 10000000) only [wW, reduceCtorEq, Nat.reduceEqDiff, wL, Nat.reduceAdd, t1, t3, t5, t10, mfa0, mfa1, acells_some hM', mx0, mx1]
    rw [if_pos (by omega), wrap_u64 (n := kJ f k j * fGen f) (by omega) (by omega), int_rem keq_u64 _ _ (by omega), wopt_some, tmod_nonneg hm.1, hkd]
    rw [load_all ap_79 hM' rfl, wopt_some]
    refine ⟨mxVeq f, ?_⟩
    simp (maxSteps := 10000000) only [wW, reduceCtorEq, Nat.reduceEqDiff, wL, Nat.reduceAdd, six S 0 hj4, Nat.zero_add, hb, u4_get (show j < (it (stJ f k) j l).length by omega), hi, true_and, mfa0, acells_some hM', mx0]
    rw [wrap_u64 (n := at0 (it (stJ f k) j l) j + kJ f k (j + 1)) (by omega) (by omega), wrap_u64 (n := at0 (it (stJ f k) j l) j + kJ f k (j + 1) + 7) (by omega) (by omega), int_rem keq_u64 _ _ (by omega), wopt_some, tmod_nonneg (by omega)]
    have hmb := mod_bounds (a := at0 (it (stJ f k) j l) j + kJ f k (j + 1) + 7) hp
    rw [wPower f hv hmb.1 hmb.2 v.wf]
    refine v.store hw.ent hro (by omega) fun s4 v4 r4 => ?_
    rw [← hst] at v4
    rw [wrap_i64 (by omega) (by omega)]
    refine ⟨j + 1, by omega, by omega, ?_, ?_, ?_, ?_, ?_, v4, (r4 M (by omega)).trans hM', c, (r4 R (by omega)).trans hRc, hcl⟩
    · simp only [U, tset_eq, wW, reduceCtorEq, Nat.reduceEqDiff]
    · simp only [U, tset_eq, wW, reduceCtorEq, Nat.reduceEqDiff, t3]
    · simp only [U, tset_eq, wW, reduceCtorEq, Nat.reduceEqDiff, t5]
    · simp only [U, tset_eq, wW, reduceCtorEq, Nat.reduceEqDiff, t7]
    · simp only [U, tset_eq, wW, reduceCtorEq, Nat.reduceEqDiff]; rfl
  · obtain rfl : j = 4 := by omega
    simp (maxSteps := 10000000) only [wW, reduceCtorEq, Nat.reduceEqDiff, t10]
    rw [if_neg (by omega)]
    generalize it (stJ f k) 4 l = q at v hlj hrj ⊢
    have hRro : ro ≤ R := by omega
    have hRn : (ent s).n ≤ R := by omega
    have hb : acells (s'.at S) = some (u4 q) := acells_some v.here
    have q0 : (u4 q)[0]? = some (.int .u64 (at0 q 0)) := u4_get (l := q) (i := 0) (by omega)
    have q1 : (u4 q)[1]? = some (.int .u64 (at0 q 1)) := u4_get (l := q) (i := 1) (by omega)
    have q2 : (u4 q)[2]? = some (.int .u64 (at0 q 2)) := u4_get (l := q) (i := 2) (by omega)
    have q3 : (u4 q)[3]? = some (.int .u64 (at0 q 3)) := u4_get (l := q) (i := 3) (by omega)
    have a0 := at0_rng hp hrj 0
    have a1 := at0_rng hp hrj 1
    have a2 := at0_rng hp hrj 2
    have a3 := at0_rng hp hrj 3
    have x0 : aindexAddr P 39 (ptr S) (.int .i64 0) = some (.pointer (some ⟨S, 0, none⟩)) := six S 0 (k := 0) (by decide)
    have x1 : aindexAddr P 39 (ptr S) (.int .i64 1) = some (.pointer (some ⟨S, 1, none⟩)) := six S 0 (k := 1) (by decide)
    have x2 : aindexAddr P 39 (ptr S) (.int .i64 2) = some (.pointer (some ⟨S, 2, none⟩)) := six S 0 (k := 2) (by decide)
    have x3 : aindexAddr P 39 (ptr S) (.int .i64 3) = some (.pointer (some ⟨S, 3, none⟩)) := six S 0 (k := 3) (by decide)
    have hml : mixL f q = [mixT f (at0 q 0) (at0 q 1) (at0 q 2) (at0 q 3) (at0 q 0, at0 q 1), mixT f (at0 q 0) (at0 q 1) (at0 q 2) (at0 q 3) (at0 q 1, at0 q 2), mixT f (at0 q 0) (at0 q 1) (at0 q 2) (at0 q 3) (at0 q 2, at0 q 3), mixT f (at0 q 0) (at0 q 1) (at0 q 2) (at0 q 3) (at0 q 3, at0 q 0)] := rfl
    rw [hml]
    generalize at0 q 0 = z0 at *
    generalize at0 q 1 = z1 at *
    generalize at0 q 2 = z2 at *
    generalize at0 q 3 = z3 at *
    have r : ∀ a : Int, 0 ≤ a → abinInt P .rem .u64 a .u64 (fP f) = some (.int .u64 (a % fP f)) := fun a ha => by rw [int_rem keq_u64 _ _ (by omega), tmod_nonneg ha]
    obtain ⟨w1, w2, w3, v0, v1, v2, v3, d0, d1, d2, d3, y0, y1, y2, y3⟩ := wrapSums (z0 := z0) (z1 := z1) (z2 := z2) (z3 := z3) (by omega) (by omega) (by omega) (by omega)
    simp (maxSteps := 10000000) only [U, tset_eq, wW, reduceCtorEq, Nat.reduceEqDiff, wL, Nat.reduceAdd, t1, t3, t5, t7, x0, x1, x2, x3, hb, q0, q1, q2, q3, hi, true_and, mfa0, acells_some hM', mx0, w1, w2, w3, v0, v1, v2, v3, d0, d1, d2, d3, y0, y1, y2, y3]
    have nn : ∀ a b : Int, 0 ≤ a → 0 ≤ b → 0 ≤ a + b := fun _ _ => Int.add_nonneg
    have r0 := r (z0 + z1 + z2 + z3 + z0 + 2 * z1) (nn _ _ (nn _ _ (nn _ _ (nn _ _ (nn _ _ a0.1 a1.1) a2.1) a3.1) a0.1) (Int.mul_nonneg (by decide) a1.1))
    have r1 := r (z0 + z1 + z2 + z3 + z1 + 2 * z2) (nn _ _ (nn _ _ (nn _ _ (nn _ _ (nn _ _ a0.1 a1.1) a2.1) a3.1) a1.1) (Int.mul_nonneg (by decide) a2.1))
    have r2 := r (z0 + z1 + z2 + z3 + z2 + 2 * z3) (nn _ _ (nn _ _ (nn _ _ (nn _ _ (nn _ _ a0.1 a1.1) a2.1) a3.1) a2.1) (Int.mul_nonneg (by decide) a3.1))
    have r3 := r (z0 + z1 + z2 + z3 + z3 + 2 * z0) (nn _ _ (nn _ _ (nn _ _ (nn _ _ (nn _ _ a0.1 a1.1) a2.1) a3.1) a3.1) (Int.mul_nonneg (by decide) a0.1))
    simp (maxSteps := 10000000) only [wW, reduceCtorEq, Nat.reduceEqDiff, wL, Nat.reduceAdd, r0, r1, r2, r3, x0, x1, x2, x3, hb, q0, q1, q2, q3, hi, true_and, mfa0, acells_some hM', mx0, build4u]
    simp only [mixT]
    generalize (z0 + z1 + z2 + z3 + z0 + 2 * z1) % fP f = T0
    generalize (z0 + z1 + z2 + z3 + z1 + 2 * z2) % fP f = T1
    generalize (z0 + z1 + z2 + z3 + z2 + 2 * z3) % fP f = T2
    generalize (z0 + z1 + z2 + z3 + z3 + 2 * z0) % fP f = T3
    refine storeAll_rule isz_39 hRc (l := u4 [T0, T1, T2, T3]) rfl (by decide) v.wf hRro hcl (u4_one _) fun s7 p7 => ?_
    rw [acells_some p7.here, wopt_some, cut_all (l := u4 [T0, T1, T2, T3]) (n := 4) rfl, wopt_some]
    exact fin_flat rfl (p7.grew _ hw.ent v.grew hRn) ⟨rfl, rfl⟩
theorem mixL_round {f : Int} (hv : fV f = true) {r : Int} (hr : 0 ≤ r) {l : List Int} (hl : l.length = 4) : mixL f (it (stJ f (fPow f (fGen f) (4 * r))) 4 (it (red4 f) 4 l)) = roundM f r l := by
  rw [stJ_out hv hr hl, roundM_out hv r hl]
  rfl
theorem red4_rng {f : Int} (hv : fV f = true) {l : List Int} (hl : l.length = 4) : ∀ x ∈ it (red4 f) 4 l, 0 ≤ x ∧ x < fP f := by
  obtain ⟨a, b, c, d, rfl⟩ := len4' hl
  have hA : it (red4 f) 4 [a, b, c, d] = [a % fP f, b % fP f, c % fP f, d % fP f] := rfl
  rw [hA]
  intro x hx
  simp only [List.mem_cons, List.not_mem_nil, or_false] at hx
  rcases hx with rfl | rfl | rfl | rfl <;> exact mod_bounds (fP_pos hv)
theorem wsRound (f : Int) (hv : fV f = true) {r : Int} (hr : 0 ≤ r ∧ r ≤ 7) {l : List Int} (hl : l.length = 4) (hnn : ∀ x ∈ l, 0 ≤ x) (hw : Wf s) (hro : ro ≤ s.n) (hG : FieldsAt s) (hr0 : 0 < ro) :
    CallWP P ro 54 [.int .i64 f, .int .i64 r, .agg (.mk (u4 l))] s K = K (.agg (.mk (u4 (roundM f r l)))) s := by
  refine callEq (call_wp b54 rfl ?_) K
  rw [n54]
  unfold v54
  simp (maxSteps := 10000000) only [wW, reduceCtorEq, Nat.reduceEqDiff]
  refine box_rule hw.ent fun A s1 m1 => ?_
  refine alloc_rule ty_39 m1.wf fun R s2 m2 => ?_
  have e1 := m1.eq
  have e2 := m2.eq
  have n1 := m1.n
  have n2 := m2.n
  have hn0 : (ent s).n = s.n := rfl
  rw [wKnown, hv, decide_eq_true hr.1, decide_eq_true (show r < 8 by omega)]
  simp (maxSteps := 10000000) only [wW, reduceCtorEq, Nat.reduceEqDiff, Bool.true_and]
  have hG2 : FieldsAt s2 := FieldsAt.grew (FieldsAt.grew (s := ent s) hG m1.grew) m2.grew
  rw [wIn f m2.wf (by omega) hG2 hr0]
  refine alloc_rule ty_79 m2.wf fun M s3 m3 => ?_
  have e3 := m3.eq
  have n3 := m3.n
  refine storeAll_rule isz_79 m3.here (l := mxc f) rfl (by decide) m3.wf (by omega) rfl rfl fun s4 p4 => ?_
  have n4 := p4.n
  have keep4 : ∀ B, B < s2.n → s4.at B = s2.at B := fun B hB => (p4.rest B (by omega)).trans (m3.grew.same B hB)
  have hA4 : s4.at A = some (.cells (u4 l) 39 false) := (keep4 A (by omega)).trans ((m2.grew.same A (by omega)).trans m1.here)
  have hle : (u4 l).length = 4 := by rw [u4_len]; exact hl
  have hi : ∀ z : Int, veq (.int .u64 z) (.int .u64 z) = true := fun z => by simp [veq]
  have u4Veq : veq (.agg (.mk (u4 l))) (.agg (.mk (u4 l))) = true := by
    obtain ⟨a, b, c, d, rfl⟩ := len4' hl
    simp [veq, veqA, veqL, u4]
  rw [wop_load, load_all ap_79 p4.here rfl, wopt_some]
  refine ⟨mxVeq f, ?_⟩
  simp (maxSteps := 10000000) only [wW, reduceCtorEq, Nat.reduceEqDiff, wL, Nat.reduceAdd, mfa1, acells_some p4.here, mx1, hi, true_and]
  rw [wrap_i64 (by omega) (by omega), conv_int_u64, wrap_u64 (by omega) (by omega)]
  refine ⟨rfl, hi _, ?_⟩
  rw [load_all ap_79 p4.here rfl, wopt_some]
  refine ⟨mxVeq f, ?_⟩
  rw [acells_some hA4, wopt_some, cut_all hle, wopt_some]
  refine ⟨u4Veq, ?_⟩
  refine alloc_rule ty_39 p4.wf fun T s5 m5 => ?_
  have e5 := m5.eq
  have n5 := m5.n
  have hG5 : FieldsAt s5 := FieldsAt.grew (s := s4) (by
    obtain ⟨x0, x1, x2, x3, c0, c1, c2, c3, d0, d1, d2, d3, t, op, hf⟩ := hG2
    exact ⟨x0, x1, x2, x3, c0, c1, c2, c3, d0, d1, d2, d3, t, op, (keep4 0 (St.at_lt hf)).trans hf⟩) m5.grew
  have hg := fGen_bounds f
  refine ⟨m5.fresh (by kernel_rfl), ?_⟩
  rw [wfPow f hg.1 (by omega) (by omega) m5.wf (by omega) hG5]
  refine ⟨.refl _, ?_⟩
  rw [wReduced f hv hl hnn m5.wf (by omega)]
  refine ⟨.refl _, ?_⟩
  rw [wMround f hv (fPow_lt hv _ _) (by rw [it_len (red4_len f), hl]) (red4_rng hv hl) m5.wf (by omega), mixL_round hv hr.1 hl]
  refine ⟨.refl _, ?_⟩
  have hl2 := roundM_len f r l
  generalize roundM f r l = q at hl2 ⊢
  have hle2 : (u4 q).length = 4 := by rw [u4_len]; exact hl2
  simp (maxSteps := 10000000) only [wW, reduceCtorEq, Nat.reduceEqDiff, List.getElem?_cons_zero, List.getElem?_cons_succ]
  refine storeAll_rule isz_39 m5.here hle2 (by decide) m5.wf (by omega) rfl (u4_one _) fun s6 p6 => ?_
  have n6 := p6.n
  refine ⟨by omega, ?_⟩
  rw [load_all ap_39 p6.here hle2, wopt_some]
  have hR6 : s6.at R = _ := (p6.rest R (by omega)).trans ((m5.grew.same R (by omega)).trans ((keep4 R (by omega)).trans m2.here))
  refine storeAll_rule isz_39 hR6 hle2 (by decide) p6.wf (by omega) rfl (u4_one _) fun s7 p7 => ?_
  rw [acells_some p7.here, wopt_some, cut_all hle2, wopt_some]
  have g4 := p4.grew _ hw.ent (m1.grew.trans (m2.grew.trans m3.grew)) (by omega)
  exact fin_flat (u4_flat hl2) (p7.grew _ hw.ent (p6.grew _ hw.ent (g4.trans m5.grew) (by omega)) (by omega)) ⟨rfl, rfl⟩
end
end Go.VE
/- The program's gates: what a row reads, its sum, its round. -/
namespace Go.VE
open Go Go.Proofs
set_option maxRecDepth 20000
def rd0 (r : Row) : Bool := if r.k = 1 then decide (r.ql ≠ 0 ∨ r.qm ≠ 0) else decide (r.k = 2 ∨ r.k = 3)
def rd1 (r : Row) : Bool := if r.k = 1 then decide (r.qr ≠ 0 ∨ r.qm ≠ 0) else decide (r.k = 3)
def rd2 (r : Row) : Bool := if r.k = 1 then decide (r.qo ≠ 0) else decide (r.k = 3)
def rd3 (r : Row) : Bool := decide (r.k = 3)
def rdB (r : Row) : Nat → Bool
  | 0 => rd0 r
  | 1 => rd1 r
  | 2 => rd2 r
  | 3 => rd3 r
  | _ => false
def rdVs (r : Row) : List Value := [.bool (rd0 r), .bool (rd1 r), .bool (rd2 r), .bool (rd3 r)]
theorem bix0 (A o : Nat) : aindexAddr P 70 (.pointer (some ⟨A, o, none⟩)) (.int .i64 0) = some (.pointer (some ⟨A, o, none⟩)) := by kernel_rfl
theorem bix1 (A o : Nat) : aindexAddr P 70 (.pointer (some ⟨A, o, none⟩)) (.int .i64 1) = some (.pointer (some ⟨A, o + 1, none⟩)) := by kernel_rfl
theorem bix2 (A o : Nat) : aindexAddr P 70 (.pointer (some ⟨A, o, none⟩)) (.int .i64 2) = some (.pointer (some ⟨A, o + 2, none⟩)) := by kernel_rfl
theorem bix3 (A o : Nat) : aindexAddr P 70 (.pointer (some ⟨A, o, none⟩)) (.int .i64 3) = some (.pointer (some ⟨A, o + 3, none⟩)) := by kernel_rfl
theorem build4b (a b c d : Bool) : abuild P 70 (partVals .e [(0, .const (.bool a)), (1, .const (.bool b)), (2, .const (.bool c)), (3, .const (.bool d))]) = some (.agg (.mk [.bool a, .bool b, .bool c, .bool d])) := by kernel_rfl
theorem ai0 (a b c d : Bool) : aindex P 70 (.agg (.mk [.bool a, .bool b, .bool c, .bool d])) (.int .i64 0) = some (.bool a) := by kernel_rfl
theorem ai1 (a b c d : Bool) : aindex P 70 (.agg (.mk [.bool a, .bool b, .bool c, .bool d])) (.int .i64 1) = some (.bool b) := by kernel_rfl
theorem ai2 (a b c d : Bool) : aindex P 70 (.agg (.mk [.bool a, .bool b, .bool c, .bool d])) (.int .i64 2) = some (.bool c) := by kernel_rfl
theorem ai3 (a b c d : Bool) : aindex P 70 (.agg (.mk [.bool a, .bool b, .bool c, .bool d])) (.int .i64 3) = some (.bool d) := by kernel_rfl
theorem aiR (r : Row) {k : Nat} (hk : k < 4) : aindex P 70 (.agg (.mk (rdVs r))) (.int .i64 (k : Int)) = some (.bool (rdB r k)) := by
  match k, hk with
  | 0, _ => exact ai0 _ _ _ _
  | 1, _ => exact ai1 _ _ _ _
  | 2, _ => exact ai2 _ _ _ _
  | 3, _ => exact ai3 _ _ _ _
section
variable {ro : Nat} {s : St} {K : Value → St → Prop}
theorem wGreads (r : Row) (hw : Wf s) (hro : ro ≤ s.n) : CallWP P ro 63 [.agg (.mk r.cells)] s K = K (.agg (.mk (rdVs r))) s := by
  refine callEq (call_wp b63 rfl ?_) K
  rw [n63]
  unfold v63
  simp (maxSteps := 10000000) only [wW, reduceCtorEq, Nat.reduceEqDiff]
  refine box_rule hw.ent fun G s1 m1 => ?_
  refine alloc_rule ty_70 m1.wf fun R s2 m2 => ?_
  have e1 := m1.eq
  have e2 := m2.eq
  have n1 := m1.n
  have n2 := m2.n
  have hn0 : (ent s).n = s.n := rfl
  have g2 := m1.grew.trans m2.grew
  have hG : s2.at G = some (.cells r.cells 43 false) := (m2.grew.same G (by omega)).trans m1.here
  have hb := acells_some hG
  have hRo : ro ≤ R := by omega
  have hRn : (ent s).n ≤ R := by omega
  simp (maxSteps := 10000000) only [wW, reduceCtorEq, Nat.reduceEqDiff, wL, Nat.reduceAdd, hb]
  have fin : ∀ (a b c d : Bool), [Value.bool a, .bool b, .bool c, .bool d] = rdVs r → ∀ {s9 : St} {cs : List Value}, s9.at R = some (.cells cs 70 false) → cs.length = 4 → Wf s9 → Grew (ent s) s9 →
      wop P ro (.store 70 (.const (ptr R)) (.const (.agg (.mk [.bool a, .bool b, .bool c, .bool d])))) 0 s9 fun _ s' => wopt (aload P s' 70 (ptr R)) fun v => wfin s (fun v s' => v = .agg (.mk (rdVs r)) ∧ s' = s) v s' := fun a b c d he {s9 cs} hR hc hw9 hg9 => by
    refine storeAll_rule isz_70 hR (l := [.bool a, .bool b, .bool c, .bool d]) rfl (by decide) hw9 hRo hc rfl fun s7 p7 => ?_
    rw [load_all ap_70 p7.here rfl, wopt_some, he]
    exact fin_flat rfl (p7.grew _ hw.ent hg9 hRn) ⟨rfl, rfl⟩
  by_cases k1 : r.k = 1
  · rw [if_pos k1]
    simp (maxSteps := 10000000) only [wW, reduceCtorEq, Nat.reduceEqDiff, wL, Nat.reduceAdd, hb, build4b]
    by_cases h1 : r.ql = 0
    · rw [if_neg (by simpa using h1)]
      by_cases h2 : r.qr = 0
      · rw [if_neg (by simpa using h2)]
        exact fin _ _ _ _ (by simp [rdVs, rd0, rd1, rd2, rd3, k1, h1, h2]) m2.here rfl m2.wf g2
      · rw [if_pos h2]
        exact fin _ _ _ _ (by simp [rdVs, rd0, rd1, rd2, rd3, k1, h1, h2]) m2.here rfl m2.wf g2
    · rw [if_pos h1]
      by_cases h2 : r.qr = 0
      · rw [if_neg (by simpa using h2)]
        exact fin _ _ _ _ (by simp [rdVs, rd0, rd1, rd2, rd3, k1, h1, h2]) m2.here rfl m2.wf g2
      · rw [if_pos h2]
        exact fin _ _ _ _ (by simp [rdVs, rd0, rd1, rd2, rd3, k1, h1, h2]) m2.here rfl m2.wf g2
  · rw [if_neg k1]
    simp (maxSteps := 10000000) only [wW, reduceCtorEq, Nat.reduceEqDiff, wL, Nat.reduceAdd, bix0, bix1, bix2, bix3, Nat.zero_add]
    by_cases k3 : r.k = 3
    · rw [if_pos k3]
      refine store1_rule isz_4 m2.here m2.wf hRo (by decide) rfl fun s3 p3 => ?_
      refine store1_rule isz_4 p3.here p3.wf hRo (by decide) rfl fun s4 p4 => ?_
      refine store1_rule isz_4 p4.here p4.wf hRo (by decide) rfl fun s5 p5 => ?_
      refine store1_rule isz_4 p5.here p5.wf hRo (by decide) rfl fun s6 p6 => ?_
      have h6 : s6.at R = some (.cells [.bool true, .bool true, .bool true, .bool true] 70 false) := p6.here
      have g6 := p6.grew _ hw.ent (p5.grew _ hw.ent (p4.grew _ hw.ent (p3.grew _ hw.ent g2 hRn) hRn) hRn) hRn
      rw [load_all ap_70 h6 rfl, wopt_some]
      exact fin true true true true (by simp [rdVs, rd0, rd1, rd2, rd3, k3]) h6 rfl p6.wf g6
    · rw [if_neg k3]
      by_cases k2 : r.k = 2
      · rw [if_pos k2]
        refine store1_rule isz_4 m2.here m2.wf hRo (by decide) rfl fun s6 p6 => ?_
        have h6 : s6.at R = some (.cells [.bool true, .bool false, .bool false, .bool false] 70 false) := p6.here
        rw [load_all ap_70 h6 rfl, wopt_some]
        exact fin true false false false (by simp [rdVs, rd0, rd1, rd2, rd3, k2]) h6 rfl p6.wf (p6.grew _ hw.ent g2 hRn)
      · rw [if_neg k2]
        have h6 : s2.at R = some (.cells [.bool false, .bool false, .bool false, .bool false] 70 false) := m2.here
        rw [load_all ap_70 h6 rfl, wopt_some]
        exact fin false false false false (by simp [rdVs, rd0, rd1, rd2, rd3, k1, k2, k3]) h6 rfl m2.wf g2
def wireM (r : Row) (vals : List Int) (i : Nat) : Int := if rdB r i = true then at0 vals (r.w i) else 0
theorem wWire (r : Row) {u : Value} {vals : List Int} (hu : U64s s u vals) {i : Nat} (hi : i < 4) (hf : rdB r i = true → 0 ≤ r.w i ∧ r.w i < vals.length) (hw : Wf s) (hro : ro ≤ s.n) : CallWP P ro 50 [.agg (.mk r.cells), u, .int .i64 i] s K = K (.int .u64 (wireM r vals i)) s := by
  refine callEq (call_wp b50 rfl ?_) K
  rw [n50]
  unfold v50
  simp (maxSteps := 10000000) only [wW, reduceCtorEq, Nat.reduceEqDiff]
  refine box_rule hw.ent fun G s1 m1 => ?_
  have e1 := m1.eq
  have n1 := m1.n
  have hn0 : (ent s).n = s.n := rfl
  have hG : s1.at G = some (.cells r.cells 43 false) := m1.here
  have hb := acells_some hG
  have hu1 : U64s s1 u vals := (Sl.ent hu).grew m1.grew.same
  rw [wop_load, load_all ap_43 hG rfl, wopt_some, wGreads r m1.wf (by omega), wop_index_agg, aiR r hi, wopt_some]
  simp (maxSteps := 10000000) only [wW, reduceCtorEq, Nat.reduceEqDiff]
  unfold wireM
  cases h : rdB r i with
  | false =>
    simp (maxSteps := 10000000) only [wW, reduceCtorEq, Nat.reduceEqDiff]
    exact fin_flat rfl m1.grew ⟨rfl, rfl⟩
  | true =>
    have hx := hf h
    obtain ⟨A, o, c, q1, q2, q3⟩ := hu1.at1 hx.1 (at0_get hx.1 hx.2)
    have hbw := rcw r hi
    simp (maxSteps := 10000000) only [wW, reduceCtorEq, Nat.reduceEqDiff, wL, Nat.reduceAdd, hb, wix _ _ hi, hbw, q1, q2, q3]
    exact fin_flat rfl m1.grew ⟨rfl, rfl⟩
end
end Go.VE
/- The program's gates: a row's sum, its round, whether it holds. -/
namespace Go.VE
open Go Go.Proofs
set_option maxRecDepth 20000
theorem fAdd_assoc (f x y z : Int) : fAdd f x (fAdd f y z) = fAdd f (fAdd f x y) z := by
  unfold fAdd
  by_cases h : fV f = true
  · simp only [h, if_true]
    rw [Int.add_emod_emod, Int.emod_add_emod, Int.add_assoc]
  · simp only [h, if_false, Bool.false_eq_true]
theorem wire_A {r : Row} (h : r.k = 1) (vals : List Int) : wireM r vals 0 = sumA r vals := by
  unfold wireM sumA
  have e : rdB r 0 = decide (r.ql ≠ 0 ∨ r.qm ≠ 0) := by
    show rd0 r = _
    unfold rd0
    rw [if_pos h]
  rw [e]
  simp only [decide_eq_true_eq]
  rfl
theorem wire_B {r : Row} (h : r.k = 1) (vals : List Int) : wireM r vals 1 = sumB r vals := by
  unfold wireM sumB
  have e : rdB r 1 = decide (r.qr ≠ 0 ∨ r.qm ≠ 0) := by
    show rd1 r = _
    unfold rd1
    rw [if_pos h]
  rw [e]
  simp only [decide_eq_true_eq]
  rfl
theorem wire_C {r : Row} (h : r.k = 1) (vals : List Int) : wireM r vals 2 = if r.qo ≠ 0 then at0 vals r.w2 else 0 := by
  unfold wireM
  have e : rdB r 2 = decide (r.qo ≠ 0) := by
    show rd2 r = _
    unfold rd2
    rw [if_pos h]
  rw [e]
  simp only [decide_eq_true_eq]
  rfl
theorem wireM_nn {r : Row} {vals : List Int} (h : ∀ x ∈ vals, 0 ≤ x) (i : Nat) : 0 ≤ wireM r vals i := by
  unfold wireM
  split
  · exact at0_nn h _
  · exact Int.le_refl _
section
variable {ro : Nat} {s : St} {K : Value → St → Prop}
theorem wTotal (f : Int) {r : Row} (hk : r.k = 1) (hn : r.Nn) {u : Value} {vals : List Int} (hu : U64s s u vals) (hpos : ∀ x ∈ vals, 0 ≤ x) (ha : r.ql ≠ 0 ∨ r.qm ≠ 0 → 0 ≤ r.w0 ∧ r.w0 < vals.length) (hb : r.qr ≠ 0 ∨ r.qm ≠ 0 → 0 ≤ r.w1 ∧ r.w1 < vals.length) (hw : Wf s) (hro : ro ≤ s.n) (hG : FieldsAt s) :
    CallWP P ro 32 [.int .i64 f, .agg (.mk r.cells), u] s K = K (.int .u64 (sumM f r vals)) s := by
  refine callEq (call_wp b32 rfl ?_) K
  rw [n32]
  unfold v32
  simp (maxSteps := 10000000) only [wW, reduceCtorEq, Nat.reduceEqDiff]
  refine box_rule hw.ent fun G s1 m1 => ?_
  have e1 := m1.eq
  have n1 := m1.n
  have hn0 : (ent s).n = s.n := rfl
  have hC : s1.at G = some (.cells r.cells 43 false) := m1.here
  have hc := acells_some hC
  have hu1 : U64s s1 u vals := (Sl.ent hu).grew m1.grew.same
  have hG1 : FieldsAt s1 := FieldsAt.grew (s := ent s) hG m1.grew
  have h0 : rdB r 0 = true → 0 ≤ r.w 0 ∧ r.w 0 < vals.length := fun h => by
    have e : rd0 r = true := h
    unfold rd0 at e
    rw [if_pos hk, decide_eq_true_eq] at e
    exact ha e
  have h1 : rdB r 1 = true → 0 ≤ r.w 1 ∧ r.w 1 < vals.length := fun h => by
    have e : rd1 r = true := h
    unfold rd1 at e
    rw [if_pos hk, decide_eq_true_eq] at e
    exact hb e
  have hi : ∀ z : Int, veq (.int .u64 z) (.int .u64 z) = true := fun z => by simp [veq]
  have w0 : ∀ K : Value → St → Prop, CallWP P ro 50 [.agg (.mk r.cells), u, .int .i64 0] s1 K = K (.int .u64 (wireM r vals 0)) s1 := fun K => wWire r hu1 (i := 0) (by decide) h0 m1.wf (by omega)
  have w1 : ∀ K : Value → St → Prop, CallWP P ro 50 [.agg (.mk r.cells), u, .int .i64 1] s1 K = K (.int .u64 (wireM r vals 1)) s1 := fun K => wWire r hu1 (i := 1) (by decide) h1 m1.wf (by omega)
  have a0 := wireM_nn (r := r) hpos 0
  have a1 := wireM_nn (r := r) hpos 1
  rw [wop_load, load_all ap_43 hC rfl, wopt_some]
  refine ⟨rcVeq r, ?_⟩
  rw [wop_load, load_all ap_43 hC rfl, wopt_some]
  refine ⟨rcVeq r, ?_⟩
  show CallWP P ro 50 [.agg (.mk r.cells), u, .int .i64 0] s1 _
  rw [w0]
  refine ⟨.refl _, ?_⟩
  show CallWP P ro 50 [.agg (.mk r.cells), u, .int .i64 1] s1 _
  rw [w1]
  simp (maxSteps := 10000000) only [wW, reduceCtorEq, Nat.reduceEqDiff, wL, Nat.reduceAdd, hc, hi, true_and]
  rw [wfMul f hn.ql a0 m1.wf (by omega) hG1]
  refine ⟨.refl _, ?_⟩
  rw [wfMul f hn.qr a1 m1.wf (by omega) hG1, wfAdd f (fMul_bounds _ _ _).1 (fMul_bounds _ _ _).1 m1.wf (by omega) hG1]
  simp (maxSteps := 10000000) only [wW, reduceCtorEq, Nat.reduceEqDiff, wL, Nat.reduceAdd, hc, hi, true_and]
  rw [wfMul f a0 a1 m1.wf (by omega) hG1]
  refine ⟨.refl _, ?_⟩
  rw [wfMul f hn.qm (fMul_bounds _ _ _).1 m1.wf (by omega) hG1]
  refine ⟨.refl _, ?_⟩
  rw [wfAdd f (fMul_bounds _ _ _).1 hn.qc m1.wf (by omega) hG1, wfAdd f (fAdd_bounds _ _ _).1 (fAdd_bounds _ _ _).1 m1.wf (by omega) hG1]
  refine fin_flat rfl m1.grew ⟨?_, rfl⟩
  rw [fAdd_assoc, wire_A hk, wire_B hk]
  rfl
theorem wTurned (f : Int) (hv : fV f = true) {r : Row} (hrd : 0 ≤ r.rd ∧ r.rd ≤ 7) {u : Value} {vals : List Int} (hw : Wf s) (hro : ro ≤ s.n) (hG : FieldsAt s) (hr0 : 0 < ro) (hu : U64s s u vals) (hpos : ∀ x ∈ vals, 0 ≤ x) (hwi : ∀ k, k < 4 → 0 ≤ r.w k ∧ r.w k < vals.length) :
    CallWP P ro 29 [.int .i64 f, .agg (.mk r.cells), u] s K = K (.agg (.mk (u4 (roundM f r.rd (wv vals r))))) s := by
  refine callEq (call_wp b29 rfl ?_) K
  rw [n29]
  unfold v29
  simp (maxSteps := 10000000) only [wW, reduceCtorEq, Nat.reduceEqDiff]
  refine box_rule hw.ent fun G s1 m1 => ?_
  refine alloc_rule ty_39 m1.wf fun R s2 m2 => ?_
  refine alloc_rule ty_39 m2.wf fun S s3 m3 => ?_
  have e1 := m1.eq
  have e2 := m2.eq
  have e3 := m3.eq
  have n1 := m1.n
  have n2 := m2.n
  have n3 := m3.n
  have hn0 : (ent s).n = s.n := rfl
  have g3 := (m1.grew.trans m2.grew).trans m3.grew
  have hG3 : s3.at G = some (.cells r.cells 43 false) := (m3.grew.same G (by omega)).trans ((m2.grew.same G (by omega)).trans m1.here)
  have hR3 : s3.at R = _ := (m3.grew.same R (by omega)).trans m2.here
  refine wloop l29_110100 m29_110100 (fun (k : Nat) τ ds s' => k ≤ 4 ∧ τ 0 = .int .i64 f ∧ τ 2 = u ∧ τ 4 = ptr G ∧ τ 6 = ptr R ∧ τ 7 = ptr S ∧ τ 9 = .int .i64 k ∧ ds = [] ∧ Vec (ent s) s' S (it (setW vals r) k [0, 0, 0, 0]) ∧ ∀ B, B ≠ S → s'.at B = s3.at B) (fun k => 4 - k) ?_ 0 ⟨by omega, rfl, rfl, rfl, rfl, rfl, rfl, rfl, ⟨m3.here, by omega, m3.wf, g3⟩, fun _ _ => rfl⟩
  rintro k τ ds s' ⟨hk, h0, h2, h4, h6, h7, h9, rfl, v, old⟩
  rw [n29_110100]
  unfold v29_110100
  have hGc : acells (s'.at G) = some r.cells := acells_some ((old G (by omega)).trans hG3)
  have hu' : U64s s' u vals := (Sl.ent hu).grew v.grew.same
  by_cases hk4 : k < 4
  · have hx := hwi k hk4
    obtain ⟨A, o, c, q1, q2, q3⟩ := hu'.at1 hx.1 (at0_get hx.1 hx.2)
    have hb := rcw r hk4
    simp (maxSteps := 10000000) only [wW, reduceCtorEq, Nat.reduceEqDiff, wL, Nat.reduceAdd, h2, h4, h7, h9, wix _ _ hk4, six _ _ hk4, hGc, hb, q1, q2, q3]
    rw [if_pos (by omega)]
    refine v.store hw.ent hro (by rw [it_len (setW_len vals r)]; exact hk4) fun s4 v4 r4 => ?_
    rw [wrap_i64 (by omega) (by omega)]
    exact ⟨k + 1, by omega, by omega, h0, h2, h4, h6, h7, rfl, trivial, v4, fun B hB => (r4 B hB).trans (old B hB)⟩
  · obtain rfl : k = 4 := by omega
    have hS := v.here
    have hpw := wv_nn hpos r
    rw [wv_eq] at hS
    have hlw : (wv vals r).length = 4 := rfl
    have hle : (u4 (wv vals r)).length = 4 := rfl
    have hG' : FieldsAt s' := FieldsAt.grew (s := ent s) hG v.grew
    generalize wv vals r = q at hS hpw hlw hle ⊢
    simp (maxSteps := 10000000) only [wW, reduceCtorEq, Nat.reduceEqDiff, h9]
    rw [if_neg (by omega)]
    simp (maxSteps := 10000000) only [U, tset_eq, wW, reduceCtorEq, Nat.reduceEqDiff, wL, Nat.reduceAdd, h0, h4, h6, h7, hGc]
    rw [acells_some hS, wopt_some, cut_all hle, wopt_some]
    show CallWP P ro 54 [.int .i64 f, .int .i64 r.rd, .agg (.mk (u4 q))] s' _
    have hgn := v.grew.n
    rw [wsRound f hv hrd hlw hpw v.wf (by omega) hG' hr0]
    have hl2 := roundM_len f r.rd q
    generalize roundM f r.rd q = q2 at hl2 ⊢
    refine storeAll_rule isz_39 ((old R (by omega)).trans hR3) (show (u4 q2).length = 4 by rw [u4_len]; exact hl2) (by decide) v.wf (by omega) rfl (u4_one _) fun s7 p7 => ?_
    rw [acells_some p7.here, wopt_some, cut_all (show (u4 q2).length = 4 by rw [u4_len]; exact hl2), wopt_some]
    exact fin_flat (u4_flat hl2) (p7.grew _ hw.ent v.grew (by omega)) ⟨rfl, rfl⟩
end
end Go.VE
/- The library's Max, Min, Contains; the program's elements, holds. -/
namespace Go.VE
open Go Go.Proofs
set_option maxRecDepth 20000
def maxI (a b : Int) : Int := if a < b then b else a
def minI (a b : Int) : Int := if b < a then b else a
def mxL (l : List Int) : Int := l.foldl maxI (at0 l 0)
def mnL (l : List Int) : Int := l.foldl minI (at0 l 0)
theorem foldl_mx {p : Int} : ∀ (l : List Int) (a : Int), l.foldl maxI a < p ↔ a < p ∧ ∀ x ∈ l, x < p
  | [], a => by simp
  | x :: l, a => by
    rw [List.foldl_cons, foldl_mx l]
    simp only [List.mem_cons, forall_eq_or_imp]
    unfold maxI
    constructor
    · rintro ⟨h1, h2⟩
      split at h1 <;> refine ⟨?_, ?_, h2⟩ <;> omega
    · rintro ⟨h1, h2, h3⟩
      refine ⟨?_, h3⟩
      split <;> assumption
theorem foldl_mn {p : Int} : ∀ (l : List Int) (a : Int), p ≤ l.foldl minI a ↔ p ≤ a ∧ ∀ x ∈ l, p ≤ x
  | [], a => by simp
  | x :: l, a => by
    rw [List.foldl_cons, foldl_mn l]
    simp only [List.mem_cons, forall_eq_or_imp]
    unfold minI
    constructor
    · rintro ⟨h1, h2⟩
      split at h1 <;> refine ⟨?_, ?_, h2⟩ <;> omega
    · rintro ⟨h1, h2, h3⟩
      refine ⟨?_, h3⟩
      split <;> assumption
theorem at0_mem {l : List Int} (h : 0 < l.length) : at0 l 0 ∈ l := List.mem_of_getElem? (at0_get (Int.le_refl 0) (by omega))
theorem mxL_lt {p : Int} {l : List Int} (h : 0 < l.length) : mxL l < p ↔ ∀ x ∈ l, x < p := by
  unfold mxL
  rw [foldl_mx]
  exact ⟨fun a => a.2, fun a => ⟨a _ (at0_mem h), a⟩⟩
theorem mnL_ge {p : Int} {l : List Int} (h : 0 < l.length) : p ≤ mnL l ↔ ∀ x ∈ l, p ≤ x := by
  unfold mnL
  rw [foldl_mn]
  exact ⟨fun a => a.2, fun a => ⟨a _ (at0_mem h), a⟩⟩
section
variable {ro : Nat} {s : St} {K : Value → St → Prop}
theorem max_u64 (a b : Int) (ty : TypeId) (s : St) (K : Value → St → Prop) : wop P ro (.call ⟨.builtin .max, ⟨[.const (.int .u64 a), .const (.int .u64 b)]⟩, #[38, 38]⟩) ty s K = K (.int .u64 (if a < b then b else a)) s := by kernel_rfl
theorem min_i64' (a b : Int) (ty : TypeId) (s : St) (K : Value → St → Prop) : wop P ro (.call ⟨.builtin .min, ⟨[.const (.int .i64 a), .const (.int .i64 b)]⟩, #[3, 3]⟩) ty s K = K (.int .i64 (if b < a then b else a)) s := by kernel_rfl
theorem wMaxU {u : Value} {l : List Int} (hu : U64s s u l) (h0 : 0 < l.length) (hlen : l.length < 2 ^ 60) : CallWP P ro 46 [u] s K = K (.int .u64 (mxL l)) s := by
  refine callEq (call_wp b46 rfl ?_) K
  rw [n46]
  unfold v46
  simp (maxSteps := 10000000) only [wW, reduceCtorEq, Nat.reduceEqDiff, Sl.wlen hu se_25]
  rw [if_neg (by omega), n46_11]
  unfold v46_11
  obtain ⟨A, o, c, q1, q2, q3⟩ := hu.at1 (i := 0) (x := at0 l 0) (by decide) (at0_get (Int.le_refl 0) (by omega))
  simp (maxSteps := 10000000) only [U, tset_eq, wW, reduceCtorEq, Nat.reduceEqDiff, wL, Nat.reduceAdd, q1, q2, q3]
  refine wloop l46_1110100 m46_1110100 (fun (i : Nat) τ ds s' => 1 ≤ i ∧ i ≤ l.length ∧ τ 0 = u ∧ τ 3 = .int .u64 ((l.take i).foldl maxI (at0 l 0)) ∧ τ 4 = .int .i64 i ∧ ds = [] ∧ s' = ent s) (fun i => l.length - i) ?_ 1 ⟨Nat.le_refl _, h0, ?_, ?_, ?_, rfl, rfl⟩
  · rintro i τ ds s' ⟨h1, hi, t0, t3, t4, rfl, rfl⟩
    rw [n46_1110100]
    unfold v46_1110100
    simp (maxSteps := 10000000) only [wW, reduceCtorEq, Nat.reduceEqDiff, t0, t3, t4, Sl.wlen hu se_25]
    by_cases hlt : i < l.length
    · rw [if_pos (by omega)]
      obtain ⟨A, o, c, q1, q2, q3⟩ := hu.at1 (i := (i : Int)) (x := l[i]) (by omega) (by rw [Int.toNat_natCast]; exact List.getElem?_eq_getElem hlt)
      simp (maxSteps := 10000000) only [wW, reduceCtorEq, Nat.reduceEqDiff, wL, Nat.reduceAdd, q1, q2, q3, max_u64]
      rw [wrap_i64 (by omega) (by omega)]
      refine ⟨i + 1, by omega, by omega, by omega, ?_, ?_, ?_, trivial, trivial⟩
      · simp only [U, tset_eq, wW, reduceCtorEq, Nat.reduceEqDiff, t0]
      · simp only [U, tset_eq, wW, reduceCtorEq, Nat.reduceEqDiff]
        rw [take_succ_eq (List.getElem?_eq_getElem hlt), List.foldl_append]
        rfl
      · simp only [U, tset_eq, wW, reduceCtorEq, Nat.reduceEqDiff]; rfl
    · obtain rfl : i = l.length := by omega
      rw [if_neg (by omega), List.take_length] at *
      simp (maxSteps := 10000000) only [U, tset_eq, wW, reduceCtorEq, Nat.reduceEqDiff, t3]
      rw [xleave_U, r46]
      simp (maxSteps := 10000000) only [U, tset_eq, wW, reduceCtorEq, Nat.reduceEqDiff]
      exact fin_flat rfl (.refl _) ⟨rfl, rfl⟩
  · simp only [U, tset_eq, wW, reduceCtorEq, Nat.reduceEqDiff]
  · simp only [U, tset_eq, wW, reduceCtorEq, Nat.reduceEqDiff]
    rw [show l.take 1 = [at0 l 0] by
      cases l with
      | nil => simp at h0
      | cons x l => rfl]
    simp [maxI]
  · simp only [U, tset_eq, wW, reduceCtorEq, Nat.reduceEqDiff]; rfl
theorem below_mx {f : Int} {l : List Int} (h : 0 < l.length) : decide (mxL l < fP f) = below f l := by
  unfold below
  rw [Bool.eq_iff_iff, decide_eq_true_eq, mxL_lt h, List.all_eq_true]
  exact ⟨fun a x hx => decide_eq_true (a x hx), fun a x hx => of_decide_eq_true (a x hx)⟩
theorem wElements (f : Int) {u : Value} {l : List Int} (hu : U64s s u l) (hlen : l.length < 2 ^ 60) (hw : Wf s) (hro : ro ≤ s.n) (hG : FieldsAt s) : CallWP P ro 22 [.int .i64 f, u] s K = K (.bool (below f l)) s := by
  refine callEq (call_wp b22 rfl ?_) K
  rw [n22]
  unfold v22
  simp (maxSteps := 10000000) only [wW, reduceCtorEq, Nat.reduceEqDiff, Sl.wlen hu se_25]
  by_cases h0 : l.length = 0
  · rw [if_pos (by omega)]
    have : l = [] := List.length_eq_zero_iff.1 h0
    subst this
    exact fin_flat rfl (.refl _) ⟨rfl, rfl⟩
  · rw [if_neg (by omega), wMaxU (Sl.ent hu) (by omega) hlen, wfP f hw.ent hro hG]
    simp (maxSteps := 10000000) only [wW, reduceCtorEq, Nat.reduceEqDiff, below_mx (show 0 < l.length by omega)]
    exact fin_flat rfl (.refl _) ⟨rfl, rfl⟩
end
end Go.VE
/- The program's gates: whether a row holds. -/
namespace Go.VE
open Go Go.Proofs
set_option maxRecDepth 20000
theorem aiU {q : List Int} (hq : q.length = 4) {k : Nat} (hk : k < 4) : aindex P 39 (.agg (.mk (u4 q))) (.int .i64 (k : Int)) = some (.int .u64 (at0 q k)) := by
  obtain ⟨a, b, c, d, rfl⟩ := len4' hq
  have h0 : ∀ a b c d : Int, aindex P 39 (.agg (.mk [.int .u64 a, .int .u64 b, .int .u64 c, .int .u64 d])) (.int .i64 0) = some (.int .u64 a) := fun a b c d => by kernel_rfl
  have h1 : ∀ a b c d : Int, aindex P 39 (.agg (.mk [.int .u64 a, .int .u64 b, .int .u64 c, .int .u64 d])) (.int .i64 1) = some (.int .u64 b) := fun a b c d => by kernel_rfl
  have h2 : ∀ a b c d : Int, aindex P 39 (.agg (.mk [.int .u64 a, .int .u64 b, .int .u64 c, .int .u64 d])) (.int .i64 2) = some (.int .u64 c) := fun a b c d => by kernel_rfl
  have h3 : ∀ a b c d : Int, aindex P 39 (.agg (.mk [.int .u64 a, .int .u64 b, .int .u64 c, .int .u64 d])) (.int .i64 3) = some (.int .u64 d) := fun a b c d => by kernel_rfl
  match k, hk with
  | 0, _ => exact h0 _ _ _ _
  | 1, _ => exact h1 _ _ _ _
  | 2, _ => exact h2 _ _ _ _
  | 3, _ => exact h3 _ _ _ _
theorem hold1 {f : Int} {r : Row} (h : r.k = 1) (vals : List Int) : fAdd f (sumM f r vals) (fMul f r.qo (wireM r vals 2)) = if r.qo ≠ 0 then fAdd f (sumM f r vals) (fMul f r.qo (at0 vals r.w2)) else sumM f r vals := by
  rw [wire_C h]
  by_cases hq : r.qo = 0
  · rw [if_neg (by simpa using hq), if_neg (by simpa using hq), hq]
    have e : sumM f r vals = fAdd f (fAdd f (fAdd f (fMul f r.ql (sumA r vals)) (fMul f r.qr (sumB r vals))) (fMul f r.qm (fMul f (sumA r vals) (sumB r vals)))) r.qc := rfl
    rw [e]
    generalize fAdd f (fAdd f (fMul f r.ql (sumA r vals)) (fMul f r.qr (sumB r vals))) (fMul f r.qm (fMul f (sumA r vals) (sumB r vals))) = x
    unfold fAdd fMul
    by_cases hv : fV f = true
    · simp only [hv, if_true, Int.zero_mul, Int.zero_emod, Int.add_zero, Int.emod_emod]
    · simp only [hv, if_false, Bool.false_eq_true]
  · rw [if_pos hq, if_pos hq]
section
variable {ro : Nat} {s : St} {K : Value → St → Prop}
theorem wGholds (g : Gp) (hv : fV g.f = true) {ur u : Value} {vals : List Int} (hw : Wf s) (hro : ro ≤ s.n) (hG : FieldsAt s) (hr0 : 0 < ro) (hr : RowsS s ur g.rows) (hu : U64s s u vals) (hpos : ∀ x ∈ vals, 0 ≤ x) {i : Nat} {r : Row} (hi : g.rows[i]? = some r) (hlen : g.rows.length < 2 ^ 60)
    (hf : RowFit vals.length r) (hnx : r.k = 3 → i + 1 < g.rows.length ∧ ∀ k, k < 4 → 0 ≤ (nxt g.rows i).w k ∧ (nxt g.rows i).w k < vals.length) :
    CallWP P ro 23 [.agg (.mk (g.cells ur)), u, .int .i64 i] s K = K (.bool (holdsR g.f r (nxt g.rows i) vals)) s := by
  refine callEq (call_wp b23 rfl ?_) K
  rw [n23]
  unfold v23
  simp (maxSteps := 10000000) only [wW, reduceCtorEq, Nat.reduceEqDiff]
  refine box_rule hw.ent fun G s1 m1 => ?_
  have e1 := m1.eq
  have n1 := m1.n
  have hn0 : (ent s).n = s.n := rfl
  have hG1 : s1.at G = some (.cells (g.cells ur) 24 false) := m1.here
  obtain ⟨A, o, c, q1, q2⟩ := RowsS.ix (Sl.grew (Sl.ent hr) m1.grew.same) hi
  simp (maxSteps := 10000000) only [wW, reduceCtorEq, Nat.reduceEqDiff, wL, Nat.reduceAdd, acells_some hG1, q1, q2.blk, q2.all]
  refine alloc_rule ty_43 m1.wf fun R s2 m2 => ?_
  have e2 := m2.eq
  have n2 := m2.n
  have hil : i < g.rows.length := (List.getElem?_eq_some_iff.1 hi).1
  refine storeAll_rule isz_43 m2.here (l := r.cells) rfl (by decide) m2.wf (by omega) rfl rfl fun s3 p3 => ?_
  have g3 := p3.grew _ hw.ent (m1.grew.trans m2.grew) (by omega)
  have n3 := p3.n
  have hG3 : s3.at G = some (.cells (g.cells ur) 24 false) := (p3.rest G (by omega)).trans ((m2.grew.same G (by omega)).trans hG1)
  have hGc : acells (s3.at G) = some (g.cells ur) := acells_some hG3
  have hR : acells (s3.at R) = some r.cells := acells_some p3.here
  have hu3 : U64s s3 u vals := (Sl.ent hu).grew g3.same
  have hF3 : FieldsAt s3 := FieldsAt.grew (s := ent s) hG g3
  have hi1 : ∀ z : Int, veq (.int .u64 z) (.int .u64 z) = true := fun z => by simp [veq]
  have hi2 : ∀ z : Int, veq (.int .i64 z) (.int .i64 z) = true := fun z => by simp [veq]
  simp (maxSteps := 10000000) only [wW, reduceCtorEq, Nat.reduceEqDiff, wL, Nat.reduceAdd, hGc, hR, hi1, hi2, rcVeq, true_and]
  unfold holdsR
  by_cases k1 : r.k = 1
  · rw [if_pos k1, if_pos k1]
    have h2 : rdB r 2 = true → 0 ≤ r.w 2 ∧ r.w 2 < vals.length := fun h => by
      have e : rd2 r = true := h
      unfold rd2 at e
      rw [if_pos k1, decide_eq_true_eq] at e
      exact hf.c k1 e
    have w2 : ∀ K : Value → St → Prop, CallWP P ro 50 [.agg (.mk r.cells), u, .int .i64 2] s3 K = K (.int .u64 (wireM r vals 2)) s3 := fun K => wWire r hu3 (i := 2) (by decide) h2 p3.wf (by omega)
    show CallWP P ro 32 [.int .i64 g.f, .agg (.mk r.cells), u] s3 _
    rw [wTotal g.f k1 hf.nn hu3 hpos (hf.a k1) (hf.b k1) p3.wf (by omega) hF3]
    refine ⟨.refl _, ?_⟩
    show CallWP P ro 50 [.agg (.mk r.cells), u, .int .i64 2] s3 _
    rw [w2]
    refine ⟨.refl _, ?_⟩
    rw [wfMul g.f hf.nn.qo (wireM_nn hpos 2) p3.wf (by omega) hF3]
    refine ⟨.refl _, ?_⟩
    rw [wfAdd g.f (show 0 ≤ sumM g.f r vals from (fAdd_bounds _ _ _).1) (fMul_bounds _ _ _).1 p3.wf (by omega) hF3]
    simp (maxSteps := 10000000) only [wW, reduceCtorEq, Nat.reduceEqDiff]
    refine fin_flat rfl g3 ⟨?_, rfl⟩
    rw [hold1 k1]
  · rw [if_neg k1, if_neg k1]
    by_cases k2 : r.k = 2
    · rw [if_pos k2, if_pos k2]
      have hx := hf.range k2
      obtain ⟨A2, o2, c2, x1, x2, x3⟩ := hu3.at1 hx.1 (at0_get hx.1 hx.2)
      simp (maxSteps := 10000000) only [wW, reduceCtorEq, Nat.reduceEqDiff, wL, Nat.reduceAdd, hGc, hR, x1, x2, x3]
      exact fin_flat rfl g3 ⟨rfl, rfl⟩
    · rw [if_neg k2, if_neg k2]
      by_cases k3 : r.k = 3
      · rw [if_pos k3, if_pos k3]
        have hx := hf.round k3
        have hy := hnx k3
        show CallWP P ro 29 [.int .i64 g.f, .agg (.mk r.cells), u] s3 _
        rw [wTurned g.f hv hx.1 p3.wf (by omega) hF3 hr0 hu3 hpos hx.2]
        have hl2 := roundM_len g.f r.rd (wv vals r)
        generalize roundM g.f r.rd (wv vals r) = q at hl2 ⊢
        have hnr : g.rows[i + 1]? = some (nxt g.rows i) := by
          unfold nxt
          rw [List.getElem?_eq_getElem hy.1]; rfl
        have hr3 : RowsS s3 ur g.rows := (Sl.ent hr).grew g3.same
        obtain ⟨A3, o3, c3, y1, y2⟩ := hr3.ix hnr
        have hwv : (wv vals (nxt g.rows i)).length = 4 := rfl
        refine wloop l23_11010111110100 m23_11010111110100 (fun (k : Nat) τ ds s' => k ≤ 4 ∧ τ 1 = u ∧ τ 2 = .int .i64 i ∧ τ 3 = ptr G ∧ τ 51 = .agg (.mk (u4 q)) ∧ τ 52 = .int .i64 k ∧ ds = [] ∧ s' = s3 ∧ ∀ j, j < k → at0 (wv vals (nxt g.rows i)) j = at0 q j) (fun k => 4 - k) ?_ 0 ⟨by omega, rfl, rfl, rfl, rfl, rfl, rfl, rfl, fun j hj => by omega⟩
        rintro k τ ds s' ⟨hk, h1, h2, h3, h51, h52, rfl, rfl, hall⟩
        rw [n23_11010111110100]
        unfold v23_11010111110100
        by_cases hk4 : k < 4
        · have hx := hy.2 k hk4
          obtain ⟨A4, o4, c4, z1, z2, z3⟩ := hu3.at1 hx.1 (at0_get hx.1 hx.2)
          have hiw : IntKind.i64.wrap ((i : Int) + 1) = ((i + 1 : Nat) : Int) := by rw [wrap_i64 (by omega) (by omega)]; rfl
          have hw3 := y2.wire hk4
          have hb2 := y2.blk
          simp (maxSteps := 10000000) only [wW, reduceCtorEq, Nat.reduceEqDiff, wL, Nat.reduceAdd, h1, h2, h3, h51, h52, hGc, hiw, y1, hb2, wix _ _ hk4, aiU hl2 hk4, hw3, z1, z2, z3]
          rw [if_pos (by omega)]
          by_cases he : at0 vals ((nxt g.rows i).w k) = at0 q k
          · rw [if_neg (by simpa using he)]
            refine ⟨k + 1, by omega, by omega, h1, h2, h3, h51, ?_, trivial, trivial, fun j hj => ?_⟩
            · show Value.int .i64 (IntKind.i64.wrap ((k : Int) + 1)) = _
              rw [wrap_i64 (by omega) (by omega)]
              rfl
            · rcases Nat.lt_or_ge j k with h | h
              · exact hall j h
              · obtain rfl : j = k := by omega
                rw [wv_get _ _ hk4]
                exact he
          · rw [if_pos (by simpa using he), r23]
            simp (maxSteps := 10000000) only [U, tset_eq, wW, reduceCtorEq, Nat.reduceEqDiff]
            refine fin_flat rfl g3 ⟨?_, rfl⟩
            rw [decide_eq_false]
            intro hh
            rw [eq4 hwv hl2] at hh
            have := hh k hk4
            rw [wv_get _ _ hk4] at this
            exact he this
        · obtain rfl : k = 4 := by omega
          simp (maxSteps := 10000000) only [wW, reduceCtorEq, Nat.reduceEqDiff, h52]
          rw [if_neg (by omega)]
          refine fin_flat rfl g3 ⟨?_, rfl⟩
          rw [decide_eq_true]
          exact (eq4 hwv hl2).2 hall
      · rw [if_neg k3, if_neg k3]
        exact fin_flat rfl g3 ⟨rfl, rfl⟩
end
end Go.VE
/- The program's gates: formed. -/
namespace Go.VE
open Go Go.Proofs
set_option maxRecDepth 20000
theorem rdB_mem (r : Row) {k : Nat} (hk : k < 4) : rdB r k = true ↔ (k : Int) ∈ rds r := by
  unfold rds
  match k, hk with
  | 0, _ =>
    show rd0 r = true ↔ _
    unfold rd0
    by_cases h1 : r.k = 1 <;> by_cases h2 : r.k = 2 <;> by_cases h3 : r.k = 3 <;> simp [h1, h2, h3] <;> (try omega) <;> (try (split <;> split <;> simp_all))
  | 1, _ =>
    show rd1 r = true ↔ _
    unfold rd1
    by_cases h1 : r.k = 1 <;> by_cases h2 : r.k = 2 <;> by_cases h3 : r.k = 3 <;> simp [h1, h2, h3] <;> (try omega)
  | 2, _ =>
    show rd2 r = true ↔ _
    unfold rd2
    by_cases h1 : r.k = 1 <;> by_cases h2 : r.k = 2 <;> by_cases h3 : r.k = 3 <;> simp [h1, h2, h3] <;> (try omega)
  | 3, _ =>
    show rd3 r = true ↔ _
    unfold rd3
    by_cases h1 : r.k = 1 <;> by_cases h2 : r.k = 2 <;> by_cases h3 : r.k = 3 <;> simp [h1, h2, h3] <;> (try omega)
def WireOk (nv : Int) (r : Row) (k : Nat) : Prop := -1 ≤ r.w k ∧ r.w k < nv ∧ (rdB r k = true → 0 ≤ r.w k)
instance (nv : Int) (r : Row) (k : Nat) : Decidable (WireOk nv r k) := by unfold WireOk; infer_instance
def FormG (f nv : Int) (r : Row) : Prop := r.k ≤ 3 ∧ 0 ≤ r.rd ∧ r.rd < 8 ∧ (r.k ≠ 3 → r.rd = 0) ∧ mxL r.qs < fP f ∧ (r.k ≠ 1 → mxL r.qs = 0) ∧ ∀ k : Nat, k < 4 → WireOk nv r k
instance (f nv : Int) (r : Row) : Decidable (FormG f nv r) := by unfold FormG; infer_instance
theorem formed_iff {f nv : Int} {r : Row} (hnn : r.Nn) : Formed f nv r ↔ FormG f nv r := by
  unfold FormG
  have hl : 0 < r.qs.length := by show 0 < 5; decide
  have hn : ∀ q ∈ r.qs, 0 ≤ q := by
    intro q hq
    simp only [Row.qs, List.mem_cons, List.not_mem_nil, or_false] at hq
    rcases hq with rfl | rfl | rfl | rfl | rfl
    · exact hnn.ql
    · exact hnn.qr
    · exact hnn.qm
    · exact hnn.qo
    · exact hnn.qc
  have h0 : mxL r.qs = 0 ↔ ∀ q ∈ r.qs, q = 0 := by
    have h1 := mxL_lt (p := 1) hl
    have h2 := mxL_lt (p := 0) hl
    constructor
    · intro h q hq
      have a := h1.1 (by omega) q hq
      have b := hn q hq
      omega
    · intro h
      have a := h1.2 (fun q hq => by rw [h q hq]; decide)
      have b : ¬ mxL r.qs < 0 := fun hh => by
        have := h2.1 hh _ (at0_mem hl)
        have := hn _ (at0_mem hl)
        omega
      omega
  have hm := mxL_lt (p := fP f) hl
  constructor
  · rintro ⟨a, b, c, d, e, w, j⟩
    refine ⟨a, b, by omega, d, hm.2 fun q hq => (e q hq).1, fun h => h0.2 fun q hq => (e q hq).2 h, fun k hk => ⟨(w k hk).1, (w k hk).2, fun h => ?_⟩⟩
    have := j _ ((rdB_mem r hk).1 h)
    rwa [Int.toNat_natCast] at this
  · rintro ⟨a, b, c, d, e, e2, w⟩
    refine ⟨a, b, by omega, d, fun q hq => ⟨hm.1 e q hq, fun h => h0.1 (e2 h) q hq⟩, fun k hk => ⟨(w k hk).1, (w k hk).2.1⟩, fun j hj => ?_⟩
    have hj4 := rds_lt r j hj
    refine (w j.toNat (by omega)).2.2 ((rdB_mem r (by omega)).2 ?_)
    rwa [show ((j.toNat : Nat) : Int) = j by omega]
section
variable {ro : Nat} {s : St} {K : Value → St → Prop}
theorem wGformed (g : Gp) (r : Row) (hnn : r.Nn) {ur : Value} (hw : Wf s) (hro : ro ≤ s.n) (hF : FieldsAt s) : CallWP P ro 60 [.agg (.mk (g.cells ur)), .agg (.mk r.cells)] s K = K (.bool (decide (Formed g.f g.nv r))) s := by
  rw [show decide (Formed g.f g.nv r) = decide (FormG g.f g.nv r) from decide_eq_decide.2 (formed_iff hnn)]
  refine callEq (call_wp b60 rfl ?_) K
  rw [n60]
  unfold v60
  simp (maxSteps := 10000000) only [wW, reduceCtorEq, Nat.reduceEqDiff]
  refine box_rule hw.ent fun G s1 m1 => ?_
  refine box_rule m1.wf fun R s2 m2 => ?_
  have e1 := m1.eq
  have e2 := m2.eq
  have n1 := m1.n
  have n2 := m2.n
  have hn0 : (ent s).n = s.n := rfl
  have g2 := m1.grew.trans m2.grew
  have hG2 : s2.at G = some (.cells (g.cells ur) 24 false) := (m2.grew.same G (by omega)).trans m1.here
  have hR2 : s2.at R = some (.cells r.cells 43 false) := m2.here
  have hG := acells_some hG2
  have hR := acells_some hR2
  have no : ∀ {s' : St}, Grew (ent s) s' → ¬ FormG g.f g.nv r → wfin s (fun v s' => v = .bool (decide (FormG g.f g.nv r)) ∧ s' = s) (.bool false) s' := fun hg hf => by
    refine fin_flat rfl hg ⟨?_, rfl⟩
    rw [decide_eq_false hf]
  have noR : ∀ {τ : Tau} {al : AL} {s' : St}, Grew (ent s) s' → ¬ FormG g.f g.nv r → U τ al 4 = .bool false → xleave (prims P ro) s Tryd.f60.results.toList (fun v s' => v = .bool (decide (FormG g.f g.nv r)) ∧ s' = s) .ret (U τ al) [] [] s' := fun {τ al s'} hg hf h4 => by
    rw [r60]
    simp (maxSteps := 10000000) only [wW, reduceCtorEq, Nat.reduceEqDiff]
    rw [h4]
    exact no hg hf
  simp (maxSteps := 10000000) only [wW, reduceCtorEq, Nat.reduceEqDiff, wL, Nat.reduceAdd, hG, hR]
  refine buildSlice_rule se_25 ty_38 m2.wf [.int .u64 r.ql, .int .u64 r.qr, .int .u64 r.qm, .int .u64 r.qo, .int .u64 r.qc] rfl rfl (by decide) (by simp [Value.cells]) fun A s3 m3 => ?_
  have e3 := m3.eq
  have n3 := m3.n
  have hQ : U64s s3 (.slice (some ⟨A, 0, none⟩) 5 5) r.qs := m3.sl rfl
  have g3 := g2.trans m3.grew
  have hG3 : acells (s3.at G) = some (g.cells ur) := acells_some ((m3.grew.same G (by omega)).trans hG2)
  have hR3' := (m3.grew.same R (by omega)).trans hR2
  have hR3 : acells (s3.at R) = some r.cells := acells_some hR3'
  simp (maxSteps := 10000000) only [wW, reduceCtorEq, Nat.reduceEqDiff, wL, Nat.reduceAdd, hG3, hR3]
  have noX : ∀ {τ : Tau} {al : AL}, ¬ FormG g.f g.nv r → U τ al 4 = .bool false → (xleave (prims P ro) s Tryd.f60.results.toList fun v s' => v = Value.bool (decide (FormG g.f g.nv r)) ∧ s' = s) .ret τ al [] s3 := fun {τ al} hf h4 => by
    rw [xleave_U]
    exact noR g3 hf h4
  have sc : ∀ {τ : Tau}, τ 2 = ptr G → τ 3 = ptr R → (r.k ≤ 3 ∧ 0 ≤ r.rd ∧ r.rd < 8) → ((r.k ≠ 3 → r.rd = 0) ∧ mxL r.qs < fP g.f) → (r.k ≠ 1 → mxL r.qs = 0) →
      xp (prims P ro) none 80 k60 c60_111 [1, 1, 1] τ [] [] s3 (xleave (prims P ro) s Tryd.f60.results.toList fun v s' => v = Value.bool (decide (FormG g.f g.nv r)) ∧ s' = s) := fun {τ} h2 h3 hp hq hz => by
    rw [n60_111]
    unfold v60_111
    have hl : s3.at R = some (.cells r.cells 43 false) := hR3'
    simp (maxSteps := 10000000) only [wW, reduceCtorEq, Nat.reduceEqDiff, h3]
    rw [wop_load, load_all ap_43 hl rfl, wopt_some, wGreads r m3.wf (by omega)]
    refine wloop l60_1110100 m60_1110100 (fun (i : Nat) τ ds s' => i ≤ 4 ∧ τ 2 = ptr G ∧ τ 3 = ptr R ∧ τ 55 = .agg (.mk (rdVs r)) ∧ τ 56 = .int .i64 i ∧ ds = [] ∧ s3 = s' ∧ ∀ k : Nat, k < i → WireOk g.nv r k) (fun i => 4 - i) ?_ 0 ⟨by omega, ?_, ?_, rfl, rfl, rfl, rfl, fun k hk => by omega⟩
    · rintro i τ ds s' ⟨hi, h2, h3, h55, h56, rfl, rfl, hall⟩
      rw [n60_1110100]
      unfold v60_1110100
      by_cases hlt : i < 4
      · simp (maxSteps := 10000000) only [wW, reduceCtorEq, Nat.reduceEqDiff, wL, Nat.reduceAdd, h2, h3, h55, h56, hG3, hR3, wix _ _ hlt, rcw r hlt, aiR r hlt]
        rw [if_pos (by omega)]
        by_cases hlo : r.w i < -1
        · rw [if_pos hlo]
          refine noR g3 (fun hf => ?_) (by simp only [U, tset_eq, wW, reduceCtorEq, Nat.reduceEqDiff])
          have := (hf.2.2.2.2.2.2 i hlt).1
          omega
        · rw [if_neg hlo]
          by_cases hhi : r.w i ≥ g.nv
          · rw [if_pos hhi]
            refine noR g3 (fun hf => ?_) (by simp only [U, tset_eq, wW, reduceCtorEq, Nat.reduceEqDiff])
            have := (hf.2.2.2.2.2.2 i hlt).2.1
            omega
          · rw [if_neg hhi]
            have next : (rdB r i = true → 0 ≤ r.w i) → ∀ al : AL, U τ al 2 = ptr G → U τ al 3 = ptr R → U τ al 55 = .agg (.mk (rdVs r)) → U τ al 56 = .int .i64 (IntKind.i64.wrap ((i : Int) + 1)) → ∃ y, 4 - y < 4 - i ∧ y ≤ 4 ∧ U τ al 2 = ptr G ∧ U τ al 3 = ptr R ∧ U τ al 55 = .agg (.mk (rdVs r)) ∧ U τ al 56 = .int .i64 (y : Nat) ∧ True ∧ True ∧ ∀ k : Nat, k < y → WireOk g.nv r k := fun hr al a2 a3 a5 a6 => by
              rw [wrap_i64 (by omega) (by omega)] at a6
              refine ⟨i + 1, by omega, by omega, a2, a3, a5, a6, trivial, trivial, fun k hk => ?_⟩
              rcases Nat.lt_or_ge k i with h | h
              · exact hall k h
              · obtain rfl : k = i := by omega
                exact ⟨by omega, by omega, hr⟩
            cases hb : rdB r i with
            | false =>
              simp (maxSteps := 10000000) only [wW, reduceCtorEq, Nat.reduceEqDiff]
              refine next (fun h => by rw [hb] at h; cases h) _ ?_ ?_ ?_ ?_ <;> simp only [U, tset_eq, wW, reduceCtorEq, Nat.reduceEqDiff, h2, h3, h55, h56]
            | true =>
              simp (maxSteps := 10000000) only [wW, reduceCtorEq, Nat.reduceEqDiff]
              by_cases hneg : r.w i < 0
              · rw [if_pos hneg]
                refine noR g3 (fun hf => ?_) (by simp only [U, tset_eq, wW, reduceCtorEq, Nat.reduceEqDiff])
                have := (hf.2.2.2.2.2.2 i hlt).2.2 hb
                omega
              · rw [if_neg hneg]
                refine next (fun _ => by omega) _ ?_ ?_ ?_ ?_ <;> simp only [U, tset_eq, wW, reduceCtorEq, Nat.reduceEqDiff, h2, h3, h55, h56]
      · obtain rfl : i = 4 := by omega
        simp (maxSteps := 10000000) only [wW, reduceCtorEq, Nat.reduceEqDiff, h56]
        rw [if_neg (by omega), xleave_U, r60]
        simp (maxSteps := 10000000) only [U, tset_eq, wW, reduceCtorEq, Nat.reduceEqDiff]
        refine fin_flat rfl g3 ⟨?_, rfl⟩
        rw [decide_eq_true]
        exact ⟨hp.1, hp.2.1, hp.2.2, hq.1, hq.2, hz, hall⟩
    · simp only [U, tset_eq, wW, reduceCtorEq, Nat.reduceEqDiff, h2]
    · simp only [U, tset_eq, wW, reduceCtorEq, Nat.reduceEqDiff, h3]
  have sb : ∀ {τ : Tau} {b : Bool}, τ 30 = .bool b → τ 2 = ptr G → τ 3 = ptr R → τ 5 = .slice (some ⟨A, 0, none⟩) 5 5 → (r.k ≤ 3 ∧ 0 ≤ r.rd ∧ r.rd < 8) → (b = true → ¬ FormG g.f g.nv r) → (b = false → (r.k ≠ 3 → r.rd = 0) ∧ mxL r.qs < fP g.f) →
      xp (prims P ro) none 80 k60 c60_1100111 [1, 1, 1, 0, 0, 1, 1] τ [] [] s3 (blkX 0 (sX (prims P ro) none 80 k60 c60_111 [1, 1, 1] (xleave (prims P ro) s Tryd.f60.results.toList fun v s' => v = Value.bool (decide (FormG g.f g.nv r)) ∧ s' = s))) := fun {τ b} h30 h2 h3 h5 hp hT hF' => by
    rw [n60_1100111]
    unfold v60_1100111
    simp (maxSteps := 10000000) only [wW, reduceCtorEq, Nat.reduceEqDiff, wL, Nat.reduceAdd, h30, h2, h3, h5, hG3, hR3]
    by_cases hb : b = true
    · rw [if_pos hb]
      exact noX (hT hb) rfl
    · rw [if_neg hb]
      have hq := hF' (by simpa using hb)
      by_cases k1 : r.k = 1
      · rw [if_neg (by simpa using k1), blkX_n, sX_n QOk.leave]
        refine sc ?_ ?_ hp hq (fun h => absurd k1 h) <;> simp only [U, tset_eq, wW, reduceCtorEq, Nat.reduceEqDiff, h2, h3]
      · rw [if_pos k1, wMaxU hQ (by show 0 < 5; decide) (by show 5 < _; decide)]
        simp (maxSteps := 10000000) only [wW, reduceCtorEq, Nat.reduceEqDiff]
        by_cases hz : mxL r.qs = 0
        · rw [if_neg (by simpa using hz), blkX_n, sX_n QOk.leave]
          refine sc ?_ ?_ hp hq (fun _ => hz) <;> simp only [U, tset_eq, wW, reduceCtorEq, Nat.reduceEqDiff, h2, h3]
        · rw [if_pos hz]
          exact noX (fun hf => hz (hf.2.2.2.2.2.1 k1)) rfl
  have sa : ∀ {τ : Tau} {b : Bool}, τ 20 = .bool b → τ 2 = ptr G → τ 3 = ptr R → τ 5 = .slice (some ⟨A, 0, none⟩) 5 5 → (b = true → ¬ FormG g.f g.nv r) → (b = false → r.k ≤ 3 ∧ 0 ≤ r.rd ∧ r.rd < 8) →
      xp (prims P ro) none 80 k60 c60_11001 [1, 0, 0, 1, 1] τ [] [] s3 (blkX 0 (sX (prims P ro) none 80 k60 c60_111 [1, 1, 1] (xleave (prims P ro) s Tryd.f60.results.toList fun v s' => v = Value.bool (decide (FormG g.f g.nv r)) ∧ s' = s))) := fun {τ b} h20 h2 h3 h5 hT hF' => by
    rw [n60_11001]
    unfold v60_11001
    simp (maxSteps := 10000000) only [wW, reduceCtorEq, Nat.reduceEqDiff, wL, Nat.reduceAdd, h20, h2, h3, h5, hG3, hR3]
    by_cases hb : b = true
    · rw [if_pos hb]
      exact noX (hT hb) rfl
    · rw [if_neg hb]
      have hp := hF' (by simpa using hb)
      have mx : ∀ K : Value → St → Prop, CallWP P ro 46 [.slice (some ⟨A, 0, none⟩) 5 5] s3 K = K (.int .u64 (mxL r.qs)) s3 := fun K => wMaxU hQ (by show 0 < 5; decide) (by show 5 < _; decide)
      have hF3 : FieldsAt s3 := FieldsAt.grew (s := ent s) hF g3
      have pp : ∀ K : Value → St → Prop, CallWP P ro 47 [.int .i64 g.f] s3 K = K (.int .u64 (fP g.f)) s3 := fun K => wfP g.f m3.wf (by omega) hF3
      by_cases k3 : r.k = 3
      · rw [if_neg (by simpa using k3)]
        refine ⟨by simp [veq], ?_⟩
        rw [mx]
        refine ⟨.refl _, ?_⟩
        rw [pp]
        simp (maxSteps := 10000000) only [wW, reduceCtorEq, Nat.reduceEqDiff]
        refine sb (b := decide (mxL r.qs ≥ fP g.f)) ?_ ?_ ?_ ?_ hp (fun hb h => ?_) (fun hb => ⟨fun h => absurd k3 h, ?_⟩)
        · simp only [U, tset_eq, wW, reduceCtorEq, Nat.reduceEqDiff]
        · simp only [U, tset_eq, wW, reduceCtorEq, Nat.reduceEqDiff, h2]
        · simp only [U, tset_eq, wW, reduceCtorEq, Nat.reduceEqDiff, h3]
        · simp only [U, tset_eq, wW, reduceCtorEq, Nat.reduceEqDiff, h5]
        · have := of_decide_eq_true hb
          have := h.2.2.2.2.1
          omega
        · have := of_decide_eq_false hb
          omega
      · rw [if_pos k3]
        by_cases k0 : r.rd = 0
        · rw [if_neg (by simpa using k0)]
          refine ⟨by simp [veq], ?_⟩
          rw [mx]
          refine ⟨.refl _, ?_⟩
          rw [pp]
          simp (maxSteps := 10000000) only [wW, reduceCtorEq, Nat.reduceEqDiff]
          refine sb (b := decide (mxL r.qs ≥ fP g.f)) ?_ ?_ ?_ ?_ hp (fun hb h => ?_) (fun hb => ⟨fun _ => k0, ?_⟩)
          · simp only [U, tset_eq, wW, reduceCtorEq, Nat.reduceEqDiff]
          · simp only [U, tset_eq, wW, reduceCtorEq, Nat.reduceEqDiff, h2]
          · simp only [U, tset_eq, wW, reduceCtorEq, Nat.reduceEqDiff, h3]
          · simp only [U, tset_eq, wW, reduceCtorEq, Nat.reduceEqDiff, h5]
          · have := of_decide_eq_true hb
            have := h.2.2.2.2.1
            omega
          · have := of_decide_eq_false hb
            omega
        · rw [if_pos k0]
          refine sb (b := true) ?_ ?_ ?_ ?_ hp (fun _ h => k0 (h.2.2.2.1 k3)) (fun h => by cases h)
          · simp only [U, tset_eq, wW, reduceCtorEq, Nat.reduceEqDiff]
          · simp only [U, tset_eq, wW, reduceCtorEq, Nat.reduceEqDiff, h2]
          · simp only [U, tset_eq, wW, reduceCtorEq, Nat.reduceEqDiff, h3]
          · simp only [U, tset_eq, wW, reduceCtorEq, Nat.reduceEqDiff, h5]
  by_cases c1 : r.k > 3
  · rw [if_pos c1]
    exact sa (b := true) rfl rfl rfl rfl (fun _ h => by have := h.1; omega) (fun h => by cases h)
  · rw [if_neg c1]
    by_cases c2 : r.rd < 0
    · rw [if_pos c2]
      exact sa (b := true) rfl rfl rfl rfl (fun _ h => by have := h.2.1; omega) (fun h => by cases h)
    · rw [if_neg c2]
      refine sa (b := decide (r.rd ≥ 8)) rfl rfl rfl rfl (fun hb h => ?_) (fun hb => ?_)
      · have := of_decide_eq_true hb
        have := h.2.2.1
        omega
      · have := of_decide_eq_false hb
        omega
end
end Go.VE
/- The program's gates: the library's slices of ints. -/
namespace Go.VE
open Go Go.Proofs
set_option maxRecDepth 20000
def mxF (l : List Int) : Int := l.foldl maxI 0
section
variable {ro : Nat} {s : St} {K : Value → St → Prop}
theorem wMaxI {u : Value} {l : List Int} (hu : Ints s u l) (h0 : 0 < l.length) (hlen : l.length < 2 ^ 60) : CallWP P ro 62 [u] s K = K (.int .i64 (mxL l)) s := by
  refine callEq (call_wp b62 rfl ?_) K
  rw [n62]
  unfold v62
  simp (maxSteps := 10000000) only [wW, reduceCtorEq, Nat.reduceEqDiff, Sl.wlen hu se_49]
  rw [if_neg (by omega), n62_11]
  unfold v62_11
  obtain ⟨A, o, c, q1, q2, q3⟩ := hu.at1 (i := 0) (x := at0 l 0) (by decide) (at0_get (Int.le_refl 0) (by omega))
  simp (maxSteps := 10000000) only [U, tset_eq, wW, reduceCtorEq, Nat.reduceEqDiff, wL, Nat.reduceAdd, q1, q2, q3]
  refine wloop l62_1110100 m62_1110100 (fun (i : Nat) τ ds s' => 1 ≤ i ∧ i ≤ l.length ∧ τ 0 = u ∧ τ 3 = .int .i64 ((l.take i).foldl maxI (at0 l 0)) ∧ τ 4 = .int .i64 i ∧ ds = [] ∧ s' = ent s) (fun i => l.length - i) ?_ 1 ⟨Nat.le_refl _, h0, ?_, ?_, ?_, rfl, rfl⟩
  · rintro i τ ds s' ⟨h1, hi, t0, t3, t4, rfl, rfl⟩
    rw [n62_1110100]
    unfold v62_1110100
    simp (maxSteps := 10000000) only [wW, reduceCtorEq, Nat.reduceEqDiff, t0, t3, t4, Sl.wlen hu se_49]
    by_cases hlt : i < l.length
    · rw [if_pos (by omega)]
      obtain ⟨A, o, c, q1, q2, q3⟩ := hu.at1 (i := (i : Int)) (x := l[i]) (by omega) (by rw [Int.toNat_natCast]; exact List.getElem?_eq_getElem hlt)
      simp (maxSteps := 10000000) only [wW, reduceCtorEq, Nat.reduceEqDiff, wL, Nat.reduceAdd, q1, q2, q3, max_i64]
      rw [wrap_i64 (by omega) (by omega)]
      refine ⟨i + 1, by omega, by omega, by omega, ?_, ?_, ?_, trivial, trivial⟩
      · simp only [U, tset_eq, wW, reduceCtorEq, Nat.reduceEqDiff, t0]
      · simp only [U, tset_eq, wW, reduceCtorEq, Nat.reduceEqDiff]
        rw [take_succ_eq (List.getElem?_eq_getElem hlt), List.foldl_append]
        rfl
      · simp only [U, tset_eq, wW, reduceCtorEq, Nat.reduceEqDiff]; rfl
    · obtain rfl : i = l.length := by omega
      rw [if_neg (by omega), List.take_length] at *
      simp (maxSteps := 10000000) only [U, tset_eq, wW, reduceCtorEq, Nat.reduceEqDiff, t3]
      rw [xleave_U, r62]
      simp (maxSteps := 10000000) only [U, tset_eq, wW, reduceCtorEq, Nat.reduceEqDiff]
      exact fin_flat rfl (.refl _) ⟨rfl, rfl⟩
  · simp only [U, tset_eq, wW, reduceCtorEq, Nat.reduceEqDiff]
  · simp only [U, tset_eq, wW, reduceCtorEq, Nat.reduceEqDiff]
    rw [show l.take 1 = [at0 l 0] by
      cases l with
      | nil => simp at h0
      | cons x l => rfl]
    simp [maxI]
  · simp only [U, tset_eq, wW, reduceCtorEq, Nat.reduceEqDiff]; rfl
theorem wMinI {u : Value} {l : List Int} (hu : Ints s u l) (h0 : 0 < l.length) (hlen : l.length < 2 ^ 60) : CallWP P ro 61 [u] s K = K (.int .i64 (mnL l)) s := by
  refine callEq (call_wp b61 rfl ?_) K
  rw [n61]
  unfold v61
  simp (maxSteps := 10000000) only [wW, reduceCtorEq, Nat.reduceEqDiff, Sl.wlen hu se_49]
  rw [if_neg (by omega), n61_11]
  unfold v61_11
  obtain ⟨A, o, c, q1, q2, q3⟩ := hu.at1 (i := 0) (x := at0 l 0) (by decide) (at0_get (Int.le_refl 0) (by omega))
  simp (maxSteps := 10000000) only [U, tset_eq, wW, reduceCtorEq, Nat.reduceEqDiff, wL, Nat.reduceAdd, q1, q2, q3]
  refine wloop l61_1110100 m61_1110100 (fun (i : Nat) τ ds s' => 1 ≤ i ∧ i ≤ l.length ∧ τ 0 = u ∧ τ 3 = .int .i64 ((l.take i).foldl minI (at0 l 0)) ∧ τ 4 = .int .i64 i ∧ ds = [] ∧ s' = ent s) (fun i => l.length - i) ?_ 1 ⟨Nat.le_refl _, h0, ?_, ?_, ?_, rfl, rfl⟩
  · rintro i τ ds s' ⟨h1, hi, t0, t3, t4, rfl, rfl⟩
    rw [n61_1110100]
    unfold v61_1110100
    simp (maxSteps := 10000000) only [wW, reduceCtorEq, Nat.reduceEqDiff, t0, t3, t4, Sl.wlen hu se_49]
    by_cases hlt : i < l.length
    · rw [if_pos (by omega)]
      obtain ⟨A, o, c, q1, q2, q3⟩ := hu.at1 (i := (i : Int)) (x := l[i]) (by omega) (by rw [Int.toNat_natCast]; exact List.getElem?_eq_getElem hlt)
      simp (maxSteps := 10000000) only [wW, reduceCtorEq, Nat.reduceEqDiff, wL, Nat.reduceAdd, q1, q2, q3, min_i64']
      rw [wrap_i64 (by omega) (by omega)]
      refine ⟨i + 1, by omega, by omega, by omega, ?_, ?_, ?_, trivial, trivial⟩
      · simp only [U, tset_eq, wW, reduceCtorEq, Nat.reduceEqDiff, t0]
      · simp only [U, tset_eq, wW, reduceCtorEq, Nat.reduceEqDiff]
        rw [take_succ_eq (List.getElem?_eq_getElem hlt), List.foldl_append]
        rfl
      · simp only [U, tset_eq, wW, reduceCtorEq, Nat.reduceEqDiff]; rfl
    · obtain rfl : i = l.length := by omega
      rw [if_neg (by omega), List.take_length] at *
      simp (maxSteps := 10000000) only [U, tset_eq, wW, reduceCtorEq, Nat.reduceEqDiff, t3]
      rw [xleave_U, r61]
      simp (maxSteps := 10000000) only [U, tset_eq, wW, reduceCtorEq, Nat.reduceEqDiff]
      exact fin_flat rfl (.refl _) ⟨rfl, rfl⟩
  · simp only [U, tset_eq, wW, reduceCtorEq, Nat.reduceEqDiff]
  · simp only [U, tset_eq, wW, reduceCtorEq, Nat.reduceEqDiff]
    rw [show l.take 1 = [at0 l 0] by
      cases l with
      | nil => simp at h0
      | cons x l => rfl]
    simp [minI]
  · simp only [U, tset_eq, wW, reduceCtorEq, Nat.reduceEqDiff]; rfl
theorem wDeepest {u : Value} {l : List Int} (hu : Ints s u l) (hlen : l.length < 2 ^ 60) : CallWP P ro 38 [u] s K = K (.int .i64 (mxF l)) s := by
  refine callEq (call_wp b38 rfl ?_) K
  rw [n38]
  unfold v38
  simp (maxSteps := 10000000) only [wW, reduceCtorEq, Nat.reduceEqDiff, Sl.wlen hu se_49]
  refine wloop l38_110100 m38_110100 (fun (i : Nat) τ ds s' => i ≤ l.length ∧ τ 6 = u ∧ τ 7 = .int .i64 l.length ∧ τ 3 = .int .i64 ((l.take i).foldl maxI 0) ∧ τ 8 = .int .i64 i ∧ ds = [] ∧ s' = ent s) (fun i => l.length - i) ?_ 0 ⟨Nat.zero_le _, ?_, ?_, ?_, ?_, rfl, rfl⟩
  · rintro i τ ds s' ⟨hi, t6, t7, t3, t8, rfl, rfl⟩
    rw [n38_110100]
    unfold v38_110100
    simp (maxSteps := 10000000) only [wW, reduceCtorEq, Nat.reduceEqDiff, t6, t7, t3, t8]
    by_cases hlt : i < l.length
    · rw [if_pos (by omega)]
      obtain ⟨A, o, c, q1, q2, q3⟩ := hu.at1 (i := (i : Int)) (x := l[i]) (by omega) (by rw [Int.toNat_natCast]; exact List.getElem?_eq_getElem hlt)
      simp (maxSteps := 10000000) only [wW, reduceCtorEq, Nat.reduceEqDiff, wL, Nat.reduceAdd, q1, q2, q3, max_i64]
      rw [wrap_i64 (by omega) (by omega)]
      refine ⟨i + 1, by omega, by omega, ?_, ?_, ?_, ?_, trivial, trivial⟩
      · simp only [U, tset_eq, wW, reduceCtorEq, Nat.reduceEqDiff, t6]
      · simp only [U, tset_eq, wW, reduceCtorEq, Nat.reduceEqDiff, t7]
      · simp only [U, tset_eq, wW, reduceCtorEq, Nat.reduceEqDiff]
        rw [take_succ_eq (List.getElem?_eq_getElem hlt), List.foldl_append]
        rfl
      · simp only [U, tset_eq, wW, reduceCtorEq, Nat.reduceEqDiff]; rfl
    · obtain rfl : i = l.length := by omega
      rw [if_neg (by omega), List.take_length] at *
      simp (maxSteps := 10000000) only [U, tset_eq, wW, reduceCtorEq, Nat.reduceEqDiff, t3]
      exact fin_flat rfl (.refl _) ⟨rfl, rfl⟩
  · simp only [U, tset_eq, wW, reduceCtorEq, Nat.reduceEqDiff]
  · simp only [U, tset_eq, wW, reduceCtorEq, Nat.reduceEqDiff]
  · simp only [U, tset_eq, wW, reduceCtorEq, Nat.reduceEqDiff]; rfl
  · simp only [U, tset_eq, wW, reduceCtorEq, Nat.reduceEqDiff]; rfl
theorem wContains {u : Value} {l : List Int} (x : Int) (hu : Ints s u l) (hlen : l.length < 2 ^ 60) : CallWP P ro 64 [u, .int .i64 x] s K = K (.bool (decide (x ∈ l))) s := by
  have hix : ∀ (s : St) (K : Value → St → Prop), Ints s u l → (∀ i : Int, (0 ≤ i ↔ x ∈ l) → K (.int .i64 i) s) → CallWP P ro 73 [u, .int .i64 x] s K := fun s K hu hk => by
    refine call_wp b73 rfl ?_
    rw [n73]
    unfold v73
    simp (maxSteps := 10000000) only [wW, reduceCtorEq, Nat.reduceEqDiff, Sl.wlen hu se_49]
    refine wloop l73_10100 m73_10100 (fun (i : Nat) τ ds s' => i ≤ l.length ∧ τ 0 = u ∧ τ 1 = .int .i64 x ∧ τ 7 = .int .i64 l.length ∧ τ 8 = .int .i64 i ∧ ds = [] ∧ s' = ent s ∧ ∀ y ∈ l.take i, y ≠ x) (fun i => l.length - i) ?_ 0 ⟨Nat.zero_le _, ?_, ?_, ?_, ?_, rfl, rfl, fun y hy => by cases hy⟩
    · rintro i τ ds s' ⟨hi, t0, t1, t7, t8, rfl, rfl, hall⟩
      rw [n73_10100]
      unfold v73_10100
      simp (maxSteps := 10000000) only [wW, reduceCtorEq, Nat.reduceEqDiff, t0, t1, t7, t8]
      by_cases hlt : i < l.length
      · rw [if_pos (by omega)]
        obtain ⟨A, o, c, q1, q2, q3⟩ := hu.at1 (i := (i : Int)) (x := l[i]) (by omega) (by rw [Int.toNat_natCast]; exact List.getElem?_eq_getElem hlt)
        simp (maxSteps := 10000000) only [wW, reduceCtorEq, Nat.reduceEqDiff, wL, Nat.reduceAdd, q1, q2, q3]
        by_cases he : x = l[i]
        · rw [if_pos he, r73]
          simp (maxSteps := 10000000) only [U, tset_eq, wW, reduceCtorEq, Nat.reduceEqDiff]
          refine fin_flat rfl (.refl _) (hk _ ⟨fun _ => ?_, fun _ => by omega⟩)
          rw [he]
          exact List.getElem_mem _
        · rw [if_neg he, wrap_i64 (by omega) (by omega)]
          refine ⟨i + 1, by omega, by omega, ?_, ?_, ?_, ?_, trivial, trivial, fun y hy => ?_⟩
          · simp only [U, tset_eq, wW, reduceCtorEq, Nat.reduceEqDiff, t0]
          · simp only [U, tset_eq, wW, reduceCtorEq, Nat.reduceEqDiff, t1]
          · simp only [U, tset_eq, wW, reduceCtorEq, Nat.reduceEqDiff, t7]
          · simp only [U, tset_eq, wW, reduceCtorEq, Nat.reduceEqDiff]; rfl
          · rw [take_succ_eq (List.getElem?_eq_getElem hlt), List.mem_append] at hy
            rcases hy with hy | hy
            · exact hall y hy
            · simp only [List.mem_cons, List.not_mem_nil, or_false] at hy
              subst hy
              exact fun h => he h.symm
      · rw [if_neg (by omega)]
        rw [List.take_of_length_le (by omega)] at hall
        refine fin_flat rfl (.refl _) (hk _ ⟨fun h => absurd h (by decide), fun h => absurd rfl (hall x h)⟩)
    · simp only [U, tset_eq, wW, reduceCtorEq, Nat.reduceEqDiff]
    · simp only [U, tset_eq, wW, reduceCtorEq, Nat.reduceEqDiff]
    · simp only [U, tset_eq, wW, reduceCtorEq, Nat.reduceEqDiff]
    · simp only [U, tset_eq, wW, reduceCtorEq, Nat.reduceEqDiff]; rfl
  refine callEq (call_wp b64 rfl ?_) K
  rw [n64]
  unfold v64
  show CallWP P ro 73 [u, .int .i64 x] (ent s) _
  refine hix _ _ (Sl.ent hu) fun i hi => ?_
  simp (maxSteps := 10000000) only [wW, reduceCtorEq, Nat.reduceEqDiff]
  refine fin_flat rfl (.refl _) ⟨?_, rfl⟩
  rw [show decide (i ≥ 0) = decide (x ∈ l) from decide_eq_decide.2 hi]
end
end Go.VE
/- The program's gates: the library's Repeat. -/
namespace Go.VE
open Go Go.Proofs
set_option maxRecDepth 20000
theorem and32 {x : Int} (h0 : 0 ≤ x) (h1 : x < 2 ^ 32) : ((BitVec.ofInt 64 x &&& BitVec.ofInt 64 4294967295).toNat : Int) = x := by
  rw [BitVec.toNat_and]
  have e1 : (BitVec.ofInt 64 x).toNat = x.toNat := by
    rw [BitVec.toNat_ofInt]
    congr 1
    exact Int.emod_eq_of_lt h0 (by omega)
  have e2 : (BitVec.ofInt 64 4294967295).toNat = 2 ^ 32 - 1 := rfl
  rw [e1, e2, Nat.and_two_pow_sub_one_eq_mod]
  omega
theorem andU32 {x : Int} (h0 : 0 ≤ x) (h1 : x < 2 ^ 32) : abinInt P .and .u64 x .u64 4294967295 = some (.int .u64 x) := by
  rw [int_and keq_u64]
  have e : IntKind.u64.bits = 64 := rfl
  rw [e, and32 h0 h1, wrap_u64 (by omega) (by omega)]
theorem shrU32 {x : Int} (h0 : 0 ≤ x) (h1 : x < 2 ^ 32) : abinInt P .shr .u64 x .u64 32 = some (.int .u64 0) := by
  rw [int_shr _ _ _ _ (by decide)]
  have e : (2 : Int) ^ min (32 : Int).toNat IntKind.u64.bits = 2 ^ 32 := rfl
  rw [e, Int.fdiv_eq_ediv_of_nonneg _ (by decide), Int.ediv_eq_zero_of_lt h0 h1]
section
variable {ro : Nat} {s : St} {K : Value → St → Prop}
theorem conv_int_uint (a : Int) (ty : TypeId) (s : St) (K : Value → St → Prop) : wop P ro (.convert 3 84 (.const (.int .i64 a))) ty s K = K (.int .u64 (IntKind.u64.wrap a)) s := by kernel_rfl
theorem conv_uint_int (a : Int) (ty : TypeId) (s : St) (K : Value → St → Prop) : wop P ro (.convert 84 3 (.const (.int .u64 a))) ty s K = K (.int .i64 (IntKind.i64.wrap a)) s := by kernel_rfl
theorem wMul1 {n : Int} (h0 : 0 ≤ n) (h1 : n < 2 ^ 31) : CallWP P ro 72 [.int .u64 1, .int .u64 n] s K = K (.tuple (.mk [.int .u64 0, .int .u64 n])) s := by
  have h64 : ∀ (s : St) (K : Value → St → Prop), CallWP P ro 78 [.int .u64 1, .int .u64 n] s K = K (.tuple (.mk [.int .u64 0, .int .u64 n])) s := fun s K => by
    refine callEq (call_wp b78 rfl ?_) K
    rw [n78]
    unfold v78
    simp (maxSteps := 10000000) only [wW, reduceCtorEq, Nat.reduceEqDiff, andU32 (show (0 : Int) ≤ 1 by decide) (by decide), andU32 h0 (show n < 2 ^ 32 by omega), shrU32 (show (0 : Int) ≤ 1 by decide) (by decide), shrU32 h0 (show n < 2 ^ 32 by omega)]
    have w1 : IntKind.u64.wrap (1 * n) = n := by rw [Int.one_mul]; exact wrap_u64 (by omega) (by omega)
    have w2 : IntKind.u64.wrap (0 * n) = 0 := by rw [Int.zero_mul]; rfl
    have w3 : IntKind.u64.wrap (1 * 0) = 0 := rfl
    have w4 : IntKind.u64.wrap (0 * 0) = 0 := rfl
    have w5 : IntKind.u64.wrap (0 + 0) = 0 := rfl
    have z1 := andU32 (x := 0) (by decide) (by decide)
    have z2 := shrU32 (x := 0) (by decide) (by decide)
    simp (maxSteps := 10000000) only [wW, reduceCtorEq, Nat.reduceEqDiff, w1, w2, w3, w4, w5, z1, z2, shrU32 h0 (show n < 2 ^ 32 by omega)]
    exact fin_flat rfl (.refl _) ⟨rfl, rfl⟩
  refine callEq (call_wp b72 rfl ?_) K
  rw [n72]
  unfold v72
  show CallWP P ro 78 [.int .u64 1, .int .u64 n] (ent s) _
  rw [h64]
  simp (maxSteps := 10000000) only [wW, reduceCtorEq, Nat.reduceEqDiff, wop_extract, List.getElem?_cons_zero, List.getElem?_cons_succ, wopt_some]
  exact fin_flat rfl (.refl _) ⟨rfl, rfl⟩
end
end Go.VE
/- The program's gates: the library's Repeat. -/
namespace Go.VE
open Go Go.Proofs
set_option maxRecDepth 20000
section
variable {ro : Nat} {s : St} {K : Value → St → Prop}
theorem Sl.firstN {s : St} {v : Value} {n : Nat} {cs : List Value} (h : Sl s v 1 n cs) {j : Nat} (hj : j ≤ n) : afirst s 1 j v = some (cs.take j) := by
  obtain ⟨a, c, rfl, hl, _, h⟩ := h
  cases j with
  | zero =>
    cases a with
    | none => rfl
    | some x => rfl
  | succ k =>
    obtain ⟨A, o, m, cells, t, op, rfl, hm, hA, hc⟩ := h (by omega)
    rw [Nat.mul_one] at hc
    have hlen : n ≤ cells.length - o := by
      have := congrArg List.length hc
      simp only [List.length_take, List.length_drop] at this
      omega
    simp only [afirst, Nat.mul_one, hm, cond_true, hA, acells, Option.bind_some]
    rw [cut_eq (by omega), ← hc, List.take_take, Nat.min_eq_left hj]
theorem map_spliceL {α : Type} (mk : α → Value) (l x : List α) (o : Nat) : splice (l.map mk) o (x.map mk) = (l.take o ++ x ++ l.drop (o + x.length)).map mk := by
  unfold splice
  simp [List.map_take, List.map_drop]
theorem Vc.copy {α : Type} {t u e : TypeId} {mk : α → Value} {s0 s : St} {A : Nat} {l : List α} (h : Vc e mk s0 s A l) (hse : sliceElem P t = some e) (hs : isz P e = some 1) (hw0 : Wf s0) (hro : ro ≤ s0.n) {o n c : Nat} {m : Option Nat} (hfit : o + n ≤ l.length) {w : Value} {k : Nat} {cs : List α} (hsrc : Sl s w 1 k (cs.map mk)) (h1 : ∀ x, (mk x).oneCell' = true) {ty : TypeId} {K : Value → St → Prop}
    (hk : ∀ s', Vc e mk s0 s' A (l.take o ++ cs.take (min k n) ++ l.drop (o + min k n)) → (∀ B, B ≠ A → s'.at B = s.at B) → s'.n = s.n → K (.int .i64 (min k n : Nat)) s') :
    wop P ro (.call ⟨.builtin .copy, ⟨[.const (.slice (some ⟨A, o, m⟩) n c), .const w]⟩, #[t, u]⟩) ty s K := by
  have hn := h.new
  have hcl : cs.length = k := by
    have := hsrc.len
    rw [List.length_map, Nat.mul_one] at this
    exact this
  rw [wop_copy]
  simp only [acopy, hse, hs, hsrc.first.1, hsrc.firstN (Nat.min_le_left k n), Option.bind_some]
  have hmin : (cs.take (min k n)).length = min k n := by rw [List.length_take]; omega
  rw [← List.map_take]
  cases hx : cs.take (min k n) with
  | nil =>
    have hz : min k n = 0 := by rw [hx] at hmin; exact hmin.symm
    have e : awrite ro s A o (List.map mk []) = some s := rfl
    rw [e, Option.map_some, wopt_some]
    refine hk s ?_ (fun _ _ => rfl) rfl
    rw [hx, hz, Nat.add_zero, List.append_nil, List.take_append_drop]
    exact h
  | cons x r =>
    have hall : (List.map mk (x :: r)).all (·.oneCell') = true := by
      rw [List.all_eq_true]
      intro v hv
      obtain ⟨y, _, rfl⟩ := List.mem_map.1 hv
      exact h1 y
    have hln : (List.map mk (x :: r)).length = min k n := by rw [List.length_map, ← hx]; exact hmin
    have ew : awrite ro s A o (List.map mk (x :: r)) = some (s.put A (.cells (splice (l.map mk) o (List.map mk (x :: r))) e false)) := by
      show awriteIn ro s A o (List.map mk (x :: r)) (s.at A) = _
      rw [h.here]
      have hb : (Nat.ble ro A && (Nat.ble (o + (List.map mk (x :: r)).length) (l.map mk).length && (List.map mk (x :: r)).all (·.oneCell'))) = true := by
        rw [hall, hln, Nat.ble_eq_true_of_le (show ro ≤ A by omega), Nat.ble_eq_true_of_le (show o + min k n ≤ (l.map mk).length by rw [List.length_map]; omega)]
        rfl
      simp only [awriteIn, hb, cond_true]
    rw [ew, Option.map_some, wopt_some]
    have p := Put.mk' h.wf (St.at_lt h.here) (.cells (splice (l.map mk) o (List.map mk (x :: r))) e false)
    refine hk _ ⟨?_, h.new, p.wf, p.grew _ hw0 h.grew h.new⟩ p.rest p.n
    rw [p.here, map_spliceL, hx]
    have : (x :: r).length = min k n := by rw [← hx]; exact hmin
    rw [this]
theorem Vc.part {α : Type} {e : TypeId} {mk : α → Value} {s0 s : St} {A : Nat} {l : List α} (h : Vc e mk s0 s A l) {o n c : Nat} (hfit : o + n ≤ l.length) (hc : n ≤ c) : Sl s (.slice (some ⟨A, o, none⟩) n c) 1 n (((l.drop o).take n).map mk) := by
  refine ⟨_, _, rfl, ?_, ⟨hc, fun h => (by cases h), fun x hx => by cases hx; exact .inl rfl⟩, fun _ => ⟨A, o, none, _, _, _, rfl, rfl, h.here, ?_⟩⟩
  · rw [List.length_map, List.length_take, List.length_drop]; omega
  · rw [Nat.mul_one, ← List.map_drop, ← List.map_take]
theorem rep_step {x z : Int} {n c : Nat} (hc : c ≤ n) : (List.replicate c x ++ List.replicate (n - c) z).take c ++ (List.replicate c x).take (min c (n - c)) ++ (List.replicate c x ++ List.replicate (n - c) z).drop (c + min c (n - c)) = List.replicate (c + min c (n - c)) x ++ List.replicate (n - (c + min c (n - c))) z := by
  rw [List.take_left' (by simp), List.take_replicate, List.replicate_append_replicate, List.drop_append, List.drop_of_length_le (by simp), List.nil_append, List.drop_replicate, List.length_replicate]
  congr 2
  · omega
  · omega
theorem slc_from (A n c : Nat) (hc : c < n) : asliceOp P 49 (slc A n) (some (.int .i64 (c : Int))) none none = some (.slice (some ⟨A, c, none⟩) (n - c) (n - c)) := by
  have hlo : abound (some (.int .i64 (c : Int))) 0 n = some c := by
    simp only [abound]
    rw [if_pos (by omega)]; rfl
  have hhi : abound none n n = some n := rfl
  simp only [asliceOp, sliceElem_un se_49, isz_3, sliceTwo, hhi, hlo, Option.bind_some, show ¬ n = c by omega, if_false, Nat.mul_one, Nat.zero_add]
theorem slc_to (A n c : Nat) (hc : c ≤ n) : asliceOp P 49 (slc A n) none (some (.int .i64 (c : Int))) none = some (.slice (some ⟨A, 0, none⟩) c n) := by
  have hhi : abound (some (.int .i64 (c : Int))) n n = some c := by
    simp only [abound]
    rw [if_pos (by omega)]; rfl
  have hlo : abound none 0 c = some 0 := rfl
  simp only [asliceOp, sliceElem_un se_49, isz_3, sliceTwo, hhi, hlo, Option.bind_some, Nat.zero_mul, Nat.zero_add, Nat.sub_zero, ite_self]
theorem wRepeat1 {u : Value} (x : Int) (hu : Ints s u [x]) {n : Int} (h0 : 0 ≤ n) (hn : n ≤ 2 ^ 30) (hw : Wf s) (hro : ro ≤ s.n) (hk : ∀ A s', Vc 3 (.int .i64) s s' A (List.replicate n.toNat x) → K (slc A n.toNat) s') :
    CallWP P ro 59 [u, .int .i64 n] s K := by
  refine call_wp b59 rfl ?_
  rw [n59]
  unfold v59
  simp (maxSteps := 10000000) only [wW, reduceCtorEq, Nat.reduceEqDiff]
  rw [if_neg (by omega), n59_11]
  unfold v59_11
  simp (maxSteps := 10000000) only [U, tset_eq, wW, reduceCtorEq, Nat.reduceEqDiff, Sl.wlen hu se_49, conv_int_uint]
  rw [show IntKind.u64.wrap (([x] : List Int).length : Nat) = 1 from rfl, wrap_u64 (by omega) (by omega), wMul1 h0 (by omega)]
  simp (maxSteps := 10000000) only [wW, reduceCtorEq, Nat.reduceEqDiff, wop_extract, List.getElem?_cons_zero, List.getElem?_cons_succ, wopt_some]
  rw [if_neg (by decide), if_neg (by omega), n59_1111]
  unfold v59_1111
  simp (maxSteps := 10000000) only [U, tset_eq, wW, reduceCtorEq, Nat.reduceEqDiff, conv_uint_int]
  rw [wrap_i64 (by omega) (by omega)]
  refine make_rule (mk := Value.int .i64) (x := 0) se_49 ty_3 rfl hw.ent h0 hn (by decide) fun A s1 m1 => ?_
  have e1 := m1.eq
  have n1 := m1.n
  have hn0 : (ent s).n = s.n := rfl
  have V1 : Vc 3 (.int .i64) (ent s) s1 A (List.replicate n.toNat 0) := ⟨m1.here, by omega, m1.wf, m1.grew⟩
  have hu1 : Sl s1 u 1 1 ([x].map (Value.int .i64)) := (Sl.ent hu).grew m1.grew.same
  refine V1.copy se_49 isz_3 hw.ent hro (by simp) hu1 (fun _ => rfl) fun s2 V2 _ _ => ?_
  have hV2 : Vc 3 (.int .i64) (ent s) s2 A (List.replicate (min 1 n.toNat) x ++ List.replicate (n.toNat - min 1 n.toNat) 0) := by
    have e : (List.replicate n.toNat (0 : Int)).take 0 ++ ([x].take (min 1 n.toNat)) ++ (List.replicate n.toNat (0 : Int)).drop (0 + min 1 n.toNat) = List.replicate (min 1 n.toNat) x ++ List.replicate (n.toNat - min 1 n.toNat) 0 := by
      rw [List.take_zero, List.nil_append, List.drop_replicate, Nat.zero_add]
      congr 1
      rcases Nat.eq_zero_or_pos n.toNat with h | h
      · rw [h]; rfl
      · rw [show min 1 n.toNat = 1 by omega]; rfl
    rw [← e]
    exact V2
  clear V2 V1
  generalize hc0 : min 1 n.toNat = c0 at hV2 ⊢
  have hc1 : c0 ≤ n.toNat ∧ (n.toNat = 0 ∨ 1 ≤ c0) := by omega
  refine wloop l59_111111000 m59_111111000 (fun (c : Nat) τ ds s' => c ≤ n.toNat ∧ (n.toNat = 0 ∨ 1 ≤ c) ∧ τ 7 = slc A n.toNat ∧ τ 8 = .int .i64 c ∧ ds = [] ∧ Vc 3 (.int .i64) (ent s) s' A (List.replicate c x ++ List.replicate (n.toNat - c) 0)) (fun c => n.toNat - c) ?_ c0 ⟨hc1.1, hc1.2, ?_, ?_, rfl, hV2⟩
  · clear hV2
    rintro c τ ds s' ⟨hc, hc2, t7, t8, rfl, V⟩
    rw [n59_111111000]
    unfold v59_111111000
    have hlI : ∀ {s : St} {K : Value → St → Prop}, wop P ro (.call ⟨.builtin .len, ⟨[.const (slc A n.toNat)]⟩, #[49]⟩) 3 s K = K (.int .i64 (n.toNat : Nat)) s := fun {s K} => wop_len se_49 _ _ _ _ _ _
    simp (maxSteps := 10000000) only [wW, reduceCtorEq, Nat.reduceEqDiff, t7, t8, hlI]
    by_cases hlt : c < n.toNat
    · rw [if_pos (by omega), wop_slice]
      simp (maxSteps := 10000000) only [wW, reduceCtorEq, Nat.reduceEqDiff, slc_from _ _ _ hlt, slc_to _ _ _ hc, wop_slice, aval, Option.map_some, Option.map_none]
      have hl : (List.replicate c x ++ List.replicate (n.toNat - c) (0 : Int)).length = n.toNat := by simp; omega
      have hsrc := V.part (o := 0) (n := c) (c := n.toNat) (by omega) hc
      rw [List.drop_zero, List.take_left' (by simp)] at hsrc
      refine V.copy se_49 isz_3 hw.ent hro (by omega) hsrc (fun _ => rfl) fun s2 V2 _ _ => ?_
      rw [rep_step hc] at V2
      simp (maxSteps := 10000000) only [wW, reduceCtorEq, Nat.reduceEqDiff]
      rw [wrap_i64 (by omega) (by omega)]
      refine ⟨c + min c (n.toNat - c), by omega, by omega, by omega, ?_, ?_, trivial, V2⟩
      · simp only [U, tset_eq, wW, reduceCtorEq, Nat.reduceEqDiff, t7]
      · simp only [U, tset_eq, wW, reduceCtorEq, Nat.reduceEqDiff]; rfl
    · obtain rfl : c = n.toNat := by omega
      rw [if_neg (by omega), xleave_U, r59]
      simp (maxSteps := 10000000) only [U, tset_eq, wW, reduceCtorEq, Nat.reduceEqDiff, t7]
      rw [Nat.sub_self, List.replicate_zero, List.append_nil] at V
      refine wfin_new hw V.grew rfl fun s2 g2 _ hat => hk A s2 ⟨(hat A).trans V.here, V.new, hw.grew g2, g2⟩
  · simp only [U, tset_eq, wW, reduceCtorEq, Nat.reduceEqDiff]
  · simp only [U, tset_eq, wW, reduceCtorEq, Nat.reduceEqDiff]
end
end Go.VE
/- The program's gates: what depths computes. -/
namespace Go.VE
open Go Go.Proofs
set_option maxRecDepth 20000
theorem rds_filter (r : Row) : rds r = ((List.range 4).filter (rdB r)).map (fun (n : Nat) => (n : Int)) := by
  have h4 : List.range 4 = [0, 1, 2, 3] := rfl
  rw [h4]
  unfold rds
  by_cases h1 : r.k = 1
  · by_cases a : (r.ql ≠ 0 ∨ r.qm ≠ 0) <;> by_cases b : (r.qr ≠ 0 ∨ r.qm ≠ 0) <;> by_cases c : r.qo = 0 <;>
      simp only [List.filter, rdB, rd0, rd1, rd2, rd3, h1, a, b, c, ne_eq, not_true, not_false_eq_true, if_true, if_false, decide_true, decide_false] <;> rfl
  · by_cases h2 : r.k = 2
    · simp [List.filter, rdB, rd0, rd1, rd2, rd3, h2]
    · by_cases h3 : r.k = 3
      · simp [List.filter, rdB, rd0, rd1, rd2, rd3, h3]
      · simp [List.filter, rdB, rd0, rd1, rd2, rd3, h1, h2, h3]
def mostF (r : Row) (D : List Int) : List Nat → Int → Option Int
  | [], m => some m
  | n :: l, m => if rdB r n = true then (if at0 D (r.w n) < 0 ∧ ¬ (r.k = 1 ∧ n = 2) then none else mostF r D l (if m < at0 D (r.w n) then at0 D (r.w n) else m)) else mostF r D l m
theorem mostF_eq (r : Row) (D : List Int) : ∀ (l : List Nat) (m : Int), mostM r D ((l.filter (rdB r)).map (fun (n : Nat) => (n : Int))) m = mostF r D l m
  | [], m => rfl
  | n :: l, m => by
    rw [mostF]
    cases hb : rdB r n with
    | false =>
      rw [List.filter_cons_of_neg (show ¬ rdB r n = true by rw [hb]; decide), if_neg (by decide)]
      exact mostF_eq r D l m
    | true =>
      rw [List.filter_cons_of_pos hb, if_pos rfl, List.map_cons, mostM, Int.toNat_natCast, mostF_eq r D l]
      by_cases hc : at0 D (r.w n) < 0 ∧ ¬ (r.k = 1 ∧ n = 2)
      · rw [if_pos hc, if_pos ⟨hc.1, fun h => hc.2 ⟨h.1, by omega⟩⟩]
      · rw [if_neg hc, if_neg (fun h => hc ⟨h.1, fun h2 => h.2 ⟨h2.1, by omega⟩⟩)]
theorem most_eq (r : Row) (D : List Int) : mostM r D (rds r) 0 = mostF r D (List.range 4) 0 := by rw [rds_filter, mostF_eq]
theorem range_drop {n k : Nat} (h : k < n) : (List.range n).drop k = k :: (List.range n).drop (k + 1) := by
  rw [List.drop_eq_getElem_cons (by simpa using h), List.getElem_range]
def upd1 (m : Int) (D : List Int) (w : Int) : List Int := if at0 D w < 0 then D.set w.toNat (m + 1) else D
def updL (m : Int) (ws : List Int) (D : List Int) : List Int := ws.foldl (upd1 m) D
def rowWs (r nx : Row) : List Int := if r.k = 3 then [nx.w 0, nx.w 1, nx.w 2, nx.w 3] else if r.qo ≠ 0 then [r.w 2] else []
theorem dRow_upd {r nx : Row} {m : Int} {D : List Int} (h : r.k ≠ 1 → r.qo = 0) : dRow r nx m D = updL m (rowWs r nx) D := by
  unfold dRow rowWs
  by_cases h3 : r.k = 3
  · have h1 : r.k ≠ 1 := by omega
    have e : dArith r m D = D := by unfold dArith; rw [if_neg (fun h => h1 h.1)]
    rw [if_pos h3, if_pos h3, e]
    rfl
  · rw [if_neg h3, if_neg h3]
    by_cases hq : r.qo ≠ 0
    · have h1 : r.k = 1 := Decidable.byContradiction fun h1 => hq (h h1)
      rw [if_pos hq]
      unfold dArith updL
      rw [List.foldl_cons, List.foldl_nil, upd1]
      by_cases hn : at0 D r.w2 < 0
      · rw [if_pos ⟨h1, hq, hn⟩, if_pos (show at0 D (r.w 2) < 0 from hn)]; rfl
      · rw [if_neg (fun h => hn h.2.2), if_neg (show ¬ at0 D (r.w 2) < 0 from hn)]
    · rw [if_neg hq]
      unfold dArith
      rw [if_neg (fun h => hq h.2.1)]; rfl
def RowG (g : Gp) (i : Nat) : Prop := Formed g.f g.nv (rowAt g.rows i) ∧ ((rowAt g.rows i).k = 3 → i + 1 < g.rows.length ∧ ∀ k : Nat, k < 4 → 0 ≤ (rowAt g.rows (i + 1)).w k ∧ (rowAt g.rows (i + 1)).w k < g.nv)
instance (g : Gp) (i : Nat) : Decidable (RowG g i) := by unfold RowG; infer_instance
def BaseG (g : Gp) : Prop := fV g.f = true ∧ 0 ≤ g.pub ∧ g.pub ≤ 16 ∧ 0 ≤ g.sec ∧ g.sec ≤ 20000 ∧ g.pub + g.sec ≤ g.nv ∧ g.nv ≤ 40000 ∧ g.rows.length ≤ 8000
def depsD (g : Gp) : Nat → Option (List Int)
  | 0 => some (List.replicate (g.pub + g.sec).toNat 0 ++ List.replicate (g.nv.toNat - (g.pub + g.sec).toNat) (-1))
  | i + 1 => (depsD g i).bind fun D => if RowG g i then stepD g i D else none
theorem Limits.base {g : Gp} (h : Limits g) : BaseG g := ⟨h.1, h.2.1, h.2.2.1, h.2.2.2.1, h.2.2.2.2.1, h.2.2.2.2.2.1, h.2.2.2.2.2.2.1, h.2.2.2.2.2.2.2.1⟩
theorem Limits.rowG {g : Gp} (h : Limits g) {i : Nat} (hi : i < g.rows.length) : RowG g i := ⟨(h.row hi).1, fun h3 => h.next hi h3⟩
theorem limits_of {g : Gp} (hb : BaseG g) (h : ∀ i, i < g.rows.length → RowG g i) : Limits g :=
  ⟨hb.1, hb.2.1, hb.2.2.1, hb.2.2.2.1, hb.2.2.2.2.1, hb.2.2.2.2.2.1, hb.2.2.2.2.2.2.1, hb.2.2.2.2.2.2.2, fun i hi => ⟨(h i hi).1, fun h3 => ⟨((h i hi).2 h3).1, fun k hk => (((h i hi).2 h3).2 k hk).1⟩⟩⟩
theorem depsD_none {g : Gp} {i : Nat} (h : depsD g i = none) : ∀ {n : Nat}, i ≤ n → depsD g n = none
  | 0, hn => by obtain rfl : i = 0 := by omega
                exact h
  | n + 1, hn => by
    rcases Nat.lt_or_ge i (n + 1) with hlt | hge
    · rw [depsD, depsD_none h (by omega)]; rfl
    · obtain rfl : i = n + 1 := by omega
      exact h
theorem depsD_rows {g : Gp} : ∀ {n : Nat} {D : List Int}, depsD g n = some D → ∀ i, i < n → RowG g i
  | 0, D, h, i, hi => by omega
  | n + 1, D, h, i, hi => by
    rw [depsD] at h
    cases hd : depsD g n with
    | none => rw [hd] at h; cases h
    | some E =>
      rw [hd, Option.bind_some] at h
      rcases Nat.lt_or_ge i n with hlt | hge
      · exact depsD_rows hd i hlt
      · obtain rfl : i = n := by omega
        by_cases hr : RowG g i
        · exact hr
        · rw [if_neg hr] at h; cases h
theorem dInit_get {n0 : Int} {N : Nat} : ∀ {k : Nat}, k ≤ N → ∀ j, j < N → (it (dInit n0) k (List.replicate N 0))[j]? = some (if j < k then (if (j : Int) < n0 then 0 else -1) else 0)
  | 0, _, j, hj => by
    rw [it, List.getElem?_replicate, if_pos hj, if_neg (by omega)]
  | k + 1, hk, j, hj => by
    have ih := dInit_get (n0 := n0) (N := N) (k := k) (by omega) j hj
    have hl : (it (dInit n0) k (List.replicate N 0)).length = N := by
      rw [it_len (fun n l => by unfold dInit; split <;> simp)]; simp
    rw [it]
    generalize it (dInit n0) k (List.replicate N 0) = X at ih hl ⊢
    unfold dInit
    by_cases hp : (k : Int) < n0
    · rw [if_pos hp, List.set_set]
      rcases Nat.lt_trichotomy j k with h | h | h
      · rw [List.getElem?_set_ne (by omega), ih, if_pos h, if_pos (show j < k + 1 by omega)]
      · subst h
        rw [List.getElem?_set_self (by omega), if_pos (show j < j + 1 by omega), if_pos hp]
      · rw [List.getElem?_set_ne (by omega), ih, if_neg (show ¬ j < k by omega), if_neg (show ¬ j < k + 1 by omega)]
    · rw [if_neg hp]
      rcases Nat.lt_trichotomy j k with h | h | h
      · rw [List.getElem?_set_ne (by omega), ih, if_pos h, if_pos (show j < k + 1 by omega)]
      · subst h
        rw [List.getElem?_set_self (by omega), if_pos (show j < j + 1 by omega), if_neg hp]
      · rw [List.getElem?_set_ne (by omega), ih, if_neg (show ¬ j < k by omega), if_neg (show ¬ j < k + 1 by omega)]
theorem init_eq {g : Gp} (h0 : 0 ≤ g.pub + g.sec) (h1 : g.pub + g.sec ≤ g.nv) : it (dInit (g.pub + g.sec)) g.nv.toNat (List.replicate g.nv.toNat 0) = List.replicate (g.pub + g.sec).toNat 0 ++ List.replicate (g.nv.toNat - (g.pub + g.sec).toNat) (-1) := by
  refine List.ext_getElem? fun j => ?_
  rcases Nat.lt_or_ge j g.nv.toNat with hj | hj
  · rw [dInit_get (Nat.le_refl _) j hj, if_pos hj]
    by_cases hp : (j : Int) < g.pub + g.sec
    · rw [if_pos hp, List.getElem?_append_left (by rw [List.length_replicate]; omega), List.getElem?_replicate, if_pos (by omega)]
    · rw [if_neg hp, List.getElem?_append_right (by rw [List.length_replicate]; omega), List.getElem?_replicate, if_pos (by rw [List.length_replicate]; omega)]
  · rw [List.getElem?_eq_none, List.getElem?_eq_none]
    · simp; omega
    · rw [it_len (fun n l => by unfold dInit; split <;> simp)]; simpa using hj
theorem deps_order {g : Gp} (hL : Limits g) : ∀ {n : Nat}, n ≤ g.rows.length → depsD g n = orderD g n
  | 0, _ => by
    have := hL.2.1
    have := hL.2.2.2.1
    rw [depsD, orderD, init_eq (by omega) hL.2.2.2.2.2.1]
  | n + 1, hn => by
    rw [depsD, orderD, deps_order hL (by omega)]
    congr 1
    funext D
    rw [if_pos (hL.rowG (by omega))]
theorem deps_bad {g : Gp} (h : depsD g g.rows.length = none) : validM g = false := by
  unfold validM
  by_cases hL : Limits g
  · rw [decide_eq_true hL, Bool.true_and]
    unfold orderM
    rw [← deps_order hL (Nat.le_refl _), h]; rfl
  · rw [decide_eq_false hL]; rfl
theorem deps_ok {g : Gp} (hb : BaseG g) {D : List Int} (h : depsD g g.rows.length = some D) (hD : ∀ x ∈ D, -1 ≤ x) : (-1 ∈ D → validM g = false) ∧ (-1 ∉ D → validM g = true ∧ orderM g = some D) := by
  have hL := limits_of hb (depsD_rows h)
  have ho : orderD g g.rows.length = some D := by rw [← deps_order hL (Nat.le_refl _)]; exact h
  have hv : validM g = (orderM g).isSome := by unfold validM; rw [decide_eq_true hL, Bool.true_and]
  have hm : orderM g = if D.all (fun x => decide (0 ≤ x)) then some D else none := by unfold orderM; rw [ho]; rfl
  constructor
  · intro hn
    rw [hv, hm, if_neg]; rfl
    intro ha
    have := of_decide_eq_true (List.all_eq_true.1 ha _ hn)
    omega
  · intro hn
    have ha : D.all (fun x => decide (0 ≤ x)) = true := List.all_eq_true.2 fun x hx => decide_eq_true (by
      have h1 := hD x hx
      have h2 : x ≠ -1 := fun h => hn (h ▸ hx)
      omega)
    rw [hv, hm, if_pos ha]
    exact ⟨rfl, rfl⟩
theorem base_bad {g : Gp} (h : ¬ BaseG g) : validM g = false := by
  unfold validM
  rw [decide_eq_false (fun hL => h hL.base)]; rfl
theorem Dep.upd1 {N : Nat} {i m : Int} {D : List Int} (h : Dep N (i + 1) D) (hm : -1 ≤ m ∧ m ≤ i) (w : Int) : Dep N (i + 1) (Go.VE.upd1 m D w) := by
  unfold Go.VE.upd1
  split
  · exact h.set (by omega)
  · exact h
theorem Dep.updL {N : Nat} {i m : Int} (hm : -1 ≤ m ∧ m ≤ i) : ∀ (ws : List Int) {D : List Int}, Dep N (i + 1) D → Dep N (i + 1) (Go.VE.updL m ws D)
  | [], D, h => h
  | w :: ws, D, h => Dep.updL hm ws (h.upd1 hm w)
end Go.VE
/- The program's gates: depths. -/
namespace Go.VE
open Go Go.Proofs
set_option maxRecDepth 20000
section
variable {ro : Nat} {K : Value → St → Prop} {g : Gp} {ur : Value} {s0 : St} {G A : Nat} {s : St} {D : List Int}
theorem zero_step {n0 N i : Nat} (hi : i < n0) (hn : n0 ≤ N) : (List.replicate i (0 : Int) ++ List.replicate (N - i) (-1)).set i 0 = List.replicate (i + 1) 0 ++ List.replicate (N - (i + 1)) (-1) := by
  rw [List.set_append_right _ _ (by simp), List.length_replicate, Nat.sub_self, show N - i = (N - (i + 1)) + 1 by omega, List.replicate_succ, List.set_cons_zero, List.replicate_succ', List.append_assoc]
  rfl
structure RdI (ro : Nat) (g : Gp) (ur : Value) (s0 : St) (G A : Nat) (D : List Int) (τ0 : Tau) (ds0 : List Deferred) (sb : St) (i R : Nat) (k : Nat) (τ : Tau) (ds : List Deferred) (s : St) : Prop where
  k4 : k ≤ 4
  a1 : τ 1 = τ0 1
  a4 : τ 4 = slc A g.nv.toNat
  a74 : τ 74 = τ0 74
  a75 : τ 75 = τ0 75
  a76 : τ 76 = τ0 76
  a6 : τ 6 = τ0 6
  a7 : τ 7 = ptr R
  a123 : τ 123 = .agg (.mk (rdVs (rowAt g.rows i)))
  a124 : τ 124 = .int .i64 k
  ads : ds = ds0
  gr : Grew sb s
  ord : OrdI ro g ur s0 G A s D
  most : ∃ m, τ 8 = .int .i64 m ∧ 0 ≤ m ∧ m ≤ i ∧ mostF (rowAt g.rows i) D ((List.range 4).drop k) m = mostF (rowAt g.rows i) D (List.range 4) 0
theorem mxF2 {m d : Int} (hm : 0 ≤ m) : mxF [m, d] = if m < d then d else m := by
  unfold mxF
  simp only [List.foldl_cons, List.foldl_nil, maxI]
  split
  · rfl
  · rw [show m = 0 by omega]
theorem sl41 (A o : Nat) (ty : TypeId) (s : St) (K : Value → St → Prop) : wop P ro (.slice 41 (.const (.pointer (some ⟨A, o, none⟩))) none none none) ty s K = K (.slice (some ⟨A, o, none⟩) 4 4) s := by
  have e : asliceOp P 41 (.pointer (some ⟨A, o, none⟩)) none none none = some (.slice (some ⟨A, o, none⟩) 4 4) := by kernel_rfl
  rw [wop_sliceArr]
  simp only [Option.map_none, e, wopt_some]
theorem sl41_23 (A o : Nat) (ty : TypeId) (s : St) (K : Value → St → Prop) : wop P ro (.slice 41 (.const (.pointer (some ⟨A, o, none⟩))) (some (.const (.int .i64 2))) (some (.const (.int .i64 3))) none) ty s K = K (.slice (some ⟨A, o + 2, none⟩) 1 2) s := by
  have e : asliceOp P 41 (.pointer (some ⟨A, o, none⟩)) (some (.int .i64 2)) (some (.int .i64 3)) none = some (.slice (some ⟨A, o + 2, none⟩) 1 2) := by kernel_rfl
  rw [wop_sliceArr]
  simp only [Option.map_none, Option.map_some, aval, e, wopt_some]
theorem acells_inv {s : St} {A : Nat} {c : List Value} (h : acells (s.at A) = some c) : ∃ t op, s.at A = some (.cells c t op) := by
  cases hx : s.at A with
  | none => rw [hx] at h; cases h
  | some o =>
    cases o with
    | cells c' t op => rw [hx] at h; cases h; exact ⟨t, op, rfl⟩
    | _ => rw [hx] at h; cases h
theorem part_ints {s : St} {A o n c : Nat} {cs : List Value} {t : TypeId} {op : Bool} {ws : List Int} (h : s.at A = some (.cells cs t op)) (hd : (cs.drop o).take n = ws.map (.int .i64)) (hn : ws.length = n) (hc : n ≤ c) : Ints s (.slice (some ⟨A, o, none⟩) n c) ws := by
  subst hn
  refine ⟨_, _, rfl, by simp, ⟨hc, fun h => (by cases h), fun x hx => by cases hx; exact .inl rfl⟩, fun _ => ⟨A, o, none, _, _, _, rfl, rfl, h, ?_⟩⟩
  rw [Nat.mul_one, hd]
theorem RowIn.wires {s : St} {A o : Nat} {c : List Value} {r : Row} (h : RowIn s A o c r) : (c.drop (o + 1)).take 4 = [r.w 0, r.w 1, r.w 2, r.w 3].map (.int .i64) := by
  refine List.ext_getElem? fun j => ?_
  rcases Nat.lt_or_ge j 4 with hj | hj
  · rw [List.getElem?_take, if_pos hj, List.getElem?_drop, h.wire hj]
    match j, hj with
    | 0, _ => rfl
    | 1, _ => rfl
    | 2, _ => rfl
    | 3, _ => rfl
  · rw [List.getElem?_eq_none, List.getElem?_eq_none]
    · simpa using hj
    · rw [List.length_take]; omega
theorem depUpd (hI : OrdI ro g ur s0 G A s D) {ws : List Int} {v : Value} (hnv : g.nv ≤ 40000) (hv : ∀ s', (∀ B, B ≠ A → s'.at B = s.at B) → Ints s' v ws) (hl : ws.length ≤ 4) (hws : ∀ w ∈ ws, 0 ≤ w ∧ w < g.nv) {m : Int} (hm : 0 ≤ m ∧ m ≤ 8000)
    {τ : Tau} {ds : List Deferred} {Kr : WK} {kx : WK} (h4 : τ 4 = slc A g.nv.toNat) (h8 : τ 8 = .int .i64 m) (h175 : τ 175 = v) (h176 : τ 176 = .int .i64 ws.length) (h177 : τ 177 = .int .i64 0)
    (hk : ∀ τ' s', τ' 1 = τ 1 → τ' 4 = τ 4 → τ' 74 = τ 74 → τ' 75 = τ 75 → τ' 76 = τ 76 → OrdI ro g ur s0 G A s' (updL m ws D) → kx τ' ds s') :
    WLoop P ro 197 none c37_1111101001100111111100 τ ds s Kr [(7, kx)] := by
  refine wloop l37_1111101001100111111100 m37_1111101001100111111100 (fun (i : Nat) τ' ds' s' => i ≤ ws.length ∧ τ' 1 = τ 1 ∧ τ' 4 = τ 4 ∧ τ' 74 = τ 74 ∧ τ' 75 = τ 75 ∧ τ' 76 = τ 76 ∧ τ' 8 = .int .i64 m ∧ τ' 175 = v ∧ τ' 176 = .int .i64 ws.length ∧ τ' 177 = .int .i64 i ∧ ds' = ds ∧ (∀ B, B ≠ A → s'.at B = s.at B) ∧ OrdI ro g ur s0 G A s' (updL m (ws.take i) D)) (fun i => ws.length - i) ?_ 0 ⟨Nat.zero_le _, rfl, rfl, rfl, rfl, rfl, h8, h175, h176, h177, rfl, fun _ _ => rfl, hI⟩
  rintro i τ' ds' s' ⟨hi, t1, t4, t74, t75, t76, t8, t175, t176, t177, rfl, hs, hI'⟩
  rw [n37_1111101001100111111100]
  unfold v37_1111101001100111111100
  by_cases hlt : i < ws.length
  · obtain ⟨A6, o6, c6, z1, z2, z3⟩ := (hv s' hs).at1 (i := (i : Int)) (x := ws[i]) (by omega) (by rw [Int.toNat_natCast]; exact List.getElem?_eq_getElem hlt)
    have hw := hws ws[i] (List.getElem_mem _)
    have hix := ixc se_49 isz_3 (A := A) (n := g.nv.toNat) (c := g.nv.toNat) (i := ws[i]) hw.1 (by omega)
    have hgt := hI'.get hw.1 hw.2
    rw [h4] at t4
    simp (maxSteps := 10000000) only [wW, reduceCtorEq, Nat.reduceEqDiff, wL, Nat.reduceAdd, t4, t8, t175, t176, t177, z1, z2, z3, hix, hI'.dc, hgt]
    rw [if_pos (by omega)]
    have hup : updL m (ws.take (i + 1)) D = upd1 m (updL m (ws.take i) D) ws[i] := by
      unfold updL
      rw [take_succ_eq (List.getElem?_eq_getElem hlt), List.foldl_append]; rfl
    have hnx : IntKind.i64.wrap ((i : Int) + 1) = ((i + 1 : Nat) : Int) := by rw [wrap_i64 (by omega) (by omega)]; rfl
    have hmx : IntKind.i64.wrap (m + 1) = m + 1 := wrap_i64 (by omega) (by omega)
    by_cases hneg : at0 (updL m (ws.take i) D) ws[i] < 0
    · rw [if_pos hneg, hmx]
      refine hI'.store hw.1 hw.2 fun s2 hI2 hs2 => ?_
      rw [hnx]
      refine ⟨i + 1, by omega, by omega, ?_, ?_, ?_, ?_, ?_, ?_, ?_, ?_, ?_, trivial, fun B hB => (hs2 B hB).trans (hs B hB), ?_⟩
      · simp only [U, tset_eq, wW, reduceCtorEq, Nat.reduceEqDiff, t1]
      · simp only [U, tset_eq, wW, reduceCtorEq, Nat.reduceEqDiff, t4, h4]
      · simp only [U, tset_eq, wW, reduceCtorEq, Nat.reduceEqDiff, t74]
      · simp only [U, tset_eq, wW, reduceCtorEq, Nat.reduceEqDiff, t75]
      · simp only [U, tset_eq, wW, reduceCtorEq, Nat.reduceEqDiff, t76]
      · simp only [U, tset_eq, wW, reduceCtorEq, Nat.reduceEqDiff, t8]
      · simp only [U, tset_eq, wW, reduceCtorEq, Nat.reduceEqDiff, t175]
      · simp only [U, tset_eq, wW, reduceCtorEq, Nat.reduceEqDiff, t176]
      · simp only [U, tset_eq, wW, reduceCtorEq, Nat.reduceEqDiff]
      · rw [hup, upd1, if_pos hneg]; exact hI2
    · rw [if_neg hneg, hnx]
      refine ⟨i + 1, by omega, by omega, ?_, ?_, ?_, ?_, ?_, ?_, ?_, ?_, ?_, trivial, hs, ?_⟩
      · simp only [U, tset_eq, wW, reduceCtorEq, Nat.reduceEqDiff, t1]
      · simp only [U, tset_eq, wW, reduceCtorEq, Nat.reduceEqDiff, t4, h4]
      · simp only [U, tset_eq, wW, reduceCtorEq, Nat.reduceEqDiff, t74]
      · simp only [U, tset_eq, wW, reduceCtorEq, Nat.reduceEqDiff, t75]
      · simp only [U, tset_eq, wW, reduceCtorEq, Nat.reduceEqDiff, t76]
      · simp only [U, tset_eq, wW, reduceCtorEq, Nat.reduceEqDiff, t8]
      · simp only [U, tset_eq, wW, reduceCtorEq, Nat.reduceEqDiff, t175]
      · simp only [U, tset_eq, wW, reduceCtorEq, Nat.reduceEqDiff, t176]
      · simp only [U, tset_eq, wW, reduceCtorEq, Nat.reduceEqDiff]
      · rw [hup, upd1, if_neg hneg]; exact hI'
  · obtain rfl : i = ws.length := by omega
    rw [List.take_length] at hI'
    simp (maxSteps := 10000000) only [wW, reduceCtorEq, Nat.reduceEqDiff, t176, t177]
    rw [if_neg (by omega)]
    refine hk _ _ ?_ ?_ ?_ ?_ ?_ hI'
    · simp only [U, tset_eq, wW, reduceCtorEq, Nat.reduceEqDiff, t1]
    · simp only [U, tset_eq, wW, reduceCtorEq, Nat.reduceEqDiff, t4]
    · simp only [U, tset_eq, wW, reduceCtorEq, Nat.reduceEqDiff, t74]
    · simp only [U, tset_eq, wW, reduceCtorEq, Nat.reduceEqDiff, t75]
    · simp only [U, tset_eq, wW, reduceCtorEq, Nat.reduceEqDiff, t76]
theorem depRow (hnv : g.nv ≤ 40000) (hlen : g.rows.length ≤ 8000) {i : Nat} (hi : i < g.rows.length) (hrow : RowG g i) (hdep : Dep g.nv.toNat i D) (hI : OrdI ro g ur s0 G A s D) {R : Nat} (hR : s.at R = some (.cells (rowAt g.rows i).cells 43 false)) (hRA : R ≠ A)
    {τ : Tau} {ds : List Deferred} {Qe : Ex → XK} (t1 : τ 1 = ptr G) (t4 : τ 4 = slc A g.nv.toNat) (t6 : τ 6 = .int .i64 i) (t7 : τ 7 = ptr R)
    (hno : ∀ τ' al s', stepD g i D = none → Grew s0 s' → U τ' al 2 = .slice none 0 0 → U τ' al 3 = .bool false → Qe .ret (U τ' al) [] ds s')
    (hk : ∀ τ' al s' D', U τ' al 1 = τ 1 → U τ' al 4 = τ 4 → U τ' al 74 = τ 74 → U τ' al 75 = τ 75 → U τ' al 76 = τ 76 → stepD g i D = some D' → Dep g.nv.toNat (i + 1 : Nat) D' → OrdI ro g ur s0 G A s' D' → Qe .normal τ' al ds s') :
    xp (prims P ro) none 197 k37_111110100 c37_111110100110011 [1, 1, 0, 0, 1, 1] τ [] ds s Qe := by
  rw [n37_111110100110011]
  unfold v37_111110100110011
  simp (maxSteps := 10000000) only [wW, reduceCtorEq, Nat.reduceEqDiff, t7]
  rw [wop_load, load_all ap_43 hR rfl, wopt_some, wGreads (rowAt g.rows i) hI.vc.wf (by have := hI.vc.grew.n; have := hI.ro; omega)]
  have hstep : stepD g i D = (mostF (rowAt g.rows i) D (List.range 4) 0).map fun m => dRow (rowAt g.rows i) (rowAt g.rows (i + 1)) m D := by unfold stepD; rw [most_eq]
  have hwi : ∀ {k : Nat}, k < 4 → WireOk g.nv (rowAt g.rows i) k := fun {k} hk => by
    have h := hrow.1.2.2.2.2.2
    refine ⟨(h.1 k hk).1, (h.1 k hk).2, fun hb => ?_⟩
    have := h.2 _ ((rdB_mem _ hk).1 hb)
    rwa [Int.toNat_natCast] at this
  have hqo : (rowAt g.rows i).k ≠ 1 → (rowAt g.rows i).qo = 0 := fun h => (hrow.1.2.2.2.2.1 _ (by simp [Row.qs])).2 h
  have hn3 := hrow.2
  refine wloop l37_11111010011001110100 m37_11111010011001110100 (RdI ro g ur s0 G A D τ ds s i R) (fun k => 4 - k) ?_ 0 ⟨by omega, rfl, t4, rfl, rfl, rfl, rfl, t7, rfl, rfl, rfl, .refl _, hI, 0, rfl, by omega, by omega, rfl⟩
  rintro k τ' ds' s' ⟨hk4, a1, a4, a74, a75, a76, a6, a7, a123, a124, rfl, gs, hI', m, a8, hm0, hm1, hmost⟩
  rw [n37_11111010011001110100]
  unfold v37_11111010011001110100
  have hR' : s'.at R = some (.cells (rowAt g.rows i).cells 43 false) := (gs.same R (St.at_lt hR)).trans hR
  have hRc' := acells_some hR'
  generalize hrr : rowAt g.rows i = r at *
  by_cases hlk : k < 4
  · have hnx : IntKind.i64.wrap ((k : Int) + 1) = ((k + 1 : Nat) : Int) := by rw [wrap_i64 (by omega) (by omega)]; rfl
    simp (maxSteps := 10000000) only [wW, reduceCtorEq, Nat.reduceEqDiff, wL, Nat.reduceAdd, a123, a124, a7, aiR _ hlk, hRc', wix _ _ hlk, rcw _ hlk, hnx]
    rw [if_pos (by omega)]
    rw [range_drop hlk, mostF] at hmost
    have next : ∀ {τ2 : Tau} {s2 : St} {m' : Int}, τ2 1 = τ' 1 → τ2 4 = τ' 4 → τ2 74 = τ' 74 → τ2 75 = τ' 75 → τ2 76 = τ' 76 → τ2 6 = τ' 6 → τ2 7 = ptr R → τ2 123 = .agg (.mk (rdVs r)) → τ2 124 = .int .i64 ((k + 1 : Nat) : Int) → τ2 8 = .int .i64 m' → Grew s' s2 → 0 ≤ m' → m' ≤ i → mostF r D ((List.range 4).drop (k + 1)) m' = mostF r D (List.range 4) 0 →
        ∃ y, 4 - y < 4 - k ∧ RdI ro g ur s0 G A D τ ds' s i R y τ2 ds' s2 := fun {τ2 s2 m'} b1 b4 b74 b75 b76 b6 b7 b123 b124 b8 hg h0 h1 hmo => ⟨k + 1, by omega, by omega, b1.trans a1, b4.trans a4, b74.trans a74, b75.trans a75, b76.trans a76, b6.trans a6, b7, by rw [hrr]; exact b123, b124, rfl, gs.trans hg, hI'.grew hg, m', b8, h0, h1, by rw [hrr]; exact hmo⟩
    by_cases hb : rdB r k = false
    · rw [if_pos hb]
      rw [if_neg (by rw [hb]; decide)] at hmost
      refine next ?_ ?_ ?_ ?_ ?_ ?_ ?_ ?_ ?_ ?_ (.refl _) hm0 hm1 hmost <;> simp only [U, tset_eq, wW, reduceCtorEq, Nat.reduceEqDiff, a7, a123, a8]
    · rw [if_neg hb]
      have hb' : rdB r k = true := by simpa using hb
      rw [if_pos hb'] at hmost
      have hw := hwi hlk
      have hw0 := hw.2.2 hb'
      have hix := ixc se_49 isz_3 (A := A) (n := g.nv.toNat) (c := g.nv.toNat) (i := r.w k) hw0 (by have := hw.2.1; omega)
      have hgt := hI'.get hw0 hw.2.1
      have hdb := hdep.at0 (by omega) (r.w k)
      have mid : ∀ {τ2 : Tau} {X : Ex → WK}, ¬ (at0 D (r.w k) < 0 ∧ ¬ (r.k = 1 ∧ k = 2)) → τ2 1 = τ' 1 → τ2 4 = τ' 4 → τ2 74 = τ' 74 → τ2 75 = τ' 75 → τ2 76 = τ' 76 → τ2 6 = τ' 6 → τ2 7 = ptr R → τ2 123 = .agg (.mk (rdVs r)) → τ2 124 = .int .i64 (k : Int) → τ2 8 = .int .i64 m → τ2 9 = .int .i64 (k : Int) →
          xp (prims P ro) none 197 k37_11111010011001110100 c37_111110100110011101001100111 [1, 1, 1, 0, 0, 1, 1] τ2 [] ds' s' (blkX 5 (sX (prims P ro) none 197 k37_11111010011001110100 c37_11111010011001110100111 [1, 1, 1] (lift (thenW (fun τ_1 ds s_1 => ∃ y, 4 - y < 4 - k ∧ RdI ro g ur s0 G A D τ ds' s i R y τ_1 ds s_1) X)))) := fun {τ2 X} hc b1 b4 b74 b75 b76 b6 b7 b123 b124 b8 b9 => by
        rw [if_neg hc] at hmost
        rw [n37_111110100110011101001100111]
        unfold v37_111110100110011101001100111
        rw [a4] at b4
        simp (maxSteps := 10000000) only [wW, reduceCtorEq, Nat.reduceEqDiff, wL, Nat.reduceAdd, b4, b7, b8, b9, hRc', wix _ _ hlk, rcw _ hlk, hix, hI'.dc, hgt]
        refine buildSlice_rule se_49 ty_3 hI'.vc.wf [.int .i64 m, .int .i64 (at0 D (r.w k))] rfl rfl (by decide) (by simp [Value.cells]) fun A2 s2 m2 => ?_
        have hU : Ints s2 (.slice (some ⟨A2, 0, none⟩) 2 2) [m, at0 D (r.w k)] := m2.sl rfl
        rw [wDeepest hU (by show 2 < _; decide), mxF2 hm0, blkX_n, sX_n (.lift _), n37_11111010011001110100111]
        unfold v37_11111010011001110100111
        simp (maxSteps := 10000000) only [U, tset_eq, wW, reduceCtorEq, Nat.reduceEqDiff, b124, hnx]
        unfold lift
        refine next ?_ ?_ ?_ ?_ ?_ ?_ ?_ ?_ ?_ ?_ m2.grew ?_ ?_ hmost
        · simp only [U, tset_eq, wW, reduceCtorEq, Nat.reduceEqDiff, b1]
        · simp only [U, tset_eq, wW, reduceCtorEq, Nat.reduceEqDiff, b4, a4]
        · simp only [U, tset_eq, wW, reduceCtorEq, Nat.reduceEqDiff, b74]
        · simp only [U, tset_eq, wW, reduceCtorEq, Nat.reduceEqDiff, b75]
        · simp only [U, tset_eq, wW, reduceCtorEq, Nat.reduceEqDiff, b76]
        · simp only [U, tset_eq, wW, reduceCtorEq, Nat.reduceEqDiff, b6]
        · simp only [U, tset_eq, wW, reduceCtorEq, Nat.reduceEqDiff, b7]
        · simp only [U, tset_eq, wW, reduceCtorEq, Nat.reduceEqDiff, b123]
        · simp only [U, tset_eq, wW, reduceCtorEq, Nat.reduceEqDiff]
        · simp only [U, tset_eq, wW, reduceCtorEq, Nat.reduceEqDiff]
        · split <;> omega
        · split <;> omega
      have bad : (at0 D (r.w k) < 0 ∧ ¬ (r.k = 1 ∧ k = 2)) → stepD g i D = none := fun hc => by
        rw [if_pos hc] at hmost
        rw [hstep, ← hmost]; rfl
      simp (maxSteps := 10000000) only [wW, reduceCtorEq, Nat.reduceEqDiff, wL, Nat.reduceAdd, a4, a7, hix, hI'.dc, hgt, hRc']
      by_cases hneg : at0 D (r.w k) < 0
      · rw [if_pos hneg]
        by_cases k1 : r.k = 1
        · rw [if_neg (by simpa using k1)]
          by_cases k2 : (k : Int) = 2
          · rw [if_neg (by simpa using k2)]
            refine mid (fun h => h.2 ⟨k1, by omega⟩) ?_ ?_ ?_ ?_ ?_ ?_ ?_ ?_ ?_ ?_ ?_ <;> simp only [U, tset_eq, wW, reduceCtorEq, Nat.reduceEqDiff, a7, a123, a124, a8, a4]
          · rw [if_pos k2]
            exact hno _ _ _ (bad ⟨hneg, fun h => k2 (by omega)⟩) hI'.vc.grew rfl rfl
        · rw [if_pos k1]
          exact hno _ _ _ (bad ⟨hneg, fun h => k1 h.1⟩) hI'.vc.grew rfl rfl
      · rw [if_neg hneg]
        refine mid (fun h => hneg h.1) ?_ ?_ ?_ ?_ ?_ ?_ ?_ ?_ ?_ ?_ ?_ <;> simp only [U, tset_eq, wW, reduceCtorEq, Nat.reduceEqDiff, a7, a123, a124, a8, a4]
  · obtain rfl : k = 4 := by omega
    rw [List.drop_of_length_le (by simp), mostF] at hmost
    have hD1 : stepD g i D = some (updL m (rowWs r (rowAt g.rows (i + 1))) D) := by
      rw [hstep, ← hmost, Option.map_some, dRow_upd hqo]
    have hdep1 : Dep g.nv.toNat ((i + 1 : Nat) : Int) (updL m (rowWs r (rowAt g.rows (i + 1))) D) := Dep.updL ⟨by omega, hm1⟩ _ (hdep.mono (by omega))
    simp (maxSteps := 10000000) only [wW, reduceCtorEq, Nat.reduceEqDiff, a124]
    rw [if_neg (by omega)]
    have hA := hI'.vc.new
    rw [t6] at a6
    simp (maxSteps := 10000000) only [U, tset_eq, wW, reduceCtorEq, Nat.reduceEqDiff, wL, Nat.reduceAdd, a7, hRc', a1, t1, hI'.gc, a6]
    by_cases k3 : r.k = 3
    · rw [if_pos k3]
      have hn := hn3 k3
      have hw4 : IntKind.i64.wrap ((i : Int) + 1) = ((i + 1 : Nat) : Int) := by rw [wrap_i64 (by omega) (by omega)]; rfl
      obtain ⟨A6, o6, c6, q1, q2⟩ := hI.rows.ix (rowAt_get hn.1)
      obtain ⟨T6, op6, hA6⟩ := acells_inv q2.blk
      have hlt6 := St.at_lt hA6
      have hA6' : s'.at A6 = some (.cells c6 T6 op6) := (hI'.vc.grew.same A6 hlt6).trans hA6
      have hws : rowWs r (rowAt g.rows (i + 1)) = [(rowAt g.rows (i + 1)).w 0, (rowAt g.rows (i + 1)).w 1, (rowAt g.rows (i + 1)).w 2, (rowAt g.rows (i + 1)).w 3] := by unfold rowWs; rw [if_pos k3]
      simp (maxSteps := 10000000) only [wW, reduceCtorEq, Nat.reduceEqDiff, wL, Nat.reduceAdd, hw4, q1, sl41, wop_len se_49]
      refine depUpd hI' hnv (ws := [(rowAt g.rows (i + 1)).w 0, (rowAt g.rows (i + 1)).w 1, (rowAt g.rows (i + 1)).w 2, (rowAt g.rows (i + 1)).w 3]) (fun s2 h2 => part_ints ((h2 A6 (by omega)).trans hA6') q2.wires rfl (Nat.le_refl _)) (Nat.le_refl _) (fun w hw => ?_) ⟨hm0, by omega⟩ ?_ ?_ ?_ ?_ ?_ fun τ3 s3 b1 b4 b74 b75 b76 hI3 => ?_
      · simp only [List.mem_cons, List.not_mem_nil, or_false] at hw
        rcases hw with rfl | rfl | rfl | rfl
        · exact hn.2 0 (by decide)
        · exact hn.2 1 (by decide)
        · exact hn.2 2 (by decide)
        · exact hn.2 3 (by decide)
      · simp only [tset_eq, wW, reduceCtorEq, Nat.reduceEqDiff, a4]
      · simp only [tset_eq, wW, reduceCtorEq, Nat.reduceEqDiff, a8]
      · simp only [tset_eq, wW, reduceCtorEq, Nat.reduceEqDiff]
      · simp only [tset_eq, wW, reduceCtorEq, Nat.reduceEqDiff]; rfl
      · simp only [tset_eq, wW, reduceCtorEq, Nat.reduceEqDiff]
      · rw [← hws] at hI3
        simp only [tset_eq, wW, reduceCtorEq, Nat.reduceEqDiff] at b1 b4 b74 b75 b76
        exact hk τ3 [] s3 _ (b1.trans a1) (b4.trans (a4.trans t4.symm)) (b74.trans a74) (b75.trans a75) (b76.trans a76) hD1 hdep1 hI3
    · rw [if_neg k3]
      by_cases kq : r.qo = 0
      · rw [if_neg (by simpa using kq)]
        have hws : rowWs r (rowAt g.rows (i + 1)) = [] := by unfold rowWs; rw [if_neg k3, if_neg (by simpa using kq)]
        have hln : ∀ (ty : TypeId) (s : St) (K : Value → St → Prop), wop P ro (.call ⟨.builtin .len, ⟨[.const (.slice none 0 0)]⟩, #[49]⟩) ty s K = K (.int .i64 0) s := fun ty s K => wop_len se_49 none 0 0 ty s K
        simp (maxSteps := 10000000) only [wW, reduceCtorEq, Nat.reduceEqDiff, hln]
        refine depUpd hI' hnv (ws := []) (fun s2 h2 => Sl.nil _ _) (by decide) (fun w hw => by cases hw) ⟨hm0, by omega⟩ ?_ ?_ ?_ ?_ ?_ fun τ3 s3 b1 b4 b74 b75 b76 hI3 => ?_
        · simp only [tset_eq, wW, reduceCtorEq, Nat.reduceEqDiff, a4]
        · simp only [tset_eq, wW, reduceCtorEq, Nat.reduceEqDiff, a8]
        · simp only [tset_eq, wW, reduceCtorEq, Nat.reduceEqDiff]
        · simp only [tset_eq, wW, reduceCtorEq, Nat.reduceEqDiff]; rfl
        · simp only [tset_eq, wW, reduceCtorEq, Nat.reduceEqDiff]
        · rw [← hws] at hI3
          simp only [tset_eq, wW, reduceCtorEq, Nat.reduceEqDiff] at b1 b4 b74 b75 b76
          exact hk τ3 [] s3 _ (b1.trans a1) (b4.trans (a4.trans t4.symm)) (b74.trans a74) (b75.trans a75) (b76.trans a76) hD1 hdep1 hI3
      · rw [if_pos kq]
        have k1 : r.k = 1 := Decidable.byContradiction fun h => kq (hqo h)
        have hws : rowWs r (rowAt g.rows (i + 1)) = [r.w 2] := by unfold rowWs; rw [if_neg k3, if_pos kq]
        have hw2 := hwi (k := 2) (by decide)
        have hr2 : rdB r 2 = true := by
          show rd2 r = true
          unfold rd2
          rw [if_pos k1, decide_eq_true kq]
        simp (maxSteps := 10000000) only [wW, reduceCtorEq, Nat.reduceEqDiff, sl41_23, wop_len se_49]
        refine depUpd hI' hnv (ws := [r.w 2]) (fun s2 h2 => part_ints (o := 3) (n := 1) (c := 2) ((h2 R hRA).trans hR') rfl rfl (by decide)) (by show 1 ≤ 4; decide) (fun w hw => ?_) ⟨hm0, by omega⟩ ?_ ?_ ?_ ?_ ?_ fun τ3 s3 b1 b4 b74 b75 b76 hI3 => ?_
        · simp only [List.mem_cons, List.not_mem_nil, or_false] at hw
          subst hw
          exact ⟨hw2.2.2 hr2, hw2.2.1⟩
        · simp only [tset_eq, wW, reduceCtorEq, Nat.reduceEqDiff, a4]
        · simp only [tset_eq, wW, reduceCtorEq, Nat.reduceEqDiff, a8]
        · simp only [tset_eq, wW, reduceCtorEq, Nat.reduceEqDiff]
        · simp only [tset_eq, wW, reduceCtorEq, Nat.reduceEqDiff]; rfl
        · simp only [tset_eq, wW, reduceCtorEq, Nat.reduceEqDiff]
        · rw [← hws] at hI3
          simp only [tset_eq, wW, reduceCtorEq, Nat.reduceEqDiff] at b1 b4 b74 b75 b76
          exact hk τ3 [] s3 _ (b1.trans a1) (b4.trans (a4.trans t4.symm)) (b74.trans a74) (b75.trans a75) (b76.trans a76) hD1 hdep1 hI3
end
end Go.VE
/- The program's gates: depths. -/
namespace Go.VE
open Go Go.Proofs
set_option maxRecDepth 20000
section
variable {ro : Nat} {K : Value → St → Prop} {g : Gp} {ur : Value} {G A : Nat}
theorem depLoop {s s3 : St} (hb : BaseG g) (hnn : ∀ r ∈ g.rows, r.Nn) (hw : Wf s) (hro : ro ≤ s.n) (hF : FieldsAt s) (hr : RowsS s ur g.rows) (hI : OrdI ro g ur (ent s) G A s3 (List.replicate (g.pub + g.sec).toNat 0 ++ List.replicate (g.nv.toNat - (g.pub + g.sec).toNat) (-1)))
    (h0 : ∀ v s', validM g = false → Grew s s' → K (.tuple (.mk [v, .bool false])) s') (h1 : ∀ D v s', validM g = true → orderM g = some D → Grew s s' → Ints s' v D → K (.tuple (.mk [v, .bool true])) s')
    {τ : Tau} {X Y Z : WK} (t1 : τ 1 = ptr G) (t4 : τ 4 = slc A g.nv.toNat) (t74 : τ 74 = ur) (t75 : τ 75 = .int .i64 g.rows.length) (t76 : τ 76 = .int .i64 0) :
    WLoop P ro 197 none c37_111110100 τ [] s3 (fun τ ds s_1 => xleave (prims P ro) s Tryd.f37.results.toList K Ex.ret τ [] ds s_1)
      [(2, fun τ45 ds45 s45 =>
          CallWP P ro 64 [τ45 4, Value.int IntKind.i64 (-1)] s45 fun v195_46 s46 =>
            wop P ro (Op.unOp UnOp.not 4 (Operand.const v195_46)) 4 s46 fun v196_47 s47 =>
              wdefers P ro ds45 s47 fun s48 => wfin s K (Value.tuple { toList := [τ45 4, v196_47] }) s48),
        (4, X), (5, Y), (7, Z)] := by
  have hnv := hb.2.2.2.2.2.2.1
  have hlen := hb.2.2.2.2.2.2.2
  have hnv0 : 0 ≤ g.nv := by have := hb.2.1; have := hb.2.2.2.1; have := hb.2.2.2.2.2.1; omega
  have hn0 : (ent s).n = s.n := rfl
  have noR : ∀ {τ : Tau} {s' : St}, Grew (ent s) s' → validM g = false → τ 2 = .slice none 0 0 → τ 3 = .bool false → xleave (prims P ro) s Tryd.f37.results.toList K .ret τ [] [] s' := fun {τ s'} hg hf h2 h3 => by
    rw [r37]
    simp (maxSteps := 10000000) only [wW, reduceCtorEq, Nat.reduceEqDiff]
    rw [h2, h3]
    exact fin_flat rfl hg (h0 _ _ hf (.refl s))
  have hdep0 : Dep g.nv.toNat 0 (List.replicate (g.pub + g.sec).toNat 0 ++ List.replicate (g.nv.toNat - (g.pub + g.sec).toNat) (-1)) := by
    have h2 := hb.2.2.2.2.2.1
    refine ⟨by simp; omega, fun x hx => ?_⟩
    rcases List.mem_append.1 hx with hx | hx <;> rw [List.eq_of_mem_replicate hx] <;> decide
  refine wloop l37_111110100 m37_111110100 (fun (i : Nat) τ ds s' => i ≤ g.rows.length ∧ τ 1 = ptr G ∧ τ 4 = slc A g.nv.toNat ∧ τ 74 = ur ∧ τ 75 = .int .i64 g.rows.length ∧ τ 76 = .int .i64 i ∧ ds = [] ∧ ∃ D, depsD g i = some D ∧ Dep g.nv.toNat i D ∧ OrdI ro g ur (ent s) G A s' D) (fun i => g.rows.length - i) ?_ 0 ⟨by omega, t1, t4, t74, t75, t76, rfl, _, rfl, hdep0, hI⟩
  clear hI hdep0 t1 t4 t74 t75 t76
  rintro i τ ds s' ⟨hi, t1, t4, t74, t75, t76, rfl, D, hD, hdep, hI⟩
  rw [n37_111110100]
  unfold v37_111110100
  by_cases hlt : i < g.rows.length
  · obtain ⟨A5, o5, c5, q1, q2⟩ := hI.rs.ix (rowAt_get hlt)
    simp (maxSteps := 10000000) only [wW, reduceCtorEq, Nat.reduceEqDiff, wL, Nat.reduceAdd, t1, t74, t75, t76, q1, q2.blk, q2.all]
    rw [if_pos (by omega)]
    refine alloc_rule ty_43 hI.vc.wf fun R s4 m4 => ?_
    have e4 := m4.eq
    have n4 := m4.n
    have gn := hI.vc.grew.n
    have hAlt := St.at_lt hI.vc.here
    have hGlt := St.at_lt hI.gat
    refine storeAll_rule isz_43 m4.here (l := (rowAt g.rows i).cells) rfl (by decide) m4.wf (by omega) rfl rfl fun s5 p5 => ?_
    have hI5 : OrdI ro g ur (ent s) G A s5 D := ⟨⟨(p5.rest A (by omega)).trans ((m4.grew.same A hAlt).trans hI.vc.here), hI.vc.new, p5.wf, p5.grew _ hw.ent (hI.vc.grew.trans m4.grew) (by omega)⟩, (p5.rest G (by omega)).trans ((m4.grew.same G hGlt).trans hI.gat), hI.len, hI.w0, hI.ro, hI.rows, hI.ne⟩
    have hR5 : s5.at R = some (.cells (rowAt g.rows i).cells 43 false) := p5.here
    have n5 := p5.n
    have hRc := acells_some hR5
    have hRA : R ≠ A := by omega
    have hGv := gcVeq g (slVeq hr)
    have hmem : rowAt g.rows i ∈ g.rows := List.mem_of_getElem? (rowAt_get hlt)
    have hF5 : FieldsAt s5 := FieldsAt.grew (s := ent s) hF hI5.vc.grew
    simp (maxSteps := 10000000) only [wW, reduceCtorEq, Nat.reduceEqDiff, wL, Nat.reduceAdd, hI5.gc, hRc, hGv, rcVeq, true_and]
    have hDn : depsD g (i + 1) = if RowG g i then stepD g i D else none := by rw [depsD, hD]; rfl
    have badRow : ¬ RowG g i → validM g = false := fun h => deps_bad (depsD_none (by rw [hDn, if_neg h]) (show i + 1 ≤ g.rows.length by omega))
    have hi1 : IntKind.i64.wrap ((i : Int) + 1) = ((i + 1 : Nat) : Int) := by rw [wrap_i64 (by omega) (by omega)]; rfl
    have row : ∀ {τ2 : Tau} {Q : Ex → WK}, RowG g i → τ2 1 = ptr G → τ2 4 = slc A g.nv.toNat → τ2 6 = .int .i64 i → τ2 7 = ptr R → τ2 74 = ur → τ2 75 = .int .i64 g.rows.length → τ2 76 = .int .i64 i →
        (∀ τ s', validM g = false → Grew (ent s) s' → τ 2 = .slice none 0 0 → τ 3 = .bool false → Q .ret τ [] s') →
        (∀ τ s', (∃ y, g.rows.length - y < g.rows.length - i ∧ y ≤ g.rows.length ∧ τ 1 = ptr G ∧ τ 4 = slc A g.nv.toNat ∧ τ 74 = ur ∧ τ 75 = .int .i64 g.rows.length ∧ τ 76 = .int .i64 (y : Nat) ∧ ([] : List Deferred) = [] ∧ ∃ D, depsD g y = some D ∧ Dep g.nv.toNat y D ∧ OrdI ro g ur (ent s) G A s' D) → Q .normal τ [] s') →
        xp (prims P ro) none 197 k37_111110100 c37_111110100110011 [1, 1, 0, 0, 1, 1] τ2 [] [] s5 (blkX 3 (sX (prims P ro) none 197 k37_111110100 c37_111110100111 [1, 1, 1] (lift Q))) := fun {τ2 Q} hrow b1 b4 b6 b7 b74 b75 b76 hret hnorm => by
      rw [if_pos hrow] at hDn
      refine depRow hnv hlen hlt hrow hdep hI5 hR5 hRA b1 b4 b6 b7 (fun τ' al s2 hn hg h2 h3 => ?_) fun τ' al s2 D' c1 c4 c74 c75 c76 hs hd hI2 => ?_
      · exact hret _ _ (deps_bad (depsD_none (hDn.trans hn) (show i + 1 ≤ g.rows.length by omega))) hg h2 h3
      · rw [blkX_n, sX_n (.lift _), n37_111110100111]
        unfold v37_111110100111
        rw [c76, b76]
        simp (maxSteps := 10000000) only [wW, reduceCtorEq, Nat.reduceEqDiff, hi1]
        unfold lift
        refine hnorm _ _ ⟨i + 1, by omega, by omega, ?_, ?_, ?_, ?_, ?_, rfl, D', hDn.trans hs, hd, hI2⟩
        · rw [← b1, ← c1]; simp only [U, tset_eq, wW, reduceCtorEq, Nat.reduceEqDiff]
        · rw [← b4, ← c4]; simp only [U, tset_eq, wW, reduceCtorEq, Nat.reduceEqDiff]
        · rw [← b74, ← c74]; simp only [U, tset_eq, wW, reduceCtorEq, Nat.reduceEqDiff]
        · rw [← b75, ← c75]; simp only [U, tset_eq, wW, reduceCtorEq, Nat.reduceEqDiff]
        · simp only [U, tset_eq, wW, reduceCtorEq, Nat.reduceEqDiff]
    show CallWP P ro 60 [.agg (.mk (g.cells ur)), .agg (.mk (rowAt g.rows i).cells)] s5 _
    rw [wGformed g (rowAt g.rows i) (hnn _ hmem) p5.wf (by omega) hF5]
    have hu := slVeq hr
    have hk2 : veq (Value.int .u8 (rowAt g.rows i).k) (Value.int .u8 (rowAt g.rows i).k) = true := by simp [veq]
    have hgl : ∀ s' K, wop P ro (.call ⟨.builtin .len, ⟨[.const ur]⟩, #[22]⟩) 3 s' K = K (.int .i64 (g.rows.length : Nat)) s' := fun s' K => Sl.wlen hr se_22 _ K
    simp (maxSteps := 10000000) only [wW, reduceCtorEq, Nat.reduceEqDiff, wL, Nat.reduceAdd, hI5.gc, hRc, hk2, hu, hgl, hi1, true_and, decide_eq_false_iff_not]
    by_cases hf : Formed g.f g.nv (rowAt g.rows i)
    · rw [if_neg (fun h => h hf)]
      by_cases k3 : (rowAt g.rows i).k = 3
      · rw [if_pos k3]
        by_cases hl : ((i + 1 : Nat) : Int) = (g.rows.length : Nat)
        · rw [if_pos hl]
          exact noR hI5.vc.grew (badRow fun h => by have := (h.2 k3).1; omega) rfl rfl
        · rw [if_neg hl]
          have hl1 : i + 1 < g.rows.length := by omega
          obtain ⟨A6, o6, c6, y1, y2⟩ := hI5.rs.ix (rowAt_get hl1)
          obtain ⟨T6, op6, hA6⟩ := acells_inv y2.blk
          have hW : Ints s5 (.slice (some ⟨A6, o6 + 1, none⟩) 4 4) [(rowAt g.rows (i + 1)).w 0, (rowAt g.rows (i + 1)).w 1, (rowAt g.rows (i + 1)).w 2, (rowAt g.rows (i + 1)).w 3] := part_ints hA6 y2.wires rfl (Nat.le_refl _)
          have hmn : ∀ (K : Value → St → Prop), CallWP P ro 61 [.slice (some ⟨A6, o6 + 1, none⟩) 4 4] s5 K = K (.int .i64 (mnL [(rowAt g.rows (i + 1)).w 0, (rowAt g.rows (i + 1)).w 1, (rowAt g.rows (i + 1)).w 2, (rowAt g.rows (i + 1)).w 3])) s5 := fun K => wMinI hW (by show 0 < 4; decide) (by show 4 < _; decide)
          have hmx : ∀ (K : Value → St → Prop), CallWP P ro 62 [.slice (some ⟨A6, o6 + 1, none⟩) 4 4] s5 K = K (.int .i64 (mxL [(rowAt g.rows (i + 1)).w 0, (rowAt g.rows (i + 1)).w 1, (rowAt g.rows (i + 1)).w 2, (rowAt g.rows (i + 1)).w 3])) s5 := fun K => wMaxI hW (by show 0 < 4; decide) (by show 4 < _; decide)
          have hmn0 := mnL_ge (p := 0) (l := [(rowAt g.rows (i + 1)).w 0, (rowAt g.rows (i + 1)).w 1, (rowAt g.rows (i + 1)).w 2, (rowAt g.rows (i + 1)).w 3]) (by show 0 < 4; decide)
          have hmx0 := mxL_lt (p := g.nv) (l := [(rowAt g.rows (i + 1)).w 0, (rowAt g.rows (i + 1)).w 1, (rowAt g.rows (i + 1)).w 2, (rowAt g.rows (i + 1)).w 3]) (by show 0 < 4; decide)
          have hin : ∀ {k : Nat}, k < 4 → (rowAt g.rows (i + 1)).w k ∈ [(rowAt g.rows (i + 1)).w 0, (rowAt g.rows (i + 1)).w 1, (rowAt g.rows (i + 1)).w 2, (rowAt g.rows (i + 1)).w 3] := fun {k} hk => by
            match k, hk with
            | 0, _ => simp
            | 1, _ => simp
            | 2, _ => simp
            | 3, _ => simp
          have hall : ∀ {p : Int → Prop}, (∀ k : Nat, k < 4 → p ((rowAt g.rows (i + 1)).w k)) → ∀ x ∈ [(rowAt g.rows (i + 1)).w 0, (rowAt g.rows (i + 1)).w 1, (rowAt g.rows (i + 1)).w 2, (rowAt g.rows (i + 1)).w 3], p x := fun {p} h x hx => by
            simp only [List.mem_cons, List.not_mem_nil, or_false] at hx
            rcases hx with rfl | rfl | rfl | rfl
            · exact h 0 (by decide)
            · exact h 1 (by decide)
            · exact h 2 (by decide)
            · exact h 3 (by decide)
          generalize [(rowAt g.rows (i + 1)).w 0, (rowAt g.rows (i + 1)).w 1, (rowAt g.rows (i + 1)).w 2, (rowAt g.rows (i + 1)).w 3] = ws at hmn hmx hmn0 hmx0 hin hall
          simp (maxSteps := 10000000) only [wW, reduceCtorEq, Nat.reduceEqDiff, wL, Nat.reduceAdd, y1, sl41, hI5.gc]
          rw [hmn]
          simp (maxSteps := 10000000) only [wW, reduceCtorEq, Nat.reduceEqDiff, wL, Nat.reduceAdd, y1, sl41, hI5.gc, hu, true_and]
          by_cases hm0 : mnL ws < 0
          · rw [if_pos hm0]
            exact noR hI5.vc.grew (badRow fun h => by have := hmn0.2 (hall fun k hk => ((h.2 k3).2 k hk).1); omega) rfl rfl
          · rw [if_neg hm0]
            refine ⟨by simp [veq], ?_⟩
            rw [hmx]
            refine ⟨.refl _, ?_⟩
            simp (maxSteps := 10000000) only [wW, reduceCtorEq, Nat.reduceEqDiff]
            by_cases hm1 : mxL ws ≥ g.nv
            · rw [if_pos hm1]
              exact noR hI5.vc.grew (badRow fun h => by have := hmx0.2 (hall fun k hk => ((h.2 k3).2 k hk).2); omega) rfl rfl
            · rw [if_neg hm1]
              have hrow : RowG g i := ⟨hf, fun _ => ⟨hl1, fun k hk => ⟨hmn0.1 (by omega) _ (hin hk), hmx0.1 (by omega) _ (hin hk)⟩⟩⟩
              refine row hrow ?_ ?_ ?_ ?_ ?_ ?_ ?_ (fun τ s' hv hg h2 h3 => noR hg hv h2 h3) (fun τ s' h => h) <;> simp only [U, tset_eq, wW, reduceCtorEq, Nat.reduceEqDiff, t1, t4, t74, t75, t76]
      · rw [if_neg k3]
        refine row ⟨hf, fun h => absurd h k3⟩ ?_ ?_ ?_ ?_ ?_ ?_ ?_ (fun τ s' hv hg h2 h3 => noR hg hv h2 h3) (fun τ s' h => h) <;> simp only [U, tset_eq, wW, reduceCtorEq, Nat.reduceEqDiff, t1, t4, t74, t75, t76]
    · rw [if_pos hf]
      exact noR hI5.vc.grew (badRow fun h => hf h.1) rfl rfl
  · obtain rfl : i = g.rows.length := by omega
    have hlD := hI.len
    have hV : Ints s' (slc A g.nv.toNat) D := by
      have := hI.vc.part (o := 0) (n := g.nv.toNat) (c := g.nv.toNat) (by omega) (Nat.le_refl _)
      rw [List.drop_zero, List.take_of_length_le (by omega)] at this
      unfold Ints
      rw [hlD]
      exact this
    simp (maxSteps := 10000000) only [wW, reduceCtorEq, Nat.reduceEqDiff, t75, t76]
    rw [if_neg (by omega)]
    simp (maxSteps := 10000000) only [U, tset_eq, wW, reduceCtorEq, Nat.reduceEqDiff, t4]
    rw [wContains (-1) hV (by omega)]
    simp (maxSteps := 10000000) only [wW, reduceCtorEq, Nat.reduceEqDiff]
    have hok := deps_ok hb hD (fun x hx => (hdep.2 x hx).1)
    refine wfin_new hw hI.vc.grew rfl fun s2 g2 _ hat => ?_
    by_cases hm : (-1 : Int) ∈ D
    · rw [decide_eq_true hm]
      exact h0 _ _ (hok.1 hm) g2
    · rw [decide_eq_false hm]
      exact h1 D _ _ (hok.2 hm).1 (hok.2 hm).2 g2 (hV.sameAt fun B _ _ _ _ _ => hat B)
theorem wDepths (g : Gp) (hnn : ∀ r ∈ g.rows, r.Nn) {s : St} {ur : Value} (hw : Wf s) (hro : ro ≤ s.n) (hF : FieldsAt s) (hr : RowsS s ur g.rows)
    (h0 : ∀ v s', validM g = false → Grew s s' → K (.tuple (.mk [v, .bool false])) s') (h1 : ∀ D v s', validM g = true → orderM g = some D → Grew s s' → Ints s' v D → K (.tuple (.mk [v, .bool true])) s') :
    CallWP P ro 37 [.agg (.mk (g.cells ur))] s K := by
  refine call_wp b37 rfl ?_
  rw [n37]
  unfold v37
  simp (maxSteps := 10000000) only [wW, reduceCtorEq, Nat.reduceEqDiff]
  refine box_rule hw.ent fun G s1 m1 => ?_
  have e1 := m1.eq
  have n1 := m1.n
  have hn0 : (ent s).n = s.n := rfl
  have hG1 : s1.at G = some (.cells (g.cells ur) 24 false) := m1.here
  have hG := acells_some hG1
  have hr1 : RowsS s1 ur g.rows := (Sl.ent hr).grew m1.grew.same
  have hgl : ∀ s' K, wop P ro (.call ⟨.builtin .len, ⟨[.const ur]⟩, #[22]⟩) 3 s' K = K (.int .i64 (g.rows.length : Nat)) s' := fun s' K => Sl.wlen hr1 se_22 _ K
  have no : ∀ {s' : St}, Grew (ent s) s' → validM g = false → wfin s K (.tuple (.mk [.slice none 0 0, .bool false])) s' := fun hg hf => fin_flat rfl hg (h0 _ _ hf (.refl s))
  have nb : ¬ BaseG g → wfin s K (.tuple (.mk [.slice none 0 0, .bool false])) s1 := fun hb => no m1.grew (base_bad hb)
  simp (maxSteps := 10000000) only [wW, reduceCtorEq, Nat.reduceEqDiff, wL, Nat.reduceAdd, hG, hgl, wfValid]
  by_cases c1 : fV g.f = true
  · rw [c1]
    simp (maxSteps := 10000000) only [wW, reduceCtorEq, Nat.reduceEqDiff, wL, Nat.reduceAdd, hG, hgl]
    by_cases c2 : g.pub < 0
    · rw [if_pos c2]
      exact nb fun h => by have := h.2.1; omega
    · rw [if_neg c2]
      by_cases c3 : g.pub > 16
      · rw [if_pos c3]
        exact nb fun h => by have := h.2.2.1; omega
      · rw [if_neg c3]
        by_cases c4 : g.sec < 0
        · rw [if_pos c4]
          exact nb fun h => by have := h.2.2.2.1; omega
        · rw [if_neg c4]
          by_cases c5 : g.sec > 20000
          · rw [if_pos c5]
            exact nb fun h => by have := h.2.2.2.2.1; omega
          · rw [if_neg c5, wrap_i64 (by omega) (by omega)]
            by_cases c6 : g.nv < g.pub + g.sec
            · rw [if_pos c6]
              exact nb fun h => by have := h.2.2.2.2.2.1; omega
            · rw [if_neg c6]
              by_cases c7 : g.nv > 40000
              · rw [if_pos c7]
                exact nb fun h => by have := h.2.2.2.2.2.2.1; omega
              · rw [if_neg c7]
                by_cases c8 : (g.rows.length : Int) > 8000
                · rw [if_pos c8]
                  exact nb fun h => by have := h.2.2.2.2.2.2.2; omega
                · rw [if_neg c8]
                  have hb : BaseG g := ⟨c1, by omega, by omega, by omega, by omega, by omega, by omega, by omega⟩
                  have hv1 : veq (Value.int .i64 (-1)) (Value.int .i64 (-1)) = true := rfl
                  clear nb c1 c2 c3 c4 c5 c6 c7 c8
                  refine buildSlice_rule se_49 ty_3 m1.wf [.int .i64 (-1)] rfl rfl (by decide) (by simp [Value.cells]) fun A1 s2 m2 => ?_
                  have e2 := m2.eq
                  have n2 := m2.n
                  have hU : Ints s2 (.slice (some ⟨A1, 0, none⟩) 1 1) [-1] := m2.sl rfl
                  have hG2 : s2.at G = some (.cells (g.cells ur) 24 false) := (m2.grew.same G (by omega)).trans hG1
                  have hnv : 0 ≤ g.nv ∧ g.nv ≤ 40000 := ⟨by have := hb.2.1; have := hb.2.2.2.1; have := hb.2.2.2.2.2.1; omega, hb.2.2.2.2.2.2.1⟩
                  simp (maxSteps := 10000000) only [wW, reduceCtorEq, Nat.reduceEqDiff, wL, Nat.reduceAdd, acells_some hG2]
                  refine wRepeat1 (-1) hU hnv.1 (by omega) m2.wf (by omega) fun A s3 V3 => ?_
                  have g13 := V3.grew
                  have hVn := V3.new
                  have hG3 : s3.at G = some (.cells (g.cells ur) 24 false) := (g13.same G (by omega)).trans hG2
                  have hI0 : OrdI ro g ur (ent s) G A s3 (List.replicate 0 0 ++ List.replicate (g.nv.toNat - 0) (-1)) := ⟨⟨V3.here, by omega, V3.wf, (m1.grew.trans m2.grew).trans g13⟩, hG3, by simp, hw.ent, hro, Sl.ent hr, by omega⟩
                  have hn0 : 0 ≤ g.pub + g.sec ∧ g.pub + g.sec ≤ g.nv := ⟨by have := hb.2.1; have := hb.2.2.2.1; omega, hb.2.2.2.2.2.1⟩
                  simp (maxSteps := 10000000) only [wW, reduceCtorEq, Nat.reduceEqDiff, wL, Nat.reduceAdd, acells_some hG3]
                  rw [wrap_i64 (n := g.pub + g.sec) (by omega) (by omega)]
                  have hl0 : (g.pub + g.sec).toNat ≤ g.nv.toNat := by omega
                  refine wloop l37_11110100 m37_11110100 (fun (i : Nat) τ ds s' => i ≤ (g.pub + g.sec).toNat ∧ τ 1 = ptr G ∧ τ 4 = slc A g.nv.toNat ∧ τ 65 = .int .i64 (g.pub + g.sec) ∧ τ 66 = .int .i64 i ∧ ds = [] ∧ OrdI ro g ur (ent s) G A s' (List.replicate i 0 ++ List.replicate (g.nv.toNat - i) (-1))) (fun i => (g.pub + g.sec).toNat - i) ?_ 0 ⟨by omega, rfl, rfl, rfl, rfl, rfl, hI0⟩
                  clear hI0 hU V3 g13 hG3 hG2 hG hG1 hr1
                  rintro i τ ds s' ⟨hi, t1, t4, t65, t66, rfl, hI⟩
                  rw [n37_11110100]
                  unfold v37_11110100
                  by_cases hlt : i < (g.pub + g.sec).toNat
                  · have hix := ixc se_49 isz_3 (A := A) (n := g.nv.toNat) (c := g.nv.toNat) (i := (i : Int)) (by omega) (by omega)
                    simp (maxSteps := 10000000) only [wW, reduceCtorEq, Nat.reduceEqDiff, wL, Nat.reduceAdd, t4, t65, t66, hix]
                    rw [if_pos (by omega)]
                    refine hI.store (i := (i : Int)) (by omega) (by omega) fun s2 hI2 _ => ?_
                    rw [wrap_i64 (by omega) (by omega)]
                    refine ⟨i + 1, by omega, by omega, ?_, ?_, ?_, ?_, trivial, ?_⟩
                    · simp only [U, tset_eq, wW, reduceCtorEq, Nat.reduceEqDiff, t1]
                    · simp only [U, tset_eq, wW, reduceCtorEq, Nat.reduceEqDiff, t4]
                    · simp only [U, tset_eq, wW, reduceCtorEq, Nat.reduceEqDiff, t65]
                    · simp only [U, tset_eq, wW, reduceCtorEq, Nat.reduceEqDiff]; rfl
                    · rw [Int.toNat_natCast, zero_step hlt hl0] at hI2
                      exact hI2
                  · obtain rfl : i = (g.pub + g.sec).toNat := by omega
                    simp (maxSteps := 10000000) only [wW, reduceCtorEq, Nat.reduceEqDiff, t65, t66]
                    rw [if_neg (by omega)]
                    simp (maxSteps := 10000000) only [U, tset_eq, wW, reduceCtorEq, Nat.reduceEqDiff, wL, Nat.reduceAdd, t1, hI.gc, hgl]
                    exact depLoop hb hnn hw hro hF hr hI h0 h1 (by simp only [tset_eq, wW, reduceCtorEq, Nat.reduceEqDiff, t1]) (by simp only [tset_eq, wW, reduceCtorEq, Nat.reduceEqDiff, t4]) (by simp only [tset_eq, wW, reduceCtorEq, Nat.reduceEqDiff]) (by simp only [tset_eq, wW, reduceCtorEq, Nat.reduceEqDiff]) (by simp only [tset_eq, wW, reduceCtorEq, Nat.reduceEqDiff])
  · rw [Bool.not_eq_true] at c1
    rw [c1]
    simp (maxSteps := 10000000) only [wW, reduceCtorEq, Nat.reduceEqDiff]
    exact nb fun h => by have := h.1; rw [c1] at this; cases this
theorem wGvalid (g : Gp) (hnn : ∀ r ∈ g.rows, r.Nn) {s : St} {ur : Value} (hw : Wf s) (hro : ro ≤ s.n) (hF : FieldsAt s) (hr : RowsS s ur g.rows) : CallWP P ro 16 [.agg (.mk (g.cells ur))] s K = K (.bool (validM g)) s := by
  refine callEq (call_wp b16 rfl ?_) K
  rw [n16]
  unfold v16
  simp (maxSteps := 10000000) only [wW, reduceCtorEq, Nat.reduceEqDiff]
  refine box_rule hw.ent fun G s1 m1 => ?_
  have e1 := m1.eq
  have n1 := m1.n
  have hn0 : (ent s).n = s.n := rfl
  have hG1 : s1.at G = some (.cells (g.cells ur) 24 false) := m1.here
  have hF1 : FieldsAt s1 := FieldsAt.grew (s := ent s) hF m1.grew
  rw [wop_load, load_all ap_24 hG1 rfl, wopt_some]
  refine wDepths g hnn m1.wf (by omega) hF1 ((Sl.ent hr).grew m1.grew.same) (fun v s2 hv g2 => ?_) (fun D v s2 hv _ g2 _ => ?_)
  · simp (maxSteps := 10000000) only [wW, reduceCtorEq, Nat.reduceEqDiff, wop_extract, List.getElem?_cons_zero, List.getElem?_cons_succ, wopt_some]
    exact fin_flat rfl (m1.grew.trans g2) ⟨by rw [hv], rfl⟩
  · simp (maxSteps := 10000000) only [wW, reduceCtorEq, Nat.reduceEqDiff, wop_extract, List.getElem?_cons_zero, List.getElem?_cons_succ, wopt_some]
    exact fin_flat rfl (m1.grew.trans g2) ⟨by rw [hv], rfl⟩
end
end Go.VE
/- The gates: Holds, of the program and of the reference. -/
namespace Go.VE
open Go Go.Proofs
set_option maxRecDepth 20000
def HoldsOk (g : Gp) (vals : List Int) (i : Int) : Prop := validM g = true ∧ (vals.length : Int) = g.nv ∧ below g.f vals = true ∧ 0 ≤ i ∧ i < g.rows.length
instance (g : Gp) (vals : List Int) (i : Int) : Decidable (HoldsOk g vals i) := by unfold HoldsOk; infer_instance
section
variable {ro : Nat} {K : Value → St → Prop}
end
end Go.VE
/- What every law's proof begins and ends with. -/
namespace Go.VE
open Go Go.Proofs
set_option maxRecDepth 20000
def fieldsB (l : List AO) : Bool :=
  match (l[0]? : Option AO) with
  | some (AO.cells c _ _) => (match c with
    | [a0, a1, a2, a3, .slice x0 n0 c0, a5, a6, a7, a8, .slice x1 n1 c1, a10, a11, a12, a13, .slice x2 n2 c2, a15, a16, a17, a18, .slice x3 n3 c3] =>
      veqL [a0, a1, a2, a3, a5, a6, a7, a8, a10, a11, a12, a13, a15, a16, a17, a18] [.int .u64 97, .int .u64 5, .int .i64 5, .int .i64 5, .int .u64 257, .int .u64 3, .int .i64 8, .int .i64 3, .int .u64 12289, .int .u64 11, .int .i64 12, .int .i64 5, .int .u64 998244353, .int .u64 3, .int .i64 23, .int .i64 3]
    | _ => false)
  | _ => false
theorem fieldsB_spec {l : List AO} (h : fieldsB l = true) {s : St} (hs : ∀ i, i < l.length → s.at i = l[i]?) : FieldsAt s := by
  unfold fieldsB at h
  split at h
  · rename_i c t o h0
    split at h
    · rename_i a0 a1 a2 a3 x0 n0 c0 a5 a6 a7 a8 x1 n1 c1 a10 a11 a12 a13 x2 n2 c2 a15 a16 a17 a18 x3 n3 c3
      have e := veqL_eq _ _ h
      simp only [List.cons.injEq, and_true] at e
      obtain ⟨rfl, rfl, rfl, rfl, rfl, rfl, rfl, rfl, rfl, rfl, rfl, rfl, rfl, rfl, rfl, rfl⟩ := e
      have hl : 0 < l.length := (List.getElem?_eq_some_iff.1 h0).1
      exact ⟨x0, x1, x2, x3, n0, n1, n2, n3, c0, c1, c2, c3, t, o, (hs 0 hl).trans h0⟩
    · cases h
  · cases h
noncomputable def startB (laid : List (String × DataW Unit)) : Bool :=
  match absLaid P 30 laid P.globals.size with
  | some x => lastIn P.globals.size x.1 && fieldsB (absHeap P.globals.size x)
  | none => false
theorem law_runs' {f : Nat} {fid : FuncId} {ts : List TypeId} {laid : List (String × DataW Unit)} (h : startB laid = true)
    (run : ∀ (s : St) (al : List Value), Wf s → FieldsAt s → 0 < s.n → Args P f ts al s → CallWP P s.n fid al s fun v _ => v = .bool true) : LawRuns P 30 f fid ts laid := by
  unfold startB at h
  refine law_runs ?_ fun gs bl hx s al hw _ hs hl ha => ?_
  · split at h
    · rename_i x hx
      rw [hx]
      simp only [Bool.and_eq_true] at h
      exact h.1
    · cases h
  · rw [hx] at h
    simp only [Bool.and_eq_true] at h
    have hF := fieldsB_spec h.2 hs
    exact run s al hw hF hF.lt ha
theorem fin_K {si s : St} {K : Value → St → Prop} {v : Value} (h : ∀ s', K v s') : wfin si K v s := by
  unfold wfin afinish
  cases (Nat.ble si.n s.lo && flat' v) with
  | true => exact h _
  | false => exact h _
section
variable {ro : Nat} {s : St} {K : Value → St → Prop}
theorem wLiv : CallWP P ro 9 [] s K = K (.bool true) s := callEq (call_known rfl ⟨rfl, rfl⟩) K
end
end Go.VE
/- The program's gates: Depth; the reference's Depth; Equal; the closure that sets a value. -/
namespace Go.VE
open Go Go.Proofs
set_option maxRecDepth 20000
theorem dRow_len (r nx : Row) (m : Int) (D : List Int) : (dRow r nx m D).length = D.length := by
  have ha : (dArith r m D).length = D.length := by unfold dArith; split <;> simp
  unfold dRow
  split
  · rw [it_len (fun n l => by unfold dNext; split <;> simp), ha]
  · exact ha
theorem orderD_len {g : Gp} : ∀ {n : Nat} {D : List Int}, orderD g n = some D → D.length = g.nv.toNat
  | 0, D, h => by
    rw [orderD] at h
    cases h
    rw [it_len (fun n l => by unfold dInit; split <;> simp)]; simp
  | n + 1, D, h => by
    rw [orderD] at h
    cases ho : orderD g n with
    | none => rw [ho] at h; cases h
    | some E =>
      rw [ho, Option.bind_some] at h
      unfold stepD at h
      cases hm : mostM (rowAt g.rows n) E (rds (rowAt g.rows n)) 0 with
      | none => rw [hm] at h; cases h
      | some m =>
        rw [hm] at h
        cases h
        rw [dRow_len, orderD_len ho]
theorem orderM_len {g : Gp} {D : List Int} (h : orderM g = some D) : D.length = g.nv.toNat := by
  unfold orderM at h
  cases ho : orderD g g.rows.length with
  | none => rw [ho] at h; cases h
  | some E =>
    rw [ho, Option.bind_some] at h
    split at h
    · cases h; exact orderD_len ho
    · cases h
noncomputable def depthM (g : Gp) : Int := if validM g = true then mxF ((orderM g).getD []) else 0
section
variable {ro : Nat} {s : St} {K : Value → St → Prop}
theorem wGdepth (g : Gp) (hnn : ∀ r ∈ g.rows, r.Nn) {ur : Value} (hw : Wf s) (hro : ro ≤ s.n) (hF : FieldsAt s) (hr : RowsS s ur g.rows) : CallWP P ro 17 [.agg (.mk (g.cells ur))] s K = K (.int .i64 (depthM g)) s := by
  refine callEq (call_wp b17 rfl ?_) K
  rw [n17]
  unfold v17
  simp (maxSteps := 10000000) only [wW, reduceCtorEq, Nat.reduceEqDiff]
  refine box_rule hw.ent fun G s1 m1 => ?_
  have e1 := m1.eq
  have n1 := m1.n
  have hn0 : (ent s).n = s.n := rfl
  have hG1 : s1.at G = some (.cells (g.cells ur) 24 false) := m1.here
  have hF1 : FieldsAt s1 := FieldsAt.grew (s := ent s) hF m1.grew
  rw [wop_load, load_all ap_24 hG1 rfl, wopt_some]
  refine wDepths g hnn m1.wf (by omega) hF1 ((Sl.ent hr).grew m1.grew.same) (fun v s2 hv g2 => ?_) (fun D v s2 hv ho g2 hD => ?_)
  · simp (maxSteps := 10000000) only [wW, reduceCtorEq, Nat.reduceEqDiff, wop_extract, List.getElem?_cons_zero, List.getElem?_cons_succ, wopt_some]
    refine fin_flat rfl (m1.grew.trans g2) ⟨?_, rfl⟩
    unfold depthM
    rw [hv]; rfl
  · have hL : Limits g := by
      unfold validM at hv
      rw [Bool.and_eq_true, decide_eq_true_eq] at hv
      exact hv.1
    have hlD : D.length < 2 ^ 60 := by
      have := orderM_len ho
      have := hL.nv
      omega
    simp (maxSteps := 10000000) only [wW, reduceCtorEq, Nat.reduceEqDiff, wop_extract, List.getElem?_cons_zero, List.getElem?_cons_succ, wopt_some, wDeepest hD hlD]
    refine fin_flat rfl (m1.grew.trans g2) ⟨?_, rfl⟩
    unfold depthM
    rw [if_pos hv, ho]; rfl
theorem wEqual {u v : Value} {a b : List Int} (hu : U64s s u a) (hv : U64s s v b) (hl : a.length < 2 ^ 60) : CallWP P ro 14 [u, v] s K = K (.bool (decide (a = b))) s := by
  refine callEq (call_wp b14 rfl ?_) K
  rw [n14]
  unfold v14
  simp (maxSteps := 10000000) only [wW, reduceCtorEq, Nat.reduceEqDiff, Sl.wlen hu se_25, Sl.wlen hv se_25]
  by_cases hn : (a.length : Int) = b.length
  · rw [if_neg (by simpa using hn)]
    have hn' : a.length = b.length := by omega
    refine wloop l14_110100 m14_110100 (fun (i : Nat) τ ds s' => i ≤ a.length ∧ τ 0 = u ∧ τ 1 = v ∧ τ 5 = .int .i64 i ∧ ds = [] ∧ s' = ent s ∧ a.take i = b.take i) (fun i => a.length - i) ?_ 0 ⟨Nat.zero_le _, ?_, ?_, ?_, rfl, rfl, rfl⟩
    · rintro i τ ds s' ⟨hi, t0, t1, t5, rfl, rfl, hall⟩
      rw [n14_110100]
      unfold v14_110100
      simp (maxSteps := 10000000) only [wW, reduceCtorEq, Nat.reduceEqDiff, t0, t1, t5, Sl.wlen hu se_25]
      by_cases hlt : i < a.length
      · rw [if_pos (by omega)]
        have hltb : i < b.length := by omega
        obtain ⟨A, o, c, q1, q2, q3⟩ := hu.at1 (i := (i : Int)) (x := a[i]) (by omega) (by rw [Int.toNat_natCast]; exact List.getElem?_eq_getElem hlt)
        obtain ⟨A2, o2, c2, y1, y2, y3⟩ := hv.at1 (i := (i : Int)) (x := b[i]) (by omega) (by rw [Int.toNat_natCast]; exact List.getElem?_eq_getElem hltb)
        simp (maxSteps := 10000000) only [wW, reduceCtorEq, Nat.reduceEqDiff, wL, Nat.reduceAdd, q1, q2, q3, y1, y2, y3]
        by_cases he : a[i] = b[i]
        · rw [if_neg (by simpa using he), wrap_i64 (by omega) (by omega)]
          refine ⟨i + 1, by omega, by omega, ?_, ?_, ?_, trivial, trivial, ?_⟩
          · simp only [U, tset_eq, wW, reduceCtorEq, Nat.reduceEqDiff, t0]
          · simp only [U, tset_eq, wW, reduceCtorEq, Nat.reduceEqDiff, t1]
          · simp only [U, tset_eq, wW, reduceCtorEq, Nat.reduceEqDiff]; rfl
          · rw [take_succ_eq (List.getElem?_eq_getElem hlt), take_succ_eq (List.getElem?_eq_getElem hltb), hall, he]
        · rw [if_pos he, r14]
          simp (maxSteps := 10000000) only [U, tset_eq, wW, reduceCtorEq, Nat.reduceEqDiff]
          refine fin_flat rfl (.refl _) ⟨?_, rfl⟩
          rw [decide_eq_false (fun h => he (by subst h; rfl))]
      · obtain rfl : i = a.length := by omega
        rw [if_neg (by omega)]
        refine fin_flat rfl (.refl _) ⟨?_, rfl⟩
        rw [List.take_length, List.take_of_length_le (by omega)] at hall
        rw [decide_eq_true hall]
    · simp only [U, tset_eq, wW, reduceCtorEq, Nat.reduceEqDiff]
    · simp only [U, tset_eq, wW, reduceCtorEq, Nat.reduceEqDiff]
    · simp only [U, tset_eq, wW, reduceCtorEq, Nat.reduceEqDiff]; rfl
  · rw [if_pos hn]
    refine fin_flat rfl (.refl _) ⟨?_, rfl⟩
    rw [decide_eq_false (fun h => hn (by rw [h]))]
end
end Go.VE
/- The program's gates: Run's closure. -/
namespace Go.VE
open Go Go.Proofs
set_option maxRecDepth 20000
def setIf (w x : Int) (c : List Int × List Bool) : List Int × List Bool := if atB c.2 w = false then setV w x c else c
theorem wfin_old {si s : St} {K : Value → St → Prop} {v : Value} (h : s.lo < si.n) : wfin si K v s = K v { s with lo := min si.lo s.lo } := by
  have : Nat.ble si.n s.lo = false := by
    cases hb : Nat.ble si.n s.lo with
    | false => rfl
    | true => have := Nat.le_of_ble_eq_true hb; omega
  simp only [wfin, afinish, this, Bool.false_and, cond_false]
def rngOff (A : Nat) : Rng → Prop
  | .below n => n ≤ A
  | .blk q => q ≠ A
  | .ptr a => ∀ x, a = .pointer (some x) → x.block ≠ A
theorem Put.keeps {s s' : St} {A : Nat} {o : AO} {l : List (Nat × Rng)} (p : Put s A o s') (h : ∀ x ∈ l, rngOff A x.2) : Keeps l s s' := by
  refine ⟨by rw [p.n]; exact Nat.le_refl _, fun x hx => ?_⟩
  have hh := h x hx
  obtain ⟨j, g⟩ := x
  cases g with
  | below n =>
    intro C h1 h2
    have : n ≤ A := hh
    exact p.rest C (by omega)
  | blk q =>
    intro y hy
    have : q ≠ A := hh
    rw [p.rest q this]; exact hy
  | ptr a =>
    intro y z e hz
    have : y.block ≠ A := hh y e
    rw [p.rest y.block this]; exact hz
section
variable {ro : Nat} {K : Value → St → Prop} {g : Gp} {ur : Value} {s0 : St} {G A B : Nat} {s : St} {c : List Int × List Bool}
theorem wSet (hI : RunI ro g ur s0 G A B s c) {X Y : Nat} (hX : s.at X = some (.cells [slc A g.nv.toNat] 25 false)) (hY : s.at Y = some (.cells [slc B g.nv.toNat] 52 false)) (hXA : X ≠ A) (hXB : X ≠ B) {w : Int} (h0 : 0 ≤ w) (h1 : w < g.nv) {x : Int} (hx : 0 ≤ x)
    (hk : ∀ s', RunI ro g ur s0 G A B s' (setIf w x c) → (∀ C, C ≠ A → C ≠ B → s'.at C = s.at C) → s'.n = s.n → K (.tuple (.mk [])) s') :
    CallWP P ro 28 [.int .i64 w, .int .u64 x, ptr Y, ptr X] s K := by
  refine call_wp b28 rfl ?_
  rw [n28]
  unfold v28
  have hixA := ixc se_25 isz_38 (A := A) (n := g.nv.toNat) (c := g.nv.toNat) (i := w) h0 (by omega)
  have hixB := ixc se_52 isz_4 (A := B) (n := g.nv.toNat) (c := g.nv.toNat) (i := w) h0 (by omega)
  have hgt := hI.getB h0 h1
  have hXc := acells_some hX
  have hYc := acells_some hY
  have hv : ∀ (A n : Nat), veq (slc A n) (slc A n) = true := fun A n => by simp [veq]
  have pX : ptr X = .pointer (some ⟨X, 0, none⟩) := rfl
  have pY : ptr Y = .pointer (some ⟨Y, 0, none⟩) := rfl
  simp (maxSteps := 10000000) only [wW, reduceCtorEq, Nat.reduceEqDiff, wL, Nat.reduceAdd, pX, pY, hYc, hXc, hixB, hI.bc, hgt, hv, true_and, List.getElem?_cons_zero, load1 ap_52, load1 ap_25, load1 ap_4]
  have hl1 := hI.l1
  have hl2 := hI.l2
  have hsn := hI.vv.grew.n
  have hslo := hI.vv.grew.lo
  have hAn := hI.vv.new
  have hBn := hI.vb.new
  have hAl := St.at_lt hI.vv.here
  have hBl := St.at_lt hI.vb.here
  have hro := hI.ro
  have hw0 := hI.w0.lo
  have hwe : Wf (ent s) := hI.vv.wf.ent
  have hn0 : (ent s).n = s.n := rfl
  have hsw := hI.vv.wf.lo
  unfold setIf at hk
  by_cases hb : atB c.2 w = false
  · rw [if_pos hb] at hk ⊢
    refine store1_rule isz_4 (s := ent s) (show (ent s).at B = _ from hI.vb.here) hwe (by omega) (by rw [List.length_map]; omega) rfl fun s2 p2 => ?_
    refine ⟨p2.keeps (fun x hx => ?_), ?_⟩
    · simp only [List.mem_cons, List.not_mem_nil, or_false] at hx
      subst hx
      intro y e
      cases e
      exact hXB
    have hA2 : s2.at A = some (.cells (c.1.map (.int .u64)) 38 false) := (p2.rest A hI.ab).trans hI.vv.here
    rw [hixA, wopt_some]
    refine store1_rule isz_38 hA2 p2.wf (by omega) (by rw [List.length_map]; omega) rfl fun s3 p3 => ?_
    have n2 := p2.n
    have n3 := p3.n
    have l2 := p2.lo
    have l3 := p3.lo
    have hel : (ent s).lo = s.n := rfl
    rw [wfin_old (by omega)]
    have rest : ∀ C, C ≠ A → C ≠ B → s3.at C = s.at C := fun C hC hC2 => (p3.rest C hC).trans (p2.rest C hC2)
    have gr : Grew s0 { s3 with lo := min s.lo s3.lo } := ⟨by show s0.n ≤ s3.n; omega, by show min s.lo s3.lo = s0.lo; omega, fun C hC => (rest C (by omega) (by omega)).trans (hI.vv.grew.same C hC), fun _ => p3.wf.len⟩
    have wf : Wf { s3 with lo := min s.lo s3.lo } := ⟨by show min s.lo s3.lo ≤ s3.n; omega, p3.wf.len⟩
    have e1 : splice (c.1.map (Value.int .u64)) w.toNat [.int .u64 x] = (c.1.set w.toNat x).map (.int .u64) := map_splice _ _ _ _ (by omega)
    have e2 : splice (c.2.map Value.bool) w.toNat [.bool true] = (c.2.set w.toNat true).map .bool := map_splice _ _ _ _ (by omega)
    refine hk _ ⟨⟨?_, hI.vv.new, wf, gr⟩, ⟨?_, hI.vb.new, wf, gr⟩, (rest G hI.ga hI.gb).trans hI.gat, by rw [setV, List.length_set]; exact hl1, by rw [setV, List.length_set]; exact hl2, hI.w0, hI.ro, hI.rows, hI.ga, hI.gb, hI.ab, nn_set hI.nn hx⟩ rest (by show s3.n = s.n; omega)
    · show s3.at A = _
      rw [p3.here, e1]; rfl
    · show s3.at B = _
      rw [p3.rest B (Ne.symm hI.ab), p2.here, e2]; rfl
  · rw [if_neg hb] at hk ⊢
    rw [wfin_flat (Nat.le_refl _) rfl]
    exact hk s hI (fun _ _ _ => rfl) rfl
end
end Go.VE
/- The program's gates: the rows of Run. -/
namespace Go.VE
open Go Go.Proofs
set_option maxRecDepth 20000
structure RgI (ro : Nat) (g : Gp) (ur : Value) (s0 : St) (G A B X Y : Nat) (s : St) (c : List Int × List Bool) : Prop where
  run : RunI ro g ur s0 G A B s c
  x : s.at X = some (.cells [slc A g.nv.toNat] 25 false)
  y : s.at Y = some (.cells [slc B g.nv.toNat] 52 false)
  xa : X ≠ A
  xb : X ≠ B
  ya : Y ≠ A
  yb : Y ≠ B
def clo (X Y : Nat) : Value := .func (.func 28) (.mk []) (.mk [ptr Y, ptr X])
structure Kp (τ τ' : Tau) : Prop where
  a3 : τ' 3 = τ 3
  a9 : τ' 9 = τ 9
  a10 : τ' 10 = τ 10
  a12 : τ' 12 = τ 12
  a79 : τ' 79 = τ 79
  a80 : τ' 80 = τ 80
  a81 : τ' 81 = τ 81
theorem Kp.refl (τ : Tau) : Kp τ τ := ⟨rfl, rfl, rfl, rfl, rfl, rfl, rfl⟩
theorem Kp.trans {a b c : Tau} (h : Kp a b) (k : Kp b c) : Kp a c := ⟨k.a3.trans h.a3, k.a9.trans h.a9, k.a10.trans h.a10, k.a12.trans h.a12, k.a79.trans h.a79, k.a80.trans h.a80, k.a81.trans h.a81⟩
section
variable {ro : Nat} {K : Value → St → Prop} {g : Gp} {ur : Value} {s0 : St} {G A B X Y : Nat} {s : St} {c : List Int × List Bool}
theorem RgI.grew (h : RgI ro g ur s0 G A B X Y s c) {s' : St} (hg : Grew s s') : RgI ro g ur s0 G A B X Y s' c :=
  ⟨h.run.grew hg, (hg.same X (St.at_lt h.x)).trans h.x, (hg.same Y (St.at_lt h.y)).trans h.y, h.xa, h.xb, h.ya, h.yb⟩
theorem RgI.set (h : RgI ro g ur s0 G A B X Y s c) {w : Int} (h0 : 0 ≤ w) (h1 : w < g.nv) {x : Int} (hx : 0 ≤ x)
    (hk : ∀ s', RgI ro g ur s0 G A B X Y s' (setIf w x c) → (∀ C, C ≠ A → C ≠ B → s'.at C = s.at C) → K (.tuple (.mk [])) s') :
    xcallv (prims P ro) (clo X Y) [.int .i64 w, .int .u64 x] s K := by
  unfold clo
  rw [xcallv_fn]
  show CallWP P ro 28 [.int .i64 w, .int .u64 x, ptr Y, ptr X] s K
  exact wSet h.run h.x h.y h.xa h.xb h0 h1 hx fun s' hr rest _ => hk s' ⟨hr, (rest X h.xa h.xb).trans h.x, (rest Y h.ya h.yb).trans h.y, h.xa, h.xb, h.ya, h.yb⟩ rest
theorem rgNext (hL : Limits g) (hI : RgI ro g ur s0 G A B X Y s c) {i : Nat} (hi : i < g.rows.length) (h3 : (rowAt g.rows i).k = 3) {q : List Int} (hq : q.length = 4) (hqn : ∀ x ∈ q, 0 ≤ x)
    {τ : Tau} {ds : List Deferred} {Kr kx : WK} (t3 : τ 3 = ptr G) (t12 : τ 12 = clo X Y) (t13 : τ 13 = .int .i64 i) (t94 : τ 94 = .agg (.mk (u4 q))) (t95 : τ 95 = .int .i64 0)
    (hk : ∀ τ' s', Kp τ τ' → RgI ro g ur s0 G A B X Y s' (it (runN q (rowAt g.rows (i + 1))) 4 c) → kx τ' ds s') :
    WLoop P ro 160 none c13_11111111010011001010100 τ ds s Kr [(5, kx)] := by
  have hn := hL.next hi h3
  have hrl := hL.2.2.2.2.2.2.2.1
  refine wloop l13_11111111010011001010100 m13_11111111010011001010100 (fun (k : Nat) τ' ds' s' => k ≤ 4 ∧ Kp τ τ' ∧ τ' 13 = .int .i64 i ∧ τ' 94 = .agg (.mk (u4 q)) ∧ τ' 95 = .int .i64 k ∧ ds' = ds ∧ RgI ro g ur s0 G A B X Y s' (it (runN q (rowAt g.rows (i + 1))) k c)) (fun k => 4 - k) ?_ 0 ⟨by omega, .refl _, t13, t94, t95, rfl, hI⟩
  rintro k τ' ds' s' ⟨hk4', kp, a13, a94, a95, rfl, hI'⟩
  rw [n13_11111111010011001010100]
  unfold v13_11111111010011001010100
  have a3 := kp.a3.trans t3
  have a12 := kp.a12.trans t12
  by_cases hk4 : k < 4
  · have hx := hn.2 k hk4
    obtain ⟨A2, o2, c2, y1, y2⟩ := hI'.run.rs.ix (rowAt_get hn.1)
    have hiw : IntKind.i64.wrap ((i : Int) + 1) = ((i + 1 : Nat) : Int) := by rw [wrap_i64 (by omega) (by omega)]; rfl
    have hkw : IntKind.i64.wrap ((k : Int) + 1) = ((k + 1 : Nat) : Int) := by rw [wrap_i64 (by omega) (by omega)]; rfl
    have hwk := y2.wire hk4
    simp (maxSteps := 10000000) only [wW, reduceCtorEq, Nat.reduceEqDiff, wL, Nat.reduceAdd, a3, a12, a13, a94, a95, hI'.run.gc, hiw, y1, y2.blk, wix _ _ hk4, aiU hq hk4, hwk]
    rw [if_pos (by omega)]
    refine hI'.set hx.1 hx.2 (at0_nn hqn _) fun s2 hI2 _ => ?_
    rw [hkw]
    refine ⟨k + 1, by omega, by omega, ?_, ?_, ?_, ?_, trivial, hI2⟩
    · refine kp.trans ⟨?_, ?_, ?_, ?_, ?_, ?_, ?_⟩ <;> simp only [U, tset_eq, wW, reduceCtorEq, Nat.reduceEqDiff, a3, a12]
    · simp only [U, tset_eq, wW, reduceCtorEq, Nat.reduceEqDiff, a13]
    · simp only [U, tset_eq, wW, reduceCtorEq, Nat.reduceEqDiff, a94]
    · simp only [U, tset_eq, wW, reduceCtorEq, Nat.reduceEqDiff]
  · obtain rfl : k = 4 := by omega
    simp (maxSteps := 10000000) only [wW, reduceCtorEq, Nat.reduceEqDiff, a95]
    rw [if_neg (by omega)]
    refine hk _ _ (kp.trans ⟨?_, ?_, ?_, ?_, ?_, ?_, ?_⟩) hI' <;> simp only [U, tset_eq, wW, reduceCtorEq, Nat.reduceEqDiff]
theorem rgArith (hL : Limits g) (hF : FieldsAt s0) (hI : RgI ro g ur s0 G A B X Y s c) {i : Nat} (hi : i < g.rows.length) (hfit : RowFit g.nv.toNat (rowAt g.rows i)) (hk1 : (rowAt g.rows i).qo ≠ 0 → (rowAt g.rows i).k = 1) {R : Nat} (hR : s.at R = some (.cells (rowAt g.rows i).cells 43 false))
    {τ : Tau} {ds : List Deferred} {Qe : Ex → XK} (t3 : τ 3 = ptr G) (t9 : τ 9 = ptr X) (t12 : τ 12 = clo X Y) (t14 : τ 14 = ptr R)
    {b : Bool} (t112 : τ 112 = .bool b) (hb : b = true ↔ (rowAt g.rows i).qo ≠ 0 ∧ atB c.2 (rowAt g.rows i).w2 = false)
    (hk : ∀ al s', Kp τ (U τ al) → RgI ro g ur s0 G A B X Y s' (runA g.f (rowAt g.rows i) c) → Qe .normal τ al ds s') :
    xp (prims P ro) none 160 k13_111111110100 c13_111111110100110010111 [1, 1, 1, 0, 1, 0, 0, 1, 1] τ [] ds s Qe := by
  rw [n13_111111110100110010111]
  unfold v13_111111110100110010111
  have hRc : acells (s.at R) = some (rowAt g.rows i).cells := acells_some hR
  rw [t112, t3, t9, t12, t14]
  have hXc := acells_some hI.x
  have hF1 : FieldsAt s := FieldsAt.grew hF hI.run.vv.grew
  have hgn := hI.run.vv.grew.n
  have hro := hI.run.ro
  have hl1 := hI.run.l1
  have hvs : veq (slc A g.nv.toNat) (slc A g.nv.toNat) = true := by simp [veq]
  have hi1 : ∀ z : Int, veq (.int .u64 z) (.int .u64 z) = true := fun z => by simp [veq]
  have hi2 : ∀ z : Int, veq (.int .i64 z) (.int .i64 z) = true := fun z => by simp [veq]
  simp (maxSteps := 10000000) only [wW, reduceCtorEq, Nat.reduceEqDiff, wL, Nat.reduceAdd, hRc, hI.run.gc, hXc, load1 ap_25, List.getElem?_cons_zero, hvs, hi1, hi2, rcVeq, true_and]
  by_cases hbt : b = true
  · rw [if_pos hbt]
    have hc := hb.1 hbt
    have k1 := hk1 hc.1
    have hw2 : 0 ≤ (rowAt g.rows i).w2 ∧ (rowAt g.rows i).w2 < g.nv := hL.reads hi (rds_2 k1 hc.1)
    have hs0 : 0 ≤ sumM g.f (rowAt g.rows i) c.1 := (fAdd_bounds _ _ _).1
    have hd0 : 0 ≤ fDiv g.f (sumM g.f (rowAt g.rows i) c.1) (rowAt g.rows i).qo := (fMul_bounds _ _ _).1
    have hn0 : 0 ≤ fNeg g.f (fDiv g.f (sumM g.f (rowAt g.rows i) c.1) (rowAt g.rows i).qo) := (fSub_bounds _ _ _).1
    show CallWP P ro 32 [.int .i64 g.f, .agg (.mk (rowAt g.rows i).cells), slc A g.nv.toNat] s _
    rw [wTotal g.f k1 hfit.nn hI.run.sl hI.run.nn (fun hq => by have := hfit.a k1 hq; rw [hl1]; exact this) (fun hq => by have := hfit.b k1 hq; rw [hl1]; exact this) hI.run.vv.wf (by omega) hF1]
    refine ⟨.refl _, ?_⟩
    rw [wfDiv g.f hs0 hfit.nn.qo hI.run.vv.wf (by omega) hF1]
    refine ⟨.refl _, ?_⟩
    rw [wfNeg g.f hd0 hI.run.vv.wf (by omega) hF1]
    refine ⟨.refl _, ?_⟩
    refine hI.set hw2.1 hw2.2 hn0 fun s2 hI2 _ => ?_
    refine hk _ _ ?_ ?_
    · constructor <;> simp only [U, tset_eq, wW, reduceCtorEq, Nat.reduceEqDiff, t3, t9, t12]
    · unfold runA
      rw [if_pos ⟨k1, hc.1, hc.2⟩]
      unfold setIf at hI2
      rw [if_pos hc.2] at hI2
      exact hI2
  · rw [if_neg hbt]
    refine hk _ _ ?_ ?_
    · constructor <;> simp only [U, tset_eq, wW, reduceCtorEq, Nat.reduceEqDiff]
    · unfold runA
      rw [if_neg (fun h => hbt (hb.2 ⟨h.2.1, h.2.2⟩))]
      exact hI
end
end Go.VE
