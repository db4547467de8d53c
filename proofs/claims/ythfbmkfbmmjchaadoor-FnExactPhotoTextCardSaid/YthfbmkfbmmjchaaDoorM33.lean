/- How many digits are marked; counts of values in photos. -/
import Derived.Test.YthfbmkfbmmjchaaDoorM32
set_option linter.unusedVariables false
set_option linter.unusedSimpArgs false
namespace Go.W
open Go Go.Sx
/-! how many bits a number has -/
def popK (x k : Nat) : Nat := ((List.range k).filter fun i => x.testBit i).length
theorem popK_0 (x : Nat) : popK x 0 = 0 := rfl
theorem popK_succ (x k : Nat) : popK x (k + 1) = popK x k + x / 2 ^ k % 2 := by
  unfold popK
  rw [List.range_succ, List.filter_append, List.length_append]
  congr 1
  rw [List.filter_cons, Nat.testBit_eq_decide_div_mod_eq]
  have h := Nat.mod_lt (x / 2 ^ k) (show 0 < 2 by omega)
  by_cases h1 : x / 2 ^ k % 2 = 1
  · simp [h1]
  · simp [h1]; omega
theorem popK_le (x : Nat) : ∀ k, popK x k ≤ k
  | 0 => Nat.le_refl _
  | k + 1 => by rw [popK_succ]; have := popK_le x k; have := Nat.mod_lt (x / 2 ^ k) (show 0 < 2 by omega); omega
theorem popK_hi {x k : Nat} (h : x / 2 ^ k = 0) : ∀ j, popK x (k + j) = popK x k
  | 0 => rfl
  | j + 1 => by
    rw [← Nat.add_assoc, popK_succ, popK_hi h j]
    have : x / 2 ^ (k + j) = 0 := by rw [Nat.pow_add, ← Nat.div_div_eq_div_mul, h, Nat.zero_div]
    rw [this]; rfl
def popN : Nat → Nat → Nat
  | 0, _ => 0
  | f + 1, x => x % 2 + popN f (x / 2)
theorem popN_K : ∀ f x, popN f x = popK x f
  | 0, _ => rfl
  | f + 1, x => by
    rw [popN, popN_K f (x / 2)]
    unfold popK
    rw [List.range_succ_eq_map, List.filter_cons, List.filter_map, Nat.testBit_zero]
    have e : ((fun i => x.testBit i) ∘ Nat.succ) = fun i => (x / 2).testBit i := funext fun i => Nat.testBit_succ x i
    rw [e]
    have h := Nat.mod_lt x (show 0 < 2 by omega)
    by_cases h1 : x % 2 = 1
    · simp [h1]; omega
    · simp [h1]; omega
theorem popN_byte (f x : Nat) : popN (f + 8) x = popN 8 (x % 256) + popN f (x / 256) := by
  simp only [popN]
  have e : x / 2 / 2 / 2 / 2 / 2 / 2 / 2 / 2 = x / 256 := by omega
  rw [e]; omega
/-! the steps of OnesCount64, a byte at a time -/
def rep (m : Nat) : Nat → Nat
  | 0 => 0
  | n + 1 => m + 256 * rep m n
theorem and_split {a b m M : Nat} (ha : a < 256) (hm : m < 256) : (a + 256 * b) &&& (m + 256 * M) = (a &&& m) + 256 * (b &&& M) := by
  have h1 := Nat.and_mod_two_pow (a := a + 256 * b) (b := m + 256 * M) (n := 8)
  have h2 := Nat.and_div_two_pow (a := a + 256 * b) (b := m + 256 * M) (n := 8)
  rw [show (2 : Nat) ^ 8 = 256 from rfl] at h1 h2
  rw [show (a + 256 * b) % 256 = a by omega, show (m + 256 * M) % 256 = m by omega] at h1
  rw [show (a + 256 * b) / 256 = b by omega, show (m + 256 * M) / 256 = M by omega] at h2
  have h3 := Nat.mod_add_div ((a + 256 * b) &&& (m + 256 * M)) 256
  rw [h1, h2] at h3
  exact h3.symm
def po1 (n x : Nat) : Nat := (x / 2 &&& rep 85 n) + (x &&& rep 85 n)
def po2 (n x : Nat) : Nat := (x / 4 &&& rep 51 n) + (x &&& rep 51 n)
def po3 (n x : Nat) : Nat := (x / 16 + x) &&& rep 15 n
def pt1 (a : Nat) : Nat := (a / 2 &&& 85) + (a &&& 85)
def pt2 (a : Nat) : Nat := (a / 4 &&& 51) + (a &&& 51)
def pt3 (a : Nat) : Nat := (a / 16 + a) &&& 15
theorem m1_ok : ∀ a : Fin 256, ∀ c : Fin 2, (a.val / 2 + 128 * c.val) &&& 85 = a.val / 2 &&& 85 := by decide +kernel
theorem m2_ok : ∀ a : Fin 256, ∀ c : Fin 4, (a.val / 4 + 64 * c.val) &&& 51 = a.val / 4 &&& 51 := by decide +kernel
theorem m3_ok : ∀ a : Fin 256, ∀ c : Fin 16, (a.val / 16 + a.val + 16 * c.val) % 256 &&& 15 = (a.val / 16 + a.val) &&& 15 := by decide +kernel
theorem pt_ok : ∀ a : Fin 256, pt1 a.val < 256 ∧ pt2 a.val < 256 ∧ pt2 a.val % 16 ≤ 6 := by decide +kernel
theorem pt12_ok : ∀ a : Fin 256, pt2 (pt1 a.val) ≤ 68 ∧ pt3 (pt2 (pt1 a.val)) = popN 8 a.val ∧ popN 8 a.val ≤ 8 := by decide +kernel
theorem po1_split {n a b : Nat} (ha : a < 256) : po1 (n + 1) (a + 256 * b) = pt1 a + 256 * po1 n b := by
  unfold po1 pt1
  rw [show (a + 256 * b) / 2 = (a / 2 + 128 * (b % 2)) + 256 * (b / 2) by omega]
  simp only [rep]
  have h := m1_ok ⟨a, ha⟩ ⟨b % 2, by omega⟩
  simp only at h
  rw [and_split (by omega) (by omega), and_split ha (by omega), h]
  omega
theorem po2_split {n a b : Nat} (ha : a < 256) : po2 (n + 1) (a + 256 * b) = pt2 a + 256 * po2 n b := by
  unfold po2 pt2
  rw [show (a + 256 * b) / 4 = (a / 4 + 64 * (b % 4)) + 256 * (b / 4) by omega]
  simp only [rep]
  have h := m2_ok ⟨a, ha⟩ ⟨b % 4, by omega⟩
  simp only at h
  rw [and_split (by omega) (by omega), and_split ha (by omega), h]
  omega
theorem po3_split {n a b : Nat} (ha : a ≤ 68) (hb : b % 16 ≤ 6) : po3 (n + 1) (a + 256 * b) = pt3 a + 256 * po3 n b := by
  unfold po3 pt3
  rw [show (a + 256 * b) / 16 + (a + 256 * b) = (a / 16 + a + 16 * (b % 16)) + 256 * (b / 16 + b) by omega]
  simp only [rep]
  have h := m3_ok ⟨a, by omega⟩ ⟨b % 16, by omega⟩
  simp only at h
  rw [Nat.mod_eq_of_lt (by omega)] at h
  rw [and_split (by omega) (by omega), h]
theorem po_zero (x : Nat) : po1 0 x = 0 ∧ po2 0 x = 0 ∧ po3 0 x = 0 := by simp [po1, po2, po3, rep]
theorem po2_lo : ∀ n x, po2 n x % 16 ≤ 6
  | 0, x => by rw [(po_zero x).2.1]; omega
  | n + 1, x => by
    have e : x = x % 256 + 256 * (x / 256) := by omega
    rw [e, po2_split (by omega)]
    have := (pt_ok ⟨x % 256, by omega⟩).2.2
    simp only at this
    omega
theorem po_step (n x : Nat) : po3 (n + 1) (po2 (n + 1) (po1 (n + 1) x)) = popN 8 (x % 256) + 256 * po3 n (po2 n (po1 n (x / 256))) := by
  have e : x = x % 256 + 256 * (x / 256) := by omega
  have h := pt12_ok ⟨x % 256, by omega⟩
  have h2 := pt_ok ⟨x % 256, by omega⟩
  simp only at h h2
  conv => lhs; rw [e, po1_split (by omega), po2_split h2.1, po3_split h.1 (po2_lo _ _)]
  rw [h.2.1]
theorem sums8 {c0 c1 c2 c3 c4 c5 c6 c7 : Nat} (h0 : c0 ≤ 8) (h1 : c1 ≤ 8) (h2 : c2 ≤ 8) (h3 : c3 ≤ 8) (h4 : c4 ≤ 8) (h5 : c5 ≤ 8) (h6 : c6 ≤ 8) (h7 : c7 ≤ 8) : (let y := c0 + 256 * (c1 + 256 * (c2 + 256 * (c3 + 256 * (c4 + 256 * (c5 + 256 * (c6 + 256 * (c7 + 256 * 0))))))); let y1 := y + y / 2 ^ 8; let y2 := y1 + y1 / 2 ^ 16; let y3 := y2 + y2 / 2 ^ 32; y < 2 ^ 60 ∧ y1 < 2 ^ 61 ∧ y2 < 2 ^ 62 ∧ y3 < 2 ^ 63 ∧ y3 % 128 = c0 + (c1 + (c2 + (c3 + (c4 + (c5 + (c6 + (c7 + 0)))))))) := by
  intro y y1 y2 y3
  have hy : y = c0 + 256 * (c1 + 256 * (c2 + 256 * (c3 + 256 * (c4 + 256 * (c5 + 256 * (c6 + 256 * (c7 + 256 * 0))))))) := rfl
  have q1 : y1 = y + y / 2 ^ 8 := rfl
  have q2 : y2 = y1 + y1 / 2 ^ 16 := rfl
  have q3 : y3 = y2 + y2 / 2 ^ 32 := rfl
  clear_value y y1 y2 y3
  have a1 : y / 2 ^ 8 = c1 + 256 * (c2 + 256 * (c3 + 256 * (c4 + 256 * (c5 + 256 * (c6 + 256 * c7))))) := by omega
  obtain ⟨d0, hd0⟩ : ∃ d, d = c0 + c1 := ⟨_, rfl⟩
  obtain ⟨d1, hd1⟩ : ∃ d, d = c1 + c2 := ⟨_, rfl⟩
  obtain ⟨d2, hd2⟩ : ∃ d, d = c2 + c3 := ⟨_, rfl⟩
  obtain ⟨d3, hd3⟩ : ∃ d, d = c3 + c4 := ⟨_, rfl⟩
  obtain ⟨d4, hd4⟩ : ∃ d, d = c4 + c5 := ⟨_, rfl⟩
  obtain ⟨d5, hd5⟩ : ∃ d, d = c5 + c6 := ⟨_, rfl⟩
  obtain ⟨d6, hd6⟩ : ∃ d, d = c6 + c7 := ⟨_, rfl⟩
  have b1 : y1 = d0 + 256 * (d1 + 256 * (d2 + 256 * (d3 + 256 * (d4 + 256 * (d5 + 256 * (d6 + 256 * c7)))))) := by omega
  have k0 : d0 ≤ 16 ∧ d1 ≤ 16 ∧ d2 ≤ 16 ∧ d3 ≤ 16 ∧ d4 ≤ 16 ∧ d5 ≤ 16 ∧ d6 ≤ 16 := by omega
  have hsum : c0 + (c1 + (c2 + (c3 + (c4 + (c5 + (c6 + (c7 + 0))))))) = d0 + d2 + d4 + d6 := by omega
  rw [hsum]
  have y60 : y < 2 ^ 60 := by omega
  clear hy q1 a1 hd0 hd1 hd2 hd3 hd4 hd5 hd6 hsum
  have a2 : y1 / 2 ^ 16 = d2 + 256 * (d3 + 256 * (d4 + 256 * (d5 + 256 * (d6 + 256 * c7)))) := by omega
  obtain ⟨e0, he0⟩ : ∃ e, e = d0 + d2 := ⟨_, rfl⟩
  obtain ⟨e1, he1⟩ : ∃ e, e = d1 + d3 := ⟨_, rfl⟩
  obtain ⟨e2, he2⟩ : ∃ e, e = d2 + d4 := ⟨_, rfl⟩
  obtain ⟨e3, he3⟩ : ∃ e, e = d3 + d5 := ⟨_, rfl⟩
  obtain ⟨e4, he4⟩ : ∃ e, e = d4 + d6 := ⟨_, rfl⟩
  obtain ⟨e5, he5⟩ : ∃ e, e = d5 + c7 := ⟨_, rfl⟩
  have b2 : y2 = e0 + 256 * (e1 + 256 * (e2 + 256 * (e3 + 256 * (e4 + 256 * (e5 + 256 * (d6 + 256 * c7)))))) := by omega
  have k1 : e0 ≤ 32 ∧ e1 ≤ 32 ∧ e2 ≤ 32 ∧ e3 ≤ 32 ∧ e4 ≤ 32 ∧ e5 ≤ 32 := by omega
  have hsum : d0 + d2 + d4 + d6 = e0 + e4 := by omega
  rw [hsum]
  have y61 : y1 < 2 ^ 61 := by omega
  clear b1 q2 a2 he0 he1 he2 he3 he4 he5 hsum
  have a3 : y2 / 2 ^ 32 = e4 + 256 * (e5 + 256 * (d6 + 256 * c7)) := by omega
  refine ⟨y60, y61, by omega, by omega, by omega⟩
theorem sums_ok (x : Nat) (hx : x < 2 ^ 64) : (let y := po3 8 (po2 8 (po1 8 x)); let y1 := y + y / 2 ^ 8; let y2 := y1 + y1 / 2 ^ 16; let y3 := y2 + y2 / 2 ^ 32; y < 2 ^ 60 ∧ y1 < 2 ^ 61 ∧ y2 < 2 ^ 62 ∧ y3 < 2 ^ 63 ∧ y3 % 128 = popN 64 x) := by
  have hp := popN_byte
  have q : ∀ z : Nat, popN 8 (z % 256) ≤ 8 := fun z => (pt12_ok ⟨z % 256, by omega⟩).2.2
  have h0 := q x
  have h1 := q (x / 256)
  have h2 := q (x / 256 / 256)
  have h3 := q (x / 256 / 256 / 256)
  have h4 := q (x / 256 / 256 / 256 / 256)
  have h5 := q (x / 256 / 256 / 256 / 256 / 256)
  have h6 := q (x / 256 / 256 / 256 / 256 / 256 / 256)
  have h7 := q (x / 256 / 256 / 256 / 256 / 256 / 256 / 256)
  have e0 : popN 64 x = popN 8 (x % 256) + popN 56 (x / 256) := hp 56 x
  have e1 : popN 56 (x / 256) = popN 8 (x / 256 % 256) + popN 48 (x / 256 / 256) := hp 48 _
  have e2 : popN 48 (x / 256 / 256) = popN 8 (x / 256 / 256 % 256) + popN 40 (x / 256 / 256 / 256) := hp 40 _
  have e3 : popN 40 (x / 256 / 256 / 256) = popN 8 (x / 256 / 256 / 256 % 256) + popN 32 (x / 256 / 256 / 256 / 256) := hp 32 _
  have e4 : popN 32 (x / 256 / 256 / 256 / 256) = popN 8 (x / 256 / 256 / 256 / 256 % 256) + popN 24 (x / 256 / 256 / 256 / 256 / 256) := hp 24 _
  have e5 : popN 24 (x / 256 / 256 / 256 / 256 / 256) = popN 8 (x / 256 / 256 / 256 / 256 / 256 % 256) + popN 16 (x / 256 / 256 / 256 / 256 / 256 / 256) := hp 16 _
  have e6 : popN 16 (x / 256 / 256 / 256 / 256 / 256 / 256) = popN 8 (x / 256 / 256 / 256 / 256 / 256 / 256 % 256) + popN 8 (x / 256 / 256 / 256 / 256 / 256 / 256 / 256) := hp 8 _
  have e7 : popN 8 (x / 256 / 256 / 256 / 256 / 256 / 256 / 256) = popN 8 (x / 256 / 256 / 256 / 256 / 256 / 256 / 256 % 256) + popN 0 (x / 256 / 256 / 256 / 256 / 256 / 256 / 256 / 256) := hp 0 _
  rw [e0, e1, e2, e3, e4, e5, e6, e7, show popN 0 (x / 256 / 256 / 256 / 256 / 256 / 256 / 256 / 256) = 0 from rfl]
  simp only [po_step, (po_zero _).2.2]
  generalize popN 8 (x % 256) = c0 at *
  generalize popN 8 (x / 256 % 256) = c1 at *
  generalize popN 8 (x / 256 / 256 % 256) = c2 at *
  generalize popN 8 (x / 256 / 256 / 256 % 256) = c3 at *
  generalize popN 8 (x / 256 / 256 / 256 / 256 % 256) = c4 at *
  generalize popN 8 (x / 256 / 256 / 256 / 256 / 256 % 256) = c5 at *
  generalize popN 8 (x / 256 / 256 / 256 / 256 / 256 / 256 % 256) = c6 at *
  generalize popN 8 (x / 256 / 256 / 256 / 256 / 256 / 256 / 256 % 256) = c7 at *
  exact sums8 h0 h1 h2 h3 h4 h5 h6 h7
def popI (x : Int) : Int := (popK x.toNat 64 : Int)
theorem popI_bd (x : Int) : 0 ≤ popI x ∧ popI x ≤ 64 := by unfold popI; have := popK_le x.toNat 64; omega
theorem and_nat {a b : Nat} (ha : a < 2 ^ 64) (hb : b < 2 ^ 64) : bits .and .u64 (a : Int) (b : Int) = ((a &&& b : Nat) : Int) := (bits_nat .u64 64 (Nat.le_refl _) wrap_u64n a b ha hb).1
theorem sh_nat (a k : Nat) (q : Int) (hq : q = (k : Int)) (hk : k ≤ 64) : (a : Int) / 2 ^ min q.toNat IntKind.u64.bits = ((a / 2 ^ k : Nat) : Int) := by
  subst hq
  rw [Int.toNat_natCast, show min k IntKind.u64.bits = k from Nat.min_eq_left hk]
  push_cast; rfl
theorem wrap_nat {a : Nat} (ha : a < 2 ^ 64) : IntKind.u64.wrap (a : Int) = a := wrap_u64n _ (Int.natCast_nonneg _) (by exact_mod_cast ha)
theorem ones64 {x : Int} (hx : 0 ≤ x ∧ x < 18446744073709551616) : (
    let a := IntKind.u64.wrap (bits .and .u64 (x / 2 ^ min (1 : Int).toNat IntKind.u64.bits) 6148914691236517205 + bits .and .u64 x 6148914691236517205)
    let b := IntKind.u64.wrap (bits .and .u64 (a / 2 ^ min (2 : Int).toNat IntKind.u64.bits) 3689348814741910323 + bits .and .u64 a 3689348814741910323)
    let c := bits .and .u64 (IntKind.u64.wrap (b / 2 ^ min (4 : Int).toNat IntKind.u64.bits + b)) 1085102592571150095
    let d := IntKind.u64.wrap (c + c / 2 ^ min (8 : Int).toNat IntKind.u64.bits)
    let e := IntKind.u64.wrap (d + d / 2 ^ min (16 : Int).toNat IntKind.u64.bits)
    let f := IntKind.u64.wrap (e + e / 2 ^ min (32 : Int).toNat IntKind.u64.bits)
    0 ≤ f ∧ f ≤ 9223372036854775807 ∧ f % 128 = popI x) := by
  obtain ⟨n, rfl⟩ := Int.eq_ofNat_of_zero_le hx.1
  have hn : n < 2 ^ 64 := by have := hx.2; omega
  have hand : ∀ p q : Nat, p &&& q ≤ q := fun p q => Nat.and_le_right
  have hs := sums_ok n hn
  have k1 : (6148914691236517205 : Int) = ((rep 85 8 : Nat) : Int) := rfl
  have k2 : (3689348814741910323 : Int) = ((rep 51 8 : Nat) : Int) := rfl
  have k3 : (1085102592571150095 : Int) = ((rep 15 8 : Nat) : Int) := rfl
  have b1 : rep 85 8 = 6148914691236517205 := rfl
  have b2 : rep 51 8 = 3689348814741910323 := rfl
  have b3 : rep 15 8 = 1085102592571150095 := rfl
  have ha : po1 8 n < 2 ^ 64 := by
    unfold po1; have := hand (n / 2) (rep 85 8); have := hand n (rep 85 8); omega
  have hb : po2 8 (po1 8 n) < 2 ^ 63 := by
    unfold po2; have := hand (po1 8 n / 4) (rep 51 8); have := hand (po1 8 n) (rep 51 8); omega
  have e1 : IntKind.u64.wrap (bits .and .u64 ((n : Int) / 2 ^ min (1 : Int).toNat IntKind.u64.bits) 6148914691236517205 + bits .and .u64 n 6148914691236517205) = ((po1 8 n : Nat) : Int) := by
    rw [k1, sh_nat n 1 1 rfl (by omega), and_nat (by omega) (by omega), and_nat hn (by omega), ← Int.natCast_add, ← wrap_nat ha]; rfl
  have e2 : IntKind.u64.wrap (bits .and .u64 (((po1 8 n : Nat) : Int) / 2 ^ min (2 : Int).toNat IntKind.u64.bits) 3689348814741910323 + bits .and .u64 ((po1 8 n : Nat) : Int) 3689348814741910323) = ((po2 8 (po1 8 n) : Nat) : Int) := by
    rw [k2, sh_nat _ 2 2 rfl (by omega), and_nat (by omega) (by omega), and_nat ha (by omega), ← Int.natCast_add, ← wrap_nat (a := po2 8 (po1 8 n)) (by omega)]; rfl
  have e3 : bits .and .u64 (IntKind.u64.wrap (((po2 8 (po1 8 n) : Nat) : Int) / 2 ^ min (4 : Int).toNat IntKind.u64.bits + ((po2 8 (po1 8 n) : Nat) : Int))) 1085102592571150095 = ((po3 8 (po2 8 (po1 8 n)) : Nat) : Int) := by
    rw [k3, sh_nat _ 4 4 rfl (by omega), ← Int.natCast_add, wrap_nat (by omega), and_nat (by omega) (by omega)]; rfl
  simp only [] at hs
  obtain ⟨q0, q1, q2, q3, q4⟩ := hs
  simp only [e1, e2, e3]
  generalize po3 8 (po2 8 (po1 8 n)) = y at *
  rw [sh_nat _ 8 8 rfl (by omega), ← Int.natCast_add, wrap_nat (by omega)]
  rw [sh_nat _ 16 16 rfl (by omega), ← Int.natCast_add, wrap_nat (by omega)]
  rw [sh_nat _ 32 32 rfl (by omega), ← Int.natCast_add, wrap_nat (by omega)]
  unfold popI
  rw [Int.toNat_natCast, ← popN_K, ← q4]
  refine ⟨by omega, by omega, by omega⟩
/-! digits that are marked -/
def digM (m : VMk) : List Nat := (List.range 128).filter (hasM m)
def cntM (m : VMk) : Int := popI m.lo + popI m.hi
theorem cntM_bd (m : VMk) : 0 ≤ cntM m ∧ cntM m ≤ 128 := by unfold cntM; have := popI_bd m.lo; have := popI_bd m.hi; omega
theorem cnt_dig (m : VMk) : ((digM m).length : Int) = cntM m := by
  unfold digM cntM popI
  rw [show (128 : Nat) = 64 + 64 from rfl, List.range_add, List.filter_append, List.length_append, List.filter_map, List.length_map]
  have e1 : (List.range 64).filter (hasM m) = (List.range 64).filter fun i => m.lo.toNat.testBit i := List.filter_congr fun i hi => hasM_lo (by simpa using hi)
  have e2 : (List.range 64).filter (hasM m ∘ fun x => 64 + x) = (List.range 64).filter fun i => m.hi.toNat.testBit i := List.filter_congr fun i hi => hasM_hi (by simpa using hi)
  rw [e1, e2]
  unfold popK
  push_cast; rfl
theorem filter_le {p : Nat → Bool} {b : Nat} : ∀ n, (∀ d, d < n → p d = true → d < b) → ((List.range n).filter p).length ≤ b ∧ ((List.range n).filter p).length ≤ n
  | 0, _ => by simp
  | n + 1, h => by
    have ih := filter_le n fun d hd => h d (by omega)
    rw [List.range_succ, List.filter_append, List.length_append]
    by_cases hp : p n = true
    · have := h n (by omega) hp
      simp [hp]; omega
    · simp [hp]; omega
theorem cnt_le {s : List Int} {l : List VMk} (h : PhOk s l) (hb : Bases s) {i : Nat} (hi : i < s.length) : 1 ≤ cntM (l.getD i zMk) ∧ cntM (l.getD i zMk) ≤ s.getD i 0 := by
  have hbi := hb i hi
  rw [← cnt_dig]
  constructor
  · obtain ⟨d, hd, hh⟩ := h.some_ i hi
    have : d ∈ digM (l.getD i zMk) := List.mem_filter.2 ⟨by simpa using hd, hh⟩
    have := List.length_pos_of_mem this
    omega
  · have := (filter_le (p := hasM (l.getD i zMk)) (b := (s.getD i 0).toNat) 128 fun d hd hh => by have := h.lt i hi d hd hh; omega).1
    unfold digM; omega
/-! choices -/
def choV (l : List VMk) : Nat → Int
  | 0 => 1
  | i + 1 => choV l i * cntM (l.getD i zMk)
theorem cho_bd {s : List Int} {l : List VMk} (h : PhOk s l) (hs : Stk s) : ∀ i, i ≤ s.length → 1 ≤ choV l i ∧ choV l i ≤ prod (s.take i)
  | 0, _ => by simp [choV, prod]
  | i + 1, hi => by
    have ih := cho_bd h hs i (by omega)
    have hc := cnt_le h hs.bases (i := i) (by omega)
    have h1 : 1 * 1 ≤ choV l i * cntM (l.getD i zMk) := Int.mul_le_mul ih.1 hc.1 (by omega) (by omega)
    have h2 : choV l i * cntM (l.getD i zMk) ≤ prod (s.take i) * s.getD i 0 := Int.mul_le_mul ih.2 hc.2 (by omega) (by omega)
    rw [choV, prod_take (by omega)]
    omega
theorem cho_le {s : List Int} {l : List VMk} (h : PhOk s l) (hs : Stk s) {i : Nat} (hi : i ≤ s.length) : 1 ≤ choV l i ∧ choV l i ≤ 1000000000000 := by
  have h1 := cho_bd h hs i hi
  have h2 := prod_take_le hs.bases i
  have := hs.le
  omega
def lessM (m : VMk) (d : Nat) : Int := (((List.range d).filter (hasM m)).length : Int)
theorem less_succ (m : VMk) (d : Nat) : lessM m (d + 1) = lessM m d + if hasM m d = true then 1 else 0 := by
  unfold lessM
  rw [List.range_succ, List.filter_append, List.length_append]
  by_cases h : hasM m d = true
  · simp [h]
  · simp [h]
theorem less_bd (m : VMk) (d : Nat) : 0 ≤ lessM m d ∧ lessM m d ≤ d := by
  unfold lessM
  have := (filter_le (p := hasM m) (b := d) d fun d hd _ => hd).1
  omega
def belV (l : List VMk) (d : List Int) : Nat → Int → Int
  | 0, n => n
  | i + 1, n => if hasM (l.getD i zMk) (d.getD i 0).toNat = true then belV l d i (n + lessM (l.getD i zMk) (d.getD i 0).toNat * choV l i) else n + lessM (l.getD i zMk) (d.getD i 0).toNat * choV l i
theorem bel_term {s : List Int} {l : List VMk} {d : List Int} (h : PhOk s l) (hs : Stk s) (hd : DigOk s d) {i : Nat} (hi : i < s.length) : 0 ≤ lessM (l.getD i zMk) (d.getD i 0).toNat * choV l i ∧ lessM (l.getD i zMk) (d.getD i 0).toNat * choV l i ≤ 100000000000000 := by
  have h1 := cho_le h hs (i := i) (by omega)
  have h2 := less_bd (l.getD i zMk) (d.getD i 0).toNat
  have h3 := hd i hi
  have h4 := hs.bases i hi
  refine ⟨Int.mul_nonneg (by omega) (by omega), ?_⟩
  have : lessM (l.getD i zMk) (d.getD i 0).toNat * choV l i ≤ 100 * 1000000000000 := Int.mul_le_mul (by omega) h1.2 (by omega) (by omega)
  omega
theorem bel_bd {s : List Int} {l : List VMk} {d : List Int} (h : PhOk s l) (hs : Stk s) (hd : DigOk s d) : ∀ i n, i ≤ s.length → n ≤ belV l d i n ∧ belV l d i n ≤ n + 100000000000000 * i
  | 0, n, _ => by simp [belV]
  | i + 1, n, hi => by
    have ht := bel_term h hs hd (i := i) (by omega)
    have ih := bel_bd h hs hd i (n + lessM (l.getD i zMk) (d.getD i 0).toNat * choV l i) (by omega)
    rw [belV]; split <;> omega
theorem bel_y {l : List VMk} {d : List Int} {i : Nat} {n : Int} (h : hasM (l.getD i zMk) (d.getD i 0).toNat = true) : belV l d (i + 1) n = belV l d i (n + lessM (l.getD i zMk) (d.getD i 0).toNat * choV l i) := by rw [belV, if_pos h]
theorem bel_n {l : List VMk} {d : List Int} {i : Nat} {n : Int} (h : hasM (l.getD i zMk) (d.getD i 0).toNat = false) : belV l d (i + 1) n = n + lessM (l.getD i zMk) (d.getD i 0).toNat * choV l i := by rw [belV, if_neg (by rw [h]; decide)]
def cinV (s : List Int) (p : VPh) (lo hi : Int) : Int × Int :=
  if validPh s p = false then (0, 1) else if ¬ ((0 ≤ lo ∧ lo ≤ size s - 1) ∧ 0 ≤ hi ∧ hi ≤ size s - 1) then (0, 2) else if hi < lo then (0, 0)
  else (belV p.l (digs s hi) s.length 0 - belV p.l (digs s lo) s.length 0 + (if showsM s p.l (digs s hi) = true then 1 else 0), 0)
/-! all values in a photo -/
def stepL (b : Int) (m : VMk) (out : List Int) : List Int := out.flatMap fun v => (digM m).map fun n : Nat => v * b + (n : Int)
def valL (s : List Int) (l : List VMk) : Nat → List Int
  | 0 => [0]
  | j + 1 => stepL (s.getD (s.length - 1 - j) 0) (l.getD (s.length - 1 - j) zMk) (valL s l j)
end Go.W
