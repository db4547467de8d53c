/- Several texts, one behind the other. -/
import Derived.Lib.AppendZeros
import Derived.Test.YtfcmehdmbfhodaaGreatXaa
/- How many digits are marked; counts of values in photos. -/
set_option linter.unusedVariables false
set_option linter.unusedSimpArgs false
namespace Go.W
open Go Go.Sx
/-! how many bits a number has -/
def popK (x k : Nat) : Nat := ((List.range k).filter fun i => x.testBit i).length
theorem popK_succ (x k : Nat) : popK x (k + 1) = popK x k + x / 2 ^ k % 2 := by
  unfold popK
  rw [List.range_succ, List.filter_append, List.length_append]
  congr 1
  rw [List.filter_cons, Nat.testBit_eq_decide_div_mod_eq]
  have h := Nat.mod_lt (x / 2 ^ k) (show 0 < 2 by omega)
  by_cases h1 : x / 2 ^ k % 2 = 1
  · simp [h1]
  · simp [h1]; omega
theorem popK_le (x : Nat) : ∀ k, popK x k ≤ k
  | 0 => Nat.le_refl _
  | k + 1 => by rw [popK_succ]; have := popK_le x k; have := Nat.mod_lt (x / 2 ^ k) (show 0 < 2 by omega); omega
theorem popK_hi {x k : Nat} (h : x / 2 ^ k = 0) : ∀ j, popK x (k + j) = popK x k
  | 0 => rfl
  | j + 1 => by
    rw [← Nat.add_assoc, popK_succ, popK_hi h j]
    have : x / 2 ^ (k + j) = 0 := by rw [Nat.pow_add, ← Nat.div_div_eq_div_mul, h, Nat.zero_div]
    rw [this]; rfl
def popN : Nat → Nat → Nat
  | 0, _ => 0
  | f + 1, x => x % 2 + popN f (x / 2)
theorem popN_K : ∀ f x, popN f x = popK x f
  | 0, _ => rfl
  | f + 1, x => by
    rw [popN, popN_K f (x / 2)]
    unfold popK
    rw [List.range_succ_eq_map, List.filter_cons, List.filter_map, Nat.testBit_zero]
    have e : ((fun i => x.testBit i) ∘ Nat.succ) = fun i => (x / 2).testBit i := funext fun i => Nat.testBit_succ x i
    rw [e]
    have h := Nat.mod_lt x (show 0 < 2 by omega)
    by_cases h1 : x % 2 = 1
    · simp [h1]; omega
    · simp [h1]; omega
theorem popN_byte (f x : Nat) : popN (f + 8) x = popN 8 (x % 256) + popN f (x / 256) := by
  simp only [popN]
  have e : x / 2 / 2 / 2 / 2 / 2 / 2 / 2 / 2 = x / 256 := by omega
  rw [e]; omega
/-! the steps of OnesCount64, a byte at a time -/
def rep (m : Nat) : Nat → Nat
  | 0 => 0
  | n + 1 => m + 256 * rep m n
theorem and_split {a b m M : Nat} (ha : a < 256) (hm : m < 256) : (a + 256 * b) &&& (m + 256 * M) = (a &&& m) + 256 * (b &&& M) := by
  have h1 := Nat.and_mod_two_pow (a := a + 256 * b) (b := m + 256 * M) (n := 8)
  have h2 := Nat.and_div_two_pow (a := a + 256 * b) (b := m + 256 * M) (n := 8)
  rw [show (2 : Nat) ^ 8 = 256 from rfl] at h1 h2
  rw [show (a + 256 * b) % 256 = a by omega, show (m + 256 * M) % 256 = m by omega] at h1
  rw [show (a + 256 * b) / 256 = b by omega, show (m + 256 * M) / 256 = M by omega] at h2
  have h3 := Nat.mod_add_div ((a + 256 * b) &&& (m + 256 * M)) 256
  rw [h1, h2] at h3
  exact h3.symm
def po1 (n x : Nat) : Nat := (x / 2 &&& rep 85 n) + (x &&& rep 85 n)
def po2 (n x : Nat) : Nat := (x / 4 &&& rep 51 n) + (x &&& rep 51 n)
def po3 (n x : Nat) : Nat := (x / 16 + x) &&& rep 15 n
def pt1 (a : Nat) : Nat := (a / 2 &&& 85) + (a &&& 85)
def pt2 (a : Nat) : Nat := (a / 4 &&& 51) + (a &&& 51)
def pt3 (a : Nat) : Nat := (a / 16 + a) &&& 15
theorem m1_ok : ∀ a : Fin 256, ∀ c : Fin 2, (a.val / 2 + 128 * c.val) &&& 85 = a.val / 2 &&& 85 := by decide +kernel
theorem m2_ok : ∀ a : Fin 256, ∀ c : Fin 4, (a.val / 4 + 64 * c.val) &&& 51 = a.val / 4 &&& 51 := by decide +kernel
theorem m3_ok : ∀ a : Fin 256, ∀ c : Fin 16, (a.val / 16 + a.val + 16 * c.val) % 256 &&& 15 = (a.val / 16 + a.val) &&& 15 := by decide +kernel
theorem pt_ok : ∀ a : Fin 256, pt1 a.val < 256 ∧ pt2 a.val < 256 ∧ pt2 a.val % 16 ≤ 6 := by decide +kernel
theorem pt12_ok : ∀ a : Fin 256, pt2 (pt1 a.val) ≤ 68 ∧ pt3 (pt2 (pt1 a.val)) = popN 8 a.val ∧ popN 8 a.val ≤ 8 := by decide +kernel
theorem po1_split {n a b : Nat} (ha : a < 256) : po1 (n + 1) (a + 256 * b) = pt1 a + 256 * po1 n b := by
  unfold po1 pt1
  rw [show (a + 256 * b) / 2 = (a / 2 + 128 * (b % 2)) + 256 * (b / 2) by omega]
  simp only [rep]
  have h := m1_ok ⟨a, ha⟩ ⟨b % 2, by omega⟩
  simp only at h
  rw [and_split (by omega) (by omega), and_split ha (by omega), h]
  omega
theorem po2_split {n a b : Nat} (ha : a < 256) : po2 (n + 1) (a + 256 * b) = pt2 a + 256 * po2 n b := by
  unfold po2 pt2
  rw [show (a + 256 * b) / 4 = (a / 4 + 64 * (b % 4)) + 256 * (b / 4) by omega]
  simp only [rep]
  have h := m2_ok ⟨a, ha⟩ ⟨b % 4, by omega⟩
  simp only at h
  rw [and_split (by omega) (by omega), and_split ha (by omega), h]
  omega
theorem po3_split {n a b : Nat} (ha : a ≤ 68) (hb : b % 16 ≤ 6) : po3 (n + 1) (a + 256 * b) = pt3 a + 256 * po3 n b := by
  unfold po3 pt3
  rw [show (a + 256 * b) / 16 + (a + 256 * b) = (a / 16 + a + 16 * (b % 16)) + 256 * (b / 16 + b) by omega]
  simp only [rep]
  have h := m3_ok ⟨a, by omega⟩ ⟨b % 16, by omega⟩
  simp only at h
  rw [Nat.mod_eq_of_lt (by omega)] at h
  rw [and_split (by omega) (by omega), h]
theorem po_zero (x : Nat) : po1 0 x = 0 ∧ po2 0 x = 0 ∧ po3 0 x = 0 := by simp [po1, po2, po3, rep]
theorem po2_lo : ∀ n x, po2 n x % 16 ≤ 6
  | 0, x => by rw [(po_zero x).2.1]; omega
  | n + 1, x => by
    have e : x = x % 256 + 256 * (x / 256) := by omega
    rw [e, po2_split (by omega)]
    have := (pt_ok ⟨x % 256, by omega⟩).2.2
    simp only at this
    omega
theorem po_step (n x : Nat) : po3 (n + 1) (po2 (n + 1) (po1 (n + 1) x)) = popN 8 (x % 256) + 256 * po3 n (po2 n (po1 n (x / 256))) := by
  have e : x = x % 256 + 256 * (x / 256) := by omega
  have h := pt12_ok ⟨x % 256, by omega⟩
  have h2 := pt_ok ⟨x % 256, by omega⟩
  simp only at h h2
  conv => lhs; rw [e, po1_split (by omega), po2_split h2.1, po3_split h.1 (po2_lo _ _)]
  rw [h.2.1]
theorem sums8 {c0 c1 c2 c3 c4 c5 c6 c7 : Nat} (h0 : c0 ≤ 8) (h1 : c1 ≤ 8) (h2 : c2 ≤ 8) (h3 : c3 ≤ 8) (h4 : c4 ≤ 8) (h5 : c5 ≤ 8) (h6 : c6 ≤ 8) (h7 : c7 ≤ 8) : (let y := c0 + 256 * (c1 + 256 * (c2 + 256 * (c3 + 256 * (c4 + 256 * (c5 + 256 * (c6 + 256 * (c7 + 256 * 0))))))); let y1 := y + y / 2 ^ 8; let y2 := y1 + y1 / 2 ^ 16; let y3 := y2 + y2 / 2 ^ 32; y < 2 ^ 60 ∧ y1 < 2 ^ 61 ∧ y2 < 2 ^ 62 ∧ y3 < 2 ^ 63 ∧ y3 % 128 = c0 + (c1 + (c2 + (c3 + (c4 + (c5 + (c6 + (c7 + 0)))))))) := by
  intro y y1 y2 y3
  have hy : y = c0 + 256 * (c1 + 256 * (c2 + 256 * (c3 + 256 * (c4 + 256 * (c5 + 256 * (c6 + 256 * (c7 + 256 * 0))))))) := rfl
  have q1 : y1 = y + y / 2 ^ 8 := rfl
  have q2 : y2 = y1 + y1 / 2 ^ 16 := rfl
  have q3 : y3 = y2 + y2 / 2 ^ 32 := rfl
  clear_value y y1 y2 y3
  have a1 : y / 2 ^ 8 = c1 + 256 * (c2 + 256 * (c3 + 256 * (c4 + 256 * (c5 + 256 * (c6 + 256 * c7))))) := by omega
  obtain ⟨d0, hd0⟩ : ∃ d, d = c0 + c1 := ⟨_, rfl⟩
  obtain ⟨d1, hd1⟩ : ∃ d, d = c1 + c2 := ⟨_, rfl⟩
  obtain ⟨d2, hd2⟩ : ∃ d, d = c2 + c3 := ⟨_, rfl⟩
  obtain ⟨d3, hd3⟩ : ∃ d, d = c3 + c4 := ⟨_, rfl⟩
  obtain ⟨d4, hd4⟩ : ∃ d, d = c4 + c5 := ⟨_, rfl⟩
  obtain ⟨d5, hd5⟩ : ∃ d, d = c5 + c6 := ⟨_, rfl⟩
  obtain ⟨d6, hd6⟩ : ∃ d, d = c6 + c7 := ⟨_, rfl⟩
  have b1 : y1 = d0 + 256 * (d1 + 256 * (d2 + 256 * (d3 + 256 * (d4 + 256 * (d5 + 256 * (d6 + 256 * c7)))))) := by omega
  have k0 : d0 ≤ 16 ∧ d1 ≤ 16 ∧ d2 ≤ 16 ∧ d3 ≤ 16 ∧ d4 ≤ 16 ∧ d5 ≤ 16 ∧ d6 ≤ 16 := by omega
  have hsum : c0 + (c1 + (c2 + (c3 + (c4 + (c5 + (c6 + (c7 + 0))))))) = d0 + d2 + d4 + d6 := by omega
  rw [hsum]
  have y60 : y < 2 ^ 60 := by omega
  clear hy q1 a1 hd0 hd1 hd2 hd3 hd4 hd5 hd6 hsum
  have a2 : y1 / 2 ^ 16 = d2 + 256 * (d3 + 256 * (d4 + 256 * (d5 + 256 * (d6 + 256 * c7)))) := by omega
  obtain ⟨e0, he0⟩ : ∃ e, e = d0 + d2 := ⟨_, rfl⟩
  obtain ⟨e1, he1⟩ : ∃ e, e = d1 + d3 := ⟨_, rfl⟩
  obtain ⟨e2, he2⟩ : ∃ e, e = d2 + d4 := ⟨_, rfl⟩
  obtain ⟨e3, he3⟩ : ∃ e, e = d3 + d5 := ⟨_, rfl⟩
  obtain ⟨e4, he4⟩ : ∃ e, e = d4 + d6 := ⟨_, rfl⟩
  obtain ⟨e5, he5⟩ : ∃ e, e = d5 + c7 := ⟨_, rfl⟩
  have b2 : y2 = e0 + 256 * (e1 + 256 * (e2 + 256 * (e3 + 256 * (e4 + 256 * (e5 + 256 * (d6 + 256 * c7)))))) := by omega
  have k1 : e0 ≤ 32 ∧ e1 ≤ 32 ∧ e2 ≤ 32 ∧ e3 ≤ 32 ∧ e4 ≤ 32 ∧ e5 ≤ 32 := by omega
  have hsum : d0 + d2 + d4 + d6 = e0 + e4 := by omega
  rw [hsum]
  have y61 : y1 < 2 ^ 61 := by omega
  clear b1 q2 a2 he0 he1 he2 he3 he4 he5 hsum
  have a3 : y2 / 2 ^ 32 = e4 + 256 * (e5 + 256 * (d6 + 256 * c7)) := by omega
  refine ⟨y60, y61, by omega, by omega, by omega⟩
theorem sums_ok (x : Nat) (hx : x < 2 ^ 64) : (let y := po3 8 (po2 8 (po1 8 x)); let y1 := y + y / 2 ^ 8; let y2 := y1 + y1 / 2 ^ 16; let y3 := y2 + y2 / 2 ^ 32; y < 2 ^ 60 ∧ y1 < 2 ^ 61 ∧ y2 < 2 ^ 62 ∧ y3 < 2 ^ 63 ∧ y3 % 128 = popN 64 x) := by
  have hp := popN_byte
  have q : ∀ z : Nat, popN 8 (z % 256) ≤ 8 := fun z => (pt12_ok ⟨z % 256, by omega⟩).2.2
  have h0 := q x
  have h1 := q (x / 256)
  have h2 := q (x / 256 / 256)
  have h3 := q (x / 256 / 256 / 256)
  have h4 := q (x / 256 / 256 / 256 / 256)
  have h5 := q (x / 256 / 256 / 256 / 256 / 256)
  have h6 := q (x / 256 / 256 / 256 / 256 / 256 / 256)
  have h7 := q (x / 256 / 256 / 256 / 256 / 256 / 256 / 256)
  have e0 : popN 64 x = popN 8 (x % 256) + popN 56 (x / 256) := hp 56 x
  have e1 : popN 56 (x / 256) = popN 8 (x / 256 % 256) + popN 48 (x / 256 / 256) := hp 48 _
  have e2 : popN 48 (x / 256 / 256) = popN 8 (x / 256 / 256 % 256) + popN 40 (x / 256 / 256 / 256) := hp 40 _
  have e3 : popN 40 (x / 256 / 256 / 256) = popN 8 (x / 256 / 256 / 256 % 256) + popN 32 (x / 256 / 256 / 256 / 256) := hp 32 _
  have e4 : popN 32 (x / 256 / 256 / 256 / 256) = popN 8 (x / 256 / 256 / 256 / 256 % 256) + popN 24 (x / 256 / 256 / 256 / 256 / 256) := hp 24 _
  have e5 : popN 24 (x / 256 / 256 / 256 / 256 / 256) = popN 8 (x / 256 / 256 / 256 / 256 / 256 % 256) + popN 16 (x / 256 / 256 / 256 / 256 / 256 / 256) := hp 16 _
  have e6 : popN 16 (x / 256 / 256 / 256 / 256 / 256 / 256) = popN 8 (x / 256 / 256 / 256 / 256 / 256 / 256 % 256) + popN 8 (x / 256 / 256 / 256 / 256 / 256 / 256 / 256) := hp 8 _
  have e7 : popN 8 (x / 256 / 256 / 256 / 256 / 256 / 256 / 256) = popN 8 (x / 256 / 256 / 256 / 256 / 256 / 256 / 256 % 256) + popN 0 (x / 256 / 256 / 256 / 256 / 256 / 256 / 256 / 256) := hp 0 _
  rw [e0, e1, e2, e3, e4, e5, e6, e7, show popN 0 (x / 256 / 256 / 256 / 256 / 256 / 256 / 256 / 256) = 0 from rfl]
  simp only [po_step, (po_zero _).2.2]
  generalize popN 8 (x % 256) = c0 at *
  generalize popN 8 (x / 256 % 256) = c1 at *
  generalize popN 8 (x / 256 / 256 % 256) = c2 at *
  generalize popN 8 (x / 256 / 256 / 256 % 256) = c3 at *
  generalize popN 8 (x / 256 / 256 / 256 / 256 % 256) = c4 at *
  generalize popN 8 (x / 256 / 256 / 256 / 256 / 256 % 256) = c5 at *
  generalize popN 8 (x / 256 / 256 / 256 / 256 / 256 / 256 % 256) = c6 at *
  generalize popN 8 (x / 256 / 256 / 256 / 256 / 256 / 256 / 256 % 256) = c7 at *
  exact sums8 h0 h1 h2 h3 h4 h5 h6 h7
def popI (x : Int) : Int := (popK x.toNat 64 : Int)
theorem popI_bd (x : Int) : 0 ≤ popI x ∧ popI x ≤ 64 := by unfold popI; have := popK_le x.toNat 64; omega
theorem and_nat {a b : Nat} (ha : a < 2 ^ 64) (hb : b < 2 ^ 64) : bits .and .u64 (a : Int) (b : Int) = ((a &&& b : Nat) : Int) := (bits_nat .u64 64 (Nat.le_refl _) wrap_u64n a b ha hb).1
theorem sh_nat (a k : Nat) (q : Int) (hq : q = (k : Int)) (hk : k ≤ 64) : (a : Int) / 2 ^ min q.toNat IntKind.u64.bits = ((a / 2 ^ k : Nat) : Int) := by
  subst hq
  rw [Int.toNat_natCast, show min k IntKind.u64.bits = k from Nat.min_eq_left hk]
  push_cast; rfl
theorem wrap_nat {a : Nat} (ha : a < 2 ^ 64) : IntKind.u64.wrap (a : Int) = a := wrap_u64n _ (Int.natCast_nonneg _) (by exact_mod_cast ha)
theorem ones64 {x : Int} (hx : 0 ≤ x ∧ x < 18446744073709551616) : (
    let a := IntKind.u64.wrap (bits .and .u64 (x / 2 ^ min (1 : Int).toNat IntKind.u64.bits) 6148914691236517205 + bits .and .u64 x 6148914691236517205)
    let b := IntKind.u64.wrap (bits .and .u64 (a / 2 ^ min (2 : Int).toNat IntKind.u64.bits) 3689348814741910323 + bits .and .u64 a 3689348814741910323)
    let c := bits .and .u64 (IntKind.u64.wrap (b / 2 ^ min (4 : Int).toNat IntKind.u64.bits + b)) 1085102592571150095
    let d := IntKind.u64.wrap (c + c / 2 ^ min (8 : Int).toNat IntKind.u64.bits)
    let e := IntKind.u64.wrap (d + d / 2 ^ min (16 : Int).toNat IntKind.u64.bits)
    let f := IntKind.u64.wrap (e + e / 2 ^ min (32 : Int).toNat IntKind.u64.bits)
    0 ≤ f ∧ f ≤ 9223372036854775807 ∧ f % 128 = popI x) := by
  obtain ⟨n, rfl⟩ := Int.eq_ofNat_of_zero_le hx.1
  have hn : n < 2 ^ 64 := by have := hx.2; omega
  have hand : ∀ p q : Nat, p &&& q ≤ q := fun p q => Nat.and_le_right
  have hs := sums_ok n hn
  have k1 : (6148914691236517205 : Int) = ((rep 85 8 : Nat) : Int) := rfl
  have k2 : (3689348814741910323 : Int) = ((rep 51 8 : Nat) : Int) := rfl
  have k3 : (1085102592571150095 : Int) = ((rep 15 8 : Nat) : Int) := rfl
  have b1 : rep 85 8 = 6148914691236517205 := rfl
  have b2 : rep 51 8 = 3689348814741910323 := rfl
  have b3 : rep 15 8 = 1085102592571150095 := rfl
  have ha : po1 8 n < 2 ^ 64 := by
    unfold po1; have := hand (n / 2) (rep 85 8); have := hand n (rep 85 8); omega
  have hb : po2 8 (po1 8 n) < 2 ^ 63 := by
    unfold po2; have := hand (po1 8 n / 4) (rep 51 8); have := hand (po1 8 n) (rep 51 8); omega
  have e1 : IntKind.u64.wrap (bits .and .u64 ((n : Int) / 2 ^ min (1 : Int).toNat IntKind.u64.bits) 6148914691236517205 + bits .and .u64 n 6148914691236517205) = ((po1 8 n : Nat) : Int) := by
    rw [k1, sh_nat n 1 1 rfl (by omega), and_nat (by omega) (by omega), and_nat hn (by omega), ← Int.natCast_add, ← wrap_nat ha]; rfl
  have e2 : IntKind.u64.wrap (bits .and .u64 (((po1 8 n : Nat) : Int) / 2 ^ min (2 : Int).toNat IntKind.u64.bits) 3689348814741910323 + bits .and .u64 ((po1 8 n : Nat) : Int) 3689348814741910323) = ((po2 8 (po1 8 n) : Nat) : Int) := by
    rw [k2, sh_nat _ 2 2 rfl (by omega), and_nat (by omega) (by omega), and_nat ha (by omega), ← Int.natCast_add, ← wrap_nat (a := po2 8 (po1 8 n)) (by omega)]; rfl
  have e3 : bits .and .u64 (IntKind.u64.wrap (((po2 8 (po1 8 n) : Nat) : Int) / 2 ^ min (4 : Int).toNat IntKind.u64.bits + ((po2 8 (po1 8 n) : Nat) : Int))) 1085102592571150095 = ((po3 8 (po2 8 (po1 8 n)) : Nat) : Int) := by
    rw [k3, sh_nat _ 4 4 rfl (by omega), ← Int.natCast_add, wrap_nat (by omega), and_nat (by omega) (by omega)]; rfl
  simp only [] at hs
  obtain ⟨q0, q1, q2, q3, q4⟩ := hs
  simp only [e1, e2, e3]
  generalize po3 8 (po2 8 (po1 8 n)) = y at *
  rw [sh_nat _ 8 8 rfl (by omega), ← Int.natCast_add, wrap_nat (by omega)]
  rw [sh_nat _ 16 16 rfl (by omega), ← Int.natCast_add, wrap_nat (by omega)]
  rw [sh_nat _ 32 32 rfl (by omega), ← Int.natCast_add, wrap_nat (by omega)]
  unfold popI
  rw [Int.toNat_natCast, ← popN_K, ← q4]
  refine ⟨by omega, by omega, by omega⟩
/-! digits that are marked -/
def digM (m : VMk) : List Nat := (List.range 128).filter (hasM m)
def cntM (m : VMk) : Int := popI m.lo + popI m.hi
theorem cntM_bd (m : VMk) : 0 ≤ cntM m ∧ cntM m ≤ 128 := by unfold cntM; have := popI_bd m.lo; have := popI_bd m.hi; omega
theorem cnt_dig (m : VMk) : ((digM m).length : Int) = cntM m := by
  unfold digM cntM popI
  rw [show (128 : Nat) = 64 + 64 from rfl, List.range_add, List.filter_append, List.length_append, List.filter_map, List.length_map]
  have e1 : (List.range 64).filter (hasM m) = (List.range 64).filter fun i => m.lo.toNat.testBit i := List.filter_congr fun i hi => hasM_lo (by simpa using hi)
  have e2 : (List.range 64).filter (hasM m ∘ fun x => 64 + x) = (List.range 64).filter fun i => m.hi.toNat.testBit i := List.filter_congr fun i hi => hasM_hi (by simpa using hi)
  rw [e1, e2]
  unfold popK
  push_cast; rfl
theorem filter_le {p : Nat → Bool} {b : Nat} : ∀ n, (∀ d, d < n → p d = true → d < b) → ((List.range n).filter p).length ≤ b ∧ ((List.range n).filter p).length ≤ n
  | 0, _ => by simp
  | n + 1, h => by
    have ih := filter_le n fun d hd => h d (by omega)
    rw [List.range_succ, List.filter_append, List.length_append]
    by_cases hp : p n = true
    · have := h n (by omega) hp
      simp [hp]; omega
    · simp [hp]; omega
theorem cnt_le {s : List Int} {l : List VMk} (h : PhOk s l) (hb : Bases s) {i : Nat} (hi : i < s.length) : 1 ≤ cntM (l.getD i zMk) ∧ cntM (l.getD i zMk) ≤ s.getD i 0 := by
  have hbi := hb i hi
  rw [← cnt_dig]
  constructor
  · obtain ⟨d, hd, hh⟩ := h.some_ i hi
    have : d ∈ digM (l.getD i zMk) := List.mem_filter.2 ⟨by simpa using hd, hh⟩
    have := List.length_pos_of_mem this
    omega
  · have := (filter_le (p := hasM (l.getD i zMk)) (b := (s.getD i 0).toNat) 128 fun d hd hh => by have := h.lt i hi d hd hh; omega).1
    unfold digM; omega
/-! choices -/
def choV (l : List VMk) : Nat → Int
  | 0 => 1
  | i + 1 => choV l i * cntM (l.getD i zMk)
theorem cho_bd {s : List Int} {l : List VMk} (h : PhOk s l) (hs : Stk s) : ∀ i, i ≤ s.length → 1 ≤ choV l i ∧ choV l i ≤ prod (s.take i)
  | 0, _ => by simp [choV, prod]
  | i + 1, hi => by
    have ih := cho_bd h hs i (by omega)
    have hc := cnt_le h hs.bases (i := i) (by omega)
    have h1 : 1 * 1 ≤ choV l i * cntM (l.getD i zMk) := Int.mul_le_mul ih.1 hc.1 (by omega) (by omega)
    have h2 : choV l i * cntM (l.getD i zMk) ≤ prod (s.take i) * s.getD i 0 := Int.mul_le_mul ih.2 hc.2 (by omega) (by omega)
    rw [choV, prod_take (by omega)]
    omega
theorem cho_le {s : List Int} {l : List VMk} (h : PhOk s l) (hs : Stk s) {i : Nat} (hi : i ≤ s.length) : 1 ≤ choV l i ∧ choV l i ≤ 1000000000000 := by
  have h1 := cho_bd h hs i hi
  have h2 := prod_take_le hs.bases i
  have := hs.le
  omega
/-! all values in a photo -/
end Go.W

/- Values in photos, films, ways: in plain numbers. -/
set_option linter.unusedVariables false
set_option linter.unusedSimpArgs false
namespace Go.W
open Go Go.Sx
/-! ### A list of lists of anything -/
structure VX (α : Type) where
  A : Option Addr
  c : Nat
  xs : List α
variable {α : Type}
def encX (r : VX α) : List Value := [.slice r.A r.xs.length r.c]
theorem encX_len : ∀ r : VX α, (encX r).length = 1 := fun _ => rfl
def zX : VX α := ⟨none, 0, []⟩
def rwX (f : α → List Value) (T : TypeId) (sz : Nat) (r : VX α) : Rw := ⟨.slice r.A r.xs.length r.c, T, sz, r.xs.length, r.xs.flatMap f⟩
theorem readsX {C : Cx} {m : List Ent} {i : Nat} {f : α → List Value} {T : TypeId} {sz : Nat} {K : List (VX α)} (hi : m[i]? = some (.pile (K.map (rwX f T sz)))) {k : Nat} (hk : k < K.length) : Reads C m (K.getD k zX).A ((K.getD k zX).xs.flatMap f) :=
  Reads.pile hi (E := T) (sz := sz) (List.mem_map.2 ⟨_, getD_mem zX hk, rfl⟩)
end Go.W
namespace Go.W
open Go Go.Sx
/-! ### Values in a photo -/
def digI (m : VMk) : List Int := (digM m).map fun n : Nat => (n : Int)
def digP (m : VMk) (k : Nat) : List Int := ((List.range k).filter (hasM m)).map fun n : Nat => (n : Int)
theorem digP_y {m : VMk} {k : Nat} (h : hasM m k = true) : digP m (k + 1) = digP m k ++ [(k : Int)] := by
  unfold digP; rw [List.range_succ, List.filter_append, List.map_append]; simp [h]
theorem digP_n {m : VMk} {k : Nat} (h : hasM m k = false) : digP m (k + 1) = digP m k := by
  unfold digP; rw [List.range_succ, List.filter_append, List.map_append]; simp [h]
theorem digP_len (m : VMk) (k : Nat) : (digP m k).length ≤ k := by
  unfold digP; rw [List.length_map]; exact (filter_le k fun d hd _ => hd).1
theorem digI_len (m : VMk) : ((digI m).length : Int) = cntM m := by unfold digI; rw [List.length_map, cnt_dig]
theorem digI_len' (m : VMk) : (digI m).length ≤ 128 := digP_len m 128
theorem digI_has {m : VMk} {x : Int} (h : x ∈ digI m) : 0 ≤ x ∧ x < 128 ∧ hasM m x.toNat = true := by
  unfold digI at h
  obtain ⟨n, hn, rfl⟩ := List.mem_map.1 h
  have := List.mem_filter.1 hn
  refine ⟨Int.natCast_nonneg _, ?_, by simpa using this.2⟩
  have := this.1; simp at this; omega
/-- What one value makes of the digits of one more wheel. -/
def oneL (b : Int) (ds : List Int) (v : Int) : List Int := ds.map fun n => v * b + n
def stepV (b : Int) (ds out : List Int) : List Int := out.flatMap (oneL b ds)
def valW (s : List Int) (l : List VMk) : Nat → List Int
  | 0 => [0]
  | j + 1 => stepV (s.getD (s.length - 1 - j) 0) (digI (l.getD (s.length - 1 - j) zMk)) (valW s l j)
def valsP (s : List Int) (p : VPh) : List Int := valW s p.l s.length
theorem one_len (b : Int) (ds : List Int) (v : Int) : (oneL b ds v).length = ds.length := by simp [oneL]
theorem stp_len (b : Int) (ds : List Int) : ∀ out : List Int, (stepV b ds out).length = out.length * ds.length
  | [] => by simp [stepV]
  | v :: out => by
    have := stp_len b ds out
    unfold stepV at this ⊢
    rw [List.flatMap_cons, List.length_append, this, one_len, List.length_cons, Nat.succ_mul, Nat.add_comm]
def partV (b : Int) (ds out : List Int) (q r : Nat) : List Int := stepV b ds (out.take q) ++ oneL b (ds.take r) (out.getD q 0)
theorem ptv_snoc {b : Int} {ds out : List Int} {q r : Nat} (hr : r < ds.length) : partV b ds out q (r + 1) = partV b ds out q r ++ [out.getD q 0 * b + ds.getD r 0] := by
  unfold partV oneL
  rw [List.take_succ_eq_append_getElem hr, List.map_append, List.append_assoc]
  simp [List.getD, hr]
theorem ptv_next {b : Int} {ds out : List Int} {q r : Nat} (hq : q < out.length) (hr : r = ds.length) : partV b ds out q r = partV b ds out (q + 1) 0 := by
  subst hr
  unfold partV stepV
  rw [List.take_length, List.take_succ_eq_append_getElem hq, List.flatMap_append]
  simp [oneL, List.getD, hq]
theorem ptv_all {b : Int} {ds out : List Int} : partV b ds out out.length 0 = stepV b ds out := by unfold partV; simp [oneL]
theorem ptv_len (b : Int) (ds out : List Int) (q r : Nat) (hq : q < out.length) (hr : r ≤ ds.length) : (partV b ds out q r).length ≤ out.length * ds.length := by
  unfold partV
  rw [List.length_append, stp_len, one_len, List.length_take, List.length_take, Nat.min_eq_left (by omega), Nat.min_eq_left hr]
  have : (q + 1) * ds.length ≤ out.length * ds.length := Nat.mul_le_mul_right _ (by omega)
  rw [Nat.succ_mul] at this; omega
theorem valW_len {s : List Int} {l : List VMk} : ∀ j, j ≤ s.length → ((valW s l j).length : Int) * choV l (s.length - j) = choV l s.length
  | 0, _ => by simp [valW]
  | j + 1, h => by
    have ih := valW_len (s := s) (l := l) j (by omega)
    rw [valW, stp_len, Int.natCast_mul, digI_len]
    rw [show s.length - j = (s.length - 1 - j) + 1 by omega, choV] at ih
    rw [show s.length - (j + 1) = s.length - 1 - j by omega, Int.mul_assoc, Int.mul_comm (cntM _), ih]
theorem valsP_len (s : List Int) (p : VPh) : ((valsP s p).length : Int) = choV p.l s.length := by
  have := valW_len (s := s) (l := p.l) s.length (Nat.le_refl _)
  rw [Nat.sub_self, choV, Int.mul_one] at this
  exact this
theorem valW_le {s : List Int} {l : List VMk} (h : PhOk s l) (hs : Stk s) {j : Nat} (hj : j ≤ s.length) : 1 ≤ ((valW s l j).length : Int) ∧ ((valW s l j).length : Int) ≤ choV l s.length := by
  have h1 := valW_len (s := s) (l := l) j hj
  have h2 := cho_le h hs (i := s.length - j) (by omega)
  have h3 := cho_le h hs (i := s.length) (by omega)
  rcases Nat.eq_zero_or_pos (valW s l j).length with h0 | h0
  · rw [h0] at h1; simp at h1; omega
  · refine ⟨by omega, ?_⟩
    have : ((valW s l j).length : Int) * 1 ≤ ((valW s l j).length : Int) * choV l (s.length - j) := Int.mul_le_mul_of_nonneg_left h2.1 (by omega)
    omega
theorem valW_bd {s : List Int} {l : List VMk} (h : PhOk s l) (hs : Stk s) : ∀ j, j ≤ s.length → ∀ v ∈ valW s l j, 0 ≤ v ∧ v < prod (s.drop (s.length - j))
  | 0, _, v, hv => by simp [valW] at hv; subst hv; simp [prod]
  | j + 1, hj, v, hv => by
    have ih := valW_bd h hs j (by omega)
    rw [valW] at hv
    obtain ⟨u, hu, hv⟩ := List.mem_flatMap.1 hv
    obtain ⟨n, hn, rfl⟩ := List.mem_map.1 hv
    have hn := digI_has hn
    have h1 := ih u hu
    have hi : s.length - 1 - j < s.length := by omega
    have h2 := h.lt _ hi n.toNat (by omega) hn.2.2
    have hb := hs.bases _ hi
    rw [show s.length - (j + 1) = s.length - 1 - j by omega, prod_drop hi]
    rw [show s.length - j = s.length - 1 - j + 1 by omega] at h1
    generalize s.getD (s.length - 1 - j) 0 = b at *
    generalize prod (s.drop (s.length - 1 - j + 1)) = P at *
    have h3 : 0 ≤ u * b := Int.mul_nonneg h1.1 (by omega)
    have h4 : (u + 1) * b ≤ P * b := Int.mul_le_mul_of_nonneg_right (by omega) (by omega)
    rw [Int.add_mul, Int.mul_comm P b] at h4
    omega
theorem valW_at {s : List Int} {l : List VMk} (h : PhOk s l) (hs : Stk s) {j : Nat} (hj : j ≤ s.length) (q : Nat) : 0 ≤ (valW s l j).getD q 0 ∧ (valW s l j).getD q 0 < 1000000000000 := by
  rcases Nat.lt_or_ge q (valW s l j).length with hq | hq
  · have h1 := valW_bd h hs j hj _ (getD_mem 0 hq)
    have h2 := prod_drop_le hs.bases (s.length - j)
    have := hs.le
    omega
  · simp [List.getD, hq]
theorem valW_mul {s : List Int} {l : List VMk} (h : PhOk s l) (hs : Stk s) {j : Nat} (hj : j + 1 ≤ s.length) (q : Nat) : 0 ≤ (valW s l j).getD q 0 * s.getD (s.length - 1 - j) 0 ∧ (valW s l j).getD q 0 * s.getD (s.length - 1 - j) 0 ≤ 100000000000000 := by
  have h1 := valW_at h hs (j := j) (by omega) q
  have hb := hs.bases (s.length - 1 - j) (by omega)
  refine ⟨Int.mul_nonneg h1.1 (by omega), ?_⟩
  have : (valW s l j).getD q 0 * s.getD (s.length - 1 - j) 0 ≤ 1000000000000 * 100 := Int.mul_le_mul (by omega) hb.2 (by omega) (by omega)
  omega
end Go.W

/- Films: photos in a row, and the ways through them; in plain numbers. -/
set_option linter.unusedVariables false
set_option linter.unusedSimpArgs false
namespace Go.W
open Go Go.Sx
def filmL (s : List Int) (L : List VPh) : List (List Int) := L.map (valsP s)
def filmF (s : List Int) (L : List VPh) (k : Nat) : List Int := (filmL s L).getD k []
def badP (s : List Int) (L : List VPh) : Bool := L.any fun p => !photoOk s p.l
def manyP (s : List Int) (L : List VPh) : Bool := L.any fun p => decide (400 < choV p.l s.length)
def codeF (s : List Int) (L : List VPh) (lo hi us : Int) : Int :=
  if (validStack s && !badP s L) = false then 1
  else if ¬ ((1 ≤ L.length ∧ L.length ≤ 20) ∧ 0 ≤ lo ∧ lo ≤ hi ∧ hi ≤ 1000000000000 ∧ lo ≤ us ∧ us ≤ hi) then 2
  else if manyP s L = true then 3 else 0
theorem cf_1 {s : List Int} {L : List VPh} {lo hi us : Int} (h : (validStack s && !badP s L) = false) : codeF s L lo hi us = 1 := by unfold codeF; rw [if_pos h]
theorem cf_2 {s : List Int} {L : List VPh} {lo hi us : Int} (h : (validStack s && !badP s L) = true) (h2 : ¬ ((1 ≤ L.length ∧ L.length ≤ 20) ∧ 0 ≤ lo ∧ lo ≤ hi ∧ hi ≤ 1000000000000 ∧ lo ≤ us ∧ us ≤ hi)) : codeF s L lo hi us = 2 := by
  unfold codeF; rw [if_neg (by rw [h]; decide), if_pos h2]
theorem cf_3 {s : List Int} {L : List VPh} {lo hi us : Int} (h : (validStack s && !badP s L) = true) (h2 : (1 ≤ L.length ∧ L.length ≤ 20) ∧ 0 ≤ lo ∧ lo ≤ hi ∧ hi ≤ 1000000000000 ∧ lo ≤ us ∧ us ≤ hi) (h3 : manyP s L = true) : codeF s L lo hi us = 3 := by
  unfold codeF; rw [if_neg (by rw [h]; decide), if_neg (fun h9 => h9 h2), if_pos h3]
theorem cf_0 {s : List Int} {L : List VPh} {lo hi us : Int} (h : (validStack s && !badP s L) = true) (h2 : (1 ≤ L.length ∧ L.length ≤ 20) ∧ 0 ≤ lo ∧ lo ≤ hi ∧ hi ≤ 1000000000000 ∧ lo ≤ us ∧ us ≤ hi) (h3 : manyP s L = false) : codeF s L lo hi us = 0 := by
  unfold codeF; rw [if_neg (by rw [h]; decide), if_neg (fun h9 => h9 h2), if_neg (by rw [h3]; decide)]
theorem any_no {α : Type} {L : List α} {p : α → Bool} {d : α} {k : Nat} (hk : ¬ k < L.length) (h : ∀ i, i < k → p (L.getD i d) = false) : L.any p = false := by
  rw [List.any_eq_false]
  intro x hx
  obtain ⟨i, hi, rfl⟩ := List.getElem_of_mem hx
  have := h i (by omega)
  simpa [List.getD, hi] using this
theorem any_yes {α : Type} {L : List α} {p : α → Bool} {d : α} {k : Nat} (hk : k < L.length) (h : p (L.getD k d) = true) : L.any p = true := by
  rw [List.any_eq_true]; exact ⟨_, getD_mem d hk, h⟩
theorem any_at {α : Type} {L : List α} {p : α → Bool} {d : α} {k : Nat} (h : L.any p = false) (hk : k < L.length) : p (L.getD k d) = false := by
  rw [List.any_eq_false] at h
  have := h _ (getD_mem d hk)
  simpa using this
/-- What holds of a film whose code is 0. -/
structure Film (s : List Int) (L : List VPh) (lo hi us : Int) : Prop where
  vs : validStack s = true
  st : Stk s
  ok : ∀ k, k < L.length → PhOk s (L.getD k zPh).l
  len : 1 ≤ L.length ∧ L.length ≤ 20
  l0 : 0 ≤ lo
  le : lo ≤ hi
  h1 : hi ≤ 1000000000000
  us0 : lo ≤ us ∧ us ≤ hi
  cho : ∀ k, k < L.length → 1 ≤ choV (L.getD k zPh).l s.length ∧ choV (L.getD k zPh).l s.length ≤ 400
theorem okPs {s : List Int} {L : List VPh} (hL : ∀ p ∈ L, OkPh p) (h : (validStack s && !badP s L) = true) {k : Nat} (hk : k < L.length) : PhOk s (L.getD k zPh).l := by
  rw [Bool.and_eq_true, Bool.not_eq_true'] at h
  have := any_at (d := zPh) h.2 hk
  rw [Bool.not_eq_false'] at this
  exact phOk (stk h.1) (hL _ (getD_mem zPh hk)) this
theorem film {s : List Int} {L : List VPh} {lo hi us : Int} (hL : ∀ p ∈ L, OkPh p) (h : codeF s L lo hi us = 0) : Film s L lo hi us := by
  cases h1 : (validStack s && !badP s L) with
  | false => rw [cf_1 h1] at h; cases h
  | true =>
    by_cases h2 : (1 ≤ L.length ∧ L.length ≤ 20) ∧ 0 ≤ lo ∧ lo ≤ hi ∧ hi ≤ 1000000000000 ∧ lo ≤ us ∧ us ≤ hi
    · cases h3 : manyP s L with
      | true => rw [cf_3 h1 h2 h3] at h; cases h
      | false =>
        have hv : validStack s = true := by rw [Bool.and_eq_true] at h1; exact h1.1
        have hS := stk hv
        have hP := fun k hk => okPs hL h1 (k := k) hk
        refine ⟨hv, hS, hP, h2.1, h2.2.1, h2.2.2.1, h2.2.2.2.1, h2.2.2.2.2, fun k hk => ⟨(cho_le (hP k hk) hS (Nat.le_refl _)).1, ?_⟩⟩
        have := any_at (d := zPh) h3 hk
        rw [decide_eq_false_iff_not] at this
        omega
    · rw [cf_2 h1 h2] at h; cases h
/-! values of a film -/
theorem film_at {s : List Int} {L : List VPh} {k : Nat} (hk : k < L.length) : filmF s L k = valsP s (L.getD k zPh) := by
  simp [filmF, filmL, List.getD, hk]
theorem Film.vlen {s : List Int} {L : List VPh} {lo hi us : Int} (h : Film s L lo hi us) {k : Nat} (hk : k < L.length) : 1 ≤ (filmF s L k).length ∧ (filmF s L k).length ≤ 400 := by
  rw [film_at hk]
  have h1 := valsP_len s (L.getD k zPh)
  have h2 := h.cho k hk
  omega
theorem Film.v {s : List Int} {L : List VPh} {lo hi us : Int} (h : Film s L lo hi us) {k : Nat} (hk : k < L.length) (q : Nat) : 0 ≤ (filmF s L k).getD q 0 ∧ (filmF s L k).getD q 0 < 1000000000000 := by
  rw [film_at hk]; exact valW_at (h.ok k hk) h.st (Nat.le_refl _) q
def goesB (lo hi a b : Int) : Bool := decide (lo ≤ b - a ∧ b - a ≤ hi)
/-! how many ways -/
def sumT (l : List Int) : Nat → Int
  | 0 => 0
  | k + 1 => sumT l k + l.getD k 0
def wSum (lo hi : Int) (pv b : List Int) (v : Int) : Nat → Int
  | 0 => 0
  | j + 1 => wSum lo hi pv b v j + if goesB lo hi (pv.getD j 0) v = true then b.getD j 0 else 0
def wayL (lo hi : Int) (F : Nat → List Int) : Nat → List Int
  | 0 => (F 0).map fun _ => 1
  | k + 1 => (F (k + 1)).map fun v => wSum lo hi (F k) (wayL lo hi F k) v (F k).length
def wTot (lo hi : Int) (F : Nat → List Int) (k : Nat) : Int := sumT (wayL lo hi F k) (F k).length
def wOver (lo hi : Int) (F : Nat → List Int) (k : Nat) : Bool := decide (1000000000000000 < wTot lo hi F k)
def waysV (s : List Int) (L : List VPh) (lo hi : Int) : Int × Int :=
  if codeF s L lo hi lo ≠ 0 then (0, codeF s L lo hi lo)
  else if (List.range L.length).any (wOver lo hi (filmF s L)) = true then (0, 3) else (wTot lo hi (filmF s L) (L.length - 1), 0)
theorem way_len (lo hi : Int) (F : Nat → List Int) : ∀ k, (wayL lo hi F k).length = (F k).length
  | 0 => by simp [wayL]
  | k + 1 => by simp [wayL]
theorem way_0 {lo hi : Int} {F : Nat → List Int} {i : Nat} (h : i < (F 0).length) : (wayL lo hi F 0).getD i 0 = 1 := by
  rw [wayL]; generalize F 0 = l at h; simp [List.getD, h]
theorem way_s {lo hi : Int} {F : Nat → List Int} {k i : Nat} (h : i < (F (k + 1)).length) : (wayL lo hi F (k + 1)).getD i 0 = wSum lo hi (F k) (wayL lo hi F k) ((F (k + 1)).getD i 0) (F k).length := by
  rw [wayL]; generalize F (k + 1) = l at h; simp [List.getD, h]
theorem sumT_0 {l : List Int} (h : ∀ i, 0 ≤ l.getD i 0) : ∀ k, 0 ≤ sumT l k
  | 0 => by simp [sumT]
  | k + 1 => by rw [sumT]; have := sumT_0 h k; have := h k; omega
theorem sumT_mono {l : List Int} (h : ∀ i, 0 ≤ l.getD i 0) {i j : Nat} (hij : i ≤ j) : sumT l i ≤ sumT l j := by
  induction hij with
  | refl => omega
  | step _ ih => rw [sumT]; have := h; rename_i m _; have := h m; omega
theorem wSum_bd {lo hi v : Int} {pv b : List Int} (h : ∀ i, 0 ≤ b.getD i 0) : ∀ k, 0 ≤ wSum lo hi pv b v k ∧ wSum lo hi pv b v k ≤ sumT b k
  | 0 => by simp [wSum, sumT]
  | k + 1 => by
    have h1 := wSum_bd (lo := lo) (hi := hi) (v := v) (pv := pv) h k
    have h2 := h k
    rw [wSum, sumT]; split <;> omega
theorem way_nn (lo hi : Int) (F : Nat → List Int) : ∀ k i, 0 ≤ (wayL lo hi F k).getD i 0
  | 0, i => by
    rcases Nat.lt_or_ge i (F 0).length with h | h
    · rw [way_0 h]; omega
    · rw [List.getD, List.getElem?_eq_none (by rw [way_len]; exact h)]; simp
  | k + 1, i => by
    rcases Nat.lt_or_ge i (F (k + 1)).length with h | h
    · rw [way_s h]; exact (wSum_bd (way_nn lo hi F k) _).1
    · rw [List.getD, List.getElem?_eq_none (by rw [way_len]; exact h)]; simp
theorem way_le {lo hi : Int} {F : Nat → List Int} {k : Nat} (h : ∀ i, i < k → wOver lo hi F i = false) (i : Nat) : (wayL lo hi F k).getD i 0 ≤ 1000000000000000 := by
  rcases Nat.lt_or_ge i (F k).length with hi2 | hi2
  · match k with
    | 0 => rw [way_0 hi2]; omega
    | k + 1 =>
      rw [way_s hi2]
      have h1 := (wSum_bd (lo := lo) (hi := hi) (v := (F (k + 1)).getD i 0) (pv := F k) (way_nn lo hi F k) (F k).length).2
      have h2 := h k (by omega)
      unfold wOver wTot at h2
      rw [decide_eq_false_iff_not] at h2
      omega
  · rw [List.getD, List.getElem?_eq_none (by rw [way_len]; exact hi2)]; simp
theorem sumT_le {l : List Int} {B : Int} (h : ∀ i, l.getD i 0 ≤ B) : ∀ k : Nat, sumT l k ≤ B * k
  | 0 => by simp [sumT]
  | k + 1 => by rw [sumT]; have := sumT_le h k; have := h k; push_cast; rw [Int.mul_add]; omega
theorem wv_c {s : List Int} {L : List VPh} {lo hi : Int} (h : codeF s L lo hi lo ≠ 0) : waysV s L lo hi = (0, codeF s L lo hi lo) := by unfold waysV; rw [if_pos h]
theorem wv_3 {s : List Int} {L : List VPh} {lo hi : Int} {k i : Nat} (h : codeF s L lo hi lo = 0) (hk : k < L.length) (hi2 : i ≤ (filmF s L k).length) (ho : 1000000000000000 < sumT (wayL lo hi (filmF s L) k) i) : waysV s L lo hi = (0, 3) := by
  have h2 : wOver lo hi (filmF s L) k = true := by
    unfold wOver wTot
    rw [decide_eq_true_iff]
    have := sumT_mono (way_nn lo hi (filmF s L) k) hi2
    omega
  unfold waysV
  rw [if_neg (fun h9 => h9 h), if_pos (List.any_eq_true.2 ⟨k, by simpa using hk, h2⟩)]
theorem wv_0 {s : List Int} {L : List VPh} {lo hi : Int} (h : codeF s L lo hi lo = 0) (hall : ∀ i, i < L.length → wOver lo hi (filmF s L) i = false) : waysV s L lo hi = (wTot lo hi (filmF s L) (L.length - 1), 0) := by
  unfold waysV
  rw [if_neg (fun h9 => h9 h), if_neg (by rw [Bool.not_eq_true, List.any_eq_false]; intro x hx; rw [hall x (by simpa using hx)]; decide)]
/-! a way that is given -/
/-! what can be reached -/
end Go.W

/- Films: least sums to the end, what is sure, the likeliest way; in plain numbers. -/
set_option linter.unusedVariables false
set_option linter.unusedSimpArgs false
namespace Go.W
open Go Go.Sx
def absW (n : Int) : Int := if n < 0 then -n else n
/-- The least sum that goes on from a value, among the first values of the next photo; -1 if none does. -/
def minC (lo hi us v : Int) (nv nc : List Int) : Nat → Int
  | 0 => -1
  | j + 1 => if nc.getD j 0 < 0 ∨ goesB lo hi v (nv.getD j 0) = false then minC lo hi us v nv nc j
    else if minC lo hi us v nv nc j < 0 ∨ nc.getD j 0 + absW (nv.getD j 0 - v - us) < minC lo hi us v nv nc j then nc.getD j 0 + absW (nv.getD j 0 - v - us) else minC lo hi us v nv nc j
/-! what is sure -/
/-- Marks for the digits of values that are sure. -/
def putD (d : List Int) (l : List VMk) (w : Nat) : List VMk := l.set w (putM (l.getD w zMk) (d.getD w 0).toNat)
def putW (s : List Int) (d : List Int) (l : List VMk) : Nat → List VMk
  | 0 => l
  | w + 1 => putD d (putW s d l w) w
theorem putW_len (s d : List Int) (l : List VMk) : ∀ w, (putW s d l w).length = l.length
  | 0 => rfl
  | w + 1 => by rw [putW, putD, List.length_set, putW_len s d l w]
/-! the likeliest way -/
end Go.W

/- Marks as the program reckons them. -/
set_option linter.unusedVariables false
set_option linter.unusedSimpArgs false
namespace Go.W
open Go Go.Sx
theorem has_dec {m : VMk} {d : Nat} (hm : OkMk m) (hd : d < 128) : decide (bits .and .u64 (m.l.getD (d / 64) 0 / 2 ^ min ((d : Int) % 64).toNat IntKind.u64.bits) 1 = 1) = hasM m d := by
  rw [show ((d : Int) % 64) = ((d % 64 : Nat) : Int) by omega, bit_walk (hm.at_ _) (by omega)]
  show decide ((if hasM m d = true then 1 else 0 : Int) = 1) = hasM m d
  cases hasM m d <;> rfl
theorem put_walk {m : VMk} {d : Nat} (hm : OkMk m) (hd : d < 128) : put (encMk m) (0 + ((d / 64 : Nat) : Int).toNat * 1) [.int .u64 (bits .or .u64 (m.l.getD (d / 64) 0) (IntKind.u64.wrap (1 * 2 ^ min ((d : Int) % 64).toNat IntKind.u64.bits)))] = encMk (putM m d) := by
  rw [show ((d : Int) % 64) = ((d % 64 : Nat) : Int) by omega, shl_one (by omega), bits_or1 (hm.at_ _) (by omega)]
  unfold putM
  rw [encMk_mk (by rw [List.length_set]; rfl), Nat.zero_add, Int.toNat_natCast]
  exact flat_put (eI_len .u64) m.l (d / 64) _ (by rw [mk_len]; omega)
theorem pa_1 {s : List Int} {l : List VMk} {k : Nat} (hk : k < s.length) (h : decide ((l.getD k zMk).l = [0, 0]) = true) : phAt s l k = false := by unfold phAt; rw [if_pos hk, h]; rfl
theorem pa_2 {s : List Int} {l : List VMk} {k : Nat} (hk : k < s.length) (h : ¬ bits .andNot .u64 (l.getD k zMk).lo (fullM (s.getD k 0).toNat).lo = 0) : phAt s l k = false := by
  unfold phAt subM; rw [if_pos hk, decide_eq_false (p := _ ∧ _) (fun h9 => h h9.1), Bool.and_false]
theorem pa_3 {s : List Int} {l : List VMk} {k : Nat} (hk : k < s.length) (h : ¬ bits .andNot .u64 (l.getD k zMk).hi (fullM (s.getD k 0).toNat).hi = 0) : phAt s l k = false := by
  unfold phAt subM; rw [if_pos hk, decide_eq_false (p := _ ∧ _) (fun h9 => h h9.2), Bool.and_false]
theorem pa_4 {s : List Int} {l : List VMk} {k : Nat} (hk : k < s.length) (h0 : decide ((l.getD k zMk).l = [0, 0]) = false) (h1 : bits .andNot .u64 (l.getD k zMk).lo (fullM (s.getD k 0).toNat).lo = 0) (h2 : bits .andNot .u64 (l.getD k zMk).hi (fullM (s.getD k 0).toNat).hi = 0) : phAt s l k = true := by
  unfold phAt subM; rw [if_pos hk, h0, decide_eq_true ⟨h1, h2⟩]; rfl
theorem pa_4s {s : List Int} {l : List VMk} {k : Nat} (hk : k < s.length) (h0 : decide ((l.getD k zMk).l = [0, 0]) = false) (h1 : subM (l.getD k zMk) (fullM (s.getD k 0).toNat) = true) : phAt s l k = true := by
  unfold phAt; rw [if_pos hk, h0, h1]; rfl
theorem pa_2s {s : List Int} {l : List VMk} {k : Nat} (hk : k < s.length) (h : subM (l.getD k zMk) (fullM (s.getD k 0).toNat) = false) : phAt s l k = false := by
  unfold phAt; rw [if_pos hk, h, Bool.and_false]
theorem pa_5 {s : List Int} {l : List VMk} {k : Nat} (hk : ¬ k < s.length) (h : (!decide ((l.getD k zMk).l = [0, 0])) = true) : phAt s l k = false := by
  unfold phAt; rw [if_neg hk]; simpa using h
theorem pa_6 {s : List Int} {l : List VMk} {k : Nat} (hk : ¬ k < s.length) (h : (!decide ((l.getD k zMk).l = [0, 0])) = false) : phAt s l k = true := by
  unfold phAt; rw [if_neg hk]; simpa using h
theorem sub_dec {m n : VMk} : subM m n = (decide (bits .andNot .u64 m.lo n.lo = 0) && decide (bits .andNot .u64 m.hi n.hi = 0)) := by
  unfold subM; rw [Bool.decide_and]
theorem sh_1 {s : List Int} {p : VPh} {a : Dig} (h : validPh s p = false) : shV s p a = (false, 1) := by unfold shV; rw [h]; rfl
theorem sh_2 {s : List Int} {p : VPh} {a : Dig} (h : (validStack s && validDig s a.l) = false) : shV s p a = (false, 1) := by unfold shV; rw [h, Bool.and_false]; rfl
theorem sh_0 {s : List Int} {p : VPh} {a : Dig} (h1 : validPh s p = true) (h : (validStack s && validDig s a.l) = true) : shV s p a = (showsM s p.l a.l, 0) := by unfold shV; rw [h, h1]; rfl
end Go.W

/- Counts in photos, as the program reckons them. -/
set_option linter.unusedVariables false
set_option linter.unusedSimpArgs false
namespace Go.W
open Go Go.Sx
theorem ones64' {x a b c d e f : Int} (hx : 0 ≤ x ∧ x < 18446744073709551616)
    (ha : IntKind.u64.wrap (bits .and .u64 (x / 2 ^ min (1 : Int).toNat IntKind.u64.bits) 6148914691236517205 + bits .and .u64 x 6148914691236517205) = a)
    (hb : IntKind.u64.wrap (bits .and .u64 (a / 2 ^ min (2 : Int).toNat IntKind.u64.bits) 3689348814741910323 + bits .and .u64 a 3689348814741910323) = b)
    (hc : bits .and .u64 (IntKind.u64.wrap (b / 2 ^ min (4 : Int).toNat IntKind.u64.bits + b)) 1085102592571150095 = c)
    (hd : IntKind.u64.wrap (c + c / 2 ^ min (8 : Int).toNat IntKind.u64.bits) = d)
    (he : IntKind.u64.wrap (d + d / 2 ^ min (16 : Int).toNat IntKind.u64.bits) = e)
    (hf : IntKind.u64.wrap (e + e / 2 ^ min (32 : Int).toNat IntKind.u64.bits) = f) : 0 ≤ f ∧ f ≤ 9223372036854775807 ∧ f % 128 = popI x := by
  subst ha hb hc hd he hf
  exact ones64 hx
theorem and127 {f : Int} (h : 0 ≤ f ∧ f ≤ 9223372036854775807) : bits .and .i64 f 127 = f % 128 := bits_mask .i64 63 (by decide) wraps_i64 7 (by decide) f h.1 (by have := h.2; omega)
/-! bits, one by one -/
def popJ (x : Int) (k : Nat) : Int := (popK x.toNat k : Int)
theorem popJ_0 (x : Int) : popJ x 0 = 0 := rfl
theorem popJ_s {x : Int} (h : 0 ≤ x) (k : Nat) : popJ x (k + 1) = popJ x k + x / 2 ^ k % 2 := by
  obtain ⟨n, rfl⟩ := Int.eq_ofNat_of_zero_le h
  unfold popJ
  rw [Int.toNat_natCast, popK_succ]
  push_cast; rfl
theorem popJ_bd (x : Int) (k : Nat) : 0 ≤ popJ x k ∧ popJ x k ≤ k := by unfold popJ; have := popK_le x.toNat k; omega
theorem popJ_end {x : Int} {k : Nat} (h : 0 ≤ x) (hk : k ≤ 64) (hz : x / 2 ^ k = 0) : popJ x k = popI x := by
  obtain ⟨n, rfl⟩ := Int.eq_ofNat_of_zero_le h
  unfold popJ popI
  rw [Int.toNat_natCast]
  have hz2 : n / 2 ^ k = 0 := by exact_mod_cast hz
  have := popK_hi hz2 (64 - k)
  rw [show k + (64 - k) = 64 by omega] at this
  rw [this]
theorem pop_lt {x : Int} {k : Nat} (h : 0 ≤ x ∧ x < 18446744073709551616) (hz : ¬ x / 2 ^ k = 0) : k < 64 := by
  rcases Nat.lt_or_ge k 64 with h1 | h1
  · exact h1
  · exfalso
    refine hz (Int.ediv_eq_zero_of_lt h.1 ?_)
    have h2 : (2 : Nat) ^ 64 ≤ 2 ^ k := Nat.pow_le_pow_right (by omega) h1
    have h3 : ((2 : Int)) ^ 64 ≤ 2 ^ k := by exact_mod_cast h2
    have := h.2
    omega
theorem pop_div {x : Int} {k : Nat} : x / 2 ^ k / 2 ^ min (1 : Int).toNat IntKind.u64.bits = x / 2 ^ (k + 1) := by
  rw [show (2 : Int) ^ min (1 : Int).toNat IntKind.u64.bits = 2 from rfl, Int.pow_succ, Int.ediv_ediv_of_nonneg (Int.pow_nonneg (by omega))]
theorem pop_bd {x : Int} {k : Nat} (h : 0 ≤ x ∧ x < 18446744073709551616) : 0 ≤ x / 2 ^ k ∧ x / 2 ^ k < 18446744073709551616 := by
  have h0 : (0 : Int) ≤ 2 ^ k := Int.pow_nonneg (by omega)
  have h1 := Int.ediv_nonneg h.1 h0
  have h2 := Int.ediv_le_self (2 ^ k) h.1
  omega
def cumM (m : VMk) : Nat → Int
  | 0 => 0
  | i + 1 => cumM m i + popI (m.l.getD i 0)
theorem cumM_bd (m : VMk) : ∀ i : Nat, 0 ≤ cumM m i ∧ cumM m i ≤ 64 * i
  | 0 => by simp [cumM]
  | i + 1 => by have := cumM_bd m i; have := popI_bd (m.l.getD i 0); rw [cumM]; omega
theorem cumM_2 (m : VMk) : cumM m 2 = cntM m := by
  show (0 + popI m.lo) + popI m.hi = _
  unfold cntM; omega
/-! how many are less -/
/-! what is added up from the last wheel on -/
/-! the statement's own words -/
theorem vph {s : List Int} {p : VPh} (hp : OkPh p) (h : validPh s p = true) : validStack s = true ∧ Stk s ∧ PhOk s p.l := by
  unfold validPh at h
  rw [Bool.and_eq_true] at h
  exact ⟨h.1, stk h.1, phOk (stk h.1) hp h.2⟩
end Go.W

/- What a device does, in plain numbers. -/
set_option linter.unusedVariables false
set_option linter.unusedSimpArgs false
namespace Go.W
open Go Go.Sx
def VDev.v (d : VDev) : Int := val d.stack d.shows.l
def validDev (d : VDev) : Bool := decide (validStack d.stack = true ∧ validDig d.stack d.shows.l = true ∧ (0 ≤ d.tickets ∧ d.tickets ≤ 1000000) ∧ (d.preset = -1 ∨ 0 ≤ d.preset ∧ d.preset ≤ size d.stack - 1) ∧ (d.stopped = true → d.preset = d.v))
structure DevOk (d : VDev) : Prop where
  stk : Stk d.stack
  dig : DigOk d.stack d.shows.l
  vd : validDig d.stack d.shows.l = true
  tick : 0 ≤ d.tickets ∧ d.tickets ≤ 1000000
  preset : d.preset = -1 ∨ 0 ≤ d.preset ∧ d.preset ≤ prod d.stack - 1
  stop : d.stopped = true → d.preset = d.v
theorem devOk {d : VDev} (hn : Nums 255 d.shows.l) (h : validDev d = true) : DevOk d := by
  unfold validDev at h
  rw [decide_eq_true_iff] at h
  obtain ⟨h1, h2, h3, h4, h5⟩ := h
  have hs := Go.W.stk h1
  exact ⟨hs, digOk hs.len8 hn h2, h2, h3, by rw [hs.size_] at h4; exact h4, h5⟩
theorem DevOk.v_lt {d : VDev} (h : DevOk d) : 0 ≤ d.v ∧ d.v < prod d.stack := val_lt h.stk h.dig (by rw [dig_len]; exact h.stk.len8)
/-- How many pulses there are until n is gone through, size at most. -/
def until1 (n size : Int) : Int := if n % size = 0 then size else n % size
theorem until_pos {n z : Int} (hz : 0 < z) : 1 ≤ until1 n z ∧ until1 n z ≤ z := by
  unfold until1
  have h1 := Int.emod_nonneg n (show z ≠ 0 by omega)
  have h2 := Int.emod_lt_of_pos n hz
  split <;> omega
theorem until_big {n z : Int} (hz : 0 < z) (h0 : 0 < n) (h1 : n < z) : until1 n z = n := by
  unfold until1; rw [Int.emod_eq_of_lt (by omega) h1, if_neg (by omega)]
theorem until_small {n z : Int} (hz : 0 < z) (h0 : n ≤ 0) (h1 : -z < n) : until1 n z = n + z := by
  unfold until1
  have e : n % z = if n = 0 then 0 else n + z := by
    split
    · subst n; simp
    · have := Int.add_emod_right n z
      rw [← this, Int.emod_eq_of_lt (by omega) (by omega)]
  rw [e]; split <;> split <;> omega
end Go.W
namespace Go.W
open Go Go.Sx
def zDig : Dig := ⟨0, 0, 0, 0, 0, 0, 0, 0⟩
def zDev : VDev := ⟨[], zDig, 0, false, 0⟩
end Go.W
namespace Go.W
open Go Go.Sx
def untilV (d : VDev) (st : Int) : Int := until1 (st * (d.preset - d.v)) (prod d.stack)
def pulseV (d : VDev) (n st : Int) : VDev × Int := if d.stopped = true then (d, n) else if d.preset ≠ -1 ∧ untilV d st ≤ n then (⟨d.stack, addD d.stack d.shows (st * untilV d st), d.preset, true, d.tickets⟩, n - untilV d st) else (⟨d.stack, addD d.stack d.shows (st * n), d.preset, d.stopped, d.tickets⟩, 0)
theorem pv_stop {d : VDev} {n st : Int} (h : d.stopped = true) : pulseV d n st = (d, n) := by unfold pulseV; rw [if_pos h]
theorem pv_hit {d : VDev} {n st : Int} (h : d.stopped = false) (h1 : d.preset ≠ -1 ∧ untilV d st ≤ n) : pulseV d n st = (⟨d.stack, addD d.stack d.shows (st * untilV d st), d.preset, true, d.tickets⟩, n - untilV d st) := by unfold pulseV; rw [if_neg (by simp [h]), if_pos h1]
theorem pv_on {d : VDev} {n st : Int} (h : d.stopped = false) (h1 : ¬ (d.preset ≠ -1 ∧ untilV d st ≤ n)) : pulseV d n st = (⟨d.stack, addD d.stack d.shows (st * n), d.preset, d.stopped, d.tickets⟩, 0) := by unfold pulseV; rw [if_neg (by simp [h]), if_neg h1]
def doV (d : VDev) (a : VAct) : VDev × Int × Int :=
  if a.kind = 1 then ((pulseV d a.n 1).1, (pulseV d a.n 1).2, 0) else if a.kind = 2 then ((pulseV d a.n (-1)).1, (pulseV d a.n (-1)).2, 0)
  else if a.kind = 3 then (if a.n ≠ -1 ∧ ¬ (0 ≤ a.n ∧ a.n ≤ size d.stack - 1) then (d, 0, 2) else (⟨d.stack, d.shows, a.n, decide (a.n = d.v), d.tickets⟩, 0, 0))
  else if a.kind = 4 then (⟨d.stack, zDig, d.preset, decide (d.preset = 0), d.tickets⟩, 0, 0)
  else if a.kind = 5 then (if d.tickets = 1000000 then (d, 0, 4) else (⟨d.stack, d.shows, d.preset, d.stopped, d.tickets + 1⟩, 0, 0))
  else (d, 0, 0)
theorem do_1 {d : VDev} {a : VAct} (h : a.kind = 1) : doV d a = ((pulseV d a.n 1).1, (pulseV d a.n 1).2, 0) := by unfold doV; rw [if_pos h]
theorem do_2 {d : VDev} {a : VAct} (h : a.kind = 2) : doV d a = ((pulseV d a.n (-1)).1, (pulseV d a.n (-1)).2, 0) := by unfold doV; rw [if_neg (by omega), if_pos h]
theorem do_3n {d : VDev} {a : VAct} (h : a.kind = 3) (h1 : a.n ≠ -1 ∧ ¬ (0 ≤ a.n ∧ a.n ≤ size d.stack - 1)) : doV d a = (d, 0, 2) := by unfold doV; rw [if_neg (by omega), if_neg (by omega), if_pos h, if_pos h1]
theorem do_3 {d : VDev} {a : VAct} (h : a.kind = 3) (h1 : ¬ (a.n ≠ -1 ∧ ¬ (0 ≤ a.n ∧ a.n ≤ size d.stack - 1))) : doV d a = (⟨d.stack, d.shows, a.n, decide (a.n = d.v), d.tickets⟩, 0, 0) := by unfold doV; rw [if_neg (by omega), if_neg (by omega), if_pos h, if_neg h1]
theorem do_4 {d : VDev} {a : VAct} (h : a.kind = 4) : doV d a = (⟨d.stack, zDig, d.preset, decide (d.preset = 0), d.tickets⟩, 0, 0) := by unfold doV; rw [if_neg (by omega), if_neg (by omega), if_neg (by omega), if_pos h]
theorem do_5n {d : VDev} {a : VAct} (h : a.kind = 5) (h1 : d.tickets = 1000000) : doV d a = (d, 0, 4) := by unfold doV; rw [if_neg (by omega), if_neg (by omega), if_neg (by omega), if_neg (by omega), if_pos h, if_pos h1]
theorem do_5 {d : VDev} {a : VAct} (h : a.kind = 5) (h1 : ¬ d.tickets = 1000000) : doV d a = (⟨d.stack, d.shows, d.preset, d.stopped, d.tickets + 1⟩, 0, 0) := by unfold doV; rw [if_neg (by omega), if_neg (by omega), if_neg (by omega), if_neg (by omega), if_pos h, if_neg h1]
theorem do_0 {d : VDev} {a : VAct} (h1 : ¬ a.kind = 1) (h2 : ¬ a.kind = 2) (h3 : ¬ a.kind = 3) (h4 : ¬ a.kind = 4) (h5 : ¬ a.kind = 5) : doV d a = (d, 0, 0) := by unfold doV; rw [if_neg h1, if_neg h2, if_neg h3, if_neg h4, if_neg h5]
theorem act_n {a : VAct} (h : validAct a = true) : (a.kind = 1 ∨ a.kind = 2 → 0 ≤ a.n ∧ a.n ≤ 1000000000000) ∧ (a.kind = 3 → -1 ≤ a.n ∧ a.n ≤ 1000000000000) := by
  unfold validAct at h; rw [decide_eq_true_iff] at h; omega
theorem sizeS {d : VDev} (h : DevOk d) : size d.stack = prod d.stack := h.stk.size_
/-- What stands for a device that is none. -/
def newDev (s : List Int) : VDev × Int := if validStack s = true then (⟨s, zDig, -1, false, 0⟩, 0) else (zDev, 1)
theorem nwd_t {s : List Int} (h : validStack s = true) : newDev s = (⟨s, zDig, -1, false, 0⟩, 0) := by unfold newDev; rw [if_pos h]
theorem nwd_f {s : List Int} (h : validStack s = false) : newDev s = (zDev, 1) := by unfold newDev; rw [if_neg (by simp [h])]
def doActV (d : VDev) (a : VAct) : VDev × Int × Int := if validDev d = true ∧ validAct a = true then (if (doV d a).2.2 ≠ 0 then (zDev, 0, (doV d a).2.2) else doV d a) else (zDev, 0, 1)
theorem da_bad {d : VDev} {a : VAct} (h : ¬ (validDev d = true ∧ validAct a = true)) : doActV d a = (zDev, 0, 1) := by unfold doActV; rw [if_neg h]
theorem da_no {d : VDev} {a : VAct} (h : validDev d = true ∧ validAct a = true) (h1 : (doV d a).2.2 ≠ 0) : doActV d a = (zDev, 0, (doV d a).2.2) := by unfold doActV; rw [if_pos h, if_pos h1]
theorem da_ok {d : VDev} {a : VAct} (h : validDev d = true ∧ validAct a = true) (h1 : ¬ (doV d a).2.2 ≠ 0) : doActV d a = doV d a := by unfold doActV; rw [if_pos h, if_neg h1]
theorem nil_of_none {A : Option Addr} {w : World} {base : Nat} {s : List Int} (h : RdB base w A (s.flatMap (eI .u8))) (hA : A.isNone = true) : s = [] := by
  cases s with
  | nil => rfl
  | cons x t =>
    obtain ⟨ad, rfl, _⟩ := h 0 (.int .u8 x) rfl
    cases hA
end Go.W
namespace Go.W
open Go Go.Sx
theorem un_t {d : VDev} : untilV d (bif true then -1 else 1) = until1 (-(d.preset - val d.stack d.shows.l)) (prod d.stack) := by
  unfold untilV VDev.v; rw [cond_true, Int.neg_mul, Int.one_mul]
theorem un_f {d : VDev} : untilV d (bif false then -1 else 1) = until1 (d.preset - val d.stack d.shows.l) (prod d.stack) := by
  unfold untilV VDev.v; rw [cond_false, Int.one_mul]
end Go.W
namespace Go.W
open Go Go.Sx
end Go.W
namespace Go.W
open Go Go.Sx
def untilW (d : VDev) (st : Int) : Int := if d.preset < 0 then -1 else untilV d st
theorem uw {d : VDev} {st : Int} : (d.preset < 0 ∧ untilW d st = -1) ∨ (0 ≤ d.preset ∧ untilW d st = untilV d st) := by
  unfold untilW; split <;> omega
theorem uw_pos {d : VDev} {st : Int} (h : 0 ≤ d.preset) : untilW d st = untilV d st := by unfold untilW; rw [if_neg (by omega)]
theorem until_bd {d : VDev} (h : DevOk d) (st : Int) : 1 ≤ untilV d st ∧ untilV d st ≤ prod d.stack := until_pos (by have := h.stk.pos; omega)
end Go.W
namespace Go.W
open Go Go.Sx
theorem do_stack (d : VDev) (a : VAct) : (doV d a).1.stack = d.stack := by
  unfold doV pulseV
  repeat' split
  all_goals rfl
end Go.W

/- Devices behind acts, in plain numbers. -/
set_option linter.unusedVariables false
set_option linter.unusedSimpArgs false
namespace Go.W
open Go Go.Sx
end Go.W
namespace Go.W
open Go Go.Sx
end Go.W
namespace Go.W
open Go Go.Sx
end Go.W
namespace Go.W
open Go Go.Sx
end Go.W

/- Fewer acts, in plain numbers. -/
set_option linter.unusedVariables false
set_option linter.unusedSimpArgs false
namespace Go.W
open Go Go.Sx
/-- How great the numbers are. -/
def Low (b : Int) (l : List VAct) : Prop := ∀ x ∈ l, -1 ≤ x.n ∧ x.n ≤ b
theorem Low.at_ {b : Int} {l : List VAct} (h : Low b l) {i : Nat} (hi : i < l.length) : -1 ≤ (l.getD i zA).n ∧ (l.getD i zA).n ≤ b := h _ (getD_mem zA hi)
theorem Low.any {b : Int} {l : List VAct} (h : Low b l) (hb : 0 ≤ b) (i : Nat) : -1 ≤ (l.getD i zA).n ∧ (l.getD i zA).n ≤ b := by
  rcases Nat.lt_or_ge i l.length with hi | hi
  · exact h.at_ hi
  · have e : l.getD i zA = zA := by simp [List.getD, List.getElem?_eq_none hi]
    rw [e]; exact ⟨by decide, hb⟩
end Go.W

/- What is played, in plain numbers. -/
set_option linter.unusedVariables false
set_option linter.unusedSimpArgs false
namespace Go.W
open Go Go.Sx
end Go.W

/- What is played, as the program plays it, in plain numbers. -/
set_option linter.unusedVariables false
set_option linter.unusedSimpArgs false
namespace Go.W
open Go Go.Sx
end Go.W

/- Marks in lists of tickets and of notes. -/
set_option linter.unusedVariables false
set_option linter.unusedSimpArgs false
namespace Go.W
open Go Go.Sx
end Go.W

/- Numbers that lack, in plain numbers. -/
set_option linter.unusedVariables false
set_option linter.unusedSimpArgs false
namespace Go.W
open Go Go.Sx
end Go.W

/- Marks in lists; lists of values, as the program makes them. -/
set_option linter.unusedVariables false
set_option linter.unusedSimpArgs false
namespace Go.W
open Go Go.Sx
theorem ptv_le {b : Int} {ds out : List Int} {q : Nat} (hq : q ≤ out.length) : (partV b ds out q 0).length ≤ out.length * ds.length := by
  unfold partV
  rw [List.length_append, stp_len, one_len, List.length_take, Nat.min_eq_left hq, List.take_zero]
  exact Nat.mul_le_mul_right _ hq
theorem val_room {s : List Int} {l : List VMk} (h : PhOk s l) (hs : Stk s) {t : Nat} (ht : t < s.length) : (valW s l t).length ≤ 1000000000000 ∧ (valW s l t).length * (digI (l.getD (s.length - 1 - t) zMk)).length ≤ 1000000000000 := by
  have h1 := valW_le h hs (j := t + 1) (by omega)
  have h0 := valW_le h hs (j := t) (by omega)
  have h2 := cho_le h hs (i := s.length) (Nat.le_refl _)
  rw [valW, stp_len] at h1
  omega
end Go.W

/- Films in memory. -/
set_option linter.unusedVariables false
set_option linter.unusedSimpArgs false
namespace Go.W
open Go Go.Sx
/-! a film that is made -/
structure FSt where
  A : Option Addr
  c : Nat
  K : List (VX Int)
structure FX where
  b : Nat
  A : Option Addr
  c : Nat
  K : List (VX Int)
theorem kx_step {s : List Int} {L : List VPh} {K : List (VX Int)} {r : VX Int} (h : K.map (·.xs) = (filmL s L).take K.length) (hk : K.length < L.length) (hr : r.xs = valsP s (L.getD K.length zPh)) : (K ++ [r]).map (·.xs) = (filmL s L).take (K ++ [r]).length := by
  have h1 : K.length < (filmL s L).length := by simpa [filmL] using hk
  rw [List.map_append, h, List.length_append, show [r].length = 1 from rfl, List.take_succ_eq_append_getElem h1]
  congr 1
  simp [hr, filmL, List.getD, hk]
theorem kx_fin {s : List Int} {L : List VPh} {K : List (VX Int)} (h : K.map (·.xs) = (filmL s L).take K.length) (hk : K.length = L.length) : K.map (·.xs) = filmL s L := by
  rw [h, List.take_of_length_le (by simp [filmL]; omega)]
theorem kx_len {s : List Int} {L : List VPh} {K : List (VX Int)} (h : K.map (·.xs) = filmL s L) : K.length = L.length := by
  have := congrArg List.length h
  simpa [filmL] using this
theorem kx_at {s : List Int} {L : List VPh} {K : List (VX Int)} (h : K.map (·.xs) = filmL s L) (k : Nat) : (K.getD k zX).xs = filmF s L k := by
  have e : (K.getD k zX).xs = (K.map (·.xs)).getD k [] := by
    simp only [List.getD, List.getElem?_map]; cases K[k]? <;> rfl
  rw [e, h]; rfl
theorem kx_fun {s : List Int} {L : List VPh} {K : List (VX Int)} (h : K.map (·.xs) = filmL s L) : (fun k => (K.getD k zX).xs) = filmF s L := funext (kx_at h)
structure FK (K : List (VX Int)) (n : Nat) : Prop where
  len : K.length = n
  n1 : 1 ≤ n ∧ n ≤ 20
  vl : ∀ k, k < n → 1 ≤ (K.getD k zX).xs.length ∧ (K.getD k zX).xs.length ≤ 400
  v : ∀ k q, k < n → 0 ≤ (K.getD k zX).xs.getD q 0 ∧ (K.getD k zX).xs.getD q 0 < 1000000000000
theorem fk {s : List Int} {L : List VPh} {lo hi us : Int} {K : List (VX Int)} (hF : Film s L lo hi us) (h : K.map (·.xs) = filmL s L) : FK K L.length := by
  refine ⟨kx_len h, hF.len, fun k hk => ?_, fun k q hk => ?_⟩
  · rw [kx_at h]; exact hF.vlen hk
  · rw [kx_at h]; exact hF.v hk q
/-! codes -/
theorem cf_of {s : List Int} {L : List VPh} {lo hi us : Int} (h : codeF s L lo hi us = 0) : validStack s = true ∧ badP s L = false ∧ ((1 ≤ L.length ∧ L.length ≤ 20) ∧ 0 ≤ lo ∧ lo ≤ hi ∧ hi ≤ 1000000000000 ∧ lo ≤ us ∧ us ≤ hi) ∧ manyP s L = false := by
  cases h1 : (validStack s && !badP s L) with
  | false => rw [cf_1 h1] at h; cases h
  | true =>
    by_cases h2 : (1 ≤ L.length ∧ L.length ≤ 20) ∧ 0 ≤ lo ∧ lo ≤ hi ∧ hi ≤ 1000000000000 ∧ lo ≤ us ∧ us ≤ hi
    · cases h3 : manyP s L with
      | true => rw [cf_3 h1 h2 h3] at h; cases h
      | false =>
        rw [Bool.and_eq_true, Bool.not_eq_true'] at h1
        exact ⟨h1.1, h1.2, h2, rfl⟩
    · rw [cf_2 h1 h2] at h; cases h
theorem cf_all {s : List Int} {L : List VPh} {lo hi us : Int} {k : Nat} (h1 : validStack s = true) (hb : badP s L = false) (h2 : (1 ≤ L.length ∧ L.length ≤ 20) ∧ 0 ≤ lo ∧ lo ≤ hi ∧ hi ≤ 1000000000000 ∧ lo ≤ us ∧ us ≤ hi) (hk : ¬ k < L.length) (hall : ∀ i, i < k → decide (400 < choV (L.getD i zPh).l s.length) = false) : codeF s L lo hi us = 0 :=
  cf_0 (by rw [h1, hb]; rfl) h2 (any_no (d := zPh) hk hall)
theorem bad_1 {s : List Int} {L : List VPh} {lo hi us : Int} (h : validStack s = false) : codeF s L lo hi us = 1 := cf_1 (by rw [h]; rfl)
theorem bad_2 {s : List Int} {L : List VPh} {lo hi us : Int} (h : badP s L = true) : codeF s L lo hi us = 1 := cf_1 (by rw [h, Bool.and_comm]; rfl)
theorem bad_3 {s : List Int} {L : List VPh} {lo hi us : Int} (h1 : validStack s = true) (hb : badP s L = false) (h2 : ¬ ((1 ≤ L.length ∧ L.length ≤ 20) ∧ 0 ≤ lo ∧ lo ≤ hi ∧ hi ≤ 1000000000000 ∧ lo ≤ us ∧ us ≤ hi)) : codeF s L lo hi us = 2 := cf_2 (by rw [h1, hb]; rfl) h2
theorem bad_4 {s : List Int} {L : List VPh} {lo hi us : Int} {k : Nat} (h1 : validStack s = true) (hb : badP s L = false) (h2 : (1 ≤ L.length ∧ L.length ≤ 20) ∧ 0 ≤ lo ∧ lo ≤ hi ∧ hi ≤ 1000000000000 ∧ lo ≤ us ∧ us ≤ hi) (hk : k < L.length) (h : 400 < choV (L.getD k zPh).l s.length) : codeF s L lo hi us = 3 :=
  cf_3 (by rw [h1, hb]; rfl) h2 (any_yes (d := zPh) hk (decide_eq_true h))
theorem bad_idx {s : List Int} {L : List VPh} : badP s L = decide (0 ≤ idxF (fun p : VPh => !photoOk s p.l) L) := any_idx
theorem okLp {s : List Int} {L : List VPh} (hL : ∀ k, k < L.length → OkPh (L.getD k zPh)) (h1 : validStack s = true) (hb : badP s L = false) : ∀ k, k < L.length → PhOk s (L.getD k zPh).l := fun k hk => by
  have := any_at (d := zPh) hb hk
  rw [Bool.not_eq_false'] at this
  exact phOk (stk h1) (hL k hk) this
/-! first ones that are good -/
end Go.W

/- Ways through films, as the program reckons them. -/
set_option linter.unusedVariables false
set_option linter.unusedSimpArgs false
namespace Go.W
open Go Go.Sx
end Go.W

/- What can be reached, row by row. -/
set_option linter.unusedVariables false
set_option linter.unusedSimpArgs false
namespace Go.W
open Go Go.Sx
end Go.W

/- How many ways, row by row. -/
set_option linter.unusedVariables false
set_option linter.unusedSimpArgs false
namespace Go.W
open Go Go.Sx
def befL (lo hi : Int) (F : Nat → List Int) : Nat → List Int
  | 0 => []
  | k + 1 => wayL lo hi F k
def totW (lo hi : Int) (F : Nat → List Int) : Nat → Int
  | 0 => 0
  | k + 1 => wTot lo hi F k
theorem bef_pos {lo hi : Int} {F : Nat → List Int} {k j : Nat} (h : j < (befL lo hi F k).length) : 0 < k := by
  cases k with
  | zero => simp [befL] at h
  | succ k => omega
theorem bef_len {lo hi : Int} {F : Nat → List Int} {k : Nat} (h : 0 < k) : (befL lo hi F k).length = (F (k - 1)).length := by
  obtain ⟨k', rfl⟩ : ∃ k', k = k' + 1 := ⟨k - 1, by omega⟩
  rw [befL, way_len]; rfl
theorem bef_s (lo hi : Int) (F : Nat → List Int) (k : Nat) : (befL lo hi F (k + 1)).length = (F k).length := by rw [befL, way_len]
def curW (lo hi : Int) (F : Nat → List Int) (k i j : Nat) : Int := if k = 0 then 1 else wSum lo hi (F (k - 1)) (wayL lo hi F (k - 1)) ((F k).getD i 0) j
def rowW (lo hi : Int) (F : Nat → List Int) (k i j : Nat) : List Int := (Sx.part 0 (wayL lo hi F k) i).set i (curW lo hi F k i j)
theorem partW_len {lo hi : Int} {F : Nat → List Int} {k i : Nat} (h : i ≤ (F k).length) : (Sx.part 0 (wayL lo hi F k) i).length = (F k).length := by rw [part_len _ _ _ (by rw [way_len]; exact h), way_len]
theorem rowW_len {lo hi : Int} {F : Nat → List Int} {k i j : Nat} (h : i ≤ (F k).length) : (rowW lo hi F k i j).length = (F k).length := by unfold rowW; rw [List.length_set, partW_len h]
theorem rowW_at {lo hi : Int} {F : Nat → List Int} {k i j : Nat} (h : i < (F k).length) : (rowW lo hi F k i j).getD i 0 = curW lo hi F k i j := by
  unfold rowW
  have : i < (Sx.part 0 (wayL lo hi F k) i).length := by rw [partW_len (by omega)]; exact h
  simp [List.getD, this]
theorem rowW_0y {lo hi : Int} {F : Nat → List Int} {k i q : Nat} {v : List Value} (h : i < (F k).length) (hk : k = 0) (hq : q = i * 1) (hv : v = eI .i64 1) : put ((Sx.part 0 (wayL lo hi F k) i).flatMap (eI .i64)) q v = (rowW lo hi F k i 0).flatMap (eI .i64) := by
  subst hq hv hk
  rw [flat_put (eI_len .i64) _ _ _ (by rw [partW_len (by omega)]; exact h)]; rfl
theorem rowW_0n {lo hi : Int} {F : Nat → List Int} {k i : Nat} (h : i < (F k).length) (hk : 0 < k) : Sx.part 0 (wayL lo hi F k) i = rowW lo hi F k i 0 := by
  unfold rowW curW
  rw [if_neg (by omega), wSum]
  refine List.ext_getElem? fun j => ?_
  rw [List.getElem?_set]
  split
  · next e =>
    subst e
    rw [partW_len (by omega), if_pos h]
    unfold Sx.part
    rw [List.getElem?_append_right (by simp; omega), List.getElem?_replicate, if_pos (by simp [way_len]; omega)]
  · rfl
theorem rowW_s {lo hi : Int} {F : Nat → List Int} {k i j q : Nat} {v : List Value} (h : i < (F k).length) (hq : q = i * 1) (hv : v = eI .i64 (curW lo hi F k i (j + 1))) : put ((rowW lo hi F k i j).flatMap (eI .i64)) q v = (rowW lo hi F k i (j + 1)).flatMap (eI .i64) := by
  subst hq hv
  rw [flat_put (eI_len .i64) _ _ _ (by rw [rowW_len (by omega)]; exact h)]
  unfold rowW; rw [List.set_set]
theorem cw_y {lo hi : Int} {F : Nat → List Int} {k i j : Nat} (hk : 0 < k) (hg : goesB lo hi ((F (k - 1)).getD j 0) ((F k).getD i 0) = true) : curW lo hi F k i j + (befL lo hi F k).getD j 0 = curW lo hi F k i (j + 1) := by
  obtain ⟨k', rfl⟩ : ∃ k', k = k' + 1 := ⟨k - 1, by omega⟩
  unfold curW
  rw [if_neg (by omega), if_neg (by omega), wSum, if_pos hg]; rfl
theorem cw_n {lo hi : Int} {F : Nat → List Int} {k i j : Nat} (hk : 0 < k) (hg : goesB lo hi ((F (k - 1)).getD j 0) ((F k).getD i 0) = false) : rowW lo hi F k i j = rowW lo hi F k i (j + 1) := by
  unfold rowW curW
  rw [if_neg (by omega), if_neg (by omega), wSum, if_neg (by rw [hg]; decide), Int.add_zero]
theorem rowW_fin {lo hi : Int} {F : Nat → List Int} {k i j : Nat} (h : i < (F k).length) (hj : k = 0 ∨ j = (befL lo hi F k).length) : rowW lo hi F k i j = Sx.part 0 (wayL lo hi F k) (i + 1) := by
  have e : curW lo hi F k i j = (wayL lo hi F k).getD i 0 := by
    rcases Nat.eq_zero_or_pos k with hk | hk
    · subst hk; rw [way_0 h]; rfl
    · obtain ⟨k', rfl⟩ : ∃ k', k = k' + 1 := ⟨k - 1, by omega⟩
      rw [way_s h]
      have : j = (F k').length := by rw [← bef_s lo hi]; omega
      subst this; rfl
  unfold rowW
  rw [e, part_set _ _ _ _ (by rw [way_len]; exact h)]
theorem partW_at {lo hi : Int} {F : Nat → List Int} {k i : Nat} (h : i < (F k).length) : (Sx.part 0 (wayL lo hi F k) (i + 1)).getD i 0 = (wayL lo hi F k).getD i 0 := by
  unfold Sx.part
  have h1 : i < (wayL lo hi F k).length := by rw [way_len]; exact h
  simp only [List.getD]
  rw [List.getElem?_append_left (by simp; omega), List.getElem?_take, if_pos (by omega)]
theorem partW_full {lo hi : Int} {F : Nat → List Int} {k i : Nat} (h : i = (F k).length) : Sx.part 0 (wayL lo hi F k) i = wayL lo hi F k := by rw [h, ← way_len lo hi F k, part_all]
theorem zroW {lo hi : Int} {F : Nat → List Int} {k n : Nat} (h : n = (F k).length) : zerosL (eI .i64 0) n = (Sx.part 0 (wayL lo hi F k) 0).flatMap (eI .i64) := zpart (eI_len .i64) 0 rfl _ (by rw [h, way_len])
theorem curW_bd {lo hi : Int} {F : Nat → List Int} {k i j : Nat} (hov : ∀ i, i < k → wOver lo hi F i = false) (hj : 0 < k → j ≤ (F (k - 1)).length) : 0 ≤ curW lo hi F k i j ∧ curW lo hi F k i j ≤ 1000000000000000 := by
  unfold curW
  split
  · omega
  · have h1 := wSum_bd (lo := lo) (hi := hi) (v := (F k).getD i 0) (pv := F (k - 1)) (way_nn lo hi F (k - 1)) j
    have h2 := sumT_mono (way_nn lo hi F (k - 1)) (hj (by omega))
    have h3 := hov (k - 1) (by omega)
    unfold wOver wTot at h3
    rw [decide_eq_false_iff_not] at h3
    omega
theorem bef_bd {lo hi : Int} {F : Nat → List Int} {k : Nat} (hov : ∀ i, i < k → wOver lo hi F i = false) (j : Nat) : 0 ≤ (befL lo hi F k).getD j 0 ∧ (befL lo hi F k).getD j 0 ≤ 1000000000000000 := by
  cases k with
  | zero => simp [befL]
  | succ k => exact ⟨way_nn lo hi F k j, way_le (fun i hi => hov i (by omega)) j⟩
theorem way_bd {lo hi : Int} {F : Nat → List Int} {k : Nat} (hov : ∀ i, i < k → wOver lo hi F i = false) (i : Nat) : 0 ≤ (wayL lo hi F k).getD i 0 ∧ (wayL lo hi F k).getD i 0 ≤ 1000000000000000 ∧ 0 ≤ sumT (wayL lo hi F k) i ∧ sumT (wayL lo hi F k) i ≤ 1000000000000000 * (i : Int) :=
  ⟨way_nn lo hi F k i, way_le hov i, sumT_0 (way_nn lo hi F k) i, sumT_le (way_le hov) i⟩
theorem over_no {lo hi : Int} {F : Nat → List Int} {k : Nat} (h : sumT (wayL lo hi F k) (F k).length ≤ 1000000000000000) : wOver lo hi F k = false := by
  unfold wOver wTot; rw [decide_eq_false_iff_not]; omega
theorem wvk_3 {s : List Int} {L : List VPh} {K : List (VX Int)} {lo hi : Int} {k i : Nat} (hx : K.map (·.xs) = filmL s L) (h : codeF s L lo hi lo = 0) (hk : k < L.length) (hi2 : i ≤ (K.getD k zX).xs.length) (ho : 1000000000000000 < sumT (wayL lo hi (fun k => (K.getD k zX).xs) k) i) : waysV s L lo hi = (0, 3) := by
  rw [kx_fun hx] at ho
  exact wv_3 h hk (by rw [← kx_at hx]; exact hi2) ho
theorem wvk_0 {s : List Int} {L : List VPh} {K : List (VX Int)} {lo hi : Int} {k : Nat} (hx : K.map (·.xs) = filmL s L) (h : codeF s L lo hi lo = 0) (hk : k = L.length) (h0 : 0 < k) (hall : ∀ i, i < k → wOver lo hi (fun k => (K.getD k zX).xs) i = false) : waysV s L lo hi = (totW lo hi (fun k => (K.getD k zX).xs) k, 0) := by
  rw [kx_fun hx] at hall ⊢
  rw [wv_0 h fun i hi => hall i (by omega)]
  obtain ⟨k', rfl⟩ : ∃ k', k = k' + 1 := ⟨k - 1, by omega⟩
  rw [totW, show L.length - 1 = k' by omega]
end Go.W

/- A number repeated. -/
set_option linter.unusedVariables false
set_option linter.unusedSimpArgs false
namespace Go.W
open Go Go.Sx
end Go.W

/- Least sums to the end, row by row from the last. -/
set_option linter.unusedVariables false
set_option linter.unusedSimpArgs false
namespace Go.W
open Go Go.Sx
/-! a list of lists that is filled from the end -/
/-! rows of sums -/
variable {z lo hi us : Int} {F : Nat → List Int} {n t i j : Nat}
end Go.W

/- The likeliest way. -/
set_option linter.unusedVariables false
set_option linter.unusedSimpArgs false
namespace Go.W
open Go Go.Sx
/-! the statement's own words -/
/-! the code, as the reference comes to it -/
end Go.W

/- Ways, told by values. -/
set_option linter.unusedVariables false
set_option linter.unusedSimpArgs false
namespace Go.W
open Go Go.Sx
/-! sums over lists -/
def totG (g : Int → Int) : List Int → Int
  | [] => 0
  | x :: t => g x + totG g t
theorem tot_nn {g : Int → Int} {l : List Int} (h : ∀ x, x ∈ l → 0 ≤ g x) : 0 ≤ totG g l := by
  induction l with
  | nil => simp [totG]
  | cons x s ih =>
    have h1 := h x (by simp)
    have h2 := ih fun y hy => h y (by simp [hy])
    simp only [totG]; omega
theorem tot_pos {g : Int → Int} {l : List Int} (h : ∀ x, x ∈ l → 0 ≤ g x) : 0 < totG g l ↔ ∃ x, x ∈ l ∧ 0 < g x := by
  induction l with
  | nil => simp [totG]
  | cons x s ih =>
    have h1 := h x (by simp)
    have h2 : ∀ y, y ∈ s → 0 ≤ g y := fun y hy => h y (by simp [hy])
    have h3 := ih h2
    have h4 := tot_nn h2
    simp only [totG]
    constructor
    · intro h5
      rcases Int.lt_or_le 0 (g x) with h6 | h6
      · exact ⟨x, by simp, h6⟩
      · obtain ⟨y, hy, h7⟩ := h3.1 (by omega)
        exact ⟨y, by simp [hy], h7⟩
    · rintro ⟨y, hy, h6⟩
      rcases List.mem_cons.1 hy with rfl | hy
      · omega
      · have := h3.2 ⟨y, hy, h6⟩; omega
/-! how many ways there are to a value -/
def stepG (lo hi : Int) (v : Int) (f : Int → Int) (u : Int) : Int := if goesB lo hi u v = true then f u else 0
def wv (lo hi : Int) (F : Nat → List Int) : Nat → Int → Int
  | 0, _ => 1
  | k + 1, v => totG (stepG lo hi v (wv lo hi F k)) (F k)
variable {lo hi us : Int} {F : Nat → List Int} {n : Nat}
theorem step_nn {v : Int} {f : Int → Int} (h : ∀ u, 0 ≤ f u) (u : Int) : 0 ≤ stepG lo hi v f u := by unfold stepG; split; exact h u; omega
theorem wv_nn : ∀ (k : Nat) (v : Int), 0 ≤ wv lo hi F k v
  | 0, _ => by simp [wv]
  | k + 1, v => tot_nn fun u _ => step_nn (wv_nn k) u
/-! least sums to the end, by values -/
def cv (lo hi us : Int) (F : Nat → List Int) (n : Nat) : Nat → Int → Int
  | 0, _ => 0
  | t + 1, v => minC lo hi us v (F (n - 1 - t)) ((F (n - 1 - t)).map (cv lo hi us F n t)) (F (n - 1 - t)).length
/-- A way through lists. -/
structure Way (lo hi : Int) (F : Nat → List Int) (n : Nat) (w : Nat → Int) : Prop where
  at_ : ∀ k, k < n → w k ∈ F k
  go : ∀ k, k + 1 < n → goesB lo hi (w k) (w (k + 1)) = true
theorem Way.pos {w : Nat → Int} (h : Way lo hi F n w) : ∀ k, k < n → 0 < wv lo hi F k (w k)
  | 0, _ => by simp [wv]
  | k + 1, hk => by
    rw [wv, tot_pos fun u _ => step_nn (wv_nn k) u]
    exact ⟨w k, h.at_ k (by omega), by unfold stepG; rw [if_pos (h.go k hk)]; exact h.pos k (by omega)⟩
/-! the least sum of all -/
end Go.W

/- What is sure: rows that are changed in a pile, photos that are changed in a row. -/
set_option linter.unusedVariables false
set_option linter.unusedSimpArgs false
namespace Go.W
open Go Go.Sx
/-! rows with other contents -/
section
variable {α : Type} {J : List (VX α)} {G G' : Nat → List α} {k : Nat}
end
/-! the rows as they are turned from the last -/
section
variable {lo hi : Int} {F : Nat → List Int} {n t k : Nat}
end
/-! photos of what is sure -/
def okMs (l : List VMk) : Prop := ∀ q, OkMk (l.getD q zMk)
theorem okMs_z : okMs zPh.l := fun q => by
  match q with
  | 0 => exact okZ
  | 1 => exact okZ
  | 2 => exact okZ
  | 3 => exact okZ
  | 4 => exact okZ
  | 5 => exact okZ
  | 6 => exact okZ
  | 7 => exact okZ
  | _ + 8 => exact okZ
theorem putW_ok {s d : List Int} {l : List VMk} (hl : okMs l) (hd : ∀ w, w < s.length → (d.getD w 0).toNat < 128) : ∀ w, w ≤ s.length → okMs (putW s d l w)
  | 0, _ => hl
  | w + 1, h => by
    have ih := putW_ok hl hd w (by omega)
    intro q
    rw [putW, putD]
    simp only [List.getD, List.getElem?_set]
    split
    · split
      · exact putM_ok (ih w) (hd w (by omega))
      · exact okZ
    · exact ih q
theorem putW_put {s d : List Int} {l : List VMk} {w q : Nat} {v : List Value} (hl : l.length = 8) (hw : w < 8) (hq : q = w * 2) (hv : v = encMk (putM ((putW s d l w).getD w zMk) (d.getD w 0).toNat)) : put ((putW s d l w).flatMap encMk) q v = (putW s d l (w + 1)).flatMap encMk := by
  subst hq hv
  rw [flat_put encMk_len _ _ _ (by rw [putW_len, hl]; exact hw)]; rfl
/-! a photo in a row of them -/
/-! the answer -/
end Go.W

/- Photos of two wheels of ten digits; what is sure of them; the law of ways. -/
set_option linter.unusedVariables false
set_option linter.unusedSimpArgs false
namespace Go.W
open Go Go.Sx
theorem valid2 : validStack [10, 10] = true := by decide
/-! marks that are put -/
theorem has_sub {m n : VMk} (hm : OkMk m) (hn : OkMk n) (h : ∀ d, d < 128 → hasM m d = true → hasM n d = true) : subM m n = true := by
  unfold subM
  rw [decide_eq_true_iff]
  have key : ∀ {x y : Int}, (0 ≤ x ∧ x < 18446744073709551616) → (0 ≤ y ∧ y < 18446744073709551616) → (∀ i, i < 64 → bitB x i = true → bitB y i = true) → bits .andNot .u64 x y = 0 := by
    intro x y hx hy hb
    obtain ⟨a, rfl⟩ := Int.eq_ofNat_of_zero_le hx.1
    obtain ⟨b, rfl⟩ := Int.eq_ofNat_of_zero_le hy.1
    show IntKind.u64.wrap ((BitVec.ofInt IntKind.u64.bits (a : Int) &&& ~~~BitVec.ofInt IntKind.u64.bits (b : Int)).toNat : Int) = 0
    have hz : (BitVec.ofInt IntKind.u64.bits (a : Int) &&& ~~~BitVec.ofInt IntKind.u64.bits (b : Int)) = 0#_ := by
      simp only [BitVec.ofInt_natCast]
      refine BitVec.eq_of_getLsbD_eq fun i hi => ?_
      simp only [BitVec.getLsbD_and, BitVec.getLsbD_not, BitVec.getLsbD_ofNat, hi, decide_true, Bool.true_and, BitVec.getLsbD_zero]
      have h1 := hb i hi
      unfold bitB at h1
      rw [Int.toNat_natCast, Int.toNat_natCast] at h1
      cases h2 : a.testBit i
      · simp
      · rw [h1 h2]; simp
    rw [hz]; rfl
  exact ⟨key hm.1 hn.1 fun i hi hb => by have := h i (by omega); rw [hasM_lo hi, hasM_lo hi] at this; exact this hb, key hm.2 hn.2 fun i hi hb => by have := h (64 + i) (by omega); rw [hasM_hi hi, hasM_hi hi] at this; exact this hb⟩
theorem putW_get {s d : List Int} {l : List VMk} {q : Nat} : ∀ w, w ≤ l.length → (putW s d l w).getD q zMk = if q < w then putM (l.getD q zMk) (d.getD q 0).toNat else l.getD q zMk
  | 0, _ => by simp [putW]
  | w + 1, h => by
    have ih := fun q => putW_get (s := s) (d := d) (l := l) (q := q) w (by omega)
    have hl := putW_len s d l w
    rw [putW, putD]
    by_cases e : w = q
    · subst e
      rw [if_pos (by omega)]
      have e2 : ((putW s d l w).set w (putM ((putW s d l w).getD w zMk) (d.getD w 0).toNat)).getD w zMk = putM ((putW s d l w).getD w zMk) (d.getD w 0).toNat := by simp [List.getD, show w < (putW s d l w).length by omega]
      rw [e2, ih w, if_neg (by omega)]
    · have e2 : ((putW s d l w).set w (putM ((putW s d l w).getD w zMk) (d.getD w 0).toNat)).getD q zMk = (putW s d l w).getD q zMk := by simp [List.getD, List.getElem?_set, e]
      rw [e2, ih q]
      by_cases h2 : q < w
      · rw [if_pos h2, if_pos (by omega)]
      · rw [if_neg h2, if_neg (by omega)]
section
variable {s vs : List Int} {ok : Nat → Bool}
end
/-! the law -/
def PhsOk (L : List VPh) : Prop := ∀ k, k < L.length → OkPh (L.getD k zPh) ∧ photoOk [10, 10] (L.getD k zPh).l = true
end Go.W

/- Photos that are drawn; sums of steps. -/
set_option linter.unusedVariables false
set_option linter.unusedSimpArgs false
namespace Go.W
open Go Go.Sx
/-- A photo in the making: it shows the digits, and others below the bases. -/
structure BlP (s a : List Int) (l : List VMk) : Prop where
  len : l.length = 8
  ok : okMs l
  has : ∀ w, w < s.length → hasM (l.getD w zMk) (a.getD w 0).toNat = true
  lt : ∀ w d, d < 128 → hasM (l.getD w zMk) d = true → w < s.length ∧ (d : Int) < s.getD w 0
structure BlS where
  l : List VMk
  at_ : Int
  sd : Int
  k : Nat
structure BlT where
  l : List VMk
  at_ : Int
  sd : Int
  j : Int
theorem set_getM {l : List VMk} {i w : Nat} {y : VMk} (h : i < l.length) : (l.set i y).getD w zMk = if i = w then y else l.getD w zMk := by
  simp only [List.getD, List.getElem?_set]
  by_cases e : i = w
  · subst e; simp [h]
  · simp [e]
theorem BlP.set {s a : List Int} {l : List VMk} (h : BlP s a l) {i : Nat} (hi : i < s.length) (h8 : s.length ≤ 8) {y : VMk} (hy : OkMk y) (h1 : hasM y (a.getD i 0).toNat = true) (h2 : ∀ d, d < 128 → hasM y d = true → (d : Int) < s.getD i 0) : BlP s a (l.set i y) := by
  have hl : i < l.length := by rw [h.len]; omega
  refine ⟨by rw [List.length_set, h.len], fun q => ?_, fun w hw => ?_, fun w d hd hh => ?_⟩
  · rw [set_getM hl]; split
    · exact hy
    · exact h.ok q
  · rw [set_getM hl]; split
    · rename_i e; subst e; exact h1
    · exact h.has w hw
  · rw [set_getM hl] at hh; split at hh
    · rename_i e; subst e; exact ⟨hi, h2 d hd hh⟩
    · exact h.lt w d hd hh
theorem BlP.put {s a : List Int} {l : List VMk} (h : BlP s a l) (hs : Stk s) (ha : DigOk s a) {i : Nat} (hi : i < s.length) {x : Int} (hx : 0 ≤ x ∧ x < s.getD i 0) : BlP s a (l.set i (putM (l.getD i zMk) x.toNat)) := by
  have hb := hs.bases i hi
  have h1 := ha i hi
  refine h.set hi hs.len8 (putM_ok (h.ok i) (by omega)) ?_ fun d hd hh => ?_
  · rw [has_put (by omega) (by omega), h.has i hi, Bool.or_true]
  · rw [has_put (by omega) hd, Bool.or_eq_true, decide_eq_true_iff] at hh
    rcases hh with hh | hh
    · omega
    · exact (h.lt i d hd hh).2
theorem BlP.full {s a : List Int} {l : List VMk} (h : BlP s a l) (hs : Stk s) (ha : DigOk s a) {i : Nat} (hi : i < s.length) : BlP s a (l.set i (fullM (s.getD i 0).toNat)) := by
  have hb := hs.bases i hi
  have h1 := ha i hi
  refine h.set hi hs.len8 (fullM_ok (by omega)) ?_ fun d hd hh => ?_
  · rw [has_full (by omega) (by omega), decide_eq_true_iff]; omega
  · rw [has_full (by omega) hd, decide_eq_true_iff] at hh; omega
theorem zPh_get (w : Nat) : zPh.l.getD w zMk = zMk := by
  match w with
  | 0 | 1 | 2 | 3 | 4 | 5 | 6 | 7 => rfl
  | _ + 8 => rfl
theorem BlP.of {s a : List Int} (hs : Stk s) (ha : DigOk s a) : BlP s a (phot (putW s a zPh.l s.length)).l := by
  have h8 := hs.len8
  have hl : (putW s a zPh.l s.length).length = 8 := by rw [putW_len]; rfl
  have hg := fun q => putW_get (s := s) (d := a) (l := zPh.l) (q := q) s.length (by rw [ph_len]; omega)
  have hd : ∀ w, w < s.length → (a.getD w 0).toNat < 128 := fun w hw => by have := ha w hw; have := hs.bases w hw; omega
  rw [phot_l hl]
  refine ⟨hl, putW_ok okMs_z hd _ (Nat.le_refl _), fun w hw => ?_, fun w d hd2 hh => ?_⟩
  · rw [hg, if_pos hw, has_put (hd w hw) (hd w hw)]; simp
  · rw [hg] at hh
    split at hh
    · rename_i hw
      rw [zPh_get, has_put (hd w hw) hd2, has_z, Bool.or_false, decide_eq_true_iff] at hh
      have := ha w hw
      exact ⟨hw, by omega⟩
    · rw [zPh_get, has_z] at hh; cases hh
theorem BlP.photo {s a : List Int} {l : List VMk} (h : BlP s a l) (hs : Stk s) (ha : DigOk s a) : OkPh (phot l) ∧ photoOk s (phot l).l = true ∧ showsM s (phot l).l a = true := by
  rw [phot_l h.len]
  refine ⟨fun q hq => by rw [phot_l h.len]; exact h.ok q, ?_, ?_⟩
  · unfold photoOk
    rw [List.all_eq_true]
    intro w hw
    have hw : w < 8 := by simpa using hw
    unfold phAt
    split
    · rename_i hws
      have hb := hs.bases w hws
      rw [Bool.and_eq_true, Bool.not_eq_true', decide_eq_false_iff_not]
      refine ⟨fun e => ?_, has_sub (h.ok w) (fullM_ok (by omega)) fun d hd hh => ?_⟩
      · have e2 : l.getD w zMk = zMk := mk_inj e
        have := h.has w hws
        rw [e2, has_z] at this; cases this
      · have := (h.lt w d hd hh).2
        rw [has_full (by omega) hd, decide_eq_true_iff]; omega
    · rename_i hws
      rw [decide_eq_true_iff]
      have e : l.getD w zMk = zMk := has_ext (h.ok w) okZ fun d hd => by
        rw [has_z, ← Bool.not_eq_true]; intro hh; exact hws (h.lt w d hd hh).1
      rw [e]; rfl
  · unfold showsM
    rw [List.all_eq_true]
    intro w hw
    exact h.has w (by simpa using hw)
theorem bl_put {l : List VMk} {i q : Nat} {y : VMk} {v : List Value} (h : i < l.length) (hq : q = i * 2) (hv : v = encMk y) : put (l.flatMap encMk) q v = (l.set i y).flatMap encMk := by
  subst hq hv; exact flat_put encMk_len _ _ _ h
theorem nums2 : Nums 255 ([10, 10] : List Int) := fun x hx => by simp at hx; omega
theorem PhsOk.nil : PhsOk [] := fun k hk => by simp at hk
def In100 (l : List Int) : Prop := ∀ i, i < l.length → 0 ≤ l.getD i 0 ∧ l.getD i 0 < 100
theorem In100.nil : In100 [] := fun k hk => by simp at hk
theorem PhsOk.all {L : List VPh} (h : PhsOk L) : ∀ p ∈ L, OkPh p := fun p hp => by
  obtain ⟨i, hi, rfl⟩ := List.getElem_of_mem hp
  have := (h i hi).1
  simpa [List.getD, hi] using this
end Go.W

/- Room for a list: append of zeros to nil; cap; an array behind a slice; a slice of an array from a place on. -/
set_option linter.unusedSimpArgs false
set_option linter.unusedVariables false
namespace Go.Sx
open Go Go.RowKit
variable {C : Cx} {env : Env} {m : List Ent} {o : Oper} {K : Env → List Ent → Prop}
end Go.Sx

/- Lists laid one behind the other. -/
set_option linter.unusedVariables false
set_option linter.unusedSimpArgs false
namespace Go.W
open Go Go.Sx
section
variable {α : Type} {K : List (VX α)} {k : Nat}
end
end Go.W

/- The next value in a photo. -/
set_option linter.unusedVariables false
set_option linter.unusedSimpArgs false
namespace Go.W
open Go Go.Sx
/-! in the list of a mark's digits -/
/-! the digits of the next value -/
/-! the rest of a stack, of a photo, of digits -/
end Go.W

/- The rest of an array; what stands behind a drawn region. -/
set_option linter.unusedVariables false
set_option linter.unusedSimpArgs false
namespace Go.Sx
open Go Go.RowKit
variable {C : Cx} {env : Env} {m : List Ent} {o : Oper} {Q : Post}
end Go.Sx

/- The next value in a photo: what the program puts together. -/
set_option linter.unusedVariables false
set_option linter.unusedSimpArgs false
namespace Go.W
open Go Go.Sx Go.RowKit
end Go.W

/- Readings and totals in plain numbers. -/
set_option linter.unusedVariables false
set_option linter.unusedSimpArgs false
namespace Go.W
open Go Go.Sx
structure VP where
  a : Int
  b : Int
def encP (p : VP) : List Value := [.int .i64 p.a, .int .i64 p.b]
def zP : VP := ⟨0, 0⟩
/-! totals -/
def okT (l : List VP) (i : Nat) : Bool := decide (0 ≤ (l.getD i zP).a ∧ (l.getD i zP).a ≤ 100000 ∧ 0 ≤ (l.getD i zP).b ∧ (l.getD i zP).b ≤ 1000000000000 ∧ (0 < i → (l.getD (i - 1) zP).a < (l.getD i zP).a ∧ (l.getD (i - 1) zP).b ≤ (l.getD i zP).b))
def validTot (l : List VP) : Bool := decide (l.length ≤ 60) && (List.range l.length).all (okT l)
structure Tot (l : List VP) : Prop where
  len : l.length ≤ 60
  day : ∀ i, i < l.length → 0 ≤ (l.getD i zP).a ∧ (l.getD i zP).a ≤ 100000
  cnt : ∀ i, i < l.length → 0 ≤ (l.getD i zP).b ∧ (l.getD i zP).b ≤ 1000000000000
  up : ∀ i, i + 1 < l.length → (l.getD i zP).a < (l.getD (i + 1) zP).a ∧ (l.getD i zP).b ≤ (l.getD (i + 1) zP).b
theorem Tot.lt {l : List VP} (h : Tot l) {i : Nat} : ∀ {j : Nat}, i < j → j < l.length → (l.getD i zP).a < (l.getD j zP).a ∧ (l.getD i zP).b ≤ (l.getD j zP).b
  | j + 1, hij, hj => by
    have h1 := h.up j hj
    rcases Nat.lt_or_ge i j with h2 | h2
    · have h3 := h.lt h2 (by omega)
      omega
    · rw [show i = j by omega]; exact h1
/-! the count up to a day -/
def onI (l : List VP) (day : Int) : Nat := l.countP (fun p => decide (p.a ≤ day)) - 1
theorem on_at {l : List VP} (h : Tot l) {day : Int} {i : Nat} (hi : i < l.length) (h1 : (l.getD i zP).a ≤ day) (h2 : i + 1 < l.length → day < (l.getD (i + 1) zP).a) : onI l day = i := by
  have e : l = l.take (i + 1) ++ l.drop (i + 1) := (List.take_append_drop _ _).symm
  have c1 : (l.take (i + 1)).countP (fun p => decide (p.a ≤ day)) = i + 1 := by
    rw [show i + 1 = (l.take (i + 1)).length by simp; omega]
    rw [List.length_take, show min (i + 1) l.length = i + 1 by omega]
    rw [List.countP_eq_length.2]
    · simp; omega
    · intro x hx
      obtain ⟨j, hj, rfl⟩ := List.getElem_of_mem hx
      have hj' : j < i + 1 := by simp at hj; omega
      rw [decide_eq_true_iff, List.getElem_take]
      have e2 : l[j]'(by omega) = l.getD j zP := by simp [List.getD, show j < l.length by omega]
      rw [e2]
      rcases Nat.lt_or_ge j i with h3 | h3
      · have := (h.lt h3 hi).1; omega
      · rw [show j = i by omega]; exact h1
  have c2 : (l.drop (i + 1)).countP (fun p => decide (p.a ≤ day)) = 0 := by
    rw [List.countP_eq_zero]
    intro x hx
    obtain ⟨j, hj, rfl⟩ := List.getElem_of_mem hx
    have hj' : i + 1 + j < l.length := by simp at hj; omega
    rw [List.getElem_drop, decide_eq_true_iff]
    have e2 : l[i + 1 + j]'hj' = l.getD (i + 1 + j) zP := by simp [List.getD, hj']
    rw [e2]
    have h3 := h2 (by omega)
    rcases Nat.eq_zero_or_pos j with h4 | h4
    · rw [h4, Nat.add_zero]; omega
    · have := (h.lt (show i + 1 < i + 1 + j by omega) hj').1; omega
  unfold onI
  conv => lhs; rw [e]
  rw [List.countP_append, c1, c2]; omega
theorem frac_bd {m d e : Int} (hm : 0 ≤ m) (hd : 0 ≤ d) (he : d ≤ e) (hp : 0 < e) : 0 ≤ m * d ∧ m * d ≤ m * e ∧ 0 ≤ m * d / e ∧ m * d / e ≤ m := by
  have h1 : 0 ≤ m * d := Int.mul_nonneg hm hd
  have h2 : m * d ≤ m * e := Int.mul_le_mul_of_nonneg_left he hm
  refine ⟨h1, h2, Int.ediv_nonneg h1 (by omega), ?_⟩
  have := Int.ediv_le_ediv hp h2
  rwa [Int.mul_ediv_cancel _ (by omega)] at this
/-- What an index that is found tells. -/
structure OnAt (l : List VP) (day : Int) (i : Nat) : Prop where
  lt : i < l.length
  le : (l.getD i zP).a ≤ day
  nx : i + 1 < l.length → day < (l.getD (i + 1) zP).a
theorem OnAt.idx {l : List VP} (h : Tot l) {day : Int} {i : Nat} (ho : OnAt l day i) : onI l day = i := on_at h ho.lt ho.le ho.nx
theorem OnAt.bd {l : List VP} {day : Int} {i : Nat} (h : Tot l) (ho : OnAt l day i) (hi : i + 1 < l.length) :
    0 ≤ ((l.getD (i + 1) zP).b - (l.getD i zP).b) * (day - (l.getD i zP).a) ∧ ((l.getD (i + 1) zP).b - (l.getD i zP).b) * (day - (l.getD i zP).a) ≤ 100000000000000000
    ∧ 0 ≤ ((l.getD (i + 1) zP).b - (l.getD i zP).b) * (day - (l.getD i zP).a) / ((l.getD (i + 1) zP).a - (l.getD i zP).a)
    ∧ ((l.getD (i + 1) zP).b - (l.getD i zP).b) * (day - (l.getD i zP).a) / ((l.getD (i + 1) zP).a - (l.getD i zP).a) ≤ (l.getD (i + 1) zP).b - (l.getD i zP).b
    ∧ 0 < (l.getD (i + 1) zP).a - (l.getD i zP).a := by
  have h1 := h.up i hi
  have h2 := ho.le
  have h3 := ho.nx hi
  have h4 := h.cnt i (by omega)
  have h5 := h.cnt (i + 1) hi
  have h6 := h.day i (by omega)
  have h7 := h.day (i + 1) hi
  have hf := frac_bd (m := (l.getD (i + 1) zP).b - (l.getD i zP).b) (d := day - (l.getD i zP).a) (e := (l.getD (i + 1) zP).a - (l.getD i zP).a) (by omega) (by omega) (by omega) (by omega)
  have hx : ((l.getD (i + 1) zP).b - (l.getD i zP).b) * ((l.getD (i + 1) zP).a - (l.getD i zP).a) ≤ 1000000000000 * 100000 := Int.mul_le_mul (by omega) (by omega) (by omega) (by omega)
  exact ⟨hf.1, by omega, hf.2.2.1, hf.2.2.2, by omega⟩
/-! lists of totals -/
structure VS where
  A : Option Addr
  c : Nat
  xs : List VP
def zS : VS := ⟨none, 0, []⟩
end Go.W

/- Drifts, and totals out of a log, in plain numbers. -/
set_option linter.unusedVariables false
set_option linter.unusedSimpArgs false
namespace Go.W
open Go Go.Sx
/-! logs -/
def okR (s : List Int) (l : List VP) (i : Nat) : Bool := decide (0 ≤ (l.getD i zP).a ∧ (l.getD i zP).a ≤ 100000 ∧ 0 ≤ (l.getD i zP).b ∧ (l.getD i zP).b ≤ size s - 1 ∧ (0 < i → (l.getD (i - 1) zP).a < (l.getD i zP).a))
def validLog (s : List Int) (l : List VP) : Bool := validStack s && (decide (l.length ≤ 40) && (List.range l.length).all (okR s l))
theorem vl_yes {s : List Int} {l : List VP} {k : Nat} (hs : validStack s = true) (h : l.length ≤ 40) (hk : ¬ k < l.length) (hall : ∀ i, i < k → okR s l i = true) : true = validLog s l := by
  unfold validLog; rw [hs, decide_eq_true h, Bool.true_and, Bool.true_and]; symm; rw [List.all_eq_true]; intro i hi; exact hall i (by simp at hi; omega)
structure Log (s : List Int) (l : List VP) : Prop where
  stk : validStack s = true
  len : l.length ≤ 40
  day : ∀ i, i < l.length → 0 ≤ (l.getD i zP).a ∧ (l.getD i zP).a ≤ 100000
  val : ∀ i, i < l.length → 0 ≤ (l.getD i zP).b ∧ (l.getD i zP).b ≤ size s - 1
  up : ∀ i, i + 1 < l.length → (l.getD i zP).a < (l.getD (i + 1) zP).a
theorem okr_t {s : List Int} {l : List VP} {i : Nat} (h1 : 0 ≤ (l.getD i zP).a ∧ (l.getD i zP).a ≤ 100000) (h2 : 0 ≤ (l.getD i zP).b ∧ (l.getD i zP).b ≤ size s - 1) (h3 : 0 < i → (l.getD (i - 1) zP).a < (l.getD i zP).a) : okR s l i = true := by
  unfold okR; rw [decide_eq_true_iff]; exact ⟨h1.1, h1.2, h2.1, h2.2, h3⟩
def rdOk (s : List Int) (r : VP) : Bool := decide (0 ≤ r.a ∧ r.a ≤ 100000 ∧ 0 ≤ r.b ∧ r.b ≤ size s - 1)
/-! totals out of a log -/
end Go.W

/- Lists of totals, and leaks, in plain numbers. -/
set_option linter.unusedVariables false
set_option linter.unusedSimpArgs false
namespace Go.W
open Go Go.Sx
/-! a list of lists that is made -/
/-! marks in them -/
/-! leaks -/
def vB (x : List VP) (L : List VS) : Nat → Bool
  | 0 => validTot x
  | k + 1 => validTot (L.getD k zS).xs
end Go.W

/- Drifts of lists that are drawn, in plain numbers. -/
set_option linter.unusedVariables false
set_option linter.unusedSimpArgs false
namespace Go.W
open Go Go.Sx
/-- A list in the making, and what comes next. -/
structure Dr (l : List VP) (p : VP) : Prop where
  len : l.length ≤ 6
  a0 : 0 ≤ p.a
  a1 : p.a ≤ 5 + 6 * (l.length : Int)
  b0 : 0 ≤ p.b
  b1 : p.b ≤ 19 + 29 * (l.length : Int)
  each : ∀ i, i < l.length → 0 ≤ (l.getD i zP).a ∧ (l.getD i zP).a < p.a ∧ 0 ≤ (l.getD i zP).b ∧ (l.getD i zP).b ≤ p.b
  up : ∀ i, i + 1 < l.length → (l.getD i zP).a < (l.getD (i + 1) zP).a ∧ (l.getD i zP).b ≤ (l.getD (i + 1) zP).b
theorem snoc_at {l : List VP} {p : VP} {i : Nat} (h : i < l.length) : (l ++ [p]).getD i zP = l.getD i zP := by
  simp only [List.getD]; rw [List.getElem?_append_left h]
theorem snoc_last {l : List VP} {p : VP} : (l ++ [p]).getD l.length zP = p := by simp [List.getD]
theorem Dr.nil {p : VP} (h1 : 0 ≤ p.a ∧ p.a ≤ 5) (h2 : 0 ≤ p.b ∧ p.b ≤ 19) : Dr [] p :=
  ⟨by simp, h1.1, by simpa using h1.2, h2.1, by simpa using h2.2, fun i hi => by simp at hi, fun i hi => by simp at hi⟩
theorem Dr.next {l : List VP} {p q : VP} (h : Dr l p) (hl : l.length < 6) (h1 : p.a + 1 ≤ q.a ∧ q.a ≤ p.a + 6) (h2 : p.b ≤ q.b ∧ q.b ≤ p.b + 29) : Dr (l ++ [p]) q := by
  have hln : (l ++ [p]).length = l.length + 1 := by simp
  have := h.a0; have := h.a1; have := h.b0; have := h.b1
  refine ⟨by omega, by omega, by rw [hln]; omega, by omega, by rw [hln]; omega, fun i hi => ?_, fun i hi => ?_⟩
  · rw [hln] at hi
    rcases Nat.lt_or_ge i l.length with h3 | h3
    · rw [snoc_at h3]; have := h.each i h3; omega
    · rw [show i = l.length by omega, snoc_last]; omega
  · rw [hln] at hi
    rcases Nat.lt_or_ge (i + 1) l.length with h3 | h3
    · rw [snoc_at h3, snoc_at (by omega)]; exact h.up i h3
    · rw [show i + 1 = l.length by omega, snoc_last, snoc_at (by omega)]; have := h.each i (by omega); omega
/-! the worst drift -/
/-! the count on a day, and the drift -/
/-! lists that are small -/
theorem rd1 {w : World} {A : Option Addr} {c : Nat} {x : List VP} (h1 : Rd w A (x.flatMap encP)) : ∀ k, k < [(⟨A, c, x⟩ : VS)].length → Rd w ([(⟨A, c, x⟩ : VS)].getD k zS).A (([(⟨A, c, x⟩ : VS)].getD k zS).xs.flatMap encP)
  | 0, _ => h1
theorem len1 {A : Option Addr} {c : Nat} {x : List VP} (h1 : x.length ≤ maxLen) : ∀ k, k < [(⟨A, c, x⟩ : VS)].length → ([(⟨A, c, x⟩ : VS)].getD k zS).xs.length ≤ maxLen
  | 0, _ => h1
/-! what has been seen up to a day -/
end Go.W

/- Stories of a log in plain numbers: what fits, and what is best from a reading on. -/
set_option linter.unusedVariables false
set_option linter.unusedSimpArgs false
namespace Go.W
open Go Go.Sx
def validFlow (f : VP) : Bool := decide (0 ≤ f.a ∧ f.a ≤ f.b ∧ f.b ≤ 1000000)
theorem flow_of {f : VP} (h : validFlow f = true) : 0 ≤ f.a ∧ f.a ≤ f.b ∧ f.b ≤ 1000000 := by unfold validFlow at h; exact of_decide_eq_true h
def lowF (f a b : VP) : Int := f.a * (b.a - a.a)
def highF (f a b : VP) : Int := f.b * (b.a - a.a)
def fitV (z : Int) (f a b : VP) : Bool := decide (lowF f a b + (b.b - a.b - lowF f a b) % z ≤ highF f a b)
theorem mul_bd {x d : Int} (hx : 0 ≤ x ∧ x ≤ 1000000) (hd : -100000 ≤ d ∧ d ≤ 100000) : -100000000000 ≤ x * d ∧ x * d ≤ 100000000000 := by
  have h1 : x * d ≤ x * 100000 := Int.mul_le_mul_of_nonneg_left hd.2 hx.1
  have h2 : x * -100000 ≤ x * d := Int.mul_le_mul_of_nonneg_left hd.1 hx.1
  omega
theorem low_bd {f a b : VP} (hf : validFlow f = true) (ha : 0 ≤ a.a ∧ a.a ≤ 100000) (hb : 0 ≤ b.a ∧ b.a ≤ 100000) : -100000000000 ≤ lowF f a b ∧ lowF f a b ≤ 100000000000 := by
  have h := flow_of hf
  exact mul_bd (by omega) (by omega)
theorem high_bd {f a b : VP} (hf : validFlow f = true) (ha : 0 ≤ a.a ∧ a.a ≤ 100000) (hb : 0 ≤ b.a ∧ b.a ≤ 100000) : -100000000000 ≤ highF f a b ∧ highF f a b ≤ 100000000000 := by
  have h := flow_of hf
  exact mul_bd (by omega) (by omega)
theorem md_bd {z : Int} (h : 1 ≤ z) (a : Int) : 0 ≤ a % z ∧ a % z < z := ⟨Int.emod_nonneg a (by omega), Int.emod_lt_of_pos a (by omega)⟩
/-- What is known of a reading of a valid log. -/
def OkRd (z : Int) (r : VP) : Prop := (0 ≤ r.a ∧ r.a ≤ 100000) ∧ 0 ≤ r.b ∧ r.b ≤ z - 1
theorem Log.rd {s : List Int} {l : List VP} (h : Log s l) {i : Nat} (hi : i < l.length) : OkRd (size s) (l.getD i zP) := ⟨h.day i hi, h.val i hi⟩
/-! the best from a reading on -/
def brk (b : Bool) : Int := if b = true then 0 else 1
/-! the best of all -/
/-! what comes ahead of a reading -/
def finV (fit : Nat → Nat → Bool) (i : Nat) (L : List Int) : Nat → Int
  | 0 => i
  | k + 1 => min (finV fit i L k) (L.getD k 0 + (((i - k - 1 : Nat) : Int) + 2 * brk (fit k i)))
def fl (fit : Nat → Nat → Bool) : Nat → List Int
  | 0 => []
  | i + 1 => fl fit i ++ [finV fit i (fl fit i) i]
end Go.W

/- Journals that are drawn, in plain numbers. -/
set_option linter.unusedVariables false
set_option linter.unusedSimpArgs false
namespace Go.W
open Go Go.Sx
/-- A device as it is drawn. -/
def DrDev (d : VDev) : Prop := OkDev d ∧ validDev d = true ∧ d.stack.length ≤ 4 ∧ 0 ≤ d.tickets ∧ d.tickets ≤ 19
/-- An act as it is drawn for a device with this stack. -/
def OkJ (s : List Int) (a : VAct) : Prop := ((a.kind = 1 ∨ a.kind = 2) ∧ 0 ≤ a.n ∧ a.n ≤ 19) ∨ (a.kind = 3 ∧ -1 ≤ a.n ∧ a.n ≤ 28 ∧ a.n ≤ size s - 1) ∨ ((a.kind = 4 ∨ a.kind = 5) ∧ a.n = 0)
theorem OkJ.valid {s : List Int} {a : VAct} (h : OkJ s a) : validAct a = true := by
  unfold validAct; rw [decide_eq_true_iff]; unfold OkJ at h; omega
theorem OkJ.ok {s : List Int} {a : VAct} (h : OkJ s a) : OkAct a := by
  unfold OkAct I64; unfold OkJ at h; omega
end Go.W
namespace Go.W
open Go Go.Sx
/-! batches -/
theorem getD_l {α : Type} {l t : List α} {d : α} {i : Nat} (h : i < l.length) : (l ++ t).getD i d = l.getD i d := by
  simp only [List.getD]; rw [List.getElem?_append_left h]
theorem getD_r {α : Type} {l t : List α} {d : α} {i n : Nat} (h : l.length = n) : (l ++ t).getD (n + i) d = t.getD i d := by
  subst h; simp only [List.getD]; rw [List.getElem?_append_right (by omega)]; simp
end Go.W
namespace Go.W
open Go Go.Sx
end Go.W

/- A rest is at most the number. -/
namespace Go.W
open Go Go.Sx
theorem mod_le {z n : Int} (hz : 0 ≤ z) (hn : 0 < n) : z % n ≤ z := by
  rcases Int.lt_or_le z n with h | h
  · rw [Int.emod_eq_of_lt hz h]; exact Int.le_refl _
  · have := Int.emod_lt_of_pos z hn; omega
end Go.W

/- Stacks, devices and acts that are drawn; what the law of journals asks. -/
set_option linter.unusedVariables false
set_option linter.unusedSimpArgs false
namespace Go.W
open Go Go.Sx
/-- A stack in the making. -/
def StkP (l : List Int) : Prop := ∀ i, i < l.length → 2 ≤ l.getD i 0 ∧ l.getD i 0 ≤ 100
structure StS where
  l : List Int
  k : Int
  at_ : Int
  sd : Int
  A : Option Addr
  c : Nat
theorem StkP.nil : StkP [] := fun i hi => by simp at hi
theorem StkP.next {l : List Int} {x : Int} (h : StkP l) (hx : 2 ≤ x ∧ x ≤ 100) : StkP (l ++ [x]) := fun i hi => by
  rcases Nat.lt_or_ge i l.length with h1 | h1
  · rw [getD_l h1]; exact h i h1
  · have : i = l.length + 0 := by simp at hi; omega
    subst this; rw [getD_r rfl]; exact hx
theorem prod_pow : ∀ {l : List Int}, StkP l → 1 ≤ prod l ∧ prod l ≤ 100 ^ l.length
  | [], _ => by simp [prod]
  | b :: s, h => by
    have h1 := h 0 (by simp)
    have h2 := prod_pow (l := s) fun i hi => by have := h (i + 1) (by simp; omega); simpa using this
    have h1' : 2 ≤ b ∧ b ≤ 100 := by simpa using h1
    have h3 : 2 * 1 ≤ b * prod s := Int.mul_le_mul h1'.1 h2.1 (by omega) (by omega)
    have h4 : b * prod s ≤ 100 * 100 ^ s.length := Int.mul_le_mul h1'.2 h2.2 (by omega) (by omega)
    have h5 : (100 : Int) ^ (s.length + 1) = 100 * 100 ^ s.length := by rw [Int.pow_succ, Int.mul_comm]
    simp only [prod, List.length_cons, h5]; omega
/-- A stack as it is drawn. -/
def DrStk (l : List Int) : Prop := StkP l ∧ 1 ≤ l.length ∧ l.length ≤ 4
theorem DrStk.nums {l : List Int} (h : DrStk l) : Nums 255 l := fun x hx => by
  obtain ⟨i, hi, rfl⟩ := List.getElem_of_mem hx
  have := h.1 i hi
  simp only [List.getD, List.getElem?_eq_getElem hi, Option.getD_some] at this
  omega
theorem DrStk.size {l : List Int} (h : DrStk l) : size l = prod l ∧ 1 ≤ prod l ∧ prod l ≤ 100000000 := by
  have h1 := prod_pow h.1
  have h2 : (100 : Int) ^ l.length ≤ 100000000 := by
    obtain ⟨h3, h4, h5⟩ := h
    have h6 : l.length = 1 ∨ l.length = 2 ∨ l.length = 3 ∨ l.length = 4 := by omega
    rcases h6 with h6 | h6 | h6 | h6 <;> rw [h6] <;> decide
  have h6 := size_prod (s := l) h.1
  exact ⟨by omega, h1.1, by omega⟩
theorem DrStk.valid {l : List Int} (h : DrStk l) : validStack l = true := by
  have h1 := h.size
  unfold validStack; rw [decide_eq_true_iff]
  exact ⟨h.2.1, by have := h.2.2; omega, h.1, by omega⟩
theorem DrDev.len {d : VDev} (h : DrDev d) : 0 < d.stack.length ∧ d.stack.length ≤ 4 ∧ validStack d.stack = true ∧ Nums 255 d.stack ∧ 2 ≤ size d.stack ∧ size d.stack ≤ 1000000000000 := by
  obtain ⟨hk, hv, hl, _⟩ := h
  have hO := devOk hk.2.2.1 hv
  have h1 : validStack d.stack = true := by unfold validDev at hv; rw [decide_eq_true_iff] at hv; exact hv.1
  have h2 := hO.stk.len1
  have h3 := sizeS hO
  have h4 := hO.stk.le
  have h5 := size_two hO.stk
  exact ⟨by omega, hl, h1, hk.2.1, by omega, by omega⟩
def ActP (s : List Int) (l : List VAct) : Prop := ∀ i, i < l.length → OkJ s (l.getD i zA)
theorem ActP.nil {s : List Int} : ActP s [] := fun i hi => by simp at hi
theorem ActP.next {s : List Int} {l : List VAct} {x : VAct} (h : ActP s l) (hx : OkJ s x) : ActP s (l ++ [x]) := fun i hi => by
  rcases Nat.lt_or_ge i l.length with h1 | h1
  · rw [getD_l h1]; exact h i h1
  · have : i = l.length + 0 := by simp at hi; omega
    subst this; rw [getD_r rfl]; exact hx
theorem mem_at {α : Type} {p : α → Prop} {l : List α} (d : α) (h : ∀ i, i < l.length → p (l.getD i d)) : ∀ x ∈ l, p x := fun x hx => by
  obtain ⟨i, hi, rfl⟩ := List.getElem_of_mem hx
  have := h i hi
  simpa [List.getD, hi] using this
end Go.W

/- Three that may come in any order, each way walked by itself. -/
set_option linter.unusedVariables false
set_option linter.unusedSimpArgs false
namespace Go.Sx
open Go Go.RowKit
variable {C : Cx} {env : Env} {m : List Ent} {l : List Oper} {K : Env → List Ent → Prop} {S : List Ent} {fuel i j k : Nat} {done : List Nat} {oi oj ok : Oper}
theorem ExD.fork3 (hi : l[i]? = some oi) (hj : l[j]? = some oj) (hk : l[k]? = some ok) (h3 : readyOk l done [i, j, k] = true) (hgi : wantB l env oi = some true) (hgj : wantB l env oj = some true) (hgk : wantB l env ok = some true)
    (h : Op1 C oi env m fun env m => S.Sublist m ∧ ExD C l S fuel (i :: done) env m K) (h' : Op1 C oj env m fun env m => S.Sublist m ∧ ExD C l S fuel (j :: done) env m K) (h'' : Op1 C ok env m fun env m => S.Sublist m ∧ ExD C l S fuel (k :: done) env m K) : ExD C l S (fuel + 1) done env m K := by
  refine ExD.ops h3 (by simp) fun q hq => ?_
  rcases List.mem_cons.1 hq with rfl | hq
  · exact ⟨oi, hi, hgi, h⟩
  rcases List.mem_cons.1 hq with rfl | hq
  · exact ⟨oj, hj, hgj, h'⟩
  · obtain rfl : q = k := by simpa using hq
    exact ⟨ok, hk, hgk, h''⟩
end Go.Sx

/- Two lists of totals made one, in plain numbers. -/
set_option linter.unusedVariables false
set_option linter.unusedSimpArgs false
namespace Go.W
open Go Go.Sx
/-- The merged list, where no day is told twice with two counts. -/
def mg : List VP → List VP → List VP
  | [], t => t
  | x :: s, [] => x :: s
  | x :: s, y :: t => if x.a = y.a then mg (x :: s) t else if y.a < x.a then y :: mg (x :: s) t else x :: mg s (y :: t)
termination_by s t => s.length + t.length
/-- Whether a day is told with two counts. -/
def cf : List VP → List VP → Bool
  | [], _ => false
  | _ :: _, [] => false
  | x :: s, y :: t => if x.a = y.a then (decide (x.b ≠ y.b) || cf (x :: s) t) else if y.a < x.a then cf (x :: s) t else cf s (y :: t)
termination_by s t => s.length + t.length
theorem dropP {s : List VP} {k : Nat} (h : k < s.length) : s.drop k = s.getD k zP :: s.drop (k + 1) := by
  rw [List.drop_eq_getElem_cons h]; simp [List.getD, h]
variable {s t : List VP} {i j : Nat}
theorem mg_e (hi : i < s.length) (hj : j < t.length) (h : (s.getD i zP).a = (t.getD j zP).a) : mg (s.drop i) (t.drop j) = mg (s.drop i) (t.drop (j + 1)) := by
  rw [dropP hi, dropP hj, mg, if_pos h]
theorem cf_e (hi : i < s.length) (hj : j < t.length) (h : (s.getD i zP).a = (t.getD j zP).a) (h2 : (s.getD i zP).b = (t.getD j zP).b) : cf (s.drop i) (t.drop j) = cf (s.drop i) (t.drop (j + 1)) := by
  rw [dropP hi, dropP hj, cf, if_pos h, decide_eq_false (by simpa using h2), Bool.false_or]
/-- How far two lists have been gone through. -/
structure MSt where
  i : Nat
  j : Nat
  o : List VP
  A : Option Addr
  c : Nat
/-- What holds in the merging loop. -/
structure MI (s t : List VP) (q : MSt) : Prop where
  li : q.i ≤ s.length
  lj : q.j ≤ t.length
  mg : q.o ++ mg (s.drop q.i) (t.drop q.j) = mg s t
  cf : cf (s.drop q.i) (t.drop q.j) = cf s t
  len : q.o.length ≤ q.i + q.j
theorem MI.zero {A c} : MI s t ⟨0, 0, [], A, c⟩ := ⟨Nat.zero_le _, Nat.zero_le _, rfl, rfl, Nat.le_refl _⟩
theorem MI.skip {q : MSt} (h : MI s t q) (hi : q.i < s.length) (hj : q.j < t.length) (h1 : (s.getD q.i zP).a = (t.getD q.j zP).a) (h2 : (s.getD q.i zP).b = (t.getD q.j zP).b) {A c} : MI s t ⟨q.i, q.j + 1, q.o, A, c⟩ :=
  ⟨h.li, hj, by dsimp only; rw [← mg_e hi hj h1]; exact h.mg, by dsimp only; rw [← cf_e hi hj h1 h2]; exact h.cf, by have := h.len; dsimp only; omega⟩
theorem MI.fin {q : MSt} (h : MI s t q) (hi : s.length ≤ q.i) (hj : t.length ≤ q.j) : q.o = W.mg s t ∧ W.cf s t = false := by
  have h1 := h.mg
  have h2 := h.cf
  rw [List.drop_of_length_le hi, List.drop_of_length_le hj] at h1 h2
  rw [W.mg, List.append_nil] at h1
  rw [W.cf] at h2
  exact ⟨h1, h2.symm⟩
end Go.W

/- Totals: shares, counts by day, lists that are parted and made one, totals of a log that is drawn. -/
set_option linter.unusedVariables false
set_option linter.unusedSimpArgs false
namespace Go.W
open Go Go.Sx
/-! ### Shares -/
/-! ### Counts by day -/
/-! ### Lists that are parted -/
/-! ### Totals of a log -/
/-! ### A log that is drawn -/
structure LgP (z : Int) (l : List VP) (r : VP) : Prop where
  day : ∀ i, i < l.length → 0 ≤ (l.getD i zP).a ∧ (l.getD i zP).a < r.a
  val : ∀ i, i < l.length → 0 ≤ (l.getD i zP).b ∧ (l.getD i zP).b < z
  up : ∀ i, i + 1 < l.length → (l.getD i zP).a < (l.getD (i + 1) zP).a
  ra : 0 ≤ r.a ∧ r.a ≤ 4 + 4 * (l.length : Int)
  rb : 0 ≤ r.b ∧ r.b < z
theorem LgP.nil {z : Int} {r : VP} (h1 : 0 ≤ r.a ∧ r.a ≤ 4) (h2 : 0 ≤ r.b ∧ r.b < z) : LgP z [] r :=
  ⟨fun i hi => by simp at hi, fun i hi => by simp at hi, fun i hi => by simp at hi, by simp; omega, h2⟩
theorem snocP {l : List VP} {x : VP} {i : Nat} (hi : i < l.length + 1) : (l ++ [x]).getD i zP = if i = l.length then x else l.getD i zP := by
  by_cases e : i = l.length
  · subst e; rw [if_pos rfl]; simp [List.getD]
  · rw [if_neg e]; simp only [List.getD]; rw [List.getElem?_append_left (by omega)]
theorem LgP.next {z : Int} {l : List VP} {r x q : VP} (h : LgP z l r) (hx : x.a = r.a) (hb : 0 ≤ x.b ∧ x.b < z) (h1 : r.a + 1 ≤ q.a ∧ q.a ≤ r.a + 4) (h2 : 0 ≤ q.b ∧ q.b < z) : LgP z (l ++ [x]) q := by
  have hl : (l ++ [x]).length = l.length + 1 := by simp
  have hra := h.ra
  refine ⟨fun i hi => ?_, fun i hi => ?_, fun i hi => ?_, by rw [hl]; push_cast; omega, h2⟩
  · rw [hl] at hi
    rw [snocP hi]
    split
    · omega
    · have := h.day i (by omega); omega
  · rw [hl] at hi
    rw [snocP hi]
    split
    · exact hb
    · exact h.val i (by omega)
  · rw [hl] at hi
    rw [snocP (by omega), snocP hi, if_neg (by omega)]
    split
    · have := h.day i (by omega); omega
    · exact h.up i (by omega)
theorem LgP.valid {s : List Int} {l : List VP} {r : VP} (h : LgP (size s) l r) (hs : validStack s = true) (hl : l.length ≤ 8) : validLog s l = true := by
  have hra := h.ra
  refine (vl_yes (k := l.length) hs (by omega) (Nat.lt_irrefl _) fun i hi => ?_).symm
  have h1 := h.day i hi
  have h2 := h.val i hi
  exact okr_t ⟨h1.1, by omega⟩ ⟨h2.1, by omega⟩ fun h0 => by
    have := h.up (i - 1) (by omega)
    rwa [show i - 1 + 1 = i by omega] at this
end Go.W
namespace Go.W
open Go Go.Sx
def aAt (t : List Int) (i n : Int) : Int := if (t.length : Int) ≤ i then 0 else t.getD i.toNat 0 % n
theorem aAt_bd {t : List Int} {i n : Int} (ht : Nums 255 t) (hn : 1 ≤ n) : 0 ≤ aAt t i n ∧ aAt t i n < n := by
  unfold aAt
  split
  · omega
  · have h1 := Int.emod_nonneg (t.getD i.toNat 0) (show n ≠ 0 by omega)
    have h2 := Int.emod_lt_of_pos (t.getD i.toNat 0) (show 0 < n by omega)
    exact ⟨h1, h2⟩
end Go.W
namespace Go.W
open Go Go.Sx
end Go.W
