/- Marks of digits, photos: in plain numbers. -/
import Derived.Test.YthfbmkfbmmjchaaDoorM3
set_option linter.unusedVariables false
set_option linter.unusedSimpArgs false
namespace Go.W
open Go Go.Sx
structure VMk where
  lo : Int
  hi : Int
def VMk.l (m : VMk) : List Int := [m.lo, m.hi]
def encMk (m : VMk) : List Value := m.l.flatMap (eI .u64)
theorem encMk_len : ∀ m, (encMk m).length = 2 := fun _ => rfl
theorem mk_len (m : VMk) : m.l.length = 2 := rfl
def zMk : VMk := ⟨0, 0⟩
def mkL (l : List Int) : VMk := ⟨l.getD 0 0, l.getD 1 0⟩
theorem mkL_l {l : List Int} (h : l.length = 2) : (mkL l).l = l := by
  match l, h with
  | [_, _], _ => rfl
theorem encMk_mk {l : List Int} (h : l.length = 2) : encMk (mkL l) = l.flatMap (eI .u64) := by unfold encMk; rw [mkL_l h]
theorem mk_ext {a b : VMk} (h0 : a.lo = b.lo) (h1 : a.hi = b.hi) : a = b := by cases a; cases b; simp_all
theorem mk_inj {a b : VMk} (h : a.l = b.l) : a = b := by
  simp only [VMk.l, List.cons.injEq, and_true] at h; exact mk_ext h.1 h.2
structure VPh where
  m0 : VMk
  m1 : VMk
  m2 : VMk
  m3 : VMk
  m4 : VMk
  m5 : VMk
  m6 : VMk
  m7 : VMk
def VPh.l (p : VPh) : List VMk := [p.m0, p.m1, p.m2, p.m3, p.m4, p.m5, p.m6, p.m7]
def encPh (p : VPh) : List Value := p.l.flatMap encMk
theorem encPh_len : ∀ p, (encPh p).length = 16 := fun _ => rfl
theorem ph_len (p : VPh) : p.l.length = 8 := rfl
def phot (l : List VMk) : VPh := ⟨l.getD 0 zMk, l.getD 1 zMk, l.getD 2 zMk, l.getD 3 zMk, l.getD 4 zMk, l.getD 5 zMk, l.getD 6 zMk, l.getD 7 zMk⟩
theorem phot_l {l : List VMk} (h : l.length = 8) : (phot l).l = l := by
  match l, h with
  | [_, _, _, _, _, _, _, _], _ => rfl
theorem encPh_ph {l : List VMk} (h : l.length = 8) : encPh (phot l) = l.flatMap encMk := by unfold encPh; rw [phot_l h]
theorem ph_inj {a b : VPh} (h : a.l = b.l) : a = b := by
  cases a; cases b; simp only [VPh.l, List.cons.injEq, and_true] at h; obtain ⟨rfl, rfl, rfl, rfl, rfl, rfl, rfl, rfl⟩ := h; rfl
def zPh : VPh := phot []
def OkMk (m : VMk) : Prop := (0 ≤ m.lo ∧ m.lo < 18446744073709551616) ∧ 0 ≤ m.hi ∧ m.hi < 18446744073709551616
def OkPh (p : VPh) : Prop := ∀ i, i < 8 → OkMk (p.l.getD i zMk)
theorem okZ : OkMk zMk := ⟨⟨Int.le_refl _, by decide⟩, Int.le_refl _, by decide⟩
theorem OkMk.at_ {m : VMk} (h : OkMk m) (i : Nat) : 0 ≤ m.l.getD i 0 ∧ m.l.getD i 0 < 18446744073709551616 := by
  match i with
  | 0 => exact h.1
  | 1 => exact h.2
  | _ + 2 => simp [VMk.l]
/-! single bits -/
def bitB (x : Int) (i : Nat) : Bool := x.toNat.testBit i
def putB (x : Int) (i : Nat) : Int := ((x.toNat ||| 2 ^ i : Nat) : Int)
def cutB (x : Int) (i : Nat) : Int := ((x.toNat &&& (2 ^ 64 - 1 - 2 ^ i) : Nat) : Int)
theorem bitB_eq {x : Int} {i : Nat} (h : 0 ≤ x) : bitB x i = decide (x / 2 ^ i % 2 = 1) := by
  obtain ⟨n, rfl⟩ := Int.eq_ofNat_of_zero_le h
  unfold bitB
  rw [Int.toNat_natCast, Nat.testBit_eq_decide_div_mod_eq]
  refine decide_eq_decide.2 ?_
  constructor <;> intro h2 <;> exact_mod_cast h2
theorem wrap_u64n (n : Int) (h0 : 0 ≤ n) (h1 : n < 2 ^ 64) : IntKind.u64.wrap n = n := by rw [IntKind.wrap_u64]; omega
theorem bits_or1 {x : Int} {i : Nat} (hx : 0 ≤ x ∧ x < 18446744073709551616) (hi : i < 64) : bits .or .u64 x (2 ^ i) = putB x i := by
  obtain ⟨n, rfl⟩ := Int.eq_ofNat_of_zero_le hx.1
  have h := (bits_nat .u64 64 (Nat.le_refl _) wrap_u64n n (2 ^ i) (by omega) (Nat.pow_lt_pow_right (by omega) hi)).2
  unfold putB
  rw [Int.toNat_natCast, ← h]
  congr 1
theorem putB_bd {x : Int} {i : Nat} (hx : 0 ≤ x ∧ x < 18446744073709551616) (hi : i < 64) : 0 ≤ putB x i ∧ putB x i < 18446744073709551616 := by
  unfold putB
  have h : x.toNat ||| 2 ^ i < 2 ^ 64 := Nat.or_lt_two_pow (by omega) (Nat.pow_lt_pow_right (by omega) hi)
  generalize x.toNat ||| 2 ^ i = z at *
  omega
theorem bit_put (x : Int) (i j : Nat) : bitB (putB x i) j = (decide (i = j) || bitB x j) := by
  unfold bitB putB
  rw [Int.toNat_natCast, Nat.testBit_or, Nat.testBit_two_pow, Bool.or_comm]
theorem shl_one {i : Nat} (hi : i < 64) : IntKind.u64.wrap (1 * 2 ^ min (i : Int).toNat IntKind.u64.bits) = 2 ^ i := by
  have h : (2 : Int) ^ i < 2 ^ 64 := by
    have := Nat.pow_lt_pow_right (a := 2) (by omega) hi
    exact_mod_cast this
  have h0 : (0 : Int) ≤ 2 ^ i := Int.pow_nonneg (by omega)
  rw [Int.one_mul, Int.toNat_natCast, show min i IntKind.u64.bits = i from Nat.min_eq_left (by show i ≤ 64; omega), wrap_u64n _ h0 h]
theorem bits_one {y : Int} (h : 0 ≤ y ∧ y < 18446744073709551616) : bits .and .u64 y 1 = y % 2 := bits_mask .u64 64 (Nat.le_refl _) wrap_u64n 1 (by decide) y h.1 (by have := h.2; omega)
theorem bit_walk {x : Int} {i : Nat} (hx : 0 ≤ x ∧ x < 18446744073709551616) (hi : i < 64) : bits .and .u64 (x / 2 ^ min (i : Int).toNat IntKind.u64.bits) 1 = if bitB x i = true then 1 else 0 := by
  have h0 : (0 : Int) ≤ 2 ^ i := Int.pow_nonneg (by omega)
  have h1 := Int.ediv_nonneg hx.1 h0
  have h2 := Int.ediv_le_self (2 ^ i) hx.1
  rw [Int.toNat_natCast, show min i IntKind.u64.bits = i from Nat.min_eq_left (by show i ≤ 64; omega), bits_one (by omega), bitB_eq hx.1]
  by_cases h : x / 2 ^ i % 2 = 1
  · simp [h]
  · simp [h]; omega
theorem bit_ext {x y : Int} (hx : 0 ≤ x ∧ x < 18446744073709551616) (hy : 0 ≤ y ∧ y < 18446744073709551616) (h : ∀ i, i < 64 → bitB x i = bitB y i) : x = y := by
  have : x.toNat = y.toNat := by
    refine Nat.eq_of_testBit_eq fun i => ?_
    rcases Nat.lt_or_ge i 64 with hi | hi
    · exact h i hi
    · have hp : 2 ^ 64 ≤ 2 ^ i := Nat.pow_le_pow_right (by omega) hi
      rw [Nat.testBit_lt_two_pow (by omega), Nat.testBit_lt_two_pow (by omega)]
  omega
/-! marks -/
def hasM (m : VMk) (d : Nat) : Bool := bitB (m.l.getD (d / 64) 0) (d % 64)
def putM (m : VMk) (d : Nat) : VMk := mkL (m.l.set (d / 64) (putB (m.l.getD (d / 64) 0) (d % 64)))
theorem hasM_lo {m : VMk} {d : Nat} (h : d < 64) : hasM m d = bitB m.lo d := by
  unfold hasM; rw [show d / 64 = 0 by omega, show d % 64 = d by omega]; rfl
theorem hasM_hi {m : VMk} {d : Nat} (h : d < 64) : hasM m (64 + d) = bitB m.hi d := by
  unfold hasM; rw [show (64 + d) / 64 = 1 by omega, show (64 + d) % 64 = d by omega]; rfl
theorem putM_lo {m : VMk} {d : Nat} (h : d < 64) : putM m d = ⟨putB m.lo d, m.hi⟩ := by
  unfold putM; rw [show d / 64 = 0 by omega, show d % 64 = d by omega]; rfl
theorem putM_hi {m : VMk} {d : Nat} (h : d < 64) : putM m (64 + d) = ⟨m.lo, putB m.hi d⟩ := by
  unfold putM; rw [show (64 + d) / 64 = 1 by omega, show (64 + d) % 64 = d by omega]; rfl
theorem lo_or_hi {d : Nat} (h : d < 128) : d < 64 ∨ ∃ e, e < 64 ∧ d = 64 + e := by
  rcases Nat.lt_or_ge d 64 with h1 | h1
  · exact .inl h1
  · exact .inr ⟨d - 64, by omega, by omega⟩
theorem putM_ok {m : VMk} {d : Nat} (hm : OkMk m) (h : d < 128) : OkMk (putM m d) := by
  rcases lo_or_hi h with h2 | ⟨e, h2, rfl⟩
  · rw [putM_lo h2]; exact ⟨putB_bd hm.1 h2, hm.2⟩
  · rw [putM_hi h2]; exact ⟨hm.1, putB_bd hm.2 h2⟩
theorem has_put {m : VMk} {d e : Nat} (hd : d < 128) (he : e < 128) : hasM (putM m d) e = (decide (d = e) || hasM m e) := by
  rcases lo_or_hi hd with h | ⟨d, h, rfl⟩ <;> rcases lo_or_hi he with h2 | ⟨e, h2, rfl⟩
  · rw [putM_lo h, hasM_lo h2, hasM_lo h2, bit_put]
  · rw [putM_lo h, hasM_hi h2, hasM_hi h2, show decide (d = 64 + e) = false by simp; omega]; rfl
  · rw [putM_hi h, hasM_lo h2, hasM_lo h2, show decide (64 + d = e) = false by simp; omega]; rfl
  · rw [putM_hi h, hasM_hi h2, hasM_hi h2, bit_put, show decide (64 + d = 64 + e) = decide (d = e) from decide_eq_decide.2 (by omega)]
theorem has_ext {m n : VMk} (hm : OkMk m) (hn : OkMk n) (h : ∀ d, d < 128 → hasM m d = hasM n d) : m = n := by
  refine mk_ext (bit_ext hm.1 hn.1 fun i hi => ?_) (bit_ext hm.2 hn.2 fun i hi => ?_)
  · have := h i (by omega); rwa [hasM_lo hi, hasM_lo hi] at this
  · have := h (64 + i) (by omega); rwa [hasM_hi hi, hasM_hi hi] at this
theorem has_z (d : Nat) : hasM zMk d = false := by
  have h : (zMk.l.getD (d / 64) 0) = 0 := by
    match d / 64 with
    | 0 => rfl
    | 1 => rfl
    | _ + 2 => rfl
  unfold hasM bitB
  rw [h]; simp
/-- The marks of all digits below a base. -/
def fullM : Nat → VMk
  | 0 => zMk
  | b + 1 => putM (fullM b) b
theorem fullM_ok : ∀ {b : Nat}, b ≤ 128 → OkMk (fullM b)
  | 0, _ => okZ
  | b + 1, h => putM_ok (fullM_ok (by omega)) (by omega)
theorem has_full : ∀ {b d : Nat}, b ≤ 128 → d < 128 → hasM (fullM b) d = decide (d < b)
  | 0, d, _, _ => by rw [show fullM 0 = zMk from rfl, has_z]; simp
  | b + 1, d, hb, hd => by
    rw [show fullM (b + 1) = putM (fullM b) b from rfl, has_put (by omega) hd, has_full (by omega) hd]
    rw [Bool.eq_iff_iff]; simp only [Bool.or_eq_true, decide_eq_true_iff]; omega
def subM (m n : VMk) : Bool := decide (bits .andNot .u64 m.lo n.lo = 0 ∧ bits .andNot .u64 m.hi n.hi = 0)
theorem bits_sub {x y : Int} (hx : 0 ≤ x ∧ x < 18446744073709551616) (hy : 0 ≤ y ∧ y < 18446744073709551616) (h : bits .andNot .u64 x y = 0) {i : Nat} (hi : i < 64) (hb : bitB x i = true) : bitB y i = true := by
  obtain ⟨a, rfl⟩ := Int.eq_ofNat_of_zero_le hx.1
  obtain ⟨b, rfl⟩ := Int.eq_ofNat_of_zero_le hy.1
  have h : IntKind.u64.wrap ((BitVec.ofInt IntKind.u64.bits (a : Int) &&& ~~~BitVec.ofInt IntKind.u64.bits (b : Int)).toNat : Int) = 0 := h
  simp only [BitVec.ofInt_natCast] at h
  have h64 : IntKind.u64.bits = 64 := rfl
  rw [wrap_u64n _ (Int.natCast_nonneg _) (by have := (BitVec.ofNat IntKind.u64.bits a &&& ~~~BitVec.ofNat IntKind.u64.bits b).isLt; exact_mod_cast this)] at h
  have h1 : (BitVec.ofNat IntKind.u64.bits a &&& ~~~BitVec.ofNat IntKind.u64.bits b).toNat = 0 := by exact_mod_cast h
  have h2 : (BitVec.ofNat IntKind.u64.bits a &&& ~~~BitVec.ofNat IntKind.u64.bits b) = 0#_ := BitVec.eq_of_toNat_eq (by rw [h1]; simp)
  have h3 := congrArg (fun z => BitVec.getLsbD z i) h2
  have h4 : i < IntKind.u64.bits := hi
  simp only [BitVec.getLsbD_and, BitVec.getLsbD_not, BitVec.getLsbD_ofNat, h4, decide_true, Bool.true_and, BitVec.getLsbD_zero] at h3
  unfold bitB at hb ⊢
  rw [Int.toNat_natCast] at hb ⊢
  rw [hb] at h3
  simpa using h3
theorem sub_has {m n : VMk} (hm : OkMk m) (hn : OkMk n) (h : subM m n = true) {d : Nat} (hd : d < 128) (hh : hasM m d = true) : hasM n d = true := by
  unfold subM at h
  rw [decide_eq_true_iff] at h
  rcases lo_or_hi hd with h2 | ⟨e, h2, rfl⟩
  · rw [hasM_lo h2] at hh ⊢; exact bits_sub hm.1 hn.1 h.1 h2 hh
  · rw [hasM_hi h2] at hh ⊢; exact bits_sub hm.2 hn.2 h.2 h2 hh
/-! photos that are valid -/
def phAt (s : List Int) (l : List VMk) (i : Nat) : Bool := if i < s.length then (!decide ((l.getD i zMk).l = [0, 0])) && subM (l.getD i zMk) (fullM (s.getD i 0).toNat) else decide ((l.getD i zMk).l = [0, 0])
def photoOk (s : List Int) (l : List VMk) : Bool := (List.range 8).all (phAt s l)
def validPh (s : List Int) (p : VPh) : Bool := validStack s && photoOk s p.l
theorem po_no {s : List Int} {l : List VMk} {k : Nat} (hk : k < 8) (h : phAt s l k = false) : false = photoOk s l := by
  symm; rw [← Bool.not_eq_true]; unfold photoOk; rw [List.all_eq_true]; intro hall
  rw [hall k (by simp; omega)] at h; cases h
theorem po_all {s : List Int} {l : List VMk} {k : Nat} (hk : ¬ k < 8) (h : ∀ i, i < k → phAt s l i = true) : true = photoOk s l := by
  symm; unfold photoOk; rw [List.all_eq_true]; intro i hi; exact h i (by simp at hi; omega)
/-- What a valid photo shows. -/
structure PhOk (s : List Int) (l : List VMk) : Prop where
  some_ : ∀ i, i < s.length → ∃ d, d < 128 ∧ hasM (l.getD i zMk) d = true
  lt : ∀ i, i < s.length → ∀ d, d < 128 → hasM (l.getD i zMk) d = true → (d : Int) < s.getD i 0
  hi : ∀ i, s.length ≤ i → i < 8 → l.getD i zMk = zMk
theorem phOk {s : List Int} {p : VPh} (hs : Stk s) (hp : OkPh p) (h : photoOk s p.l = true) : PhOk s p.l := by
  have h8 := hs.len8
  unfold photoOk at h
  rw [List.all_eq_true] at h
  have hz : ∀ m : VMk, m.l = [0, 0] → m = zMk := fun m hm => mk_inj hm
  refine ⟨fun i hi => ?_, fun i hi d hd hh => ?_, fun i hi hi8 => ?_⟩
  · have := h i (by simp; omega)
    unfold phAt at this
    rw [if_pos hi, Bool.and_eq_true, Bool.not_eq_true', decide_eq_false_iff_not] at this
    refine Classical.byContradiction fun hno => this.1 ?_
    have e : p.l.getD i zMk = zMk := has_ext (hp i (by omega)) okZ fun d hd => by
      rw [has_z]
      cases hh : hasM (p.l.getD i zMk) d
      · rfl
      · exact absurd ⟨d, hd, hh⟩ hno
    rw [e]; rfl
  · have := h i (by simp; omega)
    unfold phAt at this
    rw [if_pos hi, Bool.and_eq_true] at this
    have hb := hs.bases i hi
    have h2 := sub_has (hp i (by omega)) (fullM_ok (by omega)) this.2 hd hh
    rw [has_full (by omega) hd, decide_eq_true_iff] at h2
    omega
  · have := h i (by simp; omega)
    unfold phAt at this
    rw [if_neg (by omega), decide_eq_true_iff] at this
    exact hz _ this
def showsM (s : List Int) (l : List VMk) (d : List Int) : Bool := (List.range s.length).all fun i => hasM (l.getD i zMk) (d.getD i 0).toNat
theorem sm_no {s : List Int} {l : List VMk} {d : List Int} {k : Nat} (hk : k < s.length) (h : hasM (l.getD k zMk) (d.getD k 0).toNat = false) : false = showsM s l d := by
  symm; rw [← Bool.not_eq_true]; unfold showsM; rw [List.all_eq_true]; intro hall
  rw [hall k (by simp; omega)] at h; cases h
theorem sm_all {s : List Int} {l : List VMk} {d : List Int} {k : Nat} (hk : ¬ k < s.length) (h : ∀ i, i < k → hasM (l.getD i zMk) (d.getD i 0).toNat = true) : true = showsM s l d := by
  symm; unfold showsM; rw [List.all_eq_true]; intro i hi; exact h i (by simp at hi; omega)
def shV (s : List Int) (p : VPh) (a : Dig) : Bool × Int := if (validPh s p && (validStack s && validDig s a.l)) = true then (showsM s p.l a.l, 0) else (false, 1)
end Go.W
