/- Values, digits of a value, what a device does: in plain numbers. -/
import Derived.Test.YthfbmkfbmmjchaaDoorM2
set_option linter.unusedVariables false
set_option linter.unusedSimpArgs false
namespace Go.W
open Go Go.Sx
def prod : List Int → Int
  | [] => 1
  | b :: s => b * prod s
def val : List Int → List Int → Int
  | [], _ => 0
  | b :: s, l => l.headD 0 + b * val s l.tail
theorem prod_append (s t : List Int) : prod (s ++ t) = prod s * prod t := by
  induction s with
  | nil => simp [prod]
  | cons b s ih => simp only [List.cons_append, prod, ih, Int.mul_assoc]
theorem prod_take {s : List Int} {k : Nat} (h : k < s.length) : prod (s.take (k + 1)) = prod (s.take k) * s.getD k 0 := by
  rw [List.take_succ_eq_append_getElem h, prod_append]
  simp [prod, List.getD, h]
theorem drop_cons {s : List Int} {k : Nat} (h : k < s.length) : s.drop k = s.getD k 0 :: s.drop (k + 1) := by
  rw [List.drop_eq_getElem_cons h]; simp [List.getD, h]
theorem prod_drop {s : List Int} {k : Nat} (h : k < s.length) : prod (s.drop k) = s.getD k 0 * prod (s.drop (k + 1)) := by rw [drop_cons h]; rfl
theorem prod_split (s : List Int) (k : Nat) : prod s = prod (s.take k) * prod (s.drop k) := by rw [← prod_append, List.take_append_drop]
theorem val_drop {s l : List Int} {k : Nat} (h : k < s.length) (hl : k < l.length) : val (s.drop k) (l.drop k) = l.getD k 0 + s.getD k 0 * val (s.drop (k + 1)) (l.drop (k + 1)) := by
  rw [drop_cons h, drop_cons hl]; rfl
theorem val_end {s l : List Int} {k : Nat} (h : s.length ≤ k) : val (s.drop k) (l.drop k) = 0 := by rw [List.drop_of_length_le h]; rfl
/-- The bases of a stack that is valid. -/
def Bases (s : List Int) : Prop := ∀ i, i < s.length → 2 ≤ s.getD i 0 ∧ s.getD i 0 ≤ 100
theorem Bases.tail {b : Int} {s : List Int} (h : Bases (b :: s)) : Bases s := fun i hi => by have := h (i + 1) (by simp; omega); simpa using this
theorem Bases.head {b : Int} {s : List Int} (h : Bases (b :: s)) : 2 ≤ b ∧ b ≤ 100 := by have := h 0 (by simp); simpa using this
theorem Bases.drop {s : List Int} (h : Bases s) (k : Nat) : Bases (s.drop k) := fun i hi => by
  have hi' : k + i < s.length := by simp at hi; omega
  have := h (k + i) hi'
  simpa [List.getD, List.getElem?_drop] using this
theorem Bases.take {s : List Int} (h : Bases s) (k : Nat) : Bases (s.take k) := fun i hi => by
  have hi' : i < s.length := by simp at hi; omega
  have h2 : i < k := by simp at hi; omega
  have := h i hi'
  simpa [List.getD, List.getElem?_take, h2] using this
theorem prod_pos : ∀ {s : List Int}, Bases s → 1 ≤ prod s
  | [], _ => by simp [prod]
  | b :: s, h => by
    have h1 := h.head
    have h2 := prod_pos h.tail
    have h3 : 2 * 1 ≤ b * prod s := Int.mul_le_mul h1.1 h2 (by omega) (by omega)
    simp only [prod]; omega
theorem prod_drop_le {s : List Int} (h : Bases s) (k : Nat) : prod (s.drop k) ≤ prod s := by
  have h1 := prod_pos (h.take k)
  have h2 := prod_pos (h.drop k)
  rw [prod_split s k]
  have h3 : 1 * prod (s.drop k) ≤ prod (s.take k) * prod (s.drop k) := Int.mul_le_mul_of_nonneg_right h1 (by omega)
  omega
theorem prod_take_le {s : List Int} (h : Bases s) (k : Nat) : prod (s.take k) ≤ prod s := by
  have h1 := prod_pos (h.take k)
  have h2 := prod_pos (h.drop k)
  rw [prod_split s k]
  have h3 : prod (s.take k) * 1 ≤ prod (s.take k) * prod (s.drop k) := Int.mul_le_mul_of_nonneg_left h2 (by omega)
  omega
theorem size_prod {s : List Int} (h : Bases s) : size s = min (prod s) 1000000000001 := by
  have key : ∀ k, k ≤ s.length → size (s.take k) = min (prod (s.take k)) 1000000000001 := by
    intro k
    induction k with
    | zero => intro _; simp [size, prod]; rfl
    | succ k ih =>
      intro hk
      rw [size_snoc s k (by omega), prod_take (by omega), ih (by omega)]
      have hb := h k (by omega)
      have hp := prod_pos (h.take k)
      rcases Int.le_total (prod (s.take k)) 1000000000001 with h1 | h1
      · rw [Int.min_eq_left h1]
      · rw [Int.min_eq_right h1]
        have h3 : 1000000000001 * 1 ≤ 1000000000001 * s.getD k 0 := Int.mul_le_mul_of_nonneg_left (by omega) (by omega)
        have h4 : prod (s.take k) * 1 ≤ prod (s.take k) * s.getD k 0 := Int.mul_le_mul_of_nonneg_left (by omega) (by omega)
        omega
  have := key s.length (Nat.le_refl _)
  rwa [List.take_length] at this
structure Stk (s : List Int) : Prop where
  len1 : 1 ≤ s.length
  len8 : s.length ≤ 8
  bases : Bases s
  size_ : size s = prod s
  pos : 1 ≤ prod s
  le : prod s ≤ 1000000000000
theorem stk {s : List Int} (h : validStack s = true) : Stk s := by
  unfold validStack at h
  rw [decide_eq_true_iff] at h
  obtain ⟨h1, h2, h3, h4⟩ := h
  have hb : Bases s := h3
  have hp := size_prod hb
  have : size s = prod s := by omega
  exact ⟨h1, h2, hb, this, prod_pos hb, by omega⟩
theorem size_two {s : List Int} (h : Stk s) : 2 ≤ prod s := by
  have h0 := h.len1
  have h1 := prod_drop (s := s) (k := 0) (by omega)
  rw [List.drop_zero] at h1
  have hb := h.bases 0 (by omega)
  have hp := prod_pos (h.bases.drop 1)
  have h3 : 2 * 1 ≤ s.getD 0 0 * prod (s.drop 1) := Int.mul_le_mul hb.1 hp (by omega) (by omega)
  rw [h1]; simpa using h3
/-- Digits that are valid for a stack. -/
def DigOk (s l : List Int) : Prop := ∀ i, i < s.length → 0 ≤ l.getD i 0 ∧ l.getD i 0 < s.getD i 0
theorem digOk {s l : List Int} (hs : s.length ≤ 8) (hl : Nums 255 l) (h : validDig s l = true) : DigOk s l := fun i hi => by
  unfold validDig at h
  rw [List.all_eq_true] at h
  have := h i (by simp; omega)
  unfold goodAt at this
  rw [if_pos hi, decide_eq_true_iff] at this
  exact ⟨(hl.at_ (by omega) i).1, this⟩
theorem val_bd {s l : List Int} (hb : Bases s) (hl : DigOk s l) (hs : s.length ≤ l.length) : ∀ j k, k + j = s.length → 0 ≤ val (s.drop k) (l.drop k) ∧ val (s.drop k) (l.drop k) < prod (s.drop k)
  | 0, k, h => by rw [val_end (by omega), List.drop_of_length_le (by omega)]; simp [prod]
  | j + 1, k, h => by
    have ih := val_bd hb hl hs j (k + 1) (by omega)
    have h1 := hb k (by omega)
    have h2 := hl k (by omega)
    rw [val_drop (by omega) (by omega), prod_drop (by omega)]
    have h3 : 0 ≤ s.getD k 0 * val (s.drop (k + 1)) (l.drop (k + 1)) := Int.mul_nonneg (by omega) ih.1
    have h4 : s.getD k 0 * (val (s.drop (k + 1)) (l.drop (k + 1)) + 1) ≤ s.getD k 0 * prod (s.drop (k + 1)) := Int.mul_le_mul_of_nonneg_left (by omega) (by omega)
    rw [Int.mul_add] at h4
    omega
theorem val_le {s l : List Int} (hs : Stk s) (hl : DigOk s l) (hn : s.length ≤ l.length) (k : Nat) : 0 ≤ val (s.drop k) (l.drop k) ∧ val (s.drop k) (l.drop k) < 1000000000000 := by
  rcases Nat.lt_or_ge s.length k with h | h
  · rw [val_end (by omega)]; omega
  · have h1 := val_bd hs.bases hl hn (s.length - k) k (by omega)
    have h2 := prod_drop_le hs.bases k
    have := hs.le
    omega
theorem val_lt {s l : List Int} (hs : Stk s) (hl : DigOk s l) (hn : s.length ≤ l.length) : 0 ≤ val s l ∧ val s l < prod s := by
  have h1 := val_bd hs.bases hl hn s.length 0 (by omega)
  simpa using h1
/-- One step down from the last wheel. -/
theorem val_step {s l : List Int} (hs : Stk s) (hl : DigOk s l) (hn : s.length ≤ l.length) {k : Nat} (h : k < s.length) :
    val (s.drop k) (l.drop k) = val (s.drop (k + 1)) (l.drop (k + 1)) * s.getD k 0 + l.getD k 0 ∧ 0 ≤ val (s.drop (k + 1)) (l.drop (k + 1)) * s.getD k 0 ∧ val (s.drop (k + 1)) (l.drop (k + 1)) * s.getD k 0 ≤ 1000000000000 ∧ 0 ≤ l.getD k 0 ∧ l.getD k 0 ≤ 100 := by
  have h1 := val_drop (s := s) (l := l) h (by omega)
  have h2 := val_le hs hl hn k
  have h3 := val_le hs hl hn (k + 1)
  have h4 := hl k h
  have h5 := hs.bases k h
  have h6 : 0 ≤ s.getD k 0 * val (s.drop (k + 1)) (l.drop (k + 1)) := Int.mul_nonneg (by omega) h3.1
  rw [Int.mul_comm (val _ _) (s.getD k 0)]
  omega
/-! Digits of a value -/
def dAt (s : List Int) (v : Int) (k : Nat) : Int := v / prod (s.take k) % s.getD k 0
def digs (s : List Int) (v : Int) : List Int := (List.range 8).map fun k => if k < s.length then dAt s v k else 0
theorem digs_len (s : List Int) (v : Int) : (digs s v).length = 8 := by simp [digs]
theorem digs_at {s : List Int} {v : Int} {k : Nat} (hk : k < 8) : (digs s v).getD k 0 = if k < s.length then dAt s v k else 0 := by
  simp [digs, List.getD, hk]
theorem digs_lo {s : List Int} {v : Int} {k : Nat} (h8 : s.length ≤ 8) (hk : k < s.length) : (digs s v).getD k 0 = dAt s v k := by rw [digs_at (by omega), if_pos hk]
theorem dAt_bd {s : List Int} {v : Int} {k : Nat} (hb : Bases s) (hk : k < s.length) : 0 ≤ dAt s v k ∧ dAt s v k < s.getD k 0 := by
  have := hb k hk
  exact ⟨Int.emod_nonneg _ (by omega), Int.emod_lt_of_pos _ (by omega)⟩
theorem div_prod {s : List Int} {v : Int} {k : Nat} (hb : Bases s) (hk : k < s.length) : v / prod (s.take k) / s.getD k 0 = v / prod (s.take (k + 1)) := by
  have := prod_pos (hb.take k)
  rw [prod_take hk, Int.ediv_ediv_of_nonneg (by omega)]
theorem digs_ok {s : List Int} {v : Int} (hs : Stk s) : DigOk s (digs s v) := fun i hi => by
  rw [digs_lo hs.len8 hi]; exact dAt_bd hs.bases hi
theorem digs_num {s : List Int} {v : Int} (hb : Bases s) : Nums 255 (digs s v) := fun x hx => by
  simp only [digs, List.mem_map, List.mem_range] at hx
  obtain ⟨k, _, rfl⟩ := hx
  split
  · have h1 := dAt_bd (v := v) hb ‹_›; have h2 := hb k ‹_›; omega
  · omega
theorem digs_valid {s : List Int} {v : Int} (hs : Stk s) : validDig s (digs s v) = true := by
  unfold validDig
  rw [List.all_eq_true]
  intro i hi
  have hi : i < 8 := by simpa using hi
  unfold goodAt
  split
  · rw [decide_eq_true_iff]; exact (digs_ok hs i ‹_›).2
  · rw [decide_eq_true_iff, digs_at hi, if_neg ‹_›]
theorem emod_mul {x b p : Int} (hb : 0 < b) (hp : 0 < p) : x % (b * p) = x % b + b * (x / b % p) := by
  have h1 := Int.emod_add_mul_ediv x b
  have h2 := Int.emod_add_mul_ediv (x / b) p
  have h3 := Int.emod_nonneg x (show b ≠ 0 by omega)
  have h4 := Int.emod_lt_of_pos x hb
  have h5 := Int.emod_nonneg (x / b) (show p ≠ 0 by omega)
  have h6 := Int.emod_lt_of_pos (x / b) hp
  have h7 : b * (x / b % p + 1) ≤ b * p := Int.mul_le_mul_of_nonneg_left (by omega) (by omega)
  have h8 : 0 ≤ b * (x / b % p) := Int.mul_nonneg (by omega) h5
  rw [Int.mul_add] at h7
  have e : x = (x % b + b * (x / b % p)) + (b * p) * (x / b / p) := by
    rw [Int.mul_assoc, Int.add_assoc, ← Int.mul_add, h2, h1]
  have e2 := Int.add_mul_emod_self_left (x % b + b * (x / b % p)) (b * p) (x / b / p)
  rw [← e] at e2
  rw [e2, Int.emod_eq_of_lt (by omega) (by omega)]
theorem val_digs {s : List Int} {v : Int} (hs : Stk s) : ∀ j k, k + j = s.length → val (s.drop k) ((digs s v).drop k) = v / prod (s.take k) % prod (s.drop k)
  | 0, k, h => by rw [val_end (by omega), List.drop_of_length_le (by omega)]; simp [prod, Int.emod_one]
  | j + 1, k, h => by
    have ih := val_digs (v := v) hs j (k + 1) (by omega)
    have h8 := hs.len8
    have hb := hs.bases k (by omega)
    have hp := prod_pos (hs.bases.drop (k + 1))
    rw [val_drop (by omega) (by rw [digs_len]; omega), ih, digs_lo h8 (by omega), prod_drop (s := s) (k := k) (by omega), ← div_prod (k := k) hs.bases (by omega), emod_mul (x := v / prod (s.take k)) (b := s.getD k 0) (p := prod (s.drop (k + 1))) (by omega) (by omega)]
    rfl
theorem val_of {s : List Int} {v : Int} (hs : Stk s) : val s (digs s v) = v % prod s := by
  have := val_digs (v := v) hs s.length 0 (by omega)
  simpa [prod] using this
theorem val_of' {s : List Int} {v : Int} (hs : Stk s) (h0 : 0 ≤ v) (h1 : v < prod s) : val s (digs s v) = v := by rw [val_of hs, Int.emod_eq_of_lt h0 h1]
theorem digs_part {s : List Int} {v : Int} (h8 : s.length ≤ 8) : Sx.part 0 (digs s v) s.length = digs s v := by
  unfold Sx.part
  rw [digs_len]
  refine List.ext_getElem? fun i => ?_
  rcases Nat.lt_or_ge i 8 with hi | hi
  · have e : (digs s v)[i]? = some ((digs s v).getD i 0) := by simp [List.getD, digs_len, hi]
    rw [e, digs_at hi]
    rcases Nat.lt_or_ge i s.length with h | h
    · rw [if_pos h, List.getElem?_append_left (by simp [digs_len]; omega), List.getElem?_take, if_pos h, e, digs_at hi, if_pos h]
    · rw [if_neg (by omega), List.getElem?_append_right (by simp [digs_len]; omega), List.getElem?_replicate, if_pos (by simp [digs_len]; omega)]
  · rw [List.getElem?_eq_none (by simp [digs_len]; omega), List.getElem?_eq_none (by rw [digs_len]; omega)]
def addD (s : List Int) (a : Dig) (n : Int) : Dig := dig (digs s ((val s a.l + n) % size s))
/-! Rounded down -/
theorem floor_dn {a b : Int} (hb : 0 < b) (h : a.tmod b < 0) : a.tdiv b - 1 = a / b := by
  have h1 := Int.tmod_add_mul_tdiv a b
  have h2 := Int.emod_add_mul_ediv a b
  have h3 := Int.emod_nonneg a (show b ≠ 0 by omega)
  have h4 := Int.emod_lt_of_pos a hb
  have h5 : -b < a.tmod b := by
    rcases Int.le_total 0 a with ha | ha
    · have := Int.tmod_nonneg b ha; omega
    · have := Int.tmod_lt_of_pos (-a) hb
      rw [Int.neg_tmod] at this; omega
  have h6 : b * (a.tdiv b - 1 - a / b) = a % b - a.tmod b - b := by rw [Int.mul_sub, Int.mul_sub, Int.mul_one]; omega
  have h7 : b * (a.tdiv b - 1 - a / b) < b * 1 := by omega
  have h8 : b * (-1) < b * (a.tdiv b - 1 - a / b) := by omega
  have h9 := Int.lt_of_mul_lt_mul_left h7 (by omega)
  have h10 := Int.lt_of_mul_lt_mul_left h8 (by omega)
  omega
theorem floor_up {a b : Int} (hb : 0 < b) (h : 0 ≤ a.tmod b) : a.tdiv b = a / b := by
  have h1 := Int.tmod_add_mul_tdiv a b
  have h2 := Int.emod_add_mul_ediv a b
  have h3 := Int.emod_nonneg a (show b ≠ 0 by omega)
  have h4 := Int.emod_lt_of_pos a hb
  have h5 : a.tmod b < b := Int.tmod_lt_of_pos a hb
  have h6 : b * (a.tdiv b - a / b) = a % b - a.tmod b := by rw [Int.mul_sub]; omega
  have h7 : b * (a.tdiv b - a / b) < b * 1 := by omega
  have h8 : b * (-1) < b * (a.tdiv b - a / b) := by omega
  have h9 := Int.lt_of_mul_lt_mul_left h7 (by omega)
  have h10 := Int.lt_of_mul_lt_mul_left h8 (by omega)
  omega
theorem tmod_sign {a b : Int} (hb : 0 < b) : (a < 0 → a.tmod b ≤ 0) ∧ (0 ≤ a → 0 ≤ a.tmod b) := by
  refine ⟨fun h => ?_, fun h => Int.tmod_nonneg b h⟩
  have := Int.tmod_nonneg (a := -a) b (by omega)
  rw [Int.neg_tmod] at this; omega
theorem tdiv_bd {a b : Int} (hb : 0 < b) : (0 ≤ a → 0 ≤ a.tdiv b ∧ a.tdiv b ≤ a) ∧ (a ≤ 0 → a ≤ a.tdiv b ∧ a.tdiv b ≤ 0) := by
  refine ⟨fun h => ?_, fun h => ?_⟩
  · rw [Int.tdiv_eq_ediv_of_nonneg h]; exact ⟨Int.ediv_nonneg h (by omega), Int.ediv_le_self b h⟩
  · have h1 : (-a).tdiv b = (-a) / b := Int.tdiv_eq_ediv_of_nonneg (by omega)
    rw [Int.neg_tdiv] at h1
    have h2 := Int.ediv_nonneg (a := -a) (b := b) (by omega) (by omega)
    have h3 := Int.ediv_le_self b (a := -a) (by omega)
    omega
end Go.W
