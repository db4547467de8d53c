/- The text of digits. -/
import Derived.Test.YthfbmkfbmmjchaaDoorF13
import Derived.Test.YthfbmkfbmmjchaaDoorM3
set_option linter.unusedVariables false
namespace Go.W
open Go Go.Sx
/-- The first k parts. -/
def partsF (f : Nat → List UInt8) (k : Nat) : List (List UInt8) := (List.range k).map f
theorem partsF_len (f : Nat → List UInt8) (k : Nat) : (partsF f k).length = k := by simp [partsF]
theorem partsF_s (f : Nat → List UInt8) (k : Nat) : partsF f (k + 1) = partsF f k ++ [f k] := by simp [partsF, List.range_succ]
theorem joinTail_snoc (sep : List UInt8) (r : List (List UInt8)) (x : List UInt8) : Lib.joinTail sep (r ++ [x]) = Lib.joinTail sep r ++ (sep ++ x) := by simp [Lib.joinTail]
theorem join_snoc {xs : List (List UInt8)} (h : xs ≠ []) (x sep : List UInt8) : Lib.join (xs ++ [x]) sep = Lib.join xs sep ++ sep ++ x := by
  cases xs with
  | nil => exact absurd rfl h
  | cons y r => rw [List.cons_append, Lib.join_cons, Lib.join_cons, joinTail_snoc, List.append_assoc, List.append_assoc]
/-- The parts joined by one that lays them one behind the other, a separator behind each but the last of n. -/
def sepT (f : Nat → List UInt8) (sep : List UInt8) (n k : Nat) : List UInt8 := if k = 0 then [] else Lib.join (partsF f k) sep ++ (if k < n then sep else [])
theorem sepT_0 (f : Nat → List UInt8) (sep : List UInt8) (n : Nat) : sepT f sep n 0 = [] := rfl
theorem sepT_mid {f : Nat → List UInt8} {sep : List UInt8} {n k : Nat} (h : k < n) : Lib.join (partsF f (k + 1)) sep = sepT f sep n k ++ f k := by
  unfold sepT
  by_cases h0 : k = 0
  · subst h0
    rw [if_pos rfl]
    show Lib.join [f 0] sep = _
    rw [Lib.join_one]; rfl
  · rw [if_neg h0, if_pos h, partsF_s, join_snoc (by intro e; have := partsF_len f k; rw [e] at this; simp at this; omega)]
theorem sepT_s {f : Nat → List UInt8} {sep : List UInt8} {n k : Nat} (h : k + 1 < n) : sepT f sep n (k + 1) = sepT f sep n k ++ f k ++ sep := by
  rw [← sepT_mid (by omega : k < n)]
  show (if k + 1 = 0 then _ else _) = _
  rw [if_neg (by omega), if_pos h]
theorem sepT_l {f : Nat → List UInt8} {sep : List UInt8} {n k : Nat} (h : k + 1 = n) : sepT f sep n (k + 1) = sepT f sep n k ++ f k := by
  rw [← sepT_mid (by omega : k < n)]
  show (if k + 1 = 0 then _ else _) = _
  rw [if_neg (by omega), if_neg (by omega), List.append_nil]
theorem sepT_end {f : Nat → List UInt8} {sep : List UInt8} {n : Nat} : sepT f sep n n = Lib.join (partsF f n) sep := by
  unfold sepT
  split
  · rename_i h; subst h; rfl
  · rw [if_neg (by omega), List.append_nil]
theorem sepT_le {f : Nat → List UInt8} {sep : List UInt8} {B n : Nat} (hf : ∀ i, i < n → (f i).length ≤ B) : ∀ k, k ≤ n → (sepT f sep n k).length ≤ k * (B + sep.length)
  | 0, _ => by simp [sepT]
  | k + 1, h => by
    have ih := sepT_le (sep := sep) hf k (by omega)
    have h1 := hf k (by omega)
    rw [Nat.succ_mul]
    rcases Nat.lt_or_ge (k + 1) n with h2 | h2
    · rw [sepT_s h2, List.length_append, List.length_append]; omega
    · rw [sepT_l (by omega), List.length_append]; omega
/-! ### A digit, the digits -/
def dgT (b d : Int) : List UInt8 := if 10 < b ∧ d < 10 then 48 :: Lib.itoa d else Lib.itoa d
theorem dgT_t {b d : Int} (h : 10 < b) (h1 : d < 10) : [48] ++ Lib.itoa d = dgT b d := by unfold dgT; rw [if_pos ⟨h, h1⟩]; rfl
theorem dgT_f {b d : Int} (h : ¬ (10 < b ∧ d < 10)) : Lib.itoa d = dgT b d := by unfold dgT; rw [if_neg h]
theorem itoa_len1 {d : Int} (h : 0 ≤ d) (h1 : d < 10) : (Lib.itoa d).length = 1 := by rw [itoa_one h h1]; rfl
theorem itoa_len2 {d : Int} (h : 10 ≤ d) (h1 : d < 100) : (Lib.itoa d).length = 2 := by
  rw [itoa_more (by omega) (by omega), List.length_append, itoa_len1 (by omega) (by omega)]; rfl
theorem dgT_le {b d : Int} (h : 0 ≤ d) (h1 : d < 100) : (dgT b d).length ≤ 2 := by
  unfold dgT
  split
  · rename_i h2; rw [List.length_cons, itoa_len1 h h2.2]; omega
  · rcases Int.lt_or_le d 10 with h2 | h2
    · rw [itoa_len1 h h2]; omega
    · rw [itoa_len2 h2 h1]; omega
theorem dgT_pos (b d : Int) : 1 ≤ (dgT b d).length := by
  unfold dgT
  split
  · simp
  · exact itoa_pos d
/-- The part of place j, from the top. -/
def dpart (s l : List Int) (j : Nat) : List UInt8 := dgT (s.getD (s.length - 1 - j) 0) (l.getD (s.length - 1 - j) 0)
def digT (s l : List Int) : List UInt8 := Lib.join (partsF (dpart s l) s.length) [58]
def digTx (s l : List Int) : List UInt8 := if (validStack s && validDig s l) = true then digT s l else []
theorem digTx_f {s l : List Int} (h : (validStack s && validDig s l) = false) : digTx s l = [] := by unfold digTx; rw [if_neg (by simp [h])]
theorem digTx_t {s l : List Int} (h : (validStack s && validDig s l) = true) : digTx s l = digT s l := by unfold digTx; rw [if_pos h]
theorem dpart_le {s l : List Int} (hs : Stk s) (hd : DigOk s l) {j : Nat} (hj : j < s.length) : (dpart s l j).length ≤ 2 := by
  have h1 := hs.bases (s.length - 1 - j) (by omega)
  have h2 := hd (s.length - 1 - j) (by omega)
  exact dgT_le h2.1 (by omega)
theorem sepD_le {s l : List Int} (hs : Stk s) (hd : DigOk s l) {k : Nat} (hk : k ≤ s.length) : (sepT (dpart s l) [58] s.length k).length ≤ 24 := by
  have h1 := sepT_le (f := dpart s l) (sep := [58]) (B := 2) (n := s.length) (fun i hi => dpart_le hs hd hi) k hk
  have h2 := hs.len8
  simp only [List.length_cons, List.length_nil] at h1
  omega
theorem digT_le {s l : List Int} (hs : Stk s) (hd : DigOk s l) : (digT s l).length ≤ 24 := by
  unfold digT
  rw [← sepT_end]
  exact sepD_le hs hd (Nat.le_refl _)
end Go.W
namespace Go.W
open Go Go.Sx
def padT (n d : Int) : List UInt8 := (if max 0 (d - ((Lib.itoa n).length : Int)) = 1 then [48] else []) ++ Lib.itoa n
theorem pad_dg {b d : Int} (hb : 2 ≤ b ∧ b ≤ 100) (hd : 0 ≤ d ∧ d < b) : ((Lib.itoa (b - 1)).length : Int) ≤ (Lib.itoa d).length + 1 ∧ padT d ((Lib.itoa (b - 1)).length : Int) = dgT b d := by
  unfold padT dgT
  rcases Int.lt_or_le d 10 with h1 | h1
  · rw [itoa_len1 hd.1 h1]
    rcases Int.lt_or_le (b - 1) 10 with h2 | h2
    · rw [itoa_len1 (by omega) h2, if_neg (by omega), if_neg (by omega)]
      exact ⟨by omega, rfl⟩
    · rw [itoa_len2 h2 (by omega), if_pos (by omega), if_pos ⟨by omega, h1⟩]
      exact ⟨by omega, rfl⟩
  · rw [itoa_len2 h1 (by omega), itoa_len2 (d := b - 1) (by omega) (by omega), if_neg (by omega), if_neg (by omega)]
    exact ⟨by omega, rfl⟩
end Go.W
