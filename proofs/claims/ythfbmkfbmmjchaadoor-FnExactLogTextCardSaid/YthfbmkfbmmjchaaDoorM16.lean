/- The best story, in plain numbers. -/
import Derived.Test.YthfbmkfbmmjchaaDoorM15
set_option linter.unusedVariables false
set_option linter.unusedSimpArgs false
namespace Go.W
open Go Go.Sx
def nxt (fit : Nat → Nat → Bool) (n : Nat) (a : Int) : Int := if a < 0 then -1 else ((rstL fit n).getD a.toNat zR).next
def ats (fit : Nat → Nat → Bool) (n : Nat) : Nat → Int
  | 0 => (bstV fit n n).next
  | j + 1 => nxt fit n (ats fit n j)
theorem nxt_bd {fit : Nat → Nat → Bool} {n : Nat} {a : Int} (h0 : 0 ≤ a) (h : a < n) : nxt fit n a = -1 ∨ a < nxt fit n a ∧ nxt fit n a < n := by
  unfold nxt; rw [if_neg (by omega)]
  have := rst_bd (fit := fit) (n := n) (i := a.toNat) (by omega)
  omega
theorem nxt_nat (fit : Nat → Nat → Bool) (n a : Nat) : nxt fit n (a : Int) = ((rstL fit n).getD a zR).next := by
  unfold nxt; rw [if_neg (by omega), Int.toNat_natCast]
theorem nxt_neg {fit : Nat → Nat → Bool} {n : Nat} {a : Int} (h : a < 0) : nxt fit n a = -1 := by unfold nxt; rw [if_pos h]
theorem ats_bd (fit : Nat → Nat → Bool) (n : Nat) : ∀ j, -1 ≤ ats fit n j ∧ ats fit n j < n ∧ (0 ≤ ats fit n j → (j : Int) ≤ ats fit n j)
  | 0 => by have := bst_bd (fit := fit) (n := n) n (Nat.le_refl _); rw [ats]; omega
  | j + 1 => by
    have ih := ats_bd fit n j
    rw [ats]
    by_cases h : ats fit n j < 0
    · rw [nxt_neg h]; omega
    · have := nxt_bd (fit := fit) (n := n) (a := ats fit n j) (by omega) ih.2.1
      omega
def muA (n : Nat) (a : Int) : Nat := if a < 0 then 0 else ((n : Int) - a).toNat
theorem mu_lt {n : Nat} {a x : Int} (h0 : 0 ≤ a) (h : a < n) (hx : x = -1 ∨ a < x ∧ x < n) : muA n x < muA n a := by
  unfold muA
  rw [if_neg (by omega : ¬ a < 0)]
  split <;> omega
def kL (fit : Nat → Nat → Bool) (n : Nat) : Nat → List Int
  | 0 => []
  | j + 1 => if ats fit n j < 0 then kL fit n j else kL fit n j ++ [ats fit n j]
def bL (fit : Nat → Nat → Bool) (n : Nat) : Nat → List Int
  | 0 => []
  | j + 1 => if ats fit n j < 0 then bL fit n j else if 0 ≤ ats fit n (j + 1) ∧ fit (ats fit n j).toNat (ats fit n (j + 1)).toNat = false then bL fit n j ++ [ats fit n (j + 1)] else bL fit n j
theorem kL_y {fit : Nat → Nat → Bool} {n j : Nat} (h : ¬ ats fit n j < 0) : kL fit n (j + 1) = kL fit n j ++ [ats fit n j] := by rw [kL, if_neg h]
theorem bL_y {fit : Nat → Nat → Bool} {n j : Nat} (h : ¬ ats fit n j < 0) (h1 : 0 ≤ ats fit n (j + 1)) (h2 : fit (ats fit n j).toNat (ats fit n (j + 1)).toNat = false) : bL fit n (j + 1) = bL fit n j ++ [ats fit n (j + 1)] := by rw [bL, if_neg h, if_pos ⟨h1, h2⟩]
theorem bL_n {fit : Nat → Nat → Bool} {n j : Nat} (h : ¬ ats fit n j < 0) (h1 : ¬ (0 ≤ ats fit n (j + 1) ∧ fit (ats fit n j).toNat (ats fit n (j + 1)).toNat = false)) : bL fit n (j + 1) = bL fit n j := by rw [bL, if_neg h, if_neg h1]
theorem kL_len (fit : Nat → Nat → Bool) (n : Nat) : ∀ j, (kL fit n j).length ≤ j
  | 0 => by simp [kL]
  | j + 1 => by
    have := kL_len fit n j
    rw [kL]; split
    · omega
    · rw [List.length_append]; simp; omega
theorem bL_len (fit : Nat → Nat → Bool) (n : Nat) : ∀ j, (bL fit n j).length ≤ j
  | 0 => by simp [bL]
  | j + 1 => by
    have := bL_len fit n j
    rw [bL]; split
    · omega
    · split
      · rw [List.length_append]; simp; omega
      · omega
theorem ats_stop {fit : Nat → Nat → Bool} {n j : Nat} (h : ats fit n j < 0) : ∀ i, ats fit n (j + i) < 0
  | 0 => h
  | i + 1 => by rw [← Nat.add_assoc, ats, nxt_neg (ats_stop h i)]; omega
theorem kb_stop {fit : Nat → Nat → Bool} {n j : Nat} (h : ats fit n j < 0) : ∀ i, kL fit n (j + i) = kL fit n j ∧ bL fit n (j + i) = bL fit n j
  | 0 => ⟨rfl, rfl⟩
  | i + 1 => by
    have ih := kb_stop h i
    have hs := ats_stop h i
    rw [← Nat.add_assoc, kL, bL, if_pos hs, if_pos hs]; exact ih
/-- Kept readings, breaks. -/
def stK (fit : Nat → Nat → Bool) (n : Nat) : List Int := kL fit n (n + 1)
def stB (fit : Nat → Nat → Bool) (n : Nat) : List Int := bL fit n (n + 1)
theorem st_end {fit : Nat → Nat → Bool} {n j : Nat} (h : ats fit n j < 0) (hj : j ≤ n + 1) : kL fit n j = stK fit n ∧ bL fit n j = stB fit n := by
  have := kb_stop h (n + 1 - j)
  rw [show j + (n + 1 - j) = n + 1 by omega] at this
  exact ⟨this.1.symm, this.2.symm⟩
theorem j_le {fit : Nat → Nat → Bool} {n j : Nat} (h : ¬ ats fit n j < 0) : j + 1 ≤ n := by have := ats_bd fit n j; omega
theorem stK_len (fit : Nat → Nat → Bool) (n : Nat) : (stK fit n).length ≤ n + 1 := kL_len fit n (n + 1)
theorem stB_len (fit : Nat → Nat → Bool) (n : Nat) : (stB fit n).length ≤ n + 1 := bL_len fit n (n + 1)
/-- How far the path has been gone, and where the two lists stand. -/
structure PSt where
  j : Nat
  A1 : Option Addr
  c1 : Nat
  A2 : Option Addr
  c2 : Nat
/-- A story as it stands in memory. -/
structure VSt where
  kept : List Int
  breaks : List Int
  cost : Int
def encY (A1 : Option Addr) (c1 : Nat) (A2 : Option Addr) (c2 : Nat) (y : VSt) : List Value := [.slice A1 y.kept.length c1, .slice A2 y.breaks.length c2, .int .i64 y.cost]
def stV (fit : Nat → Nat → Bool) (n : Nat) : VSt := ⟨stK fit n, stB fit n, (bstV fit n n).cost⟩
end Go.W
