/- The text of totals. -/
import Derived.Test.YthfbmkfbmmjchaaDoorF12
import Derived.Test.YthfbmkfbmmjchaaDoorM11
set_option linter.unusedVariables false
namespace Go.W
open Go Go.Sx
/-- A builder in a loop: how far, whether it was written, where its bytes lie. -/
structure BdS where
  k : Nat
  u : Bool
  A : Option Addr
  c : Nat
def tlin (x : VP) : List UInt8 := Lib.itoa x.a ++ [32] ++ Lib.itoa x.b ++ [10]
def tText (l : List VP) (k : Nat) : List UInt8 := joinT (fun i => tlin (l.getD i zP)) k
def totTx (l : List VP) : List UInt8 := if validTot l = true then tText l l.length else []
theorem totTx_f {l : List VP} (h : validTot l = false) : totTx l = [] := by unfold totTx; rw [if_neg (by simp [h])]
theorem totTx_t {l : List VP} (h : validTot l = true) : totTx l = tText l l.length := by unfold totTx; rw [if_pos h]
theorem tlin_le {x : VP} (ha : 0 ≤ x.a ∧ x.a ≤ 100000) (hb : 0 ≤ x.b ∧ x.b ≤ 1000000000000) : (tlin x).length ≤ 42 := by
  have h1 := itoa_le (n := x.a) (by omega)
  have h2 := itoa_le (n := x.b) (by omega)
  simp only [tlin, List.length_append, List.length_cons, List.length_nil]
  omega
theorem tText_le {l : List VP} (h : Tot l) {k : Nat} (hk : k ≤ l.length) : (tText l k).length ≤ 2520 := by
  have h1 := joinT_le (f := fun i => tlin (l.getD i zP)) (B := 42) k fun i hi => tlin_le (h.day i (by omega)) (h.cnt i (by omega))
  have h2 := h.len
  unfold tText
  omega
theorem tText_pos {l : List VP} {k : Nat} (hk : 0 < k) : tText l k ≠ [] := by
  have := joinT_pos (f := fun i => tlin (l.getD i zP)) (fun i => by simp only [tlin, List.length_append, List.length_cons, List.length_nil]; omega) k hk
  intro h
  unfold tText at h
  rw [h] at this
  simp at this
end Go.W
