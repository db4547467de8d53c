/- The text of acts. -/
import Derived.Test.YthfbmkfbmmjchaaDoorF13
import Derived.Test.YthfbmkfbmmjchaaDoorM6
import Derived.Test.YthfbmkfbmmjchaaDoorM62
set_option linter.unusedVariables false
namespace Go.W
open Go Go.Sx
def wordsL : List (List UInt8) := [[], [112, 117, 108, 115, 101], [98, 97, 99, 107], [112, 114, 101, 115, 101, 116], [114, 101, 115, 101, 116], [116, 105, 99, 107, 101, 116]]
theorem words_le (k : Nat) : (wordsL.getD k []).length ≤ 6 := by
  rcases k with _ | _ | _ | _ | _ | _ | k <;> simp [wordsL]
def actW (a : VAct) : List UInt8 := wordsL.getD a.kind.toNat []
def actT (a : VAct) : List UInt8 := if a.kind ≤ 3 then actW a ++ ([32] ++ Lib.itoa a.n) else actW a
theorem actT_3 {a : VAct} (h : a.kind ≤ 3) : actT a = actW a ++ ([32] ++ Lib.itoa a.n) := if_pos h
theorem actT_4 {a : VAct} (h : ¬ a.kind ≤ 3) : actT a = actW a := if_neg h
theorem actW_le (a : VAct) : (actW a).length ≤ 6 := words_le _
theorem actT_le {a : VAct} (h : validAct a = true) : (actT a).length ≤ 27 := by
  have h1 := actW_le a
  unfold validAct at h
  have h := of_decide_eq_true h
  have h2 := itoa_le (n := a.n) (by omega)
  unfold actT
  split
  · simp only [List.length_append, List.length_cons, List.length_nil]; omega
  · omega
def aText (l : List VAct) (k : Nat) : List UInt8 := joinT (fun i => actT (l.getD i zA) ++ [10]) k
def actsTx (l : List VAct) : List UInt8 := if afault l = 0 then aText l l.length else []
theorem actsTx_t {l : List VAct} (h : afault l = 0) : actsTx l = aText l l.length := if_pos h
theorem actsTx_f {l : List VAct} (h : ¬ afault l = 0) : actsTx l = [] := if_neg h
/-- What a list of acts without a fault is. -/
theorem af_none0 {l : List VAct} (h : afault l = 0) : l.length ≤ 60 ∧ ∀ i, i < l.length → validAct (l.getD i zA) = true := by
  unfold afault at h
  split at h
  · simp at h
  · rename_i h1
    split at h
    · simp at h
    · refine ⟨by omega, fun i hi => ?_⟩
      cases hv : validAct (l.getD i zA)
      · exfalso
        apply h1
        rw [List.any_eq_true]
        refine ⟨l.getD i zA, by simp [List.getD, hi], by unfold badA; rw [hv]; rfl⟩
      · rfl
theorem af_valid {l : List VAct} (h : l.length ≤ 60) (h1 : ∀ i, i < l.length → validAct (l.getD i zA) = true) : afault l = 0 := by
  have h2 : l.any badA = false := by
    rw [List.any_eq_false]
    intro x hx
    obtain ⟨i, hi, rfl⟩ := List.getElem_of_mem hx
    have := h1 i hi
    rw [List.getD, List.getElem?_eq_getElem hi] at this
    have this : validAct l[i] = true := this
    simp [badA, this]
  exact (af_ok h2 (by omega)).symm
theorem af_some {l : List VAct} {k : Nat} (hk : k < l.length) (h : validAct (l.getD k zA) = false) : ¬ afault l = 0 := fun h0 => by
  have := (af_none0 h0).2 k hk
  rw [h] at this
  cases this
theorem af_60 {l : List VAct} (h : 60 < (l.length : Int)) : ¬ afault l = 0 := fun h0 => by
  have := (af_none0 h0).1
  omega
theorem aText_le {l : List VAct} (h : ∀ i, i < l.length → validAct (l.getD i zA) = true) (h0 : l.length ≤ 60) {k : Nat} (hk : k ≤ l.length) : (aText l k).length ≤ 1680 := by
  have h1 := joinT_le (f := fun i => actT (l.getD i zA) ++ [10]) (B := 28) k fun i hi => by
    have := actT_le (h i (by omega))
    simp only [List.length_append, List.length_cons, List.length_nil]
    omega
  unfold aText
  omega
theorem aText_pos {l : List VAct} {k : Nat} (hk : 0 < k) : aText l k ≠ [] := by
  have := joinT_pos (f := fun i => actT (l.getD i zA) ++ [10]) (fun i => by simp only [List.length_append, List.length_cons, List.length_nil]; omega) k hk
  intro h
  unfold aText at h
  rw [h] at this
  simp at this
theorem aText_s (l : List VAct) (k : Nat) : aText l (k + 1) = aText l k ++ (actT (l.getD k zA) ++ [10]) := rfl
end Go.W
