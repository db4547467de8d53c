/- Numbers that lack, in plain numbers. -/
import Derived.Test.YthfbmkfbmmjchaaDoorM9
set_option linter.unusedVariables false
set_option linter.unusedSimpArgs false
namespace Go.W
open Go Go.Sx
def mkI (n : Nat) (k : Int) : List Int := (List.range n).map fun (i : Nat) => k + (i : Int)
theorem mkI_len (n : Nat) (k : Int) : (mkI n k).length = n := by simp [mkI]
theorem mkI_at {n : Nat} {k : Int} {i : Nat} (h : i < n) : (mkI n k).getD i 0 = k + (i : Int) := by simp [mkI, List.getD, h]
def hasI (s : List Int) (n : Int) : Bool := decide (∃ i, i < s.length ∧ s.getD i 0 = n)
theorem has_t {s : List Int} {n : Int} {k : Nat} (hk : k < s.length) (h : s.getD k 0 = n) : true = hasI s n := by unfold hasI; exact (decide_eq_true ⟨k, hk, h⟩).symm
theorem has_f {s : List Int} {n : Int} {k : Nat} (hk : ¬ k < s.length) (h : ∀ i, i < k → s.getD i 0 ≠ n) : false = hasI s n := by
  unfold hasI; exact (decide_eq_false fun ⟨i, hi, e⟩ => h i (by omega) e).symm
def numsL (l : List VTic) : Nat → List Int
  | 0 => []
  | k + 1 => if hasI (numsL l k) (l.getD k zT).number = true then numsL l k else numsL l k ++ [(l.getD k zT).number]
def mostL (l : List VTic) : Nat → Int
  | 0 => 0
  | k + 1 => max (mostL l k) (l.getD k zT).number
def lackL (ns : List Int) : Nat → List Int
  | 0 => []
  | j + 1 => if hasI ns ((j : Int) + 1) = true then lackL ns j else lackL ns j ++ [(j : Int) + 1]
theorem nl_t {l : List VTic} {k : Nat} (h : hasI (numsL l k) (l.getD k zT).number = true) : numsL l (k + 1) = numsL l k := by rw [numsL, if_pos h]
theorem nl_f {l : List VTic} {k : Nat} (h : hasI (numsL l k) (l.getD k zT).number = false) : numsL l (k + 1) = numsL l k ++ [(l.getD k zT).number] := by rw [numsL, if_neg (by rw [h]; decide)]
theorem ll_t {ns : List Int} {j : Nat} (h : hasI ns ((j : Int) + 1) = true) : lackL ns (j + 1) = lackL ns j := by rw [lackL, if_pos h]
theorem ll_f {ns : List Int} {j : Nat} (h : hasI ns ((j : Int) + 1) = false) : lackL ns (j + 1) = lackL ns j ++ [(j : Int) + 1] := by rw [lackL, if_neg (by rw [h]; decide)]
theorem numsL_len (l : List VTic) : ∀ k, (numsL l k).length ≤ k
  | 0 => by simp [numsL]
  | k + 1 => by
    have := numsL_len l k
    rw [numsL]; split
    · omega
    · rw [List.length_append]; simp; omega
theorem lackL_len (ns : List Int) : ∀ k, (lackL ns k).length ≤ k
  | 0 => by simp [lackL]
  | k + 1 => by
    have := lackL_len ns k
    rw [lackL]; split
    · omega
    · rw [List.length_append]; simp; omega
def badG (s : List Int) (l : List VTic) (i : Nat) : Bool := !genT s (l.getD i zT)
theorem gen_n {s : List Int} {t : VTic} (h : genT s t = true) : 1 ≤ t.number ∧ t.number ≤ 1000000 := by unfold genT at h; rw [decide_eq_true_iff] at h; exact h.1
theorem most_bd {s : List Int} {l : List VTic} : ∀ k, (∀ i, i < k → badG s l i = false) → 0 ≤ mostL l k ∧ mostL l k ≤ 1000000
  | 0, _ => by simp [mostL]
  | k + 1, h => by
    have h1 := most_bd (s := s) (l := l) k fun i hi => h i (by omega)
    have h2 := h k (by omega)
    unfold badG at h2
    have h3 := gen_n (s := s) (t := l.getD k zT) (by simpa using h2)
    rw [mostL]; omega
def missV (s : List Int) (l : List VTic) : List Int × Int :=
  if tfault s l.length ≠ 0 then ([], tfault s l.length)
  else match firstB (badG s l) l.length with
    | some _ => ([], 8)
    | none => if 1000 < mostL l l.length - (numsL l l.length).length then ([], 2) else (lackL (numsL l l.length) (mostL l l.length).toNat, 0)
theorem mi_tf {s : List Int} {l : List VTic} (h : tfault s l.length ≠ 0) : missV s l = ([], tfault s l.length) := by unfold missV; rw [if_pos h]
theorem mi_bad {s : List Int} {l : List VTic} {k : Nat} (h : ¬ tfault s l.length ≠ 0) (hk : k < l.length) (hall : ∀ i, i < k → badG s l i = false) (hb : badG s l k = true) : missV s l = ([], 8) := by
  unfold missV; rw [if_neg h, firstB_hit hk hall hb]
theorem mi_far {s : List Int} {l : List VTic} {k : Nat} (h : ¬ tfault s l.length ≠ 0) (hk : k = l.length) (hall : ∀ i, i < k → badG s l i = false) (h1 : 1000 < mostL l k - (numsL l k).length) : missV s l = ([], 2) := by
  subst hk; unfold missV; rw [if_neg h, firstB_none (k := l.length) (by omega) hall]; exact if_pos h1
theorem mi_ok {s : List Int} {l : List VTic} {k j : Nat} (h : ¬ tfault s l.length ≠ 0) (hk : k = l.length) (hall : ∀ i, i < k → badG s l i = false) (h1 : ¬ 1000 < mostL l k - (numsL l k).length) (hj : j = (mostL l k).toNat) : missV s l = (lackL (numsL l k) j, 0) := by
  subst hk hj; unfold missV; rw [if_neg h, firstB_none (k := l.length) (by omega) hall]; exact if_neg h1
theorem mi_len {s : List Int} {l : List VTic} : (missV s l).1.length ≤ 1000000 := by
  unfold missV
  split
  · simp
  · split
    · simp
    · rename_i h
      split
      · simp
      · show (lackL _ _).length ≤ _
        have h1 := lackL_len (numsL l l.length) (mostL l l.length).toNat
        have h2 : ∀ i, i < l.length → badG s l i = false := fun i hi => by
          unfold firstB at h
          rw [List.find?_eq_none] at h
          simpa using h i (by simpa using hi)
        have h3 := most_bd (s := s) (l := l) l.length h2
        omega
theorem gbad {s : List Int} {l : List VTic} {k : Nat} (h : genT s (l.getD k zT) = false) : badG s l k = true := by unfold badG; rw [h]; rfl
theorem ggood {s : List Int} {l : List VTic} {k : Nat} (h : genT s (l.getD k zT) = true) : badG s l k = false := by unfold badG; rw [h]; rfl
end Go.W
