/- Least sums to the end, row by row from the last. -/
import Derived.Test.YtplljnddhkleaaaM44
set_option linter.unusedVariables false
set_option linter.unusedSimpArgs false
namespace Go.W
open Go Go.Sx
/-! a list of lists that is filled from the end -/
def outE {α : Type} (J : List (VX α)) (n : Nat) : List (VX α) := (List.range n).map fun k => J.getD (n - 1 - k) zX
theorem outE_len {α : Type} (J : List (VX α)) (n : Nat) : (outE J n).length = n := by simp [outE]
theorem outE_at {α : Type} {J : List (VX α)} {n k : Nat} (h : k < n) : (outE J n).getD k zX = J.getD (n - 1 - k) zX := by simp [outE, List.getD, h]
theorem outE_set {α : Type} {J : List (VX α)} {n : Nat} (r : VX α) (h : J.length < n) : (outE J n).set (n - 1 - J.length) r = outE (J ++ [r]) n := by
  refine List.ext_getElem (by simp [outE]) fun k h1 h2 => ?_
  have hk : k < n := by simpa [outE] using h2
  rw [List.getElem_set]
  simp only [outE, List.getElem_map, List.getElem_range]
  by_cases e : n - 1 - J.length = k
  · subst e
    rw [if_pos rfl, show n - 1 - (n - 1 - J.length) = J.length by omega]
    simp [List.getD]
  · rw [if_neg e]
    rcases Nat.lt_or_ge (n - 1 - k) J.length with h3 | h3
    · simp only [List.getD, List.getElem?_append_left h3]
    · simp only [List.getD]
      rw [List.getElem?_eq_none h3, List.getElem?_eq_none (by simp; omega)]
theorem outE_put {α : Type} {J : List (VX α)} {n i : Nat} {v : List Value} (r : VX α) (h : J.length < n) (hi : i = (n - 1 - J.length) * 1) (hv : v = encX r) : put ((outE J n).flatMap encX) i v = (outE (J ++ [r]) n).flatMap encX := by
  subst hi hv
  rw [flat_put encX_len _ _ _ (by rw [outE_len]; omega), outE_set r h]
theorem zoutE {α : Type} {zs : List Value} {n : Nat} (h : zs = encX (zX : VX α)) : zerosL zs n = (outE ([] : List (VX α)) n).flatMap encX := by
  subst h
  rw [zeros_flat encX_len zX (by omega) n]
  congr 1
  refine List.ext_getElem (by simp [outE]) fun k h1 h2 => by simp [outE]
theorem outE_last {α : Type} {J : List (VX α)} {r : VX α} {n : Nat} (h : J.length < n) : (outE (J ++ [r]) n).getD (n - 1 - J.length) zX = r := by
  rw [outE_at (by omega), show n - 1 - (n - 1 - J.length) = J.length by omega]; simp [List.getD]
theorem outE_next {α : Type} {J : List (VX α)} {r : VX α} {n : Nat} (h : J.length < n) (h0 : 0 < J.length) : (outE (J ++ [r]) n).getD (n - 1 - J.length + 1) zX = J.getD (J.length - 1) zX := by
  rw [outE_at (by omega), show n - 1 - (n - 1 - J.length + 1) = J.length - 1 by omega]
  simp only [List.getD, List.getElem?_append_left (show J.length - 1 < J.length by omega)]
theorem outE_prev {α : Type} {J : List (VX α)} {n : Nat} (h : J.length < n) (h0 : 0 < J.length) : (outE J n).getD (n - 1 - J.length + 1) zX = J.getD (J.length - 1) zX := by
  rw [outE_at (by omega), show n - 1 - (n - 1 - J.length + 1) = J.length - 1 by omega]
/-! rows of sums -/
def curC (lo hi us : Int) (F : Nat → List Int) (n t i j : Nat) : Int := minC lo hi us ((F (n - 1 - t)).getD i 0) (F (n - 1 - t + 1)) (costL lo hi us F n (t - 1)) j
def rowC (z lo hi us : Int) (F : Nat → List Int) (n t i j : Nat) : List Int := (Sx.part z (costL lo hi us F n t) i).set i (curC lo hi us F n t i j)
variable {z lo hi us : Int} {F : Nat → List Int} {n t i j : Nat}
theorem cost_k (h0 : 0 < t) (ht : t < n) (h : i < (F (n - 1 - t)).length) : (costL lo hi us F n t).getD i 0 = curC lo hi us F n t i (F (n - 1 - t + 1)).length := by
  obtain ⟨t', rfl⟩ : ∃ t', t = t' + 1 := ⟨t - 1, by omega⟩
  have e1 : n - 2 - t' = n - 1 - (t' + 1) := by omega
  have e2 : n - 1 - t' = n - 1 - (t' + 1) + 1 := by omega
  rw [cost_s (by rw [e1]; exact h), e1, e2]; rfl
theorem cost_ln (ht : t < n) : (costL lo hi us F n t).length = (F (n - 1 - t)).length := cost_len lo hi us F n t ht
theorem partC_len (ht : t < n) (h : i ≤ (F (n - 1 - t)).length) : (Sx.part z (costL lo hi us F n t) i).length = (F (n - 1 - t)).length := by rw [part_len _ _ _ (by rw [cost_ln ht]; exact h), cost_ln ht]
theorem rowC_len (ht : t < n) (h : i ≤ (F (n - 1 - t)).length) : (rowC z lo hi us F n t i j).length = (F (n - 1 - t)).length := by unfold rowC; rw [List.length_set, partC_len ht h]
theorem rowC_at (ht : t < n) (h : i < (F (n - 1 - t)).length) : (rowC z lo hi us F n t i j).getD i 0 = curC lo hi us F n t i j := by
  unfold rowC
  have : i < (Sx.part z (costL lo hi us F n t) i).length := by rw [partC_len ht (by omega)]; exact h
  simp [List.getD, this]
theorem rowC_0 (ht : t < n) (h : i < (F (n - 1 - t)).length) : Sx.part (-1) (costL lo hi us F n t) i = rowC (-1) lo hi us F n t i 0 := by
  unfold rowC curC
  rw [minC]
  refine List.ext_getElem? fun j => ?_
  rw [List.getElem?_set]
  split
  · next e =>
    subst e
    rw [partC_len ht (by omega), if_pos h]
    unfold Sx.part
    rw [List.getElem?_append_right (by simp; omega), List.getElem?_replicate, if_pos (by simp [cost_ln ht]; omega)]
  · rfl
theorem rowC_00 {q : Nat} {v : List Value} (ht : t < n) (h : i < (F (n - 1 - t)).length) (hq : q = i * 1) (hv : v = eI .i64 (-1)) : put ((Sx.part z (costL lo hi us F n t) i).flatMap (eI .i64)) q v = (rowC z lo hi us F n t i 0).flatMap (eI .i64) := by
  subst hq hv
  rw [flat_put (eI_len .i64) _ _ _ (by rw [partC_len ht (by omega)]; exact h)]; rfl
theorem rowC_s {q : Nat} {v : List Value} (ht : t < n) (h : i < (F (n - 1 - t)).length) (hq : q = i * 1) (hv : v = eI .i64 (curC lo hi us F n t i (j + 1))) : put ((rowC z lo hi us F n t i j).flatMap (eI .i64)) q v = (rowC z lo hi us F n t i (j + 1)).flatMap (eI .i64) := by
  subst hq hv
  rw [flat_put (eI_len .i64) _ _ _ (by rw [rowC_len ht (by omega)]; exact h)]
  unfold rowC; rw [List.set_set]
theorem rowC_fin (h0 : 0 < t) (ht : t < n) (h : i < (F (n - 1 - t)).length) (hj : j = (F (n - 1 - t + 1)).length) : rowC z lo hi us F n t i j = Sx.part z (costL lo hi us F n t) (i + 1) := by
  unfold rowC
  rw [hj, ← cost_k h0 ht h, part_set _ _ _ _ (by rw [cost_ln ht]; exact h)]
theorem partC_full (ht : t < n) (h : i = (F (n - 1 - t)).length) : Sx.part z (costL lo hi us F n t) i = costL lo hi us F n t := by rw [h, ← cost_ln (lo := lo) (hi := hi) (us := us) ht, part_all]
theorem partC_z : Sx.part 0 (costL lo hi us F n 0) i = costL lo hi us F n 0 := by
  refine List.ext_getElem? fun q => ?_
  have hl : (costL lo hi us F n 0) = (F (n - 1)).map fun _ => 0 := rfl
  unfold Sx.part
  rw [hl]
  rcases Nat.lt_or_ge q (min i (F (n - 1)).length) with h | h
  · rw [List.getElem?_append_left (by simp; omega), List.getElem?_take, if_pos (by omega)]
  · rw [List.getElem?_append_right (by simp; omega), List.getElem?_replicate, List.getElem?_map]
    rcases Nat.lt_or_ge q (F (n - 1)).length with h2 | h2
    · rw [if_pos (by simp; omega), List.getElem?_eq_getElem h2]; rfl
    · rw [if_neg (by simp; omega), List.getElem?_eq_none h2]; rfl
theorem partC_any (ht : t < n) (h : t = 0 ∨ i = (F (n - 1 - t)).length) : Sx.part 0 (costL lo hi us F n t) i = costL lo hi us F n t := by
  rcases h with h | h
  · subst h; exact partC_z
  · exact partC_full ht h
theorem zrowC {N : Nat} (ht : t < n) (h : N = (F (n - 1 - t)).length) : zerosL (eI .i64 0) N = (Sx.part 0 (costL lo hi us F n t) 0).flatMap (eI .i64) := zpart (eI_len .i64) 0 rfl _ (by rw [h, cost_ln ht])
theorem zrowC0 {N : Nat} (hn : 0 < n) (h : N = (F (n - 1)).length) : zerosL (eI .i64 0) N = (costL lo hi us F n 0).flatMap (eI .i64) := by
  rw [zrowC (lo := lo) (hi := hi) (us := us) (n := n) (t := 0) (F := F) hn h, partC_z]
theorem repC {N : Nat} (ht : t < n) (h : N = (F (n - 1 - t)).length) : List.replicate N (-1) = Sx.part (-1) (costL lo hi us F n t) 0 := by
  rw [part_zero, cost_ln ht, h]
theorem rk_cost {J : List (VX Int)} {A : Option Addr} {c : Nat} (hR : ∀ i, i < J.length → (J.getD i zX).xs = costL lo hi us F n i) : ∀ i, i < (J ++ [(⟨A, c, costL lo hi us F n J.length⟩ : VX Int)]).length → ((J ++ [(⟨A, c, costL lo hi us F n J.length⟩ : VX Int)]).getD i zX).xs = costL lo hi us F n i := fun i hi2 => by
  rcases Nat.lt_or_ge i J.length with h | h
  · rw [show (J ++ [(⟨A, c, costL lo hi us F n J.length⟩ : VX Int)]).getD i zX = J.getD i zX by simp only [List.getD, List.getElem?_append_left h]]
    exact hR i h
  · obtain rfl : i = J.length := by simp at hi2; omega
    simp [List.getD]
theorem rk_one {A : Option Addr} {c : Nat} : ∀ i, i < [(⟨A, c, costL lo hi us F n 0⟩ : VX Int)].length → ([(⟨A, c, costL lo hi us F n 0⟩ : VX Int)].getD i zX).xs = costL lo hi us F n i := fun i hi2 => by
  obtain rfl : i = 0 := by simp at hi2; omega
  rfl
theorem cc_n {J : List (VX Int)} (hR : ∀ i, i < J.length → (J.getD i zX).xs = costL lo hi us F n i) (h0 : 0 < J.length) (h : (J.getD (J.length - 1) zX).xs.getD j 0 < 0 ∨ goesB lo hi ((F (n - 1 - J.length)).getD i 0) ((F (n - 1 - J.length + 1)).getD j 0) = false) : rowC z lo hi us F n J.length i j = rowC z lo hi us F n J.length i (j + 1) := by
  rw [hR _ (by omega)] at h
  unfold rowC curC; rw [mc_n h]
theorem cc_y {J : List (VX Int)} (hR : ∀ i, i < J.length → (J.getD i zX).xs = costL lo hi us F n i) (h0 : 0 < J.length) (h : ¬ (J.getD (J.length - 1) zX).xs.getD j 0 < 0) (hg : goesB lo hi ((F (n - 1 - J.length)).getD i 0) ((F (n - 1 - J.length + 1)).getD j 0) = true)
    (h3 : curC lo hi us F n J.length i j < 0 ∨ (J.getD (J.length - 1) zX).xs.getD j 0 + absW ((F (n - 1 - J.length + 1)).getD j 0 - (F (n - 1 - J.length)).getD i 0 - us) < curC lo hi us F n J.length i j) : (J.getD (J.length - 1) zX).xs.getD j 0 + absW ((F (n - 1 - J.length + 1)).getD j 0 - (F (n - 1 - J.length)).getD i 0 - us) = curC lo hi us F n J.length i (j + 1) := by
  rw [hR _ (by omega)] at h h3 ⊢
  unfold curC at h3 ⊢; rw [mc_y h hg h3]
theorem cc_k {J : List (VX Int)} (hR : ∀ i, i < J.length → (J.getD i zX).xs = costL lo hi us F n i) (h0 : 0 < J.length)
    (h3 : ¬ (curC lo hi us F n J.length i j < 0 ∨ (J.getD (J.length - 1) zX).xs.getD j 0 + absW ((F (n - 1 - J.length + 1)).getD j 0 - (F (n - 1 - J.length)).getD i 0 - us) < curC lo hi us F n J.length i j)) : rowC z lo hi us F n J.length i j = rowC z lo hi us F n J.length i (j + 1) := by
  rw [hR _ (by omega)] at h3
  unfold rowC; unfold curC at h3 ⊢; rw [mc_k h3]
theorem fk_all {K : List (VX Int)} {n : Nat} (h : FK K n) : ∀ k q, 0 ≤ (K.getD k zX).xs.getD q 0 ∧ (K.getD k zX).xs.getD q 0 ≤ 1000000000000 := fun k q => by
  rcases Nat.lt_or_ge k n with hk | hk
  · have := h.v k q hk; omega
  · have hl := h.len
    rw [show K.getD k zX = zX by simp only [List.getD]; rw [List.getElem?_eq_none (by omega)]; rfl]
    simp [zX]
theorem cur_bd (hF : ∀ k q, 0 ≤ (F k).getD q 0 ∧ (F k).getD q 0 ≤ 1000000000000) (hu : 0 ≤ us ∧ us ≤ 1000000000000) (ht : t ≤ 20) : -1 ≤ curC lo hi us F n t i j ∧ curC lo hi us F n t i j ≤ 50000000000000 := by
  unfold curC
  refine ⟨mc_lo .., ?_⟩
  have h1 := mc_hi (lo := lo) (hi := hi) (us := us) (v := (F (n - 1 - t)).getD i 0) (nv := F (n - 1 - t + 1)) (nc := costL lo hi us F n (t - 1)) (B := 2000000000000 * ((t - 1 : Nat) : Int)) (by omega) (cost_hi hF hu (t - 1)) (hF _ _) (hF _) hu j
  omega
theorem co_bd {J : List (VX Int)} (hF : ∀ k q, 0 ≤ (F k).getD q 0 ∧ (F k).getD q 0 ≤ 1000000000000) (hu : 0 ≤ us ∧ us ≤ 1000000000000) (hR : ∀ i, i < J.length → (J.getD i zX).xs = costL lo hi us F n i) (hJ : J.length ≤ 20) {k : Nat} (hk : k < J.length) (q : Nat) : -1 ≤ (J.getD k zX).xs.getD q 0 ∧ (J.getD k zX).xs.getD q 0 ≤ 50000000000000 := by
  rw [hR k hk]
  have h1 := cost_lo lo hi us F n k q
  have h2 := cost_hi (lo := lo) (hi := hi) (n := n) hF hu k q
  omega
theorem abs_bd {a b u : Int} (ha : 0 ≤ a ∧ a ≤ 1000000000000) (hb : 0 ≤ b ∧ b ≤ 1000000000000) (hu : 0 ≤ u ∧ u ≤ 1000000000000) : 0 ≤ absW (b - a - u) ∧ absW (b - a - u) ≤ 2000000000000 := by unfold absW; split <;> omega
theorem goes_t {lo hi a b : Int} (h : lo ≤ b - a ∧ b - a ≤ hi) : goesB lo hi a b = true := decide_eq_true h
theorem goes_f {lo hi a b : Int} (h : ¬ (lo ≤ b - a ∧ b - a ≤ hi)) : goesB lo hi a b = false := decide_eq_false h
end Go.W
