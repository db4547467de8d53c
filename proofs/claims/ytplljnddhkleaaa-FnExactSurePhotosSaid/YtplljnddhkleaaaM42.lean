/- What can be reached, row by row. -/
import Derived.Test.YtplljnddhkleaaaM41
set_option linter.unusedVariables false
set_option linter.unusedSimpArgs false
namespace Go.W
open Go Go.Sx
structure GSt where
  A : Option Addr
  c : Nat
  J : List (VX Bool)
theorem outX_old {α : Type} {K : List (VX α)} {r : VX α} {n i : Nat} (h : i < K.length) : (outX (K ++ [r]) n).getD i zX = K.getD i zX := by
  unfold outX
  rw [List.append_assoc]
  simp only [List.getD, List.getElem?_append_left h]
def curR (lo hi : Int) (F : Nat → List Int) (k i j : Nat) : Bool := if k = 0 then true else reachA lo hi (F (k - 1)) (reachL lo hi F (k - 1)) ((F k).getD i 0) j
def rowQ (lo hi : Int) (F : Nat → List Int) (k i j : Nat) : List Bool := (Sx.part false (reachL lo hi F k) i).set i (curR lo hi F k i j)
theorem rowQ_len {lo hi : Int} {F : Nat → List Int} {k i j : Nat} (h : i ≤ (F k).length) : (rowQ lo hi F k i j).length = (F k).length := by
  unfold rowQ; rw [List.length_set, part_len _ _ _ (by rw [reach_len]; exact h), reach_len]
theorem rowQ_at {lo hi : Int} {F : Nat → List Int} {k i j : Nat} (h : i < (F k).length) : (rowQ lo hi F k i j).getD i false = curR lo hi F k i j := by
  unfold rowQ
  have : i < (Sx.part false (reachL lo hi F k) i).length := by rw [part_len _ _ _ (by rw [reach_len]; omega), reach_len]; exact h
  simp [List.getD, this]
theorem rowQ_0 {lo hi : Int} {F : Nat → List Int} {k i q : Nat} {v : List Value} (h : i < (F k).length) (hq : q = i * 1) (hv : v = eB (decide ((k : Int) = 0))) : put ((Sx.part false (reachL lo hi F k) i).flatMap eB) q v = (rowQ lo hi F k i 0).flatMap eB := by
  subst hq hv
  rw [flat_put eB_len _ _ _ (by rw [part_len _ _ _ (by rw [reach_len]; omega), reach_len]; exact h)]
  unfold rowQ curR
  by_cases hk : k = 0
  · subst hk; simp
  · rw [if_neg hk, ra_0, decide_eq_false (by omega)]
theorem rowQ_s {lo hi : Int} {F : Nat → List Int} {k i j q : Nat} {v : List Value} (h : i < (F k).length) (hq : q = i * 1) (hv : v = eB (curR lo hi F k i (j + 1))) : put ((rowQ lo hi F k i j).flatMap eB) q v = (rowQ lo hi F k i (j + 1)).flatMap eB := by
  subst hq hv
  rw [flat_put eB_len _ _ _ (by rw [rowQ_len (by omega)]; exact h)]
  unfold rowQ; rw [List.set_set]
theorem rowQ_fin {lo hi : Int} {F : Nat → List Int} {k i j : Nat} (h : i < (F k).length) (he : curR lo hi F k i j = (reachL lo hi F k).getD i false) : rowQ lo hi F k i j = Sx.part false (reachL lo hi F k) (i + 1) := by
  unfold rowQ
  rw [he, part_set _ _ _ _ (by rw [reach_len]; exact h)]
theorem cr_0 {lo hi : Int} {F : Nat → List Int} {k i j : Nat} (h : i < (F k).length) (hk : k = 0) : curR lo hi F k i j = (reachL lo hi F k).getD i false := by
  subst hk; rw [reach_0 h]; rfl
theorem cr_len {lo hi : Int} {F : Nat → List Int} {k i j : Nat} (h : i < (F k).length) (hj : j = (F (k - 1)).length) : curR lo hi F k i j = (reachL lo hi F k).getD i false := by
  subst hj
  rcases Nat.eq_zero_or_pos k with hk | hk
  · exact cr_0 h hk
  · obtain ⟨k', rfl⟩ : ∃ k', k = k' + 1 := ⟨k - 1, by omega⟩
    rw [reach_s h]; rfl
theorem cr_t {lo hi : Int} {F : Nat → List Int} {k i j : Nat} (h : i < (F k).length) (hj : j ≤ (F (k - 1)).length) (ht : curR lo hi F k i j = true) : curR lo hi F k i j = (reachL lo hi F k).getD i false := by
  rw [← cr_len h rfl, ht]
  rcases Nat.eq_zero_or_pos k with hk | hk
  · subst hk; rfl
  · unfold curR at ht ⊢
    rw [if_neg (by omega)] at ht ⊢
    exact (ra_true ht hj).symm
theorem cr_st {lo hi : Int} {F : Nat → List Int} {k i j : Nat} (ht : curR lo hi F k i j = true) : true = curR lo hi F k i (j + 1) := by
  unfold curR at ht ⊢
  split at ht
  · rw [if_pos ‹_›]
  · rw [if_neg ‹_›]; exact (ra_true ht (by omega)).symm
theorem cr_sf {lo hi : Int} {F : Nat → List Int} {k i j : Nat} {J : List (VX Bool)} (hR : ∀ i, i < J.length → (J.getD i zX).xs = reachL lo hi F i) (hk : 0 < k) (hkJ : k ≤ J.length) (ht : curR lo hi F k i j = false) (h2 : (J.getD (k - 1) zX).xs.getD j false = false) : false = curR lo hi F k i (j + 1) := by
  unfold curR at ht ⊢
  rw [if_neg (by omega)] at ht ⊢
  rw [hR (k - 1) (by omega)] at h2
  rw [ra_s, ht, h2]; rfl
theorem cr_sg {lo hi : Int} {F : Nat → List Int} {k i j : Nat} {J : List (VX Bool)} (hR : ∀ i, i < J.length → (J.getD i zX).xs = reachL lo hi F i) (hk : 0 < k) (hkJ : k ≤ J.length) (ht : curR lo hi F k i j = false) (h2 : (J.getD (k - 1) zX).xs.getD j false = true) : goesB lo hi ((F (k - 1)).getD j 0) ((F k).getD i 0) = curR lo hi F k i (j + 1) := by
  unfold curR at ht ⊢
  rw [if_neg (by omega)] at ht ⊢
  rw [hR (k - 1) (by omega)] at h2
  rw [ra_s, ht, h2]; simp
theorem cr_z {lo hi : Int} {F : Nat → List Int} {k i j : Nat} (h : curR lo hi F k i j = false) (hk : k = 0) : False := by subst hk; cases h
theorem part_full {lo hi : Int} {F : Nat → List Int} {k i : Nat} (h : i = (F k).length) : Sx.part false (reachL lo hi F k) i = reachL lo hi F k := by rw [h, ← reach_len lo hi F k, part_all]
theorem zrow {lo hi : Int} {F : Nat → List Int} {k n : Nat} (h : n = (F k).length) : zerosL (eB false) n = (Sx.part false (reachL lo hi F k) 0).flatMap eB := zpart eB_len false rfl _ (by rw [h, reach_len])
theorem rk_snoc {lo hi : Int} {F : Nat → List Int} {J : List (VX Bool)} {A : Option Addr} {c : Nat} (hR : ∀ i, i < J.length → (J.getD i zX).xs = reachL lo hi F i) : ∀ i, i < (J ++ [(⟨A, c, reachL lo hi F J.length⟩ : VX Bool)]).length → ((J ++ [(⟨A, c, reachL lo hi F J.length⟩ : VX Bool)]).getD i zX).xs = reachL lo hi F i := fun i hi2 => by
  rcases Nat.lt_or_ge i J.length with h | h
  · rw [show (J ++ [(⟨A, c, reachL lo hi F J.length⟩ : VX Bool)]).getD i zX = J.getD i zX by simp only [List.getD, List.getElem?_append_left h]]
    exact hR i h
  · obtain rfl : i = J.length := by simp at hi2; omega
    simp [List.getD]
theorem any_yesB {l : List Bool} {k : Nat} (hk : k < l.length) (h : l.getD k false = true) : true = l.any id := (any_get.2 ⟨k, hk, h⟩).symm
theorem any_noB {l : List Bool} {k : Nat} (hk : ¬ k < l.length) (h : ∀ i, i < k → l.getD i false = false) : false = l.any id := by
  symm; rw [← Bool.not_eq_true, any_get]; rintro ⟨i, hi, h2⟩; rw [h i (by omega)] at h2; cases h2
theorem svy {s : List Int} {L : List VPh} {K : List (VX Int)} {J : List (VX Bool)} {lo hi : Int} {k : Nat} (hx : K.map (·.xs) = filmL s L) (h : codeF s L lo hi lo = 0) (hJ : ∀ i, i < J.length → (J.getD i zX).xs = reachL lo hi (fun k => (K.getD k zX).xs) i) (hJl : J.length = L.length) (hk : k < L.length) (hall : ∀ i, i < k → (J.getD i zX).xs.any id = true) (hn : (J.getD k zX).xs.any id = false) : stuckV s L lo hi = ((k : Int), 0) := by
  rw [kx_fun hx] at hJ
  exact sv_y h hk (fun i hi => by rw [← hJ i (by omega)]; exact hall i hi) (by rw [← hJ k (by omega)]; exact hn)
theorem svn {s : List Int} {L : List VPh} {K : List (VX Int)} {J : List (VX Bool)} {lo hi : Int} {k : Nat} (hx : K.map (·.xs) = filmL s L) (h : codeF s L lo hi lo = 0) (hJ : ∀ i, i < J.length → (J.getD i zX).xs = reachL lo hi (fun k => (K.getD k zX).xs) i) (hJl : J.length = L.length) (hk : ¬ k < J.length) (hall : ∀ i, i < k → (J.getD i zX).xs.any id = true) : stuckV s L lo hi = (0, 6) := by
  rw [kx_fun hx] at hJ
  exact sv_n h fun i hi => by rw [← hJ i (by omega)]; exact hall i (by omega)
end Go.W
