/- How many ways, row by row. -/
import Derived.Test.YtplljnddhkleaaaM42
set_option linter.unusedVariables false
set_option linter.unusedSimpArgs false
namespace Go.W
open Go Go.Sx
def befL (lo hi : Int) (F : Nat → List Int) : Nat → List Int
  | 0 => []
  | k + 1 => wayL lo hi F k
def totW (lo hi : Int) (F : Nat → List Int) : Nat → Int
  | 0 => 0
  | k + 1 => wTot lo hi F k
theorem bef_pos {lo hi : Int} {F : Nat → List Int} {k j : Nat} (h : j < (befL lo hi F k).length) : 0 < k := by
  cases k with
  | zero => simp [befL] at h
  | succ k => omega
theorem bef_len {lo hi : Int} {F : Nat → List Int} {k : Nat} (h : 0 < k) : (befL lo hi F k).length = (F (k - 1)).length := by
  obtain ⟨k', rfl⟩ : ∃ k', k = k' + 1 := ⟨k - 1, by omega⟩
  rw [befL, way_len]; rfl
theorem bef_s (lo hi : Int) (F : Nat → List Int) (k : Nat) : (befL lo hi F (k + 1)).length = (F k).length := by rw [befL, way_len]
def curW (lo hi : Int) (F : Nat → List Int) (k i j : Nat) : Int := if k = 0 then 1 else wSum lo hi (F (k - 1)) (wayL lo hi F (k - 1)) ((F k).getD i 0) j
def rowW (lo hi : Int) (F : Nat → List Int) (k i j : Nat) : List Int := (Sx.part 0 (wayL lo hi F k) i).set i (curW lo hi F k i j)
theorem partW_len {lo hi : Int} {F : Nat → List Int} {k i : Nat} (h : i ≤ (F k).length) : (Sx.part 0 (wayL lo hi F k) i).length = (F k).length := by rw [part_len _ _ _ (by rw [way_len]; exact h), way_len]
theorem rowW_len {lo hi : Int} {F : Nat → List Int} {k i j : Nat} (h : i ≤ (F k).length) : (rowW lo hi F k i j).length = (F k).length := by unfold rowW; rw [List.length_set, partW_len h]
theorem rowW_at {lo hi : Int} {F : Nat → List Int} {k i j : Nat} (h : i < (F k).length) : (rowW lo hi F k i j).getD i 0 = curW lo hi F k i j := by
  unfold rowW
  have : i < (Sx.part 0 (wayL lo hi F k) i).length := by rw [partW_len (by omega)]; exact h
  simp [List.getD, this]
theorem rowW_0y {lo hi : Int} {F : Nat → List Int} {k i q : Nat} {v : List Value} (h : i < (F k).length) (hk : k = 0) (hq : q = i * 1) (hv : v = eI .i64 1) : put ((Sx.part 0 (wayL lo hi F k) i).flatMap (eI .i64)) q v = (rowW lo hi F k i 0).flatMap (eI .i64) := by
  subst hq hv hk
  rw [flat_put (eI_len .i64) _ _ _ (by rw [partW_len (by omega)]; exact h)]; rfl
theorem rowW_0n {lo hi : Int} {F : Nat → List Int} {k i : Nat} (h : i < (F k).length) (hk : 0 < k) : Sx.part 0 (wayL lo hi F k) i = rowW lo hi F k i 0 := by
  unfold rowW curW
  rw [if_neg (by omega), wSum]
  refine List.ext_getElem? fun j => ?_
  rw [List.getElem?_set]
  split
  · next e =>
    subst e
    rw [partW_len (by omega), if_pos h]
    unfold Sx.part
    rw [List.getElem?_append_right (by simp; omega), List.getElem?_replicate, if_pos (by simp [way_len]; omega)]
  · rfl
theorem rowW_s {lo hi : Int} {F : Nat → List Int} {k i j q : Nat} {v : List Value} (h : i < (F k).length) (hq : q = i * 1) (hv : v = eI .i64 (curW lo hi F k i (j + 1))) : put ((rowW lo hi F k i j).flatMap (eI .i64)) q v = (rowW lo hi F k i (j + 1)).flatMap (eI .i64) := by
  subst hq hv
  rw [flat_put (eI_len .i64) _ _ _ (by rw [rowW_len (by omega)]; exact h)]
  unfold rowW; rw [List.set_set]
theorem cw_y {lo hi : Int} {F : Nat → List Int} {k i j : Nat} (hk : 0 < k) (hg : goesB lo hi ((F (k - 1)).getD j 0) ((F k).getD i 0) = true) : curW lo hi F k i j + (befL lo hi F k).getD j 0 = curW lo hi F k i (j + 1) := by
  obtain ⟨k', rfl⟩ : ∃ k', k = k' + 1 := ⟨k - 1, by omega⟩
  unfold curW
  rw [if_neg (by omega), if_neg (by omega), wSum, if_pos hg]; rfl
theorem cw_n {lo hi : Int} {F : Nat → List Int} {k i j : Nat} (hk : 0 < k) (hg : goesB lo hi ((F (k - 1)).getD j 0) ((F k).getD i 0) = false) : rowW lo hi F k i j = rowW lo hi F k i (j + 1) := by
  unfold rowW curW
  rw [if_neg (by omega), if_neg (by omega), wSum, if_neg (by rw [hg]; decide), Int.add_zero]
theorem rowW_fin {lo hi : Int} {F : Nat → List Int} {k i j : Nat} (h : i < (F k).length) (hj : k = 0 ∨ j = (befL lo hi F k).length) : rowW lo hi F k i j = Sx.part 0 (wayL lo hi F k) (i + 1) := by
  have e : curW lo hi F k i j = (wayL lo hi F k).getD i 0 := by
    rcases Nat.eq_zero_or_pos k with hk | hk
    · subst hk; rw [way_0 h]; rfl
    · obtain ⟨k', rfl⟩ : ∃ k', k = k' + 1 := ⟨k - 1, by omega⟩
      rw [way_s h]
      have : j = (F k').length := by rw [← bef_s lo hi]; omega
      subst this; rfl
  unfold rowW
  rw [e, part_set _ _ _ _ (by rw [way_len]; exact h)]
theorem partW_at {lo hi : Int} {F : Nat → List Int} {k i : Nat} (h : i < (F k).length) : (Sx.part 0 (wayL lo hi F k) (i + 1)).getD i 0 = (wayL lo hi F k).getD i 0 := by
  unfold Sx.part
  have h1 : i < (wayL lo hi F k).length := by rw [way_len]; exact h
  simp only [List.getD]
  rw [List.getElem?_append_left (by simp; omega), List.getElem?_take, if_pos (by omega)]
theorem partW_full {lo hi : Int} {F : Nat → List Int} {k i : Nat} (h : i = (F k).length) : Sx.part 0 (wayL lo hi F k) i = wayL lo hi F k := by rw [h, ← way_len lo hi F k, part_all]
theorem zroW {lo hi : Int} {F : Nat → List Int} {k n : Nat} (h : n = (F k).length) : zerosL (eI .i64 0) n = (Sx.part 0 (wayL lo hi F k) 0).flatMap (eI .i64) := zpart (eI_len .i64) 0 rfl _ (by rw [h, way_len])
theorem curW_bd {lo hi : Int} {F : Nat → List Int} {k i j : Nat} (hov : ∀ i, i < k → wOver lo hi F i = false) (hj : 0 < k → j ≤ (F (k - 1)).length) : 0 ≤ curW lo hi F k i j ∧ curW lo hi F k i j ≤ 1000000000000000 := by
  unfold curW
  split
  · omega
  · have h1 := wSum_bd (lo := lo) (hi := hi) (v := (F k).getD i 0) (pv := F (k - 1)) (way_nn lo hi F (k - 1)) j
    have h2 := sumT_mono (way_nn lo hi F (k - 1)) (hj (by omega))
    have h3 := hov (k - 1) (by omega)
    unfold wOver wTot at h3
    rw [decide_eq_false_iff_not] at h3
    omega
theorem bef_bd {lo hi : Int} {F : Nat → List Int} {k : Nat} (hov : ∀ i, i < k → wOver lo hi F i = false) (j : Nat) : 0 ≤ (befL lo hi F k).getD j 0 ∧ (befL lo hi F k).getD j 0 ≤ 1000000000000000 := by
  cases k with
  | zero => simp [befL]
  | succ k => exact ⟨way_nn lo hi F k j, way_le (fun i hi => hov i (by omega)) j⟩
theorem way_bd {lo hi : Int} {F : Nat → List Int} {k : Nat} (hov : ∀ i, i < k → wOver lo hi F i = false) (i : Nat) : 0 ≤ (wayL lo hi F k).getD i 0 ∧ (wayL lo hi F k).getD i 0 ≤ 1000000000000000 ∧ 0 ≤ sumT (wayL lo hi F k) i ∧ sumT (wayL lo hi F k) i ≤ 1000000000000000 * (i : Int) :=
  ⟨way_nn lo hi F k i, way_le hov i, sumT_0 (way_nn lo hi F k) i, sumT_le (way_le hov) i⟩
theorem over_no {lo hi : Int} {F : Nat → List Int} {k : Nat} (h : sumT (wayL lo hi F k) (F k).length ≤ 1000000000000000) : wOver lo hi F k = false := by
  unfold wOver wTot; rw [decide_eq_false_iff_not]; omega
theorem wvk_3 {s : List Int} {L : List VPh} {K : List (VX Int)} {lo hi : Int} {k i : Nat} (hx : K.map (·.xs) = filmL s L) (h : codeF s L lo hi lo = 0) (hk : k < L.length) (hi2 : i ≤ (K.getD k zX).xs.length) (ho : 1000000000000000 < sumT (wayL lo hi (fun k => (K.getD k zX).xs) k) i) : waysV s L lo hi = (0, 3) := by
  rw [kx_fun hx] at ho
  exact wv_3 h hk (by rw [← kx_at hx]; exact hi2) ho
theorem wvk_0 {s : List Int} {L : List VPh} {K : List (VX Int)} {lo hi : Int} {k : Nat} (hx : K.map (·.xs) = filmL s L) (h : codeF s L lo hi lo = 0) (hk : k = L.length) (h0 : 0 < k) (hall : ∀ i, i < k → wOver lo hi (fun k => (K.getD k zX).xs) i = false) : waysV s L lo hi = (totW lo hi (fun k => (K.getD k zX).xs) k, 0) := by
  rw [kx_fun hx] at hall ⊢
  rw [wv_0 h fun i hi => hall i (by omega)]
  obtain ⟨k', rfl⟩ : ∃ k', k = k' + 1 := ⟨k - 1, by omega⟩
  rw [totW, show L.length - 1 = k' by omega]
end Go.W
