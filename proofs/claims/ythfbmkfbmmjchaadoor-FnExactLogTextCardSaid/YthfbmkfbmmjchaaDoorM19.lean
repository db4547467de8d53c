/- Sure misreads, in plain numbers. -/
import Derived.Test.YthfbmkfbmmjchaaDoorM18
set_option linter.unusedVariables false
set_option linter.unusedSimpArgs false
namespace Go.W
open Go Go.Sx
variable {fit : Nat → Nat → Bool} {n i k q : Nat} {v : List Value}
/-- The list of what comes ahead, the first i of them told. -/
def flO (fit : Nat → Nat → Bool) (n i : Nat) : List Int := fl fit i ++ List.replicate (n - i) 0
/-- And the next one being x so far. -/
def flR (fit : Nat → Nat → Bool) (n i : Nat) (x : Int) : List Int := fl fit i ++ x :: List.replicate (n - i - 1) 0
theorem flO_len (h : i ≤ n) : (flO fit n i).length = n := by unfold flO; simp [fl_len]; omega
theorem flR_len {x : Int} (h : i < n) : (flR fit n i x).length = n := by unfold flR; simp [fl_len]; omega
theorem flO_zero {zs : List Value} (h : zs = eI .i64 0) : zerosL zs n = (flO fit n 0).flatMap (eI .i64) := by
  subst h; rw [zeros_flat (eI_len .i64) 0 (by omega) n]; unfold flO; simp [fl]
theorem flO_put {x : Int} (h : i < n) (hq : q = i * 1) (hv : v = eI .i64 x) : put ((flO fit n i).flatMap (eI .i64)) q v = (flR fit n i x).flatMap (eI .i64) := by
  subst hq hv
  rw [flat_put (eI_len .i64) _ _ _ (by rw [flO_len (by omega)]; exact h)]
  congr 1
  unfold flO flR
  have hl := fl_len fit i
  obtain ⟨j, hj⟩ : ∃ j, n - i = j + 1 := ⟨n - i - 1, by omega⟩
  rw [List.set_append_right _ _ (by omega), hl, Nat.sub_self, hj, List.replicate_succ, List.set_cons_zero, Nat.add_sub_cancel]
theorem flR_at {x : Int} : (flR fit n i x).getD i 0 = x := by
  unfold flR; have hl := fl_len fit i
  simp only [List.getD]; rw [List.getElem?_append_right (by omega), hl, Nat.sub_self]; rfl
theorem flR_lo {x : Int} (h : k < i) : (flR fit n i x).getD k 0 = (fl fit i).getD k 0 := by
  unfold flR; have hl := fl_len fit i
  simp only [List.getD]; rw [List.getElem?_append_left (by omega)]
theorem flR_put {x y : Int} (h : i < n) (hq : q = i * 1) (hv : v = eI .i64 y) : put ((flR fit n i x).flatMap (eI .i64)) q v = (flR fit n i y).flatMap (eI .i64) := by
  subst hq hv
  rw [flat_put (eI_len .i64) _ _ _ (by rw [flR_len h]; exact h)]
  congr 1
  unfold flR
  have hl := fl_len fit i
  rw [List.set_append_right _ _ (by omega), hl, Nat.sub_self, List.set_cons_zero]
theorem flR_fin (h : i < n) : flR fit n i (finV fit i (fl fit i) i) = flO fit n (i + 1) := by
  unfold flR flO; rw [fl, List.append_assoc, show n - (i + 1) = n - i - 1 by omega]; rfl
/-- The least cost from each reading on, as the program's second list has it. -/
def bhO (fit : Nat → Nat → Bool) (n d : Nat) : List Int := (outR fit n d).map (·.cost)
def bhR (fit : Nat → Nat → Bool) (n d : Nat) (x : Int) : List Int := (bhO fit n d).set (n - 1 - d) x
theorem bhO_len {d : Nat} (h : d ≤ n) : (bhO fit n d).length = n := by unfold bhO; rw [List.length_map, outR_len h]
theorem bhR_len {d : Nat} {x : Int} (h : d ≤ n) : (bhR fit n d x).length = n := by unfold bhR; rw [List.length_set, bhO_len h]
theorem map_cost (L : List VR) (k : Nat) : (L.map (·.cost)).getD k 0 = (L.getD k zR).cost := by
  simp only [List.getD, List.getElem?_map]; cases L[k]? <;> rfl
theorem bhO_zero {zs : List Value} (h : zs = eI .i64 0) : zerosL zs n = (bhO fit n 0).flatMap (eI .i64) := by
  subst h; rw [zeros_flat (eI_len .i64) 0 (by omega) n]; unfold bhO outR; simp [rl, zR]
theorem bhO_put {d : Nat} {x : Int} (h : d < n) (hq : q = (n - 1 - d) * 1) (hv : v = eI .i64 x) : put ((bhO fit n d).flatMap (eI .i64)) q v = (bhR fit n d x).flatMap (eI .i64) := by
  subst hq hv
  rw [flat_put (eI_len .i64) _ _ _ (by rw [bhO_len (by omega)]; omega)]; rfl
theorem bhR_put {d : Nat} {x y : Int} (h : d < n) (hq : q = (n - 1 - d) * 1) (hv : v = eI .i64 y) : put ((bhR fit n d x).flatMap (eI .i64)) q v = (bhR fit n d y).flatMap (eI .i64) := by
  subst hq hv
  rw [flat_put (eI_len .i64) _ _ _ (by rw [bhR_len (by omega)]; omega)]; unfold bhR; rw [List.set_set]
theorem bhR_at {d : Nat} {x : Int} (h : d < n) : (bhR fit n d x).getD (n - 1 - d) 0 = x := by
  unfold bhR; simp only [List.getD]; rw [List.getElem?_set_self (by rw [bhO_len (by omega)]; omega)]; rfl
theorem bhR_hi {d m : Nat} {x : Int} (hd : d < n) (h : m < d) : (bhR fit n d x).getD (n - d + m) 0 = ((rl fit n d).getD (d - 1 - m) zR).cost := by
  unfold bhR
  have e : ((bhO fit n d).set (n - 1 - d) x).getD (n - d + m) 0 = (bhO fit n d).getD (n - d + m) 0 := by
    simp only [List.getD]; rw [List.getElem?_set_ne (by omega)]
  rw [e]; unfold bhO
  rw [map_cost, outR_at (by omega) (by omega) (by omega), show n - 1 - (n - d + m) = d - 1 - m by omega]
theorem bhR_fin {d : Nat} (h : d < n) : bhR fit n d (inn fit n d (rl fit n d) d).cost = bhO fit n (d + 1) := by
  unfold bhR bhO
  rw [← outR_set h, List.map_set]
theorem bhO_hi {d k : Nat} (hd : d ≤ n) (h1 : n - d ≤ k) (h2 : k < n) : (bhO fit n d).getD k 0 = ((rstL fit n).getD k zR).cost := by
  unfold bhO rstL
  rw [map_cost, outR_at hd h1 h2, outR_at (Nat.le_refl _) (by omega) h2]
  congr 1
  have key : ∀ e, d + e ≤ n → (rl fit n (d + e)).getD (n - 1 - k) zR = (rl fit n d).getD (n - 1 - k) zR := by
    intro e
    induction e with
    | zero => intro _; rfl
    | succ e ih =>
      intro he
      rw [← ih (by omega), ← Nat.add_assoc, rl, snocR_at (by rw [rl_len]; omega)]
  have := key (n - d) (by omega)
  rw [show d + (n - d) = n by omega] at this
  exact this.symm
/-! the least cost of all, both ways -/
theorem inT_cost {d m : Nat} {L : List VT} : (innT fit n (-1) d L (m + 1)).cost = min (innT fit n (-1) d L m).cost (candT fit n d L m).cost := by
  rw [innT, if_neg (by omega)]
  by_cases h : lessT (candT fit n d L m) (innT fit n (-1) d L m) = true
  · rw [if_pos h]; have := less_cost h; omega
  · rw [if_neg h]; have := less_not (by simpa using h); omega
theorem cost_same : ∀ d, d ≤ n → ∀ j, j < d → ((tl fit n (-1) d).getD j zT0).cost = ((rl fit n d).getD j zR).cost
  | d + 1, hd, j, hj => by
    have ih := cost_same d (by omega)
    have hl := rl_len fit n d
    rcases Nat.lt_or_ge j d with h1 | h1
    · have e : (tl fit n (-1) (d + 1)).getD j zT0 = (tl fit n (-1) d).getD j zT0 := by rw [tl_at hj, tl_at h1]
      rw [e, rl, snocR_at (by omega)]; exact ih j h1
    · obtain rfl : j = d := by omega
      have e2 : (rl fit n (j + 1)).getD j zR = inn fit n j (rl fit n j) j := by
        rw [rl]; have := snocR_last (L := rl fit n j) (r := inn fit n j (rl fit n j) j); rwa [hl] at this
      rw [tl_at (Nat.lt_succ_self j), if_neg (by omega), e2]
      have key : ∀ m, m ≤ j → (innT fit n (-1) j (tl fit n (-1) j) m).cost = (inn fit n j (rl fit n j) m).cost := by
        intro m
        induction m with
        | zero => intro _; simp [innT, inn, fromT, zT0]
        | succ m ihm =>
          intro hm
          rw [inT_cost, inn_cost, ihm (by omega)]
          have h2 := ih (j - 1 - m) (by omega)
          simp only [candT, fromT, candC, h2]; omega
      exact key j (Nat.le_refl _)
/-- The cost of a story that starts at a reading. -/
def totC_ (fit : Nat → Nat → Bool) (n i : Nat) : Int := (i : Int) + ((rstL fit n).getD i zR).cost
theorem bst_min : ∀ m, m ≤ n → 0 < m → (∀ i, i < m → (bstV fit n m).cost ≤ totC_ fit n i) ∧ (∃ i, i < m ∧ (bstV fit n m).cost = totC_ fit n i) ∧ 0 ≤ (bstV fit n m).next
  | m + 1, hm, _ => by
    by_cases hq : (bstV fit n m).next < 0 ∨ (m : Int) + ((rstL fit n).getD m zR).cost < (bstV fit n m).cost ∨ (m : Int) + ((rstL fit n).getD m zR).cost = (bstV fit n m).cost ∧ ((rstL fit n).getD m zR).breaks < (bstV fit n m).breaks
    · rw [bst_y hq]
      refine ⟨fun i hi => ?_, ⟨m, Nat.lt_succ_self m, rfl⟩, by dsimp only; omega⟩
      rcases Nat.lt_or_ge i m with h1 | h1
      · have ih := bst_min m (by omega) (by omega)
        have := ih.1 i h1
        unfold totC_ at this ⊢
        dsimp only; omega
      · rw [show i = m by omega]; exact Int.le_refl _
    · rw [bst_n hq]
      have h0 : 0 < m := by
        rcases Nat.eq_zero_or_pos m with h | h
        · subst h; exact absurd (.inl (by show (-1 : Int) < 0; decide)) hq
        · exact h
      have ih := bst_min m (by omega) h0
      obtain ⟨i0, hi0, e0⟩ := ih.2.1
      refine ⟨fun i hi => ?_, ⟨i0, by omega, e0⟩, ih.2.2⟩
      rcases Nat.lt_or_ge i m with h1 | h1
      · exact ih.1 i h1
      · rw [show i = m by omega]; unfold totC_; omega
theorem tl_more {wo : Int} {j d : Nat} (h : j < d) (hd : d ≤ n) : (tl fit n wo n).getD j zT0 = (tl fit n wo d).getD j zT0 := by rw [tl_at (by omega), tl_at h]
theorem inT_rst {d : Nat} (hd : d < n) : (innT fit n (-1) d (tl fit n (-1) d) d).cost = ((rstL fit n).getD (n - 1 - d) zR).cost := by
  have h1 := cost_same (fit := fit) (n := n) n (Nat.le_refl _) d hd
  rw [tl_at hd, if_neg (by omega)] at h1
  unfold rstL
  rw [h1, outR_at (Nat.le_refl _) (by omega) (by omega), show n - 1 - (n - 1 - d) = d by omega]
theorem bt_min : ∀ d, d ≤ n → 0 < d → (∀ i, n - d ≤ i → i < n → (btT fit n (-1) d).2.cost ≤ totC_ fit n i) ∧ (∃ i, n - d ≤ i ∧ i < n ∧ (btT fit n (-1) d).2.cost = totC_ fit n i) ∧ (btT fit n (-1) d).1 = true
  | d + 1, hd, _ => by
    have hr := inT_rst (fit := fit) (n := n) (d := d) (by omega)
    have hc : (addT (innT fit n (-1) d (tl fit n (-1) d) d) ((n - 1 - d : Nat) : Int)).cost = totC_ fit n (n - 1 - d) := by unfold totC_ addT; dsimp only; rw [hr]; omega
    rw [btT, if_neg (by omega)]
    by_cases hq : (btT fit n (-1) d).1 = false ∨ lessT (addT (innT fit n (-1) d (tl fit n (-1) d) d) ((n - 1 - d : Nat) : Int)) (btT fit n (-1) d).2 = true
    · rw [if_pos hq]
      refine ⟨fun i h1 h2 => ?_, ⟨n - 1 - d, by omega, by omega, hc⟩, rfl⟩
      show (addT _ _).cost ≤ _
      rw [hc]
      by_cases e : i = n - 1 - d
      · rw [e]; exact Int.le_refl _
      · have ih := bt_min d (by omega) (by omega)
        have h3 := ih.1 i (by omega) h2
        rcases hq with hq | hq
        · rw [ih.2.2] at hq; cases hq
        · have := less_cost hq; rw [hc] at this; omega
    · rw [if_neg hq]
      have h0 : 0 < d := by
        rcases Nat.eq_zero_or_pos d with h | h
        · subst h; exact absurd (.inl rfl) hq
        · exact h
      have ih := bt_min d (by omega) h0
      obtain ⟨i0, h1, h2, e0⟩ := ih.2.1
      refine ⟨fun i h3 h4 => ?_, ⟨i0, by omega, h2, e0⟩, ih.2.2⟩
      by_cases e : i = n - 1 - d
      · have h5 : lessT (addT (innT fit n (-1) d (tl fit n (-1) d) d) ((n - 1 - d : Nat) : Int)) (btT fit n (-1) d).2 = false := by
          cases h6 : lessT (addT (innT fit n (-1) d (tl fit n (-1) d) d) ((n - 1 - d : Nat) : Int)) (btT fit n (-1) d).2 with
          | false => rfl
          | true => exact absurd (.inr h6) hq
        have := less_not h5; rw [hc] at this; rw [e]; exact this
      · exact ih.1 i (by omega) h4
theorem pkR2 {e : Ent} {v : Value} {E s n : Nat} {xs ys : List Value} {r : List Ent} (h : xs = ys) : some (e :: Ent.row v E s n xs :: r) = some (e :: Ent.row v E s n ys :: r) := by rw [h]
theorem best_cost : (btT fit n (-1) n).2.cost = (bstV fit n n).cost := by
  rcases Nat.eq_zero_or_pos n with h | h
  · subst h; rfl
  · have h1 := bst_min (fit := fit) (n := n) n (Nat.le_refl _) h
    have h2 := bt_min (fit := fit) (n := n) n (Nat.le_refl _) h
    obtain ⟨i, hi, e1⟩ := h1.2.1
    obtain ⟨j, _, hj, e2⟩ := h2.2.1
    have h3 := h1.1 j hj
    have h4 := h2.1 i (by omega) hi
    omega
theorem fin_step {i k : Nat} (h : k < i) : min (finV fit i (fl fit i) k) ((fl fit i).getD k 0 + (((i : Int) - k - 1) + 2 * brk (fit k i))) = finV fit i (fl fit i) (k + 1) := by
  rw [finV]; congr 3; omega
end Go.W
