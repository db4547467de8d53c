/- A story without one reading, in plain numbers: told with the reading passed over, and told of the log without it. -/
import Derived.Test.YtepahnikcojepaaM20
set_option linter.unusedVariables false
set_option linter.unusedSimpArgs false
namespace Go.W
open Go Go.Sx
theorem rl_at {fit : Nat → Nat → Bool} {n j : Nat} : ∀ {d : Nat}, j < d → (rl fit n d).getD j zR = inn fit n j (rl fit n j) j
  | d + 1, h => by
    have hl := rl_len fit n d
    rw [rl]
    rcases Nat.lt_or_ge j d with h1 | h1
    · rw [snocR_at (by omega)]; exact rl_at h1
    · obtain rfl : j = d := by omega
      have := snocR_last (L := rl fit n j) (r := inn fit n j (rl fit n j) j); rwa [hl] at this
def upI (w i : Nat) : Nat := if i < w then i else i + 1
variable {fit fit' : Nat → Nat → Bool} {n w g : Nat}
theorem inTw_cost {d m : Nat} {L : List VT} (h : ¬ n - d + m = w) : (innT fit n (w : Int) d L (m + 1)).cost = min (innT fit n (w : Int) d L m).cost (candT fit n d L m).cost := by
  rw [innT, if_neg (by omega)]
  by_cases h : lessT (candT fit n d L m) (innT fit n (w : Int) d L m) = true
  · rw [if_pos h]; have := less_cost h; omega
  · rw [if_neg h]; have := less_not (by simpa using h); omega
theorem inTw_skip {d m : Nat} {L : List VT} (h : n - d + m = w) : (innT fit n (w : Int) d L (m + 1)) = innT fit n (w : Int) d L m := by
  rw [innT, if_pos (by omega)]
def tE (fit : Nat → Nat → Bool) (n w j : Nat) : Int := (innT fit n (w : Int) j (tl fit n (w : Int) j) j).cost
def rE (fit : Nat → Nat → Bool) (n j : Nat) : Int := (inn fit n j (rl fit n j) j).cost
theorem tE_at {d j : Nat} (h : j < d) (hn : ¬ n - 1 - j = w) : ((tl fit n (w : Int) d).getD j zT0).cost = tE fit n w j := by rw [tl_at h, if_neg (by omega)]; rfl
theorem rE_at {d j : Nat} (h : j < d) : ((rl fit n d).getD j zR).cost = rE fit n j := by rw [rl_at h]; rfl
theorem two_costs (hw : w < n) (hg : g = n - 1 - w) (hf : ∀ i k, i < k → k < n - 1 → fit' i k = fit (upI w i) (upI w k)) (j : Nat) : j < n → (j < g → tE fit n w j = rE fit' (n - 1) j) ∧ (g < j → tE fit n w j = rE fit' (n - 1) (j - 1) + 1) := by
  induction j using Nat.strongRecOn with
  | ind j ih =>
    intro hj
    refine ⟨fun h => ?_, fun h => ?_⟩
    · have key : ∀ m, m ≤ j → (innT fit n (w : Int) j (tl fit n (w : Int) j) m).cost = (inn fit' (n - 1) j (rl fit' (n - 1) j) m).cost := by
        intro m
        induction m with
        | zero => intro _; simp [innT, inn, fromT, zT0]
        | succ m ihm =>
          intro hm
          rw [inTw_cost (by omega), inn_cost, ihm (by omega)]
          have h2 := (ih (j - 1 - m) (by omega) (by omega)).1 (by omega)
          have h3 := hf (n - 1 - 1 - j) (n - 1 - j + m) (by omega) (by omega)
          have h4 : upI w (n - 1 - 1 - j) = n - 1 - j := by unfold upI; rw [if_neg (by omega)]; omega
          have h5 : upI w (n - 1 - j + m) = n - j + m := by unfold upI; rw [if_neg (by omega)]; omega
          rw [h4, h5] at h3
          simp only [candT, fromT, candC]
          rw [tE_at (by omega) (by omega), rE_at (by omega), h2, h3]; omega
      exact key j (Nat.le_refl _)
    · have key : ∀ m, m ≤ j → (innT fit n (w : Int) j (tl fit n (w : Int) j) m).cost = (inn fit' (n - 1) (j - 1) (rl fit' (n - 1) (j - 1)) (if m ≤ j - 1 - g then m else m - 1)).cost + 1 := by
        intro m
        induction m with
        | zero => intro _; simp [innT, inn, fromT, zT0]; omega
        | succ m ihm =>
          intro hm
          have ih1 := ihm (by omega)
          by_cases e1 : m = j - 1 - g
          · rw [inTw_skip (by omega), ih1, if_pos (by omega), if_neg (by omega)]; rfl
          · rw [inTw_cost (by omega), ih1]
            simp only [candT, fromT]
            rw [tE_at (by omega) (by omega)]
            by_cases e2 : m < j - 1 - g
            · rw [if_pos (by omega), if_pos (by omega), inn_cost]
              have h2 := (ih (j - 1 - m) (by omega) (by omega)).2 (by omega)
              have h3 := hf (n - 1 - 1 - (j - 1)) (n - 1 - (j - 1) + m) (by omega) (by omega)
              have h4 : upI w (n - 1 - 1 - (j - 1)) = n - 1 - j := by unfold upI; rw [if_pos (by omega)]; omega
              have h5 : upI w (n - 1 - (j - 1) + m) = n - j + m := by unfold upI; rw [if_pos (by omega)]; omega
              rw [h4, h5] at h3
              simp only [candC]
              rw [rE_at (by omega), h2, h3, show j - 1 - 1 - m = j - 1 - m - 1 by omega]; omega
            · rw [if_neg (by omega), if_neg (by omega)]
              obtain ⟨q, rfl⟩ : ∃ q, m = q + 1 := ⟨m - 1, by omega⟩
              rw [Nat.add_sub_cancel, Nat.add_sub_cancel, inn_cost]
              have h2 := (ih (j - 1 - (q + 1)) (by omega) (by omega)).1 (by omega)
              have h3 := hf (n - 1 - 1 - (j - 1)) (n - 1 - (j - 1) + q) (by omega) (by omega)
              have h4 : upI w (n - 1 - 1 - (j - 1)) = n - 1 - j := by unfold upI; rw [if_pos (by omega)]; omega
              have h5 : upI w (n - 1 - (j - 1) + q) = n - j + (q + 1) := by unfold upI; rw [if_neg (by omega)]; omega
              rw [h4, h5] at h3
              simp only [candC]
              rw [rE_at (by omega), h2, h3, show j - 1 - 1 - q = j - 1 - (q + 1) by omega]; push_cast; omega
      have := key j (Nat.le_refl _)
      rw [if_neg (by omega)] at this
      exact this
def totT (fit : Nat → Nat → Bool) (n w j : Nat) : Int := ((n - 1 - j : Nat) : Int) + tE fit n w j
theorem btw_min (hw : w < n) (hg : g = n - 1 - w) : ∀ d, d ≤ n → (∀ j, j < d → j ≠ g → (btT fit n (w : Int) d).1 = true ∧ (btT fit n (w : Int) d).2.cost ≤ totT fit n w j) ∧ ((btT fit n (w : Int) d).1 = true → ∃ j, j < d ∧ j ≠ g ∧ (btT fit n (w : Int) d).2.cost = totT fit n w j)
  | 0, _ => ⟨fun j hj => by omega, fun h => by simp [btT] at h⟩
  | d + 1, hd => by
    have ih := btw_min hw hg d (by omega)
    rw [btT]
    by_cases e : d = g
    · rw [if_pos (by omega)]
      exact ⟨fun j h1 h2 => ih.1 j (by omega) h2, fun h => by obtain ⟨j, h1, h2⟩ := ih.2 h; exact ⟨j, by omega, h2⟩⟩
    · rw [if_neg (by omega)]
      have hc : (addT (innT fit n (w : Int) d (tl fit n (w : Int) d) d) ((n - 1 - d : Nat) : Int)).cost = totT fit n w d := by unfold totT addT tE; dsimp only; omega
      by_cases hq : (btT fit n (w : Int) d).1 = false ∨ lessT (addT (innT fit n (w : Int) d (tl fit n (w : Int) d) d) ((n - 1 - d : Nat) : Int)) (btT fit n (w : Int) d).2 = true
      · rw [if_pos hq]
        refine ⟨fun j h1 h2 => ⟨rfl, ?_⟩, fun _ => ⟨d, by omega, e, hc⟩⟩
        show (addT _ _).cost ≤ _
        rw [hc]
        by_cases e2 : j = d
        · rw [e2]; exact Int.le_refl _
        · have h3 := ih.1 j (by omega) h2
          rcases hq with hq | hq
          · rw [h3.1] at hq; cases hq
          · have := less_cost hq; rw [hc] at this; omega
      · rw [if_neg hq]
        have ht : (btT fit n (w : Int) d).1 = true := by
          cases h6 : (btT fit n (w : Int) d).1 with
          | true => rfl
          | false => exact absurd (.inl h6) hq
        refine ⟨fun j h1 h2 => ⟨ht, ?_⟩, fun h => by obtain ⟨j, h1, h2⟩ := ih.2 h; exact ⟨j, by omega, h2⟩⟩
        by_cases e2 : j = d
        · have h5 : lessT (addT (innT fit n (w : Int) d (tl fit n (w : Int) d) d) ((n - 1 - d : Nat) : Int)) (btT fit n (w : Int) d).2 = false := by
            cases h6 : lessT (addT (innT fit n (w : Int) d (tl fit n (w : Int) d) d) ((n - 1 - d : Nat) : Int)) (btT fit n (w : Int) d).2 with
            | false => rfl
            | true => exact absurd (.inr h6) hq
          have := less_not h5; rw [hc] at this; rw [e2]; exact this
        · exact (ih.1 j (by omega) h2).2
theorem rst_rE {i : Nat} (h : i < n) : ((rstL fit n).getD i zR).cost = rE fit n (n - 1 - i) := by
  unfold rstL; rw [outR_at (Nat.le_refl _) (by omega) h, rE_at (by omega)]
theorem cost_without (hw : w < n) (hn : 2 ≤ n) (hf : ∀ i k, i < k → k < n - 1 → fit' i k = fit (upI w i) (upI w k)) : (btT fit n (w : Int) n).2.cost = (bstV fit' (n - 1) (n - 1)).cost + 1 := by
  obtain ⟨g, hg⟩ : ∃ g, g = n - 1 - w := ⟨_, rfl⟩
  have h1 := btw_min (fit := fit) hw hg n (Nat.le_refl _)
  have h2 := bst_min (fit := fit') (n := n - 1) (n - 1) (Nat.le_refl _) (by omega)
  have ht : (btT fit n (w : Int) n).1 = true := by
    by_cases e : g = 0
    · exact (h1.1 1 (by omega) (by omega)).1
    · exact (h1.1 0 (by omega) (by omega)).1
  obtain ⟨j, hj, hjg, e1⟩ := h1.2 ht
  obtain ⟨i, hi, e2⟩ := h2.2.1
  have h3 := two_costs (fit' := fit') hw hg hf
  -- the one way
  have a1 : (bstV fit' (n - 1) (n - 1)).cost + 1 ≤ (btT fit n (w : Int) n).2.cost := by
    rw [e1]; unfold totT
    rcases Nat.lt_or_gt_of_ne hjg with hq | hq
    · have h4 := h2.1 (n - 1 - 1 - j) (by omega)
      unfold totC_ at h4
      rw [rst_rE (by omega), show n - 1 - 1 - (n - 1 - 1 - j) = j by omega] at h4
      rw [(h3 j hj).1 hq]; omega
    · have h4 := h2.1 (n - 1 - 1 - (j - 1)) (by omega)
      unfold totC_ at h4
      rw [rst_rE (by omega), show n - 1 - 1 - (n - 1 - 1 - (j - 1)) = j - 1 by omega] at h4
      rw [(h3 j hj).2 hq]; omega
  -- and the other
  have a2 : (btT fit n (w : Int) n).2.cost ≤ (bstV fit' (n - 1) (n - 1)).cost + 1 := by
    rw [e2]; unfold totC_; rw [rst_rE (by omega)]
    by_cases hq : n - 1 - 1 - i < g
    · have h4 := (h1.1 (n - 1 - 1 - i) (by omega) (by omega)).2
      unfold totT at h4
      rw [(h3 _ (by omega)).1 hq] at h4; omega
    · have h4 := (h1.1 (n - 1 - 1 - i + 1) (by omega) (by omega)).2
      unfold totT at h4
      rw [(h3 _ (by omega)).2 (by omega), Nat.add_sub_cancel] at h4; omega
  omega
/-- The log without one reading. -/
def cutL (l : List VP) (w : Nat) : List VP := l.take w ++ l.drop (w + 1)
theorem cutL_len {l : List VP} (h : w < l.length) : (cutL l w).length = l.length - 1 := by unfold cutL; simp; omega
theorem cutL_at {l : List VP} {i : Nat} (h : w < l.length) : (cutL l w).getD i zP = l.getD (upI w i) zP := by
  unfold cutL upI
  simp only [List.getD]
  by_cases e : i < w
  · rw [if_pos e, List.getElem?_append_left (by simp; omega), List.getElem?_take, if_pos e]
  · rw [if_neg e, List.getElem?_append_right (by simp; omega), List.getElem?_drop]
    simp only [List.length_take]
    rw [show w + 1 + (i - min w l.length) = i + 1 by omega]
theorem Log.upk {s : List Int} {l : List VP} (h : Log s l) {i : Nat} : ∀ {k : Nat}, i < k → k < l.length → (l.getD i zP).a < (l.getD k zP).a
  | k + 1, h1, h2 => by
    have h3 := h.up k h2
    rcases Nat.lt_or_ge i k with h4 | h4
    · have := Log.upk h h4 (by omega); omega
    · obtain rfl : i = k := by omega
      exact h3
theorem upI_lt {i k : Nat} (h : i < k) : upI w i < upI w k := by unfold upI; split <;> split <;> omega
theorem upI_le {i m : Nat} (h : i < m - 1) : upI w i < m := by unfold upI; split <;> omega
theorem Log.cut {s : List Int} {l : List VP} (h : Log s l) (hw : w < l.length) : Log s (cutL l w) := by
  have hl := cutL_len (l := l) hw
  refine ⟨h.stk, by have := h.len; omega, fun i hi => ?_, fun i hi => ?_, fun i hi => ?_⟩
  · rw [cutL_at hw]; exact h.day _ (upI_le (by omega))
  · rw [cutL_at hw]; exact h.val _ (upI_le (by omega))
  · rw [cutL_at hw, cutL_at hw]; exact h.upk (upI_lt (by omega)) (upI_le (by omega))
theorem fits_cut {s : List Int} {l : List VP} {f : VP} (hw : w < l.length) (i k : Nat) : fitsF s (cutL l w) f i k = fitsF s l f (upI w i) (upI w k) := by
  unfold fitsF; rw [cutL_at hw, cutL_at hw]
/-- What a story without a reading costs, and the code. -/
def withoutV (s : List Int) (l : List VP) (f : VP) (w : Int) : Int × Int :=
  if askS s l f = false then (0, 1) else if ¬ (0 ≤ w ∧ w ≤ (l.length : Int) - 1) then (0, 2) else if l.length = 1 then (0, 6) else ((btT (fitsF s l f) l.length w l.length).2.cost, 0)
theorem wt_1 {s : List Int} {l : List VP} {f : VP} {w : Int} (h : askS s l f = false) : withoutV s l f w = (0, 1) := by unfold withoutV; rw [if_pos h]
theorem wt_2 {s : List Int} {l : List VP} {f : VP} {w : Int} (h : askS s l f = true) (h1 : ¬ (0 ≤ w ∧ w ≤ (l.length : Int) - 1)) : withoutV s l f w = (0, 2) := by unfold withoutV; rw [if_neg (by rw [h]; decide), if_pos h1]
theorem wt_6 {s : List Int} {l : List VP} {f : VP} {w : Int} (h : askS s l f = true) (h1 : 0 ≤ w ∧ w ≤ (l.length : Int) - 1) (h2 : l.length = 1) : withoutV s l f w = (0, 6) := by unfold withoutV; rw [if_neg (by rw [h]; decide), if_neg (by omega), if_pos h2]
theorem wt_0 {s : List Int} {l : List VP} {f : VP} {w : Int} (h : askS s l f = true) (h1 : 0 ≤ w ∧ w ≤ (l.length : Int) - 1) (h2 : l.length ≠ 1) : withoutV s l f w = ((btT (fitsF s l f) l.length w l.length).2.cost, 0) := by unfold withoutV; rw [if_neg (by rw [h]; decide), if_neg (by omega), if_neg h2]
theorem wt_c {s : List Int} {l : List VP} {f : VP} {w : Nat} (hw : w < l.length) (h2 : l.length ≠ 1) : (btT (fitsF s l f) l.length (w : Int) l.length).2.cost = (bstV (fitsF s (cutL l w) f) (cutL l w).length (cutL l w).length).cost + 1 := by
  rw [cutL_len hw]
  exact cost_without hw (by omega) (fun i k _ _ => fits_cut hw i k)
end Go.W
