/- Films: least sums to the end, what is sure, the likeliest way; in plain numbers. -/
import Derived.Test.YthfbmkfbmmjchaaDoorM35
set_option linter.unusedVariables false
set_option linter.unusedSimpArgs false
namespace Go.W
open Go Go.Sx
def absW (n : Int) : Int := if n < 0 then -n else n
theorem absW_0 (n : Int) : 0 ≤ absW n := by unfold absW; split <;> omega
/-- The least sum that goes on from a value, among the first values of the next photo; -1 if none does. -/
def minC (lo hi us v : Int) (nv nc : List Int) : Nat → Int
  | 0 => -1
  | j + 1 => if nc.getD j 0 < 0 ∨ goesB lo hi v (nv.getD j 0) = false then minC lo hi us v nv nc j
    else if minC lo hi us v nv nc j < 0 ∨ nc.getD j 0 + absW (nv.getD j 0 - v - us) < minC lo hi us v nv nc j then nc.getD j 0 + absW (nv.getD j 0 - v - us) else minC lo hi us v nv nc j
/-- costL t: the sums of the photo that lies t before the last. -/
def costL (lo hi us : Int) (F : Nat → List Int) (n : Nat) : Nat → List Int
  | 0 => (F (n - 1)).map fun _ => 0
  | t + 1 => (F (n - 2 - t)).map fun v => minC lo hi us v (F (n - 1 - t)) (costL lo hi us F n t) (F (n - 1 - t)).length
theorem mc_n {lo hi us v : Int} {nv nc : List Int} {j : Nat} (h : nc.getD j 0 < 0 ∨ goesB lo hi v (nv.getD j 0) = false) : minC lo hi us v nv nc (j + 1) = minC lo hi us v nv nc j := by rw [minC, if_pos h]
theorem mc_y {lo hi us v : Int} {nv nc : List Int} {j : Nat} (h : ¬ nc.getD j 0 < 0) (h2 : goesB lo hi v (nv.getD j 0) = true) (h3 : minC lo hi us v nv nc j < 0 ∨ nc.getD j 0 + absW (nv.getD j 0 - v - us) < minC lo hi us v nv nc j) : minC lo hi us v nv nc (j + 1) = nc.getD j 0 + absW (nv.getD j 0 - v - us) := by
  rw [minC, if_neg (by rintro (h4 | h4); (· exact h h4); (· rw [h2] at h4; cases h4)), if_pos h3]
theorem mc_k {lo hi us v : Int} {nv nc : List Int} {j : Nat} (h3 : ¬ (minC lo hi us v nv nc j < 0 ∨ nc.getD j 0 + absW (nv.getD j 0 - v - us) < minC lo hi us v nv nc j)) : minC lo hi us v nv nc (j + 1) = minC lo hi us v nv nc j := by
  rw [minC]
  by_cases h : nc.getD j 0 < 0 ∨ goesB lo hi v (nv.getD j 0) = false
  · rw [if_pos h]
  · rw [if_neg h, if_neg h3]
theorem mc_lo (lo hi us v : Int) (nv nc : List Int) : ∀ j, -1 ≤ minC lo hi us v nv nc j
  | 0 => by simp [minC]
  | j + 1 => by
    have h1 := mc_lo lo hi us v nv nc j
    have h2 := absW_0 (nv.getD j 0 - v - us)
    rw [minC]; split
    · exact h1
    · split <;> omega
theorem mc_hi {lo hi us v B : Int} {nv nc : List Int} (hB : 0 ≤ B) (h : ∀ j, nc.getD j 0 ≤ B) (hv : 0 ≤ v ∧ v ≤ 1000000000000) (hn : ∀ j, 0 ≤ nv.getD j 0 ∧ nv.getD j 0 ≤ 1000000000000) (hu : 0 ≤ us ∧ us ≤ 1000000000000) : ∀ j, minC lo hi us v nv nc j ≤ B + 2000000000000
  | 0 => by simp [minC]; omega
  | j + 1 => by
    have h1 := mc_hi (lo := lo) (hi := hi) hB h hv hn hu j
    have h2 := hn j
    have h3 := h j
    have h4 : absW (nv.getD j 0 - v - us) ≤ 2000000000000 := by unfold absW; split <;> omega
    rw [minC]; split
    · exact h1
    · split <;> omega
/-- Where something goes on, the least sum is one of those that do. -/
theorem mc_at {lo hi us v : Int} {nv nc : List Int} : ∀ {j : Nat}, 0 ≤ minC lo hi us v nv nc j → ∃ i, i < j ∧ 0 ≤ nc.getD i 0 ∧ goesB lo hi v (nv.getD i 0) = true ∧ nc.getD i 0 + absW (nv.getD i 0 - v - us) = minC lo hi us v nv nc j
  | 0, h => by simp [minC] at h
  | j + 1, h => by
    rw [minC] at h ⊢
    split at h
    · next hc =>
      rw [if_pos hc]
      obtain ⟨i, h1, h2⟩ := mc_at h
      exact ⟨i, by omega, h2⟩
    · next hc =>
      rw [if_neg hc]
      split at h
      · next hd =>
        rw [if_pos hd]
        refine ⟨j, by omega, by omega, ?_, rfl⟩
        cases hg : goesB lo hi v (nv.getD j 0)
        · exact absurd (.inr hg) hc
        · rfl
      · next hd =>
        rw [if_neg hd]
        obtain ⟨i, h1, h2⟩ := mc_at h
        exact ⟨i, by omega, h2⟩
theorem mc_some {lo hi us v : Int} {nv nc : List Int} {i : Nat} (h0 : 0 ≤ nc.getD i 0) (hg : goesB lo hi v (nv.getD i 0) = true) : ∀ {j : Nat}, i < j → 0 ≤ minC lo hi us v nv nc j
  | 0, h => by omega
  | j + 1, h => by
    have h2 := absW_0 (nv.getD j 0 - v - us)
    rcases Nat.lt_or_ge i j with h1 | h1
    · have ih := mc_some (us := us) h0 hg h1
      rw [minC]; split
      · exact ih
      · split <;> omega
    · obtain rfl : i = j := by omega
      rw [minC, if_neg (by rintro (h4 | h4); (· omega); (· rw [hg] at h4; cases h4))]
      split <;> omega
theorem cost_len (lo hi us : Int) (F : Nat → List Int) (n : Nat) : ∀ t, t < n → (costL lo hi us F n t).length = (F (n - 1 - t)).length
  | 0, _ => by simp [costL]
  | t + 1, _ => by rw [costL, List.length_map, show n - 1 - (t + 1) = n - 2 - t by omega]
theorem cost_0 {lo hi us : Int} {F : Nat → List Int} {n : Nat} (i : Nat) : (costL lo hi us F n 0).getD i 0 = 0 := by
  rw [costL]; simp only [List.getD, List.getElem?_map]; cases (F (n - 1))[i]? <;> rfl
theorem cost_s {lo hi us : Int} {F : Nat → List Int} {n t i : Nat} (h : i < (F (n - 2 - t)).length) : (costL lo hi us F n (t + 1)).getD i 0 = minC lo hi us ((F (n - 2 - t)).getD i 0) (F (n - 1 - t)) (costL lo hi us F n t) (F (n - 1 - t)).length := by
  rw [costL]; generalize F (n - 2 - t) = l at h; simp [List.getD, h]
theorem cost_lo (lo hi us : Int) (F : Nat → List Int) (n : Nat) : ∀ t i, -1 ≤ (costL lo hi us F n t).getD i 0
  | 0, i => by rw [cost_0]; omega
  | t + 1, i => by
    rcases Nat.lt_or_ge i (F (n - 2 - t)).length with h | h
    · rw [cost_s h]; exact mc_lo ..
    · rw [List.getD, List.getElem?_eq_none (by rw [costL, List.length_map]; exact h)]; simp
theorem cost_hi {lo hi us : Int} {F : Nat → List Int} {n : Nat} (hF : ∀ k q, 0 ≤ (F k).getD q 0 ∧ (F k).getD q 0 ≤ 1000000000000) (hu : 0 ≤ us ∧ us ≤ 1000000000000) : ∀ (t i : Nat), (costL lo hi us F n t).getD i 0 ≤ 2000000000000 * (t : Int)
  | 0, i => by rw [cost_0]; simp
  | t + 1, i => by
    rcases Nat.lt_or_ge i (F (n - 2 - t)).length with h | h
    · rw [cost_s h]
      have := mc_hi (lo := lo) (hi := hi) (us := us) (v := (F (n - 2 - t)).getD i 0) (nv := F (n - 1 - t)) (nc := costL lo hi us F n t) (B := 2000000000000 * (t : Int)) (by omega) (cost_hi hF hu t) (hF _ _) (hF _) hu (F (n - 1 - t)).length
      push_cast; omega
    · rw [List.getD, List.getElem?_eq_none (by rw [costL, List.length_map]; exact h)]; simp; omega
/-! what is sure -/
def okAt (lo hi us : Int) (F : Nat → List Int) (n k i : Nat) : Bool := (reachL lo hi F k).getD i false && decide (0 ≤ (costL lo hi us F n (n - 1 - k)).getD i 0)
/-- endL t: of the photo that lies t before the last, what is reached and goes on to the end. -/
def endA (lo hi : Int) (v : Int) (nv : List Int) (e : List Bool) (j : Nat) : Bool := (List.range j).any fun i => e.getD i false && goesB lo hi v (nv.getD i 0)
def endR (lo hi : Int) (r : List Bool) (vs nv : List Int) (e : List Bool) : List Bool := (List.range r.length).map fun i => r.getD i false && endA lo hi (vs.getD i 0) nv e nv.length
def endL (lo hi : Int) (F : Nat → List Int) (n : Nat) : Nat → List Bool
  | 0 => reachL lo hi F (n - 1)
  | t + 1 => endR lo hi (reachL lo hi F (n - 2 - t)) (F (n - 2 - t)) (F (n - 1 - t)) (endL lo hi F n t)
theorem ea_0 (lo hi v : Int) (nv : List Int) (e : List Bool) : endA lo hi v nv e 0 = false := rfl
theorem ea_s (lo hi v : Int) (nv : List Int) (e : List Bool) (j : Nat) : endA lo hi v nv e (j + 1) = (endA lo hi v nv e j || (e.getD j false && goesB lo hi v (nv.getD j 0))) := by
  unfold endA; rw [List.range_succ, List.any_append]; simp
theorem ea_true {lo hi v : Int} {nv : List Int} {e : List Bool} {i j : Nat} (h : endA lo hi v nv e i = true) (hij : i ≤ j) : endA lo hi v nv e j = true := by
  unfold endA at h ⊢
  rw [List.any_eq_true] at h ⊢
  obtain ⟨x, hx, h⟩ := h
  exact ⟨x, by simp at hx ⊢; omega, h⟩
theorem end_len (lo hi : Int) (F : Nat → List Int) (n : Nat) : ∀ t, t < n → (endL lo hi F n t).length = (F (n - 1 - t)).length
  | 0, _ => by rw [endL, reach_len]; rfl
  | t + 1, _ => by rw [endL, endR, List.length_map, List.length_range, reach_len, show n - 1 - (t + 1) = n - 2 - t by omega]
theorem end_at {lo hi : Int} {F : Nat → List Int} {n t i : Nat} (h : i < (F (n - 2 - t)).length) : (endL lo hi F n (t + 1)).getD i false = ((reachL lo hi F (n - 2 - t)).getD i false && endA lo hi ((F (n - 2 - t)).getD i 0) (F (n - 1 - t)) (endL lo hi F n t) (F (n - 1 - t)).length) := by
  rw [endL, endR]
  simp only [List.getD, List.getElem?_map, List.getElem?_range (by rw [reach_len]; exact h : i < (reachL lo hi F (n - 2 - t)).length), Option.map_some, Option.getD_some]
theorem goes_reach {lo hi : Int} {F : Nat → List Int} {k i j : Nat} (hi2 : i < (F k).length) (hj : j < (F (k + 1)).length) (h : (reachL lo hi F k).getD i false = true) (hg : goesB lo hi ((F k).getD i 0) ((F (k + 1)).getD j 0) = true) : (reachL lo hi F (k + 1)).getD j false = true := by
  rw [reach_s hj]
  unfold reachA
  rw [List.any_eq_true]
  exact ⟨i, by simpa using hi2, by rw [h, hg]; rfl⟩
theorem end_ok {lo hi us : Int} {F : Nat → List Int} {n : Nat} : ∀ {t i : Nat}, t < n → i < (F (n - 1 - t)).length → (endL lo hi F n t).getD i false = okAt lo hi us F n (n - 1 - t) i
  | 0, i, ht, hi2 => by
    unfold okAt
    rw [endL, show n - 1 - (n - 1 - 0) = 0 by omega, cost_0]
    simp
  | t + 1, i, ht, hi2 => by
    have e1 : n - 1 - (t + 1) = n - 2 - t := by omega
    rw [e1] at hi2 ⊢
    rw [end_at hi2]
    unfold okAt
    rw [show n - 1 - (n - 2 - t) = t + 1 by omega, cost_s hi2]
    cases hr : (reachL lo hi F (n - 2 - t)).getD i false with
    | false => rfl
    | true =>
      rw [Bool.true_and, Bool.true_and]
      have e2 : n - 2 - t + 1 = n - 1 - t := by omega
      cases he : endA lo hi ((F (n - 2 - t)).getD i 0) (F (n - 1 - t)) (endL lo hi F n t) (F (n - 1 - t)).length with
      | true =>
        unfold endA at he
        rw [List.any_eq_true] at he
        obtain ⟨j, hj, he⟩ := he
        rw [Bool.and_eq_true] at he
        have hj2 : j < (F (n - 1 - t)).length := by simpa using hj
        have h1 := end_ok (lo := lo) (hi := hi) (us := us) (t := t) (by omega) hj2
        rw [he.1] at h1
        unfold okAt at h1
        have h2 := h1.symm
        rw [Bool.and_eq_true, decide_eq_true_iff, show n - 1 - (n - 1 - t) = t by omega] at h2
        exact (decide_eq_true (mc_some h2.2 he.2 hj2)).symm
      | false =>
        symm
        rw [decide_eq_false_iff_not]
        intro hm
        obtain ⟨j, hj, h0, hg, _⟩ := mc_at hm
        have hrj := goes_reach (k := n - 2 - t) hi2 (by rw [e2]; exact hj) hr (by rw [e2]; exact hg)
        rw [e2] at hrj
        have h1 := end_ok (lo := lo) (hi := hi) (us := us) (t := t) (by omega) hj
        unfold okAt at h1
        rw [hrj, show n - 1 - (n - 1 - t) = t by omega, decide_eq_true h0] at h1
        have : endA lo hi ((F (n - 2 - t)).getD i 0) (F (n - 1 - t)) (endL lo hi F n t) (F (n - 1 - t)).length = true := by
          unfold endA
          rw [List.any_eq_true]
          exact ⟨j, by simpa using hj, by rw [h1, hg]; rfl⟩
        rw [he] at this; cases this
theorem any_get {l : List Bool} : l.any id = true ↔ ∃ i, i < l.length ∧ l.getD i false = true := by
  rw [List.any_eq_true]
  constructor
  · rintro ⟨x, hx, h⟩
    obtain ⟨i, hi, rfl⟩ := List.getElem_of_mem hx
    exact ⟨i, hi, by simpa [List.getD, hi] using h⟩
  · rintro ⟨i, hi, h⟩
    exact ⟨_, getD_mem false hi, h⟩
theorem end_any {lo hi : Int} {F : Nat → List Int} {n : Nat} : ∀ {t : Nat}, t < n → ((endL lo hi F n t).any id = true ↔ (reachL lo hi F (n - 1)).any id = true)
  | 0, _ => Iff.rfl
  | t + 1, ht => by
    rw [← end_any (t := t) (by omega), any_get, any_get]
    have e1 : n - 1 - (t + 1) = n - 2 - t := by omega
    have e2 : n - 2 - t + 1 = n - 1 - t := by omega
    constructor
    · rintro ⟨i, hi2, h⟩
      rw [end_len lo hi F n (t + 1) ht, e1] at hi2
      rw [end_at hi2, Bool.and_eq_true] at h
      have h := h.2
      unfold endA at h
      rw [List.any_eq_true] at h
      obtain ⟨j, hj, h⟩ := h
      rw [Bool.and_eq_true] at h
      exact ⟨j, by rw [end_len lo hi F n t (by omega)]; simpa using hj, h.1⟩
    · rintro ⟨j, hj, h⟩
      rw [end_len lo hi F n t (by omega)] at hj
      have h1 := end_ok (lo := lo) (hi := hi) (us := 0) (t := t) (by omega) hj
      rw [h] at h1
      unfold okAt at h1
      have h2 := h1.symm
      rw [Bool.and_eq_true] at h2
      have h3 := h2.1
      rw [← e2] at h3 hj
      rw [reach_s hj] at h3
      unfold reachA at h3
      rw [List.any_eq_true] at h3
      obtain ⟨i, hi2, h3⟩ := h3
      rw [Bool.and_eq_true] at h3
      have hi3 : i < (F (n - 2 - t)).length := by simpa using hi2
      refine ⟨i, by rw [end_len lo hi F n (t + 1) ht, e1]; exact hi3, ?_⟩
      rw [end_at hi3, h3.1, Bool.true_and]
      unfold endA
      rw [List.any_eq_true]
      rw [e2] at hj h3
      exact ⟨j, by simpa using hj, by rw [h, h3.2]; rfl⟩
/-- Marks for the digits of values that are sure. -/
def putD (d : List Int) (l : List VMk) (w : Nat) : List VMk := l.set w (putM (l.getD w zMk) (d.getD w 0).toNat)
def putW (s : List Int) (d : List Int) (l : List VMk) : Nat → List VMk
  | 0 => l
  | w + 1 => putD d (putW s d l w) w
def sureM (s : List Int) (vs : List Int) (ok : Nat → Bool) : Nat → List VMk
  | 0 => zPh.l
  | i + 1 => if ok i = true then putW s (digs s (vs.getD i 0)) (sureM s vs ok i) s.length else sureM s vs ok i
theorem putW_len (s d : List Int) (l : List VMk) : ∀ w, (putW s d l w).length = l.length
  | 0 => rfl
  | w + 1 => by rw [putW, putD, List.length_set, putW_len s d l w]
theorem sure_len (s vs : List Int) (ok : Nat → Bool) : ∀ i, (sureM s vs ok i).length = 8
  | 0 => rfl
  | i + 1 => by rw [sureM]; split
                · rw [putW_len, sure_len s vs ok i]
                · exact sure_len s vs ok i
theorem sure_congr {s vs : List Int} {ok ok' : Nat → Bool} : ∀ {n : Nat}, (∀ i, i < n → ok i = ok' i) → sureM s vs ok n = sureM s vs ok' n
  | 0, _ => rfl
  | n + 1, h => by rw [sureM, sureM, h n (by omega), sure_congr fun i hi => h i (by omega)]
def surePs (s : List Int) (L : List VPh) (lo hi : Int) : List VPh := (List.range L.length).map fun k => phot (sureM s (filmF s L k) (okAt lo hi lo (filmF s L) L.length k) (filmF s L k).length)
def sureV (s : List Int) (L : List VPh) (lo hi : Int) : List VPh × Int :=
  if codeF s L lo hi lo ≠ 0 then ([], codeF s L lo hi lo) else if (reachL lo hi (filmF s L) (L.length - 1)).any id = false then ([], 6) else (surePs s L lo hi, 0)
/-! the likeliest way -/
def bestK (c : List Int) : Nat → Int
  | 0 => -1
  | i + 1 => if 0 ≤ c.getD i 0 ∧ (bestK c i < 0 ∨ c.getD i 0 < c.getD (bestK c i).toNat 0) then (i : Int) else bestK c i
def bestC (c : List Int) : Nat → Int
  | 0 => -1
  | i + 1 => if 0 ≤ c.getD i 0 ∧ (bestC c i < 0 ∨ c.getD i 0 < bestC c i) then c.getD i 0 else bestC c i
theorem bk_bd (c : List Int) : ∀ i, -1 ≤ bestK c i ∧ bestK c i < i
  | 0 => by simp [bestK]
  | i + 1 => by have := bk_bd c i; rw [bestK]; split <;> omega
theorem bk_nn (c : List Int) : ∀ j, 0 ≤ bestK c j → 0 ≤ c.getD (bestK c j).toNat 0
  | 0 => by simp [bestK]
  | j + 1 => by
    have ih := bk_nn c j
    by_cases h : 0 ≤ c.getD j 0 ∧ (bestK c j < 0 ∨ c.getD j 0 < c.getD (bestK c j).toNat 0)
    · rw [bestK, if_pos h, Int.toNat_natCast]; exact fun _ => h.1
    · rw [bestK, if_neg h]; exact ih
theorem bk_bc (c : List Int) : ∀ i, (bestK c i < 0 ∧ bestC c i = -1) ∨ (0 ≤ bestK c i ∧ bestC c i = c.getD (bestK c i).toNat 0)
  | 0 => by simp [bestC, bestK]
  | i + 1 => by
    have ih := bk_bc c i
    have hn := bk_nn c i
    by_cases h : 0 ≤ c.getD i 0 ∧ (bestK c i < 0 ∨ c.getD i 0 < c.getD (bestK c i).toNat 0)
    · have h2 : 0 ≤ c.getD i 0 ∧ (bestC c i < 0 ∨ c.getD i 0 < bestC c i) := ⟨h.1, by rcases ih with ih | ih <;> omega⟩
      right
      rw [bestK, bestC, if_pos h, if_pos h2, Int.toNat_natCast]
      exact ⟨by omega, rfl⟩
    · have h2 : ¬ (0 ≤ c.getD i 0 ∧ (bestC c i < 0 ∨ c.getD i 0 < bestC c i)) := by rcases ih with ih | ih <;> omega
      rw [bestK, bestC, if_neg h, if_neg h2]; exact ih
end Go.W
