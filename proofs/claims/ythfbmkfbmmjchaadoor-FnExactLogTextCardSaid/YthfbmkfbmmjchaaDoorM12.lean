/- Drifts, and totals out of a log, in plain numbers. -/
import Derived.Test.YthfbmkfbmmjchaaDoorM11
set_option linter.unusedVariables false
set_option linter.unusedSimpArgs false
namespace Go.W
open Go Go.Sx
/-- The count up to a day, and whether it is told. -/
def onW (l : List VP) (day : Int) : Int × Bool := if 0 < l.length ∧ (l.getD 0 zP).a ≤ day ∧ day ≤ (l.getD (l.length - 1) zP).a then (onV l day, true) else (0, false)
theorem ow_c {l : List VP} {day : Int} (h : Covers l day) : onW l day = (onV l day, true) := by unfold Covers at h; unfold onW; rw [if_pos h]
theorem ow_n {l : List VP} {day : Int} (h : ¬ Covers l day) : onW l day = (0, false) := by unfold Covers at h; unfold onW; rw [if_neg h]
theorem ow_eq {l : List VP} (hT : Tot l) {day : Int} {i : Nat} (hc : Covers l day) (ho : OnAt l day i) (he : (l.getD i zP).a = day) : onW l day = ((l.getD i zP).b, true) := by rw [ow_c hc, onV_eq hT ho he]
theorem ow_ne {l : List VP} (hT : Tot l) {day : Int} {i : Nat} (hc : Covers l day) (ho : OnAt l day i) (he : ¬ (l.getD i zP).a = day) : onW l day = ((l.getD i zP).b + ((l.getD (i + 1) zP).b - (l.getD i zP).b) * (day - (l.getD i zP).a) / ((l.getD (i + 1) zP).a - (l.getD i zP).a), true) := by rw [ow_c hc, onV_ne hT ho he]
theorem ow_bd {l : List VP} (h : Tot l) (day : Int) : 0 ≤ (onW l day).1 ∧ (onW l day).1 ≤ 1000000000000 := by
  unfold onW; split
  · rename_i hc; exact onV_bd h hc
  · exact ⟨by decide, by decide⟩
def drD (x y : List VP) (day : Int) : Int := (onW x day).1 - (onW y day).1
theorem drD_on {x y : List VP} {day : Int} (hx : Covers x day) (hy : Covers y day) : drD x y day = onV x day - onV y day := by unfold drD; rw [ow_c hx, ow_c hy]
def loD (x y : List VP) (f : Int) : Nat → Int
  | 0 => drD x y f
  | k + 1 => min (loD x y f k) (drD x y (f + ((k : Int) + 1)))
def hiD (x y : List VP) (f : Int) : Nat → Int
  | 0 => drD x y f
  | k + 1 => max (hiD x y f k) (drD x y (f + ((k : Int) + 1)))
def drL (x y : List VP) (f : Int) : Nat → List Int
  | 0 => []
  | k + 1 => drL x y f k ++ [drD x y (f + (k : Int))]
theorem drL_len (x y : List VP) (f : Int) : ∀ k, (drL x y f k).length = k
  | 0 => rfl
  | k + 1 => by rw [drL, List.length_append, drL_len x y f k]; rfl
theorem drL_at {x y : List VP} {f : Int} {i : Nat} : ∀ {k : Nat}, i < k → (drL x y f k).getD i 0 = drD x y (f + (i : Int))
  | k + 1, h => by
    have hl := drL_len x y f k
    rw [drL]
    rcases Nat.lt_or_ge i k with h1 | h1
    · have := drL_at (x := x) (y := y) (f := f) h1
      simp only [List.getD] at this ⊢
      rw [List.getElem?_append_left (by omega)]; exact this
    · have e : i = k := by omega
      subst e
      simp only [List.getD]
      rw [List.getElem?_append_right (by omega)]; simp [hl]
def minL (s : List Int) : Nat → Int
  | 0 => s.getD 0 0
  | k + 1 => min (minL s k) (s.getD (k + 1) 0)
def maxL (s : List Int) : Nat → Int
  | 0 => s.getD 0 0
  | k + 1 => max (maxL s k) (s.getD (k + 1) 0)
theorem minL_dr {x y : List VP} {f : Int} {n : Nat} : ∀ k, k < n → minL (drL x y f n) k = loD x y f k
  | 0, h => by rw [minL, drL_at h]; simp [loD]
  | k + 1, h => by rw [minL, minL_dr k (by omega), drL_at h, loD]; simp
theorem maxL_dr {x y : List VP} {f : Int} {n : Nat} : ∀ k, k < n → maxL (drL x y f n) k = hiD x y f k
  | 0, h => by rw [maxL, drL_at h]; simp [hiD]
  | k + 1, h => by rw [maxL, maxL_dr k (by omega), drL_at h, hiD]; simp
def pairS (A : Option Addr) (c : Nat) (x : List VP) (B : Option Addr) (d : Nat) (y : List VP) : List VS := [⟨A, c, x⟩, ⟨B, d, y⟩]
/-- The first and the last common day of two lists, with a code. -/
def bothV (x y : List VP) : Int × Int × Int := if (validTot x && validTot y) = false then (0, 0, 1) else comV [⟨none, 0, x⟩, ⟨none, 0, y⟩]
theorem firstD_two {A c x B d y} : firstD [⟨A, c, x⟩, ⟨B, d, y⟩] 2 = max (max 0 (x.getD 0 zP).a) (y.getD 0 zP).a := rfl
theorem lastD_two {A c x B d y} : lastD [⟨A, c, x⟩, ⟨B, d, y⟩] 2 = min (min 100000 (x.getD (x.length - 1) zP).a) (y.getD (y.length - 1) zP).a := rfl
theorem comV_two {A c x B d y} : comV [⟨A, c, x⟩, ⟨B, d, y⟩] = comV [⟨none, 0, x⟩, ⟨none, 0, y⟩] := rfl
theorem comI_two {A c x B d y} : comI [⟨A, c, x⟩, ⟨B, d, y⟩] = comI [⟨none, 0, x⟩, ⟨none, 0, y⟩] := rfl
theorem both_bad {x y : List VP} (h : (validTot x && validTot y) = false) : bothV x y = (0, 0, 1) := by unfold bothV; rw [if_pos h]
theorem both_ok {x y : List VP} (h : (validTot x && validTot y) = true) : bothV x y = comV [⟨none, 0, x⟩, ⟨none, 0, y⟩] := by unfold bothV; rw [if_neg (by rw [h]; decide)]
/-- What a code 0 tells. -/
structure Both (x y : List VP) : Prop where
  vx : validTot x = true
  vy : validTot y = true
  le : (bothV x y).1 ≤ (bothV x y).2.1
  lo : 0 ≤ (bothV x y).1
  hi : (bothV x y).2.1 ≤ 100000
  span : (bothV x y).2.1 - (bothV x y).1 ≤ 399
  cx : ∀ day, (bothV x y).1 ≤ day → day ≤ (bothV x y).2.1 → Covers x day
  cy : ∀ day, (bothV x y).1 ≤ day → day ≤ (bothV x y).2.1 → Covers y day
theorem both {x y : List VP} (h : (bothV x y).2.2 = 0) : Both x y := by
  by_cases hv : (validTot x && validTot y) = true
  · rw [both_ok hv] at h
    cases he : anyE [⟨none, 0, x⟩, ⟨none, 0, y⟩] with
    | true => rw [cv_e he] at h; cases h
    | false =>
      by_cases h1 : lastD [⟨none, 0, x⟩, ⟨none, 0, y⟩] 2 < firstD [⟨none, 0, x⟩, ⟨none, 0, y⟩] 2
      · rw [cv_n he h1] at h; cases h
      · by_cases h2 : 400 < lastD [⟨none, 0, x⟩, ⟨none, 0, y⟩] 2 - firstD [⟨none, 0, x⟩, ⟨none, 0, y⟩] 2 + 1
        · rw [cv_l he h1 h2] at h; cases h
        · have e : bothV x y = (firstD [⟨none, 0, x⟩, ⟨none, 0, y⟩] 2, lastD [⟨none, 0, x⟩, ⟨none, 0, y⟩] 2, 0) := by rw [both_ok hv]; exact cv_o he h1 h2
          have hx := ae_all he 0 (by simp)
          have hy := ae_all he 1 (by simp)
          have f0 := firstD_ge (L := [⟨none, 0, x⟩, ⟨none, 0, y⟩]) (k := 2) (i := 0) (by omega)
          have f1 := firstD_ge (L := [⟨none, 0, x⟩, ⟨none, 0, y⟩]) (k := 2) (i := 1) (by omega)
          have l0 := lastD_le (L := [⟨none, 0, x⟩, ⟨none, 0, y⟩]) (k := 2) (i := 0) (by omega)
          have l1 := lastD_le (L := [⟨none, 0, x⟩, ⟨none, 0, y⟩]) (k := 2) (i := 1) (by omega)
          have g0 := firstD_0 (L := [⟨none, 0, x⟩, ⟨none, 0, y⟩]) 2
          have g1 := lastD_0 (L := [⟨none, 0, x⟩, ⟨none, 0, y⟩]) 2
          simp only [List.getD_cons_zero, List.getD_cons_succ] at hx hy f0 f1 l0 l1
          rw [Bool.and_eq_true] at hv
          refine ⟨hv.1, hv.2, ?_, ?_, ?_, ?_, ?_, ?_⟩ <;> rw [e] <;> dsimp only
          · omega
          · omega
          · omega
          · omega
          · intro day h3 h4; exact ⟨by omega, by omega, by omega⟩
          · intro day h3 h4; exact ⟨by omega, by omega, by omega⟩
  · rw [both_bad (by simpa using hv)] at h; cases h
def bestV (x y : List VP) : Int × Int × Int :=
  if (bothV x y).2.2 ≠ 0 then (0, 0, (bothV x y).2.2) else
  ((loD x y (bothV x y).1 ((bothV x y).2.1 - (bothV x y).1).toNat + hiD x y (bothV x y).1 ((bothV x y).2.1 - (bothV x y).1).toNat) / 2,
   max (hiD x y (bothV x y).1 ((bothV x y).2.1 - (bothV x y).1).toNat - (loD x y (bothV x y).1 ((bothV x y).2.1 - (bothV x y).1).toNat + hiD x y (bothV x y).1 ((bothV x y).2.1 - (bothV x y).1).toNat) / 2)
     ((loD x y (bothV x y).1 ((bothV x y).2.1 - (bothV x y).1).toNat + hiD x y (bothV x y).1 ((bothV x y).2.1 - (bothV x y).1).toNat) / 2 - loD x y (bothV x y).1 ((bothV x y).2.1 - (bothV x y).1).toNat), 0)
theorem best_bad {x y : List VP} (h : (bothV x y).2.2 ≠ 0) : bestV x y = (0, 0, (bothV x y).2.2) := by unfold bestV; rw [if_pos h]
theorem best_ok {x y : List VP} {k : Nat} (h : (bothV x y).2.2 = 0) (hk : (k : Int) = (bothV x y).2.1 - (bothV x y).1) : bestV x y = ((loD x y (bothV x y).1 k + hiD x y (bothV x y).1 k) / 2,
   max (hiD x y (bothV x y).1 k - (loD x y (bothV x y).1 k + hiD x y (bothV x y).1 k) / 2) ((loD x y (bothV x y).1 k + hiD x y (bothV x y).1 k) / 2 - loD x y (bothV x y).1 k), 0) := by
  unfold bestV; rw [if_neg (by rw [h]; decide), ← hk, Int.toNat_natCast]
theorem drD_bd {x y : List VP} (h : Both x y) {day : Int} (h1 : (bothV x y).1 ≤ day) (h2 : day ≤ (bothV x y).2.1) : -1000000000000 ≤ drD x y day ∧ drD x y day ≤ 1000000000000 := by
  have hx := ow_bd (tot h.vx) day
  have hy := ow_bd (tot h.vy) day
  unfold drD; omega
theorem loD_bd {x y : List VP} (h : Both x y) : ∀ k : Nat, (bothV x y).1 + (k : Int) ≤ (bothV x y).2.1 → -1000000000000 ≤ loD x y (bothV x y).1 k ∧ loD x y (bothV x y).1 k ≤ 1000000000000
  | 0, hk => drD_bd h (Int.le_refl _) (by omega)
  | k + 1, hk => by
    have h1 := loD_bd h k (by omega)
    have h2 := drD_bd h (day := (bothV x y).1 + ((k : Int) + 1)) (by omega) (by omega)
    rw [loD]; omega
theorem hiD_bd {x y : List VP} (h : Both x y) : ∀ k : Nat, (bothV x y).1 + (k : Int) ≤ (bothV x y).2.1 → -1000000000000 ≤ hiD x y (bothV x y).1 k ∧ hiD x y (bothV x y).1 k ≤ 1000000000000
  | 0, hk => drD_bd h (Int.le_refl _) (by omega)
  | k + 1, hk => by
    have h1 := hiD_bd h k (by omega)
    have h2 := drD_bd h (day := (bothV x y).1 + ((k : Int) + 1)) (by omega) (by omega)
    rw [hiD]; omega
/-- The drifts on the common days, the first one of these, and a code. -/
def drV (x y : List VP) : List Int × Int × Int := if (bothV x y).2.2 ≠ 0 then ([], 0, (bothV x y).2.2) else (drL x y (bothV x y).1 (((bothV x y).2.1 - (bothV x y).1).toNat + 1), (bothV x y).1, 0)
theorem dr_bad {x y : List VP} (h : (bothV x y).2.2 ≠ 0) : drV x y = ([], 0, (bothV x y).2.2) := by unfold drV; rw [if_pos h]
theorem dr_ok {x y : List VP} {k : Nat} (h : (bothV x y).2.2 = 0) (hk : (k : Int) = (bothV x y).2.1 - (bothV x y).1 + 1) : drV x y = (drL x y (bothV x y).1 k, (bothV x y).1, 0) := by
  have hB := (both h).le
  unfold drV; rw [if_neg (by rw [h]; decide), show ((bothV x y).2.1 - (bothV x y).1).toNat + 1 = k by omega]
theorem dr_1 {x y : List VP} (h : (validTot x && validTot y) = false) : drV x y = ([], 0, 1) := by rw [dr_bad (by rw [both_bad h]; decide), both_bad h]
theorem dr_6 {A B : Option Addr} {c d : Nat} {x y : List VP} (h : (validTot x && validTot y) = true) (h1 : (comI [⟨A, c, x⟩, ⟨B, d, y⟩]).2 < (comI [⟨A, c, x⟩, ⟨B, d, y⟩]).1) : drV x y = ([], 0, 6) := by
  rw [comI_two] at h1
  have e : bothV x y = (0, 0, 6) := by
    rw [both_ok h]
    cases he : anyE [⟨none, 0, x⟩, ⟨none, 0, y⟩] with
    | true => exact cv_e he
    | false => rw [ci_f he] at h1; exact cv_n he h1
  rw [dr_bad (by rw [e]; decide), e]
theorem com_of {L : List VS} (h1 : ¬ (comI L).2 < (comI L).1) : anyE L = false ∧ comI L = (firstD L L.length, lastD L L.length) := by
  cases he : anyE L with
  | true => rw [ci_t he] at h1; exact absurd (by decide) h1
  | false => exact ⟨rfl, ci_f he⟩
theorem dr_3 {A B : Option Addr} {c d : Nat} {x y : List VP} (h : (validTot x && validTot y) = true) (h1 : ¬ (comI [⟨A, c, x⟩, ⟨B, d, y⟩]).2 < (comI [⟨A, c, x⟩, ⟨B, d, y⟩]).1) (h2 : 400 < (comI [⟨A, c, x⟩, ⟨B, d, y⟩]).2 - (comI [⟨A, c, x⟩, ⟨B, d, y⟩]).1 + 1) : drV x y = ([], 0, 3) := by
  rw [comI_two] at h1 h2
  obtain ⟨he, e⟩ := com_of h1
  rw [e] at h1 h2
  have e2 : bothV x y = (0, 0, 3) := by rw [both_ok h]; exact cv_l he h1 h2
  rw [dr_bad (by rw [e2]; decide), e2]
theorem both_of {A B : Option Addr} {c d : Nat} {x y : List VP} (h : (validTot x && validTot y) = true) (h1 : ¬ (comI [⟨A, c, x⟩, ⟨B, d, y⟩]).2 < (comI [⟨A, c, x⟩, ⟨B, d, y⟩]).1) (h2 : ¬ 400 < (comI [⟨A, c, x⟩, ⟨B, d, y⟩]).2 - (comI [⟨A, c, x⟩, ⟨B, d, y⟩]).1 + 1) : bothV x y = ((comI [⟨A, c, x⟩, ⟨B, d, y⟩]).1, (comI [⟨A, c, x⟩, ⟨B, d, y⟩]).2, 0) := by
  rw [comI_two] at h1 h2 ⊢
  obtain ⟨he, e⟩ := com_of h1
  rw [e] at h1 h2 ⊢
  rw [both_ok h]; exact cv_o he h1 h2
theorem com_lo2 (L : List VS) : ¬ (comI L).2 < (comI L).1 → 0 ≤ (comI L).1 ∧ (comI L).2 ≤ 100000 := fun h1 => by
  obtain ⟨he, e⟩ := com_of h1
  rw [e]; exact ⟨firstD_0 _, lastD_0 _⟩
theorem dr_code (x y : List VP) : (drV x y).2.2 = (bothV x y).2.2 := by
  by_cases h : (bothV x y).2.2 = 0
  · unfold drV; rw [if_neg (by rw [h]; decide), h]
  · rw [dr_bad h]
theorem best_of {x y : List VP} (h : (bothV x y).2.2 = 0) : ∃ n : Nat, (bothV x y).1 + (n : Int) ≤ (bothV x y).2.1 ∧ (drV x y).1.length = n + 1 ∧ minL (drV x y).1 ((drV x y).1.length - 1) = loD x y (bothV x y).1 n ∧ maxL (drV x y).1 ((drV x y).1.length - 1) = hiD x y (bothV x y).1 n
    ∧ bestV x y = ((minL (drV x y).1 ((drV x y).1.length - 1) + maxL (drV x y).1 ((drV x y).1.length - 1)) / 2, max (maxL (drV x y).1 ((drV x y).1.length - 1) - (minL (drV x y).1 ((drV x y).1.length - 1) + maxL (drV x y).1 ((drV x y).1.length - 1)) / 2) ((minL (drV x y).1 ((drV x y).1.length - 1) + maxL (drV x y).1 ((drV x y).1.length - 1)) / 2 - minL (drV x y).1 ((drV x y).1.length - 1)), 0) := by
  have hB := (both h).le
  obtain ⟨n, hn⟩ : ∃ n : Nat, (n : Int) = (bothV x y).2.1 - (bothV x y).1 := ⟨((bothV x y).2.1 - (bothV x y).1).toNat, by omega⟩
  have e : (drV x y).1 = drL x y (bothV x y).1 (n + 1) := by rw [dr_ok h (k := n + 1) (by omega)]
  have hl : (drV x y).1.length = n + 1 := by rw [e, drL_len]
  have h1 : minL (drV x y).1 ((drV x y).1.length - 1) = loD x y (bothV x y).1 n := by rw [hl, e]; exact minL_dr n (by omega)
  have h2 : maxL (drV x y).1 ((drV x y).1.length - 1) = hiD x y (bothV x y).1 n := by rw [hl, e]; exact maxL_dr n (by omega)
  refine ⟨n, by omega, hl, h1, h2, ?_⟩
  rw [h1, h2]; exact best_ok h hn
theorem rd2 {w : World} {A B : Option Addr} {c d : Nat} {x y : List VP} (h1 : Rd w A (x.flatMap encP)) (h2 : Rd w B (y.flatMap encP)) : ∀ k, k < 2 → Rd w ([⟨A, c, x⟩, ⟨B, d, y⟩].getD k zS).A (([⟨A, c, x⟩, ⟨B, d, y⟩].getD k zS).xs.flatMap encP)
  | 0, _ => h1
  | 1, _ => h2
theorem tot2 {A B : Option Addr} {c d : Nat} {x y : List VP} (h1 : Tot x) (h2 : Tot y) : ∀ k, k < 2 → Tot ([⟨A, c, x⟩, ⟨B, d, y⟩].getD k zS).xs
  | 0, _ => h1
  | 1, _ => h2
theorem tm_bd {a b : Int} (hb : 0 < b) : -b < a.tmod b ∧ a.tmod b < b := ⟨Int.lt_tmod_of_pos a hb, Int.tmod_lt_of_pos a hb⟩
theorem mod_fix {a b : Int} : (a.tmod b + b) % b = a % b := by
  have h := Int.tmod_add_mul_tdiv a b
  conv => rhs; rw [← h]
  rw [Int.add_mul_emod_self_left, show a.tmod b + b = a.tmod b + b * 1 by omega, Int.add_mul_emod_self_left]
/-! logs -/
def okR (s : List Int) (l : List VP) (i : Nat) : Bool := decide (0 ≤ (l.getD i zP).a ∧ (l.getD i zP).a ≤ 100000 ∧ 0 ≤ (l.getD i zP).b ∧ (l.getD i zP).b ≤ size s - 1 ∧ (0 < i → (l.getD (i - 1) zP).a < (l.getD i zP).a))
def validLog (s : List Int) (l : List VP) : Bool := validStack s && (decide (l.length ≤ 40) && (List.range l.length).all (okR s l))
theorem vl_stack {s : List Int} {l : List VP} (h : validStack s = false) : false = validLog s l := by unfold validLog; rw [h]; rfl
theorem vl_long {s : List Int} {l : List VP} (h : ¬ l.length ≤ 40) : false = validLog s l := by unfold validLog; rw [decide_eq_false h]; simp
theorem vl_bad {s : List Int} {l : List VP} {k : Nat} (hk : k < l.length) (h : okR s l k = false) : false = validLog s l := by
  unfold validLog; symm; rw [Bool.and_eq_false_iff]; right; rw [Bool.and_eq_false_iff]; right
  rw [List.all_eq_false]; exact ⟨k, by simpa using hk, by simp [h]⟩
theorem vl_yes {s : List Int} {l : List VP} {k : Nat} (hs : validStack s = true) (h : l.length ≤ 40) (hk : ¬ k < l.length) (hall : ∀ i, i < k → okR s l i = true) : true = validLog s l := by
  unfold validLog; rw [hs, decide_eq_true h, Bool.true_and, Bool.true_and]; symm; rw [List.all_eq_true]; intro i hi; exact hall i (by simp at hi; omega)
structure Log (s : List Int) (l : List VP) : Prop where
  stk : validStack s = true
  len : l.length ≤ 40
  day : ∀ i, i < l.length → 0 ≤ (l.getD i zP).a ∧ (l.getD i zP).a ≤ 100000
  val : ∀ i, i < l.length → 0 ≤ (l.getD i zP).b ∧ (l.getD i zP).b ≤ size s - 1
  up : ∀ i, i + 1 < l.length → (l.getD i zP).a < (l.getD (i + 1) zP).a
theorem log {s : List Int} {l : List VP} (h : validLog s l = true) : Log s l := by
  unfold validLog at h
  rw [Bool.and_eq_true, Bool.and_eq_true, decide_eq_true_iff, List.all_eq_true] at h
  have hk : ∀ i, i < l.length → _ := fun i hi => of_decide_eq_true (h.2.2 i (by simpa using hi))
  exact ⟨h.1, h.2.1, fun i hi => ⟨(hk i hi).1, (hk i hi).2.1⟩, fun i hi => ⟨(hk i hi).2.2.1, (hk i hi).2.2.2.1⟩, fun i hi => by have := (hk (i + 1) hi).2.2.2.2 (by omega); simpa using this⟩
theorem okr_t {s : List Int} {l : List VP} {i : Nat} (h1 : 0 ≤ (l.getD i zP).a ∧ (l.getD i zP).a ≤ 100000) (h2 : 0 ≤ (l.getD i zP).b ∧ (l.getD i zP).b ≤ size s - 1) (h3 : 0 < i → (l.getD (i - 1) zP).a < (l.getD i zP).a) : okR s l i = true := by
  unfold okR; rw [decide_eq_true_iff]; exact ⟨h1.1, h1.2, h2.1, h2.2, h3⟩
theorem okr_f {s : List Int} {l : List VP} {i : Nat} (h : ¬ (0 ≤ (l.getD i zP).a ∧ (l.getD i zP).a ≤ 100000) ∨ ¬ (0 ≤ (l.getD i zP).b ∧ (l.getD i zP).b ≤ size s - 1) ∨ 0 < i ∧ ¬ ((l.getD (i - 1) zP).a < (l.getD i zP).a)) : okR s l i = false := by
  unfold okR; rw [decide_eq_false_iff_not]; rintro ⟨q1, q2, q3, q4, q5⟩
  rcases h with h | h | ⟨h, h'⟩
  · exact h ⟨q1, q2⟩
  · exact h ⟨q3, q4⟩
  · exact h' (q5 h)
def rdOk (s : List Int) (r : VP) : Bool := decide (0 ≤ r.a ∧ r.a ≤ 100000 ∧ 0 ≤ r.b ∧ r.b ≤ size s - 1)
theorem okr_t' {s : List Int} {l : List VP} {i : Nat} (h : rdOk s (l.getD i zP) = true) (h3 : 0 < i → (l.getD (i - 1) zP).a < (l.getD i zP).a) : okR s l i = true := by
  unfold rdOk at h; rw [decide_eq_true_iff] at h; exact okr_t ⟨h.1, h.2.1⟩ ⟨h.2.2.1, h.2.2.2⟩ h3
theorem okr_f' {s : List Int} {l : List VP} {i : Nat} (h : rdOk s (l.getD i zP) = false ∨ 0 < i ∧ ¬ ((l.getD (i - 1) zP).a < (l.getD i zP).a)) : okR s l i = false := by
  rcases h with h | h
  · unfold rdOk at h; rw [decide_eq_false_iff_not] at h
    refine okr_f ?_
    by_cases h1 : 0 ≤ (l.getD i zP).a ∧ (l.getD i zP).a ≤ 100000
    · exact .inr (.inl fun h2 => h ⟨h1.1, h1.2, h2.1, h2.2⟩)
    · exact .inl h1
  · exact okr_f (.inr (.inr h))
/-! totals out of a log -/
def cntF (z : Int) (l : List VP) : Nat → Int
  | 0 => (l.getD 0 zP).b
  | k + 1 => cntF z l k + ((l.getD (k + 1) zP).b - (l.getD k zP).b) % z
def totL (z : Int) (l : List VP) : Nat → List VP
  | 0 => []
  | k + 1 => totL z l k ++ [⟨(l.getD k zP).a, cntF z l k⟩]
theorem totL_len (z : Int) (l : List VP) : ∀ k, (totL z l k).length = k
  | 0 => rfl
  | k + 1 => by rw [totL, List.length_append, totL_len z l k]; rfl
theorem totL_at {z : Int} {l : List VP} {i : Nat} : ∀ {k : Nat}, i < k → (totL z l k).getD i zP = ⟨(l.getD i zP).a, cntF z l i⟩
  | k + 1, h => by
    have hl := totL_len z l k
    rw [totL]
    rcases Nat.lt_or_ge i k with h1 | h1
    · have := totL_at (z := z) (l := l) h1
      simp only [List.getD] at this ⊢
      rw [List.getElem?_append_left (by omega)]; exact this
    · have e : i = k := by omega
      subst e
      simp only [List.getD]
      rw [List.getElem?_append_right (by omega)]; simp [hl]
def overF (z : Int) (l : List VP) (i : Nat) : Bool := decide (1000000000000 < cntF z l i)
def totF (s : List Int) (l : List VP) : List VP × Int :=
  if validLog s l = false then ([], 1) else match firstB (overF (size s) l) l.length with
    | some _ => ([], 3)
    | none => (totL (size s) l l.length, 0)
theorem tf_1 {s : List Int} {l : List VP} (h : validLog s l = false) : totF s l = ([], 1) := by unfold totF; rw [if_pos h]
theorem tf_3 {s : List Int} {l : List VP} {k : Nat} (h : validLog s l = true) (hk : k < l.length) (hall : ∀ i, i < k → overF (size s) l i = false) (hb : 1000000000000 < cntF (size s) l k) : totF s l = ([], 3) := by
  unfold totF; rw [if_neg (by rw [h]; decide), firstB_hit hk hall (by unfold overF; exact decide_eq_true hb)]
theorem tf_0 {s : List Int} {l : List VP} {k : Nat} (h : validLog s l = true) (hk : k = l.length) (hall : ∀ i, i < k → overF (size s) l i = false) : totF s l = (totL (size s) l k, 0) := by
  subst hk; unfold totF; rw [if_neg (by rw [h]; decide), firstB_none (k := l.length) (by omega) hall]
theorem totF_len {s : List Int} {l : List VP} : (totF s l).1.length ≤ 40 := by
  cases h : validLog s l with
  | false => rw [tf_1 h]; simp
  | true =>
    unfold totF; rw [if_neg (by rw [h]; decide)]
    split
    · simp
    · show (totL _ _ _).length ≤ 40
      rw [totL_len]; exact (log h).len
theorem cnt_step {s : List Int} {l : List VP} {k : Nat} (h : 0 < k) : cntF (size s) l k = cntF (size s) l (k - 1) + ((l.getD k zP).b - (l.getD (k - 1) zP).b) % size s := by
  match k, h with
  | k + 1, _ => rfl
theorem cnt_bd {s : List Int} {l : List VP} (h : Log s l) : ∀ {k : Nat}, k < l.length → (∀ i, i < k → overF (size s) l i = false) → 0 ≤ cntF (size s) l k ∧ cntF (size s) l k ≤ 2000000000000
  | 0, hk, _ => by have h1 := h.val 0 hk; have h2 := (W.stk h.stk); have := h2.le; have := h2.size_; rw [cntF]; omega
  | k + 1, hk, hall => by
    have h1 := cnt_bd h (k := k) (by omega) fun i hi => hall i (by omega)
    have h2 := hall k (by omega)
    have h3 := W.stk h.stk
    have h4 := h3.le
    have h5 := h3.pos
    have h6 := h3.size_
    have h7 := Int.emod_nonneg ((l.getD (k + 1) zP).b - (l.getD k zP).b) (show size s ≠ 0 by omega)
    have h8 := Int.emod_lt_of_pos ((l.getD (k + 1) zP).b - (l.getD k zP).b) (show 0 < size s by omega)
    unfold overF at h2; rw [decide_eq_false_iff_not] at h2
    rw [cntF]; omega
theorem cnt_z {z : Int} {l : List VP} {k : Nat} (h : ¬ 0 < k) : cntF z l k = (l.getD k zP).b := by
  obtain rfl : k = 0 := by omega
  rfl
theorem cnt_p {z : Int} {l : List VP} {k : Nat} (h : 0 < k) : cntF z l k = ((totL z l k).getD (k - 1) zP).b + ((l.getD k zP).b - (l.getD (k - 1) zP).b) % z := by
  rw [totL_at (by omega)]
  match k, h with
  | k + 1, _ => rfl
theorem cnt_q {s : List Int} {l : List VP} {k : Nat} (h : Log s l) (hk : k < l.length) (hall : ∀ i, i < k → overF (size s) l i = false) : 0 < k → 0 ≤ ((totL (size s) l k).getD (k - 1) zP).b ∧ ((totL (size s) l k).getD (k - 1) zP).b ≤ 1000000000000 := fun h0 => by
  rw [totL_at (by omega)]
  have h1 := cnt_bd h (k := k - 1) (by omega) fun i hi => hall i (by omega)
  have h2 := hall (k - 1) (by omega)
  unfold overF at h2; rw [decide_eq_false_iff_not] at h2
  exact ⟨h1.1, by dsimp only; omega⟩
theorem over_n {z : Int} {l : List VP} {k : Nat} (h : ¬ 1000000000000 < cntF z l k) : overF z l k = false := by unfold overF; exact decide_eq_false h
end Go.W
