/- Drifts of lists that are drawn, in plain numbers. -/
import Derived.Test.YthfbmkfbmmjchaaDoorM13
set_option linter.unusedVariables false
set_option linter.unusedSimpArgs false
namespace Go.W
open Go Go.Sx
def Small (l : List VP) : Prop := Tot l ∧ l.length ≤ 6 ∧ ∀ i, i < l.length → (l.getD i zP).a ≤ 41
/-- A list in the making, and what comes next. -/
structure Dr (l : List VP) (p : VP) : Prop where
  len : l.length ≤ 6
  a0 : 0 ≤ p.a
  a1 : p.a ≤ 5 + 6 * (l.length : Int)
  b0 : 0 ≤ p.b
  b1 : p.b ≤ 19 + 29 * (l.length : Int)
  each : ∀ i, i < l.length → 0 ≤ (l.getD i zP).a ∧ (l.getD i zP).a < p.a ∧ 0 ≤ (l.getD i zP).b ∧ (l.getD i zP).b ≤ p.b
  up : ∀ i, i + 1 < l.length → (l.getD i zP).a < (l.getD (i + 1) zP).a ∧ (l.getD i zP).b ≤ (l.getD (i + 1) zP).b
structure DrS where
  l : List VP
  p : VP
  at_ : Int
  sd : Int
  k : Int
  A : Option Addr
  c : Nat
theorem snoc_at {l : List VP} {p : VP} {i : Nat} (h : i < l.length) : (l ++ [p]).getD i zP = l.getD i zP := by
  simp only [List.getD]; rw [List.getElem?_append_left h]
theorem snoc_last {l : List VP} {p : VP} : (l ++ [p]).getD l.length zP = p := by simp [List.getD]
theorem Dr.nil {p : VP} (h1 : 0 ≤ p.a ∧ p.a ≤ 5) (h2 : 0 ≤ p.b ∧ p.b ≤ 19) : Dr [] p :=
  ⟨by simp, h1.1, by simpa using h1.2, h2.1, by simpa using h2.2, fun i hi => by simp at hi, fun i hi => by simp at hi⟩
theorem Dr.next {l : List VP} {p q : VP} (h : Dr l p) (hl : l.length < 6) (h1 : p.a + 1 ≤ q.a ∧ q.a ≤ p.a + 6) (h2 : p.b ≤ q.b ∧ q.b ≤ p.b + 29) : Dr (l ++ [p]) q := by
  have hln : (l ++ [p]).length = l.length + 1 := by simp
  have := h.a0; have := h.a1; have := h.b0; have := h.b1
  refine ⟨by omega, by omega, by rw [hln]; omega, by omega, by rw [hln]; omega, fun i hi => ?_, fun i hi => ?_⟩
  · rw [hln] at hi
    rcases Nat.lt_or_ge i l.length with h3 | h3
    · rw [snoc_at h3]; have := h.each i h3; omega
    · rw [show i = l.length by omega, snoc_last]; omega
  · rw [hln] at hi
    rcases Nat.lt_or_ge (i + 1) l.length with h3 | h3
    · rw [snoc_at h3, snoc_at (by omega)]; exact h.up i h3
    · rw [show i + 1 = l.length by omega, snoc_last, snoc_at (by omega)]; have := h.each i (by omega); omega
theorem Dr.small {l : List VP} {p : VP} (h : Dr l p) : Small l := by
  have := h.a1; have := h.b1; have := h.len
  refine ⟨⟨by omega, fun i hi => ?_, fun i hi => ?_, h.up⟩, h.len, fun i hi => ?_⟩
  · have := h.each i hi; omega
  · have := h.each i hi; omega
  · have := h.each i hi; omega
theorem tot_valid {l : List VP} (h : Tot l) : validTot l = true := by
  refine (vt_yes (k := l.length) h.len (Nat.lt_irrefl _) fun i hi => ok_t (h.day i hi) (h.cnt i hi) fun h0 => ?_).symm
  have := h.up (i - 1) (by omega)
  rwa [show i - 1 + 1 = i by omega] at this
/-! the worst drift -/
def absI (d : Int) : Int := max d (-d)
def wkP (s t : List VP) (f : Int) : Nat → Nat
  | 0 => 0
  | k + 1 => if absI (drD s t (f + (wkP s t f k : Int))) < absI (drD s t (f + (k : Int))) then k else wkP s t f k
theorem wk_le (s t : List VP) (f : Int) : ∀ k, wkP s t f k ≤ k - 1 ∧ wkP s t f k ≤ k
  | 0 => by simp [wkP]
  | k + 1 => by have := wk_le s t f k; rw [wkP]; split <;> omega
theorem wk_y {s t : List VP} {f : Int} {k : Nat} (h : absI (drD s t (f + (wkP s t f k : Int))) < absI (drD s t (f + (k : Int)))) : wkP s t f (k + 1) = k := by rw [wkP, if_pos h]
theorem wk_n {s t : List VP} {f : Int} {k : Nat} (h : ¬ absI (drD s t (f + (wkP s t f k : Int))) < absI (drD s t (f + (k : Int)))) : wkP s t f (k + 1) = wkP s t f k := by rw [wkP, if_neg h]
theorem wk_1 (s t : List VP) (f : Int) : wkP s t f 1 = 0 := by rw [wkP]; split <;> rfl
theorem wk_max (s t : List VP) (f : Int) : ∀ (k i : Nat), i < k → absI (drD s t (f + (i : Int))) ≤ absI (drD s t (f + (wkP s t f k : Int))) ∧ (i < wkP s t f k → absI (drD s t (f + (i : Int))) < absI (drD s t (f + (wkP s t f k : Int))))
  | k + 1, i, hi => by
    have hle := wk_le s t f k
    by_cases h : absI (drD s t (f + (wkP s t f k : Int))) < absI (drD s t (f + (k : Int)))
    · rw [wk_y h]
      rcases Nat.lt_or_ge i k with h1 | h1
      · have := wk_max s t f k i h1; exact ⟨by omega, fun _ => by omega⟩
      · rw [show i = k by omega]; exact ⟨Int.le_refl _, fun h2 => by omega⟩
    · rw [wk_n h]
      rcases Nat.lt_or_ge i k with h1 | h1
      · exact wk_max s t f k i h1
      · rw [show i = k by omega]; exact ⟨by omega, fun h2 => by omega⟩
def worstV (s t : List VP) : Int × Int × Int :=
  if (bothV s t).2.2 ≠ 0 then (0, 0, (bothV s t).2.2) else
  ((bothV s t).1 + (wkP s t (bothV s t).1 (((bothV s t).2.1 - (bothV s t).1).toNat + 1) : Int), drD s t ((bothV s t).1 + (wkP s t (bothV s t).1 (((bothV s t).2.1 - (bothV s t).1).toNat + 1) : Int)), 0)
theorem wo_bad {s t : List VP} (h : (bothV s t).2.2 ≠ 0) : worstV s t = (0, 0, (bothV s t).2.2) := by unfold worstV; rw [if_pos h]
theorem wo_ok {s t : List VP} {k : Nat} (h : (bothV s t).2.2 = 0) (hk : (k : Int) = (bothV s t).2.1 - (bothV s t).1 + 1) : worstV s t = ((bothV s t).1 + (wkP s t (bothV s t).1 k : Int), drD s t ((bothV s t).1 + (wkP s t (bothV s t).1 k : Int)), 0) := by
  have := (both h).le
  unfold worstV; rw [if_neg (by rw [h]; decide), show ((bothV s t).2.1 - (bothV s t).1).toNat + 1 = k by omega]
theorem wo_code (s t : List VP) : (worstV s t).2.2 = (bothV s t).2.2 := by
  by_cases h : (bothV s t).2.2 = 0
  · unfold worstV; rw [if_neg (by rw [h]; decide), h]
  · rw [wo_bad h]
theorem be_code (s t : List VP) : (bestV s t).2.2 = (bothV s t).2.2 := by
  by_cases h : (bothV s t).2.2 = 0
  · unfold bestV; rw [if_neg (by rw [h]; decide), h]
  · rw [best_bad h]
theorem dr_row {s t : List VP} {k : Nat} (h : (bothV s t).2.2 = 0) (hk : (k : Int) = (bothV s t).2.1 - (bothV s t).1 + 1) : (drV s t).1 = drL s t (bothV s t).1 k ∧ (drV s t).1.length = k ∧ (drV s t).2.1 = (bothV s t).1 := by
  rw [dr_ok h hk]; exact ⟨rfl, drL_len _ _ _ _, rfl⟩
/-! the count on a day, and the drift -/
def conV (l : List VP) (day : Int) : Int × Int := if ¬ (0 ≤ day ∧ day ≤ 100000) then (0, 2) else if (onW l day).2 = false then (0, 6) else ((onW l day).1, 0)
theorem con_2 {l : List VP} {day : Int} (h : ¬ (0 ≤ day ∧ day ≤ 100000)) : conV l day = (0, 2) := by unfold conV; rw [if_pos h]
theorem con_6 {l : List VP} {day : Int} (h : 0 ≤ day ∧ day ≤ 100000) (h1 : (onW l day).2 = false) : conV l day = (0, 6) := by unfold conV; rw [if_neg (not_not_intro h), if_pos h1]
theorem con_0 {l : List VP} {day : Int} (h : 0 ≤ day ∧ day ≤ 100000) (h1 : (onW l day).2 = true) : conV l day = ((onW l day).1, 0) := by unfold conV; rw [if_neg (not_not_intro h), if_neg (by rw [h1]; decide)]
theorem con_6' {l : List VP} {day : Int} (h : 0 ≤ day ∧ day ≤ 100000) (h1 : ¬ Covers l day) : conV l day = (0, 6) := con_6 h (by rw [ow_n h1])
theorem con_0' {l : List VP} {day : Int} (h : 0 ≤ day ∧ day ≤ 100000) (h1 : Covers l day) : conV l day = (onV l day, 0) := by rw [con_0 h (by rw [ow_c h1]), ow_c h1]
theorem con_bd {l : List VP} (h : Tot l) (day : Int) : 0 ≤ (conV l day).1 ∧ (conV l day).1 ≤ 1000000000000 := by
  unfold conV; split
  · exact ⟨by decide, by decide⟩
  · split
    · exact ⟨by decide, by decide⟩
    · exact ow_bd h day
def driV (s t : List VP) (day : Int) : Int × Int := if (conV s day).2 ≠ 0 then (0, (conV s day).2) else if (conV t day).2 ≠ 0 then (0, (conV t day).2) else ((conV s day).1 - (conV t day).1, 0)
theorem dri_1 {s t : List VP} {day : Int} (h : (conV s day).2 ≠ 0) : driV s t day = (0, (conV s day).2) := by unfold driV; rw [if_pos h]
theorem dri_2 {s t : List VP} {day : Int} (h : ¬ (conV s day).2 ≠ 0) (h1 : (conV t day).2 ≠ 0) : driV s t day = (0, (conV t day).2) := by unfold driV; rw [if_neg h, if_pos h1]
theorem dri_0 {s t : List VP} {day : Int} (h : ¬ (conV s day).2 ≠ 0) (h1 : ¬ (conV t day).2 ≠ 0) : driV s t day = ((conV s day).1 - (conV t day).1, 0) := by unfold driV; rw [if_neg h, if_neg h1]
/-- On which days there is a drift. -/
theorem dri_ok {s t : List VP} {day : Int} (h : (driV s t day).2 = 0) : Covers s day ∧ Covers t day ∧ 0 ≤ day ∧ day ≤ 100000 ∧ (driV s t day).1 = drD s t day := by
  have hr : 0 ≤ day ∧ day ≤ 100000 := by
    apply Classical.byContradiction; intro h1
    rw [dri_1 (by rw [con_2 h1]; decide), con_2 h1] at h; cases h
  have hs : Covers s day := by
    apply Classical.byContradiction; intro h1
    rw [dri_1 (by rw [con_6' hr h1]; decide), con_6' hr h1] at h; cases h
  have ht : Covers t day := by
    apply Classical.byContradiction; intro h1
    rw [dri_2 (by rw [con_0' hr hs]; exact fun h => h rfl) (by rw [con_6' hr h1]; decide), con_6' hr h1] at h; cases h
  refine ⟨hs, ht, hr.1, hr.2, ?_⟩
  rw [dri_0 (by rw [con_0' hr hs]; exact fun h => h rfl) (by rw [con_0' hr ht]; exact fun h => h rfl), con_0' hr hs, con_0' hr ht, drD_on hs ht]
theorem dri_yes {s t : List VP} {day : Int} (hr : 0 ≤ day ∧ day ≤ 100000) (hs : Covers s day) (ht : Covers t day) : driV s t day = (drD s t day, 0) := by
  rw [dri_0 (by rw [con_0' hr hs]; exact fun h => h rfl) (by rw [con_0' hr ht]; exact fun h => h rfl), con_0' hr hs, con_0' hr ht, drD_on hs ht]
/-! lists that are small -/
theorem both_small {s t : List VP} (hs : Small s) (ht : Small t) : (bothV s t).2.2 = 0 ∨ (bothV s t).2.2 = 6 := by
  have hv : (validTot s && validTot t) = true := by rw [tot_valid hs.1, tot_valid ht.1]; rfl
  rw [both_ok hv]
  cases he : anyE [⟨none, 0, s⟩, ⟨none, 0, t⟩] with
  | true => right; rw [cv_e he]
  | false =>
    by_cases h1 : lastD [⟨none, 0, s⟩, ⟨none, 0, t⟩] 2 < firstD [⟨none, 0, s⟩, ⟨none, 0, t⟩] 2
    · right; rw [cv_n he h1]
    · have h0 := ae_all he 0 (by simp)
      have l0 := lastD_le (L := [⟨none, 0, s⟩, ⟨none, 0, t⟩]) (k := 2) (i := 0) (by omega)
      have g0 := firstD_0 (L := [⟨none, 0, s⟩, ⟨none, 0, t⟩]) 2
      simp only [List.getD_cons_zero] at h0 l0
      have h2 := hs.2.2 (s.length - 1) (by omega)
      left; rw [cv_o he h1 (by show ¬ 400 < lastD _ 2 - firstD _ 2 + 1; omega)]
theorem both_cov {s t : List VP} (h : (bothV s t).2.2 = 0) {day : Int} (h0 : 0 ≤ day ∧ day ≤ 100000) (hs : Covers s day) (ht : Covers t day) : (bothV s t).1 ≤ day ∧ day ≤ (bothV s t).2.1 := by
  have hB := both h
  have hv : (validTot s && validTot t) = true := by rw [hB.vx, hB.vy]; rfl
  rw [both_ok hv] at h ⊢
  cases he : anyE [⟨none, 0, s⟩, ⟨none, 0, t⟩] with
  | true => rw [cv_e he] at h; cases h
  | false =>
    by_cases h1 : lastD [⟨none, 0, s⟩, ⟨none, 0, t⟩] 2 < firstD [⟨none, 0, s⟩, ⟨none, 0, t⟩] 2
    · rw [cv_n he h1] at h; cases h
    · by_cases h2 : 400 < lastD [⟨none, 0, s⟩, ⟨none, 0, t⟩] 2 - firstD [⟨none, 0, s⟩, ⟨none, 0, t⟩] 2 + 1
      · rw [cv_l he h1 h2] at h; cases h
      · have e := cv_o he h1 h2
        rw [e]
        show firstD _ 2 ≤ day ∧ day ≤ lastD _ 2
        rw [firstD_two, lastD_two]
        have h3 := hs.2.1; have h4 := hs.2.2; have h5 := ht.2.1; have h6 := ht.2.2
        omega
theorem both_hi {s t : List VP} (hs : Small s) (h : (bothV s t).2.2 = 0) : (bothV s t).2.1 ≤ 60 := by
  have hB := both h
  have hc := hB.cx (bothV s t).2.1 hB.le (Int.le_refl _)
  have h1 := hs.2.2 (s.length - 1) (by have := hc.1; omega)
  have := hc.2.2; omega
theorem rd1 {w : World} {A : Option Addr} {c : Nat} {x : List VP} (h1 : Rd w A (x.flatMap encP)) : ∀ k, k < [(⟨A, c, x⟩ : VS)].length → Rd w ([(⟨A, c, x⟩ : VS)].getD k zS).A (([(⟨A, c, x⟩ : VS)].getD k zS).xs.flatMap encP)
  | 0, _ => h1
theorem len1 {A : Option Addr} {c : Nat} {x : List VP} (h1 : x.length ≤ maxLen) : ∀ k, k < [(⟨A, c, x⟩ : VS)].length → ([(⟨A, c, x⟩ : VS)].getD k zS).xs.length ≤ maxLen
  | 0, _ => h1
theorem comV_pair (x y : List VP) : comV (⟨none, 0, x⟩ :: [y].map mkS) = comV [⟨none, 0, x⟩, ⟨none, 0, y⟩] := rfl
theorem av_small {x y : List VP} (hx : Small x) (hy : Small y) : allV x [⟨none, 0, y⟩] = true := by
  refine av_yes (k := 1) rfl (fun i hi => ?_) (tot_valid hy.1)
  obtain rfl : i = 0 := by omega
  exact tot_valid hx.1
theorem leak_small {x y : List VP} (hx : Small x) (hy : Small y) {wn : Int} (hw : 0 ≤ wn ∧ wn ≤ 1000000000000) : (leakV x [y] wn).2 = 0 ∧ ((bothV x y).2.2 = 6 → (leakV x [y] wn).1 = []) := by
  have e0 : leakV x [y] wn = leakV x ([(⟨none, 0, y⟩ : VS)].map (·.xs)) wn := rfl
  have hv : (validTot x && validTot y) = true := by rw [tot_valid hx.1, tot_valid hy.1]; rfl
  have hb := both_small hx hy
  have ha := av_small hx hy
  have h1 : (1 ≤ [(⟨none, 0, y⟩ : VS)].length ∧ [(⟨none, 0, y⟩ : VS)].length ≤ 6) ∧ 0 ≤ wn ∧ wn ≤ 1000000000000 := ⟨by simp, hw⟩
  have eb := both_ok hv
  rw [e0]
  rcases hb with hb | hb
  · have h3 : (comV [⟨none, 0, x⟩, ⟨none, 0, y⟩]).2.2 = 0 := by rw [← eb]; exact hb
    have hc := (both hb).le
    rw [eb] at hc
    rw [lk_0 (A := none) (c := 0) (k := ((comV [⟨none, 0, x⟩, ⟨none, 0, y⟩]).2.1 - (comV [⟨none, 0, x⟩, ⟨none, 0, y⟩]).1).toNat) ha h1 h3 (by omega)]
    exact ⟨rfl, fun h => by rw [hb] at h; cases h⟩
  · have h3 : (comV [⟨none, 0, x⟩, ⟨none, 0, y⟩]).2.2 = 6 := by rw [← eb]; exact hb
    rw [lk_6 (A := none) (c := 0) ha h1 h3]; exact ⟨rfl, fun _ => rfl⟩
theorem leak_self {x : List VP} (hx : Small x) : leakV x [x] 0 = ([], 0) := by
  have h1 := leak_small hx hx (wn := 0) ⟨by decide, by decide⟩
  have key : (leakV x [x] 0).1 = [] := by
    have e0 : leakV x [x] 0 = leakV x ([(⟨none, 0, x⟩ : VS)].map (·.xs)) 0 := rfl
    have hz : ∀ f k, leakL x [⟨none, 0, x⟩] 0 f k = [] := by
      intro f k
      induction k with
      | zero => rfl
      | succ k ih => rw [ll_n (by show ¬ (0 + moreV x _) + 0 < _; omega)]; exact ih
    rw [e0, leak_eq (A := none) (c := 0)]
    split
    · rfl
    · split
      · rfl
      · split
        · rfl
        · split
          · rfl
          · exact hz _ _
  exact Prod.ext key h1.1
/-! what has been seen up to a day -/
def lwV (s t : List VP) (d : Nat) : Int := if (d : Int) ≤ (bothV s t).1 then 0 else loD s t (bothV s t).1 (min ((d : Int) - 1) (bothV s t).2.1 - (bothV s t).1).toNat
def hwV (s t : List VP) (d : Nat) : Int := if (d : Int) ≤ (bothV s t).1 then 0 else hiD s t (bothV s t).1 (min ((d : Int) - 1) (bothV s t).2.1 - (bothV s t).1).toNat
theorem lw_no {s t : List VP} {d : Nat} (h : (bothV s t).2.2 = 0) (hn : (d : Int) < (bothV s t).1 ∨ (bothV s t).2.1 < (d : Int)) : lwV s t (d + 1) = lwV s t d ∧ hwV s t (d + 1) = hwV s t d := by
  have hB := (both h).le
  unfold lwV hwV
  rcases hn with hn | hn
  · rw [if_pos (by omega), if_pos (by omega), if_pos (by omega), if_pos (by omega)]; exact ⟨rfl, rfl⟩
  · rw [if_neg (by omega), if_neg (by omega), if_neg (by omega), if_neg (by omega), show min (((d + 1 : Nat) : Int) - 1) (bothV s t).2.1 = (bothV s t).2.1 by omega]
    by_cases h2 : (d : Int) - 1 < (bothV s t).2.1
    · omega
    · rw [show min ((d : Int) - 1) (bothV s t).2.1 = (bothV s t).2.1 by omega]; exact ⟨rfl, rfl⟩
theorem lw_first {s t : List VP} {d : Nat} (h : (bothV s t).2.2 = 0) (hd : (d : Int) = (bothV s t).1) : lwV s t (d + 1) = drD s t d ∧ hwV s t (d + 1) = drD s t d := by
  have hB := (both h).le
  unfold lwV hwV
  rw [if_neg (by omega), if_neg (by omega), show (min (((d + 1 : Nat) : Int) - 1) (bothV s t).2.1 - (bothV s t).1).toNat = 0 by omega, ← hd]; exact ⟨rfl, rfl⟩
theorem lw_step {s t : List VP} {d : Nat} (h : (bothV s t).2.2 = 0) (hd : (bothV s t).1 < (d : Int)) (hd2 : (d : Int) ≤ (bothV s t).2.1) : lwV s t (d + 1) = min (lwV s t d) (drD s t d) ∧ hwV s t (d + 1) = max (hwV s t d) (drD s t d) := by
  obtain ⟨k, hk⟩ : ∃ k : Nat, (d : Int) = (bothV s t).1 + ((k : Int) + 1) := ⟨((d : Int) - (bothV s t).1 - 1).toNat, by omega⟩
  unfold lwV hwV
  rw [if_neg (by omega), if_neg (by omega), if_neg (by omega), if_neg (by omega), show (min (((d + 1 : Nat) : Int) - 1) (bothV s t).2.1 - (bothV s t).1).toNat = k + 1 by omega, show (min ((d : Int) - 1) (bothV s t).2.1 - (bothV s t).1).toNat = k by omega, loD, hiD, hk]
  exact ⟨rfl, rfl⟩
theorem lo_hi (s t : List VP) (f : Int) : ∀ k, loD s t f k ≤ hiD s t f k
  | 0 => Int.le_refl _
  | k + 1 => by have := lo_hi s t f k; rw [loD, hiD]; omega
/-- What the end of the days tells. -/
theorem lw_end {s t : List VP} (hs : Small s) (h : (bothV s t).2.2 = 0) : lwV s t 61 ≤ hwV s t 61 ∧ (bestV s t).1 = (lwV s t 61 + hwV s t 61) / 2 ∧ (bestV s t).2.1 = max (hwV s t 61 - (lwV s t 61 + hwV s t 61) / 2) ((lwV s t 61 + hwV s t 61) / 2 - lwV s t 61) ∧ -1000000000000 ≤ lwV s t 61 ∧ hwV s t 61 ≤ 1000000000000 ∧ (bothV s t).1 < 61 := by
  have hB := both h
  have hle := hB.le
  have hhi := both_hi hs h
  obtain ⟨k, hk⟩ : ∃ k : Nat, (k : Int) = (bothV s t).2.1 - (bothV s t).1 := ⟨((bothV s t).2.1 - (bothV s t).1).toNat, by omega⟩
  have e1 : lwV s t 61 = loD s t (bothV s t).1 k := by unfold lwV; rw [if_neg (by omega), show (min (((61 : Nat) : Int) - 1) (bothV s t).2.1 - (bothV s t).1).toNat = k by omega]
  have e2 : hwV s t 61 = hiD s t (bothV s t).1 k := by unfold hwV; rw [if_neg (by omega), show (min (((61 : Nat) : Int) - 1) (bothV s t).2.1 - (bothV s t).1).toNat = k by omega]
  have hb := best_ok h hk
  rw [e1, e2, hb]
  exact ⟨lo_hi _ _ _ _, rfl, rfl, (loD_bd hB k (by omega)).1, (hiD_bd hB k (by omega)).2, by omega⟩
theorem worst_of {s t : List VP} (h : (bothV s t).2.2 = 0) {day : Int} (h1 : (bothV s t).1 ≤ day) (h2 : day ≤ (bothV s t).2.1) : absI (drD s t day) ≤ absI (worstV s t).2.1 ∧ (day = (worstV s t).1 → drD s t day = (worstV s t).2.1) ∧ (day < (worstV s t).1 → absI (drD s t day) < absI (worstV s t).2.1) := by
  obtain ⟨k, hk⟩ : ∃ k : Nat, (k : Int) = (bothV s t).2.1 - (bothV s t).1 + 1 := ⟨((bothV s t).2.1 - (bothV s t).1 + 1).toNat, by omega⟩
  obtain ⟨i, rfl⟩ : ∃ i : Nat, day = (bothV s t).1 + (i : Int) := ⟨(day - (bothV s t).1).toNat, by omega⟩
  rw [wo_ok h hk]
  have hm := wk_max s t (bothV s t).1 k i (by omega)
  exact ⟨hm.1, fun e => by dsimp only at e ⊢; rw [e], fun e => hm.2 (by dsimp only at e; omega)⟩
theorem dr_el {s t : List VP} (h : (bothV s t).2.2 = 0) : (drV s t).2.1 = (bothV s t).1 ∧ (((drV s t).1.length : Nat) : Int) = (bothV s t).2.1 - (bothV s t).1 + 1 ∧ ∀ i, i < (drV s t).1.length → (drV s t).1.getD i 0 = drD s t ((drV s t).2.1 + (i : Int)) ∧ -1000000000000 ≤ (drV s t).1.getD i 0 ∧ (drV s t).1.getD i 0 ≤ 1000000000000 := by
  have hB := both h
  have hle := hB.le
  obtain ⟨k, hk⟩ : ∃ k : Nat, (k : Int) = (bothV s t).2.1 - (bothV s t).1 + 1 := ⟨((bothV s t).2.1 - (bothV s t).1 + 1).toNat, by omega⟩
  obtain ⟨e1, e2, e3⟩ := dr_row h hk
  refine ⟨e3, by rw [e2, hk], fun i hi => ?_⟩
  rw [e2] at hi
  rw [e3, e1, drL_at hi]
  exact ⟨rfl, drD_bd hB (by omega) (by omega)⟩
theorem worst_row {s t : List VP} {k : Nat} (h : (bothV s t).2.2 = 0) (hk : k = (drV s t).1.length) : worstV s t = ((drV s t).2.1 + (wkP s t (drV s t).2.1 k : Int), (drV s t).1.getD (wkP s t (drV s t).2.1 k) 0, 0) := by
  have hB := (both h).le
  obtain ⟨h1, h2, h3⟩ := dr_el h
  subst hk
  have hw := wk_le s t (drV s t).2.1 (drV s t).1.length
  rw [(h3 _ (by omega)).1, h1]
  exact wo_ok h h2
theorem ow_dec {l : List VP} {day : Int} : (onW l day).2 = decide (0 < l.length ∧ (l.getD 0 zP).a ≤ day ∧ day ≤ (l.getD (l.length - 1) zP).a) := by
  unfold onW; split
  · rename_i h; exact (decide_eq_true h).symm
  · rename_i h; exact (decide_eq_false h).symm
theorem cov_of {l : List VP} {day : Int} (h : (onW l day).2 = true) : Covers l day := by rw [ow_dec, decide_eq_true_iff] at h; exact h
theorem dri_code {s t : List VP} {day : Int} : (conV s day).2 = 0 → (conV t day).2 = 0 → driV s t day = ((conV s day).1 - (conV t day).1, 0) := fun h h1 => dri_0 (by omega) (by omega)
theorem dri_bd {s t : List VP} (hs : Tot s) (ht : Tot t) (day : Int) : -1000000000000 ≤ (driV s t day).1 ∧ (driV s t day).1 ≤ 1000000000000 := by
  have h1 := con_bd hs day
  have h2 := con_bd ht day
  unfold driV
  split
  · dsimp only; omega
  · split
    · dsimp only; omega
    · dsimp only; omega
/-- What a day tells, whether there is a drift or not. -/
theorem day_no {s t : List VP} (h : (bothV s t).2.2 = 0) {day : Int} (h0 : 0 ≤ day ∧ day ≤ 100000) (hn : (driV s t day).2 ≠ 0) : day < (bothV s t).1 ∨ (bothV s t).2.1 < day := by
  have hB := both h
  apply Classical.byContradiction
  intro hc
  rw [dri_yes h0 (hB.cx day (by omega) (by omega)) (hB.cy day (by omega) (by omega))] at hn
  exact hn rfl
theorem day_yes {s t : List VP} (h : (bothV s t).2.2 = 0) {day : Int} (hd : (driV s t day).2 = 0) : (bothV s t).1 ≤ day ∧ day ≤ (bothV s t).2.1 ∧ (driV s t day).1 = drD s t day
    ∧ max (driV s t day).1 (-(driV s t day).1) ≤ max (worstV s t).2.1 (-(worstV s t).2.1) ∧ (day = (worstV s t).1 → (driV s t day).1 = (worstV s t).2.1) ∧ (day < (worstV s t).1 → max (driV s t day).1 (-(driV s t day).1) < max (worstV s t).2.1 (-(worstV s t).2.1)) := by
  obtain ⟨h1, h2, h3, h4, h5⟩ := dri_ok hd
  have hc := both_cov h ⟨h3, h4⟩ h1 h2
  have hw := worst_of h hc.1 hc.2
  rw [h5]
  exact ⟨hc.1, hc.2, rfl, hw.1, hw.2.1, hw.2.2⟩
theorem worst_bd {s t : List VP} (h : (bothV s t).2.2 = 0) : -1000000000000 ≤ (worstV s t).2.1 ∧ (worstV s t).2.1 ≤ 1000000000000 := by
  have hB := both h
  have hle := hB.le
  obtain ⟨k, hk⟩ : ∃ k : Nat, (k : Int) = (bothV s t).2.1 - (bothV s t).1 + 1 := ⟨((bothV s t).2.1 - (bothV s t).1 + 1).toNat, by omega⟩
  have hw := wk_le s t (bothV s t).1 k
  rw [wo_ok h hk]
  exact drD_bd hB (by omega) (by omega)
theorem leak_six {x y : List VP} (hx : Small x) (hy : Small y) {wn : Int} (hw : 0 ≤ wn ∧ wn ≤ 1000000000000) : (bothV x y).2.2 = 6 → (leakV x [y] wn).1.length = 0 := fun h => by rw [(leak_small hx hy hw).2 h]; rfl
theorem leak_selfs {x : List VP} (hx : Small x) : (leakV x [x] 0).2 = 0 ∧ (leakV x [x] 0).1.length = 0 := by rw [leak_self hx]; exact ⟨rfl, rfl⟩
end Go.W
