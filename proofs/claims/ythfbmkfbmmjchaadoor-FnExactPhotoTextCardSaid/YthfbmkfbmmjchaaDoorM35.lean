/- Films: photos in a row, and the ways through them; in plain numbers. -/
import Derived.Test.YthfbmkfbmmjchaaDoorM34
set_option linter.unusedVariables false
set_option linter.unusedSimpArgs false
namespace Go.W
open Go Go.Sx
def filmL (s : List Int) (L : List VPh) : List (List Int) := L.map (valsP s)
def filmF (s : List Int) (L : List VPh) (k : Nat) : List Int := (filmL s L).getD k []
def badP (s : List Int) (L : List VPh) : Bool := L.any fun p => !photoOk s p.l
def manyP (s : List Int) (L : List VPh) : Bool := L.any fun p => decide (400 < choV p.l s.length)
def codeF (s : List Int) (L : List VPh) (lo hi us : Int) : Int :=
  if (validStack s && !badP s L) = false then 1
  else if ¬ ((1 ≤ L.length ∧ L.length ≤ 20) ∧ 0 ≤ lo ∧ lo ≤ hi ∧ hi ≤ 1000000000000 ∧ lo ≤ us ∧ us ≤ hi) then 2
  else if manyP s L = true then 3 else 0
theorem cf_1 {s : List Int} {L : List VPh} {lo hi us : Int} (h : (validStack s && !badP s L) = false) : codeF s L lo hi us = 1 := by unfold codeF; rw [if_pos h]
theorem cf_2 {s : List Int} {L : List VPh} {lo hi us : Int} (h : (validStack s && !badP s L) = true) (h2 : ¬ ((1 ≤ L.length ∧ L.length ≤ 20) ∧ 0 ≤ lo ∧ lo ≤ hi ∧ hi ≤ 1000000000000 ∧ lo ≤ us ∧ us ≤ hi)) : codeF s L lo hi us = 2 := by
  unfold codeF; rw [if_neg (by rw [h]; decide), if_pos h2]
theorem cf_3 {s : List Int} {L : List VPh} {lo hi us : Int} (h : (validStack s && !badP s L) = true) (h2 : (1 ≤ L.length ∧ L.length ≤ 20) ∧ 0 ≤ lo ∧ lo ≤ hi ∧ hi ≤ 1000000000000 ∧ lo ≤ us ∧ us ≤ hi) (h3 : manyP s L = true) : codeF s L lo hi us = 3 := by
  unfold codeF; rw [if_neg (by rw [h]; decide), if_neg (fun h9 => h9 h2), if_pos h3]
theorem cf_0 {s : List Int} {L : List VPh} {lo hi us : Int} (h : (validStack s && !badP s L) = true) (h2 : (1 ≤ L.length ∧ L.length ≤ 20) ∧ 0 ≤ lo ∧ lo ≤ hi ∧ hi ≤ 1000000000000 ∧ lo ≤ us ∧ us ≤ hi) (h3 : manyP s L = false) : codeF s L lo hi us = 0 := by
  unfold codeF; rw [if_neg (by rw [h]; decide), if_neg (fun h9 => h9 h2), if_neg (by rw [h3]; decide)]
theorem any_no {α : Type} {L : List α} {p : α → Bool} {d : α} {k : Nat} (hk : ¬ k < L.length) (h : ∀ i, i < k → p (L.getD i d) = false) : L.any p = false := by
  rw [List.any_eq_false]
  intro x hx
  obtain ⟨i, hi, rfl⟩ := List.getElem_of_mem hx
  have := h i (by omega)
  simpa [List.getD, hi] using this
theorem any_yes {α : Type} {L : List α} {p : α → Bool} {d : α} {k : Nat} (hk : k < L.length) (h : p (L.getD k d) = true) : L.any p = true := by
  rw [List.any_eq_true]; exact ⟨_, getD_mem d hk, h⟩
theorem any_at {α : Type} {L : List α} {p : α → Bool} {d : α} {k : Nat} (h : L.any p = false) (hk : k < L.length) : p (L.getD k d) = false := by
  rw [List.any_eq_false] at h
  have := h _ (getD_mem d hk)
  simpa using this
/-- What holds of a film whose code is 0. -/
structure Film (s : List Int) (L : List VPh) (lo hi us : Int) : Prop where
  vs : validStack s = true
  st : Stk s
  ok : ∀ k, k < L.length → PhOk s (L.getD k zPh).l
  len : 1 ≤ L.length ∧ L.length ≤ 20
  l0 : 0 ≤ lo
  le : lo ≤ hi
  h1 : hi ≤ 1000000000000
  us0 : lo ≤ us ∧ us ≤ hi
  cho : ∀ k, k < L.length → 1 ≤ choV (L.getD k zPh).l s.length ∧ choV (L.getD k zPh).l s.length ≤ 400
theorem okPs {s : List Int} {L : List VPh} (hL : ∀ p ∈ L, OkPh p) (h : (validStack s && !badP s L) = true) {k : Nat} (hk : k < L.length) : PhOk s (L.getD k zPh).l := by
  rw [Bool.and_eq_true, Bool.not_eq_true'] at h
  have := any_at (d := zPh) h.2 hk
  rw [Bool.not_eq_false'] at this
  exact phOk (stk h.1) (hL _ (getD_mem zPh hk)) this
theorem film {s : List Int} {L : List VPh} {lo hi us : Int} (hL : ∀ p ∈ L, OkPh p) (h : codeF s L lo hi us = 0) : Film s L lo hi us := by
  cases h1 : (validStack s && !badP s L) with
  | false => rw [cf_1 h1] at h; cases h
  | true =>
    by_cases h2 : (1 ≤ L.length ∧ L.length ≤ 20) ∧ 0 ≤ lo ∧ lo ≤ hi ∧ hi ≤ 1000000000000 ∧ lo ≤ us ∧ us ≤ hi
    · cases h3 : manyP s L with
      | true => rw [cf_3 h1 h2 h3] at h; cases h
      | false =>
        have hv : validStack s = true := by rw [Bool.and_eq_true] at h1; exact h1.1
        have hS := stk hv
        have hP := fun k hk => okPs hL h1 (k := k) hk
        refine ⟨hv, hS, hP, h2.1, h2.2.1, h2.2.2.1, h2.2.2.2.1, h2.2.2.2.2, fun k hk => ⟨(cho_le (hP k hk) hS (Nat.le_refl _)).1, ?_⟩⟩
        have := any_at (d := zPh) h3 hk
        rw [decide_eq_false_iff_not] at this
        omega
    · rw [cf_2 h1 h2] at h; cases h
/-! values of a film -/
theorem film_at {s : List Int} {L : List VPh} {k : Nat} (hk : k < L.length) : filmF s L k = valsP s (L.getD k zPh) := by
  simp [filmF, filmL, List.getD, hk]
theorem Film.vlen {s : List Int} {L : List VPh} {lo hi us : Int} (h : Film s L lo hi us) {k : Nat} (hk : k < L.length) : 1 ≤ (filmF s L k).length ∧ (filmF s L k).length ≤ 400 := by
  rw [film_at hk]
  have h1 := valsP_len s (L.getD k zPh)
  have h2 := h.cho k hk
  omega
theorem Film.v {s : List Int} {L : List VPh} {lo hi us : Int} (h : Film s L lo hi us) {k : Nat} (hk : k < L.length) (q : Nat) : 0 ≤ (filmF s L k).getD q 0 ∧ (filmF s L k).getD q 0 < 1000000000000 := by
  rw [film_at hk]; exact valW_at (h.ok k hk) h.st (Nat.le_refl _) q
def goesB (lo hi a b : Int) : Bool := decide (lo ≤ b - a ∧ b - a ≤ hi)
/-! how many ways -/
def sumT (l : List Int) : Nat → Int
  | 0 => 0
  | k + 1 => sumT l k + l.getD k 0
def wSum (lo hi : Int) (pv b : List Int) (v : Int) : Nat → Int
  | 0 => 0
  | j + 1 => wSum lo hi pv b v j + if goesB lo hi (pv.getD j 0) v = true then b.getD j 0 else 0
def wayL (lo hi : Int) (F : Nat → List Int) : Nat → List Int
  | 0 => (F 0).map fun _ => 1
  | k + 1 => (F (k + 1)).map fun v => wSum lo hi (F k) (wayL lo hi F k) v (F k).length
def wTot (lo hi : Int) (F : Nat → List Int) (k : Nat) : Int := sumT (wayL lo hi F k) (F k).length
def wOver (lo hi : Int) (F : Nat → List Int) (k : Nat) : Bool := decide (1000000000000000 < wTot lo hi F k)
def waysV (s : List Int) (L : List VPh) (lo hi : Int) : Int × Int :=
  if codeF s L lo hi lo ≠ 0 then (0, codeF s L lo hi lo)
  else if (List.range L.length).any (wOver lo hi (filmF s L)) = true then (0, 3) else (wTot lo hi (filmF s L) (L.length - 1), 0)
theorem way_len (lo hi : Int) (F : Nat → List Int) : ∀ k, (wayL lo hi F k).length = (F k).length
  | 0 => by simp [wayL]
  | k + 1 => by simp [wayL]
theorem way_0 {lo hi : Int} {F : Nat → List Int} {i : Nat} (h : i < (F 0).length) : (wayL lo hi F 0).getD i 0 = 1 := by
  rw [wayL]; generalize F 0 = l at h; simp [List.getD, h]
theorem way_s {lo hi : Int} {F : Nat → List Int} {k i : Nat} (h : i < (F (k + 1)).length) : (wayL lo hi F (k + 1)).getD i 0 = wSum lo hi (F k) (wayL lo hi F k) ((F (k + 1)).getD i 0) (F k).length := by
  rw [wayL]; generalize F (k + 1) = l at h; simp [List.getD, h]
theorem sumT_0 {l : List Int} (h : ∀ i, 0 ≤ l.getD i 0) : ∀ k, 0 ≤ sumT l k
  | 0 => by simp [sumT]
  | k + 1 => by rw [sumT]; have := sumT_0 h k; have := h k; omega
theorem sumT_mono {l : List Int} (h : ∀ i, 0 ≤ l.getD i 0) {i j : Nat} (hij : i ≤ j) : sumT l i ≤ sumT l j := by
  induction hij with
  | refl => omega
  | step _ ih => rw [sumT]; have := h; rename_i m _; have := h m; omega
theorem wSum_bd {lo hi v : Int} {pv b : List Int} (h : ∀ i, 0 ≤ b.getD i 0) : ∀ k, 0 ≤ wSum lo hi pv b v k ∧ wSum lo hi pv b v k ≤ sumT b k
  | 0 => by simp [wSum, sumT]
  | k + 1 => by
    have h1 := wSum_bd (lo := lo) (hi := hi) (v := v) (pv := pv) h k
    have h2 := h k
    rw [wSum, sumT]; split <;> omega
theorem wSum_mono {lo hi v : Int} {pv b : List Int} (h : ∀ i, 0 ≤ b.getD i 0) {i j : Nat} (hij : i ≤ j) : wSum lo hi pv b v i ≤ wSum lo hi pv b v j := by
  induction hij with
  | refl => omega
  | step _ ih => rw [wSum]; rename_i m _; have := h m; split <;> omega
theorem way_nn (lo hi : Int) (F : Nat → List Int) : ∀ k i, 0 ≤ (wayL lo hi F k).getD i 0
  | 0, i => by
    rcases Nat.lt_or_ge i (F 0).length with h | h
    · rw [way_0 h]; omega
    · rw [List.getD, List.getElem?_eq_none (by rw [way_len]; exact h)]; simp
  | k + 1, i => by
    rcases Nat.lt_or_ge i (F (k + 1)).length with h | h
    · rw [way_s h]; exact (wSum_bd (way_nn lo hi F k) _).1
    · rw [List.getD, List.getElem?_eq_none (by rw [way_len]; exact h)]; simp
theorem way_le {lo hi : Int} {F : Nat → List Int} {k : Nat} (h : ∀ i, i < k → wOver lo hi F i = false) (i : Nat) : (wayL lo hi F k).getD i 0 ≤ 1000000000000000 := by
  rcases Nat.lt_or_ge i (F k).length with hi2 | hi2
  · match k with
    | 0 => rw [way_0 hi2]; omega
    | k + 1 =>
      rw [way_s hi2]
      have h1 := (wSum_bd (lo := lo) (hi := hi) (v := (F (k + 1)).getD i 0) (pv := F k) (way_nn lo hi F k) (F k).length).2
      have h2 := h k (by omega)
      unfold wOver wTot at h2
      rw [decide_eq_false_iff_not] at h2
      omega
  · rw [List.getD, List.getElem?_eq_none (by rw [way_len]; exact hi2)]; simp
theorem sumT_le {l : List Int} {B : Int} (h : ∀ i, l.getD i 0 ≤ B) : ∀ k : Nat, sumT l k ≤ B * k
  | 0 => by simp [sumT]
  | k + 1 => by rw [sumT]; have := sumT_le h k; have := h k; push_cast; rw [Int.mul_add]; omega
theorem wv_c {s : List Int} {L : List VPh} {lo hi : Int} (h : codeF s L lo hi lo ≠ 0) : waysV s L lo hi = (0, codeF s L lo hi lo) := by unfold waysV; rw [if_pos h]
theorem wv_3 {s : List Int} {L : List VPh} {lo hi : Int} {k i : Nat} (h : codeF s L lo hi lo = 0) (hk : k < L.length) (hi2 : i ≤ (filmF s L k).length) (ho : 1000000000000000 < sumT (wayL lo hi (filmF s L) k) i) : waysV s L lo hi = (0, 3) := by
  have h2 : wOver lo hi (filmF s L) k = true := by
    unfold wOver wTot
    rw [decide_eq_true_iff]
    have := sumT_mono (way_nn lo hi (filmF s L) k) hi2
    omega
  unfold waysV
  rw [if_neg (fun h9 => h9 h), if_pos (List.any_eq_true.2 ⟨k, by simpa using hk, h2⟩)]
theorem wv_0 {s : List Int} {L : List VPh} {lo hi : Int} (h : codeF s L lo hi lo = 0) (hall : ∀ i, i < L.length → wOver lo hi (filmF s L) i = false) : waysV s L lo hi = (wTot lo hi (filmF s L) (L.length - 1), 0) := by
  unfold waysV
  rw [if_neg (fun h9 => h9 h), if_neg (by rw [Bool.not_eq_true, List.any_eq_false]; intro x hx; rw [hall x (by simpa using hx)]; decide)]
/-! a way that is given -/
def wayOk (lo hi : Int) (F : Nat → List Int) (v : List Int) (k : Nat) : Bool := (F k).contains (v.getD k 0) && (decide (k = 0) || goesB lo hi (v.getD (k - 1) 0) (v.getD k 0))
def checkV (s : List Int) (L : List VPh) (v : List Int) (lo hi : Int) : Bool × Int :=
  if codeF s L lo hi lo ≠ 0 then (false, codeF s L lo hi lo) else (decide (v.length = L.length) && (List.range L.length).all (wayOk lo hi (filmF s L) v), 0)
theorem ck_c {s : List Int} {L : List VPh} {v : List Int} {lo hi : Int} (h : codeF s L lo hi lo ≠ 0) : checkV s L v lo hi = (false, codeF s L lo hi lo) := by unfold checkV; rw [if_pos h]
theorem ck_l {s : List Int} {L : List VPh} {v : List Int} {lo hi : Int} (h : codeF s L lo hi lo = 0) (hl : ¬ v.length = L.length) : checkV s L v lo hi = (false, 0) := by unfold checkV; rw [if_neg (fun h9 => h9 h), decide_eq_false hl]; rfl
theorem ck_n {s : List Int} {L : List VPh} {v : List Int} {lo hi : Int} {k : Nat} (h : codeF s L lo hi lo = 0) (hk : k < L.length) (hw : wayOk lo hi (filmF s L) v k = false) : checkV s L v lo hi = (false, 0) := by
  unfold checkV
  have : (List.range L.length).all (wayOk lo hi (filmF s L) v) = false := by
    rw [← Bool.not_eq_true, List.all_eq_true]; intro h9; rw [h9 k (by simpa using hk)] at hw; cases hw
  rw [if_neg (fun h9 => h9 h), this, Bool.and_false]
theorem ck_y {s : List Int} {L : List VPh} {v : List Int} {lo hi : Int} (h : codeF s L lo hi lo = 0) (hl : v.length = L.length) (hall : ∀ i, i < L.length → wayOk lo hi (filmF s L) v i = true) : checkV s L v lo hi = (true, 0) := by
  unfold checkV
  have : (List.range L.length).all (wayOk lo hi (filmF s L) v) = true := by rw [List.all_eq_true]; intro x hx; exact hall x (by simpa using hx)
  rw [if_neg (fun h9 => h9 h), this, decide_eq_true hl]; rfl
/-! what can be reached -/
def reachA (lo hi : Int) (pv : List Int) (b : List Bool) (v : Int) (j : Nat) : Bool := (List.range j).any fun i => b.getD i false && goesB lo hi (pv.getD i 0) v
def reachL (lo hi : Int) (F : Nat → List Int) : Nat → List Bool
  | 0 => (F 0).map fun _ => true
  | k + 1 => (F (k + 1)).map fun v => reachA lo hi (F k) (reachL lo hi F k) v (F k).length
theorem ra_0 (lo hi : Int) (pv : List Int) (b : List Bool) (v : Int) : reachA lo hi pv b v 0 = false := rfl
theorem ra_s (lo hi : Int) (pv : List Int) (b : List Bool) (v : Int) (j : Nat) : reachA lo hi pv b v (j + 1) = (reachA lo hi pv b v j || (b.getD j false && goesB lo hi (pv.getD j 0) v)) := by
  unfold reachA; rw [List.range_succ, List.any_append]; simp
theorem ra_true {lo hi : Int} {pv : List Int} {b : List Bool} {v : Int} {i j : Nat} (h : reachA lo hi pv b v i = true) (hij : i ≤ j) : reachA lo hi pv b v j = true := by
  unfold reachA at h ⊢
  rw [List.any_eq_true] at h ⊢
  obtain ⟨x, hx, h⟩ := h
  exact ⟨x, by simp at hx ⊢; omega, h⟩
theorem reach_len (lo hi : Int) (F : Nat → List Int) : ∀ k, (reachL lo hi F k).length = (F k).length
  | 0 => by simp [reachL]
  | k + 1 => by simp [reachL]
theorem reach_0 {lo hi : Int} {F : Nat → List Int} {i : Nat} (h : i < (F 0).length) : (reachL lo hi F 0).getD i false = true := by
  rw [reachL]; generalize F 0 = l at h; simp [List.getD, h]
theorem reach_s {lo hi : Int} {F : Nat → List Int} {k i : Nat} (h : i < (F (k + 1)).length) : (reachL lo hi F (k + 1)).getD i false = reachA lo hi (F k) (reachL lo hi F k) ((F (k + 1)).getD i 0) (F k).length := by
  rw [reachL]; generalize F (k + 1) = l at h; simp [List.getD, h]
def stuckI (lo hi : Int) (F : Nat → List Int) (n : Nat) : Option Nat := (List.range n).find? fun k => !(reachL lo hi F k).any id
def stuckV (s : List Int) (L : List VPh) (lo hi : Int) : Int × Int :=
  if codeF s L lo hi lo ≠ 0 then (0, codeF s L lo hi lo) else match stuckI lo hi (filmF s L) L.length with
  | some k => ((k : Int), 0)
  | none => (0, 6)
theorem sv_c {s : List Int} {L : List VPh} {lo hi : Int} (h : codeF s L lo hi lo ≠ 0) : stuckV s L lo hi = (0, codeF s L lo hi lo) := by unfold stuckV; rw [if_pos h]
theorem sv_y {s : List Int} {L : List VPh} {lo hi : Int} {k : Nat} (h : codeF s L lo hi lo = 0) (hk : k < L.length) (hall : ∀ i, i < k → (reachL lo hi (filmF s L) i).any id = true) (hn : (reachL lo hi (filmF s L) k).any id = false) : stuckV s L lo hi = ((k : Int), 0) := by
  have : stuckI lo hi (filmF s L) L.length = some k := by
    unfold stuckI
    rw [List.find?_range_eq_some]
    refine ⟨by rw [hn]; rfl, by simpa using hk, fun j hj => by rw [hall j hj]; rfl⟩
  unfold stuckV
  rw [if_neg (fun h9 => h9 h), this]
theorem sv_n {s : List Int} {L : List VPh} {lo hi : Int} (h : codeF s L lo hi lo = 0) (hall : ∀ i, i < L.length → (reachL lo hi (filmF s L) i).any id = true) : stuckV s L lo hi = (0, 6) := by
  have : stuckI lo hi (filmF s L) L.length = none := by
    unfold stuckI
    rw [List.find?_eq_none]
    intro x hx
    rw [hall x (by simpa using hx)]; decide
  unfold stuckV
  rw [if_neg (fun h9 => h9 h), this]
end Go.W
