/- Readings and totals in plain numbers. -/
import Derived.Test.YthfbmkfbmmjchaaDoorM10
set_option linter.unusedVariables false
set_option linter.unusedSimpArgs false
namespace Go.W
open Go Go.Sx
structure VP where
  a : Int
  b : Int
def encP (p : VP) : List Value := [.int .i64 p.a, .int .i64 p.b]
theorem encP_len : ∀ p, (encP p).length = 2 := fun _ => rfl
def zP : VP := ⟨0, 0⟩
def OkP (p : VP) : Prop := I64 p.a ∧ I64 p.b
def sameP (x y : VP) : Bool := decide (x.a = y.a ∧ x.b = y.b)
theorem sameP_refl (x : VP) : sameP x x = true := by simp [sameP]
theorem samePs_refl (s : List VP) : allEq sameP zP s s = true := allEq_refl sameP_refl _ _
def mkP (n : Nat) (k : Int) : List VP := (List.range n).map fun (i : Nat) => ⟨k + 2 * (i : Int), k + 2 * (i : Int) + 1⟩
theorem mkP_len (n : Nat) (k : Int) : (mkP n k).length = n := by simp [mkP]
theorem mkP_at {n : Nat} {k : Int} {i : Nat} (h : i < n) : (mkP n k).getD i zP = ⟨k + 2 * (i : Int), k + 2 * (i : Int) + 1⟩ := by simp [mkP, List.getD, h]
theorem mkP_cell {n : Nat} {k : Int} {i j : Nat} (h : i < n) (hj : j < 2) : ((mkP n k).flatMap encP)[i * 2 + j]? = (encP ⟨k + 2 * (i : Int), k + 2 * (i : Int) + 1⟩)[j]? := by
  rw [← mkP_at h]
  exact flat_get encP_len zP _ _ _ (by rw [mkP_len]; exact h) hj
/-! totals -/
def okT (l : List VP) (i : Nat) : Bool := decide (0 ≤ (l.getD i zP).a ∧ (l.getD i zP).a ≤ 100000 ∧ 0 ≤ (l.getD i zP).b ∧ (l.getD i zP).b ≤ 1000000000000 ∧ (0 < i → (l.getD (i - 1) zP).a < (l.getD i zP).a ∧ (l.getD (i - 1) zP).b ≤ (l.getD i zP).b))
def validTot (l : List VP) : Bool := decide (l.length ≤ 60) && (List.range l.length).all (okT l)
theorem vt_long {l : List VP} (h : ¬ l.length ≤ 60) : false = validTot l := by unfold validTot; rw [decide_eq_false h]; rfl
theorem vt_bad {l : List VP} {k : Nat} (hk : k < l.length) (h : okT l k = false) : false = validTot l := by
  unfold validTot; symm; rw [Bool.and_eq_false_iff]; right
  rw [List.all_eq_false]; exact ⟨k, by simpa using hk, by simp [h]⟩
theorem vt_yes {l : List VP} {k : Nat} (h : l.length ≤ 60) (hk : ¬ k < l.length) (hall : ∀ i, i < k → okT l i = true) : true = validTot l := by
  unfold validTot; rw [decide_eq_true h, Bool.true_and]; symm; rw [List.all_eq_true]; intro i hi; exact hall i (by simp at hi; omega)
structure Tot (l : List VP) : Prop where
  len : l.length ≤ 60
  day : ∀ i, i < l.length → 0 ≤ (l.getD i zP).a ∧ (l.getD i zP).a ≤ 100000
  cnt : ∀ i, i < l.length → 0 ≤ (l.getD i zP).b ∧ (l.getD i zP).b ≤ 1000000000000
  up : ∀ i, i + 1 < l.length → (l.getD i zP).a < (l.getD (i + 1) zP).a ∧ (l.getD i zP).b ≤ (l.getD (i + 1) zP).b
theorem tot {l : List VP} (h : validTot l = true) : Tot l := by
  unfold validTot at h
  rw [Bool.and_eq_true, decide_eq_true_iff, List.all_eq_true] at h
  have hk : ∀ i, i < l.length → _ := fun i hi => of_decide_eq_true (h.2 i (by simpa using hi))
  exact ⟨h.1, fun i hi => ⟨(hk i hi).1, (hk i hi).2.1⟩, fun i hi => ⟨(hk i hi).2.2.1, (hk i hi).2.2.2.1⟩, fun i hi => by have := (hk (i + 1) hi).2.2.2.2 (by omega); simpa using this⟩
theorem Tot.lt {l : List VP} (h : Tot l) {i : Nat} : ∀ {j : Nat}, i < j → j < l.length → (l.getD i zP).a < (l.getD j zP).a ∧ (l.getD i zP).b ≤ (l.getD j zP).b
  | j + 1, hij, hj => by
    have h1 := h.up j hj
    rcases Nat.lt_or_ge i j with h2 | h2
    · have h3 := h.lt h2 (by omega)
      omega
    · rw [show i = j by omega]; exact h1
theorem ok_t {l : List VP} {i : Nat} (h1 : 0 ≤ (l.getD i zP).a ∧ (l.getD i zP).a ≤ 100000) (h2 : 0 ≤ (l.getD i zP).b ∧ (l.getD i zP).b ≤ 1000000000000) (h3 : 0 < i → (l.getD (i - 1) zP).a < (l.getD i zP).a ∧ (l.getD (i - 1) zP).b ≤ (l.getD i zP).b) : okT l i = true := by
  unfold okT; rw [decide_eq_true_iff]; exact ⟨h1.1, h1.2, h2.1, h2.2, h3⟩
theorem ok_f {l : List VP} {i : Nat} (h : ¬ (0 ≤ (l.getD i zP).a ∧ (l.getD i zP).a ≤ 100000) ∨ ¬ (0 ≤ (l.getD i zP).b ∧ (l.getD i zP).b ≤ 1000000000000) ∨ 0 < i ∧ ¬ ((l.getD (i - 1) zP).a < (l.getD i zP).a ∧ (l.getD (i - 1) zP).b ≤ (l.getD i zP).b)) : okT l i = false := by
  unfold okT; rw [decide_eq_false_iff_not]; rintro ⟨q1, q2, q3, q4, q5⟩
  rcases h with h | h | ⟨h, h'⟩
  · exact h ⟨q1, q2⟩
  · exact h ⟨q3, q4⟩
  · exact h' (q5 h)
/-! the count up to a day -/
def onI (l : List VP) (day : Int) : Nat := l.countP (fun p => decide (p.a ≤ day)) - 1
theorem on_at {l : List VP} (h : Tot l) {day : Int} {i : Nat} (hi : i < l.length) (h1 : (l.getD i zP).a ≤ day) (h2 : i + 1 < l.length → day < (l.getD (i + 1) zP).a) : onI l day = i := by
  have e : l = l.take (i + 1) ++ l.drop (i + 1) := (List.take_append_drop _ _).symm
  have c1 : (l.take (i + 1)).countP (fun p => decide (p.a ≤ day)) = i + 1 := by
    rw [show i + 1 = (l.take (i + 1)).length by simp; omega]
    rw [List.length_take, show min (i + 1) l.length = i + 1 by omega]
    rw [List.countP_eq_length.2]
    · simp; omega
    · intro x hx
      obtain ⟨j, hj, rfl⟩ := List.getElem_of_mem hx
      have hj' : j < i + 1 := by simp at hj; omega
      rw [decide_eq_true_iff, List.getElem_take]
      have e2 : l[j]'(by omega) = l.getD j zP := by simp [List.getD, show j < l.length by omega]
      rw [e2]
      rcases Nat.lt_or_ge j i with h3 | h3
      · have := (h.lt h3 hi).1; omega
      · rw [show j = i by omega]; exact h1
  have c2 : (l.drop (i + 1)).countP (fun p => decide (p.a ≤ day)) = 0 := by
    rw [List.countP_eq_zero]
    intro x hx
    obtain ⟨j, hj, rfl⟩ := List.getElem_of_mem hx
    have hj' : i + 1 + j < l.length := by simp at hj; omega
    rw [List.getElem_drop, decide_eq_true_iff]
    have e2 : l[i + 1 + j]'hj' = l.getD (i + 1 + j) zP := by simp [List.getD, hj']
    rw [e2]
    have h3 := h2 (by omega)
    rcases Nat.eq_zero_or_pos j with h4 | h4
    · rw [h4, Nat.add_zero]; omega
    · have := (h.lt (show i + 1 < i + 1 + j by omega) hj').1; omega
  unfold onI
  conv => lhs; rw [e]
  rw [List.countP_append, c1, c2]; omega
def onV (l : List VP) (day : Int) : Int :=
  if (l.getD (onI l day) zP).a = day then (l.getD (onI l day) zP).b
  else (l.getD (onI l day) zP).b + ((l.getD (onI l day + 1) zP).b - (l.getD (onI l day) zP).b) * (day - (l.getD (onI l day) zP).a) / ((l.getD (onI l day + 1) zP).a - (l.getD (onI l day) zP).a)
def Covers (l : List VP) (day : Int) : Prop := 0 < l.length ∧ (l.getD 0 zP).a ≤ day ∧ day ≤ (l.getD (l.length - 1) zP).a
theorem frac_bd {m d e : Int} (hm : 0 ≤ m) (hd : 0 ≤ d) (he : d ≤ e) (hp : 0 < e) : 0 ≤ m * d ∧ m * d ≤ m * e ∧ 0 ≤ m * d / e ∧ m * d / e ≤ m := by
  have h1 : 0 ≤ m * d := Int.mul_nonneg hm hd
  have h2 : m * d ≤ m * e := Int.mul_le_mul_of_nonneg_left he hm
  refine ⟨h1, h2, Int.ediv_nonneg h1 (by omega), ?_⟩
  have := Int.ediv_le_ediv hp h2
  rwa [Int.mul_ediv_cancel _ (by omega)] at this
/-- What an index that is found tells. -/
structure OnAt (l : List VP) (day : Int) (i : Nat) : Prop where
  lt : i < l.length
  le : (l.getD i zP).a ≤ day
  nx : i + 1 < l.length → day < (l.getD (i + 1) zP).a
theorem OnAt.idx {l : List VP} (h : Tot l) {day : Int} {i : Nat} (ho : OnAt l day i) : onI l day = i := on_at h ho.lt ho.le ho.nx
theorem OnAt.more {l : List VP} {day : Int} {i : Nat} (h : Tot l) (ho : OnAt l day i) (hl : day ≤ (l.getD (l.length - 1) zP).a) (hne : (l.getD i zP).a ≠ day) : i + 1 < l.length := by
  have h1 := ho.lt
  have h2 := ho.le
  rcases Nat.lt_or_ge (i + 1) l.length with h3 | h3
  · exact h3
  · rw [show l.length - 1 = i by omega] at hl; omega
theorem OnAt.bd {l : List VP} {day : Int} {i : Nat} (h : Tot l) (ho : OnAt l day i) (hi : i + 1 < l.length) :
    0 ≤ ((l.getD (i + 1) zP).b - (l.getD i zP).b) * (day - (l.getD i zP).a) ∧ ((l.getD (i + 1) zP).b - (l.getD i zP).b) * (day - (l.getD i zP).a) ≤ 100000000000000000
    ∧ 0 ≤ ((l.getD (i + 1) zP).b - (l.getD i zP).b) * (day - (l.getD i zP).a) / ((l.getD (i + 1) zP).a - (l.getD i zP).a)
    ∧ ((l.getD (i + 1) zP).b - (l.getD i zP).b) * (day - (l.getD i zP).a) / ((l.getD (i + 1) zP).a - (l.getD i zP).a) ≤ (l.getD (i + 1) zP).b - (l.getD i zP).b
    ∧ 0 < (l.getD (i + 1) zP).a - (l.getD i zP).a := by
  have h1 := h.up i hi
  have h2 := ho.le
  have h3 := ho.nx hi
  have h4 := h.cnt i (by omega)
  have h5 := h.cnt (i + 1) hi
  have h6 := h.day i (by omega)
  have h7 := h.day (i + 1) hi
  have hf := frac_bd (m := (l.getD (i + 1) zP).b - (l.getD i zP).b) (d := day - (l.getD i zP).a) (e := (l.getD (i + 1) zP).a - (l.getD i zP).a) (by omega) (by omega) (by omega) (by omega)
  have hx : ((l.getD (i + 1) zP).b - (l.getD i zP).b) * ((l.getD (i + 1) zP).a - (l.getD i zP).a) ≤ 1000000000000 * 100000 := Int.mul_le_mul (by omega) (by omega) (by omega) (by omega)
  exact ⟨hf.1, by omega, hf.2.2.1, hf.2.2.2, by omega⟩
theorem onV_eq {l : List VP} (h : Tot l) {day : Int} {i : Nat} (ho : OnAt l day i) (he : (l.getD i zP).a = day) : onV l day = (l.getD i zP).b := by
  unfold onV; rw [ho.idx h, if_pos he]
theorem onV_ne {l : List VP} (h : Tot l) {day : Int} {i : Nat} (ho : OnAt l day i) (he : ¬ (l.getD i zP).a = day) : onV l day = (l.getD i zP).b + ((l.getD (i + 1) zP).b - (l.getD i zP).b) * (day - (l.getD i zP).a) / ((l.getD (i + 1) zP).a - (l.getD i zP).a) := by
  unfold onV; rw [ho.idx h, if_neg he]
theorem on_ex {l : List VP} {day : Int} (hc : Covers l day) : ∃ i, OnAt l day i := by
  obtain ⟨h0, h1, h2⟩ := hc
  have key : ∀ j, j < l.length → (∃ i, OnAt l day i) ∨ (l.getD j zP).a ≤ day := by
    intro j
    induction j with
    | zero => intro _; exact .inr h1
    | succ j ih =>
      intro hj
      rcases ih (by omega) with h | h
      · exact .inl h
      · rcases Int.lt_or_le day (l.getD (j + 1) zP).a with h3 | h3
        · exact .inl ⟨j, by omega, h, fun _ => h3⟩
        · exact .inr h3
  rcases key (l.length - 1) (by omega) with h | h
  · exact h
  · exact ⟨l.length - 1, by omega, h, fun h => by omega⟩
theorem onV_bd {l : List VP} (h : Tot l) {day : Int} (hc : Covers l day) : 0 ≤ onV l day ∧ onV l day ≤ 1000000000000 := by
  obtain ⟨i, ho⟩ := on_ex hc
  have h4 := h.cnt i ho.lt
  by_cases he : (l.getD i zP).a = day
  · rw [onV_eq h ho he]; exact h4
  · have hi := ho.more h hc.2.2 he
    have hb := ho.bd h hi
    have h5 := h.cnt (i + 1) hi
    rw [onV_ne h ho he]; omega
/-! lists of totals -/
structure VS where
  A : Option Addr
  c : Nat
  xs : List VP
def encS (r : VS) : List Value := [.slice r.A r.xs.length r.c]
theorem encS_len : ∀ r, (encS r).length = 1 := fun _ => rfl
def zS : VS := ⟨none, 0, []⟩
def firstD (L : List VS) : Nat → Int
  | 0 => 0
  | k + 1 => max (firstD L k) (((L.getD k zS).xs).getD 0 zP).a
def lastD (L : List VS) : Nat → Int
  | 0 => 100000
  | k + 1 => min (lastD L k) (((L.getD k zS).xs).getD ((L.getD k zS).xs.length - 1) zP).a
def emptyAt (L : List VS) (i : Nat) : Bool := decide ((L.getD i zS).xs.length = 0)
def anyE (L : List VS) : Bool := (List.range L.length).any (emptyAt L)
theorem ae_t {L : List VS} {k : Nat} (hk : k < L.length) (h : (L.getD k zS).xs.length = 0) : anyE L = true := by
  unfold anyE; rw [List.any_eq_true]; exact ⟨k, by simpa using hk, by unfold emptyAt; exact decide_eq_true h⟩
theorem ae_f {L : List VS} {k : Nat} (hk : ¬ k < L.length) (h : ∀ i, i < k → (L.getD i zS).xs.length ≠ 0) : anyE L = false := by
  unfold anyE; rw [List.any_eq_false]; intro i hi; unfold emptyAt; simpa using h i (by simp at hi; omega)
theorem ae_all {L : List VS} (h : anyE L = false) : ∀ i, i < L.length → (L.getD i zS).xs.length ≠ 0 := fun i hi => by
  unfold anyE at h; rw [List.any_eq_false] at h
  have := h i (by simpa using hi)
  unfold emptyAt at this; simpa using this
theorem firstD_ge {L : List VS} : ∀ {k i : Nat}, i < k → (((L.getD i zS).xs).getD 0 zP).a ≤ firstD L k
  | k + 1, i, h => by
    rw [firstD]
    rcases Nat.lt_or_ge i k with h1 | h1
    · have := firstD_ge (L := L) h1; omega
    · rw [show i = k by omega]; omega
theorem lastD_le {L : List VS} : ∀ {k i : Nat}, i < k → lastD L k ≤ (((L.getD i zS).xs).getD ((L.getD i zS).xs.length - 1) zP).a
  | k + 1, i, h => by
    rw [lastD]
    rcases Nat.lt_or_ge i k with h1 | h1
    · have := lastD_le (L := L) h1; omega
    · rw [show i = k by omega]; omega
theorem firstD_0 {L : List VS} : ∀ k, 0 ≤ firstD L k
  | 0 => by simp [firstD]
  | k + 1 => by have := firstD_0 (L := L) k; rw [firstD]; omega
theorem lastD_0 {L : List VS} : ∀ k, lastD L k ≤ 100000
  | 0 => by simp [lastD]
  | k + 1 => by have := lastD_0 (L := L) k; rw [lastD]; omega
theorem firstD_hi {L : List VS} (hT : ∀ k, k < L.length → Tot (L.getD k zS).xs) (hall : ∀ i, i < L.length → (L.getD i zS).xs.length ≠ 0) : firstD L L.length ≤ 100000 := by
  have key : ∀ k, k ≤ L.length → firstD L k ≤ 100000 := by
    intro k
    induction k with
    | zero => intro _; simp [firstD]
    | succ k ih =>
      intro hk
      have h1 := ih (by omega)
      have h2 := (hT k (by omega)).day 0 (by have := hall k (by omega); omega)
      rw [firstD]; omega
  exact key _ (Nat.le_refl _)
theorem lastD_lo {L : List VS} (hT : ∀ k, k < L.length → Tot (L.getD k zS).xs) (hall : ∀ i, i < L.length → (L.getD i zS).xs.length ≠ 0) : 0 ≤ lastD L L.length := by
  have key : ∀ k, k ≤ L.length → 0 ≤ lastD L k := by
    intro k
    induction k with
    | zero => intro _; simp [lastD]
    | succ k ih =>
      intro hk
      have h1 := ih (by omega)
      have h2 := (hT k (by omega)).day ((L.getD k zS).xs.length - 1) (by have := hall k (by omega); omega)
      rw [lastD]; omega
  exact key _ (Nat.le_refl _)
def comI (L : List VS) : Int × Int := if anyE L = true then (0, -1) else (firstD L L.length, lastD L L.length)
def comV (L : List VS) : Int × Int × Int :=
  if anyE L = true then (0, 0, 6) else if lastD L L.length < firstD L L.length then (0, 0, 6)
  else if 400 < lastD L L.length - firstD L L.length + 1 then (0, 0, 3) else (firstD L L.length, lastD L L.length, 0)
theorem ci_t {L : List VS} (h : anyE L = true) : comI L = (0, -1) := by unfold comI; rw [if_pos h]
theorem ci_f {L : List VS} (h : anyE L = false) : comI L = (firstD L L.length, lastD L L.length) := by unfold comI; rw [if_neg (by rw [h]; decide)]
theorem cv_e {L : List VS} (h : anyE L = true) : comV L = (0, 0, 6) := by unfold comV; rw [if_pos h]
theorem cv_n {L : List VS} (h : anyE L = false) (h1 : lastD L L.length < firstD L L.length) : comV L = (0, 0, 6) := by unfold comV; rw [if_neg (by rw [h]; decide), if_pos h1]
theorem cv_l {L : List VS} (h : anyE L = false) (h1 : ¬ lastD L L.length < firstD L L.length) (h2 : 400 < lastD L L.length - firstD L L.length + 1) : comV L = (0, 0, 3) := by
  unfold comV; rw [if_neg (by rw [h]; decide), if_neg h1, if_pos h2]
theorem cv_o {L : List VS} (h : anyE L = false) (h1 : ¬ lastD L L.length < firstD L L.length) (h2 : ¬ 400 < lastD L L.length - firstD L L.length + 1) : comV L = (firstD L L.length, lastD L L.length, 0) := by
  unfold comV; rw [if_neg (by rw [h]; decide), if_neg h1, if_neg h2]
end Go.W
