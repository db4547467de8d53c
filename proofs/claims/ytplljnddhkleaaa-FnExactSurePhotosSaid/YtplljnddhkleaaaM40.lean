/- Films in memory. -/
import Derived.Test.YtplljnddhkleaaaM39
set_option linter.unusedVariables false
set_option linter.unusedSimpArgs false
namespace Go.W
open Go Go.Sx
def samePh (a b : VPh) : Bool := (List.range 8).all fun i => decide ((a.l.getD i zMk).l = (b.l.getD i zMk).l)
theorem samePh_refl (a : VPh) : samePh a a = true := by simp [samePh]
theorem sp_no {a b : VPh} (k : Nat) (hk : k < 8) (h : ¬ (a.l.getD k zMk).l = (b.l.getD k zMk).l) : false = samePh a b := by
  symm; rw [← Bool.not_eq_true]; unfold samePh; rw [List.all_eq_true]; intro h9
  exact h (of_decide_eq_true (h9 k (by simp; omega)))
theorem sp_yes {a b : VPh} {k : Nat} (hk : ¬ k < 8) (h : ∀ i, i < k → (a.l.getD i zMk).l = (b.l.getD i zMk).l) : true = samePh a b := by
  symm; unfold samePh; rw [List.all_eq_true]; intro i hi
  exact decide_eq_true (h i (by simp at hi; omega))
def allEq {α : Type} (e : α → α → Bool) (d : α) (s t : List α) : Bool := decide (s.length = t.length ∧ ∀ i, i < s.length → e (s.getD i d) (t.getD i d) = true)
theorem allEq_refl {α : Type} {e : α → α → Bool} (he : ∀ x, e x x = true) (d : α) (s : List α) : allEq e d s s = true := by simp [allEq, he]
theorem ae_len {α : Type} {e : α → α → Bool} {d : α} {s t : List α} (h : ¬ s.length = t.length) : false = allEq e d s t := by symm; unfold allEq; rw [decide_eq_false_iff_not]; exact fun h' => h h'.1
theorem ae_no {α : Type} {e : α → α → Bool} {d : α} {s t : List α} (k : Nat) (hk : k < s.length) (h : e (s.getD k d) (t.getD k d) = false) : false = allEq e d s t := by
  symm; unfold allEq; rw [decide_eq_false_iff_not]; intro h'; rw [h'.2 k hk] at h; cases h
theorem ae_yes {α : Type} {e : α → α → Bool} {d : α} {s t : List α} {k : Nat} (hl : s.length = t.length) (hk : ¬ k < s.length) (h : ∀ i, i < k → e (s.getD i d) (t.getD i d) = true) : true = allEq e d s t := by
  symm; unfold allEq; rw [decide_eq_true_iff]; exact ⟨hl, fun i hi => h i (by omega)⟩
theorem samePhs_refl (s : List VPh) : allEq samePh zPh s s = true := allEq_refl samePh_refl _ _
/-! a film that is made -/
structure FSt where
  A : Option Addr
  c : Nat
  K : List (VX Int)
structure FX where
  b : Nat
  A : Option Addr
  c : Nat
  K : List (VX Int)
theorem kx_step {s : List Int} {L : List VPh} {K : List (VX Int)} {r : VX Int} (h : K.map (·.xs) = (filmL s L).take K.length) (hk : K.length < L.length) (hr : r.xs = valsP s (L.getD K.length zPh)) : (K ++ [r]).map (·.xs) = (filmL s L).take (K ++ [r]).length := by
  have h1 : K.length < (filmL s L).length := by simpa [filmL] using hk
  rw [List.map_append, h, List.length_append, show [r].length = 1 from rfl, List.take_succ_eq_append_getElem h1]
  congr 1
  simp [hr, filmL, List.getD, hk]
theorem kx_fin {s : List Int} {L : List VPh} {K : List (VX Int)} (h : K.map (·.xs) = (filmL s L).take K.length) (hk : K.length = L.length) : K.map (·.xs) = filmL s L := by
  rw [h, List.take_of_length_le (by simp [filmL]; omega)]
theorem kx_len {s : List Int} {L : List VPh} {K : List (VX Int)} (h : K.map (·.xs) = filmL s L) : K.length = L.length := by
  have := congrArg List.length h
  simpa [filmL] using this
theorem kx_at {s : List Int} {L : List VPh} {K : List (VX Int)} (h : K.map (·.xs) = filmL s L) (k : Nat) : (K.getD k zX).xs = filmF s L k := by
  have e : (K.getD k zX).xs = (K.map (·.xs)).getD k [] := by
    simp only [List.getD, List.getElem?_map]; cases K[k]? <;> rfl
  rw [e, h]; rfl
theorem kx_fun {s : List Int} {L : List VPh} {K : List (VX Int)} (h : K.map (·.xs) = filmL s L) : (fun k => (K.getD k zX).xs) = filmF s L := funext (kx_at h)
structure FK (K : List (VX Int)) (n : Nat) : Prop where
  len : K.length = n
  n1 : 1 ≤ n ∧ n ≤ 20
  vl : ∀ k, k < n → 1 ≤ (K.getD k zX).xs.length ∧ (K.getD k zX).xs.length ≤ 400
  v : ∀ k q, k < n → 0 ≤ (K.getD k zX).xs.getD q 0 ∧ (K.getD k zX).xs.getD q 0 < 1000000000000
theorem fk {s : List Int} {L : List VPh} {lo hi us : Int} {K : List (VX Int)} (hF : Film s L lo hi us) (h : K.map (·.xs) = filmL s L) : FK K L.length := by
  refine ⟨kx_len h, hF.len, fun k hk => ?_, fun k q hk => ?_⟩
  · rw [kx_at h]; exact hF.vlen hk
  · rw [kx_at h]; exact hF.v hk q
/-! codes -/
theorem cf_of {s : List Int} {L : List VPh} {lo hi us : Int} (h : codeF s L lo hi us = 0) : validStack s = true ∧ badP s L = false ∧ ((1 ≤ L.length ∧ L.length ≤ 20) ∧ 0 ≤ lo ∧ lo ≤ hi ∧ hi ≤ 1000000000000 ∧ lo ≤ us ∧ us ≤ hi) ∧ manyP s L = false := by
  cases h1 : (validStack s && !badP s L) with
  | false => rw [cf_1 h1] at h; cases h
  | true =>
    by_cases h2 : (1 ≤ L.length ∧ L.length ≤ 20) ∧ 0 ≤ lo ∧ lo ≤ hi ∧ hi ≤ 1000000000000 ∧ lo ≤ us ∧ us ≤ hi
    · cases h3 : manyP s L with
      | true => rw [cf_3 h1 h2 h3] at h; cases h
      | false =>
        rw [Bool.and_eq_true, Bool.not_eq_true'] at h1
        exact ⟨h1.1, h1.2, h2, rfl⟩
    · rw [cf_2 h1 h2] at h; cases h
theorem cf_all {s : List Int} {L : List VPh} {lo hi us : Int} {k : Nat} (h1 : validStack s = true) (hb : badP s L = false) (h2 : (1 ≤ L.length ∧ L.length ≤ 20) ∧ 0 ≤ lo ∧ lo ≤ hi ∧ hi ≤ 1000000000000 ∧ lo ≤ us ∧ us ≤ hi) (hk : ¬ k < L.length) (hall : ∀ i, i < k → decide (400 < choV (L.getD i zPh).l s.length) = false) : codeF s L lo hi us = 0 :=
  cf_0 (by rw [h1, hb]; rfl) h2 (any_no (d := zPh) hk hall)
theorem bad_1 {s : List Int} {L : List VPh} {lo hi us : Int} (h : validStack s = false) : codeF s L lo hi us = 1 := cf_1 (by rw [h]; rfl)
theorem bad_2 {s : List Int} {L : List VPh} {lo hi us : Int} (h : badP s L = true) : codeF s L lo hi us = 1 := cf_1 (by rw [h, Bool.and_comm]; rfl)
theorem bad_3 {s : List Int} {L : List VPh} {lo hi us : Int} (h1 : validStack s = true) (hb : badP s L = false) (h2 : ¬ ((1 ≤ L.length ∧ L.length ≤ 20) ∧ 0 ≤ lo ∧ lo ≤ hi ∧ hi ≤ 1000000000000 ∧ lo ≤ us ∧ us ≤ hi)) : codeF s L lo hi us = 2 := cf_2 (by rw [h1, hb]; rfl) h2
theorem bad_4 {s : List Int} {L : List VPh} {lo hi us : Int} {k : Nat} (h1 : validStack s = true) (hb : badP s L = false) (h2 : (1 ≤ L.length ∧ L.length ≤ 20) ∧ 0 ≤ lo ∧ lo ≤ hi ∧ hi ≤ 1000000000000 ∧ lo ≤ us ∧ us ≤ hi) (hk : k < L.length) (h : 400 < choV (L.getD k zPh).l s.length) : codeF s L lo hi us = 3 :=
  cf_3 (by rw [h1, hb]; rfl) h2 (any_yes (d := zPh) hk (decide_eq_true h))
theorem bad_idx {s : List Int} {L : List VPh} : badP s L = decide (0 ≤ idxF (fun p : VPh => !photoOk s p.l) L) := any_idx
theorem okLp {s : List Int} {L : List VPh} (hL : ∀ k, k < L.length → OkPh (L.getD k zPh)) (h1 : validStack s = true) (hb : badP s L = false) : ∀ k, k < L.length → PhOk s (L.getD k zPh).l := fun k hk => by
  have := any_at (d := zPh) hb hk
  rw [Bool.not_eq_false'] at this
  exact phOk (stk h1) (hL k hk) this
/-! first ones that are good -/
def okK (s : List Int) (L : List VPh) (k : Nat) : Bool := validStack s && (List.range k).all fun i => photoOk s (L.getD i zPh).l
theorem okK_0 (s : List Int) (L : List VPh) : okK s L 0 = validStack s := by unfold okK; simp
theorem okK_s {s : List Int} {L : List VPh} {k : Nat} (h : okK s L k = true) : okK s L (k + 1) = photoOk s (L.getD k zPh).l := by
  unfold okK at h ⊢
  rw [List.range_succ, List.all_append, ← Bool.and_assoc, h]; simp
theorem okK_v {s : List Int} {L : List VPh} {k : Nat} (h : okK s L k = true) : validStack s = true := by unfold okK at h; rw [Bool.and_eq_true] at h; exact h.1
theorem okK_end {s : List Int} {L : List VPh} {k : Nat} (hk : ¬ k < L.length) (h : okK s L k = true) : validStack s = true ∧ badP s L = false := by
  unfold okK at h
  rw [Bool.and_eq_true, List.all_eq_true] at h
  exact ⟨h.1, any_no (d := zPh) hk fun i hi => by rw [h.2 i (by simpa using hi)]; rfl⟩
theorem okK_no {s : List Int} {L : List VPh} {k : Nat} (hk : k ≤ L.length) (h : okK s L k = false) : (validStack s && !badP s L) = false := by
  rw [← Bool.not_eq_true, Bool.and_eq_true]
  rintro ⟨h1, h2⟩
  rw [Bool.not_eq_true'] at h2
  have : okK s L k = true := by
    unfold okK
    rw [Bool.and_eq_true, List.all_eq_true]
    refine ⟨h1, fun i hi => ?_⟩
    have := any_at (d := zPh) h2 (k := i) (by simp at hi; omega)
    simpa using this
  rw [this] at h; cases h
theorem hasB {l : List Int} {n : Int} : (decide (0 ≤ idxF (fun x => decide (n = x)) l)) = l.contains n := by
  rw [← any_idx]
  rw [Bool.eq_iff_iff, List.any_eq_true, List.contains_iff_mem]
  constructor
  · rintro ⟨x, hx, h⟩
    rw [decide_eq_true_iff] at h; subst h; exact hx
  · intro h; exact ⟨n, h, by simp⟩
theorem has_tt {s : List Int} {n : Int} {k : Nat} (hk : k < s.length) (h : s.getD k 0 = n) : true = s.contains n := by
  symm; rw [List.contains_iff_mem]; rw [← h]; exact getD_mem 0 hk
theorem has_ff {s : List Int} {n : Int} {k : Nat} (hk : ¬ k < s.length) (hall : ∀ i, i < k → s.getD i 0 ≠ n) : false = s.contains n := by
  symm; rw [← Bool.not_eq_true, List.contains_iff_mem]; intro h
  obtain ⟨i, hi, he⟩ := List.getElem_of_mem h
  refine hall i (by omega) ?_
  simp [List.getD, hi, he]
theorem has_bd {K : List (VX Int)} {n k : Nat} {v : Int} (h : FK K n) (hk : k < n) (hv : (K.getD k zX).xs.contains v = true) : 0 ≤ v ∧ v < 1000000000000 := by
  rw [List.contains_iff_mem] at hv
  obtain ⟨i, hi, he⟩ := List.getElem_of_mem hv
  have := h.v k i hk
  rw [show (K.getD k zX).xs.getD i 0 = v by rw [List.getD, List.getElem?_eq_getElem hi, he]; rfl] at this
  exact this
end Go.W
