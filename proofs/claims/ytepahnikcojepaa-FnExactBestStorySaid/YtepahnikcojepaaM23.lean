/- The best story, in plain numbers: the program's plan is the reference's story. -/
import Derived.Test.YtepahnikcojepaaM20
set_option linter.unusedVariables false
set_option linter.unusedSimpArgs false
namespace Go.W
open Go Go.Sx
theorem rl_at2 {fit : Nat → Nat → Bool} {n j : Nat} : ∀ {d : Nat}, j < d → (rl fit n d).getD j zR = inn fit n j (rl fit n j) j
  | d + 1, h => by
    have hl := rl_len fit n d
    rw [rl]
    rcases Nat.lt_or_ge j d with h1 | h1
    · rw [snocR_at (by omega)]; exact rl_at2 h1
    · obtain rfl : j = d := by omega
      have := snocR_last (L := rl fit n j) (r := inn fit n j (rl fit n j) j); rwa [hl] at this
variable {fit : Nat → Nat → Bool} {n : Nat}
def eT (fit : Nat → Nat → Bool) (n j : Nat) : VT := innT fit n (-1) j (tl fit n (-1) j) j
def eR (fit : Nat → Nat → Bool) (n j : Nat) : VR := inn fit n j (rl fit n j) j
def tailK (fit : Nat → Nat → Bool) (n : Nat) (a : Int) : List Int := if a < 0 then [] else (eT fit n (n - 1 - a.toNat)).kept
theorem tlE {d j : Nat} (h : j < d) : (tl fit n (-1) d).getD j zT0 = eT fit n j := by rw [tl_at h, if_neg (by omega)]; rfl
theorem rlE {d j : Nat} (h : j < d) : (rl fit n d).getD j zR = eR fit n j := by rw [rl_at2 h]; rfl
theorem lex_lt (a b c : Int) : ((if a ≠ 0 then a else if b ≠ 0 then b else c) < 0) ↔ (a < 0 ∨ a = 0 ∧ (b < 0 ∨ b = 0 ∧ c < 0)) := by
  by_cases h : a = 0
  · rw [if_neg (by simp [h])]
    by_cases h2 : b = 0
    · rw [if_neg (by simp [h2])]; omega
    · rw [if_pos h2]; omega
  · rw [if_pos h]; omega
theorem c3_neg (a b : Int) : c3 a b < 0 ↔ a < b := by unfold c3; split <;> (try split) <;> omega
theorem c3_zero (a b : Int) : c3 a b = 0 ↔ a = b := by unfold c3; split <;> (try split) <;> omega
theorem less_dec {p q : VT} (h : p.cost = q.cost → p.breaks = q.breaks → ¬ cmpL p.kept q.kept < 0) : lessT p q = true ↔ (p.cost < q.cost ∨ p.cost = q.cost ∧ p.breaks < q.breaks) := by
  unfold lessT
  rw [decide_eq_true_iff, lex_lt, c3_neg, c3_zero, c3_neg, c3_zero]
  constructor
  · rintro (h1 | ⟨h1, h2 | ⟨h2, h3⟩⟩)
    · exact .inl h1
    · exact .inr ⟨h1, h2⟩
    · exact absurd h3 (h h1 h2)
  · rintro (h1 | ⟨h1, h2⟩)
    · exact .inl h1
    · exact .inr ⟨h1, .inl h2⟩
theorem less_dec' {p q : VT} (h : p.cost = q.cost → p.breaks = q.breaks → cmpL p.kept q.kept < 0) : lessT p q = true ↔ (p.cost < q.cost ∨ p.cost = q.cost ∧ p.breaks ≤ q.breaks) := by
  unfold lessT
  rw [decide_eq_true_iff, lex_lt, c3_neg, c3_zero, c3_neg, c3_zero]
  constructor
  · rintro (h1 | ⟨h1, h2 | ⟨h2, h3⟩⟩)
    · exact .inl h1
    · exact .inr ⟨h1, Int.le_of_lt h2⟩
    · exact .inr ⟨h1, Int.le_of_eq h2⟩
  · rintro (h1 | ⟨h1, h2⟩)
    · exact .inl h1
    · rcases Int.lt_or_eq_of_le h2 with h3 | h3
      · exact .inr ⟨h1, .inl h3⟩
      · exact .inr ⟨h1, .inr ⟨h3, h h1 h3⟩⟩
theorem inn_next {d : Nat} {L : List VR} (hd : d < n) : ∀ m, m ≤ d → (inn fit n d L m).next = -1 ∨ ((n - 1 - d : Nat) : Int) < (inn fit n d L m).next ∧ (inn fit n d L m).next < ((n - d + m : Nat) : Int)
  | 0, _ => .inl rfl
  | m + 1, hm => by
    have ih := inn_next (L := L) hd m (by omega)
    rw [inn]; split
    · dsimp only; omega
    · omega
theorem two_same (j : Nat) : j < n → (eT fit n j).cost = (eR fit n j).cost ∧ (eT fit n j).breaks = (eR fit n j).breaks ∧ (eT fit n j).kept = ((n - 1 - j : Nat) : Int) :: tailK fit n (eR fit n j).next := by
  induction j using Nat.strongRecOn with
  | ind j ih =>
    intro hj
    have key : ∀ m, m ≤ j → (innT fit n (-1) j (tl fit n (-1) j) m).cost = (inn fit n j (rl fit n j) m).cost ∧ (innT fit n (-1) j (tl fit n (-1) j) m).breaks = (inn fit n j (rl fit n j) m).breaks ∧ (innT fit n (-1) j (tl fit n (-1) j) m).kept = ((n - 1 - j : Nat) : Int) :: tailK fit n (inn fit n j (rl fit n j) m).next := by
      intro m
      induction m with
      | zero => intro _; simp [innT, inn, fromT, zT0, tailK]
      | succ m ihm =>
        intro hm
        obtain ⟨i1, i2, i3⟩ := ihm (by omega)
        obtain ⟨k1, k2, k3⟩ := ih (j - 1 - m) (by omega) (by omega)
        have hnx := inn_next (fit := fit) (L := rl fit n j) hj m (by omega)
        have c1 : (candT fit n j (tl fit n (-1) j) m).cost = candC fit n j (rl fit n j) m := by
          simp only [candT, fromT, candC]; rw [tlE (by omega), rlE (by omega), k1]; omega
        have c2 : (candT fit n j (tl fit n (-1) j) m).breaks = candB fit n j (rl fit n j) m := by
          simp only [candT, fromT, candB]; rw [tlE (by omega), rlE (by omega), k2]; omega
        have c4 : (candT fit n j (tl fit n (-1) j) m).kept = ((n - 1 - j : Nat) : Int) :: (eT fit n (j - 1 - m)).kept := by
          simp only [candT, fromT]; rw [tlE (by omega)]
        have hl : lessT (candT fit n j (tl fit n (-1) j) m) (innT fit n (-1) j (tl fit n (-1) j) m) = true ↔ (candC fit n j (rl fit n j) m < (inn fit n j (rl fit n j) m).cost ∨ candC fit n j (rl fit n j) m = (inn fit n j (rl fit n j) m).cost ∧ candB fit n j (rl fit n j) m < (inn fit n j (rl fit n j) m).breaks) := by
          rw [less_dec, c1, c2, i1, i2]
          intro _ _
          rw [c4, i3, k3]
          have hz : ¬ c3 ((n - 1 - j : Nat) : Int) ((n - 1 - j : Nat) : Int) ≠ 0 := by unfold c3; rw [if_neg (by omega), if_neg (by omega)]; simp
          rw [cmpL, if_neg hz]
          by_cases hn2 : (inn fit n j (rl fit n j) m).next < 0
          · rw [show tailK fit n (inn fit n j (rl fit n j) m).next = [] from if_pos hn2, cmpL]; omega
          · rw [show tailK fit n (inn fit n j (rl fit n j) m).next = (eT fit n (n - 1 - (inn fit n j (rl fit n j) m).next.toNat)).kept from if_neg hn2]
            obtain ⟨q1, q2, q3⟩ := ih (n - 1 - (inn fit n j (rl fit n j) m).next.toNat) (by omega) (by omega)
            rw [q3, cmpL]
            have hc : c3 ((n - 1 - (j - 1 - m) : Nat) : Int) ((n - 1 - (n - 1 - (inn fit n j (rl fit n j) m).next.toNat) : Nat) : Int) = 1 := by unfold c3; rw [if_neg (by omega), if_pos (by omega)]
            rw [hc]; simp
        rw [innT, if_neg (by omega)]
        by_cases hq : lessT (candT fit n j (tl fit n (-1) j) m) (innT fit n (-1) j (tl fit n (-1) j) m) = true
        · rw [if_pos hq, inn_y (hl.1 hq)]
          refine ⟨c1, c2, ?_⟩
          rw [c4]; unfold tailK; dsimp only
          rw [if_neg (by omega), show n - 1 - ((n - j + m : Nat) : Int).toNat = j - 1 - m by omega]
        · rw [if_neg hq, inn_n (fun h => hq (hl.2 h))]
          exact ⟨i1, i2, i3⟩
    exact key j (Nat.le_refl _)
def tC (fit : Nat → Nat → Bool) (n i : Nat) : Int := (i : Int) + (eR fit n (n - 1 - i)).cost
def tB_ (fit : Nat → Nat → Bool) (n i : Nat) : Int := (eR fit n (n - 1 - i)).breaks
theorem rstE {i : Nat} (h : i < n) : (rstL fit n).getD i zR = eR fit n (n - 1 - i) := by
  unfold rstL; rw [outR_at (Nat.le_refl _) (by omega) h, rlE (by omega)]
theorem bst_char : ∀ m, m ≤ n → 0 < m → ∃ i0, i0 < m ∧ bstV fit n m = ⟨tC fit n i0, tB_ fit n i0, (i0 : Int)⟩ ∧ (∀ i, i < m → tC fit n i0 < tC fit n i ∨ tC fit n i0 = tC fit n i ∧ tB_ fit n i0 ≤ tB_ fit n i) ∧ (∀ i, i < i0 → tC fit n i0 < tC fit n i ∨ tC fit n i0 = tC fit n i ∧ tB_ fit n i0 < tB_ fit n i)
  | m + 1, hm, _ => by
    have hr := rstE (fit := fit) (n := n) (i := m) (by omega)
    rcases Nat.eq_zero_or_pos m with h0 | h0
    · subst h0
      refine ⟨0, by omega, ?_, fun i hi => ?_, fun i hi => by omega⟩
      · rw [bst_y (.inl (by show (-1 : Int) < 0; decide)), hr]; rfl
      · obtain rfl : i = 0 := by omega
        omega
    · obtain ⟨i0, h1, e, h2, h3⟩ := bst_char m (by omega) h0
      by_cases hq : (bstV fit n m).next < 0 ∨ (m : Int) + ((rstL fit n).getD m zR).cost < (bstV fit n m).cost ∨ (m : Int) + ((rstL fit n).getD m zR).cost = (bstV fit n m).cost ∧ ((rstL fit n).getD m zR).breaks < (bstV fit n m).breaks
      · rw [bst_y hq, hr]
        rw [hr, e] at hq
        dsimp only at hq
        have hq2 : tC fit n m < tC fit n i0 ∨ tC fit n m = tC fit n i0 ∧ tB_ fit n m < tB_ fit n i0 := by
          unfold tC tB_ at hq ⊢; omega
        refine ⟨m, by omega, rfl, fun i hi => ?_, fun i hi => ?_⟩
        · rcases Nat.lt_or_ge i m with h4 | h4
          · have := h2 i h4; omega
          · obtain rfl : i = m := by omega
            omega
        · have := h2 i hi; omega
      · rw [bst_n hq]
        rw [hr, e] at hq
        dsimp only at hq
        have hq2 : ¬ (tC fit n m < tC fit n i0 ∨ tC fit n m = tC fit n i0 ∧ tB_ fit n m < tB_ fit n i0) := by
          unfold tC tB_ at hq ⊢; omega
        refine ⟨i0, by omega, e, fun i hi => ?_, h3⟩
        rcases Nat.lt_or_ge i m with h4 | h4
        · exact h2 i h4
        · obtain rfl : i = m := by omega
          omega
theorem bt_char : ∀ d, d ≤ n → 0 < d → ∃ i0, n - d ≤ i0 ∧ i0 < n ∧ btT fit n (-1) d = (true, ⟨tC fit n i0, tB_ fit n i0, (eT fit n (n - 1 - i0)).kept⟩) ∧ (∀ i, n - d ≤ i → i < n → tC fit n i0 < tC fit n i ∨ tC fit n i0 = tC fit n i ∧ tB_ fit n i0 ≤ tB_ fit n i) ∧ (∀ i, n - d ≤ i → i < i0 → tC fit n i0 < tC fit n i ∨ tC fit n i0 = tC fit n i ∧ tB_ fit n i0 < tB_ fit n i)
  | d + 1, hd, _ => by
    obtain ⟨s1, s2, s3⟩ := two_same (fit := fit) (n := n) d (by omega)
    have hc : addT (innT fit n (-1) d (tl fit n (-1) d) d) ((n - 1 - d : Nat) : Int) = ⟨tC fit n (n - 1 - d), tB_ fit n (n - 1 - d), (eT fit n (n - 1 - (n - 1 - d))).kept⟩ := by
      unfold addT tC tB_
      rw [show n - 1 - (n - 1 - d) = d by omega, ← s1, ← s2, Int.mul_one, Int.add_comm]; rfl
    rw [btT, if_neg (by omega), hc]
    rcases Nat.eq_zero_or_pos d with h0 | h0
    · rw [if_pos (.inl (by subst h0; rfl))]
      refine ⟨n - 1 - d, by omega, by omega, rfl, fun i h1 h2 => ?_, fun i h1 h2 => by omega⟩
      obtain rfl : i = n - 1 - d := by omega
      omega
    · obtain ⟨i0, h1, h2, e, h3, h4⟩ := bt_char d (by omega) h0
      rw [e]
      dsimp only
      obtain ⟨t1, t2, t3⟩ := two_same (fit := fit) (n := n) (n - 1 - i0) (by omega)
      have hl : lessT ⟨tC fit n (n - 1 - d), tB_ fit n (n - 1 - d), (eT fit n (n - 1 - (n - 1 - d))).kept⟩ ⟨tC fit n i0, tB_ fit n i0, (eT fit n (n - 1 - i0)).kept⟩ = true ↔ (tC fit n (n - 1 - d) < tC fit n i0 ∨ tC fit n (n - 1 - d) = tC fit n i0 ∧ tB_ fit n (n - 1 - d) ≤ tB_ fit n i0) := by
        rw [less_dec']
        intro _ _
        dsimp only
        rw [show n - 1 - (n - 1 - d) = d by omega, s3, t3, cmpL]
        have hc3 : c3 ((n - 1 - d : Nat) : Int) ((n - 1 - (n - 1 - i0) : Nat) : Int) = -1 := by unfold c3; rw [if_pos (by omega)]
        rw [hc3]; simp
      by_cases hq : lessT ⟨tC fit n (n - 1 - d), tB_ fit n (n - 1 - d), (eT fit n (n - 1 - (n - 1 - d))).kept⟩ ⟨tC fit n i0, tB_ fit n i0, (eT fit n (n - 1 - i0)).kept⟩ = true
      · rw [if_pos (.inr hq)]
        have hq2 := hl.1 hq
        refine ⟨n - 1 - d, by omega, by omega, rfl, fun i h5 h6 => ?_, fun i h5 h6 => by omega⟩
        by_cases e5 : i = n - 1 - d
        · rw [e5]; omega
        · have := h3 i (by omega) h6; omega
      · rw [if_neg (by rintro (h | h); (· cases h); (· exact hq h))]
        have hq2 : ¬ (tC fit n (n - 1 - d) < tC fit n i0 ∨ tC fit n (n - 1 - d) = tC fit n i0 ∧ tB_ fit n (n - 1 - d) ≤ tB_ fit n i0) := fun h => hq (hl.2 h)
        refine ⟨i0, by omega, h2, rfl, fun i h5 h6 => ?_, fun i h5 h6 => ?_⟩
        · by_cases e5 : i = n - 1 - d
          · rw [e5]; omega
          · exact h3 i (by omega) h6
        · by_cases e5 : i = n - 1 - d
          · rw [e5]; omega
          · exact h4 i (by omega) h6
theorem tailK_at {j : Nat} (h : ¬ ats fit n j < 0) : tailK fit n (ats fit n j) = ats fit n j :: tailK fit n (ats fit n (j + 1)) := by
  have hb := ats_bd fit n j
  obtain ⟨s1, s2, s3⟩ := two_same (fit := fit) (n := n) (n - 1 - (ats fit n j).toNat) (by omega)
  have e : tailK fit n (ats fit n j) = (eT fit n (n - 1 - (ats fit n j).toNat)).kept := by rw [tailK, if_neg h]
  rw [e, s3, show ((n - 1 - (n - 1 - (ats fit n j).toNat) : Nat) : Int) = ats fit n j by omega]
  congr 2
  rw [ats, nxt, if_neg h, rstE (by omega)]
theorem kL_tail : ∀ j, kL fit n j ++ tailK fit n (ats fit n j) = tailK fit n (ats fit n 0)
  | 0 => rfl
  | j + 1 => by
    have ih := kL_tail j
    by_cases h : ats fit n j < 0
    · have h2 : ats fit n (j + 1) < 0 := by rw [ats, nxt_neg h]; decide
      rw [← ih, kL, if_pos h, tailK, if_pos h2, tailK, if_pos h]
    · rw [← ih, kL_y h, tailK_at h, List.append_assoc]; rfl
theorem stK_tail : stK fit n = tailK fit n (bstV fit n n).next := by
  have h := kL_tail (fit := fit) (n := n) (n + 1)
  have hb := ats_bd fit n (n + 1)
  rw [tailK, if_pos (by omega), List.append_nil] at h
  exact h
theorem best_same : (btT fit n (-1) n).2.cost = (bstV fit n n).cost ∧ (btT fit n (-1) n).2.kept = stK fit n := by
  rw [stK_tail]
  rcases Nat.eq_zero_or_pos n with h | h
  · subst h; exact ⟨rfl, rfl⟩
  · obtain ⟨i0, h1, e1, h2, h3⟩ := bst_char (fit := fit) (n := n) n (Nat.le_refl _) h
    obtain ⟨i1, g1, g2, e2, h4, h5⟩ := bt_char (fit := fit) (n := n) n (Nat.le_refl _) h
    have a := h2 i1 g2
    have b := h4 i0 (by omega) h1
    have e : i0 = i1 := by
      rcases Nat.lt_trichotomy i0 i1 with q | q | q
      · have := h5 i0 (by omega) q; omega
      · exact q
      · have := h3 i1 q; omega
    subst e
    rw [e1, e2]
    refine ⟨rfl, ?_⟩
    dsimp only
    rw [tailK, if_neg (by omega), Int.toNat_natCast]
/-! ### what the kept readings are -/
theorem kL_map {J : Nat} : (∀ i, i < J → 0 ≤ ats fit n i) → kL fit n J = (List.range J).map (ats fit n) := by
  induction J with
  | zero => intro _; rfl
  | succ J ih =>
    intro h
    rw [kL_y (by have := h J (by omega); omega), ih (fun i hi => h i (by omega)), List.range_succ, List.map_append]; rfl
theorem first_neg : ∃ J, J ≤ n + 1 ∧ ats fit n J < 0 ∧ ∀ i, i < J → 0 ≤ ats fit n i := by
  have key : ∀ d J, J + d = n + 1 → (∀ i, i < J → 0 ≤ ats fit n i) → ∃ J, J ≤ n + 1 ∧ ats fit n J < 0 ∧ ∀ i, i < J → 0 ≤ ats fit n i := by
    intro d
    induction d with
    | zero => intro J hJ h; exact ⟨J, by omega, by have := ats_bd fit n J; omega, h⟩
    | succ d ih =>
      intro J hJ h
      by_cases hn : ats fit n J < 0
      · exact ⟨J, by omega, hn, h⟩
      · exact ih (J + 1) (by omega) (fun i hi => by
          rcases Nat.lt_or_ge i J with h1 | h1
          · exact h i h1
          · obtain rfl : i = J := by omega
            omega)
  exact key (n + 1) 0 (by omega) (fun i hi => by omega)
theorem stK_map : ∃ J, J ≤ n + 1 ∧ ats fit n J < 0 ∧ (∀ i, i < J → 0 ≤ ats fit n i) ∧ stK fit n = (List.range J).map (ats fit n) ∧ (stK fit n).length = J := by
  obtain ⟨J, h1, h2, h3⟩ := first_neg (fit := fit) (n := n)
  have h4 := (st_end (fit := fit) (n := n) h2 h1).1
  have h5 : stK fit n = (List.range J).map (ats fit n) := by rw [← h4, kL_map h3]
  exact ⟨J, h1, h2, h3, h5, by rw [h5]; simp⟩
theorem stK_at {k : Nat} (h : k < (stK fit n).length) : (stK fit n).getD k 0 = ats fit n k ∧ 0 ≤ ats fit n k := by
  obtain ⟨J, h1, h2, h3, h4, h5⟩ := stK_map (fit := fit) (n := n)
  rw [h5] at h
  refine ⟨?_, h3 k h⟩
  rw [h4]; simp [List.getD, h]
theorem stK_nat {k : Nat} (h : k + 1 < (stK fit n).length) : ∃ a b : Nat, (stK fit n).getD k 0 = (a : Int) ∧ (stK fit n).getD (k + 1) 0 = (b : Int) ∧ a < b ∧ b < n := by
  obtain ⟨e1, h1⟩ := stK_at (fit := fit) (n := n) (k := k) (by omega)
  obtain ⟨e2, h2⟩ := stK_at h
  have hb := ats_bd fit n k
  have hb2 := ats_bd fit n (k + 1)
  have hx : ats fit n (k + 1) = -1 ∨ ats fit n k < ats fit n (k + 1) ∧ ats fit n (k + 1) < n := by rw [ats]; exact nxt_bd h1 hb.2.1
  exact ⟨(ats fit n k).toNat, (ats fit n (k + 1)).toNat, by rw [e1]; omega, by rw [e2]; omega, by omega, by omega⟩
/-- The breaks among kept readings, the first k steps gone. -/
def pL (fit : Nat → Nat → Bool) (K : List Int) : Nat → List Int
  | 0 => []
  | k + 1 => if fit (K.getD k 0).toNat (K.getD (k + 1) 0).toNat = false then pL fit K k ++ [K.getD (k + 1) 0] else pL fit K k
theorem pL_y {K : List Int} {k a b : Nat} (h1 : K.getD k 0 = (a : Int)) (h2 : K.getD (k + 1) 0 = (b : Int)) (h : fit a b = false) : pL fit K (k + 1) = pL fit K k ++ [K.getD (k + 1) 0] := by rw [pL, if_pos (by rw [h1, h2]; exact h)]
theorem pL_n {K : List Int} {k a b : Nat} (h1 : K.getD k 0 = (a : Int)) (h2 : K.getD (k + 1) 0 = (b : Int)) (h : fit a b = true) : pL fit K (k + 1) = pL fit K k := by rw [pL, if_neg (by rw [h1, h2]; simp; exact h)]
theorem pL_len {K : List Int} : ∀ k, (pL fit K k).length ≤ k
  | 0 => Nat.zero_le _
  | k + 1 => by
    have := pL_len (K := K) k
    rw [pL]; split
    · rw [List.length_append]; simp; omega
    · omega
theorem pL_bL : ∀ k, k < (stK fit n).length → pL fit (stK fit n) k = bL fit n k
  | 0, _ => rfl
  | k + 1, h => by
    have ih := pL_bL k (by omega)
    obtain ⟨e1, h1⟩ := stK_at (fit := fit) (n := n) (k := k) (by omega)
    obtain ⟨e2, h2⟩ := stK_at h
    rw [pL, e1, e2, ih]
    split
    · rename_i hq; rw [bL_y (by omega) h2 hq]
    · rename_i hq; rw [bL_n (by omega) (fun h => hq h.2)]
theorem pL_all {k : Nat} (h : (stK fit n).length ≤ k + 1) (h' : k + 1 ≤ (stK fit n).length ∨ k = 0) : pL fit (stK fit n) k = stB fit n := by
  obtain ⟨J, h1, h2, h3, h4, h5⟩ := stK_map (fit := fit) (n := n)
  have h6 := (st_end (fit := fit) (n := n) h2 h1).2
  rcases Nat.eq_zero_or_pos J with h0 | h0
  · obtain rfl : k = 0 := by omega
    rw [← h6, h0]; rfl
  · rw [pL_bL k (by omega), ← h6]
    obtain ⟨q, rfl⟩ : ∃ q, J = q + 1 := ⟨J - 1, by omega⟩
    obtain rfl : k = q := by omega
    rw [bL_n (by have := h3 k (by omega); omega) (by omega)]
/-! ### the answer -/
def storyV (s : List Int) (l : List VP) (f : VP) : VSt × Int := if askS s l f = false then (⟨[], [], 0⟩, 1) else (stV (fitsF s l f) l.length, 0)
theorem sto_1 {s : List Int} {l : List VP} {f : VP} (h : askS s l f = false) : storyV s l f = (⟨[], [], 0⟩, 1) := by unfold storyV; rw [if_pos h]
theorem sto_0 {s : List Int} {l : List VP} {f : VP} (h : askS s l f = true) : storyV s l f = (stV (fitsF s l f) l.length, 0) := by unfold storyV; rw [if_neg (by rw [h]; decide)]
theorem sto_len {s : List Int} {l : List VP} {f : VP} : (storyV s l f).1.kept.length ≤ 41 ∧ (storyV s l f).1.breaks.length ≤ 41 := by
  cases h : askS s l f with
  | false => rw [sto_1 h]; simp
  | true =>
    rw [sto_0 h]
    have hl := (ask_of h).1.len
    have h1 := stK_len (fitsF s l f) l.length
    have h2 := stB_len (fitsF s l f) l.length
    simp only [stV]; omega
end Go.W
namespace Go.Sx
open Go Go.RowKit Go.W
/-- A plan's list taken off the pile. -/
theorem liftOk {C : Cx} {m F : List Ent} {T : TypeId} {P : List Rw} {p : VPl} (h : OkPl T P p) (hp : m.Perm (.pile P :: F)) : ∀ w, Holds C.base C.w0 m w → Holds C.base C.w0 (.row (.slice p.A p.xs.length p.c) T 1 p.xs.length (p.xs.flatMap (eI .i64)) :: F) w := by
  intro w hw
  rcases h with ⟨h, _⟩ | ⟨h1, h2, h3⟩
  · obtain ⟨xs, ys, e⟩ := List.append_of_mem h
    have h4 := liftAt e hp w hw
    exact h4.sub (List.Sublist.cons_cons _ (List.Sublist.cons _ (List.Sublist.refl _)))
  · rw [h1, h2, h3]
    have h5 : Holds C.base C.w0 F w := (hw.perm hp).sub (List.Sublist.cons _ (List.Sublist.refl _))
    exact h5.new (Below.refl _ _) ⟨by simp, .inl ⟨rfl, rfl⟩⟩
end Go.Sx
