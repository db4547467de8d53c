/- The text of a photo. -/
import Derived.Test.YthfbmkfbmmjchaaDoorM64
import Derived.Test.YthfbmkfbmmjchaaDoorM38
set_option linter.unusedVariables false
namespace Go.W
open Go Go.Sx
/-- A growing slice of strings in a loop. -/
theorem digP_get {m : VMk} {k i : Nat} (hi : i < (digP m k).length) : ∃ d, d < k ∧ hasM m d = true ∧ (digP m k).getD i 0 = (d : Int) := by
  have h := getD_mem (s := digP m k) 0 hi
  unfold digP at h
  obtain ⟨d, hd, e⟩ := List.mem_map.1 h
  have h2 := List.mem_filter.1 hd
  exact ⟨d, List.mem_range.1 h2.1, h2.2, by unfold digP; exact e.symm⟩
def marksT (m : VMk) (k : Nat) : List UInt8 := Lib.join ((digP m k).map Lib.itoa) [124]
def wheelT (m : VMk) (b : Int) : List UInt8 := if m.l = (fullM b.toNat).l then [63] else marksT m 128
theorem marksT_0 (m : VMk) : marksT m 0 = [] := rfl
theorem marksT_n {m : VMk} {k : Nat} (h : hasM m k = false) : marksT m (k + 1) = marksT m k := by unfold marksT; rw [digP_n h]
theorem join_ne {xs : List (List UInt8)} {sep : List UInt8} (h : xs ≠ []) (h1 : ∀ x ∈ xs, 1 ≤ x.length) : Lib.join xs sep ≠ [] := by
  cases xs with
  | nil => exact absurd rfl h
  | cons y r =>
    rw [Lib.join_cons]
    intro e
    have h2 := h1 y (by simp)
    have h3 := congrArg List.length e
    rw [List.length_append] at h3
    simp at h3
    rw [h3.1] at h2
    simp at h2
theorem marksT_e {m : VMk} {k : Nat} (h : marksT m k = []) : digP m k = [] := by
  cases hd : digP m k with
  | nil => rfl
  | cons a r =>
    refine absurd h ?_
    unfold marksT
    rw [hd]
    exact join_ne (by simp) (fun x hx => by
      obtain ⟨n, _, rfl⟩ := List.mem_map.1 hx
      exact itoa_pos n)
theorem marksT_y0 {m : VMk} {k : Nat} (h : hasM m k = true) (h0 : marksT m k = []) : marksT m (k + 1) = marksT m k ++ Lib.itoa (k : Int) := by
  have h1 := marksT_e h0
  rw [h0]
  unfold marksT
  rw [digP_y h, h1]
  show Lib.join [Lib.itoa (k : Int)] [124] = _
  rw [Lib.join_one]; rfl
theorem marksT_y1 {m : VMk} {k : Nat} (h : hasM m k = true) (h0 : ¬ marksT m k = []) : marksT m (k + 1) = marksT m k ++ [124] ++ Lib.itoa (k : Int) := by
  unfold marksT at h0 ⊢
  rw [digP_y h, List.map_append]
  exact join_snoc (by intro e; rw [e] at h0; exact h0 rfl) _ _
theorem marksT_end {m : VMk} {b : Nat} (hb : b ≤ 128) (h : ∀ d, d < 128 → hasM m d = true → (d : Int) < (b : Int)) : marksT m b = marksT m 128 := by
  unfold marksT
  rw [digP_end hb (fun d hd hh => by have := h d hd hh; omega), digP_all]
theorem marksT_le {m : VMk} : ∀ {k : Nat}, k ≤ 128 → (marksT m k).length ≤ 21 * k
  | 0, _ => by simp [marksT, digP, Lib.join, List.intercalate]
  | k + 1, hk => by
    have ih := marksT_le (m := m) (k := k) (by omega)
    have h2 := itoa_le (n := (k : Int)) (by omega)
    cases h : hasM m k
    · rw [marksT_n h]; omega
    · by_cases h0 : marksT m k = []
      · rw [marksT_y0 h h0, List.length_append]; omega
      · rw [marksT_y1 h h0, List.length_append, List.length_append, List.length_cons, List.length_nil]; omega
theorem wheelT_le {m : VMk} {b : Int} : (wheelT m b).length ≤ 2688 := by
  unfold wheelT
  split
  · simp
  · have := marksT_le (m := m) (k := 128) (by omega)
    omega
/-- As many marks as the base: all of them. -/
theorem cnt_full {m : VMk} {b : Int} (hm : OkMk m) (hb : 0 ≤ b ∧ b ≤ 128) (h : ∀ d, d < 128 → hasM m d = true → (d : Int) < b) : cntM m = b ↔ m.l = (fullM b.toNat).l := by
  have hd : digP m b.toNat = digI m := digP_end (by omega) (fun d hd hh => by have := h d hd hh; omega)
  have hl : cntM m = ((digP m b.toNat).length : Int) := by rw [hd]; exact (digI_len m).symm
  have hl2 : (digP m b.toNat).length = ((List.range b.toNat).filter (hasM m)).length := by unfold digP; rw [List.length_map]
  constructor
  · intro hc
    have h1 : ((List.range b.toNat).filter (hasM m)).length = (List.range b.toNat).length := by rw [List.length_range]; omega
    have h2 := List.length_filter_eq_length_iff.1 h1
    have e : m = fullM b.toNat := has_ext hm (fullM_ok (by omega)) fun d hd' => by
      rw [has_full (by omega) hd']
      by_cases hdb : d < b.toNat
      · rw [h2 d (List.mem_range.2 hdb), decide_eq_true hdb]
      · rw [decide_eq_false hdb]
        cases hh : hasM m d
        · rfl
        · have := h d hd' hh; omega
    rw [← e]
  · intro e
    have e := mk_inj e
    have h1 : ((List.range b.toNat).filter (hasM m)).length = (List.range b.toNat).length := by
      refine List.length_filter_eq_length_iff.2 fun d hd' => ?_
      have hdb := List.mem_range.1 hd'
      rw [e, has_full (by omega) (by omega), decide_eq_true hdb]
    rw [List.length_range] at h1
    omega
theorem wheel_y {m : VMk} {b : Int} (hm : OkMk m) (hb : 0 ≤ b ∧ b ≤ 128) (h : ∀ d, d < 128 → hasM m d = true → (d : Int) < b) (hc : cntM m = b) : wheelT m b = [63] := if_pos ((cnt_full hm hb h).1 hc)
theorem wheel_n {m : VMk} {b : Int} (hm : OkMk m) (hb : 0 ≤ b ∧ b ≤ 128) (h : ∀ d, d < 128 → hasM m d = true → (d : Int) < b) (hc : ¬ cntM m = b) : wheelT m b = marksT m 128 := if_neg (fun e => hc ((cnt_full hm hb h).2 e))
def wpart (s : List Int) (l : List VMk) (j : Nat) : List UInt8 := wheelT (l.getD (s.length - 1 - j) zMk) (s.getD (s.length - 1 - j) 0)
def phT (s : List Int) (l : List VMk) : List UInt8 := Lib.join (partsF (wpart s l) s.length) [58]
def phTx (s : List Int) (p : VPh) : List UInt8 := if validPh s p = true then phT s p.l else []
theorem phTx_f {s : List Int} {p : VPh} (h : validPh s p = false) : phTx s p = [] := if_neg (by simp [h])
theorem phTx_t {s : List Int} {p : VPh} (h : validPh s p = true) : phTx s p = phT s p.l := if_pos h
theorem sepW_le {s : List Int} {l : List VMk} (hs : Stk s) {k : Nat} (hk : k ≤ s.length) : (sepT (wpart s l) [58] s.length k).length ≤ 22000 := by
  have h1 := sepT_le (f := wpart s l) (sep := [58]) (B := 2688) (n := s.length) (fun i hi => wheelT_le) k hk
  have h2 := hs.len8
  simp only [List.length_cons, List.length_nil] at h1
  omega
theorem phT_le {s : List Int} {l : List VMk} (hs : Stk s) : (phT s l).length ≤ 22000 := by
  unfold phT
  rw [← sepT_end]
  exact sepW_le hs (Nat.le_refl _)
end Go.W
namespace Go.W
open Go Go.Sx
theorem digI_bd (m : VMk) (i : Nat) : 0 ≤ (digI m).getD i 0 ∧ (digI m).getD i 0 ≤ 128 := by
  by_cases h : i < (digI m).length
  · obtain ⟨d, hd, _, e⟩ := digP_get (m := m) (k := 128) h
    have e : (digI m).getD i 0 = (d : Int) := e
    rw [e]; omega
  · simp [List.getD, List.getElem?_eq_none (by omega : (digI m).length ≤ i)]
def strsP (l : List Int) (k : Nat) : List (List UInt8) := (l.take k).map Lib.itoa
theorem strsP_len {l : List Int} {k : Nat} (hk : k ≤ l.length) : (strsP l k).length = k := by simp [strsP]; omega
theorem strsP_s {l : List Int} {k : Nat} (hk : k < l.length) : strsP l (k + 1) = strsP l k ++ [Lib.itoa (l.getD k 0)] := by
  unfold strsP
  rw [List.take_succ_eq_append_getElem hk, List.map_append]
  simp [List.getD, hk]
theorem strs_join (m : VMk) : Lib.join (strsP (digI m) (digI m).length) [124] = marksT m 128 := by
  unfold strsP marksT
  rw [List.take_length, digP_all]
end Go.W
