/- The next value in a photo. -/
import Derived.Test.YtplljnddhkleaaaM48
import Derived.Test.YtplljnddhkleaaaM39
set_option linter.unusedVariables false
set_option linter.unusedSimpArgs false
namespace Go.W
open Go Go.Sx
def fromM (m : VMk) (a : Nat) : Int := match (List.range 128).find? (fun e => decide (a ≤ e) && hasM m e) with
  | some e => (e : Int)
  | none => -1
theorem from_hit {m : VMk} {a d : Nat} (h1 : a ≤ d) (h2 : d < 128) (hall : ∀ e, a ≤ e → e < d → hasM m e = false) (h : hasM m d = true) : fromM m a = d := by
  have : (List.range 128).find? (fun e => decide (a ≤ e) && hasM m e) = some d := by
    rw [List.find?_range_eq_some]
    refine ⟨by rw [decide_eq_true h1, h]; rfl, by simpa using h2, fun j hj => ?_⟩
    rcases Nat.lt_or_ge j a with h3 | h3
    · rw [decide_eq_false (by omega)]; rfl
    · rw [hall j h3 hj]; simp
  unfold fromM; rw [this]
theorem from_none {m : VMk} {a : Nat} (hall : ∀ e, a ≤ e → e < 128 → hasM m e = false) : fromM m a = -1 := by
  have : (List.range 128).find? (fun e => decide (a ≤ e) && hasM m e) = none := by
    rw [List.find?_eq_none]
    intro e he
    rcases Nat.lt_or_ge e a with h3 | h3
    · rw [decide_eq_false (by omega)]; simp
    · rw [hall e h3 (by simpa using he)]; simp
  unfold fromM; rw [this]
theorem from_cases (m : VMk) (a : Nat) : (fromM m a = -1 ∧ ∀ e, a ≤ e → e < 128 → hasM m e = false) ∨ ∃ d : Nat, fromM m a = d ∧ a ≤ d ∧ d < 128 ∧ hasM m d = true := by
  unfold fromM
  cases h : (List.range 128).find? (fun e => decide (a ≤ e) && hasM m e) with
  | none =>
    refine .inl ⟨rfl, fun e h1 h2 => ?_⟩
    rw [List.find?_eq_none] at h
    have := h e (by simpa using h2)
    rw [decide_eq_true h1] at this
    simpa using this
  | some d =>
    rw [List.find?_range_eq_some] at h
    have h1 := h.1
    rw [Bool.and_eq_true, decide_eq_true_iff] at h1
    exact .inr ⟨d, rfl, h1.1, by simpa using h.2.1, h1.2⟩
theorem from_bd (m : VMk) (a : Nat) : -1 ≤ fromM m a ∧ fromM m a ≤ 127 := by
  rcases from_cases m a with h | ⟨d, h, _, _, _⟩ <;> omega
theorem from_some {m : VMk} (h : ∃ d, d < 128 ∧ hasM m d = true) : 0 ≤ fromM m 0 ∧ hasM m (fromM m 0).toNat = true := by
  rcases from_cases m 0 with h2 | ⟨d, h2, _, _, h3⟩
  · obtain ⟨d, hd, h⟩ := h; rw [h2.2 d (by omega) hd] at h; cases h
  · rw [h2, Int.toNat_natCast]; exact ⟨by omega, h3⟩
/-! in the list of a mark's digits -/
theorem dig_hit {m : VMk} {a : Int} {r : Nat} (h0 : 0 ≤ a) (hr : r < (digI m).length) (hall : ∀ q, q < r → ¬ a < (digI m).getD q 0) (h : a < (digI m).getD r 0) : fromM m (a.toNat + 1) = (digI m).getD r 0 := by
  have hr2 : r < (digM m).length := by simpa [digI] using hr
  have hg : ∀ q, q < (digM m).length → (digI m).getD q 0 = ((digM m).getD q 0 : Nat) := fun q hq => by simp [digI, List.getD, hq]
  rw [hg r hr2] at h ⊢
  have h5 : (digM m).find? (fun e => decide (a.toNat + 1 ≤ e)) = some ((digM m).getD r 0) := by
    rw [List.find?_eq_some_iff_getElem]
    refine ⟨by rw [decide_eq_true_iff]; omega, r, hr2, by simp [List.getD, hr2], fun q hq => ?_⟩
    have h6 := hall q hq
    rw [hg q (by omega)] at h6
    have h7 : (digM m).getD q 0 = (digM m)[q] := by simp [List.getD, show q < (digM m).length by omega]
    rw [h7] at h6
    rw [Bool.not_eq_true', decide_eq_false_iff_not]; omega
  unfold digM at h5
  rw [List.find?_filter] at h5
  have h8 : (fun e => decide (a.toNat + 1 ≤ e) && hasM m e) = (fun e => decide (hasM m e = true ∧ decide (a.toNat + 1 ≤ e) = true)) := by
    funext e; cases hasM m e <;> simp
  unfold fromM
  rw [h8, h5]
  rfl
theorem dig_miss {m : VMk} {a : Int} {r : Nat} (h0 : 0 ≤ a) (hr : ¬ r < (digI m).length) (hall : ∀ q, q < r → ¬ a < (digI m).getD q 0) : fromM m (a.toNat + 1) = -1 := by
  refine from_none fun e h1 h2 => ?_
  rw [← Bool.not_eq_true]
  intro h
  have hm : e ∈ digM m := by unfold digM; rw [List.mem_filter]; exact ⟨by simpa using h2, h⟩
  obtain ⟨q, hq, rfl⟩ := List.getElem_of_mem hm
  have hl : (digI m).length = (digM m).length := by simp [digI]
  have := hall q (by omega)
  have hg : (digI m).getD q 0 = ((digM m)[q] : Nat) := by simp [digI, List.getD, hq]
  rw [hg] at this; omega
theorem dig_fst {m : VMk} (h : ∃ d, d < 128 ∧ hasM m d = true) : 0 < (digI m).length ∧ (digI m).getD 0 0 = fromM m 0 := by
  obtain ⟨d, hd, h⟩ := h
  have hm : d ∈ digM m := by unfold digM; rw [List.mem_filter]; exact ⟨by simpa using hd, h⟩
  have hp : 0 < (digM m).length := List.length_pos_of_mem hm
  refine ⟨by simpa [digI] using hp, ?_⟩
  have hg : (digI m).getD 0 0 = ((digM m)[0] : Nat) := by simp [digI, List.getD, hp]
  rw [hg]
  have h5 : (digM m).find? (fun e => decide (0 ≤ e)) = some ((digM m)[0]) := by
    rw [List.find?_eq_some_iff_getElem]
    exact ⟨by simp, 0, hp, rfl, fun q hq => by omega⟩
  unfold digM at h5
  rw [List.find?_filter] at h5
  have h8 : (fun e => decide (0 ≤ e) && hasM m e) = (fun e => decide (hasM m e = true ∧ decide (0 ≤ e) = true)) := by
    funext e; cases hasM m e <;> simp
  unfold fromM
  rw [h8, h5]
  rfl
/-! the digits of the next value -/
def leastD (l : List VMk) (d : List Int) (i : Nat) : List Int := (List.range 8).map fun j => if j < i then fromM (l.getD j zMk) 0 else d.getD j 0
theorem leastD_len (l : List VMk) (d : List Int) (i : Nat) : (leastD l d i).length = 8 := by simp [leastD]
theorem leastD_at {l : List VMk} {d : List Int} {i j : Nat} (h : j < 8) : (leastD l d i).getD j 0 = if j < i then fromM (l.getD j zMk) 0 else d.getD j 0 := by simp [leastD, List.getD, h]
theorem leastD_0 {l : List VMk} {d : List Int} (h : d.length = 8) : leastD l d 0 = d := by
  refine List.ext_getElem (by rw [leastD_len, h]) fun j h1 h2 => ?_
  have := leastD_at (l := l) (d := d) (i := 0) (j := j) (by omega)
  rw [if_neg (by omega)] at this
  simpa [List.getD, h1, h2] using this
theorem leastD_set {l : List VMk} {d : List Int} {i : Nat} (h : i < 8) : (leastD l d i).set i (fromM (l.getD i zMk) 0) = leastD l d (i + 1) := by
  refine List.ext_getElem (by rw [List.length_set, leastD_len, leastD_len]) fun j h1 h2 => ?_
  rw [List.getElem_set]
  have hj : j < 8 := by rw [leastD_len] at h2; exact h2
  have e1 := leastD_at (l := l) (d := d) (i := i) hj
  have e2 := leastD_at (l := l) (d := d) (i := i + 1) hj
  rw [List.length_set] at h1
  simp only [List.getD, List.getElem?_eq_getElem h1, List.getElem?_eq_getElem h2, Option.getD_some] at e1 e2
  rw [e1, e2]
  split
  · next e => subst e; rw [if_pos (by omega)]; rfl
  · next e => by_cases h3 : j < i
              · rw [if_pos h3, if_pos (by omega)]
              · rw [if_neg h3, if_neg (by omega)]
theorem leastD_put {l : List VMk} {d : List Int} {i q : Nat} {v : List Value} (h : i < 8) (hq : q = i * 1) (hv : v = eI .u8 (fromM (l.getD i zMk) 0)) : put ((leastD l d i).flatMap (eI .u8)) q v = (leastD l d (i + 1)).flatMap (eI .u8) := by
  subst hq hv
  rw [flat_put (eI_len .u8) _ _ _ (by rw [leastD_len]; exact h), leastD_set h]
def upA (n : Nat) (l : List VMk) (d : List Int) (i : Nat) : Bool := (List.range n).all fun j => decide (j ≤ i) || hasM (l.getD j zMk) (d.getD j 0).toNat
theorem up_t {n : Nat} {l : List VMk} {d : List Int} {i : Nat} (h : ∀ j, i < j → j < n → hasM (l.getD j zMk) (d.getD j 0).toNat = true) : upA n l d i = true := by
  unfold upA; rw [List.all_eq_true]
  intro j hj
  rcases Nat.lt_or_ge i j with h1 | h1
  · rw [h j h1 (by simpa using hj), Bool.or_true]
  · rw [decide_eq_true h1]; rfl
theorem up_f {n : Nat} {l : List VMk} {d : List Int} {i j : Nat} (h1 : i < j) (h2 : j < n) (h : hasM (l.getD j zMk) (d.getD j 0).toNat = false) : upA n l d i = false := by
  unfold upA; rw [← Bool.not_eq_true, List.all_eq_true]
  intro hall
  have := hall j (by simpa using h2)
  rw [h, decide_eq_false (by omega)] at this; cases this
def cand (n : Nat) (l : List VMk) (d : List Int) (i : Nat) : Bool := upA n l d i && decide (0 ≤ fromM (l.getD i zMk) ((d.getD i 0).toNat + 1))
theorem cand_u {n : Nat} {l : List VMk} {d : List Int} {i : Nat} (h : upA n l d i = false) : cand n l d i = false := by unfold cand; rw [h]; rfl
theorem cand_n {n : Nat} {l : List VMk} {d : List Int} {i : Nat} (h : fromM (l.getD i zMk) ((d.getD i 0).toNat + 1) < 0) : cand n l d i = false := by unfold cand; rw [decide_eq_false (by omega), Bool.and_false]
theorem cand_y {n : Nat} {l : List VMk} {d : List Int} {i : Nat} (h : upA n l d i = true) (h2 : 0 ≤ fromM (l.getD i zMk) ((d.getD i 0).toNat + 1)) : cand n l d i = true := by unfold cand; rw [h, decide_eq_true h2]; rfl
def nextD (l : List VMk) (d : List Int) (i : Nat) : List Int := leastD l (d.set i (fromM (l.getD i zMk) ((d.getD i 0).toNat + 1))) i
def nextV (s : List Int) (l : List VMk) (d : List Int) : Int × Bool :=
  if showsM s l d = true then (val s d, true)
  else match (List.range s.length).find? (cand s.length l d) with
    | some i => (val s (nextD l d i), true)
    | none => (0, false)
theorem nx_s {s : List Int} {l : List VMk} {d : List Int} (h : showsM s l d = true) : nextV s l d = (val s d, true) := by unfold nextV; rw [if_pos h]
theorem nx_y {s : List Int} {l : List VMk} {d : List Int} {i : Nat} (h : showsM s l d = false) (hi : i < s.length) (hall : ∀ j, j < i → cand s.length l d j = false) (hc : cand s.length l d i = true) : nextV s l d = (val s (nextD l d i), true) := by
  have : (List.range s.length).find? (cand s.length l d) = some i := by
    rw [List.find?_range_eq_some]
    exact ⟨hc, by simpa using hi, fun j hj => by rw [hall j hj]; rfl⟩
  unfold nextV; rw [if_neg (by rw [h]; exact Bool.false_ne_true), this]
theorem nx_n {s : List Int} {l : List VMk} {d : List Int} {i : Nat} (h : showsM s l d = false) (hi : ¬ i < s.length) (hall : ∀ j, j < i → cand s.length l d j = false) : nextV s l d = (0, false) := by
  have : (List.range s.length).find? (cand s.length l d) = none := by
    rw [List.find?_eq_none]
    intro j hj
    rw [hall j (by have : j < s.length := by simpa using hj
                   omega)]; exact Bool.false_ne_true
  unfold nextV; rw [if_neg (by rw [h]; exact Bool.false_ne_true), this]
theorem nextD_ok {s : List Int} {l : List VMk} {d : List Int} {i : Nat} (hS : Stk s) (hP : PhOk s l) (hd : DigOk s d) (h8 : d.length = 8) (hz : ∀ j, s.length ≤ j → d.getD j 0 = 0) (hi : i < s.length) (h : 0 ≤ fromM (l.getD i zMk) ((d.getD i 0).toNat + 1)) : ∀ j, j < s.length → 0 ≤ (nextD l d i).getD j 0 ∧ (nextD l d i).getD j 0 < s.getD j 0 := fun j hj => by
  have hs8 := hS.len8
  unfold nextD
  rw [leastD_at (by omega)]
  split
  · have h1 := from_some (hP.some_ j hj)
    have h2 := hP.lt j hj _ (by have := from_bd (l.getD j zMk) 0; omega) h1.2
    omega
  · by_cases e : i = j
    · subst e
      have h3 : (d.set i (fromM (l.getD i zMk) ((d.getD i 0).toNat + 1))).getD i 0 = fromM (l.getD i zMk) ((d.getD i 0).toNat + 1) := by simp [List.getD, show i < d.length by omega]
      rw [h3]
      rcases from_cases (l.getD i zMk) ((d.getD i 0).toNat + 1) with h4 | ⟨e, h4, _, h5, h6⟩
      · omega
      · have := hP.lt i hi e h5 h6; omega
    · have h3 : (d.set i (fromM (l.getD i zMk) ((d.getD i 0).toNat + 1))).getD j 0 = d.getD j 0 := by simp [List.getD, List.getElem?_set, e]
      rw [h3]; exact hd j hj
theorem nextD_len {l : List VMk} {d : List Int} {i : Nat} : (nextD l d i).length = 8 := leastD_len ..
/-! the rest of a stack, of a photo, of digits -/
theorem up_shows {s : List Int} {l : List VMk} {d : List Int} {i : Nat} {p : List VMk} {e : List Int} (hi : i < s.length) (hp : ∀ j, j < s.length - (i + 1) → p.getD j zMk = l.getD (i + 1 + j) zMk) (he : ∀ j, j < s.length - (i + 1) → e.getD j 0 = d.getD (i + 1 + j) 0) : showsM (s.drop (i + 1)) p e = upA s.length l d i := by
  unfold showsM upA
  rw [List.length_drop]
  rw [Bool.eq_iff_iff, List.all_eq_true, List.all_eq_true]
  constructor
  · intro h j hj
    rcases Nat.lt_or_ge i j with h1 | h1
    · have hj2 : j < s.length := by simpa using hj
      have := h (j - (i + 1)) (by simp; omega)
      rw [hp _ (by omega), he _ (by omega), show i + 1 + (j - (i + 1)) = j by omega] at this
      rw [this, Bool.or_true]
    · rw [decide_eq_true h1]; rfl
  · intro h j hj
    have hj2 : j < s.length - (i + 1) := by simpa using hj
    have := h (i + 1 + j) (by simp; omega)
    rw [decide_eq_false (by omega), Bool.false_or] at this
    rw [hp j hj2, he j hj2]; exact this
theorem tail_at {α : Type} {l z : List α} {x : α} {i j : Nat} (h : i + 1 + j < l.length) : (l.drop (i + 1) ++ z).getD j x = l.getD (i + 1 + j) x := by
  simp only [List.getD]
  rw [List.getElem?_append_left (by simp; omega), List.getElem?_drop]
theorem dig_zero {s l : List Int} (h : validDig s l = true) {j : Nat} (h1 : s.length ≤ j) (h2 : j < 8) : l.getD j 0 = 0 := by
  unfold validDig at h
  rw [List.all_eq_true] at h
  have := h j (by simpa using h2)
  unfold goodAt at this
  rw [if_neg (by omega), decide_eq_true_iff] at this
  exact this
theorem nextD_valid {s : List Int} {l : List VMk} {d : List Int} {i : Nat} (hS : Stk s) (hP : PhOk s l) (hd : DigOk s d) (h8 : d.length = 8) (hv : validDig s d = true) (hi : i < s.length) (h : 0 ≤ fromM (l.getD i zMk) ((d.getD i 0).toNat + 1)) : validDig s (nextD l d i) = true ∧ Nums 255 (nextD l d i) := by
  have hs8 := hS.len8
  have hz : ∀ j, s.length ≤ j → j < 8 → (nextD l d i).getD j 0 = 0 := fun j h1 h2 => by
    unfold nextD
    rw [leastD_at h2, if_neg (by omega)]
    have h3 : (d.set i (fromM (l.getD i zMk) ((d.getD i 0).toNat + 1))).getD j 0 = d.getD j 0 := by simp [List.getD, List.getElem?_set, show ¬ i = j by omega]
    rw [h3, dig_zero hv h1 h2]
  have hok := nextD_ok hS hP hd h8 (fun j hj => by
    rcases Nat.lt_or_ge j 8 with h1 | h1
    · exact dig_zero hv hj h1
    · simp only [List.getD]; rw [List.getElem?_eq_none (by omega)]; rfl) hi h
  constructor
  · unfold validDig
    rw [List.all_eq_true]
    intro j hj
    unfold goodAt
    split
    · next h1 => rw [decide_eq_true_iff]; exact (hok j h1).2
    · next h1 => rw [decide_eq_true_iff]; exact hz j (by omega) (by simpa using hj)
  · intro x hx
    obtain ⟨j, hj, rfl⟩ := List.getElem_of_mem hx
    have e : (nextD l d i)[j] = (nextD l d i).getD j 0 := by simp [List.getD, hj]
    rw [nextD_len] at hj
    rcases Nat.lt_or_ge j s.length with h1 | h1
    · have h2 := hok j h1
      have h3 := hS.bases j h1
      rw [e]; omega
    · rw [e, hz j h1 hj]; decide
theorem next_put {l : List VMk} {d : List Int} {i q : Nat} {z : Int} {v : List Value} (h8 : d.length = 8) (h : i < 8) (hq : q = i * 1) (hv : v = eI .u8 z) : put (d.flatMap (eI .u8)) q v = (leastD l (d.set i z) 0).flatMap (eI .u8) := by
  subst hq hv
  rw [flat_put (eI_len .u8) _ _ _ (by omega), leastD_0 (by rw [List.length_set, h8])]
theorem nx_yD {s : List Int} {l : List VMk} {d : List Int} {i : Nat} (h : showsM s l d = false) (hi : i < s.length) (hall : ∀ j, j < i → cand s.length l d j = false) (hu : upA s.length l d i = true) (hc : 0 ≤ fromM (l.getD i zMk) ((d.getD i 0).toNat + 1)) : nextV s l d = (val s (dig (nextD l d i)).l, true) := by
  rw [dig_l nextD_len]; exact nx_y h hi hall (cand_y hu hc)
end Go.W
