/- Marks in lists; lists of values, as the program makes them. -/
import Derived.Test.YtplljnddhkleaaaM38
set_option linter.unusedVariables false
set_option linter.unusedSimpArgs false
namespace Go.W
open Go Go.Sx
def mk8 (n : Nat) (k : Int) : List Int := (List.range n).map fun (i : Nat) => (k + (i : Int)) % 256
theorem mk8_len (n : Nat) (k : Int) : (mk8 n k).length = n := by simp [mk8]
theorem mk8_at {n : Nat} {k : Int} {i : Nat} (h : i < n) : (mk8 n k).getD i 0 = (k + (i : Int)) % 256 := by simp [mk8, List.getD, h]
def mkI (n : Nat) (k : Int) : List Int := (List.range n).map fun (i : Nat) => k + (i : Int)
theorem mkI_len (n : Nat) (k : Int) : (mkI n k).length = n := by simp [mkI]
theorem mkI_at {n : Nat} {k : Int} {i : Nat} (h : i < n) : (mkI n k).getD i 0 = k + (i : Int) := by simp [mkI, List.getD, h]
theorem digP_le (m : VMk) {d e : Nat} (h : d ≤ e) : (digP m d).length ≤ (digP m e).length := by
  induction h with
  | refl => exact Nat.le_refl _
  | step _ ih =>
    rename_i k _
    cases hh : hasM m k with
    | true => rw [digP_y hh, List.length_append]; simp; omega
    | false => rw [digP_n hh]; exact ih
def partS (b : Int) (m : VMk) (out : List Int) (q d : Nat) : List Int := stepV b (digI m) (out.take q) ++ oneL b (digP m d) (out.getD q 0)
theorem pts_0 (b : Int) (m : VMk) (out : List Int) (q : Nat) : partS b m out q 0 = partV b (digI m) out q 0 := rfl
theorem pts_y {b : Int} {m : VMk} {out : List Int} {q d : Nat} (h : hasM m d = true) : partS b m out q (d + 1) = partS b m out q d ++ [out.getD q 0 * b + d] := by
  unfold partS oneL
  rw [digP_y h, List.map_append, List.append_assoc]; rfl
theorem pts_n {b : Int} {m : VMk} {out : List Int} {q d : Nat} (h : hasM m d = false) : partS b m out q (d + 1) = partS b m out q d := by unfold partS; rw [digP_n h]
theorem pts_next {b : Int} {m : VMk} {out : List Int} {q d : Nat} (hq : q < out.length) (hd : d ≤ 128) (h : ∀ e, e < 128 → hasM m e = true → e < d) : partS b m out q d = partV b (digI m) out (q + 1) 0 := by
  rw [← ptv_next (r := (digI m).length) hq rfl]
  unfold partS partV
  rw [List.take_length, digP_end hd h]
theorem pts_len {b : Int} {m : VMk} {out : List Int} {q d : Nat} (hq : q < out.length) (hd : d ≤ 128) : (partS b m out q d).length ≤ out.length * (digI m).length := by
  have h1 := digP_le m hd
  have h2 : (digP m 128).length = (digI m).length := rfl
  unfold partS
  rw [List.length_append, stp_len, one_len, List.length_take, Nat.min_eq_left (by omega)]
  have : (q + 1) * (digI m).length ≤ out.length * (digI m).length := Nat.mul_le_mul_right _ (by omega)
  rw [Nat.succ_mul] at this; omega
theorem ptv_le {b : Int} {ds out : List Int} {q : Nat} (hq : q ≤ out.length) : (partV b ds out q 0).length ≤ out.length * ds.length := by
  unfold partV
  rw [List.length_append, stp_len, one_len, List.length_take, Nat.min_eq_left hq, List.take_zero]
  exact Nat.mul_le_mul_right _ hq
theorem val_room {s : List Int} {l : List VMk} (h : PhOk s l) (hs : Stk s) {t : Nat} (ht : t < s.length) : (valW s l t).length ≤ 1000000000000 ∧ (valW s l t).length * (digI (l.getD (s.length - 1 - t) zMk)).length ≤ 1000000000000 := by
  have h1 := valW_le h hs (j := t + 1) (by omega)
  have h0 := valW_le h hs (j := t) (by omega)
  have h2 := cho_le h hs (i := s.length) (Nat.le_refl _)
  rw [valW, stp_len] at h1
  omega
theorem vi_1 {s : List Int} {p : VPh} (h : validPh s p = false) : vinV s p = ([], 1) := by unfold vinV; rw [if_pos h]
theorem vi_3 {s : List Int} {p : VPh} (h : validPh s p = true) (h2 : 400 < choV p.l s.length) : vinV s p = ([], 3) := by unfold vinV; rw [if_neg (by rw [h]; decide), if_pos h2]
theorem vi_0 {s : List Int} {p : VPh} (h : validPh s p = true) (h2 : ¬ 400 < choV p.l s.length) : vinV s p = (valsP s p, 0) := by unfold vinV; rw [if_neg (by rw [h]; decide), if_neg h2]
theorem vi_len (s : List Int) (p : VPh) : (vinV s p).1.length ≤ 400 := by
  cases h : validPh s p with
  | false => rw [vi_1 h]; simp
  | true =>
    by_cases h2 : 400 < choV p.l s.length
    · rw [vi_3 h h2]; simp
    · rw [vi_0 h h2]
      have := valsP_len s p
      show (valsP s p).length ≤ 400
      omega
end Go.W
