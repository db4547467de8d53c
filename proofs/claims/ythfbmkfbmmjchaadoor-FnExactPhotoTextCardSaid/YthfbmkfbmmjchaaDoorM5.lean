/- Devices behind acts, in plain numbers. -/
import Derived.Test.YthfbmkfbmmjchaaDoorM4
set_option linter.unusedVariables false
set_option linter.unusedSimpArgs false
namespace Go.W
open Go Go.Sx
theorem nums_zero : Nums 255 zDig.l := fun x hx => by simp [zDig, Dig.l] at hx; omega
theorem addD_l {s : List Int} {a : Dig} {n : Int} : (addD s a n).l = digs s ((val s a.l + n) % size s) := dig_l (digs_len _ _)
theorem addD_num {s : List Int} {a : Dig} {n : Int} (h : Stk s) : Nums 255 (addD s a n).l := by rw [addD_l]; exact digs_num h.bases
theorem addD_valid {s : List Int} {a : Dig} {n : Int} (h : Stk s) : validDig s (addD s a n).l = true := by rw [addD_l]; exact digs_valid h
theorem addD_val {s : List Int} {a : Dig} {n : Int} (h : Stk s) : val s (addD s a n).l = (val s a.l + n) % prod s := by
  rw [addD_l, val_of h, h.size_, Int.emod_emod_of_dvd _ (Int.dvd_refl _)]
theorem until_hits {d : VDev} (h : DevOk d) (hp : d.preset ≠ -1) {st : Int} (hst : st = 1 ∨ st = -1) : (d.v + st * untilV d st) % prod d.stack = d.preset := by
  have hp0 : 0 ≤ d.preset ∧ d.preset ≤ prod d.stack - 1 := by have := h.preset; omega
  have hpos := h.stk.pos
  have key : st * untilV d st % prod d.stack = (d.preset - d.v) % prod d.stack := by
    unfold untilV until1
    have e : st * (st * (d.preset - d.v)) = d.preset - d.v := by rcases hst with rfl | rfl <;> omega
    split
    · rename_i h0
      have h1 : (st * (st * (d.preset - d.v))) % prod d.stack = 0 := by rw [Int.mul_emod, h0]; simp
      rw [e] at h1
      rw [h1, Int.mul_emod_left]
    · rw [Int.mul_emod, Int.emod_emod_of_dvd _ (Int.dvd_refl _), ← Int.mul_emod, e]
  rw [Int.add_emod, key, ← Int.add_emod, show d.v + (d.preset - d.v) = d.preset by omega, Int.emod_eq_of_lt (by omega) (by omega)]
theorem validDev_of {d : VDev} (hs : validStack d.stack = true) (hd : validDig d.stack d.shows.l = true) (ht : 0 ≤ d.tickets ∧ d.tickets ≤ 1000000) (hp : d.preset = -1 ∨ 0 ≤ d.preset ∧ d.preset ≤ size d.stack - 1) (hst : d.stopped = true → d.preset = d.v) : validDev d = true := by
  unfold validDev; rw [decide_eq_true_iff]; exact ⟨hs, hd, ht, hp, hst⟩
theorem validDig_zero {s : List Int} (h : Stk s) : validDig s zDig.l = true := by
  have := digs_valid (v := 0) h
  have e : digs s 0 = zDig.l := by
    refine List.ext_getElem? fun i => ?_
    rcases Nat.lt_or_ge i 8 with hi | hi
    · have e1 : (digs s 0)[i]? = some ((digs s 0).getD i 0) := by simp [List.getD, digs_len, hi]
      have e2 : zDig.l[i]? = some 0 := by
        match i, hi with
        | 0, _ | 1, _ | 2, _ | 3, _ | 4, _ | 5, _ | 6, _ | 7, _ => rfl
      rw [e1, e2, digs_at hi]
      split
      · simp [dAt]
      · rfl
    · rw [List.getElem?_eq_none (by simp [digs_len]; omega), List.getElem?_eq_none (by rw [dig_len]; omega)]
  rwa [e] at this
theorem val_zero {s : List Int} (h : Stk s) : val s zDig.l = 0 := by
  have key : ∀ (s l : List Int), (∀ i, l.getD i 0 = 0) → val s l = 0 := by
    intro s
    induction s with
    | nil => intro l _; rfl
    | cons b s ih =>
      intro l hl
      have h0 := hl 0
      have ht : ∀ i, l.tail.getD i 0 = 0 := fun i => by have := hl (i + 1); cases l with | nil => simp | cons x t => simpa using this
      simp only [val, ih _ ht]
      cases l with
      | nil => simp
      | cons x t => simp at h0 ⊢; exact h0
  refine key _ _ fun i => ?_
  rcases Nat.lt_or_ge i 8 with hi | hi
  · match i, hi with
    | 0, _ | 1, _ | 2, _ | 3, _ | 4, _ | 5, _ | 6, _ | 7, _ => rfl
  · simp [List.getD, List.getElem?_eq_none (show zDig.l.length ≤ i by rw [dig_len]; exact hi)]
theorem OkDev.mk' {d : VDev} (h : OkDev d) {d' : VDev} (hs : d'.stack = d.stack) (hn : Nums 255 d'.shows.l) (hp : I64 d'.preset) (ht : I64 d'.tickets) : OkDev d' := by
  unfold OkDev at h ⊢; rw [hs]; exact ⟨h.1, h.2.1, hn, hp, ht⟩
theorem pulse_ok {d : VDev} {n st : Int} (hk : OkDev d) (hv : validDev d = true) (hst : st = 1 ∨ st = -1) : OkDev (pulseV d n st).1 ∧ validDev (pulseV d n st).1 = true := by
  have hO := devOk hk.2.2.1 hv
  have hvs : validStack d.stack = true := by unfold validDev at hv; rw [decide_eq_true_iff] at hv; exact hv.1
  have hz := sizeS hO
  unfold pulseV
  split
  · exact ⟨hk, hv⟩
  · split
    · rename_i h1 h2
      refine ⟨hk.mk' rfl (addD_num hO.stk) hk.2.2.2.1 hk.2.2.2.2, validDev_of hvs (addD_valid hO.stk) hO.tick (by rw [hz]; exact hO.preset) (fun _ => ?_)⟩
      show d.preset = val d.stack (addD d.stack d.shows (st * untilV d st)).l
      rw [addD_val hO.stk]
      exact (until_hits hO h2.1 hst).symm
    · rename_i h1 h2
      exact ⟨hk.mk' rfl (addD_num hO.stk) hk.2.2.2.1 hk.2.2.2.2, validDev_of hvs (addD_valid hO.stk) hO.tick (by rw [hz]; exact hO.preset) (fun h => absurd h h1)⟩
theorem do_ok {d : VDev} {a : VAct} (hk : OkDev d) (hv : validDev d = true) (ha : validAct a = true) : OkDev (doV d a).1 ∧ validDev (doV d a).1 = true := by
  have hO := devOk hk.2.2.1 hv
  have hvs : validStack d.stack = true := by unfold validDev at hv; rw [decide_eq_true_iff] at hv; exact hv.1
  have hz := sizeS hO
  have hle := hO.stk.le
  have han := act_n ha
  unfold doV
  split
  · exact pulse_ok hk hv (.inl rfl)
  · split
    · exact pulse_ok hk hv (.inr rfl)
    · split
      · split
        · exact ⟨hk, hv⟩
        · rename_i h3 h4
          have hn : a.n = -1 ∨ 0 ≤ a.n ∧ a.n ≤ size d.stack - 1 := by omega
          refine ⟨hk.mk' rfl hk.2.2.1 (show I64 a.n by unfold I64; omega) hk.2.2.2.2, validDev_of hvs hO.vd hO.tick hn (fun h => ?_)⟩
          show a.n = d.v
          have h : decide (a.n = d.v) = true := h
          exact of_decide_eq_true h
      · split
        · refine ⟨hk.mk' rfl nums_zero hk.2.2.2.1 hk.2.2.2.2, validDev_of hvs (validDig_zero hO.stk) hO.tick (by rw [hz]; exact hO.preset) (fun h => ?_)⟩
          show d.preset = val d.stack zDig.l
          have h : decide (d.preset = 0) = true := h
          rw [val_zero hO.stk]; exact of_decide_eq_true h
        · split
          · split
            · exact ⟨hk, hv⟩
            · have ht := hO.tick
              refine ⟨hk.mk' rfl hk.2.2.1 hk.2.2.2.1 (show I64 (d.tickets + 1) by unfold I64; omega), validDev_of hvs hO.vd (show 0 ≤ d.tickets + 1 ∧ d.tickets + 1 ≤ 1000000 by omega) (by rw [hz]; exact hO.preset) hO.stop⟩
          · exact ⟨hk, hv⟩
/-- The device behind the first i acts of notes. -/
def nowN (d : VDev) (l : List VNote) : Nat → VDev
  | 0 => d
  | i + 1 => (doV (nowN d l i) (l.getD i zN).act).1
theorem nowN_stack (d : VDev) (l : List VNote) : ∀ i, (nowN d l i).stack = d.stack
  | 0 => rfl
  | i + 1 => by rw [nowN, do_stack, nowN_stack d l i]
def badN (d : VDev) (l : List VNote) (i : Nat) : Bool := decide (validAct (l.getD i zN).act = false ∨ (doV (nowN d l i) (l.getD i zN).act).2.2 ≠ 0 ∨ (doV (nowN d l i) (l.getD i zN).act).2.1 ≠ (l.getD i zN).lost ∨ (doV (nowN d l i) (l.getD i zN).act).1.shows.l ≠ (l.getD i zN).shows.l)
theorem badN_t {d : VDev} {l : List VNote} {i : Nat} (h : validAct (l.getD i zN).act = false ∨ (doV (nowN d l i) (l.getD i zN).act).2.2 ≠ 0 ∨ (doV (nowN d l i) (l.getD i zN).act).2.1 ≠ (l.getD i zN).lost ∨ (doV (nowN d l i) (l.getD i zN).act).1.shows.l ≠ (l.getD i zN).shows.l) : badN d l i = true := by unfold badN; rw [decide_eq_true_iff]; exact h
theorem badN_f {d : VDev} {l : List VNote} {i : Nat} (h : ¬ (validAct (l.getD i zN).act = false ∨ (doV (nowN d l i) (l.getD i zN).act).2.2 ≠ 0 ∨ (doV (nowN d l i) (l.getD i zN).act).2.1 ≠ (l.getD i zN).lost ∨ (doV (nowN d l i) (l.getD i zN).act).1.shows.l ≠ (l.getD i zN).shows.l)) : badN d l i = false := by unfold badN; rw [decide_eq_false_iff_not]; exact h
def firstWrong (d : VDev) (l : List VNote) : Int × Int := if validDev d = false then (0, 1) else if 60 < (l.length : Int) then (0, 3) else at2 (firstB (badN d l) l.length)
theorem fw_bad {d : VDev} {l : List VNote} (h : validDev d = false) : firstWrong d l = (0, 1) := by unfold firstWrong; rw [if_pos h]
theorem fw_long {d : VDev} {l : List VNote} (h : validDev d = true) (h1 : 60 < (l.length : Int)) : firstWrong d l = (0, 3) := by unfold firstWrong; rw [if_neg (by simp [h]), if_pos h1]
theorem fw_on {d : VDev} {l : List VNote} (h : validDev d = true) (h1 : ¬ 60 < (l.length : Int)) : firstWrong d l = at2 (firstB (badN d l) l.length) := by unfold firstWrong; rw [if_neg (by simp [h]), if_neg h1]
end Go.W
namespace Go.W
open Go Go.Sx
theorem nsame {a : VNote} {s : Dig} {x : Int} (h : (!sameN a ⟨a.act, s, x⟩) = true) : x ≠ a.lost ∨ s.l ≠ a.shows.l := by
  simp only [sameN, sameA, Bool.not_eq_true', decide_eq_false_iff_not, decide_eq_true_eq, true_and, and_self] at h
  by_cases h1 : x = a.lost
  · right; intro h2; exact h ⟨h2.symm, h1.symm⟩
  · exact .inl h1
theorem ysame {a : VNote} {s : Dig} {x : Int} (h : (!sameN a ⟨a.act, s, x⟩) = false) : x = a.lost ∧ s.l = a.shows.l := by
  simp only [sameN, sameA, Bool.not_eq_false', decide_eq_true_eq, true_and, and_self] at h
  exact ⟨h.2.symm, h.1.symm⟩
end Go.W
namespace Go.W
open Go Go.Sx
/-- The acts of k batches. -/
def batchL (n : Int) : Nat → List VAct
  | 0 => [⟨4, 0⟩]
  | k + 1 => batchL n k ++ [⟨3, n⟩, ⟨1, n⟩, ⟨5, 0⟩, ⟨4, 0⟩]
theorem batchL_len (n : Int) : ∀ k, (batchL n k).length = 1 + 4 * k
  | 0 => rfl
  | k + 1 => by rw [batchL, List.length_append, batchL_len n k]; simp; omega
def batchV (d : VDev) (n k : Int) : List VAct × Int := if validDev d = false then ([], 1) else if ¬ ((1 ≤ n ∧ n ≤ size d.stack - 1) ∧ (0 ≤ k ∧ k ≤ 60)) then ([], 2) else if 60 < 1 + 4 * k then ([], 3) else (batchL n k.toNat, 0)
theorem bt_bad {d : VDev} {n k : Int} (h : validDev d = false) : batchV d n k = ([], 1) := by unfold batchV; rw [if_pos h]
theorem bt_range {d : VDev} {n k : Int} (h : validDev d = true) (h1 : ¬ ((1 ≤ n ∧ n ≤ size d.stack - 1) ∧ (0 ≤ k ∧ k ≤ 60))) : batchV d n k = ([], 2) := by unfold batchV; rw [if_neg (by simp [h]), if_pos h1]
theorem bt_long {d : VDev} {n k : Int} (h : validDev d = true) (h1 : (1 ≤ n ∧ n ≤ size d.stack - 1) ∧ (0 ≤ k ∧ k ≤ 60)) (h2 : 60 < 1 + 4 * k) : batchV d n k = ([], 3) := by unfold batchV; rw [if_neg (by simp [h]), if_neg (fun h => h h1), if_pos h2]
theorem bt_ok {d : VDev} {n : Int} {j : Nat} (h : validDev d = true) (h1 : (1 ≤ n ∧ n ≤ size d.stack - 1) ∧ (0 ≤ (j : Int) ∧ (j : Int) ≤ 60)) (h2 : ¬ 60 < 1 + 4 * (j : Int)) : batchV d n j = (batchL n j, 0) := by unfold batchV; rw [if_neg (by simp [h]), if_neg (fun h => h h1), if_neg h2]; rfl
end Go.W
namespace Go.W
open Go Go.Sx
def mkA (n : Nat) (k : Int) : List VAct := (List.range n).map fun (i : Nat) => ⟨IntKind.i8.wrap (k + 2 * (i : Int)), k + 2 * (i : Int) + 1⟩
theorem mkA_len (n : Nat) (k : Int) : (mkA n k).length = n := by simp [mkA]
theorem mkA_at {n : Nat} {k : Int} {i : Nat} (h : i < n) : (mkA n k).getD i zA = ⟨IntKind.i8.wrap (k + 2 * (i : Int)), k + 2 * (i : Int) + 1⟩ := by simp [mkA, List.getD, h]
theorem mkA_cell {n : Nat} {k : Int} {i j : Nat} (h : i < n) (hj : j < 2) : ((mkA n k).flatMap encA)[i * 2 + j]? = (encA ⟨IntKind.i8.wrap (k + 2 * (i : Int)), k + 2 * (i : Int) + 1⟩)[j]? := by
  rw [flat_get encA_len zA _ _ _ (by rw [mkA_len]; exact h) hj, mkA_at h]
end Go.W
