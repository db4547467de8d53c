/- What is played, as the program plays it, in plain numbers. -/
import Derived.Test.YthfbmkfbmmjchaaDoorM7
set_option linter.unusedVariables false
set_option linter.unusedSimpArgs false
namespace Go.W
open Go Go.Sx
def notesR (d : VDev) (l : List VAct) : List VNote × Int × Int :=
  if runC d l l.length ≠ 0 then ([], 0, runC d l l.length) else if 1000000000000 < lostD d l l.length then ([], 0, 2) else (notesL d l l.length, lostD d l l.length, 0)
theorem rc_hit {d : VDev} {l : List VAct} {k : Nat} (hk : k < l.length) (h0 : runC d l k = 0) (h : (doV (runD d l k) (l.getD k zA)).2.2 ≠ 0) : runC d l l.length = (doV (runD d l k) (l.getD k zA)).2.2 := by
  have e := rc_go h0
  have := rc_stay (k := k + 1) (by rw [e]; exact h) (l.length - (k + 1))
  rw [show k + 1 + (l.length - (k + 1)) = l.length by omega, e] at this
  exact this
theorem nr_code {d : VDev} {l : List VAct} {k : Nat} (hk : k < l.length) (h0 : runC d l k = 0) (h : (doV (runD d l k) (l.getD k zA)).2.2 ≠ 0) : notesR d l = ([], 0, (doV (runD d l k) (l.getD k zA)).2.2) := by
  have e := rc_hit hk h0 h
  unfold notesR; rw [if_pos (by rw [e]; exact h), e]
theorem nr_over {d : VDev} {l : List VAct} {k : Nat} (hk : ¬ k < l.length) (hk' : k ≤ l.length) (h0 : runC d l k = 0) (h : 1000000000000 < lostD d l k) : notesR d l = ([], 0, 2) := by
  obtain rfl : k = l.length := by omega
  unfold notesR; rw [if_neg (by simp [h0]), if_pos h]
theorem nr_ok {d : VDev} {l : List VAct} {k : Nat} (hk : ¬ k < l.length) (hk' : k ≤ l.length) (h0 : runC d l k = 0) (h : ¬ 1000000000000 < lostD d l k) : notesR d l = (notesL d l k, lostD d l k, 0) := by
  obtain rfl : k = l.length := by omega
  unfold notesR; rw [if_neg (by simp [h0]), if_neg h]
theorem rv_vd {d : VDev} {l : List VAct} (h : validDev d = false) : runV d l = (zDev, [], [], 0, 1) := by
  have e := ask_bad (l := l) h
  rw [rv_ask (by rw [e]; decide), e]
theorem rv_af {d : VDev} {l : List VAct} (h : validDev d = true) (h1 : afault l ≠ 0) : runV d l = (zDev, [], [], 0, afault l) := by
  have e := ask_on (l := l) h
  rw [rv_ask (by rw [e]; exact h1), e]
theorem rv_nc {d : VDev} {l : List VAct} (h : validDev d = true) (h1 : ¬ afault l ≠ 0) (h2 : (notesR d l).2.2 ≠ 0) : runV d l = (zDev, [], [], 0, (notesR d l).2.2) := by
  have e : ¬ askV d l ≠ 0 := by rw [ask_on h]; exact h1
  unfold runV; rw [if_neg e]
  unfold notesR at h2 ⊢
  by_cases h3 : runC d l l.length ≠ 0
  · rw [if_pos h3, if_pos h3]
  · rw [if_neg h3] at h2 ⊢
    by_cases h4 : 1000000000000 < lostD d l l.length
    · rw [if_pos h4, if_neg h3, if_pos h4]
    · rw [if_neg h4] at h2; exact absurd rfl h2
theorem rv_no {d : VDev} {l : List VAct} (h : validDev d = true) (h1 : ¬ afault l ≠ 0) (h2 : ¬ (notesR d l).2.2 ≠ 0) {kd kt : Nat} (hx : runC d l l.length = 0 → kd = l.length ∧ kt = l.length) : runV d l = (runD d l kd, (notesR d l).1, ticsL d l kt, (notesR d l).2.1, 0) := by
  have e : ¬ askV d l ≠ 0 := by rw [ask_on h]; exact h1
  unfold runV; rw [if_neg e]
  unfold notesR at h2 ⊢
  by_cases h3 : runC d l l.length ≠ 0
  · rw [if_pos h3] at h2; exact absurd h3 h2
  · rw [if_neg h3] at h2 ⊢
    obtain ⟨e1, e2⟩ := hx (by omega)
    by_cases h4 : 1000000000000 < lostD d l l.length
    · rw [if_pos h4] at h2; exact absurd (by decide) h2
    · rw [if_neg h4, if_neg h3, if_neg h4, e1, e2]
theorem nr_len (d : VDev) (l : List VAct) : (notesR d l).1.length ≤ l.length := by
  unfold notesR; split
  · simp
  · split
    · simp
    · show (notesL d l l.length).length ≤ _
      rw [notesL_len]; exact Nat.le_refl _
end Go.W
