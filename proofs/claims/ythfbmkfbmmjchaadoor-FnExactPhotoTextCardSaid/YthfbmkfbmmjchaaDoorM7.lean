/- What is played, in plain numbers. -/
import Derived.Test.YthfbmkfbmmjchaaDoorM6
set_option linter.unusedVariables false
set_option linter.unusedSimpArgs false
namespace Go.W
open Go Go.Sx
def ticV (d : VDev) : VTic := ⟨d.tickets, d.shows, check d.tickets d.shows.l⟩
def runD (d : VDev) (l : List VAct) : Nat → VDev
  | 0 => d
  | k + 1 => (doV (runD d l k) (l.getD k zA)).1
def lostD (d : VDev) (l : List VAct) : Nat → Int
  | 0 => 0
  | k + 1 => lostD d l k + (doV (runD d l k) (l.getD k zA)).2.1
def notesL (d : VDev) (l : List VAct) : Nat → List VNote
  | 0 => []
  | k + 1 => notesL d l k ++ [⟨l.getD k zA, (doV (runD d l k) (l.getD k zA)).1.shows, (doV (runD d l k) (l.getD k zA)).2.1⟩]
def ticsL (d : VDev) (l : List VAct) : Nat → List VTic
  | 0 => []
  | k + 1 => if (l.getD k zA).kind = 5 then ticsL d l k ++ [ticV (doV (runD d l k) (l.getD k zA)).1] else ticsL d l k
def runC (d : VDev) (l : List VAct) : Nat → Int
  | 0 => 0
  | k + 1 => if runC d l k ≠ 0 then runC d l k else (doV (runD d l k) (l.getD k zA)).2.2
theorem runD_stack (d : VDev) (l : List VAct) : ∀ k, (runD d l k).stack = d.stack
  | 0 => rfl
  | k + 1 => by rw [runD, do_stack, runD_stack d l k]
theorem notesL_len (d : VDev) (l : List VAct) : ∀ k, (notesL d l k).length = k
  | 0 => rfl
  | k + 1 => by rw [notesL, List.length_append, notesL_len d l k]; rfl
theorem ticsL_len (d : VDev) (l : List VAct) : ∀ k, (ticsL d l k).length ≤ k
  | 0 => by simp [ticsL]
  | k + 1 => by
    have := ticsL_len d l k
    rw [ticsL]; split
    · rw [List.length_append]; simp; omega
    · omega
theorem tl_5 {d : VDev} {l : List VAct} {k : Nat} (h : (l.getD k zA).kind = 5) : ticsL d l (k + 1) = ticsL d l k ++ [ticV (doV (runD d l k) (l.getD k zA)).1] := by rw [ticsL, if_pos h]
theorem tl_n {d : VDev} {l : List VAct} {k : Nat} (h : ¬ (l.getD k zA).kind = 5) : ticsL d l (k + 1) = ticsL d l k := by rw [ticsL, if_neg h]
theorem rc_go {d : VDev} {l : List VAct} {k : Nat} (h : runC d l k = 0) : runC d l (k + 1) = (doV (runD d l k) (l.getD k zA)).2.2 := by rw [runC, if_neg (by simp [h])]
theorem rc_stay {d : VDev} {l : List VAct} {k : Nat} (h : runC d l k ≠ 0) : ∀ j, runC d l (k + j) = runC d l k
  | 0 => rfl
  | j + 1 => by
    have := rc_stay h j
    rw [show k + (j + 1) = (k + j) + 1 by omega, runC, if_pos (by rw [this]; exact h), this]
theorem run_ok {d : VDev} {l : List VAct} (hk : OkDev d) (hv : validDev d = true) (ha : ∀ i, i < l.length → validAct (l.getD i zA) = true) : ∀ k, k ≤ l.length → OkDev (runD d l k) ∧ validDev (runD d l k) = true
  | 0, _ => ⟨hk, hv⟩
  | k + 1, h => by
    have := run_ok hk hv ha k (by omega)
    exact do_ok this.1 this.2 (ha k (by omega))
theorem until_ge {d : VDev} (hO : DevOk d) (st : Int) : 1 ≤ untilV d st := (until_bd hO st).1
theorem pulse_lost {d : VDev} {n st : Int} (hO : DevOk d) (hn : 0 ≤ n ∧ n ≤ 1000000000000) : 0 ≤ (pulseV d n st).2 ∧ (pulseV d n st).2 ≤ 1000000000000 := by
  have hu := until_ge hO st
  unfold pulseV
  split
  · exact hn
  · split
    · rename_i h1 h2
      show 0 ≤ n - untilV d st ∧ n - untilV d st ≤ 1000000000000
      omega
    · show (0 : Int) ≤ 0 ∧ (0 : Int) ≤ 1000000000000
      omega
theorem do_lost {d : VDev} {a : VAct} (hk : OkDev d) (hv : validDev d = true) (ha : validAct a = true) : 0 ≤ (doV d a).2.1 ∧ (doV d a).2.1 ≤ 1000000000000 := by
  have hO := devOk hk.2.2.1 hv
  have han := act_n ha
  have hz : (0 : Int) ≤ 0 ∧ (0 : Int) ≤ 1000000000000 := by omega
  unfold doV
  split
  · exact pulse_lost hO (han.1 (.inl (by assumption)))
  · split
    · exact pulse_lost hO (han.1 (.inr (by assumption)))
    · split
      · split
        · exact hz
        · exact hz
      · split
        · exact hz
        · split
          · split
            · exact hz
            · exact hz
          · exact hz
theorem lost_bd {d : VDev} {l : List VAct} (hk : OkDev d) (hv : validDev d = true) (ha : ∀ i, i < l.length → validAct (l.getD i zA) = true) : ∀ k, k ≤ l.length → 0 ≤ lostD d l k ∧ lostD d l k ≤ k * 1000000000000
  | 0, _ => by simp [lostD]
  | k + 1, h => by
    have h1 := lost_bd hk hv ha k (by omega)
    have h2 := run_ok hk hv ha k (by omega)
    have h3 := do_lost h2.1 h2.2 (ha k (by omega))
    rw [lostD]; omega
def askV (d : VDev) (l : List VAct) : Int := if validDev d = false then 1 else afault l
theorem ask_bad {d : VDev} {l : List VAct} (h : validDev d = false) : askV d l = 1 := by unfold askV; rw [if_pos h]
theorem ask_on {d : VDev} {l : List VAct} (h : validDev d = true) : askV d l = afault l := by unfold askV; rw [if_neg (by simp [h])]
theorem ask_zero {d : VDev} {l : List VAct} (h : ¬ askV d l ≠ 0) : validDev d = true ∧ (∀ i, i < l.length → validAct (l.getD i zA) = true) ∧ l.length ≤ 60 := by
  unfold askV at h
  split at h
  · exact absurd (by decide) h
  · rename_i h1
    have := af_zero h
    exact ⟨by simpa using h1, this.1, this.2⟩
def runV (d : VDev) (l : List VAct) : VDev × List VNote × List VTic × Int × Int :=
  if askV d l ≠ 0 then (zDev, [], [], 0, askV d l)
  else if runC d l l.length ≠ 0 then (zDev, [], [], 0, runC d l l.length)
  else if 1000000000000 < lostD d l l.length then (zDev, [], [], 0, 2)
  else (runD d l l.length, notesL d l l.length, ticsL d l l.length, lostD d l l.length, 0)
theorem rv_ask {d : VDev} {l : List VAct} (h : askV d l ≠ 0) : runV d l = (zDev, [], [], 0, askV d l) := by unfold runV; rw [if_pos h]
theorem rv_code {d : VDev} {l : List VAct} {k : Nat} (h : ¬ askV d l ≠ 0) (hk : k ≤ l.length) (h1 : runC d l k ≠ 0) : runV d l = (zDev, [], [], 0, runC d l k) := by
  have e := rc_stay h1 (l.length - k)
  rw [show k + (l.length - k) = l.length by omega] at e
  unfold runV; rw [if_neg h, if_pos (by rw [e]; exact h1), e]
theorem rv_over {d : VDev} {l : List VAct} {k : Nat} (h : ¬ askV d l ≠ 0) (hk : k = l.length) (h1 : runC d l k = 0) (h2 : 1000000000000 < lostD d l k) : runV d l = (zDev, [], [], 0, 2) := by
  subst hk; unfold runV; rw [if_neg h, if_neg (by simp [h1]), if_pos h2]
theorem rv_ok {d : VDev} {l : List VAct} {k : Nat} (h : ¬ askV d l ≠ 0) (hk : k = l.length) (h1 : runC d l k = 0) (h2 : ¬ 1000000000000 < lostD d l k) : runV d l = (runD d l k, notesL d l k, ticsL d l k, lostD d l k, 0) := by
  subst hk; unfold runV; rw [if_neg h, if_neg (by simp [h1]), if_neg h2]
def sumN (ns : List VNote) : Nat → Int
  | 0 => 0
  | k + 1 => sumN ns k + (ns.getD k zN).lost
theorem notesL_at (d : VDev) (l : List VAct) : ∀ k i, i < k → (notesL d l k).getD i zN = ⟨l.getD i zA, (doV (runD d l i) (l.getD i zA)).1.shows, (doV (runD d l i) (l.getD i zA)).2.1⟩
  | k + 1, i, h => by
    have hl := notesL_len d l k
    rw [notesL]
    rcases Nat.lt_or_ge i k with hi | hi
    · rw [show (notesL d l k ++ [(⟨l.getD k zA, (doV (runD d l k) (l.getD k zA)).1.shows, (doV (runD d l k) (l.getD k zA)).2.1⟩ : VNote)]).getD i zN = (notesL d l k).getD i zN by simp only [List.getD, List.getElem?_append_left (show i < (notesL d l k).length by omega)]]
      exact notesL_at d l k i hi
    · obtain rfl : i = k := by omega
      simp only [List.getD, List.getElem?_append_right (show (notesL d l i).length ≤ i by omega), hl, Nat.sub_self]; rfl
theorem sumN_notes (d : VDev) (l : List VAct) (n : Nat) : ∀ k, k ≤ n → sumN (notesL d l n) k = lostD d l k
  | 0, _ => rfl
  | k + 1, h => by rw [sumN, lostD, sumN_notes d l n k (by omega), notesL_at d l n k (by omega)]
/-- What a run's notes are known to be. -/
def NotesOk (ns : List VNote) (s : Int) : Prop := ns.length ≤ 60 ∧ sumN ns ns.length = s ∧ ∀ k, k ≤ ns.length → 0 ≤ sumN ns k ∧ sumN ns k ≤ k * 1000000000000
theorem run_notes {d : VDev} {l : List VAct} (hk : OkDev d) : NotesOk (runV d l).2.1 (runV d l).2.2.2.1 := by
  have hnil : NotesOk [] 0 := ⟨by simp, rfl, fun k hk => by simp at hk; subst hk; simp [sumN]⟩
  unfold runV
  split
  · exact hnil
  · rename_i h
    obtain ⟨hv, ha, hn⟩ := ask_zero h
    split
    · exact hnil
    · split
      · exact hnil
      · refine ⟨by show (notesL d l l.length).length ≤ 60; rw [notesL_len]; exact hn, ?_, fun k hkl => ?_⟩
        · show sumN (notesL d l l.length) (notesL d l l.length).length = lostD d l l.length
          rw [notesL_len]; exact sumN_notes d l _ _ (Nat.le_refl _)
        · have hkl : k ≤ (notesL d l l.length).length := hkl
          rw [notesL_len] at hkl
          show 0 ≤ sumN (notesL d l l.length) k ∧ sumN (notesL d l l.length) k ≤ k * 1000000000000
          rw [sumN_notes d l _ _ hkl]; exact lost_bd hk hv ha k hkl
theorem rv_tics (d : VDev) (l : List VAct) : (runV d l).2.2.1.length ≤ l.length := by
  unfold runV
  split
  · simp
  · split
    · simp
    · split
      · simp
      · exact ticsL_len d l _
theorem rv_stack (d : VDev) (l : List VAct) : (runV d l).1.stack.length ≤ d.stack.length := by
  unfold runV
  split
  · simp [zDev]
  · split
    · simp [zDev]
    · split
      · simp [zDev]
      · show (runD d l l.length).stack.length ≤ _
        rw [runD_stack]; exact Nat.le_refl _
/-- A ticket asked for. -/
def a5 : VAct := ⟨5, 0⟩
def printV (d : VDev) : VDev × VTic × Int := if (doActV d a5).2.2 ≠ 0 then (zDev, zT, (doActV d a5).2.2) else ((doActV d a5).1, ticV (doActV d a5).1, 0)
theorem pr_no {d : VDev} (h : (doActV d a5).2.2 ≠ 0) : printV d = (zDev, zT, (doActV d a5).2.2) := by unfold printV; rw [if_pos h]
theorem pr_ok {d : VDev} (h : ¬ (doActV d a5).2.2 ≠ 0) : printV d = ((doActV d a5).1, ticV (doActV d a5).1, 0) := by unfold printV; rw [if_neg h]
theorem do5_lost (d : VDev) : (doV d a5).2.1 = 0 := by
  by_cases h : d.tickets = 1000000
  · rw [do_5n rfl h]
  · rw [do_5 rfl h]
theorem run_5 (d : VDev) : (runV d [a5]).2.2.2.2 = (doActV d a5).2.2 ∧ (¬ (doActV d a5).2.2 ≠ 0 → (runV d [a5]).1 = (doActV d a5).1 ∧ (runV d [a5]).2.2.1 = [ticV (doActV d a5).1]) := by
  have hva : validAct a5 = true := by decide
  have hl : lostD d [a5] 1 = 0 := by show 0 + (doV d a5).2.1 = 0; rw [do5_lost]; rfl
  have hc : runC d [a5] 1 = (doV d a5).2.2 := rc_go rfl
  cases hv : validDev d with
  | false =>
    have e := ask_bad (l := [a5]) hv
    rw [rv_ask (by rw [e]; decide), e, da_bad (by simp [hv])]
    exact ⟨rfl, fun h => absurd (by decide) h⟩
  | true =>
    have e : ¬ askV d [a5] ≠ 0 := by rw [ask_on hv]; decide
    by_cases h : (doV d a5).2.2 ≠ 0
    · rw [rv_code (k := 1) e (by simp) (by rw [hc]; exact h), hc, da_no ⟨hv, hva⟩ h]
      exact ⟨rfl, fun h1 => absurd h h1⟩
    · rw [rv_ok (k := 1) e rfl (by rw [hc]; omega) (by rw [hl]; omega), da_ok ⟨hv, hva⟩ h]
      exact ⟨by show (0 : Int) = _; omega, fun _ => ⟨rfl, tl_5 (d := d) (l := [a5]) (k := 0) rfl⟩⟩
def okB (d : VDev) (l : List VAct) : Nat → Bool
  | 0 => validDev d
  | k + 1 => validAct (l.getD k zA)
theorem ok_all {d : VDev} {l : List VAct} {k : Nat} (hk : k ≤ l.length) (hall : ∀ i, i < k → okB d l i = true) (h : okB d l k = true) : validDev d = true ∧ ∀ i, i < k → validAct (l.getD i zA) = true := by
  have h1 : ∀ i, i ≤ k → okB d l i = true := fun i hi => by
    rcases Nat.lt_or_ge i k with h2 | h2
    · exact hall i h2
    · obtain rfl : i = k := by omega
      exact h
  exact ⟨h1 0 (by omega), fun i hi => h1 (i + 1) (by omega)⟩
theorem ask_f {d : VDev} {l : List VAct} {k : Nat} (hk : k ≤ l.length) (hall : ∀ i, i < k → okB d l i = true) (h : okB d l k = false) : 1 = askV d l := by
  cases k with
  | zero => exact (ask_bad h).symm
  | succ k =>
    have h1 := ok_all (k := k) (by omega) (fun i hi => hall i (by omega)) (hall k (by omega))
    rw [ask_on h1.1]
    exact (af_bad' (k := k) (by omega) h).symm
theorem ask_t {d : VDev} {l : List VAct} {k : Nat} (hk' : ¬ k < l.length) (hk : k ≤ l.length) (hall : ∀ i, i < k → okB d l i = true) (h : okB d l k = true) : validDev d = true ∧ l.any badA = false := by
  have h1 := ok_all hk hall h
  exact ⟨h1.1, any_bad_f hk' h1.2⟩
theorem ask_3 {d : VDev} {l : List VAct} {k : Nat} (hk' : ¬ k < l.length) (hk : k ≤ l.length) (hall : ∀ i, i < k → okB d l i = true) (h : okB d l k = true) (h1 : 60 < (l.length : Int)) : 3 = askV d l := by
  have h2 := ask_t hk' hk hall h
  rw [ask_on h2.1]; exact af_long h2.2 h1
theorem ask_0 {d : VDev} {l : List VAct} {k : Nat} (hk' : ¬ k < l.length) (hk : k ≤ l.length) (hall : ∀ i, i < k → okB d l i = true) (h : okB d l k = true) (h1 : ¬ 60 < (l.length : Int)) : 0 = askV d l := by
  have h2 := ask_t hk' hk hall h
  rw [ask_on h2.1]; exact af_ok h2.2 h1
def cdV (d : VDev) (l : List VAct) (k : Nat) : Int := if askV d l ≠ 0 then askV d l else runC d l k
theorem cd_0 (d : VDev) (l : List VAct) : cdV d l 0 = askV d l := by
  unfold cdV; split
  · rfl
  · rename_i h; show (0 : Int) = _; omega
theorem cd_zero {d : VDev} {l : List VAct} {k : Nat} (h : cdV d l k = 0) : ¬ askV d l ≠ 0 ∧ runC d l k = 0 := by
  unfold cdV at h; split at h
  · rename_i h1; exact absurd h h1
  · rename_i h1; exact ⟨h1, h⟩
theorem cd_go {d : VDev} {l : List VAct} {k : Nat} (h : cdV d l k = 0) : cdV d l (k + 1) = (doV (runD d l k) (l.getD k zA)).2.2 := by
  obtain ⟨h1, h2⟩ := cd_zero h
  unfold cdV; rw [if_neg h1, rc_go h2]
theorem rv_cd {d : VDev} {l : List VAct} {k : Nat} (hk : k ≤ l.length) (h : cdV d l k ≠ 0) : runV d l = (zDev, [], [], 0, cdV d l k) := by
  by_cases h1 : askV d l ≠ 0
  · rw [rv_ask h1, show cdV d l k = askV d l from if_pos h1]
  · have e : cdV d l k = runC d l k := if_neg h1
    rw [e] at h ⊢
    exact rv_code h1 hk h
theorem rv_cover {d : VDev} {l : List VAct} {k : Nat} (hk' : ¬ k < l.length) (hk : k ≤ l.length) (h : cdV d l k = 0) (h2 : 1000000000000 < lostD d l k) : runV d l = (zDev, [], [], 0, 2) :=
  rv_over (cd_zero h).1 (by omega) (cd_zero h).2 h2
theorem rv_cok {d : VDev} {l : List VAct} {k : Nat} (hk' : ¬ k < l.length) (hk : k ≤ l.length) (h : cdV d l k = 0) (h2 : ¬ 1000000000000 < lostD d l k) : runV d l = (runD d l k, notesL d l k, ticsL d l k, lostD d l k, 0) :=
  rv_ok (cd_zero h).1 (by omega) (cd_zero h).2 h2
theorem da_dev {d : VDev} {a : VAct} (hk : OkDev d) (h : ¬ (doActV d a).2.2 ≠ 0) : OkDev (doActV d a).1 ∧ validDev (doActV d a).1 = true := by
  by_cases h1 : validDev d = true ∧ validAct a = true
  · by_cases h2 : (doV d a).2.2 ≠ 0
    · rw [da_no h1 h2] at h; exact absurd h2 h
    · rw [da_ok h1 h2]; exact do_ok hk h1.1 h1.2
  · rw [da_bad h1] at h; exact absurd (by decide) h
theorem a5_ok : OkAct a5 := by unfold OkAct I64 a5; decide
theorem prs_no {d : VDev} (h : (runV d [a5]).2.2.2.2 ≠ 0) : printV d = (zDev, zT, (runV d [a5]).2.2.2.2) := by
  have e := (run_5 d).1
  rw [pr_no (by rw [← e]; exact h), e]
theorem prs_ok {d : VDev} (h : ¬ (runV d [a5]).2.2.2.2 ≠ 0) : printV d = ((runV d [a5]).1, (runV d [a5]).2.2.1.getD 0 zT, 0) := by
  have e := (run_5 d).1
  have h1 : ¬ (doActV d a5).2.2 ≠ 0 := by rw [← e]; exact h
  obtain ⟨e1, e2⟩ := (run_5 d).2 h1
  rw [pr_ok h1, e1, e2]; rfl
theorem prs_len (d : VDev) : (runV d [a5]).2.2.2.2 ≠ 0 ∨ 0 < (runV d [a5]).2.2.1.length := by
  by_cases h : (runV d [a5]).2.2.2.2 ≠ 0
  · exact .inl h
  · refine .inr ?_
    have e := (run_5 d).1
    obtain ⟨e1, e2⟩ := (run_5 d).2 (by rw [← e]; exact h)
    rw [e2]; simp
theorem pr_stack (d : VDev) : (printV d).1.stack.length ≤ d.stack.length := by
  unfold printV; split
  · simp [zDev]
  · exact da_len d a5
end Go.W
