/- What a device does, in plain numbers. -/
import Derived.Test.YtjopackngkfdhaaM3
set_option linter.unusedVariables false
set_option linter.unusedSimpArgs false
namespace Go.W
open Go Go.Sx
def VDev.v (d : VDev) : Int := val d.stack d.shows.l
def validDev (d : VDev) : Bool := decide (validStack d.stack = true ∧ validDig d.stack d.shows.l = true ∧ (0 ≤ d.tickets ∧ d.tickets ≤ 1000000) ∧ (d.preset = -1 ∨ 0 ≤ d.preset ∧ d.preset ≤ size d.stack - 1) ∧ (d.stopped = true → d.preset = d.v))
structure DevOk (d : VDev) : Prop where
  stk : Stk d.stack
  dig : DigOk d.stack d.shows.l
  vd : validDig d.stack d.shows.l = true
  tick : 0 ≤ d.tickets ∧ d.tickets ≤ 1000000
  preset : d.preset = -1 ∨ 0 ≤ d.preset ∧ d.preset ≤ prod d.stack - 1
  stop : d.stopped = true → d.preset = d.v
theorem devOk {d : VDev} (hn : Nums 255 d.shows.l) (h : validDev d = true) : DevOk d := by
  unfold validDev at h
  rw [decide_eq_true_iff] at h
  obtain ⟨h1, h2, h3, h4, h5⟩ := h
  have hs := Go.W.stk h1
  exact ⟨hs, digOk hs.len8 hn h2, h2, h3, by rw [hs.size_] at h4; exact h4, h5⟩
theorem DevOk.v_lt {d : VDev} (h : DevOk d) : 0 ≤ d.v ∧ d.v < prod d.stack := val_lt h.stk h.dig (by rw [dig_len]; exact h.stk.len8)
/-- How many pulses there are until n is gone through, size at most. -/
def until1 (n size : Int) : Int := if n % size = 0 then size else n % size
theorem until_pos {n z : Int} (hz : 0 < z) : 1 ≤ until1 n z ∧ until1 n z ≤ z := by
  unfold until1
  have h1 := Int.emod_nonneg n (show z ≠ 0 by omega)
  have h2 := Int.emod_lt_of_pos n hz
  split <;> omega
theorem until_big {n z : Int} (hz : 0 < z) (h0 : 0 < n) (h1 : n < z) : until1 n z = n := by
  unfold until1; rw [Int.emod_eq_of_lt (by omega) h1, if_neg (by omega)]
theorem until_small {n z : Int} (hz : 0 < z) (h0 : n ≤ 0) (h1 : -z < n) : until1 n z = n + z := by
  unfold until1
  have e : n % z = if n = 0 then 0 else n + z := by
    split
    · subst n; simp
    · have := Int.add_emod_right n z
      rw [← this, Int.emod_eq_of_lt (by omega) (by omega)]
  rw [e]; split <;> split <;> omega
end Go.W
