/- Lists laid one behind the other. -/
import Derived.Test.YtplljnddhkleaaaM34
import Derived.Test.YtplljnddhkleaaaF6
set_option linter.unusedVariables false
set_option linter.unusedSimpArgs false
namespace Go.W
open Go Go.Sx
def catX {α : Type} (K : List (VX α)) (k : Nat) : List α := (K.take k).flatMap (·.xs)
section
variable {α : Type} {K : List (VX α)} {k : Nat}
theorem catX_0 : catX K 0 = [] := by simp [catX]
theorem catX_s (h : k < K.length) : catX K (k + 1) = catX K k ++ (K.getD k zX).xs := by
  unfold catX
  rw [List.take_succ_eq_append_getElem h, List.flatMap_append]
  simp [List.getD, h]
theorem catX_sl (h : k < K.length) : (catX K (k + 1)).length = (catX K k).length + (K.getD k zX).xs.length := by rw [catX_s h, List.length_append]
theorem catX_mono (h : k ≤ K.length) : (catX K k).length ≤ (catX K K.length).length := by
  obtain ⟨j, hj⟩ : ∃ j, K.length = k + j := ⟨K.length - k, by omega⟩
  have key : ∀ j, k + j ≤ K.length → (catX K k).length ≤ (catX K (k + j)).length := by
    intro j
    induction j with
    | zero => intro _; exact Nat.le_refl _
    | succ j ih =>
      intro h2
      have := ih (by omega)
      rw [show k + (j + 1) = k + j + 1 by omega, catX_sl (by omega)]; omega
  have := key j (by omega)
  rwa [← hj] at this
theorem catX_2 {a b : VX α} : catX [a, b] [a, b].length = a.xs ++ b.xs := by simp [catX]
end
end Go.W
