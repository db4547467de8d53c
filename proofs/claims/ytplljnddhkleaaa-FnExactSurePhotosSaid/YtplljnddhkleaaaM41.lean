/- Ways through films, as the program reckons them. -/
import Derived.Test.YtplljnddhkleaaaM40
set_option linter.unusedVariables false
set_option linter.unusedSimpArgs false
namespace Go.W
open Go Go.Sx
theorem wo_t {K : List (VX Int)} {lo hi : Int} {v : List Int} {k : Nat} (h1 : (K.getD k zX).xs.contains (v.getD k 0) = true) (h2 : k = 0 ∨ goesB lo hi (v.getD (k - 1) 0) (v.getD k 0) = true) : wayOk lo hi (fun k => (K.getD k zX).xs) v k = true := by
  unfold wayOk
  rw [Bool.and_eq_true]
  refine ⟨h1, ?_⟩
  rw [Bool.or_eq_true, decide_eq_true_iff]; exact h2
theorem wo_f1 {K : List (VX Int)} {lo hi : Int} {v : List Int} {k : Nat} (h1 : (K.getD k zX).xs.contains (v.getD k 0) = false) : wayOk lo hi (fun k => (K.getD k zX).xs) v k = false := by
  unfold wayOk
  rw [show ((fun k => (K.getD k zX).xs) k).contains (v.getD k 0) = false from h1]; rfl
theorem wo_f2 {K : List (VX Int)} {lo hi : Int} {v : List Int} {k : Nat} (hk : 0 < k) (h2 : goesB lo hi (v.getD (k - 1) 0) (v.getD k 0) = false) : wayOk lo hi (fun k => (K.getD k zX).xs) v k = false := by
  unfold wayOk
  rw [h2, decide_eq_false (by omega : ¬ k = 0)]; simp
theorem wo_has {K : List (VX Int)} {lo hi : Int} {v : List Int} {k : Nat} (h : wayOk lo hi (fun k => (K.getD k zX).xs) v k = true) : (K.getD k zX).xs.contains (v.getD k 0) = true := by
  unfold wayOk at h
  rw [Bool.and_eq_true] at h
  exact h.1
theorem ckn {s : List Int} {L : List VPh} {K : List (VX Int)} {v : List Int} {lo hi : Int} {k : Nat} (hx : K.map (·.xs) = filmL s L) (h : codeF s L lo hi lo = 0) (hk : k < L.length) (hw : wayOk lo hi (fun k => (K.getD k zX).xs) v k = false) : checkV s L v lo hi = (false, 0) := by
  rw [kx_fun hx] at hw; exact ck_n h hk hw
theorem cky {s : List Int} {L : List VPh} {K : List (VX Int)} {v : List Int} {lo hi : Int} {k : Nat} (hx : K.map (·.xs) = filmL s L) (h : codeF s L lo hi lo = 0) (hl : v.length = L.length) (hk : ¬ k < v.length) (hall : ∀ i, i < k → wayOk lo hi (fun k => (K.getD k zX).xs) v i = true) : checkV s L v lo hi = (true, 0) := by
  rw [kx_fun hx] at hall; exact ck_y h hl fun i hi => hall i (by omega)
end Go.W
