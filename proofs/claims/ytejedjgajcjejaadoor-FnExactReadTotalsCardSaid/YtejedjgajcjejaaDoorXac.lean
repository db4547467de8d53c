/- Several texts, one behind the other. -/
import Derived.Test.YtejedjgajcjejaaDoorXaa
import Derived.Test.YtejedjgajcjejaaDoorXab
/- Two things made in either order; what the program's counts come to. -/
set_option linter.unusedVariables false
set_option linter.unusedSimpArgs false
namespace Go.Sx
open Go Go.RowKit
variable {C : Cx} {env : Env} {m : List Ent} {l : List Oper} {K : Env → List Ent → Prop} {S : List Ent} {fuel i j di dj : Nat} {done : List Nat} {oi oj o : Oper}
theorem run_equal_ptr {P : Program} {w : World} {T E : TypeId} {A : Option Addr} (hT : P.underlying T = some (.pointer E)) : (Op.equal T (.pointer A) (.pointer none)).run P w = .ok A.isNone w := by
  unfold Op.equal Op.maxDepth
  rw [show (10000 : Nat) = 9999 + 1 from rfl]
  unfold Op.equalIn
  rw [Sem.run_bind, run_underlying hT]
  cases A <;> rfl
theorem fr_eql_ptr {T x y T' E A} (ho : o.op = .binOp .eql T x y T') (hx : ev env x = some (.pointer A)) (hy : ev env y = some (.pointer none)) (hT : C.P.underlying T = some (.pointer E)) : Free C o env m (.bool A.isNone) := by
  unfold Free
  intro a w hr _
  have h : (binOp .eql T (.pointer A) (.pointer none)).run C.P w = .ok (.bool A.isNone) w := by
    have hq := run_equal_ptr (P := C.P) (w := w) (A := A) hT
    unfold binOp
    simp only [Sem.run_bind, hq, Result.andThen_ok, Sem.run_pure]
  have hg : (eqGuard .eql T x y (.pointer A) (.pointer none)).run C.P w = .ok () w := by unfold eqGuard; rfl
  simp only [execOp, ho, hr.ev hx, hr.ev hy, Sem.run_bind, hg, Result.andThen_ok, h]; rfl
theorem fr_eql_ptr_n {T x y T' E} (ho : o.op = .binOp .eql T x y T') (hx : ev env x = some (.pointer none)) (hy : ev env y = some (.pointer none)) (hT : C.P.underlying T = some (.pointer E)) : Free C o env m (.bool true) := fr_eql_ptr ho hx hy hT
theorem fr_eql_ptr_s {T x y T' E a} (ho : o.op = .binOp .eql T x y T') (hx : ev env x = some (.pointer (some a))) (hy : ev env y = some (.pointer none)) (hT : C.P.underlying T = some (.pointer E)) : Free C o env m (.bool false) := fr_eql_ptr ho hx hy hT
end Go.Sx
namespace Go.W
open Go Go.Sx
variable {fit : Nat → Nat → Bool} {n i : Nat}
theorem flO_at {j : Nat} (h : i < j) : (flO fit n j).getD i 0 = finV fit i (fl fit i) i := by
  rw [← fl_at h]; unfold flO
  simp only [List.getD]; rw [List.getElem?_append_left (by rw [fl_len]; exact h)]
theorem inn_min {d m : Nat} {c : Int} (h : c = candC fit n d (rl fit n d) m) : min (inn fit n d (rl fit n d) m).cost c = (inn fit n d (rl fit n d) (m + 1)).cost := by rw [inn_cost, h]
/-- What the best story of those that keep a reading costs. -/
def withV (fit : Nat → Nat → Bool) (n i : Nat) : Int := finV fit i (fl fit i) i + ((rstL fit n).getD i zR).cost
end Go.W
