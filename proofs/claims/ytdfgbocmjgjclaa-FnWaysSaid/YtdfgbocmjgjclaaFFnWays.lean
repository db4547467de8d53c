/- The law FnWays of ways through photos hands back true, for every input that can be read, and the input is as it was. -/
import Derived.Test.YtdfgbocmjgjclaaRows
import Derived.SizedLaws
import Derived.Test.YtdfgbocmjgjclaaXaa
import Derived.Test.YtdfgbocmjgjclaaXab
import Derived.Test.YtdfgbocmjgjclaaXba
import Derived.Test.YtdfgbocmjgjclaaXbb
import Derived.Test.YtdfgbocmjgjclaaXbc
import Derived.Test.YtdfgbocmjgjclaaXbd
namespace Go.Proofs.Ytdfgbocmjgjclaa.FnWays
open Go Go.Sx Go.W Go.ChangeShapes Go.WideShapes Go.ChangeAt Go.RowKit
attribute [local irreducible] Ex ExL ExD Op1 Free RetQ MutQ Reads CellO SegO LoadsAs
set_option linter.unusedVariables false
theorem own : ownKnob Try.prog.godebug = none := by kernel_rfl
theorem laidOut : laidOutB Try.prog = true := by kernel_rfl
set_option maxRecDepth 100000 in
theorem lifted (os : Os) (started : os.Started) (H : Type) (enc : TypeId × Value → H) :
    ReturnsInHanded {} Try.checked os 3 .any (Rows.fnWaysSpec.pre6 enc Try.prog Try.f3 Rows.fnWaysRow.domain false) (Rows.fnWaysSpec.post enc Try.prog Try.f3 false true false false) := by
  refine returnsInHanded_of_change_sized (C := Try.checked) own started (by kernel_rfl) Try.func3
    (ChangeSpec.witness6 (enc := enc) (C := Try.checked) false ⟨#[], #[.slice none 0 0, .slice none 0 0], []⟩ 8 (by kernel_rfl) (by kernel_rfl) (by kernel_rfl) (by kernel_rfl)) ?_
  intro W base args ds gs before hval0 hW _ hsz0 _
  have hsz : (DataW.weightsEach Try.prog (Try.f3.params.toList ++ Rows.fnWaysSpec.plain.varTypes Try.prog) (ds ++ gs)).all (· ≤ reachBytes) = true := hsz0
  clear hsz0
  have hval : ∀ (j : Nat) t v, Try.f3.params[j]? = some t → args[j]? = some v → Value.okWide Try.prog W .any base t v := hval0
  have hW' := hW
  obtain ⟨p, q, hA0, hV, rfl, hfz, hnd⟩ := hW
  have hA : DataW.TrodAll enc Try.prog W 0 (fun _ => true) true Try.f3.params.toList args.toList ds p := hA0
  rw [Try.params3] at hA hval
  obtain ⟨v0, vs0, d0, ds0, p0, q0, hargs, rfl, rfl, h0, r0⟩ := trodAll_cons hA
  obtain ⟨v1, vs1, d1, ds1, p1, q1, rfl, rfl, rfl, h1, r1⟩ := trodAll_cons r0
  obtain ⟨rfl, rfl, rfl⟩ := trodAll_nil r1
  obtain rfl : args = #[v0, v1] := by cases args; simp_all
  obtain ⟨rfl, rfl⟩ := trodVars_none hV
  have k0 := h0
  have lt0 : ∀ x ∈ p0, x.block < W.heap.size := by obtain ⟨m, hm⟩ := k0; exact DataW.trod_lt m _ _ _ hm
  obtain ⟨A0, n0, c0, rfl⟩ := okWide_slice Try.underlying22 (hval 0 22 v0 rfl rfl)
  obtain ⟨A0', c0', a0, e0, ln0, ok0, rd0⟩ := o_Stack (cl_of h0)
  have nl0 := Cl.nil (P := Try.prog) (t := 22) rfl (cl_of h0)
  have f0 : [Value.slice A0 n0 c0] = [.slice A0' a0.length c0'] := e0
  cases f0
  have ln0 : a0.length ≤ 9223372036854775807 := ln0
  have k1 := h1
  have lt1 : ∀ x ∈ p1, x.block < W.heap.size := by obtain ⟨m, hm⟩ := k1; exact DataW.trod_lt m _ _ _ hm
  obtain ⟨A1, n1, c1, rfl⟩ := okWide_slice Try.underlying22 (hval 1 22 v1 rfl rfl)
  obtain ⟨A1', c1', a1, e1, ln1, ok1, rd1⟩ := o_Stack (cl_of h1)
  have nl1 := Cl.nil (P := Try.prog) (t := 22) rfl (cl_of h1)
  have f1 : [Value.slice A1 n1 c1] = [.slice A1' a1.length c1'] := e1
  cases f1
  have ln1 : a1.length ≤ 9223372036854775807 := ln1
  clear hA0 hval0
  simp only [List.append_nil] at hW'
  refine ((w_FnWays _ ok0 _ _ ln0 (fun h => (nl0 h).2) _ ok1 _ _ ln1 (fun h => (nl1 h).2)).2 W (⟨rd0, rd1⟩)).mono fun e W' ⟨_, _, he, bel, _, _⟩ => ?_
  subst he
  exact ⟨_, rfl, _, _, _, [], _, [], hW', trodAll_mk1 (shut_bool Try.underlying4 _), (trodAll_cons_mk (Below.trod laidOut (by kernel_rfl) (of_decide_eq_true (by kernel_rfl)) k0 bel lt0) (trodAll_cons_mk (Below.trod laidOut (by kernel_rfl) (of_decide_eq_true (by kernel_rfl)) k1 bel lt1) trodAll_mk0)), rfl, bel.frame _, fun h => by cases h⟩
theorem closed : joinedFacts Try.pinned.checked.prog 3 Try.f3 Rows.fnWaysSpec Rows.fnWaysRow = true := by unfold joinedFacts; rw [io_enter, io_lifts, io_make]; kernel_rfl
theorem over : Rows.fnWaysRow.holds Try.pinned (OpenSpec.ofChange Rows.fnWaysSpec) :=
  OpenClaim.holds_of_wide 3 Try.f3 rfl rfl rfl rfl rfl rfl rfl ⟨rfl, rfl, rfl, rfl, rfl⟩ rfl rfl rfl rfl rfl (by kernel_rfl) Try.func3 closed
    (of_decide_eq_true (by kernel_rfl)) (by unfold Func.isWrapper; first | (rw [if_pos (by decide +kernel)]; kernel_rfl) | (rw [if_neg (by decide +kernel)]; exact ⟨rfl, rfl⟩))
    (fun os started H enc _ => lifted os started H enc)
theorem proved : Rows.FnWaysSaid := over
end Go.Proofs.Ytdfgbocmjgjclaa.FnWays
