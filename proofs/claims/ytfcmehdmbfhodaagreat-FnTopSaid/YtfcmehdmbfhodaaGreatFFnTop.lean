/- The law FnTop of gears, meters, motions and photos hands back true, for every input that can be read, and the input is as it was. -/
import Derived.Test.YtfcmehdmbfhodaaGreatRows
import Derived.SizedLaws
import Derived.Test.YtfcmehdmbfhodaaGreatXaa
import Derived.Test.YtfcmehdmbfhodaaGreatXab
import Derived.Test.YtfcmehdmbfhodaaGreatXba
import Derived.Test.YtfcmehdmbfhodaaGreatXbb
import Derived.Test.YtfcmehdmbfhodaaGreatXbc
import Derived.Test.YtfcmehdmbfhodaaGreatXbd
namespace Go.Proofs.YtfcmehdmbfhodaaGreat.FnTop
open Go Go.Sx Go.W Go.ChangeShapes Go.WideShapes Go.ChangeAt Go.RowKit
attribute [local irreducible] Ex ExL ExD Op1 Free RetQ MutQ Reads CellO SegO LoadsAs
set_option linter.unusedVariables false
theorem own : ownKnob Tryz.prog.godebug = none := by kernel_rfl
theorem laidOut : laidOutB Tryz.prog = true := by kernel_rfl
set_option maxRecDepth 100000 in
theorem lifted (os : Os) (started : os.Started) (H : Type) (enc : TypeId × Value → H) :
    ReturnsInHanded {} Tryz.checked os 3 .any (Rows.fnTopSpec.pre6 enc Tryz.prog Tryz.f3 Rows.fnTopRow.domain false) (Rows.fnTopSpec.post enc Tryz.prog Tryz.f3 false true false false) := by
  refine returnsInHanded_of_change_sized (C := Tryz.checked) own started (by kernel_rfl) Tryz.func3
    (ChangeSpec.witness6 (enc := enc) (C := Tryz.checked) false ⟨#[], #[.slice none 0 0, .slice none 0 0], []⟩ 8 (by kernel_rfl) (by kernel_rfl) (by kernel_rfl) (by kernel_rfl)) ?_
  intro W base args ds gs before hval0 hW _ hsz0 _
  have hsz : (DataW.weightsEach Tryz.prog (Tryz.f3.params.toList ++ Rows.fnTopSpec.plain.varTypes Tryz.prog) (ds ++ gs)).all (· ≤ reachBytes) = true := hsz0
  clear hsz0
  have hval : ∀ (j : Nat) t v, Tryz.f3.params[j]? = some t → args[j]? = some v → Value.okWide Tryz.prog W .any base t v := hval0
  have hW' := hW
  obtain ⟨p, q, hA0, hV, rfl, hfz, hnd⟩ := hW
  have hA : DataW.TrodAll enc Tryz.prog W 0 (fun _ => true) true Tryz.f3.params.toList args.toList ds p := hA0
  rw [Tryz.params3] at hA hval
  obtain ⟨v0, vs0, d0, ds0, p0, q0, hargs, rfl, rfl, h0, r0⟩ := trodAll_cons hA
  obtain ⟨v1, vs1, d1, ds1, p1, q1, rfl, rfl, rfl, h1, r1⟩ := trodAll_cons r0
  obtain ⟨rfl, rfl, rfl⟩ := trodAll_nil r1
  obtain rfl : args = #[v0, v1] := by cases args; simp_all
  obtain ⟨rfl, rfl⟩ := trodVars_none hV
  have k0 := h0
  have lt0 : ∀ x ∈ p0, x.block < W.heap.size := by obtain ⟨m, hm⟩ := k0; exact DataW.trod_lt m _ _ _ hm
  obtain ⟨A0, n0, c0, rfl⟩ := okWide_slice Tryz.underlying22 (hval 0 22 v0 rfl rfl)
  obtain ⟨A0', c0', a0, e0, ln0, ok0, rd0⟩ := o_Stack (cl_of h0)
  have f0 : [Value.slice A0 n0 c0] = [.slice A0' a0.length c0'] := e0
  cases f0
  have ln0 : a0.length ≤ 9223372036854775807 := ln0
  have k1 := h1
  have lt1 : ∀ x ∈ p1, x.block < W.heap.size := by obtain ⟨m, hm⟩ := k1; exact DataW.trod_lt m _ _ _ hm
  obtain ⟨A1, n1, c1, rfl⟩ := okWide_slice Tryz.underlying22 (hval 1 22 v1 rfl rfl)
  obtain ⟨A1', c1', a1, e1, ln1, ok1, rd1⟩ := o_Stack (cl_of h1)
  have f1 : [Value.slice A1 n1 c1] = [.slice A1' a1.length c1'] := e1
  cases f1
  have ln1 : a1.length ≤ 9223372036854775807 := ln1
  clear hA0 hval0
  simp only [List.append_nil] at hW'
  refine ((w_FnTop _ ok0 _ _ ln0 _ ok1 _ _ ln1).2 W (⟨rd0, rd1⟩)).mono fun e W' ⟨_, _, he, bel, _, _⟩ => ?_
  subst he
  exact ⟨_, rfl, _, _, _, [], _, [], hW', trodAll_mk1 (shut_bool Tryz.underlying4 _), (trodAll_cons_mk (Below.trod laidOut (by kernel_rfl) (of_decide_eq_true (by kernel_rfl)) k0 bel lt0) (trodAll_cons_mk (Below.trod laidOut (by kernel_rfl) (of_decide_eq_true (by kernel_rfl)) k1 bel lt1) trodAll_mk0)), rfl, bel.frame _, fun h => by cases h⟩
theorem closed : joinedFacts Tryz.pinned.checked.prog 3 Tryz.f3 Rows.fnTopSpec Rows.fnTopRow = true := by unfold joinedFacts; rw [io_enter, io_lifts, io_make]; kernel_rfl
theorem over : Rows.fnTopRow.holds Tryz.pinned (OpenSpec.ofChange Rows.fnTopSpec) :=
  OpenClaim.holds_of_wide 3 Tryz.f3 rfl rfl rfl rfl rfl rfl rfl ⟨rfl, rfl, rfl, rfl, rfl⟩ rfl rfl rfl rfl rfl (by kernel_rfl) Tryz.func3 closed
    (of_decide_eq_true (by kernel_rfl)) (by unfold Func.isWrapper; first | (rw [if_pos (by decide +kernel)]; kernel_rfl) | (rw [if_neg (by decide +kernel)]; exact ⟨rfl, rfl⟩))
    (fun os started H enc _ => lifted os started H enc)
theorem proved : Rows.FnTopSaid := over
end Go.Proofs.YtfcmehdmbfhodaaGreat.FnTop
