/- The program's SurePhotos hands back what the reference's SurePhotos hands back, for every input that can be read, and the input is as it was. -/
import Derived.Test.YtplljnddhkleaaaRows
import Derived.Test.YtplljnddhkleaaaIo
import Derived.SizedLaws
import Derived.Test.YtplljnddhkleaaaSh
import Derived.Test.YtplljnddhkleaaaO
import Derived.Test.YtplljnddhkleaaaGLP9
namespace Go.Proofs.Ytplljnddhkleaaa.FnExactSurePhotos
open Go Go.Sx Go.W Go.ChangeShapes Go.WideShapes Go.ChangeAt Go.RowKit
attribute [local irreducible] Ex ExL ExD Op1 Free RetQ MutQ Reads CellO SegO LoadsAs
set_option linter.unusedVariables false
theorem own : ownKnob Try.prog.godebug = none := by kernel_rfl
theorem laidOut : laidOutB Try.prog = true := by kernel_rfl
set_option maxRecDepth 100000 in
theorem lifted (os : Os) (started : os.Started) (H : Type) (enc : TypeId × Value → H) :
    ReturnsInHanded {} Try.checked os 11 .any (Rows.fnExactSurePhotosSpec.pre6 enc Try.prog Try.f11 Rows.fnExactSurePhotosRow.domain false) (Rows.fnExactSurePhotosSpec.post enc Try.prog Try.f11 false true false false) := by
  refine returnsInHanded_of_change_sized (C := Try.checked) own started (by kernel_rfl) Try.func11
    (ChangeSpec.witness6 (enc := enc) (C := Try.checked) false ⟨#[], #[.slice none 0 0, .slice none 0 0, .int .i64 0, .int .i64 0], []⟩ 8 (by kernel_rfl) (by kernel_rfl) (by kernel_rfl) (by kernel_rfl)) ?_
  intro W base args ds gs before hval0 hW _ hsz0 _
  have hsz : (DataW.weightsEach Try.prog (Try.f11.params.toList ++ Rows.fnExactSurePhotosSpec.plain.varTypes Try.prog) (ds ++ gs)).all (· ≤ reachBytes) = true := hsz0
  clear hsz0
  have hval : ∀ (j : Nat) t v, Try.f11.params[j]? = some t → args[j]? = some v → Value.okWide Try.prog W .any base t v := hval0
  have hW' := hW
  obtain ⟨p, q, hA0, hV, rfl, hfz, hnd⟩ := hW
  have hA : DataW.TrodAll enc Try.prog W 0 (fun _ => true) true Try.f11.params.toList args.toList ds p := hA0
  rw [Try.params11] at hA hval
  obtain ⟨v0, vs0, d0, ds0, p0, q0, hargs, rfl, rfl, h0, r0⟩ := trodAll_cons hA
  obtain ⟨v1, vs1, d1, ds1, p1, q1, rfl, rfl, rfl, h1, r1⟩ := trodAll_cons r0
  obtain ⟨v2, vs2, d2, ds2, p2, q2, rfl, rfl, rfl, h2, r2⟩ := trodAll_cons r1
  obtain ⟨v3, vs3, d3, ds3, p3, q3, rfl, rfl, rfl, h3, r3⟩ := trodAll_cons r2
  obtain ⟨rfl, rfl, rfl⟩ := trodAll_nil r3
  obtain rfl : args = #[v0, v1, v2, v3] := by cases args; simp_all
  obtain ⟨rfl, rfl⟩ := trodVars_none hV
  have k0 := h0
  have lt0 : ∀ x ∈ p0, x.block < W.heap.size := by obtain ⟨m, hm⟩ := k0; exact DataW.trod_lt m _ _ _ hm
  obtain ⟨A0, n0, c0, rfl⟩ := okWide_slice Try.underlying22 (hval 0 22 v0 rfl rfl)
  obtain ⟨A0', c0', a0, e0, ln0, ok0, rd0⟩ := o_Stack (cl_of h0)
  have f0 : [Value.slice A0 n0 c0] = [.slice A0' a0.length c0'] := e0
  cases f0
  have ln0 : a0.length ≤ 9223372036854775807 := ln0
  have k1 := h1
  have lt1 : ∀ x ∈ p1, x.block < W.heap.size := by obtain ⟨m, hm⟩ := k1; exact DataW.trod_lt m _ _ _ hm
  obtain ⟨A1, n1, c1, rfl⟩ := okWide_slice Try.underlying51 (hval 1 51 v1 rfl rfl)
  obtain ⟨A1', c1', a1, e1, ln1, ok1, rd1⟩ := o_PhotoS (cl_of h1)
  have f1 : [Value.slice A1 n1 c1] = [.slice A1' a1.length c1'] := e1
  cases f1
  have ln1 : a1.length ≤ 9223372036854775807 := ln1
  have k2 := h2
  have lt2 : ∀ x ∈ p2, x.block < W.heap.size := by obtain ⟨m, hm⟩ := k2; exact DataW.trod_lt m _ _ _ hm
  obtain ⟨a2, rfl⟩ := okWide_int Try.underlying2 (hval 2 2 v2 rfl rfl)
  obtain ⟨z2, e2, w2⟩ := Cl.int (P := Try.prog) (t := 2) rfl (cl_of h2)
  have f2 : [Value.int .i64 a2] = [.int .i64 z2] := e2
  cases f2
  have ok2 := bounds_i64 w2
  have k3 := h3
  have lt3 : ∀ x ∈ p3, x.block < W.heap.size := by obtain ⟨m, hm⟩ := k3; exact DataW.trod_lt m _ _ _ hm
  obtain ⟨a3, rfl⟩ := okWide_int Try.underlying2 (hval 3 2 v3 rfl rfl)
  obtain ⟨z3, e3, w3⟩ := Cl.int (P := Try.prog) (t := 2) rfl (cl_of h3)
  have f3 : [Value.int .i64 a3] = [.int .i64 z3] := e3
  cases f3
  have ok3 := bounds_i64 w3
  clear hA0 hval0
  simp only [List.append_nil] at hW'
  refine ((w_FnExactSurePhotos _ ok0 _ _ ln0 _ ok1 _ _ ln1 _ _).2 W (⟨rd0, rd1⟩)).mono fun e W' ⟨_, _, he, bel, _, _⟩ => ?_
  subst he
  exact ⟨_, rfl, _, _, _, [], _, [], hW', trodAll_mk1 (shut_bool Try.underlying4 _), (trodAll_cons_mk (Below.trod laidOut (by kernel_rfl) (of_decide_eq_true (by kernel_rfl)) k0 bel lt0) (trodAll_cons_mk (Below.trod laidOut (by kernel_rfl) (of_decide_eq_true (by kernel_rfl)) k1 bel lt1) (trodAll_cons_mk (Below.trod laidOut (by kernel_rfl) (of_decide_eq_true (by kernel_rfl)) k2 bel lt2) (trodAll_cons_mk (Below.trod laidOut (by kernel_rfl) (of_decide_eq_true (by kernel_rfl)) k3 bel lt3) trodAll_mk0)))), rfl, bel.frame _, fun h => by cases h⟩
theorem closed : joinedFacts Try.pinned.checked.prog 11 Try.f11 Rows.fnExactSurePhotosSpec Rows.fnExactSurePhotosRow = true := by unfold joinedFacts; rw [io_enter, io_lifts, io_make]; kernel_rfl
theorem over : Rows.fnExactSurePhotosRow.holds Try.pinned (OpenSpec.ofChange Rows.fnExactSurePhotosSpec) :=
  OpenClaim.holds_of_wide 11 Try.f11 rfl rfl rfl rfl rfl rfl rfl ⟨rfl, rfl, rfl, rfl, rfl⟩ rfl rfl rfl rfl rfl (by kernel_rfl) Try.func11 closed
    (of_decide_eq_true (by kernel_rfl)) (by unfold Func.isWrapper; first | (rw [if_pos (by decide +kernel)]; kernel_rfl) | (rw [if_neg (by decide +kernel)]; exact ⟨rfl, rfl⟩))
    (fun os started H enc _ => lifted os started H enc)
theorem proved : Rows.FnExactSurePhotosSaid := over
end Go.Proofs.Ytplljnddhkleaaa.FnExactSurePhotos
