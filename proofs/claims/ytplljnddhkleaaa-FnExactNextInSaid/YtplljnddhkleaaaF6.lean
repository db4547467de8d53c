/- Room for a list: append of zeros to nil; cap; an array behind a slice; a slice of an array from a place on. -/
import Derived.Test.YtplljnddhkleaaaF5
import Derived.Lib.AppendZeros
set_option linter.unusedSimpArgs false
set_option linter.unusedVariables false
namespace Go.Sx
open Go Go.RowKit
variable {C : Cx} {env : Env} {m : List Ent} {o : Oper} {K : Env → List Ent → Prop}
theorem op_appendZ {d n : Nat} {s x T Tn E kn sz bytes} (ho : o.op = .call { callee := .builtin .append, args := #[s, x], argTypes := #[T, Tn] })
    (hs : ev env s = some (.slice none 0 0)) (hx : ev env x = some (.int .i64 (n : Nat))) (hT : C.P.underlying T = some (.slice E)) (hTn : C.P.underlying Tn = some (.int kn)) (hz : (C.P.info? E).map (fun i => (i.size, i.bytes, i.zero.map (·.cells.size))) = some (sz, bytes, some sz)) (hp0 : Nat.blt 0 sz = true)
    (hn : 0 < n) (hb : n * bytes ≤ 140737488355328 ∧ n ≤ maxLen) (hd : o.dst = some d) (hlt : Nat.blt d C.n = true)
    (h : ∀ b c', K ((d, .slice (some ⟨b, 0, none⟩) n c') :: env) (.row (.slice (some ⟨b, 0, none⟩) 0 c') E sz 0 [] :: m)) : Op1 C o env m K := by
  have hpos : 0 < sz := by simpa using hp0
  have hmx : maxLen = 9223372036854775807 := rfl
  refine Op1.of_run hd hlt fun a w hr hh => ?_
  cases hq : C.P.info? E with
  | none => simp [hq] at hz
  | some inf =>
    simp only [hq, Option.map_some, Option.some.injEq, Prod.mk.injEq] at hz
    obtain ⟨h1, h2, h3⟩ := hz
    cases hzz : inf.zero with
    | none => simp [hzz] at h3
    | some zv =>
      simp only [hzz, Option.map_some, Option.some.injEq] at h3
      have hrun := Go.Lib.run_append_nil_zeros (P := C.P) w T Tn o.type E inf zv .i64 kn hT hTn hq hzz n hn (by omega) (by omega) (by rw [h2]; omega)
      have hge := grownCap_ge w n 0 E
      have hcm := grownCap_le_maxLen w n 0 E hb.2
      have hsz : (Builtin.zeroCells zv.cells n ++ Builtin.zeroCells zv.cells (grownCap w n 0 E - n)).size = grownCap w n 0 E * sz := by
        rw [Array.size_append, size_zeroCells, size_zeroCells, h3, ← Nat.add_mul, show n + (grownCap w n 0 E - n) = grownCap w n 0 E by omega]
      refine ⟨.slice (some ⟨w.heap.size, 0, none⟩) n (grownCap w n 0 E), w.drew.alloc (.cells (Builtin.zeroCells zv.cells n ++ Builtin.zeroCells zv.cells (grownCap w n 0 E - n)) E), .row (.slice (some ⟨w.heap.size, 0, none⟩) 0 (grownCap w n 0 E)) E sz 0 [] :: m, ?_, ?_, h _ _⟩
      · simp [execOp, ho, resolve, invoke, builtin, hr.ev hs, hr.ev hx, hrun]
      · refine (hh.ext (Below.refl _ _).drew).new (w := w.drew) (below_alloc' w.drew _) ?_
        exact ⟨by simp, .inr ⟨w.heap.size, grownCap w n 0 E, _, rfl, Nat.le_refl _, heap_alloc_new w.drew _, Nat.zero_le _, hcm, hsz, by simp⟩⟩
theorem fr_cap {x T E A n c} (ho : o.op = .call { callee := .builtin .cap, args := #[x], argTypes := #[T] }) (hx : ev env x = some (.slice A n c)) (hT : C.P.underlying T = some (.slice E)) : Free C o env m (.int .i64 c) := by
  intro a w hr hw
  have h1 : (Builtin.cap_ #[T] o.type #[.slice A n c]).run C.P w = .ok (.int .i64 c) w := by
    simp [Builtin.cap_, Sem.run_bind, run_underlying hT, goInt]
  simp [execOp, ho, resolve, invoke, builtin, hr.ev hx, Sem.run_bind, h1]
theorem fr_sliceToArray {S x A n c N E} (ho : o.op = .sliceToArrayPointer S x) (hx : ev env x = some (.slice A n c)) (hS : C.P.underlying S = some (.array N E)) (hn : N ≤ n) : Free C o env m (.pointer A) := by
  intro a w hr hw
  simp [execOp, ho, hr.ev hx, Instr.arrayAt, run_underlying hS, show ¬ n < N by omega]
end Go.Sx
