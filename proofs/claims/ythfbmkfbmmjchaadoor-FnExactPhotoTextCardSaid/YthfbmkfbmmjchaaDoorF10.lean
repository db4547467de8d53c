/- Arrays of arrays compared with themselves. -/
import Derived.Test.YthfbmkfbmmjchaaDoorF5
set_option linter.unusedVariables false
set_option linter.unusedSimpArgs false
namespace Go.Sx
open Go Go.RowKit
variable {C : Cx} {env env' : Env} {m m' : List Ent} {o : Oper}
theorem EqOk.rowsSelf {α : Type} {f : α → List Value} {sz : Nat} (hf : ∀ x, (f x).length = sz) (z : α) {P : Program} {d : Nat} {t e : TypeId} {n : Nat} {i : TypeInfo} {dd : TypeDesc} (hu : P.underlying t = some (.array n e)) (hi : P.info? e = some i) (hs : i.size = sz) (hT : P.underlying e = some dd) (hd : aggD dd = true) (xs : List α) (hx : xs.length = n)
    (he : ∀ x, EqOk P d e (.agg (f x).toArray) (.agg (f x).toArray) true) : EqOk P (d + 1) t (.agg (xs.flatMap f).toArray) (.agg (xs.flatMap f).toArray) true := fun w => by
  rw [run_equalIn_array w d _ _ hu hi, show P.cellsOf e = sz by simp [Program.cellsOf, hi, hs]]
  have key : ∀ is : List Nat, (∀ j, j ∈ is → j < xs.length) → (Op.eqItems d e sz (xs.flatMap f).toArray (xs.flatMap f).toArray is).run P w = .ok true w := by
    intro is
    induction is with
    | nil => intro _; simp [Op.eqItems]
    | cons j is ih =>
      intro h
      have hp := run_partN (P := P) (T := e) (n := sz) hT hd (by rw [hi]; simp [hs]) (cs := xs.flatMap f) (k := j * sz) w
      rw [flat_seg hf z xs j (h j (by simp))] at hp
      simp only [Op.eqItems, Sem.run_bind, hp, Result.andThen_ok, he (xs.getD j z) w]
      simp only [Bool.not_true, Bool.false_eq_true, if_false]
      exact ih fun q hq => h q (by simp [hq])
  exact key _ fun j hj => by rw [hx]; simpa using hj
theorem row_blk {i n c sz : Nat} {A : Option Addr} {E xs} (hi : m[i]? = some (.row (.slice A n c) E sz n xs)) (hn : 0 < n) : ∀ w, Holds C.base C.w0 m w → ∃ g, A = some ⟨g, 0, none⟩ := fun w hw => by
  have h := hw.all _ (List.mem_of_getElem? hi)
  rcases h.2 with ⟨_, h0⟩ | ⟨g, cap, cur, hv, _⟩
  · omega
  · simp only [Value.slice.injEq] at hv
    exact ⟨g, hv.1⟩
theorem fr_neq_bool_same {T x y T' p} (ho : o.op = .binOp .neq T x y T') (hx : ev env x = some (.bool p)) (hy : ev env y = some (.bool p)) (hT : C.P.underlying T = some .bool) : Free C o env m (.bool false) := by
  have := fr_neq_bool (m := m) ho hx hy hT
  rwa [show (p != p) = false by simp] at this
end Go.Sx
