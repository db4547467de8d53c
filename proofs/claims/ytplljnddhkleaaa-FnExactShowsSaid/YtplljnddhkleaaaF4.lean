/- Arrays of arrays: an element of several cells, by a number that is reckoned. -/
import Derived.Test.YtplljnddhkleaaaF3
namespace Go.Sx
open Go Go.RowKit
variable {C : Cx} {env : Env} {m : List Ent} {o : Oper}
theorem segB {α : Type} {f : α → List Value} {sz : Nat} {i b : Nat} {T} {xs : List α} {k : Nat} (hi : m[i]? = some (.blk b (xs.flatMap f) T)) (hf : ∀ x, (f x).length = sz) (d : α) (hk : k < xs.length) : SegO C m (some ⟨b, 0 + (k : Int).toNat * sz, none⟩) (f (xs.getD k d)) := by
  rw [Nat.zero_add, Int.toNat_natCast]
  refine SegO.blk hi fun j u hj => ?_
  have hlt : j < sz := by rw [← hf (xs.getD k d)]; exact (List.getElem?_eq_some_iff.1 hj).1
  rw [flat_get hf d xs k j hk hlt, hj]
theorem segOld {α : Type} {f : α → List Value} {sz : Nat} {b q : Nat} {xs : List α} {k : Nat} (H : Reads C m (some ⟨b, q, none⟩) (xs.flatMap f)) (hf : ∀ x, (f x).length = sz) (d : α) (hp : Nat.blt 0 sz = true) (hk : k < xs.length) : SegO C m (some ⟨b, q + (k : Int).toNat * sz, none⟩) (f (xs.getD k d)) := by
  have h := segN H hf hp d hk
  simpa [offA, add_at] using h
theorem fr_indexG {α : Type} {f : α → List Value} {sz : Nat} {xs : List α} {j : Nat} (hf : ∀ x, (f x).length = sz) (d : α) {S x y} {N : Nat} {E} {k} {dd} (ho : o.op = .index S x y) (hx : ev env x = some (.agg (List.toArray (xs.flatMap f)))) (hy : ev env y = some (.int k (j : Int))) (hS : C.P.underlying S = some (.array N E)) (hE : C.P.underlying E = some dd) (hd : aggD dd = true) (hs : (C.P.info? E).map (·.size) = some sz) (hN : xs.length = N) (hj : j < xs.length) : Free C o env m (.agg (f (xs.getD j d)).toArray) := by
  have := fr_indexN (C := C) (m := m) ho hx hy hS hE hd hs (by omega)
  rwa [Int.toNat_natCast, flat_seg hf d xs j hj] at this
theorem quo64 {d : Nat} (h : d < 1000000) : IntKind.i64.wrap ((d : Int).tdiv 64) = ((d / 64 : Nat) : Int) := by
  rw [Int.tdiv_eq_ediv_of_nonneg (by omega), IntKind.wrap_i64]; omega
end Go.Sx
