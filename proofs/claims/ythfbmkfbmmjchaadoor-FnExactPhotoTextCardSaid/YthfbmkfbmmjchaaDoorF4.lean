/- Arrays of arrays: an element of several cells, by a number that is reckoned. -/
import Derived.Test.YthfbmkfbmmjchaaDoorF3
namespace Go.Sx
open Go Go.RowKit
variable {C : Cx} {env : Env} {m : List Ent} {o : Oper}
theorem segB {α : Type} {f : α → List Value} {sz : Nat} {i b : Nat} {T} {xs : List α} {k : Nat} (hi : m[i]? = some (.blk b (xs.flatMap f) T)) (hf : ∀ x, (f x).length = sz) (d : α) (hk : k < xs.length) : SegO C m (some ⟨b, 0 + (k : Int).toNat * sz, none⟩) (f (xs.getD k d)) := by
  rw [Nat.zero_add, Int.toNat_natCast]
  refine SegO.blk hi fun j u hj => ?_
  have hlt : j < sz := by rw [← hf (xs.getD k d)]; exact (List.getElem?_eq_some_iff.1 hj).1
  rw [flat_get hf d xs k j hk hlt, hj]
theorem segOld {α : Type} {f : α → List Value} {sz : Nat} {b q : Nat} {xs : List α} {k : Nat} (H : Reads C m (some ⟨b, q, none⟩) (xs.flatMap f)) (hf : ∀ x, (f x).length = sz) (d : α) (hp : Nat.blt 0 sz = true) (hk : k < xs.length) : SegO C m (some ⟨b, q + (k : Int).toNat * sz, none⟩) (f (xs.getD k d)) := by
  have h := segN H hf hp d hk
  simpa [offA, add_at] using h
theorem fr_indexG {α : Type} {f : α → List Value} {sz : Nat} {xs : List α} {j : Nat} (hf : ∀ x, (f x).length = sz) (d : α) {S x y} {N : Nat} {E} {k} {dd} (ho : o.op = .index S x y) (hx : ev env x = some (.agg (List.toArray (xs.flatMap f)))) (hy : ev env y = some (.int k (j : Int))) (hS : C.P.underlying S = some (.array N E)) (hE : C.P.underlying E = some dd) (hd : aggD dd = true) (hs : (C.P.info? E).map (·.size) = some sz) (hN : xs.length = N) (hj : j < xs.length) : Free C o env m (.agg (f (xs.getD j d)).toArray) := by
  have := fr_indexN (C := C) (m := m) ho hx hy hS hE hd hs (by omega)
  rwa [Int.toNat_natCast, flat_seg hf d xs j hj] at this
theorem fr_sliceArr_h {T x y E k} {N b q0 : Nat} {q : Int} (h : Nat) (hq : q = (h : Nat)) (ho : o.op = .slice T x none (some y) none) (hx : ev env x = some (.pointer (some ⟨b, q0, none⟩))) (hy : ev env y = some (.int k q)) (hT : C.P.underlying T = some (.array N E)) {sz : Nat} (hs : (C.P.info? E).map (·.size) = some sz) (hN : Nat.blt 0 N = true) (hb : h ≤ N) : Free C o env m (.slice (some ⟨b, q0, none⟩) h N) := by
  subst hq
  intro a w hr _
  have hN0 : 0 < N := by simpa using hN
  have hal : C.P.arrayLen T = N := by simp [Program.arrayLen, hT]
  have he : C.P.elem T = E := by simp [Program.elem, hT]
  have ht' : C.P.underlying T = some (.array (C.P.arrayLen T) (C.P.elem T)) := by rw [hal, he, hT]
  have h2 := run_sliceAt_array_h (P := C.P) w T ⟨b, q0, none⟩ ht' k (h : Int) (by omega) (by omega)
  rw [he, run_sizeOf hs w, Result.andThen_ok, hal] at h2
  have h3 : slicedAt ⟨b, q0, none⟩ 0 ((h : Int).toNat) N sz = .slice (some ⟨b, q0, none⟩) h N := by
    unfold slicedAt
    rw [Int.toNat_natCast, if_neg (by omega), Nat.zero_mul, add_at, Nat.add_zero, Nat.sub_zero, Nat.sub_zero]
  rw [h3] at h2
  simp only [execOp, ho, hr.ev hx, Option.map_none, Option.map_some, hr.ev hy, Sem.run_bind, h2, Result.andThen_ok, Sem.run_pure]
theorem fr_maxW {x y T T' k p q} (z : Int) (hz : max p q = z) (ho : o.op = .call { callee := .builtin .max, args := #[x, y], argTypes := #[T, T'] }) (hx : ev env x = some (.int k p)) (hy : ev env y = some (.int k q)) : Free C o env m (.int k z) := by
  subst hz; exact fr_max ho hx hy
theorem cellW {β : Type} {A : Option Addr} {f : β → List Value} {sz : Nat} {xs : List β} {i : Int} (j : Nat) {v : Value} {r : β} (H : Reads C m A (xs.flatMap f)) (hf : ∀ x, (f x).length = sz) (d : β) (k : Nat) (hk : Nat.blt k sz = true) (hi : i = (j : Int)) (hj : j < xs.length) (he : xs.getD j d = r) (hv : (f r)[k]? = some v) : CellO C m (offA A (i.toNat * sz + k)) v := by
  subst he; exact cellJ j H hf d k hk hi hj hv
theorem quo64 {d : Nat} (h : d < 1000000) : IntKind.i64.wrap ((d : Int).tdiv 64) = ((d / 64 : Nat) : Int) := by
  rw [Int.tdiv_eq_ediv_of_nonneg (by omega), IntKind.wrap_i64]; omega
end Go.Sx
namespace Go.Sx
open Go Go.RowKit
variable {C : Cx} {env : Env} {m : List Ent} {l : List Oper} {K : Env → List Ent → Prop} {S : List Ent} {fuel i j di dj : Nat} {done : List Nat} {oi oj o : Oper}
/-- Two that may come in either order, each way walked by itself. -/
theorem ExD.fork (hi : l[i]? = some oi) (hj : l[j]? = some oj) (h2 : readyOk l done [i, j] = true) (hgi : wantB l env oi = some true) (hgj : wantB l env oj = some true)
    (h : Op1 C oi env m fun env m => S.Sublist m ∧ ExD C l S fuel (i :: done) env m K) (h' : Op1 C oj env m fun env m => S.Sublist m ∧ ExD C l S fuel (j :: done) env m K) : ExD C l S (fuel + 1) done env m K := by
  refine ExD.ops h2 (by simp) fun k hk => ?_
  rcases List.mem_cons.1 hk with rfl | hk
  · exact ⟨oi, hi, hgi, h⟩
  · obtain rfl : k = j := by simpa using hk
    exact ⟨oj, hj, hgj, h'⟩
end Go.Sx
