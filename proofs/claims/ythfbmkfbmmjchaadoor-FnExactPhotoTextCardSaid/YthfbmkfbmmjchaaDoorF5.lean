/- Slices of slices, copies. -/
import Derived.Test.YthfbmkfbmmjchaaDoorF4
import Derived.Laws.CopyRow
set_option linter.unusedVariables false
set_option linter.unusedSimpArgs false
namespace Go.Sx
open Go Go.RowKit
variable {C : Cx} {env : Env} {m : List Ent} {o : Oper} {K : Env → List Ent → Prop}
/-- Where the rest of a slice begins. -/
def cutA (A : Option Addr) (c k sz : Nat) : Option Addr := if c = k then A else offA A (k * sz)
theorem fr_slice_h {T x y E A n c k} {q : Int} (h : Nat) (hq : q = (h : Nat)) (ho : o.op = .slice T x none (some y) none) (hx : ev env x = some (.slice A n c)) (hy : ev env y = some (.int k q)) (hT : C.P.underlying T = some (.slice E)) {sz : Nat} (hs : (C.P.info? E).map (·.size) = some sz) (hb : h ≤ c) : Free C o env m (.slice A h c) := by
  subst hq
  intro a w hr _
  have ht' : C.P.underlying T = some (.slice (C.P.elem T)) := by simp [Program.elem, hT]
  have he : C.P.elem T = E := by simp [Program.elem, hT]
  have h2 := run_slice_h (P := C.P) w T A n c ht' k (h : Int) (by omega) (by omega)
  rw [he, run_sizeOf hs w, Result.andThen_ok] at h2
  have h3 : sliced A 0 ((h : Int).toNat) c sz = .slice A h c := by
    unfold sliced
    rw [Int.toNat_natCast, Nat.zero_mul, Nat.sub_zero, Nat.sub_zero]
    have : A.map (·.add 0) = A := by cases A <;> rfl
    rw [this]; simp
  rw [h3] at h2
  simp only [execOp, ho, hr.ev hx, Option.map_none, Option.map_some, hr.ev hy, run_sliceAt_slice w T _ _ _ _ ht', Sem.run_bind, h2, Result.andThen_ok, Sem.run_pure]
theorem fr_slice_l {T x y E A n c k} {q : Int} (h : Nat) (hq : q = (h : Nat)) (ho : o.op = .slice T x (some y) none none) (hx : ev env x = some (.slice A n c)) (hy : ev env y = some (.int k q)) (hT : C.P.underlying T = some (.slice E)) {sz : Nat} (hs : (C.P.info? E).map (·.size) = some sz) (hb : h ≤ n) : Free C o env m (.slice (cutA A c h sz) (n - h) (c - h)) := by
  subst hq
  intro a w hr _
  have ht' : C.P.underlying T = some (.slice (C.P.elem T)) := by simp [Program.elem, hT]
  have he : C.P.elem T = E := by simp [Program.elem, hT]
  have h2 := run_slice_l (P := C.P) w T A n c ht' k (h : Int) (by omega) (by omega)
  rw [he, run_sizeOf hs w, Result.andThen_ok] at h2
  have h3 : sliced A ((h : Int).toNat) n c sz = .slice (cutA A c h sz) (n - h) (c - h) := by
    unfold sliced cutA offA
    rw [Int.toNat_natCast]
  rw [h3] at h2
  simp only [execOp, ho, hr.ev hx, Option.map_none, Option.map_some, hr.ev hy, run_sliceAt_slice w T _ _ _ _ ht', Sem.run_bind, h2, Result.andThen_ok, Sem.run_pure]
theorem Free.val {k : IntKind} {p : Int} (z : Int) (h : Free C o env m (.int k p)) (e : p = z) : Free C o env m (.int k z) := e ▸ h
theorem fr_slice_lb {T x y E n c k} {q : Int} {b q0 : Nat} (h : Nat) (hq : q = (h : Nat)) (ho : o.op = .slice T x (some y) none none) (hx : ev env x = some (.slice (some ⟨b, q0, none⟩) n c)) (hy : ev env y = some (.int k q)) (hT : C.P.underlying T = some (.slice E)) {sz : Nat} (hs : (C.P.info? E).map (·.size) = some sz) (hb : h ≤ n) (hc : h < c) : Free C o env m (.slice (some ⟨b, q0 + h * sz, none⟩) (n - h) (c - h)) := by
  have := fr_slice_l (C := C) (m := m) h hq ho hx hy hT hs hb
  unfold cutA offA at this
  rw [if_neg (by omega)] at this
  simpa [add_at] using this
theorem op_copyRow {d i b n c E k x y dT sT dLen dCap sLen sCap xs ys} {A : Option Addr} (ho : o.op = .call { callee := .builtin .copy, args := #[x, y], argTypes := #[dT, sT] })
    (hx : ev env x = some (.slice (some ⟨b, k, none⟩) dLen dCap)) (hy : ev env y = some (.slice A sLen sCap)) (hT : C.P.underlying dT = some (.slice E)) (hs : (C.P.info? E).map (·.size) = some 1)
    (hi : m[i]? = some (.row (.slice (some ⟨b, 0, none⟩) n c) E 1 n xs)) (hd : o.dst = some d) (hlt : Nat.blt d C.n = true) (new : List Value) (hn : new.length = min sLen dLen) (hp : 0 < new.length) (hsrc : SegO C m A new) (hk : k + new.length ≤ xs.length) (hone : new.all (·.oneCell') = true) (he : put xs k new = ys)
    (h : K ((d, .int .i64 (new.length : Int)) :: env) (m.set i (.row (.slice (some ⟨b, 0, none⟩) n c) E 1 n ys))) : Op1 C o env m K := by
  subst he
  refine Op1.of_run hd hlt fun a w hr hh => ?_
  have hr0 := hh.all _ (List.mem_of_getElem? hi)
  obtain ⟨ad, rfl, hsc⟩ := hsrc w hh
  rcases hr0.2 with ⟨_, hn0⟩ | ⟨g, cap, cur, hv, hb, hg, hnc, hcm, hcs, ht⟩
  · have := hr0.1; rw [hn0] at this; omega
  · simp only [Value.slice.injEq, Option.some.injEq, Addr.mk.injEq, true_and, and_true] at hv
    obtain ⟨rfl, rfl⟩ := hv
    have hxl : xs.length = n * 1 := hr0.1
    have h1 := run_copy_row (P := C.P) w dT sT o.type E b k dLen dCap ad sLen sCap cur E new hT hs hg hn hsc (by omega) (by simpa using hone)
    refine ⟨_, w.setRow b (cur.toList.take k ++ new ++ cur.toList.drop (k + new.length)).toArray, _, ?_, turn_row hh hi rfl hg rfl ?_, h⟩
    · simp only [execOp, ho, resolve, invoke, builtin, hr.ev hx, hr.ev hy, Sem.run_bind, List.map_toArray, List.map_cons, List.map_nil, h1, Result.andThen_ok, Sem.run_pure]; rfl
    · have hlen : (put xs k new).length = n * 1 := by simp only [put, List.length_append, List.length_take, List.length_drop]; omega
      refine ⟨hlen, .inr ⟨b, c, _, rfl, hb, setRow_heap w b cur _ E _ hg, hnc, hcm, ?_, ?_⟩⟩
      · simp only [List.size_toArray, List.length_append, List.length_take, List.length_drop, Array.length_toList]; omega
      · subst ht
        exact take_put (by omega) (by simp; omega)
theorem seg_row {i b n c : Nat} {E sz : Nat} {xs seg : List Value} (hi : m[i]? = some (.row (.slice (some ⟨b, 0, none⟩) n c) E sz n xs)) (hne : seg ≠ []) (hs : xs.take seg.length = seg) : SegO C m (some ⟨b, 0, none⟩) seg := by
  have := SegO.of (k := 0) (Reads.row (C := C) hi) hne fun j u hj => by
    rw [Nat.zero_add]
    rw [← hs, List.getElem?_take] at hj
    split at hj
    · exact hj
    · cases hj
  exact this
end Go.Sx
