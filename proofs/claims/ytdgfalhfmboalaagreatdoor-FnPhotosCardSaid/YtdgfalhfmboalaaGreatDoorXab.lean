/- Several texts, one behind the other. -/
import Derived.Laws.CopyRow
import Derived.Lib.AppendZeros
import Derived.Lib.AppendStr
import Derived.Lib.UnsafeStr
import Derived.Lib.Builder
import Derived.Laws.Concat
import Derived.Laws.IdiomStrings
import Derived.Laws.Externs
import Derived.Shelf.Pu.Lays
import Derived.Shelf.Pu.Lower
import Derived.Lib.Strings
import Derived.Lib.Walk
import Derived.Lib.ConvBytes
import Derived.Lib.ParseIntBMem
import Derived.Lib.Hide
import Derived.Laws.Strings3
import Derived.Laws.Closers25
import Derived.Laws.Closers25b
import Derived.WalkKit
import Derived.BigCall
import Derived.BigGuard
import Derived.Shelf.Pu.ParseUintEmpty
import Derived.Shelf.Pu.ToError
import Derived.Shelf.Pu.ToErrorRange
import Derived.Lib.AtoiErrMem
import Derived.Test.YtdgfalhfmboalaaGreatDoorXaa
/- Arrays of arrays: an element of several cells, by a number that is reckoned. -/
namespace Go.Sx
open Go Go.RowKit
variable {C : Cx} {env : Env} {m : List Ent} {o : Oper}
theorem segB {α : Type} {f : α → List Value} {sz : Nat} {i b : Nat} {T} {xs : List α} {k : Nat} (hi : m[i]? = some (.blk b (xs.flatMap f) T)) (hf : ∀ x, (f x).length = sz) (d : α) (hk : k < xs.length) : SegO C m (some ⟨b, 0 + (k : Int).toNat * sz, none⟩) (f (xs.getD k d)) := by
  rw [Nat.zero_add, Int.toNat_natCast]
  refine SegO.blk hi fun j u hj => ?_
  have hlt : j < sz := by rw [← hf (xs.getD k d)]; exact (List.getElem?_eq_some_iff.1 hj).1
  rw [flat_get hf d xs k j hk hlt, hj]
theorem segOld {α : Type} {f : α → List Value} {sz : Nat} {b q : Nat} {xs : List α} {k : Nat} (H : Reads C m (some ⟨b, q, none⟩) (xs.flatMap f)) (hf : ∀ x, (f x).length = sz) (d : α) (hp : Nat.blt 0 sz = true) (hk : k < xs.length) : SegO C m (some ⟨b, q + (k : Int).toNat * sz, none⟩) (f (xs.getD k d)) := by
  have h := segN H hf hp d hk
  simpa [offA, add_at] using h
theorem fr_indexG {α : Type} {f : α → List Value} {sz : Nat} {xs : List α} {j : Nat} (hf : ∀ x, (f x).length = sz) (d : α) {S x y} {N : Nat} {E} {k} {dd} (ho : o.op = .index S x y) (hx : ev env x = some (.agg (List.toArray (xs.flatMap f)))) (hy : ev env y = some (.int k (j : Int))) (hS : C.P.underlying S = some (.array N E)) (hE : C.P.underlying E = some dd) (hd : aggD dd = true) (hs : (C.P.info? E).map (·.size) = some sz) (hN : xs.length = N) (hj : j < xs.length) : Free C o env m (.agg (f (xs.getD j d)).toArray) := by
  have := fr_indexN (C := C) (m := m) ho hx hy hS hE hd hs (by omega)
  rwa [Int.toNat_natCast, flat_seg hf d xs j hj] at this
theorem fr_sliceArr_h {T x y E k} {N b q0 : Nat} {q : Int} (h : Nat) (hq : q = (h : Nat)) (ho : o.op = .slice T x none (some y) none) (hx : ev env x = some (.pointer (some ⟨b, q0, none⟩))) (hy : ev env y = some (.int k q)) (hT : C.P.underlying T = some (.array N E)) {sz : Nat} (hs : (C.P.info? E).map (·.size) = some sz) (hN : Nat.blt 0 N = true) (hb : h ≤ N) : Free C o env m (.slice (some ⟨b, q0, none⟩) h N) := by
  subst hq
  intro a w hr _
  have hN0 : 0 < N := by simpa using hN
  have hal : C.P.arrayLen T = N := by simp [Program.arrayLen, hT]
  have he : C.P.elem T = E := by simp [Program.elem, hT]
  have ht' : C.P.underlying T = some (.array (C.P.arrayLen T) (C.P.elem T)) := by rw [hal, he, hT]
  have h2 := run_sliceAt_array_h (P := C.P) w T ⟨b, q0, none⟩ ht' k (h : Int) (by omega) (by omega)
  rw [he, run_sizeOf hs w, Result.andThen_ok, hal] at h2
  have h3 : slicedAt ⟨b, q0, none⟩ 0 ((h : Int).toNat) N sz = .slice (some ⟨b, q0, none⟩) h N := by
    unfold slicedAt
    rw [Int.toNat_natCast, if_neg (by omega), Nat.zero_mul, add_at, Nat.add_zero, Nat.sub_zero, Nat.sub_zero]
  rw [h3] at h2
  simp only [execOp, ho, hr.ev hx, Option.map_none, Option.map_some, hr.ev hy, Sem.run_bind, h2, Result.andThen_ok, Sem.run_pure]
theorem quo64 {d : Nat} (h : d < 1000000) : IntKind.i64.wrap ((d : Int).tdiv 64) = ((d / 64 : Nat) : Int) := by
  rw [Int.tdiv_eq_ediv_of_nonneg (by omega), IntKind.wrap_i64]; omega
end Go.Sx
namespace Go.Sx
open Go Go.RowKit
variable {C : Cx} {env : Env} {m : List Ent} {l : List Oper} {K : Env → List Ent → Prop} {S : List Ent} {fuel i j di dj : Nat} {done : List Nat} {oi oj o : Oper}
/-- Two that may come in either order, each way walked by itself. -/
theorem ExD.fork (hi : l[i]? = some oi) (hj : l[j]? = some oj) (h2 : readyOk l done [i, j] = true) (hgi : wantB l env oi = some true) (hgj : wantB l env oj = some true)
    (h : Op1 C oi env m fun env m => S.Sublist m ∧ ExD C l S fuel (i :: done) env m K) (h' : Op1 C oj env m fun env m => S.Sublist m ∧ ExD C l S fuel (j :: done) env m K) : ExD C l S (fuel + 1) done env m K := by
  refine ExD.ops h2 (by simp) fun k hk => ?_
  rcases List.mem_cons.1 hk with rfl | hk
  · exact ⟨oi, hi, hgi, h⟩
  · obtain rfl : k = j := by simpa using hk
    exact ⟨oj, hj, hgj, h'⟩
end Go.Sx

/- Marks as the program reckons them. -/
set_option linter.unusedVariables false
set_option linter.unusedSimpArgs false
namespace Go.W
open Go Go.Sx
theorem has_dec {m : VMk} {d : Nat} (hm : OkMk m) (hd : d < 128) : decide (bits .and .u64 (m.l.getD (d / 64) 0 / 2 ^ min ((d : Int) % 64).toNat IntKind.u64.bits) 1 = 1) = hasM m d := by
  rw [show ((d : Int) % 64) = ((d % 64 : Nat) : Int) by omega, bit_walk (hm.at_ _) (by omega)]
  show decide ((if hasM m d = true then 1 else 0 : Int) = 1) = hasM m d
  cases hasM m d <;> rfl
theorem put_walk {m : VMk} {d : Nat} (hm : OkMk m) (hd : d < 128) : put (encMk m) (0 + ((d / 64 : Nat) : Int).toNat * 1) [.int .u64 (bits .or .u64 (m.l.getD (d / 64) 0) (IntKind.u64.wrap (1 * 2 ^ min ((d : Int) % 64).toNat IntKind.u64.bits)))] = encMk (putM m d) := by
  rw [show ((d : Int) % 64) = ((d % 64 : Nat) : Int) by omega, shl_one (by omega), bits_or1 (hm.at_ _) (by omega)]
  unfold putM
  rw [encMk_mk (by rw [List.length_set]; rfl), Nat.zero_add, Int.toNat_natCast]
  exact flat_put (eI_len .u64) m.l (d / 64) _ (by rw [mk_len]; omega)
theorem pa_1 {s : List Int} {l : List VMk} {k : Nat} (hk : k < s.length) (h : decide ((l.getD k zMk).l = [0, 0]) = true) : phAt s l k = false := by unfold phAt; rw [if_pos hk, h]; rfl
theorem pa_2 {s : List Int} {l : List VMk} {k : Nat} (hk : k < s.length) (h : ¬ bits .andNot .u64 (l.getD k zMk).lo (fullM (s.getD k 0).toNat).lo = 0) : phAt s l k = false := by
  unfold phAt subM; rw [if_pos hk, decide_eq_false (p := _ ∧ _) (fun h9 => h h9.1), Bool.and_false]
theorem pa_3 {s : List Int} {l : List VMk} {k : Nat} (hk : k < s.length) (h : ¬ bits .andNot .u64 (l.getD k zMk).hi (fullM (s.getD k 0).toNat).hi = 0) : phAt s l k = false := by
  unfold phAt subM; rw [if_pos hk, decide_eq_false (p := _ ∧ _) (fun h9 => h h9.2), Bool.and_false]
theorem pa_4 {s : List Int} {l : List VMk} {k : Nat} (hk : k < s.length) (h0 : decide ((l.getD k zMk).l = [0, 0]) = false) (h1 : bits .andNot .u64 (l.getD k zMk).lo (fullM (s.getD k 0).toNat).lo = 0) (h2 : bits .andNot .u64 (l.getD k zMk).hi (fullM (s.getD k 0).toNat).hi = 0) : phAt s l k = true := by
  unfold phAt subM; rw [if_pos hk, h0, decide_eq_true ⟨h1, h2⟩]; rfl
theorem pa_4s {s : List Int} {l : List VMk} {k : Nat} (hk : k < s.length) (h0 : decide ((l.getD k zMk).l = [0, 0]) = false) (h1 : subM (l.getD k zMk) (fullM (s.getD k 0).toNat) = true) : phAt s l k = true := by
  unfold phAt; rw [if_pos hk, h0, h1]; rfl
theorem pa_2s {s : List Int} {l : List VMk} {k : Nat} (hk : k < s.length) (h : subM (l.getD k zMk) (fullM (s.getD k 0).toNat) = false) : phAt s l k = false := by
  unfold phAt; rw [if_pos hk, h, Bool.and_false]
theorem pa_5 {s : List Int} {l : List VMk} {k : Nat} (hk : ¬ k < s.length) (h : (!decide ((l.getD k zMk).l = [0, 0])) = true) : phAt s l k = false := by
  unfold phAt; rw [if_neg hk]; simpa using h
theorem pa_6 {s : List Int} {l : List VMk} {k : Nat} (hk : ¬ k < s.length) (h : (!decide ((l.getD k zMk).l = [0, 0])) = false) : phAt s l k = true := by
  unfold phAt; rw [if_neg hk]; simpa using h
theorem sub_dec {m n : VMk} : subM m n = (decide (bits .andNot .u64 m.lo n.lo = 0) && decide (bits .andNot .u64 m.hi n.hi = 0)) := by
  unfold subM; rw [Bool.decide_and]
theorem sh_1 {s : List Int} {p : VPh} {a : Dig} (h : validPh s p = false) : shV s p a = (false, 1) := by unfold shV; rw [h]; rfl
theorem sh_2 {s : List Int} {p : VPh} {a : Dig} (h : (validStack s && validDig s a.l) = false) : shV s p a = (false, 1) := by unfold shV; rw [h, Bool.and_false]; rfl
theorem sh_0 {s : List Int} {p : VPh} {a : Dig} (h1 : validPh s p = true) (h : (validStack s && validDig s a.l) = true) : shV s p a = (showsM s p.l a.l, 0) := by unfold shV; rw [h, h1]; rfl
end Go.W

/- Counts in photos, as the program reckons them. -/
set_option linter.unusedVariables false
set_option linter.unusedSimpArgs false
namespace Go.W
open Go Go.Sx
theorem ones64' {x a b c d e f : Int} (hx : 0 ≤ x ∧ x < 18446744073709551616)
    (ha : IntKind.u64.wrap (bits .and .u64 (x / 2 ^ min (1 : Int).toNat IntKind.u64.bits) 6148914691236517205 + bits .and .u64 x 6148914691236517205) = a)
    (hb : IntKind.u64.wrap (bits .and .u64 (a / 2 ^ min (2 : Int).toNat IntKind.u64.bits) 3689348814741910323 + bits .and .u64 a 3689348814741910323) = b)
    (hc : bits .and .u64 (IntKind.u64.wrap (b / 2 ^ min (4 : Int).toNat IntKind.u64.bits + b)) 1085102592571150095 = c)
    (hd : IntKind.u64.wrap (c + c / 2 ^ min (8 : Int).toNat IntKind.u64.bits) = d)
    (he : IntKind.u64.wrap (d + d / 2 ^ min (16 : Int).toNat IntKind.u64.bits) = e)
    (hf : IntKind.u64.wrap (e + e / 2 ^ min (32 : Int).toNat IntKind.u64.bits) = f) : 0 ≤ f ∧ f ≤ 9223372036854775807 ∧ f % 128 = popI x := by
  subst ha hb hc hd he hf
  exact ones64 hx
theorem and127 {f : Int} (h : 0 ≤ f ∧ f ≤ 9223372036854775807) : bits .and .i64 f 127 = f % 128 := bits_mask .i64 63 (by decide) wraps_i64 7 (by decide) f h.1 (by have := h.2; omega)
/-! bits, one by one -/
def popJ (x : Int) (k : Nat) : Int := (popK x.toNat k : Int)
theorem popJ_0 (x : Int) : popJ x 0 = 0 := rfl
theorem popJ_s {x : Int} (h : 0 ≤ x) (k : Nat) : popJ x (k + 1) = popJ x k + x / 2 ^ k % 2 := by
  obtain ⟨n, rfl⟩ := Int.eq_ofNat_of_zero_le h
  unfold popJ
  rw [Int.toNat_natCast, popK_succ]
  push_cast; rfl
theorem popJ_bd (x : Int) (k : Nat) : 0 ≤ popJ x k ∧ popJ x k ≤ k := by unfold popJ; have := popK_le x.toNat k; omega
theorem popJ_end {x : Int} {k : Nat} (h : 0 ≤ x) (hk : k ≤ 64) (hz : x / 2 ^ k = 0) : popJ x k = popI x := by
  obtain ⟨n, rfl⟩ := Int.eq_ofNat_of_zero_le h
  unfold popJ popI
  rw [Int.toNat_natCast]
  have hz2 : n / 2 ^ k = 0 := by exact_mod_cast hz
  have := popK_hi hz2 (64 - k)
  rw [show k + (64 - k) = 64 by omega] at this
  rw [this]
theorem pop_lt {x : Int} {k : Nat} (h : 0 ≤ x ∧ x < 18446744073709551616) (hz : ¬ x / 2 ^ k = 0) : k < 64 := by
  rcases Nat.lt_or_ge k 64 with h1 | h1
  · exact h1
  · exfalso
    refine hz (Int.ediv_eq_zero_of_lt h.1 ?_)
    have h2 : (2 : Nat) ^ 64 ≤ 2 ^ k := Nat.pow_le_pow_right (by omega) h1
    have h3 : ((2 : Int)) ^ 64 ≤ 2 ^ k := by exact_mod_cast h2
    have := h.2
    omega
theorem pop_div {x : Int} {k : Nat} : x / 2 ^ k / 2 ^ min (1 : Int).toNat IntKind.u64.bits = x / 2 ^ (k + 1) := by
  rw [show (2 : Int) ^ min (1 : Int).toNat IntKind.u64.bits = 2 from rfl, Int.pow_succ, Int.ediv_ediv_of_nonneg (Int.pow_nonneg (by omega))]
theorem pop_bd {x : Int} {k : Nat} (h : 0 ≤ x ∧ x < 18446744073709551616) : 0 ≤ x / 2 ^ k ∧ x / 2 ^ k < 18446744073709551616 := by
  have h0 : (0 : Int) ≤ 2 ^ k := Int.pow_nonneg (by omega)
  have h1 := Int.ediv_nonneg h.1 h0
  have h2 := Int.ediv_le_self (2 ^ k) h.1
  omega
def cumM (m : VMk) : Nat → Int
  | 0 => 0
  | i + 1 => cumM m i + popI (m.l.getD i 0)
theorem cumM_bd (m : VMk) : ∀ i : Nat, 0 ≤ cumM m i ∧ cumM m i ≤ 64 * i
  | 0 => by simp [cumM]
  | i + 1 => by have := cumM_bd m i; have := popI_bd (m.l.getD i 0); rw [cumM]; omega
theorem cumM_2 (m : VMk) : cumM m 2 = cntM m := by
  show (0 + popI m.lo) + popI m.hi = _
  unfold cntM; omega
/-! how many are less -/
def lessD (ds : List Int) (x : Int) : Nat → Int
  | 0 => 0
  | r + 1 => lessD ds x r + if ds.getD r 0 < x then 1 else 0
theorem lessD_y {ds : List Int} {x : Int} {r : Nat} (h : ds.getD r 0 < x) : lessD ds x (r + 1) = lessD ds x r + 1 := by rw [lessD, if_pos h]
theorem lessD_n {ds : List Int} {x : Int} {r : Nat} (h : ¬ ds.getD r 0 < x) : lessD ds x (r + 1) = lessD ds x r := by rw [lessD, if_neg h, Int.add_zero]
theorem lessD_bd (ds : List Int) (x : Int) : ∀ r : Nat, 0 ≤ lessD ds x r ∧ lessD ds x r ≤ r
  | 0 => by simp [lessD]
  | r + 1 => by have := lessD_bd ds x r; rw [lessD]; split <;> omega
theorem lessD_filter (ds : List Int) (x : Int) : ∀ r, r ≤ ds.length → lessD ds x r = (((ds.take r).filter fun y => decide (y < x)).length : Int)
  | 0, _ => by simp [lessD]
  | r + 1, h => by
    rw [lessD, lessD_filter ds x r (by omega), List.take_succ_eq_append_getElem (by omega : r < ds.length), List.filter_append, List.length_append]
    have e : ds.getD r 0 = ds[r] := by simp [List.getD, show r < ds.length by omega]
    rw [e]
    by_cases hx : ds[r] < x
    · simp [hx]
    · simp [hx]
theorem lessD_M (m : VMk) (d : Nat) : lessD (digI m) (d : Int) (digI m).length = lessM m (min 128 d) := by
  rw [lessD_filter _ _ _ (Nat.le_refl _), List.take_length]
  unfold digI digM
  have key : ∀ K : Nat, ((((((List.range K).filter (hasM m)).map fun n : Nat => (n : Int)).filter fun y => decide (y < (d : Int))).length : Nat) : Int) = lessM m (min K d) := by
    intro K
    induction K with
    | zero => simp [lessM]
    | succ K ih =>
      rw [List.range_succ, List.filter_append, List.map_append, List.filter_append, List.length_append, Int.natCast_add, ih]
      rcases Nat.lt_or_ge K d with h | h
      · rw [show min (K + 1) d = min K d + 1 by omega, less_succ, show min K d = K by omega]
        by_cases hh : hasM m K = true
        · simp [hh, h]
        · simp [hh]
      · rw [show min (K + 1) d = min K d by omega]
        by_cases hh : hasM m K = true
        · simp [hh, show ¬ ((K : Int) < d) by omega]
        · simp [hh]
  exact key 128
theorem less_end {m : VMk} {x : Int} (h : 0 ≤ x ∧ x ≤ 128) : lessD (digI m) x (digI m).length = lessM m x.toNat := by
  obtain ⟨d, rfl⟩ := Int.eq_ofNat_of_zero_le h.1
  rw [lessD_M, Int.toNat_natCast, show min 128 d = d by omega]
/-! what is added up from the last wheel on -/
def termB (l : List VMk) (d : List Int) (i : Nat) : Int := lessM (l.getD i zMk) (d.getD i 0).toNat * choV l i
def accU (l : List VMk) (d : List Int) : Nat → Nat → Int
  | 0, _ => 0
  | n + 1, k => accU l d n (k + 1) + termB l d k
theorem acc_s {l : List VMk} {d : List Int} {n j : Nat} (h : j < n) : accU l d (n - j) j = accU l d (n - (j + 1)) (j + 1) + lessM (l.getD j zMk) (d.getD j 0).toNat * choV l j := by
  obtain ⟨r, hr⟩ : ∃ r, n - j = r + 1 := ⟨n - j - 1, by omega⟩
  rw [hr, accU, show n - (j + 1) = r by omega]; rfl
theorem acc_bd {s : List Int} {l : List VMk} {d : List Int} (h : PhOk s l) (hs : Stk s) (hd : DigOk s d) : ∀ (n k : Nat), k + n ≤ s.length → 0 ≤ accU l d n k ∧ accU l d n k ≤ 100000000000000 * n
  | 0, _, _ => by simp [accU]
  | n + 1, k, hk => by
    have h1 := acc_bd h hs hd n (k + 1) (by omega)
    have h2 := bel_term h hs hd (i := k) (by omega)
    rw [accU]; unfold termB; omega
theorem bel_end {l : List VMk} {d : List Int} {n : Nat} (h : belV l d n 0 = belV l d 0 (accU l d n 0)) : accU l d n 0 = belV l d n 0 := h.symm
theorem bel_step {l : List VMk} {d : List Int} {n j : Nat} (hj : j < n) (h : belV l d n 0 = belV l d (j + 1) (accU l d (n - (j + 1)) (j + 1))) (hh : hasM (l.getD j zMk) (d.getD j 0).toNat = true) : belV l d n 0 = belV l d j (accU l d (n - j) j) := by
  rw [h, bel_y hh, acc_s hj]
theorem bel_stop {l : List VMk} {d : List Int} {n j : Nat} (h : belV l d n 0 = belV l d (j + 1) (accU l d (n - (j + 1)) (j + 1))) (hh : hasM (l.getD j zMk) (d.getD j 0).toNat = false) : accU l d (n - (j + 1)) (j + 1) + lessM (l.getD j zMk) (d.getD j 0).toNat * choV l j = belV l d n 0 := by
  rw [h, bel_n hh]
/-! the statement's own words -/
theorem ci_1 {s : List Int} {p : VPh} {lo hi : Int} (h : validPh s p = false) : cinV s p lo hi = (0, 1) := by unfold cinV; rw [if_pos h]
theorem ci_2 {s : List Int} {p : VPh} {lo hi : Int} (h : validPh s p = true) (h2 : ¬ ((0 ≤ lo ∧ lo ≤ size s - 1) ∧ 0 ≤ hi ∧ hi ≤ size s - 1)) : cinV s p lo hi = (0, 2) := by unfold cinV; rw [if_neg (by rw [h]; decide), if_pos h2]
theorem ci_0 {s : List Int} {p : VPh} {lo hi : Int} (h : validPh s p = true) (h2 : (0 ≤ lo ∧ lo ≤ size s - 1) ∧ 0 ≤ hi ∧ hi ≤ size s - 1) (h3 : hi < lo) : cinV s p lo hi = (0, 0) := by unfold cinV; rw [if_neg (by rw [h]; decide), if_neg (fun h9 => h9 h2), if_pos h3]
theorem ci_y {s : List Int} {p : VPh} {lo hi : Int} (h : validPh s p = true) (h2 : (0 ≤ lo ∧ lo ≤ size s - 1) ∧ 0 ≤ hi ∧ hi ≤ size s - 1) (h3 : ¬ hi < lo) (h4 : showsM s p.l (digs s hi) = true) : cinV s p lo hi = (belV p.l (digs s hi) s.length 0 - belV p.l (digs s lo) s.length 0 + 1, 0) := by
  unfold cinV; rw [if_neg (by rw [h]; decide), if_neg (fun h9 => h9 h2), if_neg h3, if_pos h4]
theorem ci_n {s : List Int} {p : VPh} {lo hi : Int} (h : validPh s p = true) (h2 : (0 ≤ lo ∧ lo ≤ size s - 1) ∧ 0 ≤ hi ∧ hi ≤ size s - 1) (h3 : ¬ hi < lo) (h4 : showsM s p.l (digs s hi) = false) : cinV s p lo hi = (belV p.l (digs s hi) s.length 0 - belV p.l (digs s lo) s.length 0, 0) := by
  unfold cinV; rw [if_neg (by rw [h]; decide), if_neg (fun h9 => h9 h2), if_neg h3, if_neg (by rw [h4]; decide), Int.add_zero]
theorem vph {s : List Int} {p : VPh} (hp : OkPh p) (h : validPh s p = true) : validStack s = true ∧ Stk s ∧ PhOk s p.l := by
  unfold validPh at h
  rw [Bool.and_eq_true] at h
  exact ⟨h.1, stk h.1, phOk (stk h.1) hp h.2⟩
end Go.W

/- What a device does, in plain numbers. -/
set_option linter.unusedVariables false
set_option linter.unusedSimpArgs false
namespace Go.W
open Go Go.Sx
def VDev.v (d : VDev) : Int := val d.stack d.shows.l
def validDev (d : VDev) : Bool := decide (validStack d.stack = true ∧ validDig d.stack d.shows.l = true ∧ (0 ≤ d.tickets ∧ d.tickets ≤ 1000000) ∧ (d.preset = -1 ∨ 0 ≤ d.preset ∧ d.preset ≤ size d.stack - 1) ∧ (d.stopped = true → d.preset = d.v))
structure DevOk (d : VDev) : Prop where
  stk : Stk d.stack
  dig : DigOk d.stack d.shows.l
  vd : validDig d.stack d.shows.l = true
  tick : 0 ≤ d.tickets ∧ d.tickets ≤ 1000000
  preset : d.preset = -1 ∨ 0 ≤ d.preset ∧ d.preset ≤ prod d.stack - 1
  stop : d.stopped = true → d.preset = d.v
theorem devOk {d : VDev} (hn : Nums 255 d.shows.l) (h : validDev d = true) : DevOk d := by
  unfold validDev at h
  rw [decide_eq_true_iff] at h
  obtain ⟨h1, h2, h3, h4, h5⟩ := h
  have hs := Go.W.stk h1
  exact ⟨hs, digOk hs.len8 hn h2, h2, h3, by rw [hs.size_] at h4; exact h4, h5⟩
end Go.W
namespace Go.W
open Go Go.Sx
def zDig : Dig := ⟨0, 0, 0, 0, 0, 0, 0, 0⟩
end Go.W
namespace Go.W
open Go Go.Sx
theorem sizeS {d : VDev} (h : DevOk d) : size d.stack = prod d.stack := h.stk.size_
end Go.W
namespace Go.W
open Go Go.Sx
end Go.W
namespace Go.W
open Go Go.Sx
end Go.W
namespace Go.W
open Go Go.Sx
end Go.W
namespace Go.W
open Go Go.Sx
end Go.W

/- Devices behind acts, in plain numbers. -/
set_option linter.unusedVariables false
set_option linter.unusedSimpArgs false
namespace Go.W
open Go Go.Sx
theorem OkDev.mk' {d : VDev} (h : OkDev d) {d' : VDev} (hs : d'.stack = d.stack) (hn : Nums 255 d'.shows.l) (hp : I64 d'.preset) (ht : I64 d'.tickets) : OkDev d' := by
  unfold OkDev at h ⊢; rw [hs]; exact ⟨h.1, h.2.1, hn, hp, ht⟩
end Go.W
namespace Go.W
open Go Go.Sx
end Go.W
namespace Go.W
open Go Go.Sx
end Go.W
namespace Go.W
open Go Go.Sx
end Go.W

/- Fewer acts, in plain numbers. -/
set_option linter.unusedVariables false
set_option linter.unusedSimpArgs false
namespace Go.W
open Go Go.Sx
/-- How great the numbers are. -/
def Low (b : Int) (l : List VAct) : Prop := ∀ x ∈ l, -1 ≤ x.n ∧ x.n ≤ b
theorem Low.at_ {b : Int} {l : List VAct} (h : Low b l) {i : Nat} (hi : i < l.length) : -1 ≤ (l.getD i zA).n ∧ (l.getD i zA).n ≤ b := h _ (getD_mem zA hi)
theorem Low.any {b : Int} {l : List VAct} (h : Low b l) (hb : 0 ≤ b) (i : Nat) : -1 ≤ (l.getD i zA).n ∧ (l.getD i zA).n ≤ b := by
  rcases Nat.lt_or_ge i l.length with hi | hi
  · exact h.at_ hi
  · have e : l.getD i zA = zA := by simp [List.getD, List.getElem?_eq_none hi]
    rw [e]; exact ⟨by decide, hb⟩
end Go.W

/- What is played, in plain numbers. -/
set_option linter.unusedVariables false
set_option linter.unusedSimpArgs false
namespace Go.W
open Go Go.Sx
/-- A ticket asked for. -/
def a5 : VAct := ⟨5, 0⟩
end Go.W

/- What is played, as the program plays it, in plain numbers. -/
set_option linter.unusedVariables false
set_option linter.unusedSimpArgs false
namespace Go.W
open Go Go.Sx
end Go.W

/- Marks in lists of tickets and of notes. -/
set_option linter.unusedVariables false
set_option linter.unusedSimpArgs false
namespace Go.W
open Go Go.Sx
end Go.W

/- Numbers that lack, in plain numbers. -/
set_option linter.unusedVariables false
set_option linter.unusedSimpArgs false
namespace Go.W
open Go Go.Sx
end Go.W

/- Marks in lists; lists of values, as the program makes them. -/
set_option linter.unusedVariables false
set_option linter.unusedSimpArgs false
namespace Go.W
open Go Go.Sx
theorem digP_le (m : VMk) {d e : Nat} (h : d ≤ e) : (digP m d).length ≤ (digP m e).length := by
  induction h with
  | refl => exact Nat.le_refl _
  | step _ ih =>
    rename_i k _
    cases hh : hasM m k with
    | true => rw [digP_y hh, List.length_append]; simp; omega
    | false => rw [digP_n hh]; exact ih
def partS (b : Int) (m : VMk) (out : List Int) (q d : Nat) : List Int := stepV b (digI m) (out.take q) ++ oneL b (digP m d) (out.getD q 0)
theorem pts_y {b : Int} {m : VMk} {out : List Int} {q d : Nat} (h : hasM m d = true) : partS b m out q (d + 1) = partS b m out q d ++ [out.getD q 0 * b + d] := by
  unfold partS oneL
  rw [digP_y h, List.map_append, List.append_assoc]; rfl
theorem pts_n {b : Int} {m : VMk} {out : List Int} {q d : Nat} (h : hasM m d = false) : partS b m out q (d + 1) = partS b m out q d := by unfold partS; rw [digP_n h]
theorem pts_next {b : Int} {m : VMk} {out : List Int} {q d : Nat} (hq : q < out.length) (hd : d ≤ 128) (h : ∀ e, e < 128 → hasM m e = true → e < d) : partS b m out q d = partV b (digI m) out (q + 1) 0 := by
  rw [← ptv_next (r := (digI m).length) hq rfl]
  unfold partS partV
  rw [List.take_length, digP_end hd h]
theorem pts_len {b : Int} {m : VMk} {out : List Int} {q d : Nat} (hq : q < out.length) (hd : d ≤ 128) : (partS b m out q d).length ≤ out.length * (digI m).length := by
  have h1 := digP_le m hd
  have h2 : (digP m 128).length = (digI m).length := rfl
  unfold partS
  rw [List.length_append, stp_len, one_len, List.length_take, Nat.min_eq_left (by omega)]
  have : (q + 1) * (digI m).length ≤ out.length * (digI m).length := Nat.mul_le_mul_right _ (by omega)
  rw [Nat.succ_mul] at this; omega
theorem ptv_le {b : Int} {ds out : List Int} {q : Nat} (hq : q ≤ out.length) : (partV b ds out q 0).length ≤ out.length * ds.length := by
  unfold partV
  rw [List.length_append, stp_len, one_len, List.length_take, Nat.min_eq_left hq, List.take_zero]
  exact Nat.mul_le_mul_right _ hq
theorem val_room {s : List Int} {l : List VMk} (h : PhOk s l) (hs : Stk s) {t : Nat} (ht : t < s.length) : (valW s l t).length ≤ 1000000000000 ∧ (valW s l t).length * (digI (l.getD (s.length - 1 - t) zMk)).length ≤ 1000000000000 := by
  have h1 := valW_le h hs (j := t + 1) (by omega)
  have h0 := valW_le h hs (j := t) (by omega)
  have h2 := cho_le h hs (i := s.length) (Nat.le_refl _)
  rw [valW, stp_len] at h1
  omega
theorem vi_1 {s : List Int} {p : VPh} (h : validPh s p = false) : vinV s p = ([], 1) := by unfold vinV; rw [if_pos h]
theorem vi_3 {s : List Int} {p : VPh} (h : validPh s p = true) (h2 : 400 < choV p.l s.length) : vinV s p = ([], 3) := by unfold vinV; rw [if_neg (by rw [h]; decide), if_pos h2]
theorem vi_0 {s : List Int} {p : VPh} (h : validPh s p = true) (h2 : ¬ 400 < choV p.l s.length) : vinV s p = (valsP s p, 0) := by unfold vinV; rw [if_neg (by rw [h]; decide), if_neg h2]
theorem vi_len (s : List Int) (p : VPh) : (vinV s p).1.length ≤ 400 := by
  cases h : validPh s p with
  | false => rw [vi_1 h]; simp
  | true =>
    by_cases h2 : 400 < choV p.l s.length
    · rw [vi_3 h h2]; simp
    · rw [vi_0 h h2]
      have := valsP_len s p
      show (valsP s p).length ≤ 400
      omega
end Go.W

/- Films in memory. -/
set_option linter.unusedVariables false
set_option linter.unusedSimpArgs false
namespace Go.W
open Go Go.Sx
/-! a film that is made -/
/-! codes -/
/-! first ones that are good -/
end Go.W

/- Ways through films, as the program reckons them. -/
set_option linter.unusedVariables false
set_option linter.unusedSimpArgs false
namespace Go.W
open Go Go.Sx
end Go.W

/- What can be reached, row by row. -/
set_option linter.unusedVariables false
set_option linter.unusedSimpArgs false
namespace Go.W
open Go Go.Sx
end Go.W

/- How many ways, row by row. -/
set_option linter.unusedVariables false
set_option linter.unusedSimpArgs false
namespace Go.W
open Go Go.Sx
end Go.W

/- Slices of slices, copies. -/
set_option linter.unusedVariables false
set_option linter.unusedSimpArgs false
namespace Go.Sx
open Go Go.RowKit
variable {C : Cx} {env : Env} {m : List Ent} {o : Oper} {K : Env → List Ent → Prop}
/-- Where the rest of a slice begins. -/
def cutA (A : Option Addr) (c k sz : Nat) : Option Addr := if c = k then A else offA A (k * sz)
theorem fr_slice_h {T x y E A n c k} {q : Int} (h : Nat) (hq : q = (h : Nat)) (ho : o.op = .slice T x none (some y) none) (hx : ev env x = some (.slice A n c)) (hy : ev env y = some (.int k q)) (hT : C.P.underlying T = some (.slice E)) {sz : Nat} (hs : (C.P.info? E).map (·.size) = some sz) (hb : h ≤ c) : Free C o env m (.slice A h c) := by
  subst hq
  intro a w hr _
  have ht' : C.P.underlying T = some (.slice (C.P.elem T)) := by simp [Program.elem, hT]
  have he : C.P.elem T = E := by simp [Program.elem, hT]
  have h2 := run_slice_h (P := C.P) w T A n c ht' k (h : Int) (by omega) (by omega)
  rw [he, run_sizeOf hs w, Result.andThen_ok] at h2
  have h3 : sliced A 0 ((h : Int).toNat) c sz = .slice A h c := by
    unfold sliced
    rw [Int.toNat_natCast, Nat.zero_mul, Nat.sub_zero, Nat.sub_zero]
    have : A.map (·.add 0) = A := by cases A <;> rfl
    rw [this]; simp
  rw [h3] at h2
  simp only [execOp, ho, hr.ev hx, Option.map_none, Option.map_some, hr.ev hy, run_sliceAt_slice w T _ _ _ _ ht', Sem.run_bind, h2, Result.andThen_ok, Sem.run_pure]
theorem fr_slice_l {T x y E A n c k} {q : Int} (h : Nat) (hq : q = (h : Nat)) (ho : o.op = .slice T x (some y) none none) (hx : ev env x = some (.slice A n c)) (hy : ev env y = some (.int k q)) (hT : C.P.underlying T = some (.slice E)) {sz : Nat} (hs : (C.P.info? E).map (·.size) = some sz) (hb : h ≤ n) : Free C o env m (.slice (cutA A c h sz) (n - h) (c - h)) := by
  subst hq
  intro a w hr _
  have ht' : C.P.underlying T = some (.slice (C.P.elem T)) := by simp [Program.elem, hT]
  have he : C.P.elem T = E := by simp [Program.elem, hT]
  have h2 := run_slice_l (P := C.P) w T A n c ht' k (h : Int) (by omega) (by omega)
  rw [he, run_sizeOf hs w, Result.andThen_ok] at h2
  have h3 : sliced A ((h : Int).toNat) n c sz = .slice (cutA A c h sz) (n - h) (c - h) := by
    unfold sliced cutA offA
    rw [Int.toNat_natCast]
  rw [h3] at h2
  simp only [execOp, ho, hr.ev hx, Option.map_none, Option.map_some, hr.ev hy, run_sliceAt_slice w T _ _ _ _ ht', Sem.run_bind, h2, Result.andThen_ok, Sem.run_pure]
theorem Free.val {k : IntKind} {p : Int} (z : Int) (h : Free C o env m (.int k p)) (e : p = z) : Free C o env m (.int k z) := e ▸ h
end Go.Sx

/- A number repeated. -/
set_option linter.unusedVariables false
set_option linter.unusedSimpArgs false
namespace Go.W
open Go Go.Sx
end Go.W

/- Least sums to the end, row by row from the last. -/
set_option linter.unusedVariables false
set_option linter.unusedSimpArgs false
namespace Go.W
open Go Go.Sx
/-! a list of lists that is filled from the end -/
/-! rows of sums -/
variable {z lo hi us : Int} {F : Nat → List Int} {n t i j : Nat}
end Go.W

/- The likeliest way. -/
set_option linter.unusedVariables false
set_option linter.unusedSimpArgs false
namespace Go.W
open Go Go.Sx
/-! the statement's own words -/
/-! the code, as the reference comes to it -/
end Go.W

/- Ways, told by values. -/
set_option linter.unusedVariables false
set_option linter.unusedSimpArgs false
namespace Go.W
open Go Go.Sx
/-! sums over lists -/
def totG (g : Int → Int) : List Int → Int
  | [] => 0
  | x :: t => g x + totG g t
theorem tot_nn {g : Int → Int} {l : List Int} (h : ∀ x, x ∈ l → 0 ≤ g x) : 0 ≤ totG g l := by
  induction l with
  | nil => simp [totG]
  | cons x s ih =>
    have h1 := h x (by simp)
    have h2 := ih fun y hy => h y (by simp [hy])
    simp only [totG]; omega
theorem tot_pos {g : Int → Int} {l : List Int} (h : ∀ x, x ∈ l → 0 ≤ g x) : 0 < totG g l ↔ ∃ x, x ∈ l ∧ 0 < g x := by
  induction l with
  | nil => simp [totG]
  | cons x s ih =>
    have h1 := h x (by simp)
    have h2 : ∀ y, y ∈ s → 0 ≤ g y := fun y hy => h y (by simp [hy])
    have h3 := ih h2
    have h4 := tot_nn h2
    simp only [totG]
    constructor
    · intro h5
      rcases Int.lt_or_le 0 (g x) with h6 | h6
      · exact ⟨x, by simp, h6⟩
      · obtain ⟨y, hy, h7⟩ := h3.1 (by omega)
        exact ⟨y, by simp [hy], h7⟩
    · rintro ⟨y, hy, h6⟩
      rcases List.mem_cons.1 hy with rfl | hy
      · omega
      · have := h3.2 ⟨y, hy, h6⟩; omega
/-! how many ways there are to a value -/
def stepG (lo hi : Int) (v : Int) (f : Int → Int) (u : Int) : Int := if goesB lo hi u v = true then f u else 0
def wv (lo hi : Int) (F : Nat → List Int) : Nat → Int → Int
  | 0, _ => 1
  | k + 1, v => totG (stepG lo hi v (wv lo hi F k)) (F k)
variable {lo hi us : Int} {F : Nat → List Int} {n : Nat}
theorem step_nn {v : Int} {f : Int → Int} (h : ∀ u, 0 ≤ f u) (u : Int) : 0 ≤ stepG lo hi v f u := by unfold stepG; split; exact h u; omega
theorem wv_nn : ∀ (k : Nat) (v : Int), 0 ≤ wv lo hi F k v
  | 0, _ => by simp [wv]
  | k + 1, v => tot_nn fun u _ => step_nn (wv_nn k) u
/-! least sums to the end, by values -/
def cv (lo hi us : Int) (F : Nat → List Int) (n : Nat) : Nat → Int → Int
  | 0, _ => 0
  | t + 1, v => minC lo hi us v (F (n - 1 - t)) ((F (n - 1 - t)).map (cv lo hi us F n t)) (F (n - 1 - t)).length
/-- A way through lists. -/
structure Way (lo hi : Int) (F : Nat → List Int) (n : Nat) (w : Nat → Int) : Prop where
  at_ : ∀ k, k < n → w k ∈ F k
  go : ∀ k, k + 1 < n → goesB lo hi (w k) (w (k + 1)) = true
theorem Way.pos {w : Nat → Int} (h : Way lo hi F n w) : ∀ k, k < n → 0 < wv lo hi F k (w k)
  | 0, _ => by simp [wv]
  | k + 1, hk => by
    rw [wv, tot_pos fun u _ => step_nn (wv_nn k) u]
    exact ⟨w k, h.at_ k (by omega), by unfold stepG; rw [if_pos (h.go k hk)]; exact h.pos k (by omega)⟩
/-! the least sum of all -/
end Go.W

/- What is sure: rows that are changed in a pile, photos that are changed in a row. -/
set_option linter.unusedVariables false
set_option linter.unusedSimpArgs false
namespace Go.W
open Go Go.Sx
/-! rows with other contents -/
section
variable {α : Type} {J : List (VX α)} {G G' : Nat → List α} {k : Nat}
end
/-! the rows as they are turned from the last -/
section
variable {lo hi : Int} {F : Nat → List Int} {n t k : Nat}
end
/-! photos of what is sure -/
def okMs (l : List VMk) : Prop := ∀ q, OkMk (l.getD q zMk)
theorem okMs_z : okMs zPh.l := fun q => by
  match q with
  | 0 => exact okZ
  | 1 => exact okZ
  | 2 => exact okZ
  | 3 => exact okZ
  | 4 => exact okZ
  | 5 => exact okZ
  | 6 => exact okZ
  | 7 => exact okZ
  | _ + 8 => exact okZ
theorem putW_ok {s d : List Int} {l : List VMk} (hl : okMs l) (hd : ∀ w, w < s.length → (d.getD w 0).toNat < 128) : ∀ w, w ≤ s.length → okMs (putW s d l w)
  | 0, _ => hl
  | w + 1, h => by
    have ih := putW_ok hl hd w (by omega)
    intro q
    rw [putW, putD]
    simp only [List.getD, List.getElem?_set]
    split
    · split
      · exact putM_ok (ih w) (hd w (by omega))
      · exact okZ
    · exact ih q
theorem putW_put {s d : List Int} {l : List VMk} {w q : Nat} {v : List Value} (hl : l.length = 8) (hw : w < 8) (hq : q = w * 2) (hv : v = encMk (putM ((putW s d l w).getD w zMk) (d.getD w 0).toNat)) : put ((putW s d l w).flatMap encMk) q v = (putW s d l (w + 1)).flatMap encMk := by
  subst hq hv
  rw [flat_put encMk_len _ _ _ (by rw [putW_len, hl]; exact hw)]; rfl
/-! a photo in a row of them -/
/-! the answer -/
end Go.W

/- Photos of two wheels of ten digits; what is sure of them; the law of ways. -/
set_option linter.unusedVariables false
set_option linter.unusedSimpArgs false
namespace Go.W
open Go Go.Sx
theorem valid2 : validStack [10, 10] = true := by decide
/-! marks that are put -/
theorem has_sub {m n : VMk} (hm : OkMk m) (hn : OkMk n) (h : ∀ d, d < 128 → hasM m d = true → hasM n d = true) : subM m n = true := by
  unfold subM
  rw [decide_eq_true_iff]
  have key : ∀ {x y : Int}, (0 ≤ x ∧ x < 18446744073709551616) → (0 ≤ y ∧ y < 18446744073709551616) → (∀ i, i < 64 → bitB x i = true → bitB y i = true) → bits .andNot .u64 x y = 0 := by
    intro x y hx hy hb
    obtain ⟨a, rfl⟩ := Int.eq_ofNat_of_zero_le hx.1
    obtain ⟨b, rfl⟩ := Int.eq_ofNat_of_zero_le hy.1
    show IntKind.u64.wrap ((BitVec.ofInt IntKind.u64.bits (a : Int) &&& ~~~BitVec.ofInt IntKind.u64.bits (b : Int)).toNat : Int) = 0
    have hz : (BitVec.ofInt IntKind.u64.bits (a : Int) &&& ~~~BitVec.ofInt IntKind.u64.bits (b : Int)) = 0#_ := by
      simp only [BitVec.ofInt_natCast]
      refine BitVec.eq_of_getLsbD_eq fun i hi => ?_
      simp only [BitVec.getLsbD_and, BitVec.getLsbD_not, BitVec.getLsbD_ofNat, hi, decide_true, Bool.true_and, BitVec.getLsbD_zero]
      have h1 := hb i hi
      unfold bitB at h1
      rw [Int.toNat_natCast, Int.toNat_natCast] at h1
      cases h2 : a.testBit i
      · simp
      · rw [h1 h2]; simp
    rw [hz]; rfl
  exact ⟨key hm.1 hn.1 fun i hi hb => by have := h i (by omega); rw [hasM_lo hi, hasM_lo hi] at this; exact this hb, key hm.2 hn.2 fun i hi hb => by have := h (64 + i) (by omega); rw [hasM_hi hi, hasM_hi hi] at this; exact this hb⟩
theorem putW_get {s d : List Int} {l : List VMk} {q : Nat} : ∀ w, w ≤ l.length → (putW s d l w).getD q zMk = if q < w then putM (l.getD q zMk) (d.getD q 0).toNat else l.getD q zMk
  | 0, _ => by simp [putW]
  | w + 1, h => by
    have ih := fun q => putW_get (s := s) (d := d) (l := l) (q := q) w (by omega)
    have hl := putW_len s d l w
    rw [putW, putD]
    by_cases e : w = q
    · subst e
      rw [if_pos (by omega)]
      have e2 : ((putW s d l w).set w (putM ((putW s d l w).getD w zMk) (d.getD w 0).toNat)).getD w zMk = putM ((putW s d l w).getD w zMk) (d.getD w 0).toNat := by simp [List.getD, show w < (putW s d l w).length by omega]
      rw [e2, ih w, if_neg (by omega)]
    · have e2 : ((putW s d l w).set w (putM ((putW s d l w).getD w zMk) (d.getD w 0).toNat)).getD q zMk = (putW s d l w).getD q zMk := by simp [List.getD, List.getElem?_set, e]
      rw [e2, ih q]
      by_cases h2 : q < w
      · rw [if_pos h2, if_pos (by omega)]
      · rw [if_neg h2, if_neg (by omega)]
section
variable {s vs : List Int} {ok : Nat → Bool}
end
/-! the law -/
def PhsOk (L : List VPh) : Prop := ∀ k, k < L.length → OkPh (L.getD k zPh) ∧ photoOk [10, 10] (L.getD k zPh).l = true
end Go.W

/- Photos that are drawn; sums of steps. -/
set_option linter.unusedVariables false
set_option linter.unusedSimpArgs false
namespace Go.W
open Go Go.Sx
/-- A photo in the making: it shows the digits, and others below the bases. -/
structure BlP (s a : List Int) (l : List VMk) : Prop where
  len : l.length = 8
  ok : okMs l
  has : ∀ w, w < s.length → hasM (l.getD w zMk) (a.getD w 0).toNat = true
  lt : ∀ w d, d < 128 → hasM (l.getD w zMk) d = true → w < s.length ∧ (d : Int) < s.getD w 0
structure BlS where
  l : List VMk
  at_ : Int
  sd : Int
  k : Nat
structure BlT where
  l : List VMk
  at_ : Int
  sd : Int
  j : Int
theorem set_getM {l : List VMk} {i w : Nat} {y : VMk} (h : i < l.length) : (l.set i y).getD w zMk = if i = w then y else l.getD w zMk := by
  simp only [List.getD, List.getElem?_set]
  by_cases e : i = w
  · subst e; simp [h]
  · simp [e]
theorem BlP.set {s a : List Int} {l : List VMk} (h : BlP s a l) {i : Nat} (hi : i < s.length) (h8 : s.length ≤ 8) {y : VMk} (hy : OkMk y) (h1 : hasM y (a.getD i 0).toNat = true) (h2 : ∀ d, d < 128 → hasM y d = true → (d : Int) < s.getD i 0) : BlP s a (l.set i y) := by
  have hl : i < l.length := by rw [h.len]; omega
  refine ⟨by rw [List.length_set, h.len], fun q => ?_, fun w hw => ?_, fun w d hd hh => ?_⟩
  · rw [set_getM hl]; split
    · exact hy
    · exact h.ok q
  · rw [set_getM hl]; split
    · rename_i e; subst e; exact h1
    · exact h.has w hw
  · rw [set_getM hl] at hh; split at hh
    · rename_i e; subst e; exact ⟨hi, h2 d hd hh⟩
    · exact h.lt w d hd hh
theorem BlP.put {s a : List Int} {l : List VMk} (h : BlP s a l) (hs : Stk s) (ha : DigOk s a) {i : Nat} (hi : i < s.length) {x : Int} (hx : 0 ≤ x ∧ x < s.getD i 0) : BlP s a (l.set i (putM (l.getD i zMk) x.toNat)) := by
  have hb := hs.bases i hi
  have h1 := ha i hi
  refine h.set hi hs.len8 (putM_ok (h.ok i) (by omega)) ?_ fun d hd hh => ?_
  · rw [has_put (by omega) (by omega), h.has i hi, Bool.or_true]
  · rw [has_put (by omega) hd, Bool.or_eq_true, decide_eq_true_iff] at hh
    rcases hh with hh | hh
    · omega
    · exact (h.lt i d hd hh).2
theorem BlP.full {s a : List Int} {l : List VMk} (h : BlP s a l) (hs : Stk s) (ha : DigOk s a) {i : Nat} (hi : i < s.length) : BlP s a (l.set i (fullM (s.getD i 0).toNat)) := by
  have hb := hs.bases i hi
  have h1 := ha i hi
  refine h.set hi hs.len8 (fullM_ok (by omega)) ?_ fun d hd hh => ?_
  · rw [has_full (by omega) (by omega), decide_eq_true_iff]; omega
  · rw [has_full (by omega) hd, decide_eq_true_iff] at hh; omega
theorem zPh_get (w : Nat) : zPh.l.getD w zMk = zMk := by
  match w with
  | 0 | 1 | 2 | 3 | 4 | 5 | 6 | 7 => rfl
  | _ + 8 => rfl
theorem BlP.of {s a : List Int} (hs : Stk s) (ha : DigOk s a) : BlP s a (phot (putW s a zPh.l s.length)).l := by
  have h8 := hs.len8
  have hl : (putW s a zPh.l s.length).length = 8 := by rw [putW_len]; rfl
  have hg := fun q => putW_get (s := s) (d := a) (l := zPh.l) (q := q) s.length (by rw [ph_len]; omega)
  have hd : ∀ w, w < s.length → (a.getD w 0).toNat < 128 := fun w hw => by have := ha w hw; have := hs.bases w hw; omega
  rw [phot_l hl]
  refine ⟨hl, putW_ok okMs_z hd _ (Nat.le_refl _), fun w hw => ?_, fun w d hd2 hh => ?_⟩
  · rw [hg, if_pos hw, has_put (hd w hw) (hd w hw)]; simp
  · rw [hg] at hh
    split at hh
    · rename_i hw
      rw [zPh_get, has_put (hd w hw) hd2, has_z, Bool.or_false, decide_eq_true_iff] at hh
      have := ha w hw
      exact ⟨hw, by omega⟩
    · rw [zPh_get, has_z] at hh; cases hh
theorem BlP.photo {s a : List Int} {l : List VMk} (h : BlP s a l) (hs : Stk s) (ha : DigOk s a) : OkPh (phot l) ∧ photoOk s (phot l).l = true ∧ showsM s (phot l).l a = true := by
  rw [phot_l h.len]
  refine ⟨fun q hq => by rw [phot_l h.len]; exact h.ok q, ?_, ?_⟩
  · unfold photoOk
    rw [List.all_eq_true]
    intro w hw
    have hw : w < 8 := by simpa using hw
    unfold phAt
    split
    · rename_i hws
      have hb := hs.bases w hws
      rw [Bool.and_eq_true, Bool.not_eq_true', decide_eq_false_iff_not]
      refine ⟨fun e => ?_, has_sub (h.ok w) (fullM_ok (by omega)) fun d hd hh => ?_⟩
      · have e2 : l.getD w zMk = zMk := mk_inj e
        have := h.has w hws
        rw [e2, has_z] at this; cases this
      · have := (h.lt w d hd hh).2
        rw [has_full (by omega) hd, decide_eq_true_iff]; omega
    · rename_i hws
      rw [decide_eq_true_iff]
      have e : l.getD w zMk = zMk := has_ext (h.ok w) okZ fun d hd => by
        rw [has_z, ← Bool.not_eq_true]; intro hh; exact hws (h.lt w d hd hh).1
      rw [e]; rfl
  · unfold showsM
    rw [List.all_eq_true]
    intro w hw
    exact h.has w (by simpa using hw)
theorem bl_put {l : List VMk} {i q : Nat} {y : VMk} {v : List Value} (h : i < l.length) (hq : q = i * 2) (hv : v = encMk y) : put (l.flatMap encMk) q v = (l.set i y).flatMap encMk := by
  subst hq hv; exact flat_put encMk_len _ _ _ h
theorem nums2 : Nums 255 ([10, 10] : List Int) := fun x hx => by simp at hx; omega
theorem PhsOk.nil : PhsOk [] := fun k hk => by simp at hk
def In100 (l : List Int) : Prop := ∀ i, i < l.length → 0 ≤ l.getD i 0 ∧ l.getD i 0 < 100
theorem In100.nil : In100 [] := fun k hk => by simp at hk
theorem PhsOk.all {L : List VPh} (h : PhsOk L) : ∀ p ∈ L, OkPh p := fun p hp => by
  obtain ⟨i, hi, rfl⟩ := List.getElem_of_mem hp
  have := (h i hi).1
  simpa [List.getD, hi] using this
end Go.W

/- Room for a list: append of zeros to nil; cap; an array behind a slice; a slice of an array from a place on. -/
set_option linter.unusedSimpArgs false
set_option linter.unusedVariables false
namespace Go.Sx
open Go Go.RowKit
variable {C : Cx} {env : Env} {m : List Ent} {o : Oper} {K : Env → List Ent → Prop}
theorem op_appendZ {d n : Nat} {s x T Tn E kn sz bytes} (ho : o.op = .call { callee := .builtin .append, args := #[s, x], argTypes := #[T, Tn] })
    (hs : ev env s = some (.slice none 0 0)) (hx : ev env x = some (.int .i64 (n : Nat))) (hT : C.P.underlying T = some (.slice E)) (hTn : C.P.underlying Tn = some (.int kn)) (hz : (C.P.info? E).map (fun i => (i.size, i.bytes, i.zero.map (·.cells.size))) = some (sz, bytes, some sz)) (hp0 : Nat.blt 0 sz = true)
    (hn : 0 < n) (hb : n * bytes ≤ 140737488355328 ∧ n ≤ maxLen) (hd : o.dst = some d) (hlt : Nat.blt d C.n = true)
    (h : ∀ b c', K ((d, .slice (some ⟨b, 0, none⟩) n c') :: env) (.row (.slice (some ⟨b, 0, none⟩) 0 c') E sz 0 [] :: m)) : Op1 C o env m K := by
  have hpos : 0 < sz := by simpa using hp0
  have hmx : maxLen = 9223372036854775807 := rfl
  refine Op1.of_run hd hlt fun a w hr hh => ?_
  cases hq : C.P.info? E with
  | none => simp [hq] at hz
  | some inf =>
    simp only [hq, Option.map_some, Option.some.injEq, Prod.mk.injEq] at hz
    obtain ⟨h1, h2, h3⟩ := hz
    cases hzz : inf.zero with
    | none => simp [hzz] at h3
    | some zv =>
      simp only [hzz, Option.map_some, Option.some.injEq] at h3
      have hrun := Go.Lib.run_append_nil_zeros (P := C.P) w T Tn o.type E inf zv .i64 kn hT hTn hq hzz n hn (by omega) (by omega) (by rw [h2]; omega)
      have hge := grownCap_ge w n 0 E
      have hcm := grownCap_le_maxLen w n 0 E hb.2
      have hsz : (Builtin.zeroCells zv.cells n ++ Builtin.zeroCells zv.cells (grownCap w n 0 E - n)).size = grownCap w n 0 E * sz := by
        rw [Array.size_append, size_zeroCells, size_zeroCells, h3, ← Nat.add_mul, show n + (grownCap w n 0 E - n) = grownCap w n 0 E by omega]
      refine ⟨.slice (some ⟨w.heap.size, 0, none⟩) n (grownCap w n 0 E), w.drew.alloc (.cells (Builtin.zeroCells zv.cells n ++ Builtin.zeroCells zv.cells (grownCap w n 0 E - n)) E), .row (.slice (some ⟨w.heap.size, 0, none⟩) 0 (grownCap w n 0 E)) E sz 0 [] :: m, ?_, ?_, h _ _⟩
      · simp [execOp, ho, resolve, invoke, builtin, hr.ev hs, hr.ev hx, hrun]
      · refine (hh.ext (Below.refl _ _).drew).new (w := w.drew) (below_alloc' w.drew _) ?_
        exact ⟨by simp, .inr ⟨w.heap.size, grownCap w n 0 E, _, rfl, Nat.le_refl _, heap_alloc_new w.drew _, Nat.zero_le _, hcm, hsz, by simp⟩⟩
theorem fr_cap {x T E A n c} (ho : o.op = .call { callee := .builtin .cap, args := #[x], argTypes := #[T] }) (hx : ev env x = some (.slice A n c)) (hT : C.P.underlying T = some (.slice E)) : Free C o env m (.int .i64 c) := by
  intro a w hr hw
  have h1 : (Builtin.cap_ #[T] o.type #[.slice A n c]).run C.P w = .ok (.int .i64 c) w := by
    simp [Builtin.cap_, Sem.run_bind, run_underlying hT, goInt]
  simp [execOp, ho, resolve, invoke, builtin, hr.ev hx, Sem.run_bind, h1]
theorem fr_sliceToArray {S x A n c N E} (ho : o.op = .sliceToArrayPointer S x) (hx : ev env x = some (.slice A n c)) (hS : C.P.underlying S = some (.array N E)) (hn : N ≤ n) : Free C o env m (.pointer A) := by
  intro a w hr hw
  simp [execOp, ho, hr.ev hx, Instr.arrayAt, run_underlying hS, show ¬ n < N by omega]
end Go.Sx

/- Lists laid one behind the other. -/
set_option linter.unusedVariables false
set_option linter.unusedSimpArgs false
namespace Go.W
open Go Go.Sx
def catX {α : Type} (K : List (VX α)) (k : Nat) : List α := (K.take k).flatMap (·.xs)
section
variable {α : Type} {K : List (VX α)} {k : Nat}
theorem catX_0 : catX K 0 = [] := by simp [catX]
theorem catX_s (h : k < K.length) : catX K (k + 1) = catX K k ++ (K.getD k zX).xs := by
  unfold catX
  rw [List.take_succ_eq_append_getElem h, List.flatMap_append]
  simp [List.getD, h]
theorem catX_sl (h : k < K.length) : (catX K (k + 1)).length = (catX K k).length + (K.getD k zX).xs.length := by rw [catX_s h, List.length_append]
theorem catX_mono (h : k ≤ K.length) : (catX K k).length ≤ (catX K K.length).length := by
  obtain ⟨j, hj⟩ : ∃ j, K.length = k + j := ⟨K.length - k, by omega⟩
  have key : ∀ j, k + j ≤ K.length → (catX K k).length ≤ (catX K (k + j)).length := by
    intro j
    induction j with
    | zero => intro _; exact Nat.le_refl _
    | succ j ih =>
      intro h2
      have := ih (by omega)
      rw [show k + (j + 1) = k + j + 1 by omega, catX_sl (by omega)]; omega
  have := key j (by omega)
  rwa [← hj] at this
theorem catX_2 {a b : VX α} : catX [a, b] [a, b].length = a.xs ++ b.xs := by simp [catX]
end
end Go.W

/- The next value in a photo. -/
set_option linter.unusedVariables false
set_option linter.unusedSimpArgs false
namespace Go.W
open Go Go.Sx
def fromM (m : VMk) (a : Nat) : Int := match (List.range 128).find? (fun e => decide (a ≤ e) && hasM m e) with
  | some e => (e : Int)
  | none => -1
theorem from_none {m : VMk} {a : Nat} (hall : ∀ e, a ≤ e → e < 128 → hasM m e = false) : fromM m a = -1 := by
  have : (List.range 128).find? (fun e => decide (a ≤ e) && hasM m e) = none := by
    rw [List.find?_eq_none]
    intro e he
    rcases Nat.lt_or_ge e a with h3 | h3
    · rw [decide_eq_false (by omega)]; simp
    · rw [hall e h3 (by simpa using he)]; simp
  unfold fromM; rw [this]
theorem from_cases (m : VMk) (a : Nat) : (fromM m a = -1 ∧ ∀ e, a ≤ e → e < 128 → hasM m e = false) ∨ ∃ d : Nat, fromM m a = d ∧ a ≤ d ∧ d < 128 ∧ hasM m d = true := by
  unfold fromM
  cases h : (List.range 128).find? (fun e => decide (a ≤ e) && hasM m e) with
  | none =>
    refine .inl ⟨rfl, fun e h1 h2 => ?_⟩
    rw [List.find?_eq_none] at h
    have := h e (by simpa using h2)
    rw [decide_eq_true h1] at this
    simpa using this
  | some d =>
    rw [List.find?_range_eq_some] at h
    have h1 := h.1
    rw [Bool.and_eq_true, decide_eq_true_iff] at h1
    exact .inr ⟨d, rfl, h1.1, by simpa using h.2.1, h1.2⟩
theorem from_bd (m : VMk) (a : Nat) : -1 ≤ fromM m a ∧ fromM m a ≤ 127 := by
  rcases from_cases m a with h | ⟨d, h, _, _, _⟩ <;> omega
theorem from_some {m : VMk} (h : ∃ d, d < 128 ∧ hasM m d = true) : 0 ≤ fromM m 0 ∧ hasM m (fromM m 0).toNat = true := by
  rcases from_cases m 0 with h2 | ⟨d, h2, _, _, h3⟩
  · obtain ⟨d, hd, h⟩ := h; rw [h2.2 d (by omega) hd] at h; cases h
  · rw [h2, Int.toNat_natCast]; exact ⟨by omega, h3⟩
/-! in the list of a mark's digits -/
theorem dig_hit {m : VMk} {a : Int} {r : Nat} (h0 : 0 ≤ a) (hr : r < (digI m).length) (hall : ∀ q, q < r → ¬ a < (digI m).getD q 0) (h : a < (digI m).getD r 0) : fromM m (a.toNat + 1) = (digI m).getD r 0 := by
  have hr2 : r < (digM m).length := by simpa [digI] using hr
  have hg : ∀ q, q < (digM m).length → (digI m).getD q 0 = ((digM m).getD q 0 : Nat) := fun q hq => by simp [digI, List.getD, hq]
  rw [hg r hr2] at h ⊢
  have h5 : (digM m).find? (fun e => decide (a.toNat + 1 ≤ e)) = some ((digM m).getD r 0) := by
    rw [List.find?_eq_some_iff_getElem]
    refine ⟨by rw [decide_eq_true_iff]; omega, r, hr2, by simp [List.getD, hr2], fun q hq => ?_⟩
    have h6 := hall q hq
    rw [hg q (by omega)] at h6
    have h7 : (digM m).getD q 0 = (digM m)[q] := by simp [List.getD, show q < (digM m).length by omega]
    rw [h7] at h6
    rw [Bool.not_eq_true', decide_eq_false_iff_not]; omega
  unfold digM at h5
  rw [List.find?_filter] at h5
  have h8 : (fun e => decide (a.toNat + 1 ≤ e) && hasM m e) = (fun e => decide (hasM m e = true ∧ decide (a.toNat + 1 ≤ e) = true)) := by
    funext e; cases hasM m e <;> simp
  unfold fromM
  rw [h8, h5]
  rfl
theorem dig_miss {m : VMk} {a : Int} {r : Nat} (h0 : 0 ≤ a) (hr : ¬ r < (digI m).length) (hall : ∀ q, q < r → ¬ a < (digI m).getD q 0) : fromM m (a.toNat + 1) = -1 := by
  refine from_none fun e h1 h2 => ?_
  rw [← Bool.not_eq_true]
  intro h
  have hm : e ∈ digM m := by unfold digM; rw [List.mem_filter]; exact ⟨by simpa using h2, h⟩
  obtain ⟨q, hq, rfl⟩ := List.getElem_of_mem hm
  have hl : (digI m).length = (digM m).length := by simp [digI]
  have := hall q (by omega)
  have hg : (digI m).getD q 0 = ((digM m)[q] : Nat) := by simp [digI, List.getD, hq]
  rw [hg] at this; omega
theorem dig_fst {m : VMk} (h : ∃ d, d < 128 ∧ hasM m d = true) : 0 < (digI m).length ∧ (digI m).getD 0 0 = fromM m 0 := by
  obtain ⟨d, hd, h⟩ := h
  have hm : d ∈ digM m := by unfold digM; rw [List.mem_filter]; exact ⟨by simpa using hd, h⟩
  have hp : 0 < (digM m).length := List.length_pos_of_mem hm
  refine ⟨by simpa [digI] using hp, ?_⟩
  have hg : (digI m).getD 0 0 = ((digM m)[0] : Nat) := by simp [digI, List.getD, hp]
  rw [hg]
  have h5 : (digM m).find? (fun e => decide (0 ≤ e)) = some ((digM m)[0]) := by
    rw [List.find?_eq_some_iff_getElem]
    exact ⟨by simp, 0, hp, rfl, fun q hq => by omega⟩
  unfold digM at h5
  rw [List.find?_filter] at h5
  have h8 : (fun e => decide (0 ≤ e) && hasM m e) = (fun e => decide (hasM m e = true ∧ decide (0 ≤ e) = true)) := by
    funext e; cases hasM m e <;> simp
  unfold fromM
  rw [h8, h5]
  rfl
/-! the digits of the next value -/
def leastD (l : List VMk) (d : List Int) (i : Nat) : List Int := (List.range 8).map fun j => if j < i then fromM (l.getD j zMk) 0 else d.getD j 0
theorem leastD_len (l : List VMk) (d : List Int) (i : Nat) : (leastD l d i).length = 8 := by simp [leastD]
theorem leastD_at {l : List VMk} {d : List Int} {i j : Nat} (h : j < 8) : (leastD l d i).getD j 0 = if j < i then fromM (l.getD j zMk) 0 else d.getD j 0 := by simp [leastD, List.getD, h]
theorem leastD_0 {l : List VMk} {d : List Int} (h : d.length = 8) : leastD l d 0 = d := by
  refine List.ext_getElem (by rw [leastD_len, h]) fun j h1 h2 => ?_
  have := leastD_at (l := l) (d := d) (i := 0) (j := j) (by omega)
  rw [if_neg (by omega)] at this
  simpa [List.getD, h1, h2] using this
theorem leastD_set {l : List VMk} {d : List Int} {i : Nat} (h : i < 8) : (leastD l d i).set i (fromM (l.getD i zMk) 0) = leastD l d (i + 1) := by
  refine List.ext_getElem (by rw [List.length_set, leastD_len, leastD_len]) fun j h1 h2 => ?_
  rw [List.getElem_set]
  have hj : j < 8 := by rw [leastD_len] at h2; exact h2
  have e1 := leastD_at (l := l) (d := d) (i := i) hj
  have e2 := leastD_at (l := l) (d := d) (i := i + 1) hj
  rw [List.length_set] at h1
  simp only [List.getD, List.getElem?_eq_getElem h1, List.getElem?_eq_getElem h2, Option.getD_some] at e1 e2
  rw [e1, e2]
  split
  · next e => subst e; rw [if_pos (by omega)]; rfl
  · next e => by_cases h3 : j < i
              · rw [if_pos h3, if_pos (by omega)]
              · rw [if_neg h3, if_neg (by omega)]
theorem leastD_put {l : List VMk} {d : List Int} {i q : Nat} {v : List Value} (h : i < 8) (hq : q = i * 1) (hv : v = eI .u8 (fromM (l.getD i zMk) 0)) : put ((leastD l d i).flatMap (eI .u8)) q v = (leastD l d (i + 1)).flatMap (eI .u8) := by
  subst hq hv
  rw [flat_put (eI_len .u8) _ _ _ (by rw [leastD_len]; exact h), leastD_set h]
def upA (n : Nat) (l : List VMk) (d : List Int) (i : Nat) : Bool := (List.range n).all fun j => decide (j ≤ i) || hasM (l.getD j zMk) (d.getD j 0).toNat
theorem up_t {n : Nat} {l : List VMk} {d : List Int} {i : Nat} (h : ∀ j, i < j → j < n → hasM (l.getD j zMk) (d.getD j 0).toNat = true) : upA n l d i = true := by
  unfold upA; rw [List.all_eq_true]
  intro j hj
  rcases Nat.lt_or_ge i j with h1 | h1
  · rw [h j h1 (by simpa using hj), Bool.or_true]
  · rw [decide_eq_true h1]; rfl
def cand (n : Nat) (l : List VMk) (d : List Int) (i : Nat) : Bool := upA n l d i && decide (0 ≤ fromM (l.getD i zMk) ((d.getD i 0).toNat + 1))
theorem cand_u {n : Nat} {l : List VMk} {d : List Int} {i : Nat} (h : upA n l d i = false) : cand n l d i = false := by unfold cand; rw [h]; rfl
theorem cand_n {n : Nat} {l : List VMk} {d : List Int} {i : Nat} (h : fromM (l.getD i zMk) ((d.getD i 0).toNat + 1) < 0) : cand n l d i = false := by unfold cand; rw [decide_eq_false (by omega), Bool.and_false]
theorem cand_y {n : Nat} {l : List VMk} {d : List Int} {i : Nat} (h : upA n l d i = true) (h2 : 0 ≤ fromM (l.getD i zMk) ((d.getD i 0).toNat + 1)) : cand n l d i = true := by unfold cand; rw [h, decide_eq_true h2]; rfl
def nextD (l : List VMk) (d : List Int) (i : Nat) : List Int := leastD l (d.set i (fromM (l.getD i zMk) ((d.getD i 0).toNat + 1))) i
def nextV (s : List Int) (l : List VMk) (d : List Int) : Int × Bool :=
  if showsM s l d = true then (val s d, true)
  else match (List.range s.length).find? (cand s.length l d) with
    | some i => (val s (nextD l d i), true)
    | none => (0, false)
theorem nx_s {s : List Int} {l : List VMk} {d : List Int} (h : showsM s l d = true) : nextV s l d = (val s d, true) := by unfold nextV; rw [if_pos h]
theorem nx_y {s : List Int} {l : List VMk} {d : List Int} {i : Nat} (h : showsM s l d = false) (hi : i < s.length) (hall : ∀ j, j < i → cand s.length l d j = false) (hc : cand s.length l d i = true) : nextV s l d = (val s (nextD l d i), true) := by
  have : (List.range s.length).find? (cand s.length l d) = some i := by
    rw [List.find?_range_eq_some]
    exact ⟨hc, by simpa using hi, fun j hj => by rw [hall j hj]; rfl⟩
  unfold nextV; rw [if_neg (by rw [h]; exact Bool.false_ne_true), this]
theorem nx_n {s : List Int} {l : List VMk} {d : List Int} {i : Nat} (h : showsM s l d = false) (hi : ¬ i < s.length) (hall : ∀ j, j < i → cand s.length l d j = false) : nextV s l d = (0, false) := by
  have : (List.range s.length).find? (cand s.length l d) = none := by
    rw [List.find?_eq_none]
    intro j hj
    rw [hall j (by have : j < s.length := by simpa using hj
                   omega)]; exact Bool.false_ne_true
  unfold nextV; rw [if_neg (by rw [h]; exact Bool.false_ne_true), this]
theorem nextD_ok {s : List Int} {l : List VMk} {d : List Int} {i : Nat} (hS : Stk s) (hP : PhOk s l) (hd : DigOk s d) (h8 : d.length = 8) (hz : ∀ j, s.length ≤ j → d.getD j 0 = 0) (hi : i < s.length) (h : 0 ≤ fromM (l.getD i zMk) ((d.getD i 0).toNat + 1)) : ∀ j, j < s.length → 0 ≤ (nextD l d i).getD j 0 ∧ (nextD l d i).getD j 0 < s.getD j 0 := fun j hj => by
  have hs8 := hS.len8
  unfold nextD
  rw [leastD_at (by omega)]
  split
  · have h1 := from_some (hP.some_ j hj)
    have h2 := hP.lt j hj _ (by have := from_bd (l.getD j zMk) 0; omega) h1.2
    omega
  · by_cases e : i = j
    · subst e
      have h3 : (d.set i (fromM (l.getD i zMk) ((d.getD i 0).toNat + 1))).getD i 0 = fromM (l.getD i zMk) ((d.getD i 0).toNat + 1) := by simp [List.getD, show i < d.length by omega]
      rw [h3]
      rcases from_cases (l.getD i zMk) ((d.getD i 0).toNat + 1) with h4 | ⟨e, h4, _, h5, h6⟩
      · omega
      · have := hP.lt i hi e h5 h6; omega
    · have h3 : (d.set i (fromM (l.getD i zMk) ((d.getD i 0).toNat + 1))).getD j 0 = d.getD j 0 := by simp [List.getD, List.getElem?_set, e]
      rw [h3]; exact hd j hj
theorem nextD_len {l : List VMk} {d : List Int} {i : Nat} : (nextD l d i).length = 8 := leastD_len ..
/-! the rest of a stack, of a photo, of digits -/
theorem up_shows {s : List Int} {l : List VMk} {d : List Int} {i : Nat} {p : List VMk} {e : List Int} (hi : i < s.length) (hp : ∀ j, j < s.length - (i + 1) → p.getD j zMk = l.getD (i + 1 + j) zMk) (he : ∀ j, j < s.length - (i + 1) → e.getD j 0 = d.getD (i + 1 + j) 0) : showsM (s.drop (i + 1)) p e = upA s.length l d i := by
  unfold showsM upA
  rw [List.length_drop]
  rw [Bool.eq_iff_iff, List.all_eq_true, List.all_eq_true]
  constructor
  · intro h j hj
    rcases Nat.lt_or_ge i j with h1 | h1
    · have hj2 : j < s.length := by simpa using hj
      have := h (j - (i + 1)) (by simp; omega)
      rw [hp _ (by omega), he _ (by omega), show i + 1 + (j - (i + 1)) = j by omega] at this
      rw [this, Bool.or_true]
    · rw [decide_eq_true h1]; rfl
  · intro h j hj
    have hj2 : j < s.length - (i + 1) := by simpa using hj
    have := h (i + 1 + j) (by simp; omega)
    rw [decide_eq_false (by omega), Bool.false_or] at this
    rw [hp j hj2, he j hj2]; exact this
theorem tail_at {α : Type} {l z : List α} {x : α} {i j : Nat} (h : i + 1 + j < l.length) : (l.drop (i + 1) ++ z).getD j x = l.getD (i + 1 + j) x := by
  simp only [List.getD]
  rw [List.getElem?_append_left (by simp; omega), List.getElem?_drop]
theorem dig_zero {s l : List Int} (h : validDig s l = true) {j : Nat} (h1 : s.length ≤ j) (h2 : j < 8) : l.getD j 0 = 0 := by
  unfold validDig at h
  rw [List.all_eq_true] at h
  have := h j (by simpa using h2)
  unfold goodAt at this
  rw [if_neg (by omega), decide_eq_true_iff] at this
  exact this
theorem nextD_valid {s : List Int} {l : List VMk} {d : List Int} {i : Nat} (hS : Stk s) (hP : PhOk s l) (hd : DigOk s d) (h8 : d.length = 8) (hv : validDig s d = true) (hi : i < s.length) (h : 0 ≤ fromM (l.getD i zMk) ((d.getD i 0).toNat + 1)) : validDig s (nextD l d i) = true ∧ Nums 255 (nextD l d i) := by
  have hs8 := hS.len8
  have hz : ∀ j, s.length ≤ j → j < 8 → (nextD l d i).getD j 0 = 0 := fun j h1 h2 => by
    unfold nextD
    rw [leastD_at h2, if_neg (by omega)]
    have h3 : (d.set i (fromM (l.getD i zMk) ((d.getD i 0).toNat + 1))).getD j 0 = d.getD j 0 := by simp [List.getD, List.getElem?_set, show ¬ i = j by omega]
    rw [h3, dig_zero hv h1 h2]
  have hok := nextD_ok hS hP hd h8 (fun j hj => by
    rcases Nat.lt_or_ge j 8 with h1 | h1
    · exact dig_zero hv hj h1
    · simp only [List.getD]; rw [List.getElem?_eq_none (by omega)]; rfl) hi h
  constructor
  · unfold validDig
    rw [List.all_eq_true]
    intro j hj
    unfold goodAt
    split
    · next h1 => rw [decide_eq_true_iff]; exact (hok j h1).2
    · next h1 => rw [decide_eq_true_iff]; exact hz j (by omega) (by simpa using hj)
  · intro x hx
    obtain ⟨j, hj, rfl⟩ := List.getElem_of_mem hx
    have e : (nextD l d i)[j] = (nextD l d i).getD j 0 := by simp [List.getD, hj]
    rw [nextD_len] at hj
    rcases Nat.lt_or_ge j s.length with h1 | h1
    · have h2 := hok j h1
      have h3 := hS.bases j h1
      rw [e]; omega
    · rw [e, hz j h1 hj]; decide
theorem nx_yD {s : List Int} {l : List VMk} {d : List Int} {i : Nat} (h : showsM s l d = false) (hi : i < s.length) (hall : ∀ j, j < i → cand s.length l d j = false) (hu : upA s.length l d i = true) (hc : 0 ≤ fromM (l.getD i zMk) ((d.getD i 0).toNat + 1)) : nextV s l d = (val s (dig (nextD l d i)).l, true) := by
  rw [dig_l nextD_len]; exact nx_y h hi hall (cand_y hu hc)
end Go.W

/- The rest of an array; what stands behind a drawn region. -/
set_option linter.unusedVariables false
set_option linter.unusedSimpArgs false
namespace Go.Sx
open Go Go.RowKit
variable {C : Cx} {env : Env} {m : List Ent} {o : Oper} {Q : Post}
theorem fr_sliceArr_l {T x y E k} {N b n' : Nat} {q : Int} (h : Nat) (hq : q = (h : Nat)) (ho : o.op = .slice T x (some y) none none) (hx : ev env x = some (.pointer (some ⟨b, 0, none⟩))) (hy : ev env y = some (.int k q)) (hT : C.P.underlying T = some (.array N E)) {sz : Nat} (hs : (C.P.info? E).map (·.size) = some sz) (hb : h ≤ N) (hn : N - h = n') : Free C o env m (.slice (cutA (some ⟨b, 0, none⟩) N h sz) n' (N - h)) := by
  subst hq hn
  intro a w hr _
  have hal : C.P.arrayLen T = N := by simp [Program.arrayLen, hT]
  have he : C.P.elem T = E := by simp [Program.elem, hT]
  have ht' : C.P.underlying T = some (.array (C.P.arrayLen T) (C.P.elem T)) := by rw [hal, he, hT]
  have h2 := run_sliceAt_array_l (P := C.P) w T ⟨b, 0, none⟩ ht' k (h : Int) (by omega) (by omega)
  rw [he, run_sizeOf hs w, Result.andThen_ok, hal] at h2
  have h3 : slicedAt ⟨b, 0, none⟩ ((h : Int).toNat) N N sz = .slice (cutA (some ⟨b, 0, none⟩) N h sz) (N - h) (N - h) := by
    unfold slicedAt cutA offA
    rw [Int.toNat_natCast]
    split <;> rfl
  rw [h3] at h2
  simp only [execOp, ho, hr.ev hx, Option.map_none, Option.map_some, hr.ev hy, Sem.run_bind, h2, Result.andThen_ok, Sem.run_pure]
theorem fr_slice_lx {T x y E A n c k n'} {q : Int} (h : Nat) (hq : q = (h : Nat)) (ho : o.op = .slice T x (some y) none none) (hx : ev env x = some (.slice A n c)) (hy : ev env y = some (.int k q)) (hT : C.P.underlying T = some (.slice E)) {sz : Nat} (hs : (C.P.info? E).map (·.size) = some sz) (hb : h ≤ n) (hn : n - h = n') : Free C o env m (.slice (cutA A c h sz) n' (c - h)) := by
  subst hn; exact fr_slice_l h hq ho hx hy hT hs hb
theorem Reads.dropL {α : Type} {f : α → List Value} {sz c : Nat} {A : Option Addr} {l : List α} (h : Reads C m A (l.flatMap f)) (hf : ∀ x, (f x).length = sz) (hc : l.length ≤ c) (k : Nat) : Reads C m (cutA A c k sz) ((l.drop k).flatMap f) := by
  unfold cutA
  split
  · rw [List.drop_of_length_le (by omega)]
    unfold Reads
    intro w hw j u hj; simp at hj
  · have h2 : (l.drop k).flatMap f = (l.flatMap f).drop (k * sz) := by
      rcases Nat.lt_or_ge k l.length with h3 | h3
      · have h4 : ((l.take k).flatMap f).length = k * sz := by rw [flat_len hf, List.length_take]; congr 1; omega
        have h5 : l.flatMap f = (l.take k).flatMap f ++ (l.drop k).flatMap f := by rw [← List.flatMap_append, List.take_append_drop]
        rw [h5, ← h4, List.drop_left]
      · rw [List.drop_of_length_le h3, List.drop_of_length_le (by rw [flat_len hf]; exact Nat.mul_le_mul_right _ h3)]; rfl
    rw [h2]; exact h.seg _
theorem Reads.zeros {α : Type} {f : α → List Value} {sz i n c : Nat} {E : TypeId} {A : Option Addr} {z : α} {zs : List Value} (hi : m[i]? = some (Ent.row (.slice A n c) E sz n (zerosL zs n))) (hz : zs = f z) (hf : ∀ x, (f x).length = sz) (hp : Nat.blt 0 sz = true) : Reads C m A ((List.replicate n z).flatMap f) := by
  subst hz
  rw [← zeros_flat hf z (by simpa using hp)]
  exact Reads.row hi
theorem Ex.cutM {id : Nat} {l : List Oper} {y : Code} (kn kp : Env) (hK : Agree kp env) (hm : C.P.follows .mixedOrders = true) (h1 : ExD C l m l.length [] env m (fun env' m' => Agree (kn ++ kp) env' ∧ ∃ t is, pickT m' t is = some m ∧ freshT t is = true)) (h2 : Ex C y (kn ++ kp) m Q) (hrd : regOk C.rd l = true := by rfl) : Ex C (.seq (.region id l.toArray true) y) env m Q := by
  refine Ex.seq (Ex.mono (Ex.draw (Q := Sq (fun env' m' => Agree (kn ++ kp) env' ∧ ∃ t is, pickT m' t is = some m ∧ freshT t is = true) (fun _ _ _ => False)) m hm h1 hrd) ?_)
  rintro e env' m' hq
  cases e with
  | normal =>
    obtain ⟨ha, t, is, hp, hf⟩ := hq
    exact fun a w hr hh => h2 a w (hr.agree ha) (hh.pickT hp hf)
  | exit k => exact hq.elim
  | goto k => exact hq.elim
  | ret => exact hq.elim
  | panic k => exact hq.elim
  | outgrown => exact hq.elim
end Go.Sx

/- The next value in a photo: what the program puts together. -/
set_option linter.unusedVariables false
set_option linter.unusedSimpArgs false
namespace Go.W
open Go Go.Sx Go.RowKit
theorem reads2 {α : Type} {w : World} {f : α → List Value} {a b : VX α} (h0 : Rd w a.A (a.xs.flatMap f)) (h1 : Rd w b.A (b.xs.flatMap f)) : ∀ k, k < [a, b].length → Rd w ([a, b].getD k zX).A (([a, b].getD k zX).xs.flatMap f) := fun k hk => by
  match k, hk with
  | 0, _ => exact h0
  | 1, _ => exact h1
theorem some2 {α : Type} {a b : VX α} (h0 : a.A ≠ none) (h1 : b.A ≠ none) : ∀ k, k < [a, b].length → ([a, b].getD k zX).A = none → ([a, b].getD k zX).xs.length = 0 ∧ ([a, b].getD k zX).c = 0 := fun k hk e => by
  match k, hk with
  | 0, _ => exact absurd e h0
  | 1, _ => exact absurd e h1
theorem readsZ {C : Cx} {m : List Ent} {α : Type} {f : α → List Value} {sz i n c k : Nat} {E : TypeId} {A : Option Addr} {z : α} {zs : List Value} (hi : m[i]? = some (Ent.row (.slice A n c) E sz n (zerosL zs n))) (hz : zs = f z) (hf : ∀ x, (f x).length = sz) (hp : Nat.blt 0 sz = true) (hn : n = k) : Reads C m A ((List.replicate k z).flatMap f) := by
  subst hn; exact Reads.zeros hi hz hf hp
theorem cut_some {a : Addr} {c k sz : Nat} : cutA (some a) c k sz ≠ none := by
  unfold cutA; split
  · exact fun h => nomatch h
  · exact fun h => nomatch h
theorem segAll {C : Cx} {m : List Ent} {A : Option Addr} {cs seg : List Value} (H : Reads C m A cs) (he : cs = seg) (hne : seg ≠ []) : SegO C m A seg := by
  subst he
  unfold SegO
  unfold Reads at H
  intro w hw
  cases cs with
  | nil => exact absurd rfl hne
  | cons x t =>
    obtain ⟨ad, rfl, _⟩ := H w hw 0 x rfl
    refine ⟨ad, rfl, fun j u hj => ?_⟩
    obtain ⟨ad', h1, hc⟩ := H w hw j u hj
    obtain rfl := Option.some.inj h1
    exact hc
theorem tailP {l : List VMk} {i : Nat} (h8 : l.length = 8) (hi : i < 8) : (l.drop (i + 1) ++ List.replicate (i + 1) zMk).length = 8 := by simp; omega
theorem tailD {d : List Int} {i : Nat} (h8 : d.length = 8) (hi : i < 8) : (d.drop (i + 1) ++ List.replicate (i + 1) (0 : Int)).length = 8 := by simp; omega
theorem catP {a b : VX VMk} {l : List VMk} {i : Nat} (h8 : l.length = 8) (hi : i < 8) (ha : a.xs = l.drop (i + 1)) (hb : b.xs = List.replicate (i + 1) zMk) : (catX [a, b] [a, b].length).flatMap encMk = encPh (phot (l.drop (i + 1) ++ List.replicate (i + 1) zMk)) := by
  rw [catX_2, ha, hb, encPh_ph (tailP h8 hi)]
theorem catD {a b : VX Int} {d : List Int} {i : Nat} (h8 : d.length = 8) (hi : i < 8) (ha : a.xs = d.drop (i + 1)) (hb : b.xs = List.replicate (i + 1) (0 : Int)) : (catX [a, b] [a, b].length).flatMap (eI .u8) = encD (dig (d.drop (i + 1) ++ List.replicate (i + 1) (0 : Int))) := by
  rw [catX_2, ha, hb, encD_dig (tailD h8 hi)]
theorem catX_l {α : Type} {a b : VX α} {n : Nat} (h : a.xs.length + b.xs.length = n) : (catX [a, b] [a, b].length).length = n := by rw [catX_2, List.length_append, h]
theorem okTail {p : VPh} (hp : OkPh p) {i : Nat} (hi : i < 8) : OkPh (phot (p.l.drop (i + 1) ++ List.replicate (i + 1) zMk)) := fun j hj => by
  rw [phot_l (tailP (ph_len p) hi)]
  rcases Nat.lt_or_ge (i + 1 + j) 8 with h | h
  · rw [tail_at (by rw [ph_len]; exact h)]; exact hp _ h
  · simp only [List.getD]
    rw [List.getElem?_append_right (by simp [ph_len]; omega), List.getElem?_replicate]
    split
    · exact okZ
    · exact okZ
theorem upTail {s : List Int} {p : VPh} {d : List Int} {i : Nat} (h8 : s.length ≤ 8) (hd : d.length = 8) (hi : i < s.length) : showsM (s.drop (i + 1)) (phot (p.l.drop (i + 1) ++ List.replicate (i + 1) zMk)).l (dig (d.drop (i + 1) ++ List.replicate (i + 1) (0 : Int))).l = upA s.length p.l d i := by
  rw [phot_l (tailP (ph_len p) (by omega)), dig_l (tailD hd (by omega))]
  exact up_shows hi (fun j hj => tail_at (by rw [ph_len]; omega)) (fun j hj => tail_at (by omega))
theorem dgTail {s : List Int} {d : List Int} {i : Nat} (hS : Stk s) (hD : DigOk s d) (hd : d.length = 8) (hi : i < s.length) : ∀ j, j < (s.drop (i + 1)).length → 0 ≤ (dig (d.drop (i + 1) ++ List.replicate (i + 1) (0 : Int))).l.getD j 0 ∧ (dig (d.drop (i + 1) ++ List.replicate (i + 1) (0 : Int))).l.getD j 0 ≤ 127 := fun j hj => by
  have h8 := hS.len8
  have hj2 : j < s.length - (i + 1) := by simpa using hj
  rw [dig_l (tailD hd (by omega)), tail_at (by omega)]
  have h1 := hD (i + 1 + j) (by omega)
  have h2 := hS.bases (i + 1 + j) (by omega)
  omega
theorem Ex.blkTo {C : Cx} {c : Code} {env : Env} {m : List Ent} {Q : Post} {i b : Nat} {cs cs' : List Value} {T : TypeId} (hi : m[i]? = some (.blk b cs T)) (h : cs = cs') (k : Ex C c env (m.set i (.blk b cs' T)) Q) : Ex C c env m Q := by
  subst h
  have : m.set i (.blk b cs T) = m := by
    refine List.ext_getElem? fun j => ?_
    rw [List.getElem?_set]
    split
    · next e => subst e; split
                · exact hi.symm
                · next h => rw [List.getElem?_eq_none (by omega)] at hi; cases hi
    · rfl
  rwa [this] at k
theorem setD_put {d : List Int} {i q : Nat} {z : Int} {v : List Value} (h8 : d.length = 8) (h : i < 8) (hq : q = i * 1) (hv : v = eI .u8 z) : put (d.flatMap (eI .u8)) q v = encD (dig (d.set i z)) := by
  subst hq hv
  rw [flat_put (eI_len .u8) _ _ _ (by omega), encD_dig (by rw [List.length_set, h8])]
def ninV (s : List Int) (p : VPh) (v : Int) : Int × Int :=
  if validPh s p = false then (0, 1) else if ¬ (0 ≤ v ∧ v ≤ size s - 1) then (0, 2)
  else if (nextV s p.l (dig (digs s v)).l).2 = true then ((nextV s p.l (dig (digs s v)).l).1, 0) else (0, 6)
theorem ni_1 {s : List Int} {p : VPh} {v : Int} (h : validPh s p = false) : ninV s p v = (0, 1) := by unfold ninV; rw [if_pos h]
theorem ni_2 {s : List Int} {p : VPh} {v : Int} (h : validPh s p = true) (h2 : ¬ (0 ≤ v ∧ v ≤ size s - 1)) : ninV s p v = (0, 2) := by unfold ninV; rw [if_neg (by rw [h]; decide), if_pos h2]
theorem ni_y {s : List Int} {p : VPh} {v : Int} (h : validPh s p = true) (h2 : 0 ≤ v ∧ v ≤ size s - 1) (h3 : (nextV s p.l (dig (digs s v)).l).2 = true) : ninV s p v = ((nextV s p.l (dig (digs s v)).l).1, 0) := by unfold ninV; rw [if_neg (by rw [h]; decide), if_neg (fun h9 => h9 h2), if_pos h3]
theorem ni_n {s : List Int} {p : VPh} {v : Int} (h : validPh s p = true) (h2 : 0 ≤ v ∧ v ≤ size s - 1) (h3 : (nextV s p.l (dig (digs s v)).l).2 = false) : ninV s p v = (0, 6) := by unfold ninV; rw [if_neg (by rw [h]; decide), if_neg (fun h9 => h9 h2), if_neg (by rw [h3]; decide)]
theorem nx_sv {s : List Int} {l : List VMk} {v : Int} (hs : Stk s) (h0 : 0 ≤ v) (h1 : v < prod s) (h : showsM s l (dig (digs s v)).l = true) : nextV s l (dig (digs s v)).l = (v, true) := by
  rw [nx_s h, dig_l (digs_len s v), val_of' hs h0 h1]
theorem nx_yE {s : List Int} {l : List VMk} {d : List Int} {i : Nat} {z : Int} (h8 : d.length = 8) (hz : fromM (l.getD i zMk) ((d.getD i 0).toNat + 1) = z) (h : showsM s l d = false) (hi : i < s.length) (hall : ∀ j, j < i → cand s.length l d j = false) (hu : upA s.length l d i = true) (hc : 0 ≤ z) : nextV s l d = (val s (dig (leastD l (dig (d.set i z)).l i)).l, true) := by
  subst hz
  rw [dig_l (s := d.set i _) (by rw [List.length_set, h8])]
  exact nx_yD h hi hall hu hc
end Go.W

/- Strings; the library's builder of strings, walked. -/
set_option linter.unusedVariables false
set_option linter.unusedSimpArgs false
namespace Go.Sx
open Go Go.RowKit
variable {C : Cx} {env env' : Env} {m m' : List Ent} {o : Oper} {K : Env → List Ent → Prop}
/-- A string by its bytes. -/
abbrev sv (l : List UInt8) : Value := .string ⟨l.toArray⟩
theorem beq_S (l r : List UInt8) : ((⟨l.toArray⟩ : ByteArray).toList == (⟨r.toArray⟩ : ByteArray).toList) = decide (l = r) := by
  rw [Bool.eq_iff_iff, decide_eq_true_iff, beq_iff_eq, ByteArray.toList_eq, ByteArray.toList_eq]
theorem fr_eqlS {T x y T'} {l r : List UInt8} (ho : o.op = .binOp .eql T x y T') (hx : ev env x = some (sv l)) (hy : ev env y = some (sv r)) : Free C o env m (.bool (decide (l = r))) := by
  intro a w hr _
  have h : (binOp .eql T (sv l) (sv r)).run C.P w = .ok (.bool (decide (l = r))) w := by
    show (Op.stringOp .eql ⟨l.toArray⟩ ⟨r.toArray⟩).run C.P w = _
    simp only [Op.stringOp, beq_S, Sem.run_pure]
  have hg : (eqGuard .eql T x y (sv l) (sv r)).run C.P w = .ok () w := by unfold eqGuard; rfl
  simp only [execOp, ho, hr.ev hx, hr.ev hy, Sem.run_bind, hg, Result.andThen_ok, h]; rfl
theorem fr_neqS {T x y T'} {l r : List UInt8} (ho : o.op = .binOp .neq T x y T') (hx : ev env x = some (sv l)) (hy : ev env y = some (sv r)) : Free C o env m (.bool (!decide (l = r))) := by
  intro a w hr _
  have h : (binOp .neq T (sv l) (sv r)).run C.P w = .ok (.bool (!decide (l = r))) w := by
    show (Op.stringOp .neq ⟨l.toArray⟩ ⟨r.toArray⟩).run C.P w = _
    simp only [Op.stringOp, beq_S, Sem.run_pure]
  have hg : (eqGuard .neq T x y (sv l) (sv r)).run C.P w = .ok () w := by unfold eqGuard; rfl
  simp only [execOp, ho, hr.ev hx, hr.ev hy, Sem.run_bind, hg, Result.andThen_ok, h]; rfl
/-! ### The builder -/
end Go.Sx

/- Arrays of arrays compared with themselves. -/
set_option linter.unusedVariables false
set_option linter.unusedSimpArgs false
namespace Go.Sx
open Go Go.RowKit
variable {C : Cx} {env env' : Env} {m m' : List Ent} {o : Oper}
theorem EqOk.rowsSelf {α : Type} {f : α → List Value} {sz : Nat} (hf : ∀ x, (f x).length = sz) (z : α) {P : Program} {d : Nat} {t e : TypeId} {n : Nat} {i : TypeInfo} {dd : TypeDesc} (hu : P.underlying t = some (.array n e)) (hi : P.info? e = some i) (hs : i.size = sz) (hT : P.underlying e = some dd) (hd : aggD dd = true) (xs : List α) (hx : xs.length = n)
    (he : ∀ x, EqOk P d e (.agg (f x).toArray) (.agg (f x).toArray) true) : EqOk P (d + 1) t (.agg (xs.flatMap f).toArray) (.agg (xs.flatMap f).toArray) true := fun w => by
  rw [run_equalIn_array w d _ _ hu hi, show P.cellsOf e = sz by simp [Program.cellsOf, hi, hs]]
  have key : ∀ is : List Nat, (∀ j, j ∈ is → j < xs.length) → (Op.eqItems d e sz (xs.flatMap f).toArray (xs.flatMap f).toArray is).run P w = .ok true w := by
    intro is
    induction is with
    | nil => intro _; simp [Op.eqItems]
    | cons j is ih =>
      intro h
      have hp := run_partN (P := P) (T := e) (n := sz) hT hd (by rw [hi]; simp [hs]) (cs := xs.flatMap f) (k := j * sz) w
      rw [flat_seg hf z xs j (h j (by simp))] at hp
      simp only [Op.eqItems, Sem.run_bind, hp, Result.andThen_ok, he (xs.getD j z) w]
      simp only [Bool.not_true, Bool.false_eq_true, if_false]
      exact ih fun q hq => h q (by simp [hq])
  exact key _ fun j hj => by rw [hx]; simpa using hj
end Go.Sx

/- Readings and totals in plain numbers. -/
set_option linter.unusedVariables false
set_option linter.unusedSimpArgs false
namespace Go.W
open Go Go.Sx
structure VP where
  a : Int
  b : Int
def encP (p : VP) : List Value := [.int .i64 p.a, .int .i64 p.b]
def zP : VP := ⟨0, 0⟩
/-! totals -/
def okT (l : List VP) (i : Nat) : Bool := decide (0 ≤ (l.getD i zP).a ∧ (l.getD i zP).a ≤ 100000 ∧ 0 ≤ (l.getD i zP).b ∧ (l.getD i zP).b ≤ 1000000000000 ∧ (0 < i → (l.getD (i - 1) zP).a < (l.getD i zP).a ∧ (l.getD (i - 1) zP).b ≤ (l.getD i zP).b))
def validTot (l : List VP) : Bool := decide (l.length ≤ 60) && (List.range l.length).all (okT l)
structure Tot (l : List VP) : Prop where
  len : l.length ≤ 60
  day : ∀ i, i < l.length → 0 ≤ (l.getD i zP).a ∧ (l.getD i zP).a ≤ 100000
  cnt : ∀ i, i < l.length → 0 ≤ (l.getD i zP).b ∧ (l.getD i zP).b ≤ 1000000000000
  up : ∀ i, i + 1 < l.length → (l.getD i zP).a < (l.getD (i + 1) zP).a ∧ (l.getD i zP).b ≤ (l.getD (i + 1) zP).b
theorem Tot.lt {l : List VP} (h : Tot l) {i : Nat} : ∀ {j : Nat}, i < j → j < l.length → (l.getD i zP).a < (l.getD j zP).a ∧ (l.getD i zP).b ≤ (l.getD j zP).b
  | j + 1, hij, hj => by
    have h1 := h.up j hj
    rcases Nat.lt_or_ge i j with h2 | h2
    · have h3 := h.lt h2 (by omega)
      omega
    · rw [show i = j by omega]; exact h1
/-! the count up to a day -/
def onI (l : List VP) (day : Int) : Nat := l.countP (fun p => decide (p.a ≤ day)) - 1
theorem on_at {l : List VP} (h : Tot l) {day : Int} {i : Nat} (hi : i < l.length) (h1 : (l.getD i zP).a ≤ day) (h2 : i + 1 < l.length → day < (l.getD (i + 1) zP).a) : onI l day = i := by
  have e : l = l.take (i + 1) ++ l.drop (i + 1) := (List.take_append_drop _ _).symm
  have c1 : (l.take (i + 1)).countP (fun p => decide (p.a ≤ day)) = i + 1 := by
    rw [show i + 1 = (l.take (i + 1)).length by simp; omega]
    rw [List.length_take, show min (i + 1) l.length = i + 1 by omega]
    rw [List.countP_eq_length.2]
    · simp; omega
    · intro x hx
      obtain ⟨j, hj, rfl⟩ := List.getElem_of_mem hx
      have hj' : j < i + 1 := by simp at hj; omega
      rw [decide_eq_true_iff, List.getElem_take]
      have e2 : l[j]'(by omega) = l.getD j zP := by simp [List.getD, show j < l.length by omega]
      rw [e2]
      rcases Nat.lt_or_ge j i with h3 | h3
      · have := (h.lt h3 hi).1; omega
      · rw [show j = i by omega]; exact h1
  have c2 : (l.drop (i + 1)).countP (fun p => decide (p.a ≤ day)) = 0 := by
    rw [List.countP_eq_zero]
    intro x hx
    obtain ⟨j, hj, rfl⟩ := List.getElem_of_mem hx
    have hj' : i + 1 + j < l.length := by simp at hj; omega
    rw [List.getElem_drop, decide_eq_true_iff]
    have e2 : l[i + 1 + j]'hj' = l.getD (i + 1 + j) zP := by simp [List.getD, hj']
    rw [e2]
    have h3 := h2 (by omega)
    rcases Nat.eq_zero_or_pos j with h4 | h4
    · rw [h4, Nat.add_zero]; omega
    · have := (h.lt (show i + 1 < i + 1 + j by omega) hj').1; omega
  unfold onI
  conv => lhs; rw [e]
  rw [List.countP_append, c1, c2]; omega
theorem frac_bd {m d e : Int} (hm : 0 ≤ m) (hd : 0 ≤ d) (he : d ≤ e) (hp : 0 < e) : 0 ≤ m * d ∧ m * d ≤ m * e ∧ 0 ≤ m * d / e ∧ m * d / e ≤ m := by
  have h1 : 0 ≤ m * d := Int.mul_nonneg hm hd
  have h2 : m * d ≤ m * e := Int.mul_le_mul_of_nonneg_left he hm
  refine ⟨h1, h2, Int.ediv_nonneg h1 (by omega), ?_⟩
  have := Int.ediv_le_ediv hp h2
  rwa [Int.mul_ediv_cancel _ (by omega)] at this
/-- What an index that is found tells. -/
structure OnAt (l : List VP) (day : Int) (i : Nat) : Prop where
  lt : i < l.length
  le : (l.getD i zP).a ≤ day
  nx : i + 1 < l.length → day < (l.getD (i + 1) zP).a
theorem OnAt.idx {l : List VP} (h : Tot l) {day : Int} {i : Nat} (ho : OnAt l day i) : onI l day = i := on_at h ho.lt ho.le ho.nx
theorem OnAt.bd {l : List VP} {day : Int} {i : Nat} (h : Tot l) (ho : OnAt l day i) (hi : i + 1 < l.length) :
    0 ≤ ((l.getD (i + 1) zP).b - (l.getD i zP).b) * (day - (l.getD i zP).a) ∧ ((l.getD (i + 1) zP).b - (l.getD i zP).b) * (day - (l.getD i zP).a) ≤ 100000000000000000
    ∧ 0 ≤ ((l.getD (i + 1) zP).b - (l.getD i zP).b) * (day - (l.getD i zP).a) / ((l.getD (i + 1) zP).a - (l.getD i zP).a)
    ∧ ((l.getD (i + 1) zP).b - (l.getD i zP).b) * (day - (l.getD i zP).a) / ((l.getD (i + 1) zP).a - (l.getD i zP).a) ≤ (l.getD (i + 1) zP).b - (l.getD i zP).b
    ∧ 0 < (l.getD (i + 1) zP).a - (l.getD i zP).a := by
  have h1 := h.up i hi
  have h2 := ho.le
  have h3 := ho.nx hi
  have h4 := h.cnt i (by omega)
  have h5 := h.cnt (i + 1) hi
  have h6 := h.day i (by omega)
  have h7 := h.day (i + 1) hi
  have hf := frac_bd (m := (l.getD (i + 1) zP).b - (l.getD i zP).b) (d := day - (l.getD i zP).a) (e := (l.getD (i + 1) zP).a - (l.getD i zP).a) (by omega) (by omega) (by omega) (by omega)
  have hx : ((l.getD (i + 1) zP).b - (l.getD i zP).b) * ((l.getD (i + 1) zP).a - (l.getD i zP).a) ≤ 1000000000000 * 100000 := Int.mul_le_mul (by omega) (by omega) (by omega) (by omega)
  exact ⟨hf.1, by omega, hf.2.2.1, hf.2.2.2, by omega⟩
/-! lists of totals -/
structure VS where
  A : Option Addr
  c : Nat
  xs : List VP
def zS : VS := ⟨none, 0, []⟩
end Go.W

/- Drifts, and totals out of a log, in plain numbers. -/
set_option linter.unusedVariables false
set_option linter.unusedSimpArgs false
namespace Go.W
open Go Go.Sx
/-! logs -/
/-! totals out of a log -/
end Go.W

/- Journals that are drawn, in plain numbers. -/
set_option linter.unusedVariables false
set_option linter.unusedSimpArgs false
namespace Go.W
open Go Go.Sx
/-- A device as it is drawn. -/
def DrDev (d : VDev) : Prop := OkDev d ∧ validDev d = true ∧ d.stack.length ≤ 4 ∧ 0 ≤ d.tickets ∧ d.tickets ≤ 19
/-- An act as it is drawn for a device with this stack. -/
def OkJ (s : List Int) (a : VAct) : Prop := ((a.kind = 1 ∨ a.kind = 2) ∧ 0 ≤ a.n ∧ a.n ≤ 19) ∨ (a.kind = 3 ∧ -1 ≤ a.n ∧ a.n ≤ 28 ∧ a.n ≤ size s - 1) ∨ ((a.kind = 4 ∨ a.kind = 5) ∧ a.n = 0)
theorem OkJ.valid {s : List Int} {a : VAct} (h : OkJ s a) : validAct a = true := by
  unfold validAct; rw [decide_eq_true_iff]; unfold OkJ at h; omega
theorem OkJ.ok {s : List Int} {a : VAct} (h : OkJ s a) : OkAct a := by
  unfold OkAct I64; unfold OkJ at h; omega
end Go.W
namespace Go.W
open Go Go.Sx
/-! batches -/
theorem getD_l {α : Type} {l t : List α} {d : α} {i : Nat} (h : i < l.length) : (l ++ t).getD i d = l.getD i d := by
  simp only [List.getD]; rw [List.getElem?_append_left h]
theorem getD_r {α : Type} {l t : List α} {d : α} {i n : Nat} (h : l.length = n) : (l ++ t).getD (n + i) d = t.getD i d := by
  subst h; simp only [List.getD]; rw [List.getElem?_append_right (by omega)]; simp
end Go.W
namespace Go.W
open Go Go.Sx
end Go.W

/- A rest is at most the number. -/
namespace Go.W
open Go Go.Sx
theorem mod_le {z n : Int} (hz : 0 ≤ z) (hn : 0 < n) : z % n ≤ z := by
  rcases Int.lt_or_le z n with h | h
  · rw [Int.emod_eq_of_lt hz h]; exact Int.le_refl _
  · have := Int.emod_lt_of_pos z hn; omega
end Go.W

/- Stacks, devices and acts that are drawn; what the law of journals asks. -/
set_option linter.unusedVariables false
set_option linter.unusedSimpArgs false
namespace Go.W
open Go Go.Sx
/-- A stack in the making. -/
def StkP (l : List Int) : Prop := ∀ i, i < l.length → 2 ≤ l.getD i 0 ∧ l.getD i 0 ≤ 100
structure StS where
  l : List Int
  k : Int
  at_ : Int
  sd : Int
  A : Option Addr
  c : Nat
theorem StkP.nil : StkP [] := fun i hi => by simp at hi
theorem StkP.next {l : List Int} {x : Int} (h : StkP l) (hx : 2 ≤ x ∧ x ≤ 100) : StkP (l ++ [x]) := fun i hi => by
  rcases Nat.lt_or_ge i l.length with h1 | h1
  · rw [getD_l h1]; exact h i h1
  · have : i = l.length + 0 := by simp at hi; omega
    subst this; rw [getD_r rfl]; exact hx
theorem prod_pow : ∀ {l : List Int}, StkP l → 1 ≤ prod l ∧ prod l ≤ 100 ^ l.length
  | [], _ => by simp [prod]
  | b :: s, h => by
    have h1 := h 0 (by simp)
    have h2 := prod_pow (l := s) fun i hi => by have := h (i + 1) (by simp; omega); simpa using this
    have h1' : 2 ≤ b ∧ b ≤ 100 := by simpa using h1
    have h3 : 2 * 1 ≤ b * prod s := Int.mul_le_mul h1'.1 h2.1 (by omega) (by omega)
    have h4 : b * prod s ≤ 100 * 100 ^ s.length := Int.mul_le_mul h1'.2 h2.2 (by omega) (by omega)
    have h5 : (100 : Int) ^ (s.length + 1) = 100 * 100 ^ s.length := by rw [Int.pow_succ, Int.mul_comm]
    simp only [prod, List.length_cons, h5]; omega
/-- A stack as it is drawn. -/
def DrStk (l : List Int) : Prop := StkP l ∧ 1 ≤ l.length ∧ l.length ≤ 4
theorem DrStk.nums {l : List Int} (h : DrStk l) : Nums 255 l := fun x hx => by
  obtain ⟨i, hi, rfl⟩ := List.getElem_of_mem hx
  have := h.1 i hi
  simp only [List.getD, List.getElem?_eq_getElem hi, Option.getD_some] at this
  omega
theorem DrStk.size {l : List Int} (h : DrStk l) : size l = prod l ∧ 1 ≤ prod l ∧ prod l ≤ 100000000 := by
  have h1 := prod_pow h.1
  have h2 : (100 : Int) ^ l.length ≤ 100000000 := by
    obtain ⟨h3, h4, h5⟩ := h
    have h6 : l.length = 1 ∨ l.length = 2 ∨ l.length = 3 ∨ l.length = 4 := by omega
    rcases h6 with h6 | h6 | h6 | h6 <;> rw [h6] <;> decide
  have h6 := size_prod (s := l) h.1
  exact ⟨by omega, h1.1, by omega⟩
theorem DrStk.valid {l : List Int} (h : DrStk l) : validStack l = true := by
  have h1 := h.size
  unfold validStack; rw [decide_eq_true_iff]
  exact ⟨h.2.1, by have := h.2.2; omega, h.1, by omega⟩
theorem DrDev.len {d : VDev} (h : DrDev d) : 0 < d.stack.length ∧ d.stack.length ≤ 4 ∧ validStack d.stack = true ∧ Nums 255 d.stack ∧ 2 ≤ size d.stack ∧ size d.stack ≤ 1000000000000 := by
  obtain ⟨hk, hv, hl, _⟩ := h
  have hO := devOk hk.2.2.1 hv
  have h1 : validStack d.stack = true := by unfold validDev at hv; rw [decide_eq_true_iff] at hv; exact hv.1
  have h2 := hO.stk.len1
  have h3 := sizeS hO
  have h4 := hO.stk.le
  have h5 := size_two hO.stk
  exact ⟨by omega, hl, h1, hk.2.1, by omega, by omega⟩
def ActP (s : List Int) (l : List VAct) : Prop := ∀ i, i < l.length → OkJ s (l.getD i zA)
theorem ActP.nil {s : List Int} : ActP s [] := fun i hi => by simp at hi
theorem ActP.next {s : List Int} {l : List VAct} {x : VAct} (h : ActP s l) (hx : OkJ s x) : ActP s (l ++ [x]) := fun i hi => by
  rcases Nat.lt_or_ge i l.length with h1 | h1
  · rw [getD_l h1]; exact h i h1
  · have : i = l.length + 0 := by simp at hi; omega
    subst this; rw [getD_r rfl]; exact hx
end Go.W

/- Lists of totals, and leaks, in plain numbers. -/
set_option linter.unusedVariables false
set_option linter.unusedSimpArgs false
namespace Go.W
open Go Go.Sx
/-! a list of lists that is made -/
/-! marks in them -/
/-! leaks -/
def vB (x : List VP) (L : List VS) : Nat → Bool
  | 0 => validTot x
  | k + 1 => validTot (L.getD k zS).xs
end Go.W

/- Drifts of lists that are drawn, in plain numbers. -/
set_option linter.unusedVariables false
set_option linter.unusedSimpArgs false
namespace Go.W
open Go Go.Sx
/-- A list in the making, and what comes next. -/
structure Dr (l : List VP) (p : VP) : Prop where
  len : l.length ≤ 6
  a0 : 0 ≤ p.a
  a1 : p.a ≤ 5 + 6 * (l.length : Int)
  b0 : 0 ≤ p.b
  b1 : p.b ≤ 19 + 29 * (l.length : Int)
  each : ∀ i, i < l.length → 0 ≤ (l.getD i zP).a ∧ (l.getD i zP).a < p.a ∧ 0 ≤ (l.getD i zP).b ∧ (l.getD i zP).b ≤ p.b
  up : ∀ i, i + 1 < l.length → (l.getD i zP).a < (l.getD (i + 1) zP).a ∧ (l.getD i zP).b ≤ (l.getD (i + 1) zP).b
theorem snoc_at {l : List VP} {p : VP} {i : Nat} (h : i < l.length) : (l ++ [p]).getD i zP = l.getD i zP := by
  simp only [List.getD]; rw [List.getElem?_append_left h]
theorem snoc_last {l : List VP} {p : VP} : (l ++ [p]).getD l.length zP = p := by simp [List.getD]
theorem Dr.nil {p : VP} (h1 : 0 ≤ p.a ∧ p.a ≤ 5) (h2 : 0 ≤ p.b ∧ p.b ≤ 19) : Dr [] p :=
  ⟨by simp, h1.1, by simpa using h1.2, h2.1, by simpa using h2.2, fun i hi => by simp at hi, fun i hi => by simp at hi⟩
theorem Dr.next {l : List VP} {p q : VP} (h : Dr l p) (hl : l.length < 6) (h1 : p.a + 1 ≤ q.a ∧ q.a ≤ p.a + 6) (h2 : p.b ≤ q.b ∧ q.b ≤ p.b + 29) : Dr (l ++ [p]) q := by
  have hln : (l ++ [p]).length = l.length + 1 := by simp
  have := h.a0; have := h.a1; have := h.b0; have := h.b1
  refine ⟨by omega, by omega, by rw [hln]; omega, by omega, by rw [hln]; omega, fun i hi => ?_, fun i hi => ?_⟩
  · rw [hln] at hi
    rcases Nat.lt_or_ge i l.length with h3 | h3
    · rw [snoc_at h3]; have := h.each i h3; omega
    · rw [show i = l.length by omega, snoc_last]; omega
  · rw [hln] at hi
    rcases Nat.lt_or_ge (i + 1) l.length with h3 | h3
    · rw [snoc_at h3, snoc_at (by omega)]; exact h.up i h3
    · rw [show i + 1 = l.length by omega, snoc_last, snoc_at (by omega)]; have := h.each i (by omega); omega
/-! the worst drift -/
/-! the count on a day, and the drift -/
/-! lists that are small -/
theorem rd1 {w : World} {A : Option Addr} {c : Nat} {x : List VP} (h1 : Rd w A (x.flatMap encP)) : ∀ k, k < [(⟨A, c, x⟩ : VS)].length → Rd w ([(⟨A, c, x⟩ : VS)].getD k zS).A (([(⟨A, c, x⟩ : VS)].getD k zS).xs.flatMap encP)
  | 0, _ => h1
theorem len1 {A : Option Addr} {c : Nat} {x : List VP} (h1 : x.length ≤ maxLen) : ∀ k, k < [(⟨A, c, x⟩ : VS)].length → ([(⟨A, c, x⟩ : VS)].getD k zS).xs.length ≤ maxLen
  | 0, _ => h1
/-! what has been seen up to a day -/
end Go.W

/- strconv.ParseUint at base ten and seven bits, whatever the string: the number, or an error that is not nil. Turned by a program out of the proof at eight bits. -/
namespace Go.U7
open Go Go.Proofs Go.Shelf Go.RowKit
variable {P : Program} {ρ : Ren}
set_option maxHeartbeats 32000000 in
set_option maxRecDepth 100000 in
theorem u7_inner (L : LaysPu.n16 P ρ) (t : ByteArray) (hne : t.size ≠ 0) (hmax : t.size ≤ 9223372036854775806) (w : World) :
    Calls P (ρ.f 16) #[.string t, .int .i64 10, .int .i64 7] w fun e w' => e = .returned (Lib.uintTupleM (ρ.t 34) 127 (Lib.parseUintM 127 0 t.data.toList)) ∧ w' = Lib.bytesWorld w (ρ.t 5) t := by
  have mixed := L.mixed
  have t9 := L.t9; have a9 := L.a9; have z9 := L.z9; have v9 := L.v9
  have t3 := L.t3; have a3 := L.a3; have z3 := L.z3; have v3 := L.v3
  have t22 := L.t22; have a22 := L.a22; have z22 := L.z22; have v22 := L.v22
  have t24 := L.t24; have a24 := L.a24; have z24 := L.z24; have v24 := L.v24
  have t4 := L.t4; have a4 := L.a4; have z4 := L.z4; have v4 := L.v4
  have t34 := L.t34; have a34 := L.a34; have z34 := L.z34; have v34 := L.v34
  have t5 := L.t5; have a5 := L.a5; have z5 := L.z5; have v5 := L.v5
  have t36 := L.t36; have a36 := L.a36; have z36 := L.z36; have v36 := L.v36
  have t37 := L.t37; have a37 := L.a37; have z37 := L.z37; have v37 := L.v37
  have t0 := L.t0; have a0 := L.a0; have z0 := L.z0; have v0 := L.v0
  have e19 : ∀ args w, (callFunc (ρ.f 19) args).run P w = .ok (.enter (ρ.f 19) args) w := enters_of L.f19 (by kernel_rfl) rfl
  have hemp : t.toList.isEmpty = false := by
    rw [← decide_eq_emptyBytes]
    exact decide_eq_false (fun h => hne (by rw [h]; rfl))
  have hcv := Lib.run_convert_string_bytes (P := P) w (ρ.t 9) (ρ.t 37) (ρ.t 5) t (u := .string) L.t9 L.t37 L.t5
  have hB : ∀ j, j < t.size → (Lib.bytesWorld w (ρ.t 5) t).cell? ⟨w.heap.size, j, none⟩ = some (.int .u8 (t.data.toList.getD j 0).toNat) := fun j hj => Lib.bytesWorld_cell w (ρ.t 5) t j hj
  obtain ⟨W1, hW1⟩ : ∃ W1, W1 = Lib.bytesWorld w (ρ.t 5) t := ⟨_, rfl⟩
  rw [← hW1] at hcv hB ⊢
  clear hW1
  obtain ⟨bs, hL⟩ : ∃ bs, bs = t.data.toList := ⟨_, rfl⟩
  have hLn : bs.length = t.size := by rw [hL, Lib.size_eq]
  rw [← hL] at hB ⊢
  clear hL
  have hmv : IntKind.u64.wrap (IntKind.u64.wrap 128 - 1) = 127 := by
    rw [IntKind.wrap_u64, IntKind.wrap_u64]
    decide
  go_enter L.f16, BodyPu.n16_ntmps ρ
  go_wp2
  go_loop [12, 13, 101] (fun vu vn vi => ∃ (k acc : Nat) (a : Int), vu = .bool false ∧ vn = .int .u64 a ∧ vi = .int .i64 k ∧ k ≤ t.size ∧ Hid (a = (acc : Int) ∧ acc ≤ 127 ∧ Lib.parseUintM 127 0 bs = Lib.parseUintM 127 acc (bs.drop k)))
    (fun _ _ vi => t.size - (intOf vi).toNat)
  case atStart => exact ⟨0, 0, 0, rfl, rfl, rfl, by omega, rfl, by omega, rfl⟩
  case round =>
    obtain ⟨k, acc, a, rfl, rfl, rfl, hk, hh⟩ := hrel
    obtain ⟨ha, hacc, hdec⟩ := hh.out
    clear hh
    have a0 : 0 ≤ a := by omega
    have a1 : a ≤ 127 := by omega
    by_cases hkn : k < t.size
    · have hc := hB k hkn
      have hdrop : bs.drop k = bs[k]'(by omega) :: bs.drop (k + 1) := List.drop_eq_getElem_cons (by omega)
      have hget : bs.getD k 0 = bs[k]'(by omega) := by simp [List.getD, List.getElem?_eq_getElem (show k < bs.length by omega)]
      rw [hdrop] at hdec
      rw [hget] at hc
      generalize bs[k]'(by omega) = c at hc hdec
      have hc256 : c.toNat < 256 := c.toNat_lt
      clear hB hdrop hget
      by_cases hdig : 48 ≤ c.toNat ∧ c.toNat ≤ 57
      · obtain ⟨hd0, hd1⟩ := hdig
        have hcut : ¬ 1844674407370955162 ≤ acc := by omega
        by_cases hov : 127 < acc * 10 + (c.toNat - 48)
        ·
          have hF : Lib.parseUintM 127 acc (c :: bs.drop (k + 1)) = .range := by simp [Lib.parseUintM, hd0, hd1, hcut, hov]
          rw [hF] at hdec
          have iov : 127 < a * 10 + ((c.toNat : Int) - 48) := by omega
          clear hcut hacc hF hov ha
          go_wp2
          go_ret2
          exact ⟨rfl, rfl⟩
        · have hF : Lib.parseUintM 127 acc (c :: bs.drop (k + 1)) = Lib.parseUintM 127 (acc * 10 + (c.toNat - 48)) (bs.drop (k + 1)) := by simp [Lib.parseUintM, hd0, hd1, hcut, hov]
          have HN : Hid (a * 10 + ((c.toNat : Int) - 48) = ((acc * 10 + (c.toNat - 48) : Nat) : Int) ∧ acc * 10 + (c.toNat - 48) ≤ 127 ∧ Lib.parseUintM 127 0 bs = Lib.parseUintM 127 (acc * 10 + (c.toNat - 48)) (bs.drop (k + 1))) := Lib.hid ⟨by omega, by omega, hdec.trans hF⟩
          have iov : a * 10 + ((c.toNat : Int) - 48) ≤ 127 := by omega
          clear hcut hacc hF hov hdec ha
          go_wp2
          refine ⟨⟨k + 1, acc * 10 + (c.toNat - 48), a * 10 + ((c.toNat : Int) - 48), rfl, (by first | rfl | (congr 1; omega)), (by first | rfl | (congr 1; omega)), by omega, HN⟩, by simp [intOf]; omega⟩
      ·
        have hF : Lib.parseUintM 127 acc (c :: bs.drop (k + 1)) = Lib.parseUintB 7 [] := by simp [Lib.parseUintM, Lib.parseUintB, hdig]
        rw [hF] at hdec
        clear hacc hF ha
        have hv0 := bits_lo_u8 .or (c.toNat : Int) 32
        have hv1 := bits_hi_u8 .or (c.toNat : Int) 32
        have hu0 := bits_lo_u8 .or 95 32
        have hu1 := bits_hi_u8 .or 95 32
        go_wp2_with (go_at_fn (ρ.f 19); refine (AnyPu.internal_strconv_lower { L with } _ _).mono ?_; rintro e w' ⟨rfl, rfl⟩)
        all_goals go_ret2
        all_goals first | exact ⟨rfl, rfl⟩ | exact ⟨by rw [hdec]; rfl, rfl⟩
    ·
      have hkk : k = t.size := by omega
      subst hkk
      have hF : Lib.parseUintM 127 acc (bs.drop t.size) = .ok acc := by rw [List.drop_eq_nil_of_le (by omega)]; rfl
      rw [hF] at hdec
      subst ha
      clear hacc hF a0 a1
      go_wp2
      go_ret2
      exact ⟨rfl, rfl⟩

theorem u7_at (L : LaysPu.n16 P ρ) (t : ByteArray) (hmax : t.size ≤ 9223372036854775806) (w : World) :
    Calls P (ρ.f 16) #[.string t, .int .i64 10, .int .i64 7] w fun e w' => e = .returned (Lib.uintTupleM (ρ.t 34) 127 (Lib.parseUintB 7 t.data.toList)) ∧ (w' = w ∨ w' = Lib.bytesWorld w (ρ.t 5) t) := by
  have eM : (2 : Nat) ^ 7 - 1 = 127 := by decide
  by_cases h0 : t.size = 0
  · have ht : t = ⟨#[]⟩ := by
      apply ByteArray.ext
      exact Array.eq_empty_of_size_eq_zero h0
    subst ht
    exact (AnyPu.internal_strconv_ParseUint_empty { L with } 10 7 w).mono fun e w' ⟨he, hw⟩ => ⟨he, Or.inl hw⟩
  · have hne : t.data.toList ≠ [] := fun h => h0 (by rw [Lib.size_eq, h]; rfl)
    refine (u7_inner { L with } t h0 hmax w).mono fun e w' ⟨he, hw⟩ => ⟨?_, Or.inr hw⟩
    rw [he, Lib.parseUintB, if_neg hne, eM]

set_option maxHeartbeats 4000000 in
set_option maxRecDepth 100000 in
theorem u7_ok (L : LaysPu.n14 P ρ) (s : ByteArray) (hmax : s.size ≤ 9223372036854775806) (u : Nat) (h : Lib.parseUintB 7 s.data.toList = .ok u) (w : World) :
    Calls P (ρ.f 14) #[.string s, .int .i64 10, .int .i64 7] w fun e w' => e = .returned (.tuple #[.int .u64 u, .nilIface]) ∧ (w' = w ∨ w' = Lib.bytesWorld w (ρ.t 5) s) := by
  have mixed := L.mixed
  have t9 := L.t9; have a9 := L.a9; have z9 := L.z9; have v9 := L.v9
  have t3 := L.t3; have a3 := L.a3; have z3 := L.z3; have v3 := L.v3
  have t22 := L.t22; have a22 := L.a22; have z22 := L.z22; have v22 := L.v22
  have t24 := L.t24; have a24 := L.a24; have z24 := L.z24; have v24 := L.v24
  have t25 := L.t25; have a25 := L.a25; have z25 := L.z25; have v25 := L.v25
  have t4 := L.t4; have a4 := L.a4; have z4 := L.z4; have v4 := L.v4
  have e16 : ∀ args w, (callFunc (ρ.f 16) args).run P w = .ok (.enter (ρ.f 16) args) w := enters_of L.f16 (by kernel_rfl) rfl
  have hI := u7_at { L with } s hmax w
  rw [h] at hI
  have hI : Calls P (ρ.f 16) #[.string s, .int .i64 10, .int .i64 7] w fun e w' => e = .returned (.tuple #[.int .u64 u, .nilIface]) ∧ (w' = w ∨ w' = Lib.bytesWorld w (ρ.t 5) s) := hI
  clear h
  go_enter L.f14, BodyPu.n14_ntmps ρ
  go_wp2_with (go_at_fn (ρ.f 16); refine hI.mono ?_; rintro e W1 ⟨rfl, hW⟩)
  go_wp2
  go_ret2
  exact ⟨rfl, hW⟩
set_option maxHeartbeats 4000000 in
set_option maxRecDepth 100000 in
theorem u7_syn (L : LaysPu.n14 P ρ) (s : ByteArray) (hlim : s.size ≤ 281474976710656) (h : Lib.parseUintB 7 s.data.toList = Lib.parseUintB 7 []) (ev : Value) (w : World) (hv : w.cell? ⟨(ρ.g 0), 0, none⟩ = some ev) (hev : ev = .nilIface ∨ ∃ te pe, ev = .iface te pe) :
    Calls P (ρ.f 14) #[.string s, .int .i64 10, .int .i64 7] w fun e w' => ∃ N, e = .returned (.tuple #[.int .u64 0, .iface (ρ.t 39) (.pointer (some ⟨N, 0, none⟩))]) ∧ w.heap.size ≤ N ∧ w'.heap[N]? = some (.cells #[.string ⟨#[80, 97, 114, 115, 101, 85, 105, 110, 116]⟩, .string s, ev] (ρ.t 44) (0, 0)) ∧ Below w.heap.size w w' := by
  have mixed := L.mixed
  have t9 := L.t9; have a9 := L.a9; have z9 := L.z9; have v9 := L.v9
  have t3 := L.t3; have a3 := L.a3; have z3 := L.z3; have v3 := L.v3
  have t22 := L.t22; have a22 := L.a22; have z22 := L.z22; have v22 := L.v22
  have t24 := L.t24; have a24 := L.a24; have z24 := L.z24; have v24 := L.v24
  have t25 := L.t25; have a25 := L.a25; have z25 := L.z25; have v25 := L.v25
  have t4 := L.t4; have a4 := L.a4; have z4 := L.z4; have v4 := L.v4
  have e16 : ∀ args w, (callFunc (ρ.f 16) args).run P w = .ok (.enter (ρ.f 16) args) w := enters_of L.f16 (by kernel_rfl) rfl
  have e17 : ∀ args w, (callFunc (ρ.f 17) args).run P w = .ok (.enter (ρ.f 17) args) w := enters_of L.f17 (by kernel_rfl) rfl
  have hG : (ρ.g 0) < w.heap.size := Lib.lt_of_cell hv
  have hI := u7_at { L with } s (by omega) w
  rw [h] at hI
  have hI : Calls P (ρ.f 16) #[.string s, .int .i64 10, .int .i64 7] w fun e w' => e = .returned (.tuple #[.int .u64 0, .iface (ρ.t 34) (.int .i64 2)]) ∧ (w' = w ∨ w' = Lib.bytesWorld w (ρ.t 5) s) := hI
  clear h
  go_enter L.f14, BodyPu.n14_ntmps ρ
  go_wp2_with (go_at_fn (ρ.f 16); refine hI.mono ?_)
  rintro e W1 ⟨rfl, hW⟩
  have hb1 : Below w.heap.size w W1 := by
    rcases hW with rfl | rfl
    · exact Below.refl _ _
    · exact Lib.bytesWorld_below _ _ _
  have hv1 : W1.cell? ⟨(ρ.g 0), 0, none⟩ = some ev := (hb1.cell (show (⟨(ρ.g 0), 0, none⟩ : Addr).block < w.heap.size from hG)).trans hv
  clear hW
  go_wp2_with (go_at_fn (ρ.f 17); refine (AnyPu.strconv_toError_syntax { L with } ⟨#[80, 97, 114, 115, 101, 85, 105, 110, 116]⟩ s 10 7 ev _ hlim ?_ hev).mono ?_)
  · exact hv1
  rintro e W2 ⟨N, rfl, h1, h2, h3⟩
  go_wp2
  go_ret2
  exact ⟨N, rfl, Nat.le_trans hb1.size h1, h2, hb1.trans (h3.mono hb1.size)⟩
set_option maxHeartbeats 4000000 in
set_option maxRecDepth 100000 in
theorem u7_rng (L : LaysPu.n14 P ρ) (s : ByteArray) (hlim : s.size ≤ 281474976710656) (h : Lib.parseUintB 7 s.data.toList = .range) (ev : Value) (w : World) (hv : w.cell? ⟨(ρ.g 1), 0, none⟩ = some ev) (hev : ev = .nilIface ∨ ∃ te pe, ev = .iface te pe) :
    Calls P (ρ.f 14) #[.string s, .int .i64 10, .int .i64 7] w fun e w' => ∃ N, e = .returned (.tuple #[.int .u64 127, .iface (ρ.t 39) (.pointer (some ⟨N, 0, none⟩))]) ∧ w.heap.size ≤ N ∧ w'.heap[N]? = some (.cells #[.string ⟨#[80, 97, 114, 115, 101, 85, 105, 110, 116]⟩, .string s, ev] (ρ.t 44) (0, 0)) ∧ Below w.heap.size w w' := by
  have mixed := L.mixed
  have t9 := L.t9; have a9 := L.a9; have z9 := L.z9; have v9 := L.v9
  have t3 := L.t3; have a3 := L.a3; have z3 := L.z3; have v3 := L.v3
  have t22 := L.t22; have a22 := L.a22; have z22 := L.z22; have v22 := L.v22
  have t24 := L.t24; have a24 := L.a24; have z24 := L.z24; have v24 := L.v24
  have t25 := L.t25; have a25 := L.a25; have z25 := L.z25; have v25 := L.v25
  have t4 := L.t4; have a4 := L.a4; have z4 := L.z4; have v4 := L.v4
  have e16 : ∀ args w, (callFunc (ρ.f 16) args).run P w = .ok (.enter (ρ.f 16) args) w := enters_of L.f16 (by kernel_rfl) rfl
  have e17 : ∀ args w, (callFunc (ρ.f 17) args).run P w = .ok (.enter (ρ.f 17) args) w := enters_of L.f17 (by kernel_rfl) rfl
  have hG : (ρ.g 1) < w.heap.size := Lib.lt_of_cell hv
  have hI := u7_at { L with } s (by omega) w
  rw [h] at hI
  have hI : Calls P (ρ.f 16) #[.string s, .int .i64 10, .int .i64 7] w fun e w' => e = .returned (.tuple #[.int .u64 127, .iface (ρ.t 34) (.int .i64 1)]) ∧ (w' = w ∨ w' = Lib.bytesWorld w (ρ.t 5) s) := hI
  clear h
  go_enter L.f14, BodyPu.n14_ntmps ρ
  go_wp2_with (go_at_fn (ρ.f 16); refine hI.mono ?_)
  rintro e W1 ⟨rfl, hW⟩
  have hb1 : Below w.heap.size w W1 := by
    rcases hW with rfl | rfl
    · exact Below.refl _ _
    · exact Lib.bytesWorld_below _ _ _
  have hv1 : W1.cell? ⟨(ρ.g 1), 0, none⟩ = some ev := (hb1.cell (show (⟨(ρ.g 1), 0, none⟩ : Addr).block < w.heap.size from hG)).trans hv
  clear hW
  go_wp2_with (go_at_fn (ρ.f 17); refine (AnyPu.strconv_toError_range { L with } ⟨#[80, 97, 114, 115, 101, 85, 105, 110, 116]⟩ s 10 7 ev _ hlim ?_ hev).mono ?_)
  · exact hv1
  rintro e W2 ⟨N, rfl, h1, h2, h3⟩
  go_wp2
  go_ret2
  exact ⟨N, rfl, Nat.le_trans hb1.size h1, h2, hb1.trans (h3.mono hb1.size)⟩

end Go.U7
