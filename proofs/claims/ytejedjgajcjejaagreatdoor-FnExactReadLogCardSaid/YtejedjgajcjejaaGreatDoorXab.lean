/- Several texts, one behind the other. -/
import Derived.Lib.AppendStr
import Derived.Lib.UnsafeStr
import Derived.Lib.Builder
import Derived.Laws.Concat
import Derived.Laws.IdiomStrings
import Derived.Laws.Externs
import Derived.Laws.CopyRow
import Derived.Shelf.Pu.Lays
import Derived.Shelf.Pu.Lower
import Derived.Lib.Strings
import Derived.Lib.Walk
import Derived.Lib.ConvBytes
import Derived.Lib.ParseIntBMem
import Derived.Lib.Hide
import Derived.Laws.Strings3
import Derived.Laws.Closers25
import Derived.Laws.Closers25b
import Derived.WalkKit
import Derived.BigCall
import Derived.BigGuard
import Derived.Shelf.Pu.ParseUintEmpty
import Derived.Shelf.Pu.ToError
import Derived.Shelf.Pu.ToErrorRange
import Derived.Lib.AtoiErrMem
import Derived.Test.YtejedjgajcjejaaGreatDoorXaa
/- Strings; the library's builder of strings, walked. -/
set_option linter.unusedVariables false
set_option linter.unusedSimpArgs false
namespace Go.Sx
open Go Go.RowKit
variable {C : Cx} {env env' : Env} {m m' : List Ent} {o : Oper} {K : Env → List Ent → Prop}
/-- A string by its bytes. -/
abbrev sv (l : List UInt8) : Value := .string ⟨l.toArray⟩
def eU (b : UInt8) : List Value := [.int .u8 (b.toNat : Int)]
theorem eU_len : ∀ b, (eU b).length = 1 := fun _ => rfl
theorem sv_size (l : List UInt8) : (⟨l.toArray⟩ : ByteArray).size = l.length := by simp [ByteArray.size]
theorem strCells_sv (l : List UInt8) : Lib.strCells ⟨l.toArray⟩ = l.flatMap eU := by
  unfold Lib.strCells eU
  show l.map _ = _
  induction l with
  | nil => rfl
  | cons b l ih => rw [List.map_cons, List.flatMap_cons, ih]; rfl
theorem sv_of (s : ByteArray) : Value.string s = sv s.data.toList := by
  cases s; simp [sv]
theorem fr_addS {T x y T'} {l r : List UInt8} (ho : o.op = .binOp .add T x y T') (hx : ev env x = some (sv l)) (hy : ev env y = some (sv r)) (hb : l.length + r.length ≤ 9223372036854775807) : Free C o env m (sv (l ++ r)) := by
  intro a w hr _
  have h : (binOp .add T (sv l) (sv r)).run C.P w = .ok (sv (l ++ r)) w := by
    have := run_string_add_sum (P := C.P) w ⟨l.toArray⟩ ⟨r.toArray⟩ (by rw [sv_size, sv_size]; exact hb)
    rw [ByteArray.mk_append_mk] at this
    unfold binOp
    simp only [sv]
    exact this
  have hg : (eqGuard .add T x y (sv l) (sv r)).run C.P w = .ok () w := by unfold eqGuard; rfl
  simp only [execOp, ho, hr.ev hx, hr.ev hy, Sem.run_bind, hg, Result.andThen_ok, h]; rfl
theorem beq_S (l r : List UInt8) : ((⟨l.toArray⟩ : ByteArray).toList == (⟨r.toArray⟩ : ByteArray).toList) = decide (l = r) := by
  rw [Bool.eq_iff_iff, decide_eq_true_iff, beq_iff_eq, ByteArray.toList_eq, ByteArray.toList_eq]
theorem fr_eqlS {T x y T'} {l r : List UInt8} (ho : o.op = .binOp .eql T x y T') (hx : ev env x = some (sv l)) (hy : ev env y = some (sv r)) : Free C o env m (.bool (decide (l = r))) := by
  intro a w hr _
  have h : (binOp .eql T (sv l) (sv r)).run C.P w = .ok (.bool (decide (l = r))) w := by
    show (Op.stringOp .eql ⟨l.toArray⟩ ⟨r.toArray⟩).run C.P w = _
    simp only [Op.stringOp, beq_S, Sem.run_pure]
  have hg : (eqGuard .eql T x y (sv l) (sv r)).run C.P w = .ok () w := by unfold eqGuard; rfl
  simp only [execOp, ho, hr.ev hx, hr.ev hy, Sem.run_bind, hg, Result.andThen_ok, h]; rfl
theorem fr_neqS {T x y T'} {l r : List UInt8} (ho : o.op = .binOp .neq T x y T') (hx : ev env x = some (sv l)) (hy : ev env y = some (sv r)) : Free C o env m (.bool (!decide (l = r))) := by
  intro a w hr _
  have h : (binOp .neq T (sv l) (sv r)).run C.P w = .ok (.bool (!decide (l = r))) w := by
    show (Op.stringOp .neq ⟨l.toArray⟩ ⟨r.toArray⟩).run C.P w = _
    simp only [Op.stringOp, beq_S, Sem.run_pure]
  have hg : (eqGuard .neq T x y (sv l) (sv r)).run C.P w = .ok () w := by unfold eqGuard; rfl
  simp only [execOp, ho, hr.ev hx, hr.ev hy, Sem.run_bind, hg, Result.andThen_ok, h]; rfl
theorem fr_neqS_f {T x y T'} {l r : List UInt8} (ho : o.op = .binOp .neq T x y T') (hx : ev env x = some (sv l)) (hy : ev env y = some (sv r)) (h : l = r) : Free C o env m (.bool false) := by
  have := fr_neqS (C := C) (m := m) ho hx hy
  rwa [decide_eq_true h] at this
theorem fr_lenS {x T} {l : List UInt8} (ho : o.op = .call { callee := .builtin .len, args := #[x], argTypes := #[T] }) (hx : ev env x = some (sv l)) (hT : C.P.underlying T = some .string) : Free C o env m (.int .i64 l.length) := by
  have := fr_len_str (m := m) ho hx hT
  rwa [sv_size] at this
/-- Bytes to a string. -/
theorem fr_convBS {S D x E} {n c : Nat} {A : Option Addr} {cs : List Value} (l : List UInt8) (ho : o.op = .convert S D x) (hx : ev env x = some (.slice A n c)) (H : Reads C m A cs) (hcs : cs = l.flatMap eU) (hn : n = l.length) (h0 : 0 < n) (hS : C.P.underlying S = some (.slice E)) (hE : C.P.underlying E = some (.int .u8)) (hD : C.P.underlying D = some .string) : Free C o env m (sv l) := by
  subst hcs hn
  intro a w hr hw
  have hR := H w hw
  have hA := hR.isSome (by rw [flat_len eU_len]; omega)
  obtain ⟨ad, rfl⟩ := Option.isSome_iff_exists.1 hA
  have hrun := run_convert_bytes_back (P := C.P) w S D E ad c l hS hE hD fun j hj => by
    obtain ⟨ad', e1, hc⟩ := hR j (.int .u8 (l[j].toNat : Int)) (by
      have := flat_get eU_len (0 : UInt8) l j 0 hj (by omega)
      simp only [Nat.mul_one, Nat.add_zero] at this
      rw [this]; simp [eU, List.getD, hj])
    obtain rfl := Option.some.inj e1
    exact hc
  simp only [execOp, ho, hr.ev hx, Sem.run_bind, hrun, Result.andThen_ok, Sem.run_pure]
theorem b8_cell {x : Int} (h : 0 ≤ x ∧ x ≤ 255) : (.int .u8 x : Value) = .int .u8 ((UInt8.ofNat x.toNat).toNat : Int) := by
  have : (UInt8.ofNat x.toNat).toNat = x.toNat := by simp [UInt8.toNat_ofNat]; omega
  rw [this]; congr 1; omega
/-! ### The builder -/
theorem blk_shape {i b : Nat} {cs : List Value} {T : TypeId} (hi : m[i]? = some (.blk b cs T)) {w : World} (hw : Holds C.base C.w0 m w) : w.shape? b = some (T, cs.length) := by
  have h := (hw.all _ (List.mem_of_getElem? hi)).2
  simp [World.shape?, h]
theorem fr_toUnsafe {S D x U} {i b : Nat} {cs : List Value} {T : TypeId} {sz : Nat} (hi : m[i]? = some (.blk b cs T)) (ho : o.op = .convert S D x) (hx : ev env x = some (.pointer (some ⟨b, 0, none⟩))) (hS : C.P.underlying S = some (.pointer U)) (hD : C.P.underlying D = some .unsafePointer) (hU : (C.P.info? U).map (·.size) = some sz) (h0 : Nat.blt 0 sz = true) (hl : Nat.blt 0 cs.length = true) : Free C o env m (.pointer (some ⟨b, 0, none⟩)) := by
  intro a w hr hw
  obtain ⟨j, hj, hjs⟩ := Option.map_eq_some_iff.1 hU
  have h0' : 0 < sz := by simpa using h0
  have hrun := Lib.run_to_unsafe (P := C.P) w (src := S) (dst := D) ⟨b, 0, none⟩ hS hD hj (by omega) (blk_shape hi hw) (by simpa using hl)
  simp only [execOp, ho, hr.ev hx, Sem.run_bind, hrun, Result.andThen_ok, Sem.run_pure]
theorem fr_fromUnsafe {S D x U} {i b : Nat} {cs : List Value} {T : TypeId} {sz : Nat} (hi : m[i]? = some (.blk b cs T)) (ho : o.op = .convert S D x) (hx : ev env x = some (.pointer (some ⟨b, 0, none⟩))) (hS : C.P.underlying S = some .unsafePointer) (hD : C.P.underlying D = some (.pointer U)) (hU : (C.P.info? U).map (·.size) = some sz) (hl : liesAt C.P C.P.depth T (cs.length / C.P.cellsOf T) 0 U 1 = true) : Free C o env m (.pointer (some ⟨b, 0, none⟩)) := by
  intro a w hr hw
  obtain ⟨j, hj, hjs⟩ := Option.map_eq_some_iff.1 hU
  have hrun := Lib.run_from_unsafe (P := C.P) w (src := S) (dst := D) ⟨b, 0, none⟩ hS hD hj (blk_shape hi hw) hl
  simp only [execOp, ho, hr.ev hx, Sem.run_bind, hrun, Result.andThen_ok, Sem.run_pure]
theorem fr_noEsc {fo f args at_ x v fn} (ho : o.op = .call { callee := .value fo, args := args, argTypes := at_ }) (hfo : ev env fo = some (.func (.func f) #[] #[])) (ha : args = #[x]) (hx : ev env x = some v) (hf : C.P.funcs[f]? = some fn) (hname : (fn.name == "runtime.NumGoroutine") = false) (hb : fn.body.isNone = true) (hn : Extern.findNext fn = none) (he : Extern.find fn = some Extern.AbiNoEscape.same) : Free C o env m v := by
  intro a w hr hw
  subst ha
  have hrun : (callFunc f #[v]).run C.P w = .ok (.value v) w := by
    rw [run_callFunc_extern hf hname hb hn he, Lib.run_noEscape]; rfl
  simp only [execOp, ho, resolve, hr.ev hfo, Deferred.ofValue, invoke]
  simp [hr.ev hx, hrun]
theorem fr_neq_ptr_same {T x y T' E ad} (ho : o.op = .binOp .neq T x y T') (hx : ev env x = some (.pointer (some ad))) (hy : ev env y = some (.pointer (some ad))) (hT : C.P.underlying T = some (.pointer E)) (hE : (C.P.info? E).isSome = true) : Free C o env m (.bool false) := by
  intro a w hr _
  obtain ⟨j, hj⟩ := Option.isSome_iff_exists.1 hE
  have h := Lib.run_neq_ptr_same (P := C.P) w ad hT hj
  have hg : (eqGuard .neq T x y (.pointer (some ad)) (.pointer (some ad))).run C.P w = .ok () w := by unfold eqGuard; rfl
  simp only [execOp, ho, hr.ev hx, hr.ev hy, Sem.run_bind, hg, Result.andThen_ok, h]; rfl
/-- append(bytes, a string's bytes). -/
theorem op_appendS {d : Nat} {i : Nat} {s x T TS E A n c} {xs l : List UInt8} (ho : o.op = .call { callee := .builtin .append, args := #[s, x], argTypes := #[T, TS] })
    (hs : ev env s = some (.slice A n c)) (hx : ev env x = some (sv l)) (hi : m[i]? = some (.row (.slice A n c) E 1 n (xs.flatMap eU))) (hT : C.P.underlying T = some (.slice E)) (hTS : C.P.underlying TS = some .string)
    (hz : (C.P.info? E).map (fun i => (i.size, i.bytes)) = some (1, 1)) (hzz : (C.P.info? E).bind (·.zero) = some (.int .u8 0))
    (hb : n + l.length ≤ 140737488355328) (hd : o.dst = some d) (hlt : Nat.blt d C.n = true)
    (h : ∀ A' c', K ((d, .slice A' (n + l.length) c') :: env) (m.set i (.row (.slice A' (n + l.length) c') E 1 (n + l.length) ((xs ++ l).flatMap eU)))) : Op1 C o env m K := by
  refine Op1.of_run hd hlt fun a w hrep hh => ?_
  have hmx : maxLen = 9223372036854775807 := rfl
  cases hq : C.P.info? E with
  | none => simp [hq] at hz
  | some inf =>
    simp only [hq, Option.map_some, Option.some.injEq, Prod.mk.injEq] at hz
    simp only [hq, Option.bind_some] at hzz
    obtain ⟨h1, h2⟩ := hz
    have hown := hh.all _ (List.mem_of_getElem? hi)
    have hown : w.ownsRow C.base E 1 (.slice A n c) n (xs.flatMap eU) := hown
    obtain ⟨hlt, hg'⟩ := List.getElem?_eq_some_iff.1 hi
    have hm : m = m.take i ++ .row (.slice A n c) E 1 n (xs.flatMap eU) :: m.drop (i + 1) := by rw [← hg', List.getElem_cons_drop, List.take_append_drop]
    have hset : ∀ e, m.set i e = m.take i ++ e :: m.drop (i + 1) := fun e => by rw [List.set_eq_take_append_cons_drop, if_pos hlt]
    have hsz := sv_size l
    obtain ⟨v', w', hrun, hown', hgr, _⟩ := Lib.run_append_own_string (P := C.P) w C.base T TS o.type E inf hT hTS hq hzz h1 h2 (.slice A n c) n (xs.flatMap eU) hown ⟨l.toArray⟩ (by rw [hsz]; omega) (by rw [hsz]; exact hb) hh.wle
    rw [hsz, strCells_sv, ← List.flatMap_append] at hown'
    have hv' : ∃ A' c', v' = .slice A' (n + l.length) c' := by
      rcases hown'.2 with ⟨rfl, hn0⟩ | ⟨g, cap, cur, rfl, _⟩
      · exact ⟨none, 0, by rw [hn0]⟩
      · exact ⟨_, cap, rfl⟩
    obtain ⟨A', c', rfl⟩ := hv'
    refine ⟨_, w', m.set i (.row (.slice A' (n + l.length) c') E 1 (n + l.length) ((xs ++ l).flatMap eU)), ?_, ?_, h A' c'⟩
    · simp [execOp, ho, resolve, invoke, builtin, hrep.ev hs, hrep.ev hx, hrun]
    · rw [hset]
      rw [hm] at hh
      refine hh.turn hgr hown' fun b hb' => ?_
      simp only [Ent.has] at hb' ⊢
      rcases hown'.2 with ⟨hv, hn0⟩ | ⟨g, cap, cur, hv, hgb, hgg, _⟩
      · simp at hv; obtain ⟨rfl, _⟩ := hv; simp [Value.ownBlock] at hb'
      · simp only [Value.slice.injEq] at hv
        obtain ⟨rfl, _⟩ := hv
        simp only [Value.ownBlock, Option.some.injEq] at hb' ⊢
        subst hb'
        rcases hown.2 with ⟨hv0, hn0⟩ | ⟨g0, cap0, cur0, hv0, hb0, hg0, hnc0, hcm0, hcs0, ht0⟩
        · right
          simp only [Value.slice.injEq] at hv0
          obtain ⟨rfl, rfl, rfl⟩ := hv0
          have hx0 : xs.flatMap eU = [] := List.eq_nil_of_length_eq_zero (by simpa using hown.1)
          obtain ⟨v2, w2, hrun2, hown2, _, _⟩ := Lib.run_append_own_string (P := C.P) w w.heap.size T TS o.type E inf hT hTS hq hzz h1 h2 (.slice none 0 0) 0 [] (World.ownsRow_nil w _ E 1) ⟨l.toArray⟩ (by rw [hsz]; omega) (by rw [hsz]; exact hb) (Nat.le_refl _)
          rw [hrun] at hrun2
          simp only [Result.ok.injEq] at hrun2
          obtain ⟨rfl, rfl⟩ := hrun2
          exact (World.ownsRow.lt hown2 g (by simp [Value.ownBlock])).1
        · simp only [Value.slice.injEq] at hv0
          obtain ⟨rfl, -, rfl⟩ := hv0
          simp only [Value.ownBlock, Option.some.injEq]
          by_cases hroom : n + l.length ≤ c
          · left
            have hroom2 := Lib.run_append_room_string (P := C.P) w T TS o.type E inf hT hTS hq h1 g0 n c cur0 hg0 ⟨l.toArray⟩ (by rw [hsz]; exact hroom) (by rw [hsz]; simp only [Nat.mul_one] at hcs0; omega)
            rw [hrun] at hroom2
            simp only [Result.ok.injEq, Value.slice.injEq, Option.some.injEq, Addr.mk.injEq] at hroom2
            exact hroom2.1.1.1.symm
          · right
            have hgrow := Lib.run_append_grow_string (P := C.P) w T TS o.type E inf _ hT hTS hq hzz ⟨g0, 0, none⟩ n c (xs.flatMap eU) (by rw [h1]; exact hown.1) (World.ownsRow.cells hown (g := g0) rfl) ⟨l.toArray⟩ (by rw [hsz]; omega) (by rw [hsz]; omega) (by
              rw [hsz, h2, Nat.mul_one]
              have := growslice_fits (old := c) (need := n + l.length) (bytes := 1) (by omega) (by omega)
              simpa using this)
            rw [hrun] at hgrow
            simp only [Result.ok.injEq, Value.slice.injEq, Option.some.injEq, Addr.mk.injEq] at hgrow
            have := hgrow.1.1.1
            omega
end Go.Sx

/- Arrays of arrays: an element of several cells, by a number that is reckoned. -/
namespace Go.Sx
open Go Go.RowKit
variable {C : Cx} {env : Env} {m : List Ent} {o : Oper}
theorem segB {α : Type} {f : α → List Value} {sz : Nat} {i b : Nat} {T} {xs : List α} {k : Nat} (hi : m[i]? = some (.blk b (xs.flatMap f) T)) (hf : ∀ x, (f x).length = sz) (d : α) (hk : k < xs.length) : SegO C m (some ⟨b, 0 + (k : Int).toNat * sz, none⟩) (f (xs.getD k d)) := by
  rw [Nat.zero_add, Int.toNat_natCast]
  refine SegO.blk hi fun j u hj => ?_
  have hlt : j < sz := by rw [← hf (xs.getD k d)]; exact (List.getElem?_eq_some_iff.1 hj).1
  rw [flat_get hf d xs k j hk hlt, hj]
theorem segOld {α : Type} {f : α → List Value} {sz : Nat} {b q : Nat} {xs : List α} {k : Nat} (H : Reads C m (some ⟨b, q, none⟩) (xs.flatMap f)) (hf : ∀ x, (f x).length = sz) (d : α) (hp : Nat.blt 0 sz = true) (hk : k < xs.length) : SegO C m (some ⟨b, q + (k : Int).toNat * sz, none⟩) (f (xs.getD k d)) := by
  have h := segN H hf hp d hk
  simpa [offA, add_at] using h
theorem fr_indexG {α : Type} {f : α → List Value} {sz : Nat} {xs : List α} {j : Nat} (hf : ∀ x, (f x).length = sz) (d : α) {S x y} {N : Nat} {E} {k} {dd} (ho : o.op = .index S x y) (hx : ev env x = some (.agg (List.toArray (xs.flatMap f)))) (hy : ev env y = some (.int k (j : Int))) (hS : C.P.underlying S = some (.array N E)) (hE : C.P.underlying E = some dd) (hd : aggD dd = true) (hs : (C.P.info? E).map (·.size) = some sz) (hN : xs.length = N) (hj : j < xs.length) : Free C o env m (.agg (f (xs.getD j d)).toArray) := by
  have := fr_indexN (C := C) (m := m) ho hx hy hS hE hd hs (by omega)
  rwa [Int.toNat_natCast, flat_seg hf d xs j hj] at this
theorem fr_sliceArr_h {T x y E k} {N b q0 : Nat} {q : Int} (h : Nat) (hq : q = (h : Nat)) (ho : o.op = .slice T x none (some y) none) (hx : ev env x = some (.pointer (some ⟨b, q0, none⟩))) (hy : ev env y = some (.int k q)) (hT : C.P.underlying T = some (.array N E)) {sz : Nat} (hs : (C.P.info? E).map (·.size) = some sz) (hN : Nat.blt 0 N = true) (hb : h ≤ N) : Free C o env m (.slice (some ⟨b, q0, none⟩) h N) := by
  subst hq
  intro a w hr _
  have hN0 : 0 < N := by simpa using hN
  have hal : C.P.arrayLen T = N := by simp [Program.arrayLen, hT]
  have he : C.P.elem T = E := by simp [Program.elem, hT]
  have ht' : C.P.underlying T = some (.array (C.P.arrayLen T) (C.P.elem T)) := by rw [hal, he, hT]
  have h2 := run_sliceAt_array_h (P := C.P) w T ⟨b, q0, none⟩ ht' k (h : Int) (by omega) (by omega)
  rw [he, run_sizeOf hs w, Result.andThen_ok, hal] at h2
  have h3 : slicedAt ⟨b, q0, none⟩ 0 ((h : Int).toNat) N sz = .slice (some ⟨b, q0, none⟩) h N := by
    unfold slicedAt
    rw [Int.toNat_natCast, if_neg (by omega), Nat.zero_mul, add_at, Nat.add_zero, Nat.sub_zero, Nat.sub_zero]
  rw [h3] at h2
  simp only [execOp, ho, hr.ev hx, Option.map_none, Option.map_some, hr.ev hy, Sem.run_bind, h2, Result.andThen_ok, Sem.run_pure]
theorem fr_maxW {x y T T' k p q} (z : Int) (hz : max p q = z) (ho : o.op = .call { callee := .builtin .max, args := #[x, y], argTypes := #[T, T'] }) (hx : ev env x = some (.int k p)) (hy : ev env y = some (.int k q)) : Free C o env m (.int k z) := by
  subst hz; exact fr_max ho hx hy
theorem cellW {β : Type} {A : Option Addr} {f : β → List Value} {sz : Nat} {xs : List β} {i : Int} (j : Nat) {v : Value} {r : β} (H : Reads C m A (xs.flatMap f)) (hf : ∀ x, (f x).length = sz) (d : β) (k : Nat) (hk : Nat.blt k sz = true) (hi : i = (j : Int)) (hj : j < xs.length) (he : xs.getD j d = r) (hv : (f r)[k]? = some v) : CellO C m (offA A (i.toNat * sz + k)) v := by
  subst he; exact cellJ j H hf d k hk hi hj hv
theorem quo64 {d : Nat} (h : d < 1000000) : IntKind.i64.wrap ((d : Int).tdiv 64) = ((d / 64 : Nat) : Int) := by
  rw [Int.tdiv_eq_ediv_of_nonneg (by omega), IntKind.wrap_i64]; omega
end Go.Sx
namespace Go.Sx
open Go Go.RowKit
variable {C : Cx} {env : Env} {m : List Ent} {l : List Oper} {K : Env → List Ent → Prop} {S : List Ent} {fuel i j di dj : Nat} {done : List Nat} {oi oj o : Oper}
/-- Two that may come in either order, each way walked by itself. -/
theorem ExD.fork (hi : l[i]? = some oi) (hj : l[j]? = some oj) (h2 : readyOk l done [i, j] = true) (hgi : wantB l env oi = some true) (hgj : wantB l env oj = some true)
    (h : Op1 C oi env m fun env m => S.Sublist m ∧ ExD C l S fuel (i :: done) env m K) (h' : Op1 C oj env m fun env m => S.Sublist m ∧ ExD C l S fuel (j :: done) env m K) : ExD C l S (fuel + 1) done env m K := by
  refine ExD.ops h2 (by simp) fun k hk => ?_
  rcases List.mem_cons.1 hk with rfl | hk
  · exact ⟨oi, hi, hgi, h⟩
  · obtain rfl : k = j := by simpa using hk
    exact ⟨oj, hj, hgj, h'⟩
end Go.Sx

/- Slices of slices, copies. -/
set_option linter.unusedVariables false
set_option linter.unusedSimpArgs false
namespace Go.Sx
open Go Go.RowKit
variable {C : Cx} {env : Env} {m : List Ent} {o : Oper} {K : Env → List Ent → Prop}
/-- Where the rest of a slice begins. -/
def cutA (A : Option Addr) (c k sz : Nat) : Option Addr := if c = k then A else offA A (k * sz)
theorem fr_slice_h {T x y E A n c k} {q : Int} (h : Nat) (hq : q = (h : Nat)) (ho : o.op = .slice T x none (some y) none) (hx : ev env x = some (.slice A n c)) (hy : ev env y = some (.int k q)) (hT : C.P.underlying T = some (.slice E)) {sz : Nat} (hs : (C.P.info? E).map (·.size) = some sz) (hb : h ≤ c) : Free C o env m (.slice A h c) := by
  subst hq
  intro a w hr _
  have ht' : C.P.underlying T = some (.slice (C.P.elem T)) := by simp [Program.elem, hT]
  have he : C.P.elem T = E := by simp [Program.elem, hT]
  have h2 := run_slice_h (P := C.P) w T A n c ht' k (h : Int) (by omega) (by omega)
  rw [he, run_sizeOf hs w, Result.andThen_ok] at h2
  have h3 : sliced A 0 ((h : Int).toNat) c sz = .slice A h c := by
    unfold sliced
    rw [Int.toNat_natCast, Nat.zero_mul, Nat.sub_zero, Nat.sub_zero]
    have : A.map (·.add 0) = A := by cases A <;> rfl
    rw [this]; simp
  rw [h3] at h2
  simp only [execOp, ho, hr.ev hx, Option.map_none, Option.map_some, hr.ev hy, run_sliceAt_slice w T _ _ _ _ ht', Sem.run_bind, h2, Result.andThen_ok, Sem.run_pure]
theorem fr_slice_l {T x y E A n c k} {q : Int} (h : Nat) (hq : q = (h : Nat)) (ho : o.op = .slice T x (some y) none none) (hx : ev env x = some (.slice A n c)) (hy : ev env y = some (.int k q)) (hT : C.P.underlying T = some (.slice E)) {sz : Nat} (hs : (C.P.info? E).map (·.size) = some sz) (hb : h ≤ n) : Free C o env m (.slice (cutA A c h sz) (n - h) (c - h)) := by
  subst hq
  intro a w hr _
  have ht' : C.P.underlying T = some (.slice (C.P.elem T)) := by simp [Program.elem, hT]
  have he : C.P.elem T = E := by simp [Program.elem, hT]
  have h2 := run_slice_l (P := C.P) w T A n c ht' k (h : Int) (by omega) (by omega)
  rw [he, run_sizeOf hs w, Result.andThen_ok] at h2
  have h3 : sliced A ((h : Int).toNat) n c sz = .slice (cutA A c h sz) (n - h) (c - h) := by
    unfold sliced cutA offA
    rw [Int.toNat_natCast]
  rw [h3] at h2
  simp only [execOp, ho, hr.ev hx, Option.map_none, Option.map_some, hr.ev hy, run_sliceAt_slice w T _ _ _ _ ht', Sem.run_bind, h2, Result.andThen_ok, Sem.run_pure]
theorem Free.val {k : IntKind} {p : Int} (z : Int) (h : Free C o env m (.int k p)) (e : p = z) : Free C o env m (.int k z) := e ▸ h
theorem fr_slice_lb {T x y E n c k} {q : Int} {b q0 : Nat} (h : Nat) (hq : q = (h : Nat)) (ho : o.op = .slice T x (some y) none none) (hx : ev env x = some (.slice (some ⟨b, q0, none⟩) n c)) (hy : ev env y = some (.int k q)) (hT : C.P.underlying T = some (.slice E)) {sz : Nat} (hs : (C.P.info? E).map (·.size) = some sz) (hb : h ≤ n) (hc : h < c) : Free C o env m (.slice (some ⟨b, q0 + h * sz, none⟩) (n - h) (c - h)) := by
  have := fr_slice_l (C := C) (m := m) h hq ho hx hy hT hs hb
  unfold cutA offA at this
  rw [if_neg (by omega)] at this
  simpa [add_at] using this
theorem op_copyRow {d i b n c E k x y dT sT dLen dCap sLen sCap xs ys} {A : Option Addr} (ho : o.op = .call { callee := .builtin .copy, args := #[x, y], argTypes := #[dT, sT] })
    (hx : ev env x = some (.slice (some ⟨b, k, none⟩) dLen dCap)) (hy : ev env y = some (.slice A sLen sCap)) (hT : C.P.underlying dT = some (.slice E)) (hs : (C.P.info? E).map (·.size) = some 1)
    (hi : m[i]? = some (.row (.slice (some ⟨b, 0, none⟩) n c) E 1 n xs)) (hd : o.dst = some d) (hlt : Nat.blt d C.n = true) (new : List Value) (hn : new.length = min sLen dLen) (hp : 0 < new.length) (hsrc : SegO C m A new) (hk : k + new.length ≤ xs.length) (hone : new.all (·.oneCell') = true) (he : put xs k new = ys)
    (h : K ((d, .int .i64 (new.length : Int)) :: env) (m.set i (.row (.slice (some ⟨b, 0, none⟩) n c) E 1 n ys))) : Op1 C o env m K := by
  subst he
  refine Op1.of_run hd hlt fun a w hr hh => ?_
  have hr0 := hh.all _ (List.mem_of_getElem? hi)
  obtain ⟨ad, rfl, hsc⟩ := hsrc w hh
  rcases hr0.2 with ⟨_, hn0⟩ | ⟨g, cap, cur, hv, hb, hg, hnc, hcm, hcs, ht⟩
  · have := hr0.1; rw [hn0] at this; omega
  · simp only [Value.slice.injEq, Option.some.injEq, Addr.mk.injEq, true_and, and_true] at hv
    obtain ⟨rfl, rfl⟩ := hv
    have hxl : xs.length = n * 1 := hr0.1
    have h1 := run_copy_row (P := C.P) w dT sT o.type E b k dLen dCap ad sLen sCap cur E new hT hs hg hn hsc (by omega) (by simpa using hone)
    refine ⟨_, w.setRow b (cur.toList.take k ++ new ++ cur.toList.drop (k + new.length)).toArray, _, ?_, turn_row hh hi rfl hg rfl ?_, h⟩
    · simp only [execOp, ho, resolve, invoke, builtin, hr.ev hx, hr.ev hy, Sem.run_bind, List.map_toArray, List.map_cons, List.map_nil, h1, Result.andThen_ok, Sem.run_pure]; rfl
    · have hlen : (put xs k new).length = n * 1 := by simp only [put, List.length_append, List.length_take, List.length_drop]; omega
      refine ⟨hlen, .inr ⟨b, c, _, rfl, hb, setRow_heap w b cur _ E _ hg, hnc, hcm, ?_, ?_⟩⟩
      · simp only [List.size_toArray, List.length_append, List.length_take, List.length_drop, Array.length_toList]; omega
      · subst ht
        exact take_put (by omega) (by simp; omega)
theorem seg_row {i b n c : Nat} {E sz : Nat} {xs seg : List Value} (hi : m[i]? = some (.row (.slice (some ⟨b, 0, none⟩) n c) E sz n xs)) (hne : seg ≠ []) (hs : xs.take seg.length = seg) : SegO C m (some ⟨b, 0, none⟩) seg := by
  have := SegO.of (k := 0) (Reads.row (C := C) hi) hne fun j u hj => by
    rw [Nat.zero_add]
    rw [← hs, List.getElem?_take] at hj
    split at hj
    · exact hj
    · cases hj
  exact this
end Go.Sx

/- Arrays of arrays compared with themselves. -/
set_option linter.unusedVariables false
set_option linter.unusedSimpArgs false
namespace Go.Sx
open Go Go.RowKit
variable {C : Cx} {env env' : Env} {m m' : List Ent} {o : Oper}
theorem EqOk.rowsSelf {α : Type} {f : α → List Value} {sz : Nat} (hf : ∀ x, (f x).length = sz) (z : α) {P : Program} {d : Nat} {t e : TypeId} {n : Nat} {i : TypeInfo} {dd : TypeDesc} (hu : P.underlying t = some (.array n e)) (hi : P.info? e = some i) (hs : i.size = sz) (hT : P.underlying e = some dd) (hd : aggD dd = true) (xs : List α) (hx : xs.length = n)
    (he : ∀ x, EqOk P d e (.agg (f x).toArray) (.agg (f x).toArray) true) : EqOk P (d + 1) t (.agg (xs.flatMap f).toArray) (.agg (xs.flatMap f).toArray) true := fun w => by
  rw [run_equalIn_array w d _ _ hu hi, show P.cellsOf e = sz by simp [Program.cellsOf, hi, hs]]
  have key : ∀ is : List Nat, (∀ j, j ∈ is → j < xs.length) → (Op.eqItems d e sz (xs.flatMap f).toArray (xs.flatMap f).toArray is).run P w = .ok true w := by
    intro is
    induction is with
    | nil => intro _; simp [Op.eqItems]
    | cons j is ih =>
      intro h
      have hp := run_partN (P := P) (T := e) (n := sz) hT hd (by rw [hi]; simp [hs]) (cs := xs.flatMap f) (k := j * sz) w
      rw [flat_seg hf z xs j (h j (by simp))] at hp
      simp only [Op.eqItems, Sem.run_bind, hp, Result.andThen_ok, he (xs.getD j z) w]
      simp only [Bool.not_true, Bool.false_eq_true, if_false]
      exact ih fun q hq => h q (by simp [hq])
  exact key _ fun j hj => by rw [hx]; simpa using hj
theorem row_blk {i n c sz : Nat} {A : Option Addr} {E xs} (hi : m[i]? = some (.row (.slice A n c) E sz n xs)) (hn : 0 < n) : ∀ w, Holds C.base C.w0 m w → ∃ g, A = some ⟨g, 0, none⟩ := fun w hw => by
  have h := hw.all _ (List.mem_of_getElem? hi)
  rcases h.2 with ⟨_, h0⟩ | ⟨g, cap, cur, hv, _⟩
  · omega
  · simp only [Value.slice.injEq] at hv
    exact ⟨g, hv.1⟩
theorem fr_neq_bool_same {T x y T' p} (ho : o.op = .binOp .neq T x y T') (hx : ev env x = some (.bool p)) (hy : ev env y = some (.bool p)) (hT : C.P.underlying T = some .bool) : Free C o env m (.bool false) := by
  have := fr_neq_bool (m := m) ho hx hy hT
  rwa [show (p != p) = false by simp] at this
end Go.Sx

/- Values, digits of a value, what a device does: in plain numbers. -/
set_option linter.unusedVariables false
set_option linter.unusedSimpArgs false
namespace Go.W
open Go Go.Sx
def prod : List Int → Int
  | [] => 1
  | b :: s => b * prod s
def val : List Int → List Int → Int
  | [], _ => 0
  | b :: s, l => l.headD 0 + b * val s l.tail
theorem prod_append (s t : List Int) : prod (s ++ t) = prod s * prod t := by
  induction s with
  | nil => simp [prod]
  | cons b s ih => simp only [List.cons_append, prod, ih, Int.mul_assoc]
theorem prod_take {s : List Int} {k : Nat} (h : k < s.length) : prod (s.take (k + 1)) = prod (s.take k) * s.getD k 0 := by
  rw [List.take_succ_eq_append_getElem h, prod_append]
  simp [prod, List.getD, h]
theorem drop_cons {s : List Int} {k : Nat} (h : k < s.length) : s.drop k = s.getD k 0 :: s.drop (k + 1) := by
  rw [List.drop_eq_getElem_cons h]; simp [List.getD, h]
theorem prod_drop {s : List Int} {k : Nat} (h : k < s.length) : prod (s.drop k) = s.getD k 0 * prod (s.drop (k + 1)) := by rw [drop_cons h]; rfl
theorem prod_split (s : List Int) (k : Nat) : prod s = prod (s.take k) * prod (s.drop k) := by rw [← prod_append, List.take_append_drop]
theorem val_drop {s l : List Int} {k : Nat} (h : k < s.length) (hl : k < l.length) : val (s.drop k) (l.drop k) = l.getD k 0 + s.getD k 0 * val (s.drop (k + 1)) (l.drop (k + 1)) := by
  rw [drop_cons h, drop_cons hl]; rfl
theorem val_end {s l : List Int} {k : Nat} (h : s.length ≤ k) : val (s.drop k) (l.drop k) = 0 := by rw [List.drop_of_length_le h]; rfl
/-- The bases of a stack that is valid. -/
def Bases (s : List Int) : Prop := ∀ i, i < s.length → 2 ≤ s.getD i 0 ∧ s.getD i 0 ≤ 100
theorem Bases.tail {b : Int} {s : List Int} (h : Bases (b :: s)) : Bases s := fun i hi => by have := h (i + 1) (by simp; omega); simpa using this
theorem Bases.head {b : Int} {s : List Int} (h : Bases (b :: s)) : 2 ≤ b ∧ b ≤ 100 := by have := h 0 (by simp); simpa using this
theorem Bases.drop {s : List Int} (h : Bases s) (k : Nat) : Bases (s.drop k) := fun i hi => by
  have hi' : k + i < s.length := by simp at hi; omega
  have := h (k + i) hi'
  simpa [List.getD, List.getElem?_drop] using this
theorem Bases.take {s : List Int} (h : Bases s) (k : Nat) : Bases (s.take k) := fun i hi => by
  have hi' : i < s.length := by simp at hi; omega
  have h2 : i < k := by simp at hi; omega
  have := h i hi'
  simpa [List.getD, List.getElem?_take, h2] using this
theorem prod_pos : ∀ {s : List Int}, Bases s → 1 ≤ prod s
  | [], _ => by simp [prod]
  | b :: s, h => by
    have h1 := h.head
    have h2 := prod_pos h.tail
    have h3 : 2 * 1 ≤ b * prod s := Int.mul_le_mul h1.1 h2 (by omega) (by omega)
    simp only [prod]; omega
theorem prod_drop_le {s : List Int} (h : Bases s) (k : Nat) : prod (s.drop k) ≤ prod s := by
  have h1 := prod_pos (h.take k)
  have h2 := prod_pos (h.drop k)
  rw [prod_split s k]
  have h3 : 1 * prod (s.drop k) ≤ prod (s.take k) * prod (s.drop k) := Int.mul_le_mul_of_nonneg_right h1 (by omega)
  omega
theorem prod_take_le {s : List Int} (h : Bases s) (k : Nat) : prod (s.take k) ≤ prod s := by
  have h1 := prod_pos (h.take k)
  have h2 := prod_pos (h.drop k)
  rw [prod_split s k]
  have h3 : prod (s.take k) * 1 ≤ prod (s.take k) * prod (s.drop k) := Int.mul_le_mul_of_nonneg_left h2 (by omega)
  omega
theorem size_prod {s : List Int} (h : Bases s) : size s = min (prod s) 1000000000001 := by
  have key : ∀ k, k ≤ s.length → size (s.take k) = min (prod (s.take k)) 1000000000001 := by
    intro k
    induction k with
    | zero => intro _; simp [size, prod]; rfl
    | succ k ih =>
      intro hk
      rw [size_snoc s k (by omega), prod_take (by omega), ih (by omega)]
      have hb := h k (by omega)
      have hp := prod_pos (h.take k)
      rcases Int.le_total (prod (s.take k)) 1000000000001 with h1 | h1
      · rw [Int.min_eq_left h1]
      · rw [Int.min_eq_right h1]
        have h3 : 1000000000001 * 1 ≤ 1000000000001 * s.getD k 0 := Int.mul_le_mul_of_nonneg_left (by omega) (by omega)
        have h4 : prod (s.take k) * 1 ≤ prod (s.take k) * s.getD k 0 := Int.mul_le_mul_of_nonneg_left (by omega) (by omega)
        omega
  have := key s.length (Nat.le_refl _)
  rwa [List.take_length] at this
structure Stk (s : List Int) : Prop where
  len1 : 1 ≤ s.length
  len8 : s.length ≤ 8
  bases : Bases s
  size_ : size s = prod s
  pos : 1 ≤ prod s
  le : prod s ≤ 1000000000000
theorem stk {s : List Int} (h : validStack s = true) : Stk s := by
  unfold validStack at h
  rw [decide_eq_true_iff] at h
  obtain ⟨h1, h2, h3, h4⟩ := h
  have hb : Bases s := h3
  have hp := size_prod hb
  have : size s = prod s := by omega
  exact ⟨h1, h2, hb, this, prod_pos hb, by omega⟩
theorem size_two {s : List Int} (h : Stk s) : 2 ≤ prod s := by
  have h0 := h.len1
  have h1 := prod_drop (s := s) (k := 0) (by omega)
  rw [List.drop_zero] at h1
  have hb := h.bases 0 (by omega)
  have hp := prod_pos (h.bases.drop 1)
  have h3 : 2 * 1 ≤ s.getD 0 0 * prod (s.drop 1) := Int.mul_le_mul hb.1 hp (by omega) (by omega)
  rw [h1]; simpa using h3
/-- Digits that are valid for a stack. -/
def DigOk (s l : List Int) : Prop := ∀ i, i < s.length → 0 ≤ l.getD i 0 ∧ l.getD i 0 < s.getD i 0
theorem digOk {s l : List Int} (hs : s.length ≤ 8) (hl : Nums 255 l) (h : validDig s l = true) : DigOk s l := fun i hi => by
  unfold validDig at h
  rw [List.all_eq_true] at h
  have := h i (by simp; omega)
  unfold goodAt at this
  rw [if_pos hi, decide_eq_true_iff] at this
  exact ⟨(hl.at_ (by omega) i).1, this⟩
theorem val_bd {s l : List Int} (hb : Bases s) (hl : DigOk s l) (hs : s.length ≤ l.length) : ∀ j k, k + j = s.length → 0 ≤ val (s.drop k) (l.drop k) ∧ val (s.drop k) (l.drop k) < prod (s.drop k)
  | 0, k, h => by rw [val_end (by omega), List.drop_of_length_le (by omega)]; simp [prod]
  | j + 1, k, h => by
    have ih := val_bd hb hl hs j (k + 1) (by omega)
    have h1 := hb k (by omega)
    have h2 := hl k (by omega)
    rw [val_drop (by omega) (by omega), prod_drop (by omega)]
    have h3 : 0 ≤ s.getD k 0 * val (s.drop (k + 1)) (l.drop (k + 1)) := Int.mul_nonneg (by omega) ih.1
    have h4 : s.getD k 0 * (val (s.drop (k + 1)) (l.drop (k + 1)) + 1) ≤ s.getD k 0 * prod (s.drop (k + 1)) := Int.mul_le_mul_of_nonneg_left (by omega) (by omega)
    rw [Int.mul_add] at h4
    omega
theorem val_le {s l : List Int} (hs : Stk s) (hl : DigOk s l) (hn : s.length ≤ l.length) (k : Nat) : 0 ≤ val (s.drop k) (l.drop k) ∧ val (s.drop k) (l.drop k) < 1000000000000 := by
  rcases Nat.lt_or_ge s.length k with h | h
  · rw [val_end (by omega)]; omega
  · have h1 := val_bd hs.bases hl hn (s.length - k) k (by omega)
    have h2 := prod_drop_le hs.bases k
    have := hs.le
    omega
theorem val_lt {s l : List Int} (hs : Stk s) (hl : DigOk s l) (hn : s.length ≤ l.length) : 0 ≤ val s l ∧ val s l < prod s := by
  have h1 := val_bd hs.bases hl hn s.length 0 (by omega)
  simpa using h1
/-- One step down from the last wheel. -/
theorem val_step {s l : List Int} (hs : Stk s) (hl : DigOk s l) (hn : s.length ≤ l.length) {k : Nat} (h : k < s.length) :
    val (s.drop k) (l.drop k) = val (s.drop (k + 1)) (l.drop (k + 1)) * s.getD k 0 + l.getD k 0 ∧ 0 ≤ val (s.drop (k + 1)) (l.drop (k + 1)) * s.getD k 0 ∧ val (s.drop (k + 1)) (l.drop (k + 1)) * s.getD k 0 ≤ 1000000000000 ∧ 0 ≤ l.getD k 0 ∧ l.getD k 0 ≤ 100 := by
  have h1 := val_drop (s := s) (l := l) h (by omega)
  have h2 := val_le hs hl hn k
  have h3 := val_le hs hl hn (k + 1)
  have h4 := hl k h
  have h5 := hs.bases k h
  have h6 : 0 ≤ s.getD k 0 * val (s.drop (k + 1)) (l.drop (k + 1)) := Int.mul_nonneg (by omega) h3.1
  rw [Int.mul_comm (val _ _) (s.getD k 0)]
  omega
/-! Digits of a value -/
def dAt (s : List Int) (v : Int) (k : Nat) : Int := v / prod (s.take k) % s.getD k 0
def digs (s : List Int) (v : Int) : List Int := (List.range 8).map fun k => if k < s.length then dAt s v k else 0
theorem digs_len (s : List Int) (v : Int) : (digs s v).length = 8 := by simp [digs]
theorem digs_at {s : List Int} {v : Int} {k : Nat} (hk : k < 8) : (digs s v).getD k 0 = if k < s.length then dAt s v k else 0 := by
  simp [digs, List.getD, hk]
theorem digs_lo {s : List Int} {v : Int} {k : Nat} (h8 : s.length ≤ 8) (hk : k < s.length) : (digs s v).getD k 0 = dAt s v k := by rw [digs_at (by omega), if_pos hk]
theorem dAt_bd {s : List Int} {v : Int} {k : Nat} (hb : Bases s) (hk : k < s.length) : 0 ≤ dAt s v k ∧ dAt s v k < s.getD k 0 := by
  have := hb k hk
  exact ⟨Int.emod_nonneg _ (by omega), Int.emod_lt_of_pos _ (by omega)⟩
theorem div_prod {s : List Int} {v : Int} {k : Nat} (hb : Bases s) (hk : k < s.length) : v / prod (s.take k) / s.getD k 0 = v / prod (s.take (k + 1)) := by
  have := prod_pos (hb.take k)
  rw [prod_take hk, Int.ediv_ediv_of_nonneg (by omega)]
theorem digs_ok {s : List Int} {v : Int} (hs : Stk s) : DigOk s (digs s v) := fun i hi => by
  rw [digs_lo hs.len8 hi]; exact dAt_bd hs.bases hi
theorem digs_num {s : List Int} {v : Int} (hb : Bases s) : Nums 255 (digs s v) := fun x hx => by
  simp only [digs, List.mem_map, List.mem_range] at hx
  obtain ⟨k, _, rfl⟩ := hx
  split
  · have h1 := dAt_bd (v := v) hb ‹_›; have h2 := hb k ‹_›; omega
  · omega
theorem digs_valid {s : List Int} {v : Int} (hs : Stk s) : validDig s (digs s v) = true := by
  unfold validDig
  rw [List.all_eq_true]
  intro i hi
  have hi : i < 8 := by simpa using hi
  unfold goodAt
  split
  · rw [decide_eq_true_iff]; exact (digs_ok hs i ‹_›).2
  · rw [decide_eq_true_iff, digs_at hi, if_neg ‹_›]
theorem emod_mul {x b p : Int} (hb : 0 < b) (hp : 0 < p) : x % (b * p) = x % b + b * (x / b % p) := by
  have h1 := Int.emod_add_mul_ediv x b
  have h2 := Int.emod_add_mul_ediv (x / b) p
  have h3 := Int.emod_nonneg x (show b ≠ 0 by omega)
  have h4 := Int.emod_lt_of_pos x hb
  have h5 := Int.emod_nonneg (x / b) (show p ≠ 0 by omega)
  have h6 := Int.emod_lt_of_pos (x / b) hp
  have h7 : b * (x / b % p + 1) ≤ b * p := Int.mul_le_mul_of_nonneg_left (by omega) (by omega)
  have h8 : 0 ≤ b * (x / b % p) := Int.mul_nonneg (by omega) h5
  rw [Int.mul_add] at h7
  have e : x = (x % b + b * (x / b % p)) + (b * p) * (x / b / p) := by
    rw [Int.mul_assoc, Int.add_assoc, ← Int.mul_add, h2, h1]
  have e2 := Int.add_mul_emod_self_left (x % b + b * (x / b % p)) (b * p) (x / b / p)
  rw [← e] at e2
  rw [e2, Int.emod_eq_of_lt (by omega) (by omega)]
theorem val_digs {s : List Int} {v : Int} (hs : Stk s) : ∀ j k, k + j = s.length → val (s.drop k) ((digs s v).drop k) = v / prod (s.take k) % prod (s.drop k)
  | 0, k, h => by rw [val_end (by omega), List.drop_of_length_le (by omega)]; simp [prod, Int.emod_one]
  | j + 1, k, h => by
    have ih := val_digs (v := v) hs j (k + 1) (by omega)
    have h8 := hs.len8
    have hb := hs.bases k (by omega)
    have hp := prod_pos (hs.bases.drop (k + 1))
    rw [val_drop (by omega) (by rw [digs_len]; omega), ih, digs_lo h8 (by omega), prod_drop (s := s) (k := k) (by omega), ← div_prod (k := k) hs.bases (by omega), emod_mul (x := v / prod (s.take k)) (b := s.getD k 0) (p := prod (s.drop (k + 1))) (by omega) (by omega)]
    rfl
theorem val_of {s : List Int} {v : Int} (hs : Stk s) : val s (digs s v) = v % prod s := by
  have := val_digs (v := v) hs s.length 0 (by omega)
  simpa [prod] using this
theorem val_of' {s : List Int} {v : Int} (hs : Stk s) (h0 : 0 ≤ v) (h1 : v < prod s) : val s (digs s v) = v := by rw [val_of hs, Int.emod_eq_of_lt h0 h1]
theorem digs_part {s : List Int} {v : Int} (h8 : s.length ≤ 8) : Sx.part 0 (digs s v) s.length = digs s v := by
  unfold Sx.part
  rw [digs_len]
  refine List.ext_getElem? fun i => ?_
  rcases Nat.lt_or_ge i 8 with hi | hi
  · have e : (digs s v)[i]? = some ((digs s v).getD i 0) := by simp [List.getD, digs_len, hi]
    rw [e, digs_at hi]
    rcases Nat.lt_or_ge i s.length with h | h
    · rw [if_pos h, List.getElem?_append_left (by simp [digs_len]; omega), List.getElem?_take, if_pos h, e, digs_at hi, if_pos h]
    · rw [if_neg (by omega), List.getElem?_append_right (by simp [digs_len]; omega), List.getElem?_replicate, if_pos (by simp [digs_len]; omega)]
  · rw [List.getElem?_eq_none (by simp [digs_len]; omega), List.getElem?_eq_none (by rw [digs_len]; omega)]
def addD (s : List Int) (a : Dig) (n : Int) : Dig := dig (digs s ((val s a.l + n) % size s))
/-! Rounded down -/
theorem floor_dn {a b : Int} (hb : 0 < b) (h : a.tmod b < 0) : a.tdiv b - 1 = a / b := by
  have h1 := Int.tmod_add_mul_tdiv a b
  have h2 := Int.emod_add_mul_ediv a b
  have h3 := Int.emod_nonneg a (show b ≠ 0 by omega)
  have h4 := Int.emod_lt_of_pos a hb
  have h5 : -b < a.tmod b := by
    rcases Int.le_total 0 a with ha | ha
    · have := Int.tmod_nonneg b ha; omega
    · have := Int.tmod_lt_of_pos (-a) hb
      rw [Int.neg_tmod] at this; omega
  have h6 : b * (a.tdiv b - 1 - a / b) = a % b - a.tmod b - b := by rw [Int.mul_sub, Int.mul_sub, Int.mul_one]; omega
  have h7 : b * (a.tdiv b - 1 - a / b) < b * 1 := by omega
  have h8 : b * (-1) < b * (a.tdiv b - 1 - a / b) := by omega
  have h9 := Int.lt_of_mul_lt_mul_left h7 (by omega)
  have h10 := Int.lt_of_mul_lt_mul_left h8 (by omega)
  omega
theorem floor_up {a b : Int} (hb : 0 < b) (h : 0 ≤ a.tmod b) : a.tdiv b = a / b := by
  have h1 := Int.tmod_add_mul_tdiv a b
  have h2 := Int.emod_add_mul_ediv a b
  have h3 := Int.emod_nonneg a (show b ≠ 0 by omega)
  have h4 := Int.emod_lt_of_pos a hb
  have h5 : a.tmod b < b := Int.tmod_lt_of_pos a hb
  have h6 : b * (a.tdiv b - a / b) = a % b - a.tmod b := by rw [Int.mul_sub]; omega
  have h7 : b * (a.tdiv b - a / b) < b * 1 := by omega
  have h8 : b * (-1) < b * (a.tdiv b - a / b) := by omega
  have h9 := Int.lt_of_mul_lt_mul_left h7 (by omega)
  have h10 := Int.lt_of_mul_lt_mul_left h8 (by omega)
  omega
theorem tmod_sign {a b : Int} (hb : 0 < b) : (a < 0 → a.tmod b ≤ 0) ∧ (0 ≤ a → 0 ≤ a.tmod b) := by
  refine ⟨fun h => ?_, fun h => Int.tmod_nonneg b h⟩
  have := Int.tmod_nonneg (a := -a) b (by omega)
  rw [Int.neg_tmod] at this; omega
theorem tdiv_bd {a b : Int} (hb : 0 < b) : (0 ≤ a → 0 ≤ a.tdiv b ∧ a.tdiv b ≤ a) ∧ (a ≤ 0 → a ≤ a.tdiv b ∧ a.tdiv b ≤ 0) := by
  refine ⟨fun h => ?_, fun h => ?_⟩
  · rw [Int.tdiv_eq_ediv_of_nonneg h]; exact ⟨Int.ediv_nonneg h (by omega), Int.ediv_le_self b h⟩
  · have h1 : (-a).tdiv b = (-a) / b := Int.tdiv_eq_ediv_of_nonneg (by omega)
    rw [Int.neg_tdiv] at h1
    have h2 := Int.ediv_nonneg (a := -a) (b := b) (by omega) (by omega)
    have h3 := Int.ediv_le_self b (a := -a) (by omega)
    omega
end Go.W

/- What a device does, in plain numbers. -/
set_option linter.unusedVariables false
set_option linter.unusedSimpArgs false
namespace Go.W
open Go Go.Sx
def VDev.v (d : VDev) : Int := val d.stack d.shows.l
def validDev (d : VDev) : Bool := decide (validStack d.stack = true ∧ validDig d.stack d.shows.l = true ∧ (0 ≤ d.tickets ∧ d.tickets ≤ 1000000) ∧ (d.preset = -1 ∨ 0 ≤ d.preset ∧ d.preset ≤ size d.stack - 1) ∧ (d.stopped = true → d.preset = d.v))
structure DevOk (d : VDev) : Prop where
  stk : Stk d.stack
  dig : DigOk d.stack d.shows.l
  vd : validDig d.stack d.shows.l = true
  tick : 0 ≤ d.tickets ∧ d.tickets ≤ 1000000
  preset : d.preset = -1 ∨ 0 ≤ d.preset ∧ d.preset ≤ prod d.stack - 1
  stop : d.stopped = true → d.preset = d.v
theorem devOk {d : VDev} (hn : Nums 255 d.shows.l) (h : validDev d = true) : DevOk d := by
  unfold validDev at h
  rw [decide_eq_true_iff] at h
  obtain ⟨h1, h2, h3, h4, h5⟩ := h
  have hs := Go.W.stk h1
  exact ⟨hs, digOk hs.len8 hn h2, h2, h3, by rw [hs.size_] at h4; exact h4, h5⟩
theorem DevOk.v_lt {d : VDev} (h : DevOk d) : 0 ≤ d.v ∧ d.v < prod d.stack := val_lt h.stk h.dig (by rw [dig_len]; exact h.stk.len8)
/-- How many pulses there are until n is gone through, size at most. -/
def until1 (n size : Int) : Int := if n % size = 0 then size else n % size
theorem until_pos {n z : Int} (hz : 0 < z) : 1 ≤ until1 n z ∧ until1 n z ≤ z := by
  unfold until1
  have h1 := Int.emod_nonneg n (show z ≠ 0 by omega)
  have h2 := Int.emod_lt_of_pos n hz
  split <;> omega
theorem until_big {n z : Int} (hz : 0 < z) (h0 : 0 < n) (h1 : n < z) : until1 n z = n := by
  unfold until1; rw [Int.emod_eq_of_lt (by omega) h1, if_neg (by omega)]
theorem until_small {n z : Int} (hz : 0 < z) (h0 : n ≤ 0) (h1 : -z < n) : until1 n z = n + z := by
  unfold until1
  have e : n % z = if n = 0 then 0 else n + z := by
    split
    · subst n; simp
    · have := Int.add_emod_right n z
      rw [← this, Int.emod_eq_of_lt (by omega) (by omega)]
  rw [e]; split <;> split <;> omega
end Go.W
namespace Go.W
open Go Go.Sx
def zDig : Dig := ⟨0, 0, 0, 0, 0, 0, 0, 0⟩
def zT : VTic := ⟨0, zDig, 0⟩
def zN : VNote := ⟨zA, zDig, 0⟩
def zDev : VDev := ⟨[], zDig, 0, false, 0⟩
/-- Two lists, compared one by one. -/
def allEq {α : Type} (e : α → α → Bool) (d : α) (s t : List α) : Bool := decide (s.length = t.length ∧ ∀ i, i < s.length → e (s.getD i d) (t.getD i d) = true)
theorem allEq_refl {α : Type} {e : α → α → Bool} (he : ∀ x, e x x = true) (d : α) (s : List α) : allEq e d s s = true := by simp [allEq, he]
theorem ae_len {α : Type} {e : α → α → Bool} {d : α} {s t : List α} (h : ¬ s.length = t.length) : false = allEq e d s t := by symm; unfold allEq; rw [decide_eq_false_iff_not]; exact fun h' => h h'.1
theorem ae_no {α : Type} {e : α → α → Bool} {d : α} {s t : List α} (k : Nat) (hk : k < s.length) (h : e (s.getD k d) (t.getD k d) = false) : false = allEq e d s t := by
  symm; unfold allEq; rw [decide_eq_false_iff_not]; intro h'; rw [h'.2 k hk] at h; cases h
theorem ae_yes {α : Type} {e : α → α → Bool} {d : α} {s t : List α} {k : Nat} (hl : s.length = t.length) (hk : ¬ k < s.length) (h : ∀ i, i < k → e (s.getD i d) (t.getD i d) = true) : true = allEq e d s t := by
  symm; unfold allEq; rw [decide_eq_true_iff]; exact ⟨hl, fun i hi => h i (by omega)⟩
def sameT (a b : VTic) : Bool := decide (a.number = b.number ∧ a.shows.l = b.shows.l ∧ a.check = b.check)
def sameA (a b : VAct) : Bool := decide (a.kind = b.kind ∧ a.n = b.n)
def sameN (a b : VNote) : Bool := decide (sameA a.act b.act = true ∧ a.shows.l = b.shows.l ∧ a.lost = b.lost)
theorem sameT_refl (a : VTic) : sameT a a = true := by simp [sameT]
theorem sameA_refl (a : VAct) : sameA a a = true := by simp [sameA]
theorem sameN_refl (a : VNote) : sameN a a = true := by simp [sameN, sameA]
theorem sameTs_refl (s : List VTic) : allEq sameT zT s s = true := allEq_refl sameT_refl _ _
theorem sameAs_refl (s : List VAct) : allEq sameA zA s s = true := allEq_refl sameA_refl _ _
theorem sameNs_refl (s : List VNote) : allEq sameN zN s s = true := allEq_refl sameN_refl _ _
/-- Each of a list is well. -/
theorem all_at {α : Type} {p : α → Prop} {s : List α} (h : ∀ x ∈ s, p x) {k : Nat} (d : α) (hk : k < s.length) : p (s.getD k d) := h _ (getD_mem d hk)
def genT (s : List Int) (t : VTic) : Bool := decide ((1 ≤ t.number ∧ t.number ≤ 1000000) ∧ validDig s t.shows.l = true ∧ t.check = check t.number t.shows.l)
def tfault (s : List Int) (n : Nat) : Int := if validStack s = false then 1 else if 60 < (n : Int) then 3 else 0
theorem tf_bad {s : List Int} {n : Nat} (h : validStack s = false) : 1 = tfault s n := by unfold tfault; rw [if_pos h]
theorem tf_long {s : List Int} {n : Nat} (h : validStack s = true) (h2 : 60 < (n : Int)) : 3 = tfault s n := by unfold tfault; rw [if_neg (by simp [h]), if_pos h2]
theorem tf_ok {s : List Int} {n : Nat} (h : validStack s = true) (h2 : ¬ 60 < (n : Int)) : 0 = tfault s n := by unfold tfault; rw [if_neg (by simp [h]), if_neg h2]
theorem tf_zero {s : List Int} {n : Nat} (h : ¬ tfault s n ≠ 0) : validStack s = true ∧ n ≤ 60 := by
  unfold tfault at h
  split at h
  · exact absurd (by decide) h
  · split at h
    · exact absurd (by decide) h
    · exact ⟨by simp_all, by omega⟩
/-- The first of a list that does not go on as it should. -/
def badT (s : List Int) (l : List VTic) (i : Nat) : Bool := decide (genT s (l.getD i zT) = false ∨ 0 < i ∧ (l.getD i zT).number ≤ (l.getD (i - 1) zT).number)
def firstB (p : Nat → Bool) (n : Nat) : Option Nat := (List.range n).find? p
theorem firstB_hit {p : Nat → Bool} {n k : Nat} (hk : k < n) (h : ∀ i, i < k → p i = false) (hp : p k = true) : firstB p n = some k := by
  unfold firstB
  rw [List.find?_range_eq_some]
  exact ⟨hp, by simpa using hk, fun j hj => by simp [h j hj]⟩
theorem firstB_none {p : Nat → Bool} {n k : Nat} (hk : ¬ k < n) (h : ∀ i, i < k → p i = false) : firstB p n = none := by
  unfold firstB
  rw [List.find?_range_eq_none]
  intro i hi
  simp [h i (by omega)]
def at2 (o : Option Nat) : Int × Int := match o with
  | some k => (k, 0)
  | none => (0, 6)
def firstForged (s : List Int) (l : List VTic) : Int × Int := if tfault s l.length ≠ 0 then (0, tfault s l.length) else at2 (firstB (badT s l) l.length)
theorem badT_f {s : List Int} {l : List VTic} {k : Nat} (h1 : genT s (l.getD k zT) = true) (h2 : ¬ (0 < k ∧ (l.getD k zT).number ≤ (l.getD (k - 1) zT).number)) : badT s l k = false := by
  unfold badT; rw [decide_eq_false_iff_not]; rintro (h | h)
  · rw [h1] at h; cases h
  · exact h2 h
theorem badT_1 {s : List Int} {l : List VTic} {k : Nat} (h1 : genT s (l.getD k zT) = false) : badT s l k = true := by unfold badT; rw [decide_eq_true_iff]; exact .inl h1
theorem badT_2 {s : List Int} {l : List VTic} {k : Nat} (h0 : 0 < k) (h : (l.getD k zT).number ≤ (l.getD (k - 1) zT).number) : badT s l k = true := by unfold badT; rw [decide_eq_true_iff]; exact .inr ⟨h0, h⟩
end Go.W
namespace Go.W
open Go Go.Sx
def untilV (d : VDev) (st : Int) : Int := until1 (st * (d.preset - d.v)) (prod d.stack)
def pulseV (d : VDev) (n st : Int) : VDev × Int := if d.stopped = true then (d, n) else if d.preset ≠ -1 ∧ untilV d st ≤ n then (⟨d.stack, addD d.stack d.shows (st * untilV d st), d.preset, true, d.tickets⟩, n - untilV d st) else (⟨d.stack, addD d.stack d.shows (st * n), d.preset, d.stopped, d.tickets⟩, 0)
theorem pv_stop {d : VDev} {n st : Int} (h : d.stopped = true) : pulseV d n st = (d, n) := by unfold pulseV; rw [if_pos h]
theorem pv_hit {d : VDev} {n st : Int} (h : d.stopped = false) (h1 : d.preset ≠ -1 ∧ untilV d st ≤ n) : pulseV d n st = (⟨d.stack, addD d.stack d.shows (st * untilV d st), d.preset, true, d.tickets⟩, n - untilV d st) := by unfold pulseV; rw [if_neg (by simp [h]), if_pos h1]
theorem pv_on {d : VDev} {n st : Int} (h : d.stopped = false) (h1 : ¬ (d.preset ≠ -1 ∧ untilV d st ≤ n)) : pulseV d n st = (⟨d.stack, addD d.stack d.shows (st * n), d.preset, d.stopped, d.tickets⟩, 0) := by unfold pulseV; rw [if_neg (by simp [h]), if_neg h1]
def doV (d : VDev) (a : VAct) : VDev × Int × Int :=
  if a.kind = 1 then ((pulseV d a.n 1).1, (pulseV d a.n 1).2, 0) else if a.kind = 2 then ((pulseV d a.n (-1)).1, (pulseV d a.n (-1)).2, 0)
  else if a.kind = 3 then (if a.n ≠ -1 ∧ ¬ (0 ≤ a.n ∧ a.n ≤ size d.stack - 1) then (d, 0, 2) else (⟨d.stack, d.shows, a.n, decide (a.n = d.v), d.tickets⟩, 0, 0))
  else if a.kind = 4 then (⟨d.stack, zDig, d.preset, decide (d.preset = 0), d.tickets⟩, 0, 0)
  else if a.kind = 5 then (if d.tickets = 1000000 then (d, 0, 4) else (⟨d.stack, d.shows, d.preset, d.stopped, d.tickets + 1⟩, 0, 0))
  else (d, 0, 0)
theorem do_1 {d : VDev} {a : VAct} (h : a.kind = 1) : doV d a = ((pulseV d a.n 1).1, (pulseV d a.n 1).2, 0) := by unfold doV; rw [if_pos h]
theorem do_2 {d : VDev} {a : VAct} (h : a.kind = 2) : doV d a = ((pulseV d a.n (-1)).1, (pulseV d a.n (-1)).2, 0) := by unfold doV; rw [if_neg (by omega), if_pos h]
theorem do_3n {d : VDev} {a : VAct} (h : a.kind = 3) (h1 : a.n ≠ -1 ∧ ¬ (0 ≤ a.n ∧ a.n ≤ size d.stack - 1)) : doV d a = (d, 0, 2) := by unfold doV; rw [if_neg (by omega), if_neg (by omega), if_pos h, if_pos h1]
theorem do_3 {d : VDev} {a : VAct} (h : a.kind = 3) (h1 : ¬ (a.n ≠ -1 ∧ ¬ (0 ≤ a.n ∧ a.n ≤ size d.stack - 1))) : doV d a = (⟨d.stack, d.shows, a.n, decide (a.n = d.v), d.tickets⟩, 0, 0) := by unfold doV; rw [if_neg (by omega), if_neg (by omega), if_pos h, if_neg h1]
theorem do_4 {d : VDev} {a : VAct} (h : a.kind = 4) : doV d a = (⟨d.stack, zDig, d.preset, decide (d.preset = 0), d.tickets⟩, 0, 0) := by unfold doV; rw [if_neg (by omega), if_neg (by omega), if_neg (by omega), if_pos h]
theorem do_5n {d : VDev} {a : VAct} (h : a.kind = 5) (h1 : d.tickets = 1000000) : doV d a = (d, 0, 4) := by unfold doV; rw [if_neg (by omega), if_neg (by omega), if_neg (by omega), if_neg (by omega), if_pos h, if_pos h1]
theorem do_5 {d : VDev} {a : VAct} (h : a.kind = 5) (h1 : ¬ d.tickets = 1000000) : doV d a = (⟨d.stack, d.shows, d.preset, d.stopped, d.tickets + 1⟩, 0, 0) := by unfold doV; rw [if_neg (by omega), if_neg (by omega), if_neg (by omega), if_neg (by omega), if_pos h, if_neg h1]
theorem do_0 {d : VDev} {a : VAct} (h1 : ¬ a.kind = 1) (h2 : ¬ a.kind = 2) (h3 : ¬ a.kind = 3) (h4 : ¬ a.kind = 4) (h5 : ¬ a.kind = 5) : doV d a = (d, 0, 0) := by unfold doV; rw [if_neg h1, if_neg h2, if_neg h3, if_neg h4, if_neg h5]
theorem act_n {a : VAct} (h : validAct a = true) : (a.kind = 1 ∨ a.kind = 2 → 0 ≤ a.n ∧ a.n ≤ 1000000000000) ∧ (a.kind = 3 → -1 ≤ a.n ∧ a.n ≤ 1000000000000) := by
  unfold validAct at h; rw [decide_eq_true_iff] at h; omega
theorem sizeS {d : VDev} (h : DevOk d) : size d.stack = prod d.stack := h.stk.size_
/-- What stands for a device that is none. -/
def newDev (s : List Int) : VDev × Int := if validStack s = true then (⟨s, zDig, -1, false, 0⟩, 0) else (zDev, 1)
theorem nwd_t {s : List Int} (h : validStack s = true) : newDev s = (⟨s, zDig, -1, false, 0⟩, 0) := by unfold newDev; rw [if_pos h]
theorem nwd_f {s : List Int} (h : validStack s = false) : newDev s = (zDev, 1) := by unfold newDev; rw [if_neg (by simp [h])]
def doActV (d : VDev) (a : VAct) : VDev × Int × Int := if validDev d = true ∧ validAct a = true then (if (doV d a).2.2 ≠ 0 then (zDev, 0, (doV d a).2.2) else doV d a) else (zDev, 0, 1)
theorem da_bad {d : VDev} {a : VAct} (h : ¬ (validDev d = true ∧ validAct a = true)) : doActV d a = (zDev, 0, 1) := by unfold doActV; rw [if_neg h]
theorem da_no {d : VDev} {a : VAct} (h : validDev d = true ∧ validAct a = true) (h1 : (doV d a).2.2 ≠ 0) : doActV d a = (zDev, 0, (doV d a).2.2) := by unfold doActV; rw [if_pos h, if_pos h1]
theorem da_ok {d : VDev} {a : VAct} (h : validDev d = true ∧ validAct a = true) (h1 : ¬ (doV d a).2.2 ≠ 0) : doActV d a = doV d a := by unfold doActV; rw [if_pos h, if_neg h1]
def pulsesV (d : VDev) : Int × Int := if validDev d = false then (0, 1) else if d.preset = -1 then (0, 6) else if d.stopped = true then (0, 0) else (untilV d 1, 0)
theorem nil_of_none {A : Option Addr} {w : World} {base : Nat} {s : List Int} (h : RdB base w A (s.flatMap (eI .u8))) (hA : A.isNone = true) : s = [] := by
  cases s with
  | nil => rfl
  | cons x t =>
    obtain ⟨ad, rfl, _⟩ := h 0 (.int .u8 x) rfl
    cases hA
end Go.W
namespace Go.W
open Go Go.Sx
theorem un_t {d : VDev} : untilV d (bif true then -1 else 1) = until1 (-(d.preset - val d.stack d.shows.l)) (prod d.stack) := by
  unfold untilV VDev.v; rw [cond_true, Int.neg_mul, Int.one_mul]
theorem un_f {d : VDev} : untilV d (bif false then -1 else 1) = until1 (d.preset - val d.stack d.shows.l) (prod d.stack) := by
  unfold untilV VDev.v; rw [cond_false, Int.one_mul]
end Go.W
namespace Go.W
open Go Go.Sx
theorem pu_bad {d : VDev} (h : validDev d = false) : pulsesV d = (0, 1) := by unfold pulsesV; rw [if_pos h]
theorem pu_neg {d : VDev} (ha : Nums 255 d.shows.l) (h : validDev d = true) (hp : d.preset < 0) : pulsesV d = (0, 6) := by
  have := (devOk ha h).preset
  unfold pulsesV; rw [if_neg (by simp [h]), if_pos (by omega)]
theorem pu_stop {d : VDev} (h : validDev d = true) (hp : ¬ d.preset = -1) (h2 : d.stopped = true) : pulsesV d = (0, 0) := by
  unfold pulsesV; rw [if_neg (by simp [h]), if_neg hp, if_pos h2]
theorem pu_on {d : VDev} (h : validDev d = true) (hp : ¬ d.preset = -1) (h2 : d.stopped = false) : pulsesV d = (untilV d 1, 0) := by
  unfold pulsesV; rw [if_neg (by simp [h]), if_neg hp, if_neg (by simp [h2])]
end Go.W
namespace Go.W
open Go Go.Sx
def untilW (d : VDev) (st : Int) : Int := if d.preset < 0 then -1 else untilV d st
theorem uw {d : VDev} {st : Int} : (d.preset < 0 ∧ untilW d st = -1) ∨ (0 ≤ d.preset ∧ untilW d st = untilV d st) := by
  unfold untilW; split <;> omega
theorem uw_pos {d : VDev} {st : Int} (h : 0 ≤ d.preset) : untilW d st = untilV d st := by unfold untilW; rw [if_neg (by omega)]
theorem until_bd {d : VDev} (h : DevOk d) (st : Int) : 1 ≤ untilV d st ∧ untilV d st ≤ prod d.stack := until_pos (by have := h.stk.pos; omega)
end Go.W
namespace Go.W
open Go Go.Sx
/-- Marks, one behind the other. -/
def mk8 (n : Nat) (k : Int) : List Int := (List.range n).map fun (i : Nat) => (k + (i : Int)) % 256
theorem mk8_len (n : Nat) (k : Int) : (mk8 n k).length = n := by simp [mk8]
theorem mk8_at {n : Nat} {k : Int} {i : Nat} (h : i < n) : (mk8 n k).getD i 0 = (k + (i : Int)) % 256 := by simp [mk8, List.getD, h]
theorem do_stack (d : VDev) (a : VAct) : (doV d a).1.stack = d.stack := by
  unfold doV pulseV
  repeat' split
  all_goals rfl
theorem da_len (d : VDev) (a : VAct) : (doActV d a).1.stack.length ≤ d.stack.length := by
  unfold doActV
  split
  · split
    · simp [zDev]
    · rw [do_stack]; exact Nat.le_refl _
  · simp [zDev]
theorem nd_len (s : List Int) : (newDev s).1.stack.length ≤ s.length := by
  unfold newDev; split <;> simp [zDev]
end Go.W

/- Devices behind acts, in plain numbers. -/
set_option linter.unusedVariables false
set_option linter.unusedSimpArgs false
namespace Go.W
open Go Go.Sx
theorem nums_zero : Nums 255 zDig.l := fun x hx => by simp [zDig, Dig.l] at hx; omega
theorem addD_l {s : List Int} {a : Dig} {n : Int} : (addD s a n).l = digs s ((val s a.l + n) % size s) := dig_l (digs_len _ _)
theorem addD_num {s : List Int} {a : Dig} {n : Int} (h : Stk s) : Nums 255 (addD s a n).l := by rw [addD_l]; exact digs_num h.bases
theorem addD_valid {s : List Int} {a : Dig} {n : Int} (h : Stk s) : validDig s (addD s a n).l = true := by rw [addD_l]; exact digs_valid h
theorem addD_val {s : List Int} {a : Dig} {n : Int} (h : Stk s) : val s (addD s a n).l = (val s a.l + n) % prod s := by
  rw [addD_l, val_of h, h.size_, Int.emod_emod_of_dvd _ (Int.dvd_refl _)]
theorem until_hits {d : VDev} (h : DevOk d) (hp : d.preset ≠ -1) {st : Int} (hst : st = 1 ∨ st = -1) : (d.v + st * untilV d st) % prod d.stack = d.preset := by
  have hp0 : 0 ≤ d.preset ∧ d.preset ≤ prod d.stack - 1 := by have := h.preset; omega
  have hpos := h.stk.pos
  have key : st * untilV d st % prod d.stack = (d.preset - d.v) % prod d.stack := by
    unfold untilV until1
    have e : st * (st * (d.preset - d.v)) = d.preset - d.v := by rcases hst with rfl | rfl <;> omega
    split
    · rename_i h0
      have h1 : (st * (st * (d.preset - d.v))) % prod d.stack = 0 := by rw [Int.mul_emod, h0]; simp
      rw [e] at h1
      rw [h1, Int.mul_emod_left]
    · rw [Int.mul_emod, Int.emod_emod_of_dvd _ (Int.dvd_refl _), ← Int.mul_emod, e]
  rw [Int.add_emod, key, ← Int.add_emod, show d.v + (d.preset - d.v) = d.preset by omega, Int.emod_eq_of_lt (by omega) (by omega)]
theorem validDev_of {d : VDev} (hs : validStack d.stack = true) (hd : validDig d.stack d.shows.l = true) (ht : 0 ≤ d.tickets ∧ d.tickets ≤ 1000000) (hp : d.preset = -1 ∨ 0 ≤ d.preset ∧ d.preset ≤ size d.stack - 1) (hst : d.stopped = true → d.preset = d.v) : validDev d = true := by
  unfold validDev; rw [decide_eq_true_iff]; exact ⟨hs, hd, ht, hp, hst⟩
theorem validDig_zero {s : List Int} (h : Stk s) : validDig s zDig.l = true := by
  have := digs_valid (v := 0) h
  have e : digs s 0 = zDig.l := by
    refine List.ext_getElem? fun i => ?_
    rcases Nat.lt_or_ge i 8 with hi | hi
    · have e1 : (digs s 0)[i]? = some ((digs s 0).getD i 0) := by simp [List.getD, digs_len, hi]
      have e2 : zDig.l[i]? = some 0 := by
        match i, hi with
        | 0, _ | 1, _ | 2, _ | 3, _ | 4, _ | 5, _ | 6, _ | 7, _ => rfl
      rw [e1, e2, digs_at hi]
      split
      · simp [dAt]
      · rfl
    · rw [List.getElem?_eq_none (by simp [digs_len]; omega), List.getElem?_eq_none (by rw [dig_len]; omega)]
  rwa [e] at this
theorem val_zero {s : List Int} (h : Stk s) : val s zDig.l = 0 := by
  have key : ∀ (s l : List Int), (∀ i, l.getD i 0 = 0) → val s l = 0 := by
    intro s
    induction s with
    | nil => intro l _; rfl
    | cons b s ih =>
      intro l hl
      have h0 := hl 0
      have ht : ∀ i, l.tail.getD i 0 = 0 := fun i => by have := hl (i + 1); cases l with | nil => simp | cons x t => simpa using this
      simp only [val, ih _ ht]
      cases l with
      | nil => simp
      | cons x t => simp at h0 ⊢; exact h0
  refine key _ _ fun i => ?_
  rcases Nat.lt_or_ge i 8 with hi | hi
  · match i, hi with
    | 0, _ | 1, _ | 2, _ | 3, _ | 4, _ | 5, _ | 6, _ | 7, _ => rfl
  · simp [List.getD, List.getElem?_eq_none (show zDig.l.length ≤ i by rw [dig_len]; exact hi)]
theorem OkDev.mk' {d : VDev} (h : OkDev d) {d' : VDev} (hs : d'.stack = d.stack) (hn : Nums 255 d'.shows.l) (hp : I64 d'.preset) (ht : I64 d'.tickets) : OkDev d' := by
  unfold OkDev at h ⊢; rw [hs]; exact ⟨h.1, h.2.1, hn, hp, ht⟩
theorem pulse_ok {d : VDev} {n st : Int} (hk : OkDev d) (hv : validDev d = true) (hst : st = 1 ∨ st = -1) : OkDev (pulseV d n st).1 ∧ validDev (pulseV d n st).1 = true := by
  have hO := devOk hk.2.2.1 hv
  have hvs : validStack d.stack = true := by unfold validDev at hv; rw [decide_eq_true_iff] at hv; exact hv.1
  have hz := sizeS hO
  unfold pulseV
  split
  · exact ⟨hk, hv⟩
  · split
    · rename_i h1 h2
      refine ⟨hk.mk' rfl (addD_num hO.stk) hk.2.2.2.1 hk.2.2.2.2, validDev_of hvs (addD_valid hO.stk) hO.tick (by rw [hz]; exact hO.preset) (fun _ => ?_)⟩
      show d.preset = val d.stack (addD d.stack d.shows (st * untilV d st)).l
      rw [addD_val hO.stk]
      exact (until_hits hO h2.1 hst).symm
    · rename_i h1 h2
      exact ⟨hk.mk' rfl (addD_num hO.stk) hk.2.2.2.1 hk.2.2.2.2, validDev_of hvs (addD_valid hO.stk) hO.tick (by rw [hz]; exact hO.preset) (fun h => absurd h h1)⟩
theorem do_ok {d : VDev} {a : VAct} (hk : OkDev d) (hv : validDev d = true) (ha : validAct a = true) : OkDev (doV d a).1 ∧ validDev (doV d a).1 = true := by
  have hO := devOk hk.2.2.1 hv
  have hvs : validStack d.stack = true := by unfold validDev at hv; rw [decide_eq_true_iff] at hv; exact hv.1
  have hz := sizeS hO
  have hle := hO.stk.le
  have han := act_n ha
  unfold doV
  split
  · exact pulse_ok hk hv (.inl rfl)
  · split
    · exact pulse_ok hk hv (.inr rfl)
    · split
      · split
        · exact ⟨hk, hv⟩
        · rename_i h3 h4
          have hn : a.n = -1 ∨ 0 ≤ a.n ∧ a.n ≤ size d.stack - 1 := by omega
          refine ⟨hk.mk' rfl hk.2.2.1 (show I64 a.n by unfold I64; omega) hk.2.2.2.2, validDev_of hvs hO.vd hO.tick hn (fun h => ?_)⟩
          show a.n = d.v
          have h : decide (a.n = d.v) = true := h
          exact of_decide_eq_true h
      · split
        · refine ⟨hk.mk' rfl nums_zero hk.2.2.2.1 hk.2.2.2.2, validDev_of hvs (validDig_zero hO.stk) hO.tick (by rw [hz]; exact hO.preset) (fun h => ?_)⟩
          show d.preset = val d.stack zDig.l
          have h : decide (d.preset = 0) = true := h
          rw [val_zero hO.stk]; exact of_decide_eq_true h
        · split
          · split
            · exact ⟨hk, hv⟩
            · have ht := hO.tick
              refine ⟨hk.mk' rfl hk.2.2.1 hk.2.2.2.1 (show I64 (d.tickets + 1) by unfold I64; omega), validDev_of hvs hO.vd (show 0 ≤ d.tickets + 1 ∧ d.tickets + 1 ≤ 1000000 by omega) (by rw [hz]; exact hO.preset) hO.stop⟩
          · exact ⟨hk, hv⟩
/-- The device behind the first i acts of notes. -/
def nowN (d : VDev) (l : List VNote) : Nat → VDev
  | 0 => d
  | i + 1 => (doV (nowN d l i) (l.getD i zN).act).1
theorem nowN_stack (d : VDev) (l : List VNote) : ∀ i, (nowN d l i).stack = d.stack
  | 0 => rfl
  | i + 1 => by rw [nowN, do_stack, nowN_stack d l i]
def badN (d : VDev) (l : List VNote) (i : Nat) : Bool := decide (validAct (l.getD i zN).act = false ∨ (doV (nowN d l i) (l.getD i zN).act).2.2 ≠ 0 ∨ (doV (nowN d l i) (l.getD i zN).act).2.1 ≠ (l.getD i zN).lost ∨ (doV (nowN d l i) (l.getD i zN).act).1.shows.l ≠ (l.getD i zN).shows.l)
theorem badN_t {d : VDev} {l : List VNote} {i : Nat} (h : validAct (l.getD i zN).act = false ∨ (doV (nowN d l i) (l.getD i zN).act).2.2 ≠ 0 ∨ (doV (nowN d l i) (l.getD i zN).act).2.1 ≠ (l.getD i zN).lost ∨ (doV (nowN d l i) (l.getD i zN).act).1.shows.l ≠ (l.getD i zN).shows.l) : badN d l i = true := by unfold badN; rw [decide_eq_true_iff]; exact h
theorem badN_f {d : VDev} {l : List VNote} {i : Nat} (h : ¬ (validAct (l.getD i zN).act = false ∨ (doV (nowN d l i) (l.getD i zN).act).2.2 ≠ 0 ∨ (doV (nowN d l i) (l.getD i zN).act).2.1 ≠ (l.getD i zN).lost ∨ (doV (nowN d l i) (l.getD i zN).act).1.shows.l ≠ (l.getD i zN).shows.l)) : badN d l i = false := by unfold badN; rw [decide_eq_false_iff_not]; exact h
def firstWrong (d : VDev) (l : List VNote) : Int × Int := if validDev d = false then (0, 1) else if 60 < (l.length : Int) then (0, 3) else at2 (firstB (badN d l) l.length)
theorem fw_bad {d : VDev} {l : List VNote} (h : validDev d = false) : firstWrong d l = (0, 1) := by unfold firstWrong; rw [if_pos h]
theorem fw_long {d : VDev} {l : List VNote} (h : validDev d = true) (h1 : 60 < (l.length : Int)) : firstWrong d l = (0, 3) := by unfold firstWrong; rw [if_neg (by simp [h]), if_pos h1]
theorem fw_on {d : VDev} {l : List VNote} (h : validDev d = true) (h1 : ¬ 60 < (l.length : Int)) : firstWrong d l = at2 (firstB (badN d l) l.length) := by unfold firstWrong; rw [if_neg (by simp [h]), if_neg h1]
end Go.W
namespace Go.W
open Go Go.Sx
theorem nsame {a : VNote} {s : Dig} {x : Int} (h : (!sameN a ⟨a.act, s, x⟩) = true) : x ≠ a.lost ∨ s.l ≠ a.shows.l := by
  simp only [sameN, sameA, Bool.not_eq_true', decide_eq_false_iff_not, decide_eq_true_eq, true_and, and_self] at h
  by_cases h1 : x = a.lost
  · right; intro h2; exact h ⟨h2.symm, h1.symm⟩
  · exact .inl h1
theorem ysame {a : VNote} {s : Dig} {x : Int} (h : (!sameN a ⟨a.act, s, x⟩) = false) : x = a.lost ∧ s.l = a.shows.l := by
  simp only [sameN, sameA, Bool.not_eq_false', decide_eq_true_eq, true_and, and_self] at h
  exact ⟨h.2.symm, h.1.symm⟩
end Go.W
namespace Go.W
open Go Go.Sx
/-- The acts of k batches. -/
def batchL (n : Int) : Nat → List VAct
  | 0 => [⟨4, 0⟩]
  | k + 1 => batchL n k ++ [⟨3, n⟩, ⟨1, n⟩, ⟨5, 0⟩, ⟨4, 0⟩]
theorem batchL_len (n : Int) : ∀ k, (batchL n k).length = 1 + 4 * k
  | 0 => rfl
  | k + 1 => by rw [batchL, List.length_append, batchL_len n k]; simp; omega
def batchV (d : VDev) (n k : Int) : List VAct × Int := if validDev d = false then ([], 1) else if ¬ ((1 ≤ n ∧ n ≤ size d.stack - 1) ∧ (0 ≤ k ∧ k ≤ 60)) then ([], 2) else if 60 < 1 + 4 * k then ([], 3) else (batchL n k.toNat, 0)
theorem bt_bad {d : VDev} {n k : Int} (h : validDev d = false) : batchV d n k = ([], 1) := by unfold batchV; rw [if_pos h]
theorem bt_range {d : VDev} {n k : Int} (h : validDev d = true) (h1 : ¬ ((1 ≤ n ∧ n ≤ size d.stack - 1) ∧ (0 ≤ k ∧ k ≤ 60))) : batchV d n k = ([], 2) := by unfold batchV; rw [if_neg (by simp [h]), if_pos h1]
theorem bt_long {d : VDev} {n k : Int} (h : validDev d = true) (h1 : (1 ≤ n ∧ n ≤ size d.stack - 1) ∧ (0 ≤ k ∧ k ≤ 60)) (h2 : 60 < 1 + 4 * k) : batchV d n k = ([], 3) := by unfold batchV; rw [if_neg (by simp [h]), if_neg (fun h => h h1), if_pos h2]
theorem bt_ok {d : VDev} {n : Int} {j : Nat} (h : validDev d = true) (h1 : (1 ≤ n ∧ n ≤ size d.stack - 1) ∧ (0 ≤ (j : Int) ∧ (j : Int) ≤ 60)) (h2 : ¬ 60 < 1 + 4 * (j : Int)) : batchV d n j = (batchL n j, 0) := by unfold batchV; rw [if_neg (by simp [h]), if_neg (fun h => h h1), if_neg h2]; rfl
end Go.W
namespace Go.W
open Go Go.Sx
def mkA (n : Nat) (k : Int) : List VAct := (List.range n).map fun (i : Nat) => ⟨IntKind.i8.wrap (k + 2 * (i : Int)), k + 2 * (i : Int) + 1⟩
theorem mkA_len (n : Nat) (k : Int) : (mkA n k).length = n := by simp [mkA]
theorem mkA_at {n : Nat} {k : Int} {i : Nat} (h : i < n) : (mkA n k).getD i zA = ⟨IntKind.i8.wrap (k + 2 * (i : Int)), k + 2 * (i : Int) + 1⟩ := by simp [mkA, List.getD, h]
theorem mkA_cell {n : Nat} {k : Int} {i j : Nat} (h : i < n) (hj : j < 2) : ((mkA n k).flatMap encA)[i * 2 + j]? = (encA ⟨IntKind.i8.wrap (k + 2 * (i : Int)), k + 2 * (i : Int) + 1⟩)[j]? := by
  rw [flat_get encA_len zA _ _ _ (by rw [mkA_len]; exact h) hj, mkA_at h]
end Go.W

/- Fewer acts, in plain numbers. -/
set_option linter.unusedVariables false
set_option linter.unusedSimpArgs false
namespace Go.W
open Go Go.Sx
theorem bt_len (d : VDev) (n k : Int) : (batchV d n k).1.length ≤ 61 := by
  unfold batchV
  split
  · simp
  · split
    · simp
    · split
      · simp
      · rename_i h
        rw [batchL_len]; omega
def isPulse (a : VAct) : Bool := decide (a.kind = 1 ∨ a.kind = 2)
def stepA (out : List VAct) (a : VAct) : List VAct :=
  if isPulse a = true ∧ a.n = 0 then out
  else if out.length = 0 ∨ (out.getD (out.length - 1) zA).kind ≠ a.kind ∨ a.kind = 5 then out ++ [a]
  else if isPulse a = true then out.set (out.length - 1) ⟨(out.getD (out.length - 1) zA).kind, (out.getD (out.length - 1) zA).n + a.n⟩
  else out.set (out.length - 1) a
def shortL (l : List VAct) (k : Nat) : List VAct := (l.take k).foldl stepA []
theorem shortL_succ {l : List VAct} {k : Nat} (h : k < l.length) : shortL l (k + 1) = stepA (shortL l k) (l.getD k zA) := by
  unfold shortL
  rw [List.take_succ_eq_append_getElem h, List.foldl_append]
  simp [List.getD, h]
theorem stepA_len (out : List VAct) (a : VAct) : (stepA out a).length ≤ out.length + 1 := by
  unfold stepA
  split
  · omega
  · split
    · simp
    · split <;> simp
theorem shortL_len (l : List VAct) : ∀ k, (shortL l k).length ≤ k
  | 0 => by simp [shortL]
  | k + 1 => by
    rcases Nat.lt_or_ge k l.length with h | h
    · rw [shortL_succ h]; have h1 := stepA_len (shortL l k) (l.getD k zA); have h2 := shortL_len l k; omega
    · have e : shortL l (k + 1) = shortL l k := by unfold shortL; rw [List.take_of_length_le (by omega), List.take_of_length_le h]
      rw [e]; have := shortL_len l k; omega
/-- How great the numbers are. -/
def Low (b : Int) (l : List VAct) : Prop := ∀ x ∈ l, -1 ≤ x.n ∧ x.n ≤ b
theorem Low.at_ {b : Int} {l : List VAct} (h : Low b l) {i : Nat} (hi : i < l.length) : -1 ≤ (l.getD i zA).n ∧ (l.getD i zA).n ≤ b := h _ (getD_mem zA hi)
theorem valid_n {a : VAct} (h : validAct a = true) : -1 ≤ a.n ∧ a.n ≤ 1000000000000 ∧ (isPulse a = true → 0 ≤ a.n) := by
  unfold validAct at h; rw [decide_eq_true_iff] at h
  refine ⟨by omega, by omega, fun hp => ?_⟩
  unfold isPulse at hp; rw [decide_eq_true_iff] at hp; omega
theorem stepA_low {out : List VAct} {a : VAct} {b : Int} (hb : 0 ≤ b) (h : Low b out) (ha : validAct a = true) : Low (b + 1000000000000) (stepA out a) := by
  have hv := valid_n ha
  have hw : Low (b + 1000000000000) out := fun x hx => by have := h x hx; omega
  unfold stepA
  split
  · exact hw
  · split
    · intro x hx
      rcases List.mem_append.1 hx with hx | hx
      · exact hw x hx
      · simp at hx; subst hx; omega
    · rename_i hne
      have hl : 0 < out.length := by omega
      have hlast := h.at_ (i := out.length - 1) (by omega)
      split
      · rename_i hp
        intro x hx
        rcases List.mem_or_eq_of_mem_set hx with hx | rfl
        · exact hw x hx
        · have := hv.2.2 hp
          show -1 ≤ (out.getD (out.length - 1) zA).n + a.n ∧ (out.getD (out.length - 1) zA).n + a.n ≤ b + 1000000000000
          omega
      · intro x hx
        rcases List.mem_or_eq_of_mem_set hx with hx | rfl
        · exact hw x hx
        · omega
theorem shortL_low {l : List VAct} (hv : ∀ i, i < l.length → validAct (l.getD i zA) = true) : ∀ k, k ≤ l.length → Low (k * 1000000000000) (shortL l k)
  | 0, _ => fun x hx => by simp [shortL] at hx
  | k + 1, hk => by
    have := stepA_low (by omega) (shortL_low hv k (by omega)) (hv k (by omega))
    rw [shortL_succ (by omega)]
    intro x hx
    have := this x hx
    omega
theorem st_skip {out : List VAct} {a : VAct} (h : isPulse a = true) (h0 : a.n = 0) : stepA out a = out := by unfold stepA; rw [if_pos ⟨h, h0⟩]
theorem st_new {out : List VAct} {a : VAct} (h : ¬ (isPulse a = true ∧ a.n = 0)) (h1 : out.length = 0 ∨ (out.getD (out.length - 1) zA).kind ≠ a.kind ∨ a.kind = 5) : stepA out a = out ++ [a] := by unfold stepA; rw [if_neg h, if_pos h1]
theorem st_add {out : List VAct} {a : VAct} (h : ¬ (isPulse a = true ∧ a.n = 0)) (h1 : ¬ (out.length = 0 ∨ (out.getD (out.length - 1) zA).kind ≠ a.kind ∨ a.kind = 5)) (h2 : isPulse a = true) : stepA out a = out.set (out.length - 1) ⟨(out.getD (out.length - 1) zA).kind, (out.getD (out.length - 1) zA).n + a.n⟩ := by unfold stepA; rw [if_neg h, if_neg h1, if_pos h2]
theorem st_put {out : List VAct} {a : VAct} (h : ¬ (isPulse a = true ∧ a.n = 0)) (h1 : ¬ (out.length = 0 ∨ (out.getD (out.length - 1) zA).kind ≠ a.kind ∨ a.kind = 5)) (h2 : isPulse a = false) : stepA out a = out.set (out.length - 1) a := by unfold stepA; rw [if_neg h, if_neg h1, if_neg (by simp [h2])]
/-- A number that is too great stays so. -/
def Over (out : List VAct) : Prop := ∃ i, i < out.length ∧ isPulse (out.getD i zA) = true ∧ 1000000000000 < (out.getD i zA).n
theorem getD_set {α : Type} {l : List α} {i j : Nat} {x d : α} (hj : j < l.length) : (l.set i x).getD j d = if i = j then x else l.getD j d := by
  simp only [List.getD, List.getElem?_set]
  by_cases h : i = j
  · subst h; simp [hj]
  · simp [h]
theorem over_step {out : List VAct} {a : VAct} (ha : validAct a = true) (h : Over out) : Over (stepA out a) := by
  obtain ⟨i, hi, hp, hn⟩ := h
  have hv := valid_n ha
  unfold stepA
  split
  · exact ⟨i, hi, hp, hn⟩
  · split
    · exact ⟨i, by simp; omega, by rw [show (out ++ [a]).getD i zA = out.getD i zA by simp only [List.getD, List.getElem?_append_left hi]]; exact ⟨hp, hn⟩⟩
    · rename_i h1 h2
      split
      · rename_i h3
        refine ⟨i, by simpa using hi, ?_⟩
        rw [getD_set hi]
        split
        · rename_i e
          subst e
          have := hv.2.2 h3
          refine ⟨by unfold isPulse at hp ⊢; exact hp, ?_⟩
          show 1000000000000 < (out.getD (out.length - 1) zA).n + a.n
          omega
        · exact ⟨hp, hn⟩
      · rename_i h3
        refine ⟨i, by simpa using hi, ?_⟩
        rw [getD_set hi]
        split
        · rename_i e
          subst e
          exfalso
          have hk : (out.getD (out.length - 1) zA).kind = a.kind := by
            by_cases hk : (out.getD (out.length - 1) zA).kind = a.kind
            · exact hk
            · exact absurd (.inr (.inl hk)) h2
          unfold isPulse at hp h3
          rw [hk] at hp
          exact h3 hp
        · exact ⟨hp, hn⟩
theorem over_later {l : List VAct} (hv : ∀ i, i < l.length → validAct (l.getD i zA) = true) {k : Nat} (h : Over (shortL l k)) : ∀ j, k + j ≤ l.length → Over (shortL l (k + j))
  | 0, _ => h
  | j + 1, hj => by
    rw [show k + (j + 1) = (k + j) + 1 by omega, shortL_succ (by omega)]
    exact over_step (hv _ (by omega)) (over_later hv h j (by omega))
def big (a : VAct) : Bool := decide (1000000000000 < a.n)
theorem over_any {out : List VAct} (h : Over out) : out.any big = true := by
  obtain ⟨i, hi, _, hn⟩ := h
  rw [List.any_eq_true]
  exact ⟨_, getD_mem zA hi, by unfold big; simpa using hn⟩
theorem low_any {out : List VAct} (h : Low 1000000000000 out) : out.any big = false := by
  rw [List.any_eq_false]
  intro x hx
  have := h x hx
  unfold big; simp; omega
def badA (a : VAct) : Bool := !validAct a
def afault (l : List VAct) : Int := if l.any badA = true then 1 else if 60 < (l.length : Int) then 3 else 0
theorem af_bad {l : List VAct} (h : l.any badA = true) : 1 = afault l := by unfold afault; rw [if_pos h]
theorem af_long {l : List VAct} (h : l.any badA = false) (h1 : 60 < (l.length : Int)) : 3 = afault l := by unfold afault; rw [if_neg (by simp [h]), if_pos h1]
theorem af_ok {l : List VAct} (h : l.any badA = false) (h1 : ¬ 60 < (l.length : Int)) : 0 = afault l := by unfold afault; rw [if_neg (by simp [h]), if_neg h1]
theorem af_zero {l : List VAct} (h : ¬ afault l ≠ 0) : (∀ i, i < l.length → validAct (l.getD i zA) = true) ∧ l.length ≤ 60 := by
  unfold afault at h
  split at h
  · exact absurd (by decide) h
  · rename_i h1
    split at h
    · exact absurd (by decide) h
    · refine ⟨fun i hi => ?_, by omega⟩
      have h2 : l.any badA = false := by simpa using h1
      rw [List.any_eq_false] at h2
      have := h2 _ (getD_mem zA hi)
      unfold badA at this
      simpa using this
theorem af_bad' {l : List VAct} {k : Nat} (hk : k < l.length) (h : validAct (l.getD k zA) = false) : afault l = 1 := by
  refine (af_bad ?_).symm
  rw [List.any_eq_true]
  exact ⟨_, getD_mem zA hk, by unfold badA; rw [h]; rfl⟩
theorem any_bad_f {l : List VAct} {k : Nat} (hk : ¬ k < l.length) (h : ∀ i, i < k → validAct (l.getD i zA) = true) : l.any badA = false := by
  rw [List.any_eq_false]
  intro x hx
  obtain ⟨i, hi, rfl⟩ := List.getElem_of_mem hx
  have := h i (by omega)
  simp only [List.getD, List.getElem?_eq_getElem hi, Option.getD_some] at this
  unfold badA; simp [this]
def shortV (l : List VAct) : List VAct × Int := if afault l ≠ 0 then ([], afault l) else if (shortL l l.length).any big = true then ([], 2) else (shortL l l.length, 0)
theorem sh_bad {l : List VAct} (h : afault l ≠ 0) : shortV l = ([], afault l) := by unfold shortV; rw [if_pos h]
theorem sh_big {l : List VAct} (h : ¬ afault l ≠ 0) (h1 : (shortL l l.length).any big = true) : shortV l = ([], 2) := by unfold shortV; rw [if_neg h, if_pos h1]
theorem sh_ok {l : List VAct} (h : ¬ afault l ≠ 0) (h1 : (shortL l l.length).any big = false) : shortV l = (shortL l l.length, 0) := by unfold shortV; rw [if_neg h, if_neg (by simp [h1])]
theorem sh_len (l : List VAct) : (shortV l).1.length ≤ l.length := by
  unfold shortV
  split
  · simp
  · split
    · simp
    · exact shortL_len l _
theorem isP_t {a : VAct} (h : a.kind = 1 ∨ a.kind = 2) : isPulse a = true := by unfold isPulse; exact decide_eq_true h
theorem isP_f {a : VAct} (h : ¬ (a.kind = 1 ∨ a.kind = 2)) : isPulse a = false := by unfold isPulse; exact decide_eq_false h
theorem nP {a : VAct} (h : isPulse a = true) (h1 : isPulse a = false) : False := by rw [h] at h1; exact absurd h1 (by decide)
theorem nPk {a : VAct} (h : isPulse a = true) (h1 : ¬ (a.kind = 1 ∨ a.kind = 2)) : False := nP h (isP_f h1)
theorem Low.any {b : Int} {l : List VAct} (h : Low b l) (hb : 0 ≤ b) (i : Nat) : -1 ≤ (l.getD i zA).n ∧ (l.getD i zA).n ≤ b := by
  rcases Nat.lt_or_ge i l.length with hi | hi
  · exact h.at_ hi
  · have e : l.getD i zA = zA := by simp [List.getD, List.getElem?_eq_none hi]
    rw [e]; exact ⟨by decide, hb⟩
def Fresh (out : List VAct) (a : VAct) : Prop := out.length = 0 ∨ (out.getD (out.length - 1) zA).kind ≠ a.kind ∨ a.kind = 5
theorem low_next {out : List VAct} {a : VAct} (h : Low 1000000000000 out) (ha : validAct a = true) (h3 : (isPulse a = true ∧ a.n = 0) ∨ Fresh out a ∨ ¬ 1000000000000 < ((stepA out a).getD (out.length - 1) zA).n) : Low 1000000000000 (stepA out a) := by
  have hv := valid_n ha
  by_cases h1 : isPulse a = true ∧ a.n = 0
  · rw [st_skip h1.1 h1.2]; exact h
  · by_cases h2 : Fresh out a
    · rw [st_new h1 h2]
      intro x hx
      rcases List.mem_append.1 hx with hx | hx
      · exact h x hx
      · simp at hx; subst hx; omega
    · have hl : 0 < out.length := by unfold Fresh at h2; omega
      have h3 := (h3.resolve_left h1).resolve_left h2
      cases hp : isPulse a with
      | true =>
        have hlast := h.at_ (i := out.length - 1) (by omega)
        have hv2 := hv.2.2 hp
        rw [st_add h1 h2 hp] at h3 ⊢
        rw [getD_set (by omega), if_pos rfl] at h3
        intro x hx
        rcases List.mem_or_eq_of_mem_set hx with hx | rfl
        · exact h x hx
        · show -1 ≤ (out.getD (out.length - 1) zA).n + a.n ∧ (out.getD (out.length - 1) zA).n + a.n ≤ 1000000000000
          have h3 : ¬ 1000000000000 < (out.getD (out.length - 1) zA).n + a.n := h3
          omega
      | false =>
        rw [st_put h1 h2 hp]
        intro x hx
        rcases List.mem_or_eq_of_mem_set hx with hx | rfl
        · exact h x hx
        · omega
theorem over_chk {out : List VAct} {a : VAct} (ha : validAct a = true) (h1 : ¬ (isPulse a = true ∧ a.n = 0)) (h2 : ¬ Fresh out a) (h3 : 1000000000000 < ((stepA out a).getD (out.length - 1) zA).n) : Over (stepA out a) := by
  have hl : 0 < out.length := by unfold Fresh at h2; omega
  have hv := valid_n ha
  have hk : (out.getD (out.length - 1) zA).kind = a.kind := by
    by_cases hk : (out.getD (out.length - 1) zA).kind = a.kind
    · exact hk
    · exact absurd (.inr (.inl hk)) h2
  cases hp : isPulse a with
  | true =>
    have e := st_add h1 h2 hp
    rw [e] at h3 ⊢
    refine ⟨out.length - 1, by simp; omega, ?_, h3⟩
    rw [getD_set (by omega), if_pos rfl]
    unfold isPulse at hp ⊢
    rw [hk]; exact hp
  | false =>
    rw [st_put h1 h2 hp, getD_set (by omega), if_pos rfl] at h3
    omega
theorem sh_same {l : List VAct} {k : Nat} (hk : k < l.length) (h1 : ¬ (isPulse (l.getD k zA) = true ∧ (l.getD k zA).n = 0)) (h2 : ¬ Fresh (shortL l k) (l.getD k zA)) : (shortL l (k + 1)).length = (shortL l k).length := by
  rw [shortL_succ hk]
  cases hp : isPulse (l.getD k zA) with
  | true => rw [st_add h1 h2 hp, List.length_set]
  | false => rw [st_put h1 h2 hp, List.length_set]
theorem shk_big {l : List VAct} {k : Nat} (hk : k = l.length) (h : ¬ afault l ≠ 0) (h1 : (shortL l k).any big = true) : shortV l = ([], 2) := by subst hk; exact sh_big h h1
theorem shk_ok {l : List VAct} {k : Nat} (hk : k = l.length) (h : ¬ afault l ≠ 0) (h1 : (shortL l k).any big = false) : shortV l = (shortL l k, 0) := by subst hk; exact sh_ok h h1
theorem shk_low {l : List VAct} {k : Nat} (hk : k = l.length) (h : ¬ afault l ≠ 0) (h1 : Low 1000000000000 (shortL l k)) : shortV l = (shortL l k, 0) := shk_ok hk h (low_any h1)
theorem shk_over {l : List VAct} {k : Nat} (hk : k < l.length) (h : ¬ afault l ≠ 0) (h1 : Over (shortL l (k + 1))) : shortV l = ([], 2) := by
  have := over_later (af_zero h).1 h1 (l.length - (k + 1)) (by omega)
  rw [show k + 1 + (l.length - (k + 1)) = l.length by omega] at this
  exact sh_big h (over_any this)
theorem shk_bad {l : List VAct} {k : Nat} (hk : k < l.length) (h : validAct (l.getD k zA) = false) : shortV l = ([], 1) := by
  have e := af_bad' hk h
  rw [sh_bad (by rw [e]; decide), e]
theorem shk_long {l : List VAct} (h : l.any badA = false) (h1 : 60 < (l.length : Int)) : shortV l = ([], 3) := by
  have e := (af_long h h1).symm
  rw [sh_bad (by rw [e]; decide), e]
theorem af_zero' {l : List VAct} (h : l.any badA = false) (h1 : ¬ 60 < (l.length : Int)) : ¬ afault l ≠ 0 := by rw [← af_ok h h1]; decide
theorem put_add {l : List VAct} {k : Nat} (hk : k < l.length) (h1 : ¬ (isPulse (l.getD k zA) = true ∧ (l.getD k zA).n = 0)) (h2 : ¬ Fresh (shortL l k) (l.getD k zA)) (h3 : isPulse (l.getD k zA) = true) {q : Nat} (hq : q = ((shortL l k).length - 1) * 2 + 1) : put ((shortL l k).flatMap encA) q [.int .i64 (((shortL l k).getD ((shortL l k).length - 1) zA).n + (l.getD k zA).n)] = (shortL l (k + 1)).flatMap encA := by
  rw [shortL_succ hk, st_add h1 h2 h3]
  exact flat_putp encA_len zA (shortL l k) _ _ (by unfold Fresh at h2; omega) 1 _ rfl rfl hq
theorem put_put {l : List VAct} {k : Nat} (hk : k < l.length) (h1 : ¬ (isPulse (l.getD k zA) = true ∧ (l.getD k zA).n = 0)) (h2 : ¬ Fresh (shortL l k) (l.getD k zA)) (h3 : isPulse (l.getD k zA) = false) {q : Nat} (hq : q = ((shortL l k).length - 1) * 2) : put ((shortL l k).flatMap encA) q (encA (l.getD k zA)) = (shortL l (k + 1)).flatMap encA := by
  rw [shortL_succ hk, st_put h1 h2 h3]
  exact flat_putp encA_len zA (shortL l k) _ _ (by unfold Fresh at h2; omega) 0 _ rfl rfl (by omega)
end Go.W

/- What is played, in plain numbers. -/
set_option linter.unusedVariables false
set_option linter.unusedSimpArgs false
namespace Go.W
open Go Go.Sx
def ticV (d : VDev) : VTic := ⟨d.tickets, d.shows, check d.tickets d.shows.l⟩
def runD (d : VDev) (l : List VAct) : Nat → VDev
  | 0 => d
  | k + 1 => (doV (runD d l k) (l.getD k zA)).1
def lostD (d : VDev) (l : List VAct) : Nat → Int
  | 0 => 0
  | k + 1 => lostD d l k + (doV (runD d l k) (l.getD k zA)).2.1
def notesL (d : VDev) (l : List VAct) : Nat → List VNote
  | 0 => []
  | k + 1 => notesL d l k ++ [⟨l.getD k zA, (doV (runD d l k) (l.getD k zA)).1.shows, (doV (runD d l k) (l.getD k zA)).2.1⟩]
def ticsL (d : VDev) (l : List VAct) : Nat → List VTic
  | 0 => []
  | k + 1 => if (l.getD k zA).kind = 5 then ticsL d l k ++ [ticV (doV (runD d l k) (l.getD k zA)).1] else ticsL d l k
def runC (d : VDev) (l : List VAct) : Nat → Int
  | 0 => 0
  | k + 1 => if runC d l k ≠ 0 then runC d l k else (doV (runD d l k) (l.getD k zA)).2.2
theorem runD_stack (d : VDev) (l : List VAct) : ∀ k, (runD d l k).stack = d.stack
  | 0 => rfl
  | k + 1 => by rw [runD, do_stack, runD_stack d l k]
theorem notesL_len (d : VDev) (l : List VAct) : ∀ k, (notesL d l k).length = k
  | 0 => rfl
  | k + 1 => by rw [notesL, List.length_append, notesL_len d l k]; rfl
theorem ticsL_len (d : VDev) (l : List VAct) : ∀ k, (ticsL d l k).length ≤ k
  | 0 => by simp [ticsL]
  | k + 1 => by
    have := ticsL_len d l k
    rw [ticsL]; split
    · rw [List.length_append]; simp; omega
    · omega
theorem tl_5 {d : VDev} {l : List VAct} {k : Nat} (h : (l.getD k zA).kind = 5) : ticsL d l (k + 1) = ticsL d l k ++ [ticV (doV (runD d l k) (l.getD k zA)).1] := by rw [ticsL, if_pos h]
theorem tl_n {d : VDev} {l : List VAct} {k : Nat} (h : ¬ (l.getD k zA).kind = 5) : ticsL d l (k + 1) = ticsL d l k := by rw [ticsL, if_neg h]
theorem rc_go {d : VDev} {l : List VAct} {k : Nat} (h : runC d l k = 0) : runC d l (k + 1) = (doV (runD d l k) (l.getD k zA)).2.2 := by rw [runC, if_neg (by simp [h])]
theorem rc_stay {d : VDev} {l : List VAct} {k : Nat} (h : runC d l k ≠ 0) : ∀ j, runC d l (k + j) = runC d l k
  | 0 => rfl
  | j + 1 => by
    have := rc_stay h j
    rw [show k + (j + 1) = (k + j) + 1 by omega, runC, if_pos (by rw [this]; exact h), this]
theorem run_ok {d : VDev} {l : List VAct} (hk : OkDev d) (hv : validDev d = true) (ha : ∀ i, i < l.length → validAct (l.getD i zA) = true) : ∀ k, k ≤ l.length → OkDev (runD d l k) ∧ validDev (runD d l k) = true
  | 0, _ => ⟨hk, hv⟩
  | k + 1, h => by
    have := run_ok hk hv ha k (by omega)
    exact do_ok this.1 this.2 (ha k (by omega))
theorem until_ge {d : VDev} (hO : DevOk d) (st : Int) : 1 ≤ untilV d st := (until_bd hO st).1
theorem pulse_lost {d : VDev} {n st : Int} (hO : DevOk d) (hn : 0 ≤ n ∧ n ≤ 1000000000000) : 0 ≤ (pulseV d n st).2 ∧ (pulseV d n st).2 ≤ 1000000000000 := by
  have hu := until_ge hO st
  unfold pulseV
  split
  · exact hn
  · split
    · rename_i h1 h2
      show 0 ≤ n - untilV d st ∧ n - untilV d st ≤ 1000000000000
      omega
    · show (0 : Int) ≤ 0 ∧ (0 : Int) ≤ 1000000000000
      omega
theorem do_lost {d : VDev} {a : VAct} (hk : OkDev d) (hv : validDev d = true) (ha : validAct a = true) : 0 ≤ (doV d a).2.1 ∧ (doV d a).2.1 ≤ 1000000000000 := by
  have hO := devOk hk.2.2.1 hv
  have han := act_n ha
  have hz : (0 : Int) ≤ 0 ∧ (0 : Int) ≤ 1000000000000 := by omega
  unfold doV
  split
  · exact pulse_lost hO (han.1 (.inl (by assumption)))
  · split
    · exact pulse_lost hO (han.1 (.inr (by assumption)))
    · split
      · split
        · exact hz
        · exact hz
      · split
        · exact hz
        · split
          · split
            · exact hz
            · exact hz
          · exact hz
theorem lost_bd {d : VDev} {l : List VAct} (hk : OkDev d) (hv : validDev d = true) (ha : ∀ i, i < l.length → validAct (l.getD i zA) = true) : ∀ k, k ≤ l.length → 0 ≤ lostD d l k ∧ lostD d l k ≤ k * 1000000000000
  | 0, _ => by simp [lostD]
  | k + 1, h => by
    have h1 := lost_bd hk hv ha k (by omega)
    have h2 := run_ok hk hv ha k (by omega)
    have h3 := do_lost h2.1 h2.2 (ha k (by omega))
    rw [lostD]; omega
def askV (d : VDev) (l : List VAct) : Int := if validDev d = false then 1 else afault l
theorem ask_bad {d : VDev} {l : List VAct} (h : validDev d = false) : askV d l = 1 := by unfold askV; rw [if_pos h]
theorem ask_on {d : VDev} {l : List VAct} (h : validDev d = true) : askV d l = afault l := by unfold askV; rw [if_neg (by simp [h])]
theorem ask_zero {d : VDev} {l : List VAct} (h : ¬ askV d l ≠ 0) : validDev d = true ∧ (∀ i, i < l.length → validAct (l.getD i zA) = true) ∧ l.length ≤ 60 := by
  unfold askV at h
  split at h
  · exact absurd (by decide) h
  · rename_i h1
    have := af_zero h
    exact ⟨by simpa using h1, this.1, this.2⟩
def runV (d : VDev) (l : List VAct) : VDev × List VNote × List VTic × Int × Int :=
  if askV d l ≠ 0 then (zDev, [], [], 0, askV d l)
  else if runC d l l.length ≠ 0 then (zDev, [], [], 0, runC d l l.length)
  else if 1000000000000 < lostD d l l.length then (zDev, [], [], 0, 2)
  else (runD d l l.length, notesL d l l.length, ticsL d l l.length, lostD d l l.length, 0)
theorem rv_ask {d : VDev} {l : List VAct} (h : askV d l ≠ 0) : runV d l = (zDev, [], [], 0, askV d l) := by unfold runV; rw [if_pos h]
theorem rv_code {d : VDev} {l : List VAct} {k : Nat} (h : ¬ askV d l ≠ 0) (hk : k ≤ l.length) (h1 : runC d l k ≠ 0) : runV d l = (zDev, [], [], 0, runC d l k) := by
  have e := rc_stay h1 (l.length - k)
  rw [show k + (l.length - k) = l.length by omega] at e
  unfold runV; rw [if_neg h, if_pos (by rw [e]; exact h1), e]
theorem rv_over {d : VDev} {l : List VAct} {k : Nat} (h : ¬ askV d l ≠ 0) (hk : k = l.length) (h1 : runC d l k = 0) (h2 : 1000000000000 < lostD d l k) : runV d l = (zDev, [], [], 0, 2) := by
  subst hk; unfold runV; rw [if_neg h, if_neg (by simp [h1]), if_pos h2]
theorem rv_ok {d : VDev} {l : List VAct} {k : Nat} (h : ¬ askV d l ≠ 0) (hk : k = l.length) (h1 : runC d l k = 0) (h2 : ¬ 1000000000000 < lostD d l k) : runV d l = (runD d l k, notesL d l k, ticsL d l k, lostD d l k, 0) := by
  subst hk; unfold runV; rw [if_neg h, if_neg (by simp [h1]), if_neg h2]
def sumN (ns : List VNote) : Nat → Int
  | 0 => 0
  | k + 1 => sumN ns k + (ns.getD k zN).lost
theorem notesL_at (d : VDev) (l : List VAct) : ∀ k i, i < k → (notesL d l k).getD i zN = ⟨l.getD i zA, (doV (runD d l i) (l.getD i zA)).1.shows, (doV (runD d l i) (l.getD i zA)).2.1⟩
  | k + 1, i, h => by
    have hl := notesL_len d l k
    rw [notesL]
    rcases Nat.lt_or_ge i k with hi | hi
    · rw [show (notesL d l k ++ [(⟨l.getD k zA, (doV (runD d l k) (l.getD k zA)).1.shows, (doV (runD d l k) (l.getD k zA)).2.1⟩ : VNote)]).getD i zN = (notesL d l k).getD i zN by simp only [List.getD, List.getElem?_append_left (show i < (notesL d l k).length by omega)]]
      exact notesL_at d l k i hi
    · obtain rfl : i = k := by omega
      simp only [List.getD, List.getElem?_append_right (show (notesL d l i).length ≤ i by omega), hl, Nat.sub_self]; rfl
theorem sumN_notes (d : VDev) (l : List VAct) (n : Nat) : ∀ k, k ≤ n → sumN (notesL d l n) k = lostD d l k
  | 0, _ => rfl
  | k + 1, h => by rw [sumN, lostD, sumN_notes d l n k (by omega), notesL_at d l n k (by omega)]
/-- What a run's notes are known to be. -/
def NotesOk (ns : List VNote) (s : Int) : Prop := ns.length ≤ 60 ∧ sumN ns ns.length = s ∧ ∀ k, k ≤ ns.length → 0 ≤ sumN ns k ∧ sumN ns k ≤ k * 1000000000000
theorem run_notes {d : VDev} {l : List VAct} (hk : OkDev d) : NotesOk (runV d l).2.1 (runV d l).2.2.2.1 := by
  have hnil : NotesOk [] 0 := ⟨by simp, rfl, fun k hk => by simp at hk; subst hk; simp [sumN]⟩
  unfold runV
  split
  · exact hnil
  · rename_i h
    obtain ⟨hv, ha, hn⟩ := ask_zero h
    split
    · exact hnil
    · split
      · exact hnil
      · refine ⟨by show (notesL d l l.length).length ≤ 60; rw [notesL_len]; exact hn, ?_, fun k hkl => ?_⟩
        · show sumN (notesL d l l.length) (notesL d l l.length).length = lostD d l l.length
          rw [notesL_len]; exact sumN_notes d l _ _ (Nat.le_refl _)
        · have hkl : k ≤ (notesL d l l.length).length := hkl
          rw [notesL_len] at hkl
          show 0 ≤ sumN (notesL d l l.length) k ∧ sumN (notesL d l l.length) k ≤ k * 1000000000000
          rw [sumN_notes d l _ _ hkl]; exact lost_bd hk hv ha k hkl
theorem rv_tics (d : VDev) (l : List VAct) : (runV d l).2.2.1.length ≤ l.length := by
  unfold runV
  split
  · simp
  · split
    · simp
    · split
      · simp
      · exact ticsL_len d l _
theorem rv_stack (d : VDev) (l : List VAct) : (runV d l).1.stack.length ≤ d.stack.length := by
  unfold runV
  split
  · simp [zDev]
  · split
    · simp [zDev]
    · split
      · simp [zDev]
      · show (runD d l l.length).stack.length ≤ _
        rw [runD_stack]; exact Nat.le_refl _
/-- A ticket asked for. -/
def a5 : VAct := ⟨5, 0⟩
def printV (d : VDev) : VDev × VTic × Int := if (doActV d a5).2.2 ≠ 0 then (zDev, zT, (doActV d a5).2.2) else ((doActV d a5).1, ticV (doActV d a5).1, 0)
theorem pr_no {d : VDev} (h : (doActV d a5).2.2 ≠ 0) : printV d = (zDev, zT, (doActV d a5).2.2) := by unfold printV; rw [if_pos h]
theorem pr_ok {d : VDev} (h : ¬ (doActV d a5).2.2 ≠ 0) : printV d = ((doActV d a5).1, ticV (doActV d a5).1, 0) := by unfold printV; rw [if_neg h]
theorem do5_lost (d : VDev) : (doV d a5).2.1 = 0 := by
  by_cases h : d.tickets = 1000000
  · rw [do_5n rfl h]
  · rw [do_5 rfl h]
theorem run_5 (d : VDev) : (runV d [a5]).2.2.2.2 = (doActV d a5).2.2 ∧ (¬ (doActV d a5).2.2 ≠ 0 → (runV d [a5]).1 = (doActV d a5).1 ∧ (runV d [a5]).2.2.1 = [ticV (doActV d a5).1]) := by
  have hva : validAct a5 = true := by decide
  have hl : lostD d [a5] 1 = 0 := by show 0 + (doV d a5).2.1 = 0; rw [do5_lost]; rfl
  have hc : runC d [a5] 1 = (doV d a5).2.2 := rc_go rfl
  cases hv : validDev d with
  | false =>
    have e := ask_bad (l := [a5]) hv
    rw [rv_ask (by rw [e]; decide), e, da_bad (by simp [hv])]
    exact ⟨rfl, fun h => absurd (by decide) h⟩
  | true =>
    have e : ¬ askV d [a5] ≠ 0 := by rw [ask_on hv]; decide
    by_cases h : (doV d a5).2.2 ≠ 0
    · rw [rv_code (k := 1) e (by simp) (by rw [hc]; exact h), hc, da_no ⟨hv, hva⟩ h]
      exact ⟨rfl, fun h1 => absurd h h1⟩
    · rw [rv_ok (k := 1) e rfl (by rw [hc]; omega) (by rw [hl]; omega), da_ok ⟨hv, hva⟩ h]
      exact ⟨by show (0 : Int) = _; omega, fun _ => ⟨rfl, tl_5 (d := d) (l := [a5]) (k := 0) rfl⟩⟩
def okB (d : VDev) (l : List VAct) : Nat → Bool
  | 0 => validDev d
  | k + 1 => validAct (l.getD k zA)
theorem ok_all {d : VDev} {l : List VAct} {k : Nat} (hk : k ≤ l.length) (hall : ∀ i, i < k → okB d l i = true) (h : okB d l k = true) : validDev d = true ∧ ∀ i, i < k → validAct (l.getD i zA) = true := by
  have h1 : ∀ i, i ≤ k → okB d l i = true := fun i hi => by
    rcases Nat.lt_or_ge i k with h2 | h2
    · exact hall i h2
    · obtain rfl : i = k := by omega
      exact h
  exact ⟨h1 0 (by omega), fun i hi => h1 (i + 1) (by omega)⟩
theorem ask_f {d : VDev} {l : List VAct} {k : Nat} (hk : k ≤ l.length) (hall : ∀ i, i < k → okB d l i = true) (h : okB d l k = false) : 1 = askV d l := by
  cases k with
  | zero => exact (ask_bad h).symm
  | succ k =>
    have h1 := ok_all (k := k) (by omega) (fun i hi => hall i (by omega)) (hall k (by omega))
    rw [ask_on h1.1]
    exact (af_bad' (k := k) (by omega) h).symm
theorem ask_t {d : VDev} {l : List VAct} {k : Nat} (hk' : ¬ k < l.length) (hk : k ≤ l.length) (hall : ∀ i, i < k → okB d l i = true) (h : okB d l k = true) : validDev d = true ∧ l.any badA = false := by
  have h1 := ok_all hk hall h
  exact ⟨h1.1, any_bad_f hk' h1.2⟩
theorem ask_3 {d : VDev} {l : List VAct} {k : Nat} (hk' : ¬ k < l.length) (hk : k ≤ l.length) (hall : ∀ i, i < k → okB d l i = true) (h : okB d l k = true) (h1 : 60 < (l.length : Int)) : 3 = askV d l := by
  have h2 := ask_t hk' hk hall h
  rw [ask_on h2.1]; exact af_long h2.2 h1
theorem ask_0 {d : VDev} {l : List VAct} {k : Nat} (hk' : ¬ k < l.length) (hk : k ≤ l.length) (hall : ∀ i, i < k → okB d l i = true) (h : okB d l k = true) (h1 : ¬ 60 < (l.length : Int)) : 0 = askV d l := by
  have h2 := ask_t hk' hk hall h
  rw [ask_on h2.1]; exact af_ok h2.2 h1
def cdV (d : VDev) (l : List VAct) (k : Nat) : Int := if askV d l ≠ 0 then askV d l else runC d l k
theorem cd_0 (d : VDev) (l : List VAct) : cdV d l 0 = askV d l := by
  unfold cdV; split
  · rfl
  · rename_i h; show (0 : Int) = _; omega
theorem cd_zero {d : VDev} {l : List VAct} {k : Nat} (h : cdV d l k = 0) : ¬ askV d l ≠ 0 ∧ runC d l k = 0 := by
  unfold cdV at h; split at h
  · rename_i h1; exact absurd h h1
  · rename_i h1; exact ⟨h1, h⟩
theorem cd_go {d : VDev} {l : List VAct} {k : Nat} (h : cdV d l k = 0) : cdV d l (k + 1) = (doV (runD d l k) (l.getD k zA)).2.2 := by
  obtain ⟨h1, h2⟩ := cd_zero h
  unfold cdV; rw [if_neg h1, rc_go h2]
theorem rv_cd {d : VDev} {l : List VAct} {k : Nat} (hk : k ≤ l.length) (h : cdV d l k ≠ 0) : runV d l = (zDev, [], [], 0, cdV d l k) := by
  by_cases h1 : askV d l ≠ 0
  · rw [rv_ask h1, show cdV d l k = askV d l from if_pos h1]
  · have e : cdV d l k = runC d l k := if_neg h1
    rw [e] at h ⊢
    exact rv_code h1 hk h
theorem rv_cover {d : VDev} {l : List VAct} {k : Nat} (hk' : ¬ k < l.length) (hk : k ≤ l.length) (h : cdV d l k = 0) (h2 : 1000000000000 < lostD d l k) : runV d l = (zDev, [], [], 0, 2) :=
  rv_over (cd_zero h).1 (by omega) (cd_zero h).2 h2
theorem rv_cok {d : VDev} {l : List VAct} {k : Nat} (hk' : ¬ k < l.length) (hk : k ≤ l.length) (h : cdV d l k = 0) (h2 : ¬ 1000000000000 < lostD d l k) : runV d l = (runD d l k, notesL d l k, ticsL d l k, lostD d l k, 0) :=
  rv_ok (cd_zero h).1 (by omega) (cd_zero h).2 h2
theorem da_dev {d : VDev} {a : VAct} (hk : OkDev d) (h : ¬ (doActV d a).2.2 ≠ 0) : OkDev (doActV d a).1 ∧ validDev (doActV d a).1 = true := by
  by_cases h1 : validDev d = true ∧ validAct a = true
  · by_cases h2 : (doV d a).2.2 ≠ 0
    · rw [da_no h1 h2] at h; exact absurd h2 h
    · rw [da_ok h1 h2]; exact do_ok hk h1.1 h1.2
  · rw [da_bad h1] at h; exact absurd (by decide) h
theorem a5_ok : OkAct a5 := by unfold OkAct I64 a5; decide
theorem prs_no {d : VDev} (h : (runV d [a5]).2.2.2.2 ≠ 0) : printV d = (zDev, zT, (runV d [a5]).2.2.2.2) := by
  have e := (run_5 d).1
  rw [pr_no (by rw [← e]; exact h), e]
theorem prs_ok {d : VDev} (h : ¬ (runV d [a5]).2.2.2.2 ≠ 0) : printV d = ((runV d [a5]).1, (runV d [a5]).2.2.1.getD 0 zT, 0) := by
  have e := (run_5 d).1
  have h1 : ¬ (doActV d a5).2.2 ≠ 0 := by rw [← e]; exact h
  obtain ⟨e1, e2⟩ := (run_5 d).2 h1
  rw [pr_ok h1, e1, e2]; rfl
theorem prs_len (d : VDev) : (runV d [a5]).2.2.2.2 ≠ 0 ∨ 0 < (runV d [a5]).2.2.1.length := by
  by_cases h : (runV d [a5]).2.2.2.2 ≠ 0
  · exact .inl h
  · refine .inr ?_
    have e := (run_5 d).1
    obtain ⟨e1, e2⟩ := (run_5 d).2 (by rw [← e]; exact h)
    rw [e2]; simp
theorem pr_stack (d : VDev) : (printV d).1.stack.length ≤ d.stack.length := by
  unfold printV; split
  · simp [zDev]
  · exact da_len d a5
end Go.W

/- What is played, as the program plays it, in plain numbers. -/
set_option linter.unusedVariables false
set_option linter.unusedSimpArgs false
namespace Go.W
open Go Go.Sx
def notesR (d : VDev) (l : List VAct) : List VNote × Int × Int :=
  if runC d l l.length ≠ 0 then ([], 0, runC d l l.length) else if 1000000000000 < lostD d l l.length then ([], 0, 2) else (notesL d l l.length, lostD d l l.length, 0)
theorem rc_hit {d : VDev} {l : List VAct} {k : Nat} (hk : k < l.length) (h0 : runC d l k = 0) (h : (doV (runD d l k) (l.getD k zA)).2.2 ≠ 0) : runC d l l.length = (doV (runD d l k) (l.getD k zA)).2.2 := by
  have e := rc_go h0
  have := rc_stay (k := k + 1) (by rw [e]; exact h) (l.length - (k + 1))
  rw [show k + 1 + (l.length - (k + 1)) = l.length by omega, e] at this
  exact this
theorem nr_code {d : VDev} {l : List VAct} {k : Nat} (hk : k < l.length) (h0 : runC d l k = 0) (h : (doV (runD d l k) (l.getD k zA)).2.2 ≠ 0) : notesR d l = ([], 0, (doV (runD d l k) (l.getD k zA)).2.2) := by
  have e := rc_hit hk h0 h
  unfold notesR; rw [if_pos (by rw [e]; exact h), e]
theorem nr_over {d : VDev} {l : List VAct} {k : Nat} (hk : ¬ k < l.length) (hk' : k ≤ l.length) (h0 : runC d l k = 0) (h : 1000000000000 < lostD d l k) : notesR d l = ([], 0, 2) := by
  obtain rfl : k = l.length := by omega
  unfold notesR; rw [if_neg (by simp [h0]), if_pos h]
theorem nr_ok {d : VDev} {l : List VAct} {k : Nat} (hk : ¬ k < l.length) (hk' : k ≤ l.length) (h0 : runC d l k = 0) (h : ¬ 1000000000000 < lostD d l k) : notesR d l = (notesL d l k, lostD d l k, 0) := by
  obtain rfl : k = l.length := by omega
  unfold notesR; rw [if_neg (by simp [h0]), if_neg h]
theorem rv_vd {d : VDev} {l : List VAct} (h : validDev d = false) : runV d l = (zDev, [], [], 0, 1) := by
  have e := ask_bad (l := l) h
  rw [rv_ask (by rw [e]; decide), e]
theorem rv_af {d : VDev} {l : List VAct} (h : validDev d = true) (h1 : afault l ≠ 0) : runV d l = (zDev, [], [], 0, afault l) := by
  have e := ask_on (l := l) h
  rw [rv_ask (by rw [e]; exact h1), e]
theorem rv_nc {d : VDev} {l : List VAct} (h : validDev d = true) (h1 : ¬ afault l ≠ 0) (h2 : (notesR d l).2.2 ≠ 0) : runV d l = (zDev, [], [], 0, (notesR d l).2.2) := by
  have e : ¬ askV d l ≠ 0 := by rw [ask_on h]; exact h1
  unfold runV; rw [if_neg e]
  unfold notesR at h2 ⊢
  by_cases h3 : runC d l l.length ≠ 0
  · rw [if_pos h3, if_pos h3]
  · rw [if_neg h3] at h2 ⊢
    by_cases h4 : 1000000000000 < lostD d l l.length
    · rw [if_pos h4, if_neg h3, if_pos h4]
    · rw [if_neg h4] at h2; exact absurd rfl h2
theorem rv_no {d : VDev} {l : List VAct} (h : validDev d = true) (h1 : ¬ afault l ≠ 0) (h2 : ¬ (notesR d l).2.2 ≠ 0) {kd kt : Nat} (hx : runC d l l.length = 0 → kd = l.length ∧ kt = l.length) : runV d l = (runD d l kd, (notesR d l).1, ticsL d l kt, (notesR d l).2.1, 0) := by
  have e : ¬ askV d l ≠ 0 := by rw [ask_on h]; exact h1
  unfold runV; rw [if_neg e]
  unfold notesR at h2 ⊢
  by_cases h3 : runC d l l.length ≠ 0
  · rw [if_pos h3] at h2; exact absurd h3 h2
  · rw [if_neg h3] at h2 ⊢
    obtain ⟨e1, e2⟩ := hx (by omega)
    by_cases h4 : 1000000000000 < lostD d l l.length
    · rw [if_pos h4] at h2; exact absurd (by decide) h2
    · rw [if_neg h4, if_neg h3, if_neg h4, e1, e2]
theorem nr_len (d : VDev) (l : List VAct) : (notesR d l).1.length ≤ l.length := by
  unfold notesR; split
  · simp
  · split
    · simp
    · show (notesL d l l.length).length ≤ _
      rw [notesL_len]; exact Nat.le_refl _
end Go.W

/- Marks in lists of tickets and of notes. -/
set_option linter.unusedVariables false
set_option linter.unusedSimpArgs false
namespace Go.W
open Go Go.Sx
def digK (k : Int) : Dig := ⟨(k + ((0 : Nat) : Int)) % 256, (k + ((1 : Nat) : Int)) % 256, (k + ((2 : Nat) : Int)) % 256, (k + ((3 : Nat) : Int)) % 256, (k + ((4 : Nat) : Int)) % 256, (k + ((5 : Nat) : Int)) % 256, (k + ((6 : Nat) : Int)) % 256, (k + ((7 : Nat) : Int)) % 256⟩
def tk (k : Int) (i : Nat) : VTic := ⟨k + 10 * (i : Int), digK (k + 10 * (i : Int) + 1), IntKind.u16.wrap (k + 10 * (i : Int) + 1 + ((8 : Nat) : Int))⟩
def mkT (n : Nat) (k : Int) : List VTic := (List.range n).map (tk k)
theorem mkT_len (n : Nat) (k : Int) : (mkT n k).length = n := by simp [mkT]
theorem mkT_at {n : Nat} {k : Int} {i : Nat} (h : i < n) : (mkT n k).getD i zT = tk k i := by simp [mkT, List.getD, h]
theorem mkT_cell {n : Nat} {k : Int} {i j : Nat} (h : i < n) (hj : j < 10) : ((mkT n k).flatMap encT)[i * 10 + j]? = (encT (tk k i))[j]? := by
  rw [flat_get encT_len zT _ _ _ (by rw [mkT_len]; exact h) hj, mkT_at h]
theorem mkT_dig {n : Nat} {k : Int} {i j q : Nat} (h : i < n) (hj : j < 8) (hq : q = i * 10 + 1 + j) : ((mkT n k).flatMap encT)[q]? = some (.int .u8 ((k + 10 * i + 1 + j) % 256)) := by
  rw [hq, show i * 10 + 1 + j = i * 10 + (1 + j) by omega, mkT_cell h (by omega)]
  match j, hj with
  | 0, _ | 1, _ | 2, _ | 3, _ | 4, _ | 5, _ | 6, _ | 7, _ => rfl
def nk (k : Int) (i : Nat) : VNote := ⟨⟨IntKind.i8.wrap (k + 11 * (i : Int)), k + 11 * (i : Int) + 1⟩, digK (k + 11 * (i : Int) + 1 + 1), k + 11 * (i : Int) + 1 + 1 + ((8 : Nat) : Int)⟩
def mkN (n : Nat) (k : Int) : List VNote := (List.range n).map (nk k)
theorem mkN_len (n : Nat) (k : Int) : (mkN n k).length = n := by simp [mkN]
theorem mkN_at {n : Nat} {k : Int} {i : Nat} (h : i < n) : (mkN n k).getD i zN = nk k i := by simp [mkN, List.getD, h]
theorem mkN_cell {n : Nat} {k : Int} {i j : Nat} (h : i < n) (hj : j < 11) : ((mkN n k).flatMap encN)[i * 11 + j]? = (encN (nk k i))[j]? := by
  rw [flat_get encN_len zN _ _ _ (by rw [mkN_len]; exact h) hj, mkN_at h]
theorem mkN_dig {n : Nat} {k : Int} {i j q : Nat} (h : i < n) (hj : j < 8) (hq : q = i * 11 + 2 + j) : ((mkN n k).flatMap encN)[q]? = some (.int .u8 ((k + 11 * i + 1 + 1 + j) % 256)) := by
  rw [hq, show i * 11 + 2 + j = i * 11 + (2 + j) by omega, mkN_cell h (by omega)]
  match j, hj with
  | 0, _ | 1, _ | 2, _ | 3, _ | 4, _ | 5, _ | 6, _ | 7, _ => rfl
theorem rv_notes_len {d : VDev} {l : List VAct} (hk : OkDev d) : (runV d l).2.1.length ≤ 60 := (run_notes hk).1
theorem rv_tics_len (d : VDev) (l : List VAct) : (runV d l).2.2.1.length ≤ 60 := by
  unfold runV
  split
  · simp
  · rename_i h
    have hn := (ask_zero h).2.2
    split
    · simp
    · split
      · simp
      · show (ticsL d l l.length).length ≤ 60
        have := ticsL_len d l l.length
        omega
end Go.W

/- Numbers that lack, in plain numbers. -/
set_option linter.unusedVariables false
set_option linter.unusedSimpArgs false
namespace Go.W
open Go Go.Sx
def mkI (n : Nat) (k : Int) : List Int := (List.range n).map fun (i : Nat) => k + (i : Int)
theorem mkI_len (n : Nat) (k : Int) : (mkI n k).length = n := by simp [mkI]
theorem mkI_at {n : Nat} {k : Int} {i : Nat} (h : i < n) : (mkI n k).getD i 0 = k + (i : Int) := by simp [mkI, List.getD, h]
def hasI (s : List Int) (n : Int) : Bool := decide (∃ i, i < s.length ∧ s.getD i 0 = n)
theorem has_t {s : List Int} {n : Int} {k : Nat} (hk : k < s.length) (h : s.getD k 0 = n) : true = hasI s n := by unfold hasI; exact (decide_eq_true ⟨k, hk, h⟩).symm
theorem has_f {s : List Int} {n : Int} {k : Nat} (hk : ¬ k < s.length) (h : ∀ i, i < k → s.getD i 0 ≠ n) : false = hasI s n := by
  unfold hasI; exact (decide_eq_false fun ⟨i, hi, e⟩ => h i (by omega) e).symm
def numsL (l : List VTic) : Nat → List Int
  | 0 => []
  | k + 1 => if hasI (numsL l k) (l.getD k zT).number = true then numsL l k else numsL l k ++ [(l.getD k zT).number]
def mostL (l : List VTic) : Nat → Int
  | 0 => 0
  | k + 1 => max (mostL l k) (l.getD k zT).number
def lackL (ns : List Int) : Nat → List Int
  | 0 => []
  | j + 1 => if hasI ns ((j : Int) + 1) = true then lackL ns j else lackL ns j ++ [(j : Int) + 1]
theorem nl_t {l : List VTic} {k : Nat} (h : hasI (numsL l k) (l.getD k zT).number = true) : numsL l (k + 1) = numsL l k := by rw [numsL, if_pos h]
theorem nl_f {l : List VTic} {k : Nat} (h : hasI (numsL l k) (l.getD k zT).number = false) : numsL l (k + 1) = numsL l k ++ [(l.getD k zT).number] := by rw [numsL, if_neg (by rw [h]; decide)]
theorem ll_t {ns : List Int} {j : Nat} (h : hasI ns ((j : Int) + 1) = true) : lackL ns (j + 1) = lackL ns j := by rw [lackL, if_pos h]
theorem ll_f {ns : List Int} {j : Nat} (h : hasI ns ((j : Int) + 1) = false) : lackL ns (j + 1) = lackL ns j ++ [(j : Int) + 1] := by rw [lackL, if_neg (by rw [h]; decide)]
theorem numsL_len (l : List VTic) : ∀ k, (numsL l k).length ≤ k
  | 0 => by simp [numsL]
  | k + 1 => by
    have := numsL_len l k
    rw [numsL]; split
    · omega
    · rw [List.length_append]; simp; omega
theorem lackL_len (ns : List Int) : ∀ k, (lackL ns k).length ≤ k
  | 0 => by simp [lackL]
  | k + 1 => by
    have := lackL_len ns k
    rw [lackL]; split
    · omega
    · rw [List.length_append]; simp; omega
def badG (s : List Int) (l : List VTic) (i : Nat) : Bool := !genT s (l.getD i zT)
theorem gen_n {s : List Int} {t : VTic} (h : genT s t = true) : 1 ≤ t.number ∧ t.number ≤ 1000000 := by unfold genT at h; rw [decide_eq_true_iff] at h; exact h.1
theorem most_bd {s : List Int} {l : List VTic} : ∀ k, (∀ i, i < k → badG s l i = false) → 0 ≤ mostL l k ∧ mostL l k ≤ 1000000
  | 0, _ => by simp [mostL]
  | k + 1, h => by
    have h1 := most_bd (s := s) (l := l) k fun i hi => h i (by omega)
    have h2 := h k (by omega)
    unfold badG at h2
    have h3 := gen_n (s := s) (t := l.getD k zT) (by simpa using h2)
    rw [mostL]; omega
def missV (s : List Int) (l : List VTic) : List Int × Int :=
  if tfault s l.length ≠ 0 then ([], tfault s l.length)
  else match firstB (badG s l) l.length with
    | some _ => ([], 8)
    | none => if 1000 < mostL l l.length - (numsL l l.length).length then ([], 2) else (lackL (numsL l l.length) (mostL l l.length).toNat, 0)
theorem mi_tf {s : List Int} {l : List VTic} (h : tfault s l.length ≠ 0) : missV s l = ([], tfault s l.length) := by unfold missV; rw [if_pos h]
theorem mi_bad {s : List Int} {l : List VTic} {k : Nat} (h : ¬ tfault s l.length ≠ 0) (hk : k < l.length) (hall : ∀ i, i < k → badG s l i = false) (hb : badG s l k = true) : missV s l = ([], 8) := by
  unfold missV; rw [if_neg h, firstB_hit hk hall hb]
theorem mi_far {s : List Int} {l : List VTic} {k : Nat} (h : ¬ tfault s l.length ≠ 0) (hk : k = l.length) (hall : ∀ i, i < k → badG s l i = false) (h1 : 1000 < mostL l k - (numsL l k).length) : missV s l = ([], 2) := by
  subst hk; unfold missV; rw [if_neg h, firstB_none (k := l.length) (by omega) hall]; exact if_pos h1
theorem mi_ok {s : List Int} {l : List VTic} {k j : Nat} (h : ¬ tfault s l.length ≠ 0) (hk : k = l.length) (hall : ∀ i, i < k → badG s l i = false) (h1 : ¬ 1000 < mostL l k - (numsL l k).length) (hj : j = (mostL l k).toNat) : missV s l = (lackL (numsL l k) j, 0) := by
  subst hk hj; unfold missV; rw [if_neg h, firstB_none (k := l.length) (by omega) hall]; exact if_neg h1
theorem mi_len {s : List Int} {l : List VTic} : (missV s l).1.length ≤ 1000000 := by
  unfold missV
  split
  · simp
  · split
    · simp
    · rename_i h
      split
      · simp
      · show (lackL _ _).length ≤ _
        have h1 := lackL_len (numsL l l.length) (mostL l l.length).toNat
        have h2 : ∀ i, i < l.length → badG s l i = false := fun i hi => by
          unfold firstB at h
          rw [List.find?_eq_none] at h
          simpa using h i (by simpa using hi)
        have h3 := most_bd (s := s) (l := l) l.length h2
        omega
theorem gbad {s : List Int} {l : List VTic} {k : Nat} (h : genT s (l.getD k zT) = false) : badG s l k = true := by unfold badG; rw [h]; rfl
theorem ggood {s : List Int} {l : List VTic} {k : Nat} (h : genT s (l.getD k zT) = true) : badG s l k = false := by unfold badG; rw [h]; rfl
end Go.W

/- Readings and totals in plain numbers. -/
set_option linter.unusedVariables false
set_option linter.unusedSimpArgs false
namespace Go.W
open Go Go.Sx
structure VP where
  a : Int
  b : Int
def encP (p : VP) : List Value := [.int .i64 p.a, .int .i64 p.b]
theorem encP_len : ∀ p, (encP p).length = 2 := fun _ => rfl
def zP : VP := ⟨0, 0⟩
def OkP (p : VP) : Prop := I64 p.a ∧ I64 p.b
def sameP (x y : VP) : Bool := decide (x.a = y.a ∧ x.b = y.b)
theorem sameP_refl (x : VP) : sameP x x = true := by simp [sameP]
theorem samePs_refl (s : List VP) : allEq sameP zP s s = true := allEq_refl sameP_refl _ _
def mkP (n : Nat) (k : Int) : List VP := (List.range n).map fun (i : Nat) => ⟨k + 2 * (i : Int), k + 2 * (i : Int) + 1⟩
theorem mkP_len (n : Nat) (k : Int) : (mkP n k).length = n := by simp [mkP]
theorem mkP_at {n : Nat} {k : Int} {i : Nat} (h : i < n) : (mkP n k).getD i zP = ⟨k + 2 * (i : Int), k + 2 * (i : Int) + 1⟩ := by simp [mkP, List.getD, h]
theorem mkP_cell {n : Nat} {k : Int} {i j : Nat} (h : i < n) (hj : j < 2) : ((mkP n k).flatMap encP)[i * 2 + j]? = (encP ⟨k + 2 * (i : Int), k + 2 * (i : Int) + 1⟩)[j]? := by
  rw [← mkP_at h]
  exact flat_get encP_len zP _ _ _ (by rw [mkP_len]; exact h) hj
/-! totals -/
def okT (l : List VP) (i : Nat) : Bool := decide (0 ≤ (l.getD i zP).a ∧ (l.getD i zP).a ≤ 100000 ∧ 0 ≤ (l.getD i zP).b ∧ (l.getD i zP).b ≤ 1000000000000 ∧ (0 < i → (l.getD (i - 1) zP).a < (l.getD i zP).a ∧ (l.getD (i - 1) zP).b ≤ (l.getD i zP).b))
def validTot (l : List VP) : Bool := decide (l.length ≤ 60) && (List.range l.length).all (okT l)
theorem vt_long {l : List VP} (h : ¬ l.length ≤ 60) : false = validTot l := by unfold validTot; rw [decide_eq_false h]; rfl
theorem vt_bad {l : List VP} {k : Nat} (hk : k < l.length) (h : okT l k = false) : false = validTot l := by
  unfold validTot; symm; rw [Bool.and_eq_false_iff]; right
  rw [List.all_eq_false]; exact ⟨k, by simpa using hk, by simp [h]⟩
theorem vt_yes {l : List VP} {k : Nat} (h : l.length ≤ 60) (hk : ¬ k < l.length) (hall : ∀ i, i < k → okT l i = true) : true = validTot l := by
  unfold validTot; rw [decide_eq_true h, Bool.true_and]; symm; rw [List.all_eq_true]; intro i hi; exact hall i (by simp at hi; omega)
structure Tot (l : List VP) : Prop where
  len : l.length ≤ 60
  day : ∀ i, i < l.length → 0 ≤ (l.getD i zP).a ∧ (l.getD i zP).a ≤ 100000
  cnt : ∀ i, i < l.length → 0 ≤ (l.getD i zP).b ∧ (l.getD i zP).b ≤ 1000000000000
  up : ∀ i, i + 1 < l.length → (l.getD i zP).a < (l.getD (i + 1) zP).a ∧ (l.getD i zP).b ≤ (l.getD (i + 1) zP).b
theorem tot {l : List VP} (h : validTot l = true) : Tot l := by
  unfold validTot at h
  rw [Bool.and_eq_true, decide_eq_true_iff, List.all_eq_true] at h
  have hk : ∀ i, i < l.length → _ := fun i hi => of_decide_eq_true (h.2 i (by simpa using hi))
  exact ⟨h.1, fun i hi => ⟨(hk i hi).1, (hk i hi).2.1⟩, fun i hi => ⟨(hk i hi).2.2.1, (hk i hi).2.2.2.1⟩, fun i hi => by have := (hk (i + 1) hi).2.2.2.2 (by omega); simpa using this⟩
theorem Tot.lt {l : List VP} (h : Tot l) {i : Nat} : ∀ {j : Nat}, i < j → j < l.length → (l.getD i zP).a < (l.getD j zP).a ∧ (l.getD i zP).b ≤ (l.getD j zP).b
  | j + 1, hij, hj => by
    have h1 := h.up j hj
    rcases Nat.lt_or_ge i j with h2 | h2
    · have h3 := h.lt h2 (by omega)
      omega
    · rw [show i = j by omega]; exact h1
theorem ok_t {l : List VP} {i : Nat} (h1 : 0 ≤ (l.getD i zP).a ∧ (l.getD i zP).a ≤ 100000) (h2 : 0 ≤ (l.getD i zP).b ∧ (l.getD i zP).b ≤ 1000000000000) (h3 : 0 < i → (l.getD (i - 1) zP).a < (l.getD i zP).a ∧ (l.getD (i - 1) zP).b ≤ (l.getD i zP).b) : okT l i = true := by
  unfold okT; rw [decide_eq_true_iff]; exact ⟨h1.1, h1.2, h2.1, h2.2, h3⟩
theorem ok_f {l : List VP} {i : Nat} (h : ¬ (0 ≤ (l.getD i zP).a ∧ (l.getD i zP).a ≤ 100000) ∨ ¬ (0 ≤ (l.getD i zP).b ∧ (l.getD i zP).b ≤ 1000000000000) ∨ 0 < i ∧ ¬ ((l.getD (i - 1) zP).a < (l.getD i zP).a ∧ (l.getD (i - 1) zP).b ≤ (l.getD i zP).b)) : okT l i = false := by
  unfold okT; rw [decide_eq_false_iff_not]; rintro ⟨q1, q2, q3, q4, q5⟩
  rcases h with h | h | ⟨h, h'⟩
  · exact h ⟨q1, q2⟩
  · exact h ⟨q3, q4⟩
  · exact h' (q5 h)
/-! the count up to a day -/
def onI (l : List VP) (day : Int) : Nat := l.countP (fun p => decide (p.a ≤ day)) - 1
theorem on_at {l : List VP} (h : Tot l) {day : Int} {i : Nat} (hi : i < l.length) (h1 : (l.getD i zP).a ≤ day) (h2 : i + 1 < l.length → day < (l.getD (i + 1) zP).a) : onI l day = i := by
  have e : l = l.take (i + 1) ++ l.drop (i + 1) := (List.take_append_drop _ _).symm
  have c1 : (l.take (i + 1)).countP (fun p => decide (p.a ≤ day)) = i + 1 := by
    rw [show i + 1 = (l.take (i + 1)).length by simp; omega]
    rw [List.length_take, show min (i + 1) l.length = i + 1 by omega]
    rw [List.countP_eq_length.2]
    · simp; omega
    · intro x hx
      obtain ⟨j, hj, rfl⟩ := List.getElem_of_mem hx
      have hj' : j < i + 1 := by simp at hj; omega
      rw [decide_eq_true_iff, List.getElem_take]
      have e2 : l[j]'(by omega) = l.getD j zP := by simp [List.getD, show j < l.length by omega]
      rw [e2]
      rcases Nat.lt_or_ge j i with h3 | h3
      · have := (h.lt h3 hi).1; omega
      · rw [show j = i by omega]; exact h1
  have c2 : (l.drop (i + 1)).countP (fun p => decide (p.a ≤ day)) = 0 := by
    rw [List.countP_eq_zero]
    intro x hx
    obtain ⟨j, hj, rfl⟩ := List.getElem_of_mem hx
    have hj' : i + 1 + j < l.length := by simp at hj; omega
    rw [List.getElem_drop, decide_eq_true_iff]
    have e2 : l[i + 1 + j]'hj' = l.getD (i + 1 + j) zP := by simp [List.getD, hj']
    rw [e2]
    have h3 := h2 (by omega)
    rcases Nat.eq_zero_or_pos j with h4 | h4
    · rw [h4, Nat.add_zero]; omega
    · have := (h.lt (show i + 1 < i + 1 + j by omega) hj').1; omega
  unfold onI
  conv => lhs; rw [e]
  rw [List.countP_append, c1, c2]; omega
def onV (l : List VP) (day : Int) : Int :=
  if (l.getD (onI l day) zP).a = day then (l.getD (onI l day) zP).b
  else (l.getD (onI l day) zP).b + ((l.getD (onI l day + 1) zP).b - (l.getD (onI l day) zP).b) * (day - (l.getD (onI l day) zP).a) / ((l.getD (onI l day + 1) zP).a - (l.getD (onI l day) zP).a)
def Covers (l : List VP) (day : Int) : Prop := 0 < l.length ∧ (l.getD 0 zP).a ≤ day ∧ day ≤ (l.getD (l.length - 1) zP).a
theorem frac_bd {m d e : Int} (hm : 0 ≤ m) (hd : 0 ≤ d) (he : d ≤ e) (hp : 0 < e) : 0 ≤ m * d ∧ m * d ≤ m * e ∧ 0 ≤ m * d / e ∧ m * d / e ≤ m := by
  have h1 : 0 ≤ m * d := Int.mul_nonneg hm hd
  have h2 : m * d ≤ m * e := Int.mul_le_mul_of_nonneg_left he hm
  refine ⟨h1, h2, Int.ediv_nonneg h1 (by omega), ?_⟩
  have := Int.ediv_le_ediv hp h2
  rwa [Int.mul_ediv_cancel _ (by omega)] at this
/-- What an index that is found tells. -/
structure OnAt (l : List VP) (day : Int) (i : Nat) : Prop where
  lt : i < l.length
  le : (l.getD i zP).a ≤ day
  nx : i + 1 < l.length → day < (l.getD (i + 1) zP).a
theorem OnAt.idx {l : List VP} (h : Tot l) {day : Int} {i : Nat} (ho : OnAt l day i) : onI l day = i := on_at h ho.lt ho.le ho.nx
theorem OnAt.more {l : List VP} {day : Int} {i : Nat} (h : Tot l) (ho : OnAt l day i) (hl : day ≤ (l.getD (l.length - 1) zP).a) (hne : (l.getD i zP).a ≠ day) : i + 1 < l.length := by
  have h1 := ho.lt
  have h2 := ho.le
  rcases Nat.lt_or_ge (i + 1) l.length with h3 | h3
  · exact h3
  · rw [show l.length - 1 = i by omega] at hl; omega
theorem OnAt.bd {l : List VP} {day : Int} {i : Nat} (h : Tot l) (ho : OnAt l day i) (hi : i + 1 < l.length) :
    0 ≤ ((l.getD (i + 1) zP).b - (l.getD i zP).b) * (day - (l.getD i zP).a) ∧ ((l.getD (i + 1) zP).b - (l.getD i zP).b) * (day - (l.getD i zP).a) ≤ 100000000000000000
    ∧ 0 ≤ ((l.getD (i + 1) zP).b - (l.getD i zP).b) * (day - (l.getD i zP).a) / ((l.getD (i + 1) zP).a - (l.getD i zP).a)
    ∧ ((l.getD (i + 1) zP).b - (l.getD i zP).b) * (day - (l.getD i zP).a) / ((l.getD (i + 1) zP).a - (l.getD i zP).a) ≤ (l.getD (i + 1) zP).b - (l.getD i zP).b
    ∧ 0 < (l.getD (i + 1) zP).a - (l.getD i zP).a := by
  have h1 := h.up i hi
  have h2 := ho.le
  have h3 := ho.nx hi
  have h4 := h.cnt i (by omega)
  have h5 := h.cnt (i + 1) hi
  have h6 := h.day i (by omega)
  have h7 := h.day (i + 1) hi
  have hf := frac_bd (m := (l.getD (i + 1) zP).b - (l.getD i zP).b) (d := day - (l.getD i zP).a) (e := (l.getD (i + 1) zP).a - (l.getD i zP).a) (by omega) (by omega) (by omega) (by omega)
  have hx : ((l.getD (i + 1) zP).b - (l.getD i zP).b) * ((l.getD (i + 1) zP).a - (l.getD i zP).a) ≤ 1000000000000 * 100000 := Int.mul_le_mul (by omega) (by omega) (by omega) (by omega)
  exact ⟨hf.1, by omega, hf.2.2.1, hf.2.2.2, by omega⟩
theorem onV_eq {l : List VP} (h : Tot l) {day : Int} {i : Nat} (ho : OnAt l day i) (he : (l.getD i zP).a = day) : onV l day = (l.getD i zP).b := by
  unfold onV; rw [ho.idx h, if_pos he]
theorem onV_ne {l : List VP} (h : Tot l) {day : Int} {i : Nat} (ho : OnAt l day i) (he : ¬ (l.getD i zP).a = day) : onV l day = (l.getD i zP).b + ((l.getD (i + 1) zP).b - (l.getD i zP).b) * (day - (l.getD i zP).a) / ((l.getD (i + 1) zP).a - (l.getD i zP).a) := by
  unfold onV; rw [ho.idx h, if_neg he]
theorem on_ex {l : List VP} {day : Int} (hc : Covers l day) : ∃ i, OnAt l day i := by
  obtain ⟨h0, h1, h2⟩ := hc
  have key : ∀ j, j < l.length → (∃ i, OnAt l day i) ∨ (l.getD j zP).a ≤ day := by
    intro j
    induction j with
    | zero => intro _; exact .inr h1
    | succ j ih =>
      intro hj
      rcases ih (by omega) with h | h
      · exact .inl h
      · rcases Int.lt_or_le day (l.getD (j + 1) zP).a with h3 | h3
        · exact .inl ⟨j, by omega, h, fun _ => h3⟩
        · exact .inr h3
  rcases key (l.length - 1) (by omega) with h | h
  · exact h
  · exact ⟨l.length - 1, by omega, h, fun h => by omega⟩
theorem onV_bd {l : List VP} (h : Tot l) {day : Int} (hc : Covers l day) : 0 ≤ onV l day ∧ onV l day ≤ 1000000000000 := by
  obtain ⟨i, ho⟩ := on_ex hc
  have h4 := h.cnt i ho.lt
  by_cases he : (l.getD i zP).a = day
  · rw [onV_eq h ho he]; exact h4
  · have hi := ho.more h hc.2.2 he
    have hb := ho.bd h hi
    have h5 := h.cnt (i + 1) hi
    rw [onV_ne h ho he]; omega
/-! lists of totals -/
structure VS where
  A : Option Addr
  c : Nat
  xs : List VP
def encS (r : VS) : List Value := [.slice r.A r.xs.length r.c]
theorem encS_len : ∀ r, (encS r).length = 1 := fun _ => rfl
def zS : VS := ⟨none, 0, []⟩
def firstD (L : List VS) : Nat → Int
  | 0 => 0
  | k + 1 => max (firstD L k) (((L.getD k zS).xs).getD 0 zP).a
def lastD (L : List VS) : Nat → Int
  | 0 => 100000
  | k + 1 => min (lastD L k) (((L.getD k zS).xs).getD ((L.getD k zS).xs.length - 1) zP).a
def emptyAt (L : List VS) (i : Nat) : Bool := decide ((L.getD i zS).xs.length = 0)
def anyE (L : List VS) : Bool := (List.range L.length).any (emptyAt L)
theorem ae_t {L : List VS} {k : Nat} (hk : k < L.length) (h : (L.getD k zS).xs.length = 0) : anyE L = true := by
  unfold anyE; rw [List.any_eq_true]; exact ⟨k, by simpa using hk, by unfold emptyAt; exact decide_eq_true h⟩
theorem ae_f {L : List VS} {k : Nat} (hk : ¬ k < L.length) (h : ∀ i, i < k → (L.getD i zS).xs.length ≠ 0) : anyE L = false := by
  unfold anyE; rw [List.any_eq_false]; intro i hi; unfold emptyAt; simpa using h i (by simp at hi; omega)
theorem ae_all {L : List VS} (h : anyE L = false) : ∀ i, i < L.length → (L.getD i zS).xs.length ≠ 0 := fun i hi => by
  unfold anyE at h; rw [List.any_eq_false] at h
  have := h i (by simpa using hi)
  unfold emptyAt at this; simpa using this
theorem firstD_ge {L : List VS} : ∀ {k i : Nat}, i < k → (((L.getD i zS).xs).getD 0 zP).a ≤ firstD L k
  | k + 1, i, h => by
    rw [firstD]
    rcases Nat.lt_or_ge i k with h1 | h1
    · have := firstD_ge (L := L) h1; omega
    · rw [show i = k by omega]; omega
theorem lastD_le {L : List VS} : ∀ {k i : Nat}, i < k → lastD L k ≤ (((L.getD i zS).xs).getD ((L.getD i zS).xs.length - 1) zP).a
  | k + 1, i, h => by
    rw [lastD]
    rcases Nat.lt_or_ge i k with h1 | h1
    · have := lastD_le (L := L) h1; omega
    · rw [show i = k by omega]; omega
theorem firstD_0 {L : List VS} : ∀ k, 0 ≤ firstD L k
  | 0 => by simp [firstD]
  | k + 1 => by have := firstD_0 (L := L) k; rw [firstD]; omega
theorem lastD_0 {L : List VS} : ∀ k, lastD L k ≤ 100000
  | 0 => by simp [lastD]
  | k + 1 => by have := lastD_0 (L := L) k; rw [lastD]; omega
theorem firstD_hi {L : List VS} (hT : ∀ k, k < L.length → Tot (L.getD k zS).xs) (hall : ∀ i, i < L.length → (L.getD i zS).xs.length ≠ 0) : firstD L L.length ≤ 100000 := by
  have key : ∀ k, k ≤ L.length → firstD L k ≤ 100000 := by
    intro k
    induction k with
    | zero => intro _; simp [firstD]
    | succ k ih =>
      intro hk
      have h1 := ih (by omega)
      have h2 := (hT k (by omega)).day 0 (by have := hall k (by omega); omega)
      rw [firstD]; omega
  exact key _ (Nat.le_refl _)
theorem lastD_lo {L : List VS} (hT : ∀ k, k < L.length → Tot (L.getD k zS).xs) (hall : ∀ i, i < L.length → (L.getD i zS).xs.length ≠ 0) : 0 ≤ lastD L L.length := by
  have key : ∀ k, k ≤ L.length → 0 ≤ lastD L k := by
    intro k
    induction k with
    | zero => intro _; simp [lastD]
    | succ k ih =>
      intro hk
      have h1 := ih (by omega)
      have h2 := (hT k (by omega)).day ((L.getD k zS).xs.length - 1) (by have := hall k (by omega); omega)
      rw [lastD]; omega
  exact key _ (Nat.le_refl _)
def comI (L : List VS) : Int × Int := if anyE L = true then (0, -1) else (firstD L L.length, lastD L L.length)
def comV (L : List VS) : Int × Int × Int :=
  if anyE L = true then (0, 0, 6) else if lastD L L.length < firstD L L.length then (0, 0, 6)
  else if 400 < lastD L L.length - firstD L L.length + 1 then (0, 0, 3) else (firstD L L.length, lastD L L.length, 0)
theorem ci_t {L : List VS} (h : anyE L = true) : comI L = (0, -1) := by unfold comI; rw [if_pos h]
theorem ci_f {L : List VS} (h : anyE L = false) : comI L = (firstD L L.length, lastD L L.length) := by unfold comI; rw [if_neg (by rw [h]; decide)]
theorem cv_e {L : List VS} (h : anyE L = true) : comV L = (0, 0, 6) := by unfold comV; rw [if_pos h]
theorem cv_n {L : List VS} (h : anyE L = false) (h1 : lastD L L.length < firstD L L.length) : comV L = (0, 0, 6) := by unfold comV; rw [if_neg (by rw [h]; decide), if_pos h1]
theorem cv_l {L : List VS} (h : anyE L = false) (h1 : ¬ lastD L L.length < firstD L L.length) (h2 : 400 < lastD L L.length - firstD L L.length + 1) : comV L = (0, 0, 3) := by
  unfold comV; rw [if_neg (by rw [h]; decide), if_neg h1, if_pos h2]
theorem cv_o {L : List VS} (h : anyE L = false) (h1 : ¬ lastD L L.length < firstD L L.length) (h2 : ¬ 400 < lastD L L.length - firstD L L.length + 1) : comV L = (firstD L L.length, lastD L L.length, 0) := by
  unfold comV; rw [if_neg (by rw [h]; decide), if_neg h1, if_neg h2]
end Go.W

/- strconv.ParseUint at base ten and seven bits, whatever the string: the number, or an error that is not nil. Turned by a program out of the proof at eight bits. -/
namespace Go.U7
open Go Go.Proofs Go.Shelf Go.RowKit
variable {P : Program} {ρ : Ren}
set_option maxHeartbeats 32000000 in
set_option maxRecDepth 100000 in
theorem u7_inner (L : LaysPu.n16 P ρ) (t : ByteArray) (hne : t.size ≠ 0) (hmax : t.size ≤ 9223372036854775806) (w : World) :
    Calls P (ρ.f 16) #[.string t, .int .i64 10, .int .i64 7] w fun e w' => e = .returned (Lib.uintTupleM (ρ.t 34) 127 (Lib.parseUintM 127 0 t.data.toList)) ∧ w' = Lib.bytesWorld w (ρ.t 5) t := by
  have mixed := L.mixed
  have t9 := L.t9; have a9 := L.a9; have z9 := L.z9; have v9 := L.v9
  have t3 := L.t3; have a3 := L.a3; have z3 := L.z3; have v3 := L.v3
  have t22 := L.t22; have a22 := L.a22; have z22 := L.z22; have v22 := L.v22
  have t24 := L.t24; have a24 := L.a24; have z24 := L.z24; have v24 := L.v24
  have t4 := L.t4; have a4 := L.a4; have z4 := L.z4; have v4 := L.v4
  have t34 := L.t34; have a34 := L.a34; have z34 := L.z34; have v34 := L.v34
  have t5 := L.t5; have a5 := L.a5; have z5 := L.z5; have v5 := L.v5
  have t36 := L.t36; have a36 := L.a36; have z36 := L.z36; have v36 := L.v36
  have t37 := L.t37; have a37 := L.a37; have z37 := L.z37; have v37 := L.v37
  have t0 := L.t0; have a0 := L.a0; have z0 := L.z0; have v0 := L.v0
  have e19 : ∀ args w, (callFunc (ρ.f 19) args).run P w = .ok (.enter (ρ.f 19) args) w := enters_of L.f19 (by kernel_rfl) rfl
  have hemp : t.toList.isEmpty = false := by
    rw [← decide_eq_emptyBytes]
    exact decide_eq_false (fun h => hne (by rw [h]; rfl))
  have hcv := Lib.run_convert_string_bytes (P := P) w (ρ.t 9) (ρ.t 37) (ρ.t 5) t (u := .string) L.t9 L.t37 L.t5
  have hB : ∀ j, j < t.size → (Lib.bytesWorld w (ρ.t 5) t).cell? ⟨w.heap.size, j, none⟩ = some (.int .u8 (t.data.toList.getD j 0).toNat) := fun j hj => Lib.bytesWorld_cell w (ρ.t 5) t j hj
  obtain ⟨W1, hW1⟩ : ∃ W1, W1 = Lib.bytesWorld w (ρ.t 5) t := ⟨_, rfl⟩
  rw [← hW1] at hcv hB ⊢
  clear hW1
  obtain ⟨bs, hL⟩ : ∃ bs, bs = t.data.toList := ⟨_, rfl⟩
  have hLn : bs.length = t.size := by rw [hL, Lib.size_eq]
  rw [← hL] at hB ⊢
  clear hL
  have hmv : IntKind.u64.wrap (IntKind.u64.wrap 128 - 1) = 127 := by
    rw [IntKind.wrap_u64, IntKind.wrap_u64]
    decide
  go_enter L.f16, BodyPu.n16_ntmps ρ
  go_wp2
  go_loop [12, 13, 101] (fun vu vn vi => ∃ (k acc : Nat) (a : Int), vu = .bool false ∧ vn = .int .u64 a ∧ vi = .int .i64 k ∧ k ≤ t.size ∧ Hid (a = (acc : Int) ∧ acc ≤ 127 ∧ Lib.parseUintM 127 0 bs = Lib.parseUintM 127 acc (bs.drop k)))
    (fun _ _ vi => t.size - (intOf vi).toNat)
  case atStart => exact ⟨0, 0, 0, rfl, rfl, rfl, by omega, rfl, by omega, rfl⟩
  case round =>
    obtain ⟨k, acc, a, rfl, rfl, rfl, hk, hh⟩ := hrel
    obtain ⟨ha, hacc, hdec⟩ := hh.out
    clear hh
    have a0 : 0 ≤ a := by omega
    have a1 : a ≤ 127 := by omega
    by_cases hkn : k < t.size
    · have hc := hB k hkn
      have hdrop : bs.drop k = bs[k]'(by omega) :: bs.drop (k + 1) := List.drop_eq_getElem_cons (by omega)
      have hget : bs.getD k 0 = bs[k]'(by omega) := by simp [List.getD, List.getElem?_eq_getElem (show k < bs.length by omega)]
      rw [hdrop] at hdec
      rw [hget] at hc
      generalize bs[k]'(by omega) = c at hc hdec
      have hc256 : c.toNat < 256 := c.toNat_lt
      clear hB hdrop hget
      by_cases hdig : 48 ≤ c.toNat ∧ c.toNat ≤ 57
      · obtain ⟨hd0, hd1⟩ := hdig
        have hcut : ¬ 1844674407370955162 ≤ acc := by omega
        by_cases hov : 127 < acc * 10 + (c.toNat - 48)
        ·
          have hF : Lib.parseUintM 127 acc (c :: bs.drop (k + 1)) = .range := by simp [Lib.parseUintM, hd0, hd1, hcut, hov]
          rw [hF] at hdec
          have iov : 127 < a * 10 + ((c.toNat : Int) - 48) := by omega
          clear hcut hacc hF hov ha
          go_wp2
          go_ret2
          exact ⟨rfl, rfl⟩
        · have hF : Lib.parseUintM 127 acc (c :: bs.drop (k + 1)) = Lib.parseUintM 127 (acc * 10 + (c.toNat - 48)) (bs.drop (k + 1)) := by simp [Lib.parseUintM, hd0, hd1, hcut, hov]
          have HN : Hid (a * 10 + ((c.toNat : Int) - 48) = ((acc * 10 + (c.toNat - 48) : Nat) : Int) ∧ acc * 10 + (c.toNat - 48) ≤ 127 ∧ Lib.parseUintM 127 0 bs = Lib.parseUintM 127 (acc * 10 + (c.toNat - 48)) (bs.drop (k + 1))) := Lib.hid ⟨by omega, by omega, hdec.trans hF⟩
          have iov : a * 10 + ((c.toNat : Int) - 48) ≤ 127 := by omega
          clear hcut hacc hF hov hdec ha
          go_wp2
          refine ⟨⟨k + 1, acc * 10 + (c.toNat - 48), a * 10 + ((c.toNat : Int) - 48), rfl, (by first | rfl | (congr 1; omega)), (by first | rfl | (congr 1; omega)), by omega, HN⟩, by simp [intOf]; omega⟩
      ·
        have hF : Lib.parseUintM 127 acc (c :: bs.drop (k + 1)) = Lib.parseUintB 7 [] := by simp [Lib.parseUintM, Lib.parseUintB, hdig]
        rw [hF] at hdec
        clear hacc hF ha
        have hv0 := bits_lo_u8 .or (c.toNat : Int) 32
        have hv1 := bits_hi_u8 .or (c.toNat : Int) 32
        have hu0 := bits_lo_u8 .or 95 32
        have hu1 := bits_hi_u8 .or 95 32
        go_wp2_with (go_at_fn (ρ.f 19); refine (AnyPu.internal_strconv_lower { L with } _ _).mono ?_; rintro e w' ⟨rfl, rfl⟩)
        all_goals go_ret2
        all_goals first | exact ⟨rfl, rfl⟩ | exact ⟨by rw [hdec]; rfl, rfl⟩
    ·
      have hkk : k = t.size := by omega
      subst hkk
      have hF : Lib.parseUintM 127 acc (bs.drop t.size) = .ok acc := by rw [List.drop_eq_nil_of_le (by omega)]; rfl
      rw [hF] at hdec
      subst ha
      clear hacc hF a0 a1
      go_wp2
      go_ret2
      exact ⟨rfl, rfl⟩

theorem u7_at (L : LaysPu.n16 P ρ) (t : ByteArray) (hmax : t.size ≤ 9223372036854775806) (w : World) :
    Calls P (ρ.f 16) #[.string t, .int .i64 10, .int .i64 7] w fun e w' => e = .returned (Lib.uintTupleM (ρ.t 34) 127 (Lib.parseUintB 7 t.data.toList)) ∧ (w' = w ∨ w' = Lib.bytesWorld w (ρ.t 5) t) := by
  have eM : (2 : Nat) ^ 7 - 1 = 127 := by decide
  by_cases h0 : t.size = 0
  · have ht : t = ⟨#[]⟩ := by
      apply ByteArray.ext
      exact Array.eq_empty_of_size_eq_zero h0
    subst ht
    exact (AnyPu.internal_strconv_ParseUint_empty { L with } 10 7 w).mono fun e w' ⟨he, hw⟩ => ⟨he, Or.inl hw⟩
  · have hne : t.data.toList ≠ [] := fun h => h0 (by rw [Lib.size_eq, h]; rfl)
    refine (u7_inner { L with } t h0 hmax w).mono fun e w' ⟨he, hw⟩ => ⟨?_, Or.inr hw⟩
    rw [he, Lib.parseUintB, if_neg hne, eM]

set_option maxHeartbeats 4000000 in
set_option maxRecDepth 100000 in
theorem u7_ok (L : LaysPu.n14 P ρ) (s : ByteArray) (hmax : s.size ≤ 9223372036854775806) (u : Nat) (h : Lib.parseUintB 7 s.data.toList = .ok u) (w : World) :
    Calls P (ρ.f 14) #[.string s, .int .i64 10, .int .i64 7] w fun e w' => e = .returned (.tuple #[.int .u64 u, .nilIface]) ∧ (w' = w ∨ w' = Lib.bytesWorld w (ρ.t 5) s) := by
  have mixed := L.mixed
  have t9 := L.t9; have a9 := L.a9; have z9 := L.z9; have v9 := L.v9
  have t3 := L.t3; have a3 := L.a3; have z3 := L.z3; have v3 := L.v3
  have t22 := L.t22; have a22 := L.a22; have z22 := L.z22; have v22 := L.v22
  have t24 := L.t24; have a24 := L.a24; have z24 := L.z24; have v24 := L.v24
  have t25 := L.t25; have a25 := L.a25; have z25 := L.z25; have v25 := L.v25
  have t4 := L.t4; have a4 := L.a4; have z4 := L.z4; have v4 := L.v4
  have e16 : ∀ args w, (callFunc (ρ.f 16) args).run P w = .ok (.enter (ρ.f 16) args) w := enters_of L.f16 (by kernel_rfl) rfl
  have hI := u7_at { L with } s hmax w
  rw [h] at hI
  have hI : Calls P (ρ.f 16) #[.string s, .int .i64 10, .int .i64 7] w fun e w' => e = .returned (.tuple #[.int .u64 u, .nilIface]) ∧ (w' = w ∨ w' = Lib.bytesWorld w (ρ.t 5) s) := hI
  clear h
  go_enter L.f14, BodyPu.n14_ntmps ρ
  go_wp2_with (go_at_fn (ρ.f 16); refine hI.mono ?_; rintro e W1 ⟨rfl, hW⟩)
  go_wp2
  go_ret2
  exact ⟨rfl, hW⟩
set_option maxHeartbeats 4000000 in
set_option maxRecDepth 100000 in
theorem u7_syn (L : LaysPu.n14 P ρ) (s : ByteArray) (hlim : s.size ≤ 281474976710656) (h : Lib.parseUintB 7 s.data.toList = Lib.parseUintB 7 []) (ev : Value) (w : World) (hv : w.cell? ⟨(ρ.g 0), 0, none⟩ = some ev) (hev : ev = .nilIface ∨ ∃ te pe, ev = .iface te pe) :
    Calls P (ρ.f 14) #[.string s, .int .i64 10, .int .i64 7] w fun e w' => ∃ N, e = .returned (.tuple #[.int .u64 0, .iface (ρ.t 39) (.pointer (some ⟨N, 0, none⟩))]) ∧ w.heap.size ≤ N ∧ w'.heap[N]? = some (.cells #[.string ⟨#[80, 97, 114, 115, 101, 85, 105, 110, 116]⟩, .string s, ev] (ρ.t 44) (0, 0)) ∧ Below w.heap.size w w' := by
  have mixed := L.mixed
  have t9 := L.t9; have a9 := L.a9; have z9 := L.z9; have v9 := L.v9
  have t3 := L.t3; have a3 := L.a3; have z3 := L.z3; have v3 := L.v3
  have t22 := L.t22; have a22 := L.a22; have z22 := L.z22; have v22 := L.v22
  have t24 := L.t24; have a24 := L.a24; have z24 := L.z24; have v24 := L.v24
  have t25 := L.t25; have a25 := L.a25; have z25 := L.z25; have v25 := L.v25
  have t4 := L.t4; have a4 := L.a4; have z4 := L.z4; have v4 := L.v4
  have e16 : ∀ args w, (callFunc (ρ.f 16) args).run P w = .ok (.enter (ρ.f 16) args) w := enters_of L.f16 (by kernel_rfl) rfl
  have e17 : ∀ args w, (callFunc (ρ.f 17) args).run P w = .ok (.enter (ρ.f 17) args) w := enters_of L.f17 (by kernel_rfl) rfl
  have hG : (ρ.g 0) < w.heap.size := Lib.lt_of_cell hv
  have hI := u7_at { L with } s (by omega) w
  rw [h] at hI
  have hI : Calls P (ρ.f 16) #[.string s, .int .i64 10, .int .i64 7] w fun e w' => e = .returned (.tuple #[.int .u64 0, .iface (ρ.t 34) (.int .i64 2)]) ∧ (w' = w ∨ w' = Lib.bytesWorld w (ρ.t 5) s) := hI
  clear h
  go_enter L.f14, BodyPu.n14_ntmps ρ
  go_wp2_with (go_at_fn (ρ.f 16); refine hI.mono ?_)
  rintro e W1 ⟨rfl, hW⟩
  have hb1 : Below w.heap.size w W1 := by
    rcases hW with rfl | rfl
    · exact Below.refl _ _
    · exact Lib.bytesWorld_below _ _ _
  have hv1 : W1.cell? ⟨(ρ.g 0), 0, none⟩ = some ev := (hb1.cell (show (⟨(ρ.g 0), 0, none⟩ : Addr).block < w.heap.size from hG)).trans hv
  clear hW
  go_wp2_with (go_at_fn (ρ.f 17); refine (AnyPu.strconv_toError_syntax { L with } ⟨#[80, 97, 114, 115, 101, 85, 105, 110, 116]⟩ s 10 7 ev _ hlim ?_ hev).mono ?_)
  · exact hv1
  rintro e W2 ⟨N, rfl, h1, h2, h3⟩
  go_wp2
  go_ret2
  exact ⟨N, rfl, Nat.le_trans hb1.size h1, h2, hb1.trans (h3.mono hb1.size)⟩
set_option maxHeartbeats 4000000 in
set_option maxRecDepth 100000 in
theorem u7_rng (L : LaysPu.n14 P ρ) (s : ByteArray) (hlim : s.size ≤ 281474976710656) (h : Lib.parseUintB 7 s.data.toList = .range) (ev : Value) (w : World) (hv : w.cell? ⟨(ρ.g 1), 0, none⟩ = some ev) (hev : ev = .nilIface ∨ ∃ te pe, ev = .iface te pe) :
    Calls P (ρ.f 14) #[.string s, .int .i64 10, .int .i64 7] w fun e w' => ∃ N, e = .returned (.tuple #[.int .u64 127, .iface (ρ.t 39) (.pointer (some ⟨N, 0, none⟩))]) ∧ w.heap.size ≤ N ∧ w'.heap[N]? = some (.cells #[.string ⟨#[80, 97, 114, 115, 101, 85, 105, 110, 116]⟩, .string s, ev] (ρ.t 44) (0, 0)) ∧ Below w.heap.size w w' := by
  have mixed := L.mixed
  have t9 := L.t9; have a9 := L.a9; have z9 := L.z9; have v9 := L.v9
  have t3 := L.t3; have a3 := L.a3; have z3 := L.z3; have v3 := L.v3
  have t22 := L.t22; have a22 := L.a22; have z22 := L.z22; have v22 := L.v22
  have t24 := L.t24; have a24 := L.a24; have z24 := L.z24; have v24 := L.v24
  have t25 := L.t25; have a25 := L.a25; have z25 := L.z25; have v25 := L.v25
  have t4 := L.t4; have a4 := L.a4; have z4 := L.z4; have v4 := L.v4
  have e16 : ∀ args w, (callFunc (ρ.f 16) args).run P w = .ok (.enter (ρ.f 16) args) w := enters_of L.f16 (by kernel_rfl) rfl
  have e17 : ∀ args w, (callFunc (ρ.f 17) args).run P w = .ok (.enter (ρ.f 17) args) w := enters_of L.f17 (by kernel_rfl) rfl
  have hG : (ρ.g 1) < w.heap.size := Lib.lt_of_cell hv
  have hI := u7_at { L with } s (by omega) w
  rw [h] at hI
  have hI : Calls P (ρ.f 16) #[.string s, .int .i64 10, .int .i64 7] w fun e w' => e = .returned (.tuple #[.int .u64 127, .iface (ρ.t 34) (.int .i64 1)]) ∧ (w' = w ∨ w' = Lib.bytesWorld w (ρ.t 5) s) := hI
  clear h
  go_enter L.f14, BodyPu.n14_ntmps ρ
  go_wp2_with (go_at_fn (ρ.f 16); refine hI.mono ?_)
  rintro e W1 ⟨rfl, hW⟩
  have hb1 : Below w.heap.size w W1 := by
    rcases hW with rfl | rfl
    · exact Below.refl _ _
    · exact Lib.bytesWorld_below _ _ _
  have hv1 : W1.cell? ⟨(ρ.g 1), 0, none⟩ = some ev := (hb1.cell (show (⟨(ρ.g 1), 0, none⟩ : Addr).block < w.heap.size from hG)).trans hv
  clear hW
  go_wp2_with (go_at_fn (ρ.f 17); refine (AnyPu.strconv_toError_range { L with } ⟨#[80, 97, 114, 115, 101, 85, 105, 110, 116]⟩ s 10 7 ev _ hlim ?_ hev).mono ?_)
  · exact hv1
  rintro e W2 ⟨N, rfl, h1, h2, h3⟩
  go_wp2
  go_ret2
  exact ⟨N, rfl, Nat.le_trans hb1.size h1, h2, hb1.trans (h3.mono hb1.size)⟩

end Go.U7

/- Drifts, and totals out of a log, in plain numbers. -/
set_option linter.unusedVariables false
set_option linter.unusedSimpArgs false
namespace Go.W
open Go Go.Sx
/-- The count up to a day, and whether it is told. -/
def onW (l : List VP) (day : Int) : Int × Bool := if 0 < l.length ∧ (l.getD 0 zP).a ≤ day ∧ day ≤ (l.getD (l.length - 1) zP).a then (onV l day, true) else (0, false)
theorem ow_c {l : List VP} {day : Int} (h : Covers l day) : onW l day = (onV l day, true) := by unfold Covers at h; unfold onW; rw [if_pos h]
theorem ow_n {l : List VP} {day : Int} (h : ¬ Covers l day) : onW l day = (0, false) := by unfold Covers at h; unfold onW; rw [if_neg h]
theorem ow_eq {l : List VP} (hT : Tot l) {day : Int} {i : Nat} (hc : Covers l day) (ho : OnAt l day i) (he : (l.getD i zP).a = day) : onW l day = ((l.getD i zP).b, true) := by rw [ow_c hc, onV_eq hT ho he]
theorem ow_ne {l : List VP} (hT : Tot l) {day : Int} {i : Nat} (hc : Covers l day) (ho : OnAt l day i) (he : ¬ (l.getD i zP).a = day) : onW l day = ((l.getD i zP).b + ((l.getD (i + 1) zP).b - (l.getD i zP).b) * (day - (l.getD i zP).a) / ((l.getD (i + 1) zP).a - (l.getD i zP).a), true) := by rw [ow_c hc, onV_ne hT ho he]
theorem ow_bd {l : List VP} (h : Tot l) (day : Int) : 0 ≤ (onW l day).1 ∧ (onW l day).1 ≤ 1000000000000 := by
  unfold onW; split
  · rename_i hc; exact onV_bd h hc
  · exact ⟨by decide, by decide⟩
def drD (x y : List VP) (day : Int) : Int := (onW x day).1 - (onW y day).1
theorem drD_on {x y : List VP} {day : Int} (hx : Covers x day) (hy : Covers y day) : drD x y day = onV x day - onV y day := by unfold drD; rw [ow_c hx, ow_c hy]
def loD (x y : List VP) (f : Int) : Nat → Int
  | 0 => drD x y f
  | k + 1 => min (loD x y f k) (drD x y (f + ((k : Int) + 1)))
def hiD (x y : List VP) (f : Int) : Nat → Int
  | 0 => drD x y f
  | k + 1 => max (hiD x y f k) (drD x y (f + ((k : Int) + 1)))
def drL (x y : List VP) (f : Int) : Nat → List Int
  | 0 => []
  | k + 1 => drL x y f k ++ [drD x y (f + (k : Int))]
theorem drL_len (x y : List VP) (f : Int) : ∀ k, (drL x y f k).length = k
  | 0 => rfl
  | k + 1 => by rw [drL, List.length_append, drL_len x y f k]; rfl
theorem drL_at {x y : List VP} {f : Int} {i : Nat} : ∀ {k : Nat}, i < k → (drL x y f k).getD i 0 = drD x y (f + (i : Int))
  | k + 1, h => by
    have hl := drL_len x y f k
    rw [drL]
    rcases Nat.lt_or_ge i k with h1 | h1
    · have := drL_at (x := x) (y := y) (f := f) h1
      simp only [List.getD] at this ⊢
      rw [List.getElem?_append_left (by omega)]; exact this
    · have e : i = k := by omega
      subst e
      simp only [List.getD]
      rw [List.getElem?_append_right (by omega)]; simp [hl]
def minL (s : List Int) : Nat → Int
  | 0 => s.getD 0 0
  | k + 1 => min (minL s k) (s.getD (k + 1) 0)
def maxL (s : List Int) : Nat → Int
  | 0 => s.getD 0 0
  | k + 1 => max (maxL s k) (s.getD (k + 1) 0)
theorem minL_dr {x y : List VP} {f : Int} {n : Nat} : ∀ k, k < n → minL (drL x y f n) k = loD x y f k
  | 0, h => by rw [minL, drL_at h]; simp [loD]
  | k + 1, h => by rw [minL, minL_dr k (by omega), drL_at h, loD]; simp
theorem maxL_dr {x y : List VP} {f : Int} {n : Nat} : ∀ k, k < n → maxL (drL x y f n) k = hiD x y f k
  | 0, h => by rw [maxL, drL_at h]; simp [hiD]
  | k + 1, h => by rw [maxL, maxL_dr k (by omega), drL_at h, hiD]; simp
def pairS (A : Option Addr) (c : Nat) (x : List VP) (B : Option Addr) (d : Nat) (y : List VP) : List VS := [⟨A, c, x⟩, ⟨B, d, y⟩]
/-- The first and the last common day of two lists, with a code. -/
def bothV (x y : List VP) : Int × Int × Int := if (validTot x && validTot y) = false then (0, 0, 1) else comV [⟨none, 0, x⟩, ⟨none, 0, y⟩]
theorem firstD_two {A c x B d y} : firstD [⟨A, c, x⟩, ⟨B, d, y⟩] 2 = max (max 0 (x.getD 0 zP).a) (y.getD 0 zP).a := rfl
theorem lastD_two {A c x B d y} : lastD [⟨A, c, x⟩, ⟨B, d, y⟩] 2 = min (min 100000 (x.getD (x.length - 1) zP).a) (y.getD (y.length - 1) zP).a := rfl
theorem comV_two {A c x B d y} : comV [⟨A, c, x⟩, ⟨B, d, y⟩] = comV [⟨none, 0, x⟩, ⟨none, 0, y⟩] := rfl
theorem comI_two {A c x B d y} : comI [⟨A, c, x⟩, ⟨B, d, y⟩] = comI [⟨none, 0, x⟩, ⟨none, 0, y⟩] := rfl
theorem both_bad {x y : List VP} (h : (validTot x && validTot y) = false) : bothV x y = (0, 0, 1) := by unfold bothV; rw [if_pos h]
theorem both_ok {x y : List VP} (h : (validTot x && validTot y) = true) : bothV x y = comV [⟨none, 0, x⟩, ⟨none, 0, y⟩] := by unfold bothV; rw [if_neg (by rw [h]; decide)]
/-- What a code 0 tells. -/
structure Both (x y : List VP) : Prop where
  vx : validTot x = true
  vy : validTot y = true
  le : (bothV x y).1 ≤ (bothV x y).2.1
  lo : 0 ≤ (bothV x y).1
  hi : (bothV x y).2.1 ≤ 100000
  span : (bothV x y).2.1 - (bothV x y).1 ≤ 399
  cx : ∀ day, (bothV x y).1 ≤ day → day ≤ (bothV x y).2.1 → Covers x day
  cy : ∀ day, (bothV x y).1 ≤ day → day ≤ (bothV x y).2.1 → Covers y day
theorem both {x y : List VP} (h : (bothV x y).2.2 = 0) : Both x y := by
  by_cases hv : (validTot x && validTot y) = true
  · rw [both_ok hv] at h
    cases he : anyE [⟨none, 0, x⟩, ⟨none, 0, y⟩] with
    | true => rw [cv_e he] at h; cases h
    | false =>
      by_cases h1 : lastD [⟨none, 0, x⟩, ⟨none, 0, y⟩] 2 < firstD [⟨none, 0, x⟩, ⟨none, 0, y⟩] 2
      · rw [cv_n he h1] at h; cases h
      · by_cases h2 : 400 < lastD [⟨none, 0, x⟩, ⟨none, 0, y⟩] 2 - firstD [⟨none, 0, x⟩, ⟨none, 0, y⟩] 2 + 1
        · rw [cv_l he h1 h2] at h; cases h
        · have e : bothV x y = (firstD [⟨none, 0, x⟩, ⟨none, 0, y⟩] 2, lastD [⟨none, 0, x⟩, ⟨none, 0, y⟩] 2, 0) := by rw [both_ok hv]; exact cv_o he h1 h2
          have hx := ae_all he 0 (by simp)
          have hy := ae_all he 1 (by simp)
          have f0 := firstD_ge (L := [⟨none, 0, x⟩, ⟨none, 0, y⟩]) (k := 2) (i := 0) (by omega)
          have f1 := firstD_ge (L := [⟨none, 0, x⟩, ⟨none, 0, y⟩]) (k := 2) (i := 1) (by omega)
          have l0 := lastD_le (L := [⟨none, 0, x⟩, ⟨none, 0, y⟩]) (k := 2) (i := 0) (by omega)
          have l1 := lastD_le (L := [⟨none, 0, x⟩, ⟨none, 0, y⟩]) (k := 2) (i := 1) (by omega)
          have g0 := firstD_0 (L := [⟨none, 0, x⟩, ⟨none, 0, y⟩]) 2
          have g1 := lastD_0 (L := [⟨none, 0, x⟩, ⟨none, 0, y⟩]) 2
          simp only [List.getD_cons_zero, List.getD_cons_succ] at hx hy f0 f1 l0 l1
          rw [Bool.and_eq_true] at hv
          refine ⟨hv.1, hv.2, ?_, ?_, ?_, ?_, ?_, ?_⟩ <;> rw [e] <;> dsimp only
          · omega
          · omega
          · omega
          · omega
          · intro day h3 h4; exact ⟨by omega, by omega, by omega⟩
          · intro day h3 h4; exact ⟨by omega, by omega, by omega⟩
  · rw [both_bad (by simpa using hv)] at h; cases h
def bestV (x y : List VP) : Int × Int × Int :=
  if (bothV x y).2.2 ≠ 0 then (0, 0, (bothV x y).2.2) else
  ((loD x y (bothV x y).1 ((bothV x y).2.1 - (bothV x y).1).toNat + hiD x y (bothV x y).1 ((bothV x y).2.1 - (bothV x y).1).toNat) / 2,
   max (hiD x y (bothV x y).1 ((bothV x y).2.1 - (bothV x y).1).toNat - (loD x y (bothV x y).1 ((bothV x y).2.1 - (bothV x y).1).toNat + hiD x y (bothV x y).1 ((bothV x y).2.1 - (bothV x y).1).toNat) / 2)
     ((loD x y (bothV x y).1 ((bothV x y).2.1 - (bothV x y).1).toNat + hiD x y (bothV x y).1 ((bothV x y).2.1 - (bothV x y).1).toNat) / 2 - loD x y (bothV x y).1 ((bothV x y).2.1 - (bothV x y).1).toNat), 0)
theorem best_bad {x y : List VP} (h : (bothV x y).2.2 ≠ 0) : bestV x y = (0, 0, (bothV x y).2.2) := by unfold bestV; rw [if_pos h]
theorem best_ok {x y : List VP} {k : Nat} (h : (bothV x y).2.2 = 0) (hk : (k : Int) = (bothV x y).2.1 - (bothV x y).1) : bestV x y = ((loD x y (bothV x y).1 k + hiD x y (bothV x y).1 k) / 2,
   max (hiD x y (bothV x y).1 k - (loD x y (bothV x y).1 k + hiD x y (bothV x y).1 k) / 2) ((loD x y (bothV x y).1 k + hiD x y (bothV x y).1 k) / 2 - loD x y (bothV x y).1 k), 0) := by
  unfold bestV; rw [if_neg (by rw [h]; decide), ← hk, Int.toNat_natCast]
theorem drD_bd {x y : List VP} (h : Both x y) {day : Int} (h1 : (bothV x y).1 ≤ day) (h2 : day ≤ (bothV x y).2.1) : -1000000000000 ≤ drD x y day ∧ drD x y day ≤ 1000000000000 := by
  have hx := ow_bd (tot h.vx) day
  have hy := ow_bd (tot h.vy) day
  unfold drD; omega
theorem loD_bd {x y : List VP} (h : Both x y) : ∀ k : Nat, (bothV x y).1 + (k : Int) ≤ (bothV x y).2.1 → -1000000000000 ≤ loD x y (bothV x y).1 k ∧ loD x y (bothV x y).1 k ≤ 1000000000000
  | 0, hk => drD_bd h (Int.le_refl _) (by omega)
  | k + 1, hk => by
    have h1 := loD_bd h k (by omega)
    have h2 := drD_bd h (day := (bothV x y).1 + ((k : Int) + 1)) (by omega) (by omega)
    rw [loD]; omega
theorem hiD_bd {x y : List VP} (h : Both x y) : ∀ k : Nat, (bothV x y).1 + (k : Int) ≤ (bothV x y).2.1 → -1000000000000 ≤ hiD x y (bothV x y).1 k ∧ hiD x y (bothV x y).1 k ≤ 1000000000000
  | 0, hk => drD_bd h (Int.le_refl _) (by omega)
  | k + 1, hk => by
    have h1 := hiD_bd h k (by omega)
    have h2 := drD_bd h (day := (bothV x y).1 + ((k : Int) + 1)) (by omega) (by omega)
    rw [hiD]; omega
/-- The drifts on the common days, the first one of these, and a code. -/
def drV (x y : List VP) : List Int × Int × Int := if (bothV x y).2.2 ≠ 0 then ([], 0, (bothV x y).2.2) else (drL x y (bothV x y).1 (((bothV x y).2.1 - (bothV x y).1).toNat + 1), (bothV x y).1, 0)
theorem dr_bad {x y : List VP} (h : (bothV x y).2.2 ≠ 0) : drV x y = ([], 0, (bothV x y).2.2) := by unfold drV; rw [if_pos h]
theorem dr_ok {x y : List VP} {k : Nat} (h : (bothV x y).2.2 = 0) (hk : (k : Int) = (bothV x y).2.1 - (bothV x y).1 + 1) : drV x y = (drL x y (bothV x y).1 k, (bothV x y).1, 0) := by
  have hB := (both h).le
  unfold drV; rw [if_neg (by rw [h]; decide), show ((bothV x y).2.1 - (bothV x y).1).toNat + 1 = k by omega]
theorem dr_1 {x y : List VP} (h : (validTot x && validTot y) = false) : drV x y = ([], 0, 1) := by rw [dr_bad (by rw [both_bad h]; decide), both_bad h]
theorem dr_6 {A B : Option Addr} {c d : Nat} {x y : List VP} (h : (validTot x && validTot y) = true) (h1 : (comI [⟨A, c, x⟩, ⟨B, d, y⟩]).2 < (comI [⟨A, c, x⟩, ⟨B, d, y⟩]).1) : drV x y = ([], 0, 6) := by
  rw [comI_two] at h1
  have e : bothV x y = (0, 0, 6) := by
    rw [both_ok h]
    cases he : anyE [⟨none, 0, x⟩, ⟨none, 0, y⟩] with
    | true => exact cv_e he
    | false => rw [ci_f he] at h1; exact cv_n he h1
  rw [dr_bad (by rw [e]; decide), e]
theorem com_of {L : List VS} (h1 : ¬ (comI L).2 < (comI L).1) : anyE L = false ∧ comI L = (firstD L L.length, lastD L L.length) := by
  cases he : anyE L with
  | true => rw [ci_t he] at h1; exact absurd (by decide) h1
  | false => exact ⟨rfl, ci_f he⟩
theorem dr_3 {A B : Option Addr} {c d : Nat} {x y : List VP} (h : (validTot x && validTot y) = true) (h1 : ¬ (comI [⟨A, c, x⟩, ⟨B, d, y⟩]).2 < (comI [⟨A, c, x⟩, ⟨B, d, y⟩]).1) (h2 : 400 < (comI [⟨A, c, x⟩, ⟨B, d, y⟩]).2 - (comI [⟨A, c, x⟩, ⟨B, d, y⟩]).1 + 1) : drV x y = ([], 0, 3) := by
  rw [comI_two] at h1 h2
  obtain ⟨he, e⟩ := com_of h1
  rw [e] at h1 h2
  have e2 : bothV x y = (0, 0, 3) := by rw [both_ok h]; exact cv_l he h1 h2
  rw [dr_bad (by rw [e2]; decide), e2]
theorem both_of {A B : Option Addr} {c d : Nat} {x y : List VP} (h : (validTot x && validTot y) = true) (h1 : ¬ (comI [⟨A, c, x⟩, ⟨B, d, y⟩]).2 < (comI [⟨A, c, x⟩, ⟨B, d, y⟩]).1) (h2 : ¬ 400 < (comI [⟨A, c, x⟩, ⟨B, d, y⟩]).2 - (comI [⟨A, c, x⟩, ⟨B, d, y⟩]).1 + 1) : bothV x y = ((comI [⟨A, c, x⟩, ⟨B, d, y⟩]).1, (comI [⟨A, c, x⟩, ⟨B, d, y⟩]).2, 0) := by
  rw [comI_two] at h1 h2 ⊢
  obtain ⟨he, e⟩ := com_of h1
  rw [e] at h1 h2 ⊢
  rw [both_ok h]; exact cv_o he h1 h2
theorem com_lo2 (L : List VS) : ¬ (comI L).2 < (comI L).1 → 0 ≤ (comI L).1 ∧ (comI L).2 ≤ 100000 := fun h1 => by
  obtain ⟨he, e⟩ := com_of h1
  rw [e]; exact ⟨firstD_0 _, lastD_0 _⟩
theorem dr_code (x y : List VP) : (drV x y).2.2 = (bothV x y).2.2 := by
  by_cases h : (bothV x y).2.2 = 0
  · unfold drV; rw [if_neg (by rw [h]; decide), h]
  · rw [dr_bad h]
theorem best_of {x y : List VP} (h : (bothV x y).2.2 = 0) : ∃ n : Nat, (bothV x y).1 + (n : Int) ≤ (bothV x y).2.1 ∧ (drV x y).1.length = n + 1 ∧ minL (drV x y).1 ((drV x y).1.length - 1) = loD x y (bothV x y).1 n ∧ maxL (drV x y).1 ((drV x y).1.length - 1) = hiD x y (bothV x y).1 n
    ∧ bestV x y = ((minL (drV x y).1 ((drV x y).1.length - 1) + maxL (drV x y).1 ((drV x y).1.length - 1)) / 2, max (maxL (drV x y).1 ((drV x y).1.length - 1) - (minL (drV x y).1 ((drV x y).1.length - 1) + maxL (drV x y).1 ((drV x y).1.length - 1)) / 2) ((minL (drV x y).1 ((drV x y).1.length - 1) + maxL (drV x y).1 ((drV x y).1.length - 1)) / 2 - minL (drV x y).1 ((drV x y).1.length - 1)), 0) := by
  have hB := (both h).le
  obtain ⟨n, hn⟩ : ∃ n : Nat, (n : Int) = (bothV x y).2.1 - (bothV x y).1 := ⟨((bothV x y).2.1 - (bothV x y).1).toNat, by omega⟩
  have e : (drV x y).1 = drL x y (bothV x y).1 (n + 1) := by rw [dr_ok h (k := n + 1) (by omega)]
  have hl : (drV x y).1.length = n + 1 := by rw [e, drL_len]
  have h1 : minL (drV x y).1 ((drV x y).1.length - 1) = loD x y (bothV x y).1 n := by rw [hl, e]; exact minL_dr n (by omega)
  have h2 : maxL (drV x y).1 ((drV x y).1.length - 1) = hiD x y (bothV x y).1 n := by rw [hl, e]; exact maxL_dr n (by omega)
  refine ⟨n, by omega, hl, h1, h2, ?_⟩
  rw [h1, h2]; exact best_ok h hn
theorem rd2 {w : World} {A B : Option Addr} {c d : Nat} {x y : List VP} (h1 : Rd w A (x.flatMap encP)) (h2 : Rd w B (y.flatMap encP)) : ∀ k, k < 2 → Rd w ([⟨A, c, x⟩, ⟨B, d, y⟩].getD k zS).A (([⟨A, c, x⟩, ⟨B, d, y⟩].getD k zS).xs.flatMap encP)
  | 0, _ => h1
  | 1, _ => h2
theorem tot2 {A B : Option Addr} {c d : Nat} {x y : List VP} (h1 : Tot x) (h2 : Tot y) : ∀ k, k < 2 → Tot ([⟨A, c, x⟩, ⟨B, d, y⟩].getD k zS).xs
  | 0, _ => h1
  | 1, _ => h2
theorem tm_bd {a b : Int} (hb : 0 < b) : -b < a.tmod b ∧ a.tmod b < b := ⟨Int.lt_tmod_of_pos a hb, Int.tmod_lt_of_pos a hb⟩
theorem mod_fix {a b : Int} : (a.tmod b + b) % b = a % b := by
  have h := Int.tmod_add_mul_tdiv a b
  conv => rhs; rw [← h]
  rw [Int.add_mul_emod_self_left, show a.tmod b + b = a.tmod b + b * 1 by omega, Int.add_mul_emod_self_left]
/-! logs -/
def okR (s : List Int) (l : List VP) (i : Nat) : Bool := decide (0 ≤ (l.getD i zP).a ∧ (l.getD i zP).a ≤ 100000 ∧ 0 ≤ (l.getD i zP).b ∧ (l.getD i zP).b ≤ size s - 1 ∧ (0 < i → (l.getD (i - 1) zP).a < (l.getD i zP).a))
def validLog (s : List Int) (l : List VP) : Bool := validStack s && (decide (l.length ≤ 40) && (List.range l.length).all (okR s l))
theorem vl_stack {s : List Int} {l : List VP} (h : validStack s = false) : false = validLog s l := by unfold validLog; rw [h]; rfl
theorem vl_long {s : List Int} {l : List VP} (h : ¬ l.length ≤ 40) : false = validLog s l := by unfold validLog; rw [decide_eq_false h]; simp
theorem vl_bad {s : List Int} {l : List VP} {k : Nat} (hk : k < l.length) (h : okR s l k = false) : false = validLog s l := by
  unfold validLog; symm; rw [Bool.and_eq_false_iff]; right; rw [Bool.and_eq_false_iff]; right
  rw [List.all_eq_false]; exact ⟨k, by simpa using hk, by simp [h]⟩
theorem vl_yes {s : List Int} {l : List VP} {k : Nat} (hs : validStack s = true) (h : l.length ≤ 40) (hk : ¬ k < l.length) (hall : ∀ i, i < k → okR s l i = true) : true = validLog s l := by
  unfold validLog; rw [hs, decide_eq_true h, Bool.true_and, Bool.true_and]; symm; rw [List.all_eq_true]; intro i hi; exact hall i (by simp at hi; omega)
structure Log (s : List Int) (l : List VP) : Prop where
  stk : validStack s = true
  len : l.length ≤ 40
  day : ∀ i, i < l.length → 0 ≤ (l.getD i zP).a ∧ (l.getD i zP).a ≤ 100000
  val : ∀ i, i < l.length → 0 ≤ (l.getD i zP).b ∧ (l.getD i zP).b ≤ size s - 1
  up : ∀ i, i + 1 < l.length → (l.getD i zP).a < (l.getD (i + 1) zP).a
theorem log {s : List Int} {l : List VP} (h : validLog s l = true) : Log s l := by
  unfold validLog at h
  rw [Bool.and_eq_true, Bool.and_eq_true, decide_eq_true_iff, List.all_eq_true] at h
  have hk : ∀ i, i < l.length → _ := fun i hi => of_decide_eq_true (h.2.2 i (by simpa using hi))
  exact ⟨h.1, h.2.1, fun i hi => ⟨(hk i hi).1, (hk i hi).2.1⟩, fun i hi => ⟨(hk i hi).2.2.1, (hk i hi).2.2.2.1⟩, fun i hi => by have := (hk (i + 1) hi).2.2.2.2 (by omega); simpa using this⟩
theorem okr_t {s : List Int} {l : List VP} {i : Nat} (h1 : 0 ≤ (l.getD i zP).a ∧ (l.getD i zP).a ≤ 100000) (h2 : 0 ≤ (l.getD i zP).b ∧ (l.getD i zP).b ≤ size s - 1) (h3 : 0 < i → (l.getD (i - 1) zP).a < (l.getD i zP).a) : okR s l i = true := by
  unfold okR; rw [decide_eq_true_iff]; exact ⟨h1.1, h1.2, h2.1, h2.2, h3⟩
theorem okr_f {s : List Int} {l : List VP} {i : Nat} (h : ¬ (0 ≤ (l.getD i zP).a ∧ (l.getD i zP).a ≤ 100000) ∨ ¬ (0 ≤ (l.getD i zP).b ∧ (l.getD i zP).b ≤ size s - 1) ∨ 0 < i ∧ ¬ ((l.getD (i - 1) zP).a < (l.getD i zP).a)) : okR s l i = false := by
  unfold okR; rw [decide_eq_false_iff_not]; rintro ⟨q1, q2, q3, q4, q5⟩
  rcases h with h | h | ⟨h, h'⟩
  · exact h ⟨q1, q2⟩
  · exact h ⟨q3, q4⟩
  · exact h' (q5 h)
def rdOk (s : List Int) (r : VP) : Bool := decide (0 ≤ r.a ∧ r.a ≤ 100000 ∧ 0 ≤ r.b ∧ r.b ≤ size s - 1)
theorem okr_t' {s : List Int} {l : List VP} {i : Nat} (h : rdOk s (l.getD i zP) = true) (h3 : 0 < i → (l.getD (i - 1) zP).a < (l.getD i zP).a) : okR s l i = true := by
  unfold rdOk at h; rw [decide_eq_true_iff] at h; exact okr_t ⟨h.1, h.2.1⟩ ⟨h.2.2.1, h.2.2.2⟩ h3
theorem okr_f' {s : List Int} {l : List VP} {i : Nat} (h : rdOk s (l.getD i zP) = false ∨ 0 < i ∧ ¬ ((l.getD (i - 1) zP).a < (l.getD i zP).a)) : okR s l i = false := by
  rcases h with h | h
  · unfold rdOk at h; rw [decide_eq_false_iff_not] at h
    refine okr_f ?_
    by_cases h1 : 0 ≤ (l.getD i zP).a ∧ (l.getD i zP).a ≤ 100000
    · exact .inr (.inl fun h2 => h ⟨h1.1, h1.2, h2.1, h2.2⟩)
    · exact .inl h1
  · exact okr_f (.inr (.inr h))
/-! totals out of a log -/
def cntF (z : Int) (l : List VP) : Nat → Int
  | 0 => (l.getD 0 zP).b
  | k + 1 => cntF z l k + ((l.getD (k + 1) zP).b - (l.getD k zP).b) % z
def totL (z : Int) (l : List VP) : Nat → List VP
  | 0 => []
  | k + 1 => totL z l k ++ [⟨(l.getD k zP).a, cntF z l k⟩]
theorem totL_len (z : Int) (l : List VP) : ∀ k, (totL z l k).length = k
  | 0 => rfl
  | k + 1 => by rw [totL, List.length_append, totL_len z l k]; rfl
theorem totL_at {z : Int} {l : List VP} {i : Nat} : ∀ {k : Nat}, i < k → (totL z l k).getD i zP = ⟨(l.getD i zP).a, cntF z l i⟩
  | k + 1, h => by
    have hl := totL_len z l k
    rw [totL]
    rcases Nat.lt_or_ge i k with h1 | h1
    · have := totL_at (z := z) (l := l) h1
      simp only [List.getD] at this ⊢
      rw [List.getElem?_append_left (by omega)]; exact this
    · have e : i = k := by omega
      subst e
      simp only [List.getD]
      rw [List.getElem?_append_right (by omega)]; simp [hl]
def overF (z : Int) (l : List VP) (i : Nat) : Bool := decide (1000000000000 < cntF z l i)
def totF (s : List Int) (l : List VP) : List VP × Int :=
  if validLog s l = false then ([], 1) else match firstB (overF (size s) l) l.length with
    | some _ => ([], 3)
    | none => (totL (size s) l l.length, 0)
theorem tf_1 {s : List Int} {l : List VP} (h : validLog s l = false) : totF s l = ([], 1) := by unfold totF; rw [if_pos h]
theorem tf_3 {s : List Int} {l : List VP} {k : Nat} (h : validLog s l = true) (hk : k < l.length) (hall : ∀ i, i < k → overF (size s) l i = false) (hb : 1000000000000 < cntF (size s) l k) : totF s l = ([], 3) := by
  unfold totF; rw [if_neg (by rw [h]; decide), firstB_hit hk hall (by unfold overF; exact decide_eq_true hb)]
theorem tf_0 {s : List Int} {l : List VP} {k : Nat} (h : validLog s l = true) (hk : k = l.length) (hall : ∀ i, i < k → overF (size s) l i = false) : totF s l = (totL (size s) l k, 0) := by
  subst hk; unfold totF; rw [if_neg (by rw [h]; decide), firstB_none (k := l.length) (by omega) hall]
theorem totF_len {s : List Int} {l : List VP} : (totF s l).1.length ≤ 40 := by
  cases h : validLog s l with
  | false => rw [tf_1 h]; simp
  | true =>
    unfold totF; rw [if_neg (by rw [h]; decide)]
    split
    · simp
    · show (totL _ _ _).length ≤ 40
      rw [totL_len]; exact (log h).len
theorem cnt_step {s : List Int} {l : List VP} {k : Nat} (h : 0 < k) : cntF (size s) l k = cntF (size s) l (k - 1) + ((l.getD k zP).b - (l.getD (k - 1) zP).b) % size s := by
  match k, h with
  | k + 1, _ => rfl
theorem cnt_bd {s : List Int} {l : List VP} (h : Log s l) : ∀ {k : Nat}, k < l.length → (∀ i, i < k → overF (size s) l i = false) → 0 ≤ cntF (size s) l k ∧ cntF (size s) l k ≤ 2000000000000
  | 0, hk, _ => by have h1 := h.val 0 hk; have h2 := (W.stk h.stk); have := h2.le; have := h2.size_; rw [cntF]; omega
  | k + 1, hk, hall => by
    have h1 := cnt_bd h (k := k) (by omega) fun i hi => hall i (by omega)
    have h2 := hall k (by omega)
    have h3 := W.stk h.stk
    have h4 := h3.le
    have h5 := h3.pos
    have h6 := h3.size_
    have h7 := Int.emod_nonneg ((l.getD (k + 1) zP).b - (l.getD k zP).b) (show size s ≠ 0 by omega)
    have h8 := Int.emod_lt_of_pos ((l.getD (k + 1) zP).b - (l.getD k zP).b) (show 0 < size s by omega)
    unfold overF at h2; rw [decide_eq_false_iff_not] at h2
    rw [cntF]; omega
theorem cnt_z {z : Int} {l : List VP} {k : Nat} (h : ¬ 0 < k) : cntF z l k = (l.getD k zP).b := by
  obtain rfl : k = 0 := by omega
  rfl
theorem cnt_p {z : Int} {l : List VP} {k : Nat} (h : 0 < k) : cntF z l k = ((totL z l k).getD (k - 1) zP).b + ((l.getD k zP).b - (l.getD (k - 1) zP).b) % z := by
  rw [totL_at (by omega)]
  match k, h with
  | k + 1, _ => rfl
theorem cnt_q {s : List Int} {l : List VP} {k : Nat} (h : Log s l) (hk : k < l.length) (hall : ∀ i, i < k → overF (size s) l i = false) : 0 < k → 0 ≤ ((totL (size s) l k).getD (k - 1) zP).b ∧ ((totL (size s) l k).getD (k - 1) zP).b ≤ 1000000000000 := fun h0 => by
  rw [totL_at (by omega)]
  have h1 := cnt_bd h (k := k - 1) (by omega) fun i hi => hall i (by omega)
  have h2 := hall (k - 1) (by omega)
  unfold overF at h2; rw [decide_eq_false_iff_not] at h2
  exact ⟨h1.1, by dsimp only; omega⟩
theorem over_n {z : Int} {l : List VP} {k : Nat} (h : ¬ 1000000000000 < cntF z l k) : overF z l k = false := by unfold overF; exact decide_eq_false h
end Go.W

/- Lists of totals, and leaks, in plain numbers. -/
set_option linter.unusedVariables false
set_option linter.unusedSimpArgs false
namespace Go.W
open Go Go.Sx
def xsL (L : List VS) : List (List VP) := L.map (·.xs)
def rwP (T : TypeId) (r : VS) : Rw := ⟨.slice r.A r.xs.length r.c, T, 2, r.xs.length, r.xs.flatMap encP⟩
theorem readsP {C : Cx} {m : List Ent} {i : Nat} {T : TypeId} {K : List VS} (hi : m[i]? = some (.pile (K.map (rwP T)))) {k : Nat} (hk : k < K.length) : Reads C m (K.getD k zS).A ((K.getD k zS).xs.flatMap encP) :=
  Reads.pile hi (E := T) (sz := 2) (List.mem_map.2 ⟨_, getD_mem zS hk, rfl⟩)
/-! a list of lists that is made -/
def outP (K : List VS) (n : Nat) : List VS := K ++ List.replicate (n - K.length) zS
theorem outP_len {K : List VS} {n : Nat} (h : K.length ≤ n) : (outP K n).length = n := by unfold outP; simp; omega
theorem outP_all {K : List VS} {n : Nat} (h : K.length = n) : outP K n = K := by unfold outP; rw [h]; simp
theorem outP_set {K : List VS} {n : Nat} (r : VS) (h : K.length < n) : (outP K n).set K.length r = outP (K ++ [r]) n := by
  unfold outP
  rw [List.set_append_right _ _ (Nat.le_refl _), Nat.sub_self, List.length_append]
  obtain ⟨j, hj⟩ : ∃ j, n - K.length = j + 1 := ⟨n - K.length - 1, by omega⟩
  rw [hj, List.replicate_succ, List.set_cons_zero, List.append_assoc, show n - (K.length + [r].length) = j by simp; omega]; rfl
theorem outP_put {K : List VS} {n i : Nat} {v : List Value} (r : VS) (h : K.length < n) (hi : i = K.length * 1) (hv : v = encS r) : put ((outP K n).flatMap encS) i v = (outP (K ++ [r]) n).flatMap encS := by
  subst hi hv
  rw [flat_put encS_len _ _ _ (by rw [outP_len (by omega)]; exact h), outP_set r h]
theorem zout {zs : List Value} {n : Nat} (h : zs = encS zS) : zerosL zs n = (outP [] n).flatMap encS := by
  subst h; rw [zeros_flat encS_len zS (by omega) n]; unfold outP; simp
def totI (L : List VS) : Nat → Int
  | 0 => 0
  | i + 1 => totI L i + ((L.getD i zS).xs.length : Int)
theorem totI_0 (L : List VS) : ∀ i, 0 ≤ totI L i
  | 0 => by simp [totI]
  | i + 1 => by have := totI_0 L i; rw [totI]; omega
theorem totI_mono (L : List VS) {i j : Nat} (h : i ≤ j) : totI L i ≤ totI L j := by
  induction h with
  | refl => omega
  | step _ ih => rw [totI]; omega
theorem totI_each (L : List VS) {i k : Nat} (h : i < k) : ((L.getD i zS).xs.length : Int) ≤ totI L k := by
  have h1 := totI_mono L (show i + 1 ≤ k by omega)
  have h2 := totI_0 L i
  rw [totI] at h1; omega
theorem map_getD {s t : List VS} (h : s.map (·.xs) = t.map (·.xs)) (k : Nat) : (s.getD k zS).xs = (t.getD k zS).xs := by
  have e : ∀ u : List VS, (u.getD k zS).xs = (u.map (·.xs)).getD k [] := fun u => by
    simp only [List.getD, List.getElem?_map]; cases u[k]? <;> rfl
  rw [e, e, h]
theorem map_len {s t : List VS} (h : s.map (·.xs) = t.map (·.xs)) : s.length = t.length := by simpa using congrArg List.length h
theorem totI_congr {s t : List VS} (h : s.map (·.xs) = t.map (·.xs)) : ∀ i, totI s i = totI t i
  | 0 => rfl
  | i + 1 => by rw [totI, totI, totI_congr h i, map_getD h]
theorem map_step {K L : List VS} {r : VS} (h : K.map (·.xs) = (L.map (·.xs)).take K.length) (hk : K.length < L.length) (hr : r.xs = (L.getD K.length zS).xs) : (K ++ [r]).map (·.xs) = (L.map (·.xs)).take (K ++ [r]).length := by
  have h1 : K.length < (L.map (·.xs)).length := by simpa using hk
  rw [List.map_append, h, List.length_append, show [r].length = 1 from rfl, List.take_succ_eq_append_getElem h1]
  congr 1
  simp [hr, List.getD, hk]
theorem map_fin {K L : List VS} (h : K.map (·.xs) = (L.map (·.xs)).take K.length) (hk : K.length = L.length) : K.map (·.xs) = L.map (·.xs) := by
  rw [h, List.take_of_length_le (by simp; omega)]
/-! marks in them -/
def mkSS (K : List VS) (k : Int) : List VS := (List.range K.length).map fun i => ⟨(K.getD i zS).A, (K.getD i zS).c, mkP (K.getD i zS).xs.length (k + 2 * totI K i)⟩
theorem mkSS_len (K : List VS) (k : Int) : (mkSS K k).length = K.length := by simp [mkSS]
def midS (K : List VS) (k : Int) (i : Nat) : List VS := (mkSS K k).take i ++ K.drop i
theorem mid_at {K : List VS} {k : Int} {i : Nat} (h : i < K.length) (T : TypeId) : (midS K k i).map (rwP T) = ((mkSS K k).take i).map (rwP T) ++ rwP T (K.getD i zS) :: (K.drop (i + 1)).map (rwP T) := by
  unfold midS
  rw [List.drop_eq_getElem_cons h, List.map_append, List.map_cons]
  simp [List.getD, h]
theorem mid_next {K : List VS} {k : Int} {i : Nat} (h : i < K.length) (T : TypeId) : ((mkSS K k).take i).map (rwP T) ++ rwP T ⟨(K.getD i zS).A, (K.getD i zS).c, mkP (K.getD i zS).xs.length (k + 2 * totI K i)⟩ :: (K.drop (i + 1)).map (rwP T) = (midS K k (i + 1)).map (rwP T) := by
  have h1 : i < (mkSS K k).length := by rw [mkSS_len]; exact h
  unfold midS
  rw [List.take_succ_eq_append_getElem h1, List.append_assoc, List.map_append, List.map_append]
  simp [mkSS]
theorem mid_0 (K : List VS) (k : Int) : midS K k 0 = K := by simp [midS]
theorem mid_all (K : List VS) (k : Int) : midS K k K.length = mkSS K k := by unfold midS; rw [← mkSS_len K k, List.take_length, mkSS_len, List.drop_length, List.append_nil]
/-! leaks -/
def mkS (xs : List VP) : VS := ⟨none, 0, xs⟩
def nrm (L : List VS) : List VS := (L.map (·.xs)).map mkS
theorem nrm_len (L : List VS) : (nrm L).length = L.length := by simp [nrm]
theorem nrm_at (L : List VS) (k : Nat) : ((nrm L).getD k zS).xs = (L.getD k zS).xs := by
  refine map_getD ?_ k
  unfold nrm; rw [List.map_map]
  simp [mkS, Function.comp_def]
theorem firstD_nrm (L : List VS) : ∀ k, firstD (nrm L) k = firstD L k
  | 0 => rfl
  | k + 1 => by rw [firstD, firstD, firstD_nrm L k, nrm_at]
theorem lastD_nrm (L : List VS) : ∀ k, lastD (nrm L) k = lastD L k
  | 0 => rfl
  | k + 1 => by rw [lastD, lastD, lastD_nrm L k, nrm_at]
theorem anyE_nrm (L : List VS) : anyE (nrm L) = anyE L := by unfold anyE emptyAt; simp only [nrm_len, nrm_at]
theorem comI_nrm (L : List VS) : comI (nrm L) = comI L := by unfold comI; rw [anyE_nrm, nrm_len, firstD_nrm, lastD_nrm]
theorem comV_nrm (L : List VS) : comV (nrm L) = comV L := by unfold comV; rw [anyE_nrm, nrm_len, firstD_nrm, lastD_nrm]
theorem rdC {w : World} {A : Option Addr} {c : Nat} {x : List VP} {L : List VS} (h1 : Rd w A (x.flatMap encP)) (h2 : ∀ k, k < L.length → Rd w (L.getD k zS).A ((L.getD k zS).xs.flatMap encP)) : ∀ k, k < ((⟨A, c, x⟩ : VS) :: L).length → Rd w (((⟨A, c, x⟩ : VS) :: L).getD k zS).A ((((⟨A, c, x⟩ : VS) :: L).getD k zS).xs.flatMap encP)
  | 0, _ => h1
  | k + 1, h => by have := h2 k (by simpa using h); simpa using this
theorem totC {A : Option Addr} {c : Nat} {x : List VP} {L : List VS} (h1 : Tot x) (h2 : ∀ k, k < L.length → Tot (L.getD k zS).xs) : ∀ k, k < ((⟨A, c, x⟩ : VS) :: L).length → Tot (((⟨A, c, x⟩ : VS) :: L).getD k zS).xs
  | 0, _ => h1
  | k + 1, h => by have := h2 k (by simpa using h); simpa using this
def moreV (x : List VP) (day : Int) : Int := (onW x (day + 1)).1 - (onW x day).1
theorem more_bd {x : List VP} (h : Tot x) (day : Int) : -1000000000000 ≤ moreV x day ∧ moreV x day ≤ 1000000000000 := by
  have h1 := ow_bd h day
  have h2 := ow_bd h (day + 1)
  unfold moreV; omega
def sumM (L : List VS) (day : Int) : Nat → Int
  | 0 => 0
  | i + 1 => sumM L day i + moreV (L.getD i zS).xs day
theorem sumM_nrm (L : List VS) (day : Int) : ∀ i, sumM (nrm L) day i = sumM L day i
  | 0 => rfl
  | i + 1 => by rw [sumM, sumM, sumM_nrm L day i, nrm_at]
theorem sumM_bd {L : List VS} (h : ∀ k, k < L.length → Tot (L.getD k zS).xs) (day : Int) : ∀ i, i ≤ L.length → -1000000000000 * (i : Int) ≤ sumM L day i ∧ sumM L day i ≤ 1000000000000 * (i : Int)
  | 0, _ => by simp [sumM]
  | i + 1, hi => by
    have h1 := sumM_bd h day i (by omega)
    have h2 := more_bd (h i (by omega)) day
    rw [sumM]; omega
def leakL (x : List VP) (L : List VS) (wn f : Int) : Nat → List Int
  | 0 => []
  | k + 1 => if sumM L (f + (k : Int)) L.length + wn < moreV x (f + (k : Int)) then leakL x L wn f k ++ [f + (k : Int)] else leakL x L wn f k
theorem leakL_len (x : List VP) (L : List VS) (wn f : Int) : ∀ k, (leakL x L wn f k).length ≤ k
  | 0 => by simp [leakL]
  | k + 1 => by
    have := leakL_len x L wn f k
    rw [leakL]; split
    · rw [List.length_append]; simp; omega
    · omega
theorem leakL_nrm (x : List VP) (L : List VS) (wn f : Int) : ∀ k, leakL x (nrm L) wn f k = leakL x L wn f k
  | 0 => rfl
  | k + 1 => by rw [leakL, leakL, leakL_nrm x L wn f k, nrm_len, sumM_nrm]
theorem ll_y {x : List VP} {L : List VS} {wn f : Int} {k : Nat} (h : sumM L (f + (k : Int)) L.length + wn < moreV x (f + (k : Int))) : leakL x L wn f (k + 1) = leakL x L wn f k ++ [f + (k : Int)] := by rw [leakL, if_pos h]
theorem ll_n {x : List VP} {L : List VS} {wn f : Int} {k : Nat} (h : ¬ sumM L (f + (k : Int)) L.length + wn < moreV x (f + (k : Int))) : leakL x L wn f (k + 1) = leakL x L wn f k := by rw [leakL, if_neg h]
def vB (x : List VP) (L : List VS) : Nat → Bool
  | 0 => validTot x
  | k + 1 => validTot (L.getD k zS).xs
def allV (x : List VP) (L : List VS) : Bool := (List.range (L.length + 1)).all (vB x L)
theorem vB_nrm (x : List VP) (L : List VS) : ∀ k, vB x (nrm L) k = vB x L k
  | 0 => rfl
  | k + 1 => by rw [vB, vB, nrm_at]
theorem allV_nrm (x : List VP) (L : List VS) : allV x (nrm L) = allV x L := by unfold allV; rw [nrm_len]; congr 1; funext k; exact vB_nrm x L k
theorem av_no {x : List VP} {L : List VS} {k : Nat} (hk : k ≤ L.length) (h : vB x L k = false) : allV x L = false := by
  unfold allV; rw [List.all_eq_false]; exact ⟨k, by simp; omega, by simp [h]⟩
theorem av_yes {x : List VP} {L : List VS} {k : Nat} (hk : k = L.length) (hall : ∀ i, i < k → vB x L i = true) (h : vB x L k = true) : allV x L = true := by
  subst hk; unfold allV; rw [List.all_eq_true]; intro i hi
  rcases Nat.lt_or_ge i L.length with h1 | h1
  · exact hall i h1
  · rw [show i = L.length by simp at hi; omega]; exact h
theorem av_tot {x : List VP} {L : List VS} (h : allV x L = true) : Tot x ∧ ∀ k, k < L.length → Tot (L.getD k zS).xs := by
  unfold allV at h; rw [List.all_eq_true] at h
  exact ⟨tot (h 0 (by simp)), fun k hk => tot (h (k + 1) (by simp; omega))⟩
def leakV (x : List VP) (Ls : List (List VP)) (wn : Int) : List Int × Int :=
  if allV x (Ls.map mkS) = false then ([], 1)
  else if ¬ ((1 ≤ Ls.length ∧ Ls.length ≤ 6) ∧ 0 ≤ wn ∧ wn ≤ 1000000000000) then ([], 2)
  else if (comV ((x :: Ls).map mkS)).2.2 = 6 then ([], 0)
  else if (comV ((x :: Ls).map mkS)).2.2 ≠ 0 then ([], (comV ((x :: Ls).map mkS)).2.2)
  else (leakL x (Ls.map mkS) wn (comV ((x :: Ls).map mkS)).1 ((comV ((x :: Ls).map mkS)).2.1 - (comV ((x :: Ls).map mkS)).1).toNat, 0)
theorem leak_eq {A : Option Addr} {c : Nat} {x : List VP} {L : List VS} {wn : Int} : leakV x (L.map (·.xs)) wn =
  if allV x L = false then ([], 1)
  else if ¬ ((1 ≤ L.length ∧ L.length ≤ 6) ∧ 0 ≤ wn ∧ wn ≤ 1000000000000) then ([], 2)
  else if (comV (⟨A, c, x⟩ :: L)).2.2 = 6 then ([], 0)
  else if (comV (⟨A, c, x⟩ :: L)).2.2 ≠ 0 then ([], (comV (⟨A, c, x⟩ :: L)).2.2)
  else (leakL x L wn (comV (⟨A, c, x⟩ :: L)).1 ((comV (⟨A, c, x⟩ :: L)).2.1 - (comV (⟨A, c, x⟩ :: L)).1).toNat, 0) := by
  have e1 : (L.map (·.xs)).map mkS = nrm L := rfl
  have e2 : (x :: L.map (·.xs)).map mkS = nrm (⟨A, c, x⟩ :: L) := rfl
  unfold leakV
  rw [e1, e2, comV_nrm, allV_nrm, leakL_nrm, List.length_map]
theorem lk_1 {x : List VP} {L : List VS} {wn : Int} (h : allV x L = false) : leakV x (L.map (·.xs)) wn = ([], 1) := by rw [leak_eq (A := none) (c := 0), if_pos h]
theorem lk_2 {x : List VP} {L : List VS} {wn : Int} (h : allV x L = true) (h1 : ¬ ((1 ≤ L.length ∧ L.length ≤ 6) ∧ 0 ≤ wn ∧ wn ≤ 1000000000000)) : leakV x (L.map (·.xs)) wn = ([], 2) := by rw [leak_eq (A := none) (c := 0), if_neg (by rw [h]; decide), if_pos h1]
theorem lk_6 {A : Option Addr} {c : Nat} {x : List VP} {L : List VS} {wn : Int} (h : allV x L = true) (h1 : (1 ≤ L.length ∧ L.length ≤ 6) ∧ 0 ≤ wn ∧ wn ≤ 1000000000000) (h2 : (comV (⟨A, c, x⟩ :: L)).2.2 = 6) : leakV x (L.map (·.xs)) wn = ([], 0) := by
  rw [leak_eq (A := A) (c := c), if_neg (by rw [h]; decide), if_neg (not_not_intro h1), if_pos h2]
theorem lk_c {A : Option Addr} {c : Nat} {x : List VP} {L : List VS} {wn : Int} (h : allV x L = true) (h1 : (1 ≤ L.length ∧ L.length ≤ 6) ∧ 0 ≤ wn ∧ wn ≤ 1000000000000) (h2 : ¬ (comV (⟨A, c, x⟩ :: L)).2.2 = 6) (h3 : (comV (⟨A, c, x⟩ :: L)).2.2 ≠ 0) : leakV x (L.map (·.xs)) wn = ([], (comV (⟨A, c, x⟩ :: L)).2.2) := by
  rw [leak_eq (A := A) (c := c), if_neg (by rw [h]; decide), if_neg (not_not_intro h1), if_neg h2, if_pos h3]
theorem lk_0 {A : Option Addr} {c : Nat} {x : List VP} {L : List VS} {wn : Int} {k : Nat} (h : allV x L = true) (h1 : (1 ≤ L.length ∧ L.length ≤ 6) ∧ 0 ≤ wn ∧ wn ≤ 1000000000000) (h3 : (comV (⟨A, c, x⟩ :: L)).2.2 = 0) (hk : (k : Int) = (comV (⟨A, c, x⟩ :: L)).2.1 - (comV (⟨A, c, x⟩ :: L)).1) : leakV x (L.map (·.xs)) wn = (leakL x L wn (comV (⟨A, c, x⟩ :: L)).1 k, 0) := by
  rw [leak_eq (A := A) (c := c), if_neg (by rw [h]; decide), if_neg (not_not_intro h1), if_neg (by rw [h3]; decide), if_neg (by rw [h3]; decide), ← hk, Int.toNat_natCast]
/-- What the common days tell. -/
structure Com (L : List VS) (f l : Int) : Prop where
  le : f ≤ l
  lo : 0 ≤ f
  hi : l ≤ 100000
  span : l - f ≤ 399
  cov : ∀ i, i < L.length → ∀ day, f ≤ day → day ≤ l → Covers (L.getD i zS).xs day
theorem com_cov {L : List VS} (he : anyE L = false) : ∀ i, i < L.length → ∀ day, firstD L L.length ≤ day → day ≤ lastD L L.length → Covers (L.getD i zS).xs day := fun i hi day h1 h2 => by
  have h3 := ae_all he i hi
  have h4 := firstD_ge (L := L) hi
  have h5 := lastD_le (L := L) hi
  exact ⟨by omega, by omega, by omega⟩
theorem comV_0 {L : List VS} (h : (comV L).2.2 = 0) : Com L (comV L).1 (comV L).2.1 := by
  cases he : anyE L with
  | true => rw [cv_e he] at h; cases h
  | false =>
    by_cases h1 : lastD L L.length < firstD L L.length
    · rw [cv_n he h1] at h; cases h
    · by_cases h2 : 400 < lastD L L.length - firstD L L.length + 1
      · rw [cv_l he h1 h2] at h; cases h
      · rw [cv_o he h1 h2]
        have g0 := firstD_0 (L := L) L.length
        have g1 := lastD_0 (L := L) L.length
        exact ⟨by dsimp only; omega, g0, g1, by dsimp only; omega, com_cov he⟩
theorem lk_3 {A : Option Addr} {c : Nat} {x : List VP} {L : List VS} {wn : Int} (h : allV x L = true) (h1 : (1 ≤ L.length ∧ L.length ≤ 6) ∧ 0 ≤ wn ∧ wn ≤ 1000000000000) (h2 : 400 < (comI (⟨A, c, x⟩ :: L)).2 - (comI (⟨A, c, x⟩ :: L)).1 + 1) : leakV x (L.map (·.xs)) wn = ([], 3) := by
  have hn : ¬ (comI (⟨A, c, x⟩ :: L)).2 < (comI (⟨A, c, x⟩ :: L)).1 := by omega
  obtain ⟨he, e⟩ := com_of hn
  rw [e] at h2 hn
  have e2 := cv_l he hn h2
  rw [lk_c (A := A) (c := c) h h1 (by rw [e2]; decide) (by rw [e2]; decide), e2]
/-- How the program's days are those of the reference. -/
theorem lk_days {A : Option Addr} {c : Nat} {x : List VP} {L : List VS} {wn : Int} (h : allV x L = true) (h1 : (1 ≤ L.length ∧ L.length ≤ 6) ∧ 0 ≤ wn ∧ wn ≤ 1000000000000) (h2 : ¬ 400 < (comI (⟨A, c, x⟩ :: L)).2 - (comI (⟨A, c, x⟩ :: L)).1 + 1) :
    ((comI (⟨A, c, x⟩ :: L)).2 < (comI (⟨A, c, x⟩ :: L)).1 ∧ leakV x (L.map (·.xs)) wn = ([], 0)) ∨ (Com (⟨A, c, x⟩ :: L) (comI (⟨A, c, x⟩ :: L)).1 (comI (⟨A, c, x⟩ :: L)).2 ∧ ∀ k : Nat, (k : Int) = (comI (⟨A, c, x⟩ :: L)).2 - (comI (⟨A, c, x⟩ :: L)).1 → leakV x (L.map (·.xs)) wn = (leakL x L wn (comI (⟨A, c, x⟩ :: L)).1 k, 0)) := by
  by_cases hn : (comI (⟨A, c, x⟩ :: L)).2 < (comI (⟨A, c, x⟩ :: L)).1
  · refine .inl ⟨hn, lk_6 (A := A) (c := c) h h1 ?_⟩
    cases he : anyE (⟨A, c, x⟩ :: L) with
    | true => rw [cv_e he]
    | false => rw [ci_f he] at hn; rw [cv_n he hn]
  · obtain ⟨he, e⟩ := com_of hn
    have hn' := hn
    have h2' := h2
    rw [e] at hn' h2'
    have e2 := cv_o he hn' h2'
    have h3 : (comV (⟨A, c, x⟩ :: L)).2.2 = 0 := by rw [e2]
    have hc := comV_0 h3
    have e3 : (comI (⟨A, c, x⟩ :: L)).1 = (comV (⟨A, c, x⟩ :: L)).1 := by rw [e, e2]
    have e4 : (comI (⟨A, c, x⟩ :: L)).2 = (comV (⟨A, c, x⟩ :: L)).2.1 := by rw [e, e2]
    rw [e3, e4]
    exact .inr ⟨hc, fun k hk => lk_0 h h1 h3 hk⟩
theorem leak_len (x : List VP) (L : List VS) (wn : Int) : (leakV x (L.map (·.xs)) wn).1.length ≤ 400 := by
  rw [leak_eq (A := none) (c := 0)]
  split
  · simp
  · split
    · simp
    · split
      · simp
      · split
        · simp
        · rename_i h
          have hc := comV_0 (L := ⟨none, 0, x⟩ :: L) (by simpa using h)
          have h2 := hc.span
          have h3 := hc.le
          have := leakL_len x L wn (comV (⟨none, 0, x⟩ :: L)).1 ((comV (⟨none, 0, x⟩ :: L)).2.1 - (comV (⟨none, 0, x⟩ :: L)).1).toNat
          show (leakL _ _ _ _ _).length ≤ 400
          omega
theorem any_bad {x : List VP} {L : List VS} {A : Option Addr} {c : Nat} : ((⟨A, c, x⟩ : VS) :: L).any (fun r => !validTot r.xs) = !allV x L := by
  cases h : allV x L with
  | true =>
    unfold allV at h; rw [List.all_eq_true] at h
    show _ = false
    rw [List.any_eq_false]
    intro r hr
    rcases List.mem_cons.1 hr with rfl | hr
    · have := h 0 (by simp); simpa [vB] using this
    · obtain ⟨i, hi, rfl⟩ := List.getElem_of_mem hr
      have := h (i + 1) (by simp; omega)
      simpa [vB, List.getD, hi] using this
  | false =>
    unfold allV at h; rw [List.all_eq_false] at h
    obtain ⟨i, hi, hv⟩ := h
    show _ = true
    rw [List.any_eq_true]
    match i, hi, hv with
    | 0, _, hv => exact ⟨_, List.mem_cons_self .., by simpa [vB] using hv⟩
    | i + 1, hi, hv =>
      have hi' : i < L.length := by simp at hi; omega
      exact ⟨L[i], List.mem_cons_of_mem _ (List.getElem_mem hi'), by simpa [vB, List.getD, hi'] using hv⟩
theorem comI_bd {L : List VS} (hT : ∀ k, k < L.length → Tot (L.getD k zS).xs) : 0 ≤ (comI L).1 ∧ (comI L).1 ≤ 100000 ∧ -1 ≤ (comI L).2 ∧ (comI L).2 ≤ 100000 := by
  cases he : anyE L with
  | true => rw [ci_t he]; decide
  | false =>
    rw [ci_f he]
    have h1 := firstD_0 (L := L) L.length
    have h2 := lastD_0 (L := L) L.length
    have h3 := firstD_hi hT (ae_all he)
    have h4 := lastD_lo hT (ae_all he)
    exact ⟨h1, h3, by dsimp only; omega, h2⟩
theorem lk_end {x : List VP} {L : List VS} {wn G E : Int} {k : Nat} {c : Prop} (h : (E < G ∧ leakV x (L.map (·.xs)) wn = ([], 0)) ∨ (c ∧ ∀ k : Nat, (k : Int) = E - G → leakV x (L.map (·.xs)) wn = (leakL x L wn G k, 0))) (hle : c → G ≤ E) (hk : k = 0 ∨ G + (k : Int) ≤ E) (hx : ¬ G + (k : Int) < E) : leakV x (L.map (·.xs)) wn = (leakL x L wn G k, 0) := by
  rcases h with ⟨h1, h2⟩ | ⟨hc, h2⟩
  · obtain rfl : k = 0 := by omega
    exact h2
  · have := hle hc
    exact h2 k (by omega)
theorem eq_ss {s t : List VS} (h : s.map (·.xs) = t.map (·.xs)) (k : Nat) : allEq sameP zP (s.getD k zS).xs (t.getD k zS).xs = true := by rw [map_getD h]; exact samePs_refl _
theorem liftP {C : Cx} {m F : List Ent} {T : TypeId} {r : VS} {rs xs ys : List Rw} (he : rs = xs ++ rwP T r :: ys) (hp : m.Perm (.pile rs :: F)) : ∀ w, Holds C.base C.w0 m w → Holds C.base C.w0 (.row (.slice r.A r.xs.length r.c) T 2 r.xs.length (r.xs.flatMap encP) :: .pile (xs ++ ys) :: F) w :=
  liftAt he hp
theorem layP {C : Cx} {m F : List Ent} {T : TypeId} {A : Option Addr} {c n : Nat} {l : List VP} {rs xs ys : List Rw} (he : xs ++ rwP T ⟨A, c, l⟩ :: ys = rs) (hl : l.length = n) (hp : m.Perm (.row (.slice A n c) T 2 n (l.flatMap encP) :: .pile (xs ++ ys) :: F)) : ∀ w, Holds C.base C.w0 m w → Holds C.base C.w0 (.pile rs :: F) w := by
  subst hl he; exact layHolds hp
theorem lk_1a {A : Option Addr} {c : Nat} {x : List VP} {L : List VS} {wn : Int} (h : List.any (⟨A, c, x⟩ :: L) (fun r => !validTot r.xs) = true) : leakV x (L.map (·.xs)) wn = ([], 1) := by
  rw [any_bad] at h; exact lk_1 (by simpa using h)
theorem av_any {A : Option Addr} {c : Nat} {x : List VP} {L : List VS} (h : List.any (⟨A, c, x⟩ :: L) (fun r => !validTot r.xs) = false) : allV x L = true := by
  rw [any_bad] at h; simpa using h
end Go.W

/- Drifts of lists that are drawn, in plain numbers. -/
set_option linter.unusedVariables false
set_option linter.unusedSimpArgs false
namespace Go.W
open Go Go.Sx
def Small (l : List VP) : Prop := Tot l ∧ l.length ≤ 6 ∧ ∀ i, i < l.length → (l.getD i zP).a ≤ 41
/-- A list in the making, and what comes next. -/
structure Dr (l : List VP) (p : VP) : Prop where
  len : l.length ≤ 6
  a0 : 0 ≤ p.a
  a1 : p.a ≤ 5 + 6 * (l.length : Int)
  b0 : 0 ≤ p.b
  b1 : p.b ≤ 19 + 29 * (l.length : Int)
  each : ∀ i, i < l.length → 0 ≤ (l.getD i zP).a ∧ (l.getD i zP).a < p.a ∧ 0 ≤ (l.getD i zP).b ∧ (l.getD i zP).b ≤ p.b
  up : ∀ i, i + 1 < l.length → (l.getD i zP).a < (l.getD (i + 1) zP).a ∧ (l.getD i zP).b ≤ (l.getD (i + 1) zP).b
structure DrS where
  l : List VP
  p : VP
  at_ : Int
  sd : Int
  k : Int
  A : Option Addr
  c : Nat
theorem snoc_at {l : List VP} {p : VP} {i : Nat} (h : i < l.length) : (l ++ [p]).getD i zP = l.getD i zP := by
  simp only [List.getD]; rw [List.getElem?_append_left h]
theorem snoc_last {l : List VP} {p : VP} : (l ++ [p]).getD l.length zP = p := by simp [List.getD]
theorem Dr.nil {p : VP} (h1 : 0 ≤ p.a ∧ p.a ≤ 5) (h2 : 0 ≤ p.b ∧ p.b ≤ 19) : Dr [] p :=
  ⟨by simp, h1.1, by simpa using h1.2, h2.1, by simpa using h2.2, fun i hi => by simp at hi, fun i hi => by simp at hi⟩
theorem Dr.next {l : List VP} {p q : VP} (h : Dr l p) (hl : l.length < 6) (h1 : p.a + 1 ≤ q.a ∧ q.a ≤ p.a + 6) (h2 : p.b ≤ q.b ∧ q.b ≤ p.b + 29) : Dr (l ++ [p]) q := by
  have hln : (l ++ [p]).length = l.length + 1 := by simp
  have := h.a0; have := h.a1; have := h.b0; have := h.b1
  refine ⟨by omega, by omega, by rw [hln]; omega, by omega, by rw [hln]; omega, fun i hi => ?_, fun i hi => ?_⟩
  · rw [hln] at hi
    rcases Nat.lt_or_ge i l.length with h3 | h3
    · rw [snoc_at h3]; have := h.each i h3; omega
    · rw [show i = l.length by omega, snoc_last]; omega
  · rw [hln] at hi
    rcases Nat.lt_or_ge (i + 1) l.length with h3 | h3
    · rw [snoc_at h3, snoc_at (by omega)]; exact h.up i h3
    · rw [show i + 1 = l.length by omega, snoc_last, snoc_at (by omega)]; have := h.each i (by omega); omega
theorem Dr.small {l : List VP} {p : VP} (h : Dr l p) : Small l := by
  have := h.a1; have := h.b1; have := h.len
  refine ⟨⟨by omega, fun i hi => ?_, fun i hi => ?_, h.up⟩, h.len, fun i hi => ?_⟩
  · have := h.each i hi; omega
  · have := h.each i hi; omega
  · have := h.each i hi; omega
theorem tot_valid {l : List VP} (h : Tot l) : validTot l = true := by
  refine (vt_yes (k := l.length) h.len (Nat.lt_irrefl _) fun i hi => ok_t (h.day i hi) (h.cnt i hi) fun h0 => ?_).symm
  have := h.up (i - 1) (by omega)
  rwa [show i - 1 + 1 = i by omega] at this
/-! the worst drift -/
def absI (d : Int) : Int := max d (-d)
def wkP (s t : List VP) (f : Int) : Nat → Nat
  | 0 => 0
  | k + 1 => if absI (drD s t (f + (wkP s t f k : Int))) < absI (drD s t (f + (k : Int))) then k else wkP s t f k
theorem wk_le (s t : List VP) (f : Int) : ∀ k, wkP s t f k ≤ k - 1 ∧ wkP s t f k ≤ k
  | 0 => by simp [wkP]
  | k + 1 => by have := wk_le s t f k; rw [wkP]; split <;> omega
theorem wk_y {s t : List VP} {f : Int} {k : Nat} (h : absI (drD s t (f + (wkP s t f k : Int))) < absI (drD s t (f + (k : Int)))) : wkP s t f (k + 1) = k := by rw [wkP, if_pos h]
theorem wk_n {s t : List VP} {f : Int} {k : Nat} (h : ¬ absI (drD s t (f + (wkP s t f k : Int))) < absI (drD s t (f + (k : Int)))) : wkP s t f (k + 1) = wkP s t f k := by rw [wkP, if_neg h]
theorem wk_1 (s t : List VP) (f : Int) : wkP s t f 1 = 0 := by rw [wkP]; split <;> rfl
theorem wk_max (s t : List VP) (f : Int) : ∀ (k i : Nat), i < k → absI (drD s t (f + (i : Int))) ≤ absI (drD s t (f + (wkP s t f k : Int))) ∧ (i < wkP s t f k → absI (drD s t (f + (i : Int))) < absI (drD s t (f + (wkP s t f k : Int))))
  | k + 1, i, hi => by
    have hle := wk_le s t f k
    by_cases h : absI (drD s t (f + (wkP s t f k : Int))) < absI (drD s t (f + (k : Int)))
    · rw [wk_y h]
      rcases Nat.lt_or_ge i k with h1 | h1
      · have := wk_max s t f k i h1; exact ⟨by omega, fun _ => by omega⟩
      · rw [show i = k by omega]; exact ⟨Int.le_refl _, fun h2 => by omega⟩
    · rw [wk_n h]
      rcases Nat.lt_or_ge i k with h1 | h1
      · exact wk_max s t f k i h1
      · rw [show i = k by omega]; exact ⟨by omega, fun h2 => by omega⟩
def worstV (s t : List VP) : Int × Int × Int :=
  if (bothV s t).2.2 ≠ 0 then (0, 0, (bothV s t).2.2) else
  ((bothV s t).1 + (wkP s t (bothV s t).1 (((bothV s t).2.1 - (bothV s t).1).toNat + 1) : Int), drD s t ((bothV s t).1 + (wkP s t (bothV s t).1 (((bothV s t).2.1 - (bothV s t).1).toNat + 1) : Int)), 0)
theorem wo_bad {s t : List VP} (h : (bothV s t).2.2 ≠ 0) : worstV s t = (0, 0, (bothV s t).2.2) := by unfold worstV; rw [if_pos h]
theorem wo_ok {s t : List VP} {k : Nat} (h : (bothV s t).2.2 = 0) (hk : (k : Int) = (bothV s t).2.1 - (bothV s t).1 + 1) : worstV s t = ((bothV s t).1 + (wkP s t (bothV s t).1 k : Int), drD s t ((bothV s t).1 + (wkP s t (bothV s t).1 k : Int)), 0) := by
  have := (both h).le
  unfold worstV; rw [if_neg (by rw [h]; decide), show ((bothV s t).2.1 - (bothV s t).1).toNat + 1 = k by omega]
theorem wo_code (s t : List VP) : (worstV s t).2.2 = (bothV s t).2.2 := by
  by_cases h : (bothV s t).2.2 = 0
  · unfold worstV; rw [if_neg (by rw [h]; decide), h]
  · rw [wo_bad h]
theorem be_code (s t : List VP) : (bestV s t).2.2 = (bothV s t).2.2 := by
  by_cases h : (bothV s t).2.2 = 0
  · unfold bestV; rw [if_neg (by rw [h]; decide), h]
  · rw [best_bad h]
theorem dr_row {s t : List VP} {k : Nat} (h : (bothV s t).2.2 = 0) (hk : (k : Int) = (bothV s t).2.1 - (bothV s t).1 + 1) : (drV s t).1 = drL s t (bothV s t).1 k ∧ (drV s t).1.length = k ∧ (drV s t).2.1 = (bothV s t).1 := by
  rw [dr_ok h hk]; exact ⟨rfl, drL_len _ _ _ _, rfl⟩
/-! the count on a day, and the drift -/
def conV (l : List VP) (day : Int) : Int × Int := if ¬ (0 ≤ day ∧ day ≤ 100000) then (0, 2) else if (onW l day).2 = false then (0, 6) else ((onW l day).1, 0)
theorem con_2 {l : List VP} {day : Int} (h : ¬ (0 ≤ day ∧ day ≤ 100000)) : conV l day = (0, 2) := by unfold conV; rw [if_pos h]
theorem con_6 {l : List VP} {day : Int} (h : 0 ≤ day ∧ day ≤ 100000) (h1 : (onW l day).2 = false) : conV l day = (0, 6) := by unfold conV; rw [if_neg (not_not_intro h), if_pos h1]
theorem con_0 {l : List VP} {day : Int} (h : 0 ≤ day ∧ day ≤ 100000) (h1 : (onW l day).2 = true) : conV l day = ((onW l day).1, 0) := by unfold conV; rw [if_neg (not_not_intro h), if_neg (by rw [h1]; decide)]
theorem con_6' {l : List VP} {day : Int} (h : 0 ≤ day ∧ day ≤ 100000) (h1 : ¬ Covers l day) : conV l day = (0, 6) := con_6 h (by rw [ow_n h1])
theorem con_0' {l : List VP} {day : Int} (h : 0 ≤ day ∧ day ≤ 100000) (h1 : Covers l day) : conV l day = (onV l day, 0) := by rw [con_0 h (by rw [ow_c h1]), ow_c h1]
theorem con_bd {l : List VP} (h : Tot l) (day : Int) : 0 ≤ (conV l day).1 ∧ (conV l day).1 ≤ 1000000000000 := by
  unfold conV; split
  · exact ⟨by decide, by decide⟩
  · split
    · exact ⟨by decide, by decide⟩
    · exact ow_bd h day
def driV (s t : List VP) (day : Int) : Int × Int := if (conV s day).2 ≠ 0 then (0, (conV s day).2) else if (conV t day).2 ≠ 0 then (0, (conV t day).2) else ((conV s day).1 - (conV t day).1, 0)
theorem dri_1 {s t : List VP} {day : Int} (h : (conV s day).2 ≠ 0) : driV s t day = (0, (conV s day).2) := by unfold driV; rw [if_pos h]
theorem dri_2 {s t : List VP} {day : Int} (h : ¬ (conV s day).2 ≠ 0) (h1 : (conV t day).2 ≠ 0) : driV s t day = (0, (conV t day).2) := by unfold driV; rw [if_neg h, if_pos h1]
theorem dri_0 {s t : List VP} {day : Int} (h : ¬ (conV s day).2 ≠ 0) (h1 : ¬ (conV t day).2 ≠ 0) : driV s t day = ((conV s day).1 - (conV t day).1, 0) := by unfold driV; rw [if_neg h, if_neg h1]
/-- On which days there is a drift. -/
theorem dri_ok {s t : List VP} {day : Int} (h : (driV s t day).2 = 0) : Covers s day ∧ Covers t day ∧ 0 ≤ day ∧ day ≤ 100000 ∧ (driV s t day).1 = drD s t day := by
  have hr : 0 ≤ day ∧ day ≤ 100000 := by
    apply Classical.byContradiction; intro h1
    rw [dri_1 (by rw [con_2 h1]; decide), con_2 h1] at h; cases h
  have hs : Covers s day := by
    apply Classical.byContradiction; intro h1
    rw [dri_1 (by rw [con_6' hr h1]; decide), con_6' hr h1] at h; cases h
  have ht : Covers t day := by
    apply Classical.byContradiction; intro h1
    rw [dri_2 (by rw [con_0' hr hs]; exact fun h => h rfl) (by rw [con_6' hr h1]; decide), con_6' hr h1] at h; cases h
  refine ⟨hs, ht, hr.1, hr.2, ?_⟩
  rw [dri_0 (by rw [con_0' hr hs]; exact fun h => h rfl) (by rw [con_0' hr ht]; exact fun h => h rfl), con_0' hr hs, con_0' hr ht, drD_on hs ht]
theorem dri_yes {s t : List VP} {day : Int} (hr : 0 ≤ day ∧ day ≤ 100000) (hs : Covers s day) (ht : Covers t day) : driV s t day = (drD s t day, 0) := by
  rw [dri_0 (by rw [con_0' hr hs]; exact fun h => h rfl) (by rw [con_0' hr ht]; exact fun h => h rfl), con_0' hr hs, con_0' hr ht, drD_on hs ht]
/-! lists that are small -/
theorem both_small {s t : List VP} (hs : Small s) (ht : Small t) : (bothV s t).2.2 = 0 ∨ (bothV s t).2.2 = 6 := by
  have hv : (validTot s && validTot t) = true := by rw [tot_valid hs.1, tot_valid ht.1]; rfl
  rw [both_ok hv]
  cases he : anyE [⟨none, 0, s⟩, ⟨none, 0, t⟩] with
  | true => right; rw [cv_e he]
  | false =>
    by_cases h1 : lastD [⟨none, 0, s⟩, ⟨none, 0, t⟩] 2 < firstD [⟨none, 0, s⟩, ⟨none, 0, t⟩] 2
    · right; rw [cv_n he h1]
    · have h0 := ae_all he 0 (by simp)
      have l0 := lastD_le (L := [⟨none, 0, s⟩, ⟨none, 0, t⟩]) (k := 2) (i := 0) (by omega)
      have g0 := firstD_0 (L := [⟨none, 0, s⟩, ⟨none, 0, t⟩]) 2
      simp only [List.getD_cons_zero] at h0 l0
      have h2 := hs.2.2 (s.length - 1) (by omega)
      left; rw [cv_o he h1 (by show ¬ 400 < lastD _ 2 - firstD _ 2 + 1; omega)]
theorem both_cov {s t : List VP} (h : (bothV s t).2.2 = 0) {day : Int} (h0 : 0 ≤ day ∧ day ≤ 100000) (hs : Covers s day) (ht : Covers t day) : (bothV s t).1 ≤ day ∧ day ≤ (bothV s t).2.1 := by
  have hB := both h
  have hv : (validTot s && validTot t) = true := by rw [hB.vx, hB.vy]; rfl
  rw [both_ok hv] at h ⊢
  cases he : anyE [⟨none, 0, s⟩, ⟨none, 0, t⟩] with
  | true => rw [cv_e he] at h; cases h
  | false =>
    by_cases h1 : lastD [⟨none, 0, s⟩, ⟨none, 0, t⟩] 2 < firstD [⟨none, 0, s⟩, ⟨none, 0, t⟩] 2
    · rw [cv_n he h1] at h; cases h
    · by_cases h2 : 400 < lastD [⟨none, 0, s⟩, ⟨none, 0, t⟩] 2 - firstD [⟨none, 0, s⟩, ⟨none, 0, t⟩] 2 + 1
      · rw [cv_l he h1 h2] at h; cases h
      · have e := cv_o he h1 h2
        rw [e]
        show firstD _ 2 ≤ day ∧ day ≤ lastD _ 2
        rw [firstD_two, lastD_two]
        have h3 := hs.2.1; have h4 := hs.2.2; have h5 := ht.2.1; have h6 := ht.2.2
        omega
theorem both_hi {s t : List VP} (hs : Small s) (h : (bothV s t).2.2 = 0) : (bothV s t).2.1 ≤ 60 := by
  have hB := both h
  have hc := hB.cx (bothV s t).2.1 hB.le (Int.le_refl _)
  have h1 := hs.2.2 (s.length - 1) (by have := hc.1; omega)
  have := hc.2.2; omega
theorem rd1 {w : World} {A : Option Addr} {c : Nat} {x : List VP} (h1 : Rd w A (x.flatMap encP)) : ∀ k, k < [(⟨A, c, x⟩ : VS)].length → Rd w ([(⟨A, c, x⟩ : VS)].getD k zS).A (([(⟨A, c, x⟩ : VS)].getD k zS).xs.flatMap encP)
  | 0, _ => h1
theorem len1 {A : Option Addr} {c : Nat} {x : List VP} (h1 : x.length ≤ maxLen) : ∀ k, k < [(⟨A, c, x⟩ : VS)].length → ([(⟨A, c, x⟩ : VS)].getD k zS).xs.length ≤ maxLen
  | 0, _ => h1
theorem comV_pair (x y : List VP) : comV (⟨none, 0, x⟩ :: [y].map mkS) = comV [⟨none, 0, x⟩, ⟨none, 0, y⟩] := rfl
theorem av_small {x y : List VP} (hx : Small x) (hy : Small y) : allV x [⟨none, 0, y⟩] = true := by
  refine av_yes (k := 1) rfl (fun i hi => ?_) (tot_valid hy.1)
  obtain rfl : i = 0 := by omega
  exact tot_valid hx.1
theorem leak_small {x y : List VP} (hx : Small x) (hy : Small y) {wn : Int} (hw : 0 ≤ wn ∧ wn ≤ 1000000000000) : (leakV x [y] wn).2 = 0 ∧ ((bothV x y).2.2 = 6 → (leakV x [y] wn).1 = []) := by
  have e0 : leakV x [y] wn = leakV x ([(⟨none, 0, y⟩ : VS)].map (·.xs)) wn := rfl
  have hv : (validTot x && validTot y) = true := by rw [tot_valid hx.1, tot_valid hy.1]; rfl
  have hb := both_small hx hy
  have ha := av_small hx hy
  have h1 : (1 ≤ [(⟨none, 0, y⟩ : VS)].length ∧ [(⟨none, 0, y⟩ : VS)].length ≤ 6) ∧ 0 ≤ wn ∧ wn ≤ 1000000000000 := ⟨by simp, hw⟩
  have eb := both_ok hv
  rw [e0]
  rcases hb with hb | hb
  · have h3 : (comV [⟨none, 0, x⟩, ⟨none, 0, y⟩]).2.2 = 0 := by rw [← eb]; exact hb
    have hc := (both hb).le
    rw [eb] at hc
    rw [lk_0 (A := none) (c := 0) (k := ((comV [⟨none, 0, x⟩, ⟨none, 0, y⟩]).2.1 - (comV [⟨none, 0, x⟩, ⟨none, 0, y⟩]).1).toNat) ha h1 h3 (by omega)]
    exact ⟨rfl, fun h => by rw [hb] at h; cases h⟩
  · have h3 : (comV [⟨none, 0, x⟩, ⟨none, 0, y⟩]).2.2 = 6 := by rw [← eb]; exact hb
    rw [lk_6 (A := none) (c := 0) ha h1 h3]; exact ⟨rfl, fun _ => rfl⟩
theorem leak_self {x : List VP} (hx : Small x) : leakV x [x] 0 = ([], 0) := by
  have h1 := leak_small hx hx (wn := 0) ⟨by decide, by decide⟩
  have key : (leakV x [x] 0).1 = [] := by
    have e0 : leakV x [x] 0 = leakV x ([(⟨none, 0, x⟩ : VS)].map (·.xs)) 0 := rfl
    have hz : ∀ f k, leakL x [⟨none, 0, x⟩] 0 f k = [] := by
      intro f k
      induction k with
      | zero => rfl
      | succ k ih => rw [ll_n (by show ¬ (0 + moreV x _) + 0 < _; omega)]; exact ih
    rw [e0, leak_eq (A := none) (c := 0)]
    split
    · rfl
    · split
      · rfl
      · split
        · rfl
        · split
          · rfl
          · exact hz _ _
  exact Prod.ext key h1.1
/-! what has been seen up to a day -/
def lwV (s t : List VP) (d : Nat) : Int := if (d : Int) ≤ (bothV s t).1 then 0 else loD s t (bothV s t).1 (min ((d : Int) - 1) (bothV s t).2.1 - (bothV s t).1).toNat
def hwV (s t : List VP) (d : Nat) : Int := if (d : Int) ≤ (bothV s t).1 then 0 else hiD s t (bothV s t).1 (min ((d : Int) - 1) (bothV s t).2.1 - (bothV s t).1).toNat
theorem lw_no {s t : List VP} {d : Nat} (h : (bothV s t).2.2 = 0) (hn : (d : Int) < (bothV s t).1 ∨ (bothV s t).2.1 < (d : Int)) : lwV s t (d + 1) = lwV s t d ∧ hwV s t (d + 1) = hwV s t d := by
  have hB := (both h).le
  unfold lwV hwV
  rcases hn with hn | hn
  · rw [if_pos (by omega), if_pos (by omega), if_pos (by omega), if_pos (by omega)]; exact ⟨rfl, rfl⟩
  · rw [if_neg (by omega), if_neg (by omega), if_neg (by omega), if_neg (by omega), show min (((d + 1 : Nat) : Int) - 1) (bothV s t).2.1 = (bothV s t).2.1 by omega]
    by_cases h2 : (d : Int) - 1 < (bothV s t).2.1
    · omega
    · rw [show min ((d : Int) - 1) (bothV s t).2.1 = (bothV s t).2.1 by omega]; exact ⟨rfl, rfl⟩
theorem lw_first {s t : List VP} {d : Nat} (h : (bothV s t).2.2 = 0) (hd : (d : Int) = (bothV s t).1) : lwV s t (d + 1) = drD s t d ∧ hwV s t (d + 1) = drD s t d := by
  have hB := (both h).le
  unfold lwV hwV
  rw [if_neg (by omega), if_neg (by omega), show (min (((d + 1 : Nat) : Int) - 1) (bothV s t).2.1 - (bothV s t).1).toNat = 0 by omega, ← hd]; exact ⟨rfl, rfl⟩
theorem lw_step {s t : List VP} {d : Nat} (h : (bothV s t).2.2 = 0) (hd : (bothV s t).1 < (d : Int)) (hd2 : (d : Int) ≤ (bothV s t).2.1) : lwV s t (d + 1) = min (lwV s t d) (drD s t d) ∧ hwV s t (d + 1) = max (hwV s t d) (drD s t d) := by
  obtain ⟨k, hk⟩ : ∃ k : Nat, (d : Int) = (bothV s t).1 + ((k : Int) + 1) := ⟨((d : Int) - (bothV s t).1 - 1).toNat, by omega⟩
  unfold lwV hwV
  rw [if_neg (by omega), if_neg (by omega), if_neg (by omega), if_neg (by omega), show (min (((d + 1 : Nat) : Int) - 1) (bothV s t).2.1 - (bothV s t).1).toNat = k + 1 by omega, show (min ((d : Int) - 1) (bothV s t).2.1 - (bothV s t).1).toNat = k by omega, loD, hiD, hk]
  exact ⟨rfl, rfl⟩
theorem lo_hi (s t : List VP) (f : Int) : ∀ k, loD s t f k ≤ hiD s t f k
  | 0 => Int.le_refl _
  | k + 1 => by have := lo_hi s t f k; rw [loD, hiD]; omega
/-- What the end of the days tells. -/
theorem lw_end {s t : List VP} (hs : Small s) (h : (bothV s t).2.2 = 0) : lwV s t 61 ≤ hwV s t 61 ∧ (bestV s t).1 = (lwV s t 61 + hwV s t 61) / 2 ∧ (bestV s t).2.1 = max (hwV s t 61 - (lwV s t 61 + hwV s t 61) / 2) ((lwV s t 61 + hwV s t 61) / 2 - lwV s t 61) ∧ -1000000000000 ≤ lwV s t 61 ∧ hwV s t 61 ≤ 1000000000000 ∧ (bothV s t).1 < 61 := by
  have hB := both h
  have hle := hB.le
  have hhi := both_hi hs h
  obtain ⟨k, hk⟩ : ∃ k : Nat, (k : Int) = (bothV s t).2.1 - (bothV s t).1 := ⟨((bothV s t).2.1 - (bothV s t).1).toNat, by omega⟩
  have e1 : lwV s t 61 = loD s t (bothV s t).1 k := by unfold lwV; rw [if_neg (by omega), show (min (((61 : Nat) : Int) - 1) (bothV s t).2.1 - (bothV s t).1).toNat = k by omega]
  have e2 : hwV s t 61 = hiD s t (bothV s t).1 k := by unfold hwV; rw [if_neg (by omega), show (min (((61 : Nat) : Int) - 1) (bothV s t).2.1 - (bothV s t).1).toNat = k by omega]
  have hb := best_ok h hk
  rw [e1, e2, hb]
  exact ⟨lo_hi _ _ _ _, rfl, rfl, (loD_bd hB k (by omega)).1, (hiD_bd hB k (by omega)).2, by omega⟩
theorem worst_of {s t : List VP} (h : (bothV s t).2.2 = 0) {day : Int} (h1 : (bothV s t).1 ≤ day) (h2 : day ≤ (bothV s t).2.1) : absI (drD s t day) ≤ absI (worstV s t).2.1 ∧ (day = (worstV s t).1 → drD s t day = (worstV s t).2.1) ∧ (day < (worstV s t).1 → absI (drD s t day) < absI (worstV s t).2.1) := by
  obtain ⟨k, hk⟩ : ∃ k : Nat, (k : Int) = (bothV s t).2.1 - (bothV s t).1 + 1 := ⟨((bothV s t).2.1 - (bothV s t).1 + 1).toNat, by omega⟩
  obtain ⟨i, rfl⟩ : ∃ i : Nat, day = (bothV s t).1 + (i : Int) := ⟨(day - (bothV s t).1).toNat, by omega⟩
  rw [wo_ok h hk]
  have hm := wk_max s t (bothV s t).1 k i (by omega)
  exact ⟨hm.1, fun e => by dsimp only at e ⊢; rw [e], fun e => hm.2 (by dsimp only at e; omega)⟩
theorem dr_el {s t : List VP} (h : (bothV s t).2.2 = 0) : (drV s t).2.1 = (bothV s t).1 ∧ (((drV s t).1.length : Nat) : Int) = (bothV s t).2.1 - (bothV s t).1 + 1 ∧ ∀ i, i < (drV s t).1.length → (drV s t).1.getD i 0 = drD s t ((drV s t).2.1 + (i : Int)) ∧ -1000000000000 ≤ (drV s t).1.getD i 0 ∧ (drV s t).1.getD i 0 ≤ 1000000000000 := by
  have hB := both h
  have hle := hB.le
  obtain ⟨k, hk⟩ : ∃ k : Nat, (k : Int) = (bothV s t).2.1 - (bothV s t).1 + 1 := ⟨((bothV s t).2.1 - (bothV s t).1 + 1).toNat, by omega⟩
  obtain ⟨e1, e2, e3⟩ := dr_row h hk
  refine ⟨e3, by rw [e2, hk], fun i hi => ?_⟩
  rw [e2] at hi
  rw [e3, e1, drL_at hi]
  exact ⟨rfl, drD_bd hB (by omega) (by omega)⟩
theorem worst_row {s t : List VP} {k : Nat} (h : (bothV s t).2.2 = 0) (hk : k = (drV s t).1.length) : worstV s t = ((drV s t).2.1 + (wkP s t (drV s t).2.1 k : Int), (drV s t).1.getD (wkP s t (drV s t).2.1 k) 0, 0) := by
  have hB := (both h).le
  obtain ⟨h1, h2, h3⟩ := dr_el h
  subst hk
  have hw := wk_le s t (drV s t).2.1 (drV s t).1.length
  rw [(h3 _ (by omega)).1, h1]
  exact wo_ok h h2
theorem ow_dec {l : List VP} {day : Int} : (onW l day).2 = decide (0 < l.length ∧ (l.getD 0 zP).a ≤ day ∧ day ≤ (l.getD (l.length - 1) zP).a) := by
  unfold onW; split
  · rename_i h; exact (decide_eq_true h).symm
  · rename_i h; exact (decide_eq_false h).symm
theorem cov_of {l : List VP} {day : Int} (h : (onW l day).2 = true) : Covers l day := by rw [ow_dec, decide_eq_true_iff] at h; exact h
theorem dri_code {s t : List VP} {day : Int} : (conV s day).2 = 0 → (conV t day).2 = 0 → driV s t day = ((conV s day).1 - (conV t day).1, 0) := fun h h1 => dri_0 (by omega) (by omega)
theorem dri_bd {s t : List VP} (hs : Tot s) (ht : Tot t) (day : Int) : -1000000000000 ≤ (driV s t day).1 ∧ (driV s t day).1 ≤ 1000000000000 := by
  have h1 := con_bd hs day
  have h2 := con_bd ht day
  unfold driV
  split
  · dsimp only; omega
  · split
    · dsimp only; omega
    · dsimp only; omega
/-- What a day tells, whether there is a drift or not. -/
theorem day_no {s t : List VP} (h : (bothV s t).2.2 = 0) {day : Int} (h0 : 0 ≤ day ∧ day ≤ 100000) (hn : (driV s t day).2 ≠ 0) : day < (bothV s t).1 ∨ (bothV s t).2.1 < day := by
  have hB := both h
  apply Classical.byContradiction
  intro hc
  rw [dri_yes h0 (hB.cx day (by omega) (by omega)) (hB.cy day (by omega) (by omega))] at hn
  exact hn rfl
theorem day_yes {s t : List VP} (h : (bothV s t).2.2 = 0) {day : Int} (hd : (driV s t day).2 = 0) : (bothV s t).1 ≤ day ∧ day ≤ (bothV s t).2.1 ∧ (driV s t day).1 = drD s t day
    ∧ max (driV s t day).1 (-(driV s t day).1) ≤ max (worstV s t).2.1 (-(worstV s t).2.1) ∧ (day = (worstV s t).1 → (driV s t day).1 = (worstV s t).2.1) ∧ (day < (worstV s t).1 → max (driV s t day).1 (-(driV s t day).1) < max (worstV s t).2.1 (-(worstV s t).2.1)) := by
  obtain ⟨h1, h2, h3, h4, h5⟩ := dri_ok hd
  have hc := both_cov h ⟨h3, h4⟩ h1 h2
  have hw := worst_of h hc.1 hc.2
  rw [h5]
  exact ⟨hc.1, hc.2, rfl, hw.1, hw.2.1, hw.2.2⟩
theorem worst_bd {s t : List VP} (h : (bothV s t).2.2 = 0) : -1000000000000 ≤ (worstV s t).2.1 ∧ (worstV s t).2.1 ≤ 1000000000000 := by
  have hB := both h
  have hle := hB.le
  obtain ⟨k, hk⟩ : ∃ k : Nat, (k : Int) = (bothV s t).2.1 - (bothV s t).1 + 1 := ⟨((bothV s t).2.1 - (bothV s t).1 + 1).toNat, by omega⟩
  have hw := wk_le s t (bothV s t).1 k
  rw [wo_ok h hk]
  exact drD_bd hB (by omega) (by omega)
theorem leak_six {x y : List VP} (hx : Small x) (hy : Small y) {wn : Int} (hw : 0 ≤ wn ∧ wn ≤ 1000000000000) : (bothV x y).2.2 = 6 → (leakV x [y] wn).1.length = 0 := fun h => by rw [(leak_small hx hy hw).2 h]; rfl
theorem leak_selfs {x : List VP} (hx : Small x) : (leakV x [x] 0).2 = 0 ∧ (leakV x [x] 0).1.length = 0 := by rw [leak_self hx]; exact ⟨rfl, rfl⟩
end Go.W

/- Stories of a log in plain numbers: what fits, and what is best from a reading on. -/
set_option linter.unusedVariables false
set_option linter.unusedSimpArgs false
namespace Go.W
open Go Go.Sx
def validFlow (f : VP) : Bool := decide (0 ≤ f.a ∧ f.a ≤ f.b ∧ f.b ≤ 1000000)
theorem flow_of {f : VP} (h : validFlow f = true) : 0 ≤ f.a ∧ f.a ≤ f.b ∧ f.b ≤ 1000000 := by unfold validFlow at h; exact of_decide_eq_true h
def lowF (f a b : VP) : Int := f.a * (b.a - a.a)
def highF (f a b : VP) : Int := f.b * (b.a - a.a)
def fitV (z : Int) (f a b : VP) : Bool := decide (lowF f a b + (b.b - a.b - lowF f a b) % z ≤ highF f a b)
theorem mul_bd {x d : Int} (hx : 0 ≤ x ∧ x ≤ 1000000) (hd : -100000 ≤ d ∧ d ≤ 100000) : -100000000000 ≤ x * d ∧ x * d ≤ 100000000000 := by
  have h1 : x * d ≤ x * 100000 := Int.mul_le_mul_of_nonneg_left hd.2 hx.1
  have h2 : x * -100000 ≤ x * d := Int.mul_le_mul_of_nonneg_left hd.1 hx.1
  omega
theorem mod_sub_mod (a c z : Int) : (a % z - c) % z = (a - c) % z := by
  rw [Int.emod_def a z, show a - z * (a / z) - c = (a - c) + z * (-(a / z)) by rw [Int.mul_neg]; omega, Int.add_mul_emod_self_left]
theorem low_bd {f a b : VP} (hf : validFlow f = true) (ha : 0 ≤ a.a ∧ a.a ≤ 100000) (hb : 0 ≤ b.a ∧ b.a ≤ 100000) : -100000000000 ≤ lowF f a b ∧ lowF f a b ≤ 100000000000 := by
  have h := flow_of hf
  exact mul_bd (by omega) (by omega)
theorem high_bd {f a b : VP} (hf : validFlow f = true) (ha : 0 ≤ a.a ∧ a.a ≤ 100000) (hb : 0 ≤ b.a ∧ b.a ≤ 100000) : -100000000000 ≤ highF f a b ∧ highF f a b ≤ 100000000000 := by
  have h := flow_of hf
  exact mul_bd (by omega) (by omega)
theorem md_bd {z : Int} (h : 1 ≤ z) (a : Int) : 0 ≤ a % z ∧ a % z < z := ⟨Int.emod_nonneg a (by omega), Int.emod_lt_of_pos a (by omega)⟩
theorem fit_t {z : Int} {f a b : VP} (h : lowF f a b + ((b.b - a.b) % z - lowF f a b) % z ≤ highF f a b) : true = fitV z f a b := by
  rw [mod_sub_mod] at h; exact (decide_eq_true h).symm
theorem fit_f {z : Int} {f a b : VP} (h : ¬ lowF f a b + ((b.b - a.b) % z - lowF f a b) % z ≤ highF f a b) : false = fitV z f a b := by
  rw [mod_sub_mod] at h; exact (decide_eq_false h).symm
/-- What is known of a reading of a valid log. -/
def OkRd (z : Int) (r : VP) : Prop := (0 ≤ r.a ∧ r.a ≤ 100000) ∧ 0 ≤ r.b ∧ r.b ≤ z - 1
theorem Log.rd {s : List Int} {l : List VP} (h : Log s l) {i : Nat} (hi : i < l.length) : OkRd (size s) (l.getD i zP) := ⟨h.day i hi, h.val i hi⟩
def fitsF (s : List Int) (l : List VP) (f : VP) (i k : Nat) : Bool := fitV (size s) f (l.getD i zP) (l.getD k zP)
def askS (s : List Int) (l : List VP) (f : VP) : Bool := validLog s l && validFlow f
/-! the best from a reading on -/
structure VR where
  cost : Int
  breaks : Int
  next : Int
def encR (r : VR) : List Value := [.int .i64 r.cost, .int .i64 r.breaks, .int .i64 r.next]
theorem encR_len : ∀ r, (encR r).length = 3 := fun _ => rfl
def zR : VR := ⟨0, 0, 0⟩
def brk (b : Bool) : Int := if b = true then 0 else 1
theorem brk_t : brk true = 0 := rfl
theorem brk_f : brk false = 1 := rfl
theorem brk_bd (b : Bool) : 0 ≤ brk b ∧ brk b ≤ 1 := by cases b <;> decide
def candC (fit : Nat → Nat → Bool) (n d : Nat) (L : List VR) (m : Nat) : Int := (m : Int) + 2 * brk (fit (n - 1 - d) (n - d + m)) + (L.getD (d - 1 - m) zR).cost
def candB (fit : Nat → Nat → Bool) (n d : Nat) (L : List VR) (m : Nat) : Int := brk (fit (n - 1 - d) (n - d + m)) + (L.getD (d - 1 - m) zR).breaks
def inn (fit : Nat → Nat → Bool) (n d : Nat) (L : List VR) : Nat → VR
  | 0 => ⟨d, 0, -1⟩
  | m + 1 => if candC fit n d L m < (inn fit n d L m).cost ∨ candC fit n d L m = (inn fit n d L m).cost ∧ candB fit n d L m < (inn fit n d L m).breaks then ⟨candC fit n d L m, candB fit n d L m, ((n - d + m : Nat) : Int)⟩ else inn fit n d L m
theorem inn_y {fit : Nat → Nat → Bool} {n d : Nat} {L : List VR} {m : Nat} (h : candC fit n d L m < (inn fit n d L m).cost ∨ candC fit n d L m = (inn fit n d L m).cost ∧ candB fit n d L m < (inn fit n d L m).breaks) : inn fit n d L (m + 1) = ⟨candC fit n d L m, candB fit n d L m, ((n - d + m : Nat) : Int)⟩ := by rw [inn, if_pos h]
theorem inn_n {fit : Nat → Nat → Bool} {n d : Nat} {L : List VR} {m : Nat} (h : ¬ (candC fit n d L m < (inn fit n d L m).cost ∨ candC fit n d L m = (inn fit n d L m).cost ∧ candB fit n d L m < (inn fit n d L m).breaks)) : inn fit n d L (m + 1) = inn fit n d L m := by rw [inn, if_neg h]
theorem inn_cost (fit : Nat → Nat → Bool) (n d : Nat) (L : List VR) (m : Nat) : (inn fit n d L (m + 1)).cost = min (inn fit n d L m).cost (candC fit n d L m) := by
  by_cases h : candC fit n d L m < (inn fit n d L m).cost ∨ candC fit n d L m = (inn fit n d L m).cost ∧ candB fit n d L m < (inn fit n d L m).breaks
  · rw [inn_y h]; dsimp only; omega
  · rw [inn_n h]; omega
def rl (fit : Nat → Nat → Bool) (n : Nat) : Nat → List VR
  | 0 => []
  | d + 1 => rl fit n d ++ [inn fit n d (rl fit n d) d]
theorem rl_len (fit : Nat → Nat → Bool) (n : Nat) : ∀ d, (rl fit n d).length = d
  | 0 => rfl
  | d + 1 => by rw [rl, List.length_append, rl_len fit n d]; rfl
theorem snocR_at {L : List VR} {r : VR} {i : Nat} (h : i < L.length) : (L ++ [r]).getD i zR = L.getD i zR := by
  simp only [List.getD]; rw [List.getElem?_append_left h]
theorem snocR_last {L : List VR} {r : VR} : (L ++ [r]).getD L.length zR = r := by simp [List.getD]
/-- Bounds of what stands in such a list. -/
def LBd (n : Nat) (L : List VR) : Prop := ∀ j, j < L.length → (0 ≤ (L.getD j zR).cost ∧ (L.getD j zR).cost ≤ (j : Int)) ∧ (0 ≤ (L.getD j zR).breaks ∧ (L.getD j zR).breaks ≤ (j : Int)) ∧ ((L.getD j zR).next = -1 ∨ (n : Int) - 1 - j < (L.getD j zR).next ∧ (L.getD j zR).next < n)
theorem cand_bd {fit : Nat → Nat → Bool} {n d : Nat} {L : List VR} (h : LBd n L) (hl : L.length = d) {m : Nat} (hm : m < d) : 0 ≤ candC fit n d L m ∧ candC fit n d L m ≤ (d : Int) + 1 ∧ 0 ≤ candB fit n d L m ∧ candB fit n d L m ≤ (d : Int) := by
  have h1 := h (d - 1 - m) (by omega)
  have h2 := brk_bd (fit (n - 1 - d) (n - d + m))
  unfold candC candB; omega
theorem inn_bd {fit : Nat → Nat → Bool} {n d : Nat} {L : List VR} (h : LBd n L) (hl : L.length = d) (hd : d < n) : ∀ m, m ≤ d → (0 ≤ (inn fit n d L m).cost ∧ (inn fit n d L m).cost ≤ (d : Int)) ∧ (0 ≤ (inn fit n d L m).breaks ∧ (inn fit n d L m).breaks ≤ (d : Int)) ∧ ((inn fit n d L m).next = -1 ∨ (n : Int) - 1 - d < (inn fit n d L m).next ∧ (inn fit n d L m).next < n)
  | 0, _ => ⟨⟨by show (0 : Int) ≤ (d : Int); omega, by show (d : Int) ≤ (d : Int); omega⟩, ⟨by show (0 : Int) ≤ 0; omega, by show (0 : Int) ≤ (d : Int); omega⟩, .inl rfl⟩
  | m + 1, hm => by
    have ih := inn_bd (fit := fit) h hl hd m (by omega)
    have hc := cand_bd (fit := fit) h hl (m := m) (by omega)
    by_cases hq : candC fit n d L m < (inn fit n d L m).cost ∨ candC fit n d L m = (inn fit n d L m).cost ∧ candB fit n d L m < (inn fit n d L m).breaks
    · rw [inn_y hq]; dsimp only; omega
    · rw [inn_n hq]; exact ih
theorem rl_bd (fit : Nat → Nat → Bool) (n : Nat) : ∀ d, d ≤ n → LBd n (rl fit n d)
  | 0, _ => fun j hj => by simp [rl] at hj
  | d + 1, hd => fun j hj => by
    have ih := rl_bd fit n d (by omega)
    have hl := rl_len fit n d
    rw [rl_len] at hj
    rw [rl]
    rcases Nat.lt_or_ge j d with h1 | h1
    · rw [snocR_at (by omega)]; exact ih j (by omega)
    · obtain rfl : j = d := by omega
      have e : (rl fit n j ++ [inn fit n j (rl fit n j) j]).getD j zR = inn fit n j (rl fit n j) j := by
        conv => lhs; rw [show j = (rl fit n j).length from hl.symm]
        rw [rl_len]; have := snocR_last (L := rl fit n j) (r := inn fit n j (rl fit n j) j); rwa [hl] at this
      rw [e]; exact inn_bd ih hl (by omega) j (Nat.le_refl _)
/-- The list as it stands in memory while it is filled from behind. -/
def outR (fit : Nat → Nat → Bool) (n d : Nat) : List VR := List.replicate (n - d) zR ++ (rl fit n d).reverse
theorem outR_len {fit : Nat → Nat → Bool} {n d : Nat} (h : d ≤ n) : (outR fit n d).length = n := by unfold outR; simp [rl_len]; omega
theorem outR_at {fit : Nat → Nat → Bool} {n d k : Nat} (hd : d ≤ n) (h1 : n - d ≤ k) (h2 : k < n) : (outR fit n d).getD k zR = (rl fit n d).getD (n - 1 - k) zR := by
  unfold outR
  have hl := rl_len fit n d
  simp only [List.getD]
  rw [List.getElem?_append_right (by simp; omega), List.length_replicate, List.getElem?_reverse (by omega), show (rl fit n d).length - 1 - (k - (n - d)) = n - 1 - k by omega]
theorem outR_set {fit : Nat → Nat → Bool} {n d : Nat} (hd : d < n) : (outR fit n d).set (n - 1 - d) (inn fit n d (rl fit n d) d) = outR fit n (d + 1) := by
  unfold outR
  rw [rl, List.reverse_append]
  obtain ⟨j, hj⟩ : ∃ j, n - d = j + 1 := ⟨n - d - 1, by omega⟩
  rw [hj, show n - (d + 1) = j by omega, show n - 1 - d = j by omega, List.replicate_succ', List.append_assoc, List.set_append_right _ _ (by simp), List.length_replicate, Nat.sub_self]
  rfl
theorem outR_put {fit : Nat → Nat → Bool} {n d i : Nat} {v : List Value} (hd : d < n) (hi : i = (n - 1 - d) * 3) (hv : v = encR (inn fit n d (rl fit n d) d)) : put ((outR fit n d).flatMap encR) i v = (outR fit n (d + 1)).flatMap encR := by
  subst hi hv
  rw [flat_put encR_len _ _ _ (by rw [outR_len (by omega)]; omega), outR_set hd]
theorem outR_zero {fit : Nat → Nat → Bool} {zs : List Value} {n : Nat} (h : zs = encR zR) : zerosL zs n = (outR fit n 0).flatMap encR := by
  subst h; rw [zeros_flat encR_len zR (by omega) n]; unfold outR; simp [rl]
def rstL (fit : Nat → Nat → Bool) (n : Nat) : List VR := outR fit n n
theorem rstL_len (fit : Nat → Nat → Bool) (n : Nat) : (rstL fit n).length = n := outR_len (Nat.le_refl _)
theorem rst_bd {fit : Nat → Nat → Bool} {n i : Nat} (h : i < n) : (0 ≤ ((rstL fit n).getD i zR).cost ∧ ((rstL fit n).getD i zR).cost ≤ (n : Int) - 1 - i) ∧ (0 ≤ ((rstL fit n).getD i zR).breaks ∧ ((rstL fit n).getD i zR).breaks ≤ (n : Int)) ∧ (((rstL fit n).getD i zR).next = -1 ∨ (i : Int) < ((rstL fit n).getD i zR).next ∧ ((rstL fit n).getD i zR).next < n) := by
  unfold rstL
  rw [outR_at (Nat.le_refl _) (by omega) h]
  have := rl_bd fit n n (Nat.le_refl _) (n - 1 - i) (by rw [rl_len]; omega)
  omega
/-! the best of all -/
def bstV (fit : Nat → Nat → Bool) (n : Nat) : Nat → VR
  | 0 => ⟨0, 0, -1⟩
  | m + 1 => if (bstV fit n m).next < 0 ∨ (m : Int) + ((rstL fit n).getD m zR).cost < (bstV fit n m).cost ∨ (m : Int) + ((rstL fit n).getD m zR).cost = (bstV fit n m).cost ∧ ((rstL fit n).getD m zR).breaks < (bstV fit n m).breaks then ⟨(m : Int) + ((rstL fit n).getD m zR).cost, ((rstL fit n).getD m zR).breaks, m⟩ else bstV fit n m
theorem bst_y {fit : Nat → Nat → Bool} {n m : Nat} (h : (bstV fit n m).next < 0 ∨ (m : Int) + ((rstL fit n).getD m zR).cost < (bstV fit n m).cost ∨ (m : Int) + ((rstL fit n).getD m zR).cost = (bstV fit n m).cost ∧ ((rstL fit n).getD m zR).breaks < (bstV fit n m).breaks) : bstV fit n (m + 1) = ⟨(m : Int) + ((rstL fit n).getD m zR).cost, ((rstL fit n).getD m zR).breaks, m⟩ := by rw [bstV, if_pos h]
theorem bst_n {fit : Nat → Nat → Bool} {n m : Nat} (h : ¬ ((bstV fit n m).next < 0 ∨ (m : Int) + ((rstL fit n).getD m zR).cost < (bstV fit n m).cost ∨ (m : Int) + ((rstL fit n).getD m zR).cost = (bstV fit n m).cost ∧ ((rstL fit n).getD m zR).breaks < (bstV fit n m).breaks)) : bstV fit n (m + 1) = bstV fit n m := by rw [bstV, if_neg h]
theorem bst_bd {fit : Nat → Nat → Bool} {n : Nat} : ∀ m, m ≤ n → 0 ≤ (bstV fit n m).cost ∧ (bstV fit n m).cost ≤ n ∧ 0 ≤ (bstV fit n m).breaks ∧ (bstV fit n m).breaks ≤ n ∧ -1 ≤ (bstV fit n m).next ∧ (bstV fit n m).next < m
  | 0, _ => by simp [bstV]
  | m + 1, hm => by
    have ih := bst_bd (fit := fit) (n := n) m (by omega)
    have hr := rst_bd (fit := fit) (n := n) (i := m) (by omega)
    by_cases hq : (bstV fit n m).next < 0 ∨ (m : Int) + ((rstL fit n).getD m zR).cost < (bstV fit n m).cost ∨ (m : Int) + ((rstL fit n).getD m zR).cost = (bstV fit n m).cost ∧ ((rstL fit n).getD m zR).breaks < (bstV fit n m).breaks
    · rw [bst_y hq]; dsimp only; omega
    · rw [bst_n hq]; omega
/-! what comes ahead of a reading -/
def finV (fit : Nat → Nat → Bool) (i : Nat) (L : List Int) : Nat → Int
  | 0 => i
  | k + 1 => min (finV fit i L k) (L.getD k 0 + (((i - k - 1 : Nat) : Int) + 2 * brk (fit k i)))
def fl (fit : Nat → Nat → Bool) : Nat → List Int
  | 0 => []
  | i + 1 => fl fit i ++ [finV fit i (fl fit i) i]
theorem fl_len (fit : Nat → Nat → Bool) : ∀ i, (fl fit i).length = i
  | 0 => rfl
  | i + 1 => by rw [fl, List.length_append, fl_len fit i]; rfl
theorem snocI_at {L : List Int} {r : Int} {i : Nat} (h : i < L.length) : (L ++ [r]).getD i 0 = L.getD i 0 := by
  simp only [List.getD]; rw [List.getElem?_append_left h]
theorem fin_bd {fit : Nat → Nat → Bool} {i : Nat} {L : List Int} (h : ∀ k, k < i → 0 ≤ L.getD k 0 ∧ L.getD k 0 ≤ k) : ∀ k, k ≤ i → 0 ≤ finV fit i L k ∧ finV fit i L k ≤ i
  | 0, _ => by simp [finV]
  | k + 1, hk => by
    have ih := fin_bd (fit := fit) h k (by omega)
    have h1 := h k (by omega)
    have h2 := brk_bd (fit k i)
    rw [finV]; omega
theorem fl_at {fit : Nat → Nat → Bool} {k : Nat} : ∀ {i : Nat}, k < i → (fl fit i).getD k 0 = finV fit k (fl fit k) k
  | i + 1, h => by
    have hl := fl_len fit i
    rw [fl]
    rcases Nat.lt_or_ge k i with h1 | h1
    · rw [snocI_at (by omega)]; exact fl_at h1
    · obtain rfl : k = i := by omega
      simp only [List.getD]
      rw [List.getElem?_append_right (by omega)]; simp [hl]
theorem fl_bd (fit : Nat → Nat → Bool) : ∀ i k, k < i → 0 ≤ (fl fit i).getD k 0 ∧ (fl fit i).getD k 0 ≤ k
  | i + 1, k, h => by
    have ih := fl_bd fit i
    have hl := fl_len fit i
    rcases Nat.lt_or_ge k i with h1 | h1
    · rw [fl, snocI_at (by omega)]; exact ih k h1
    · obtain rfl : k = i := by omega
      rw [fl_at (Nat.lt_succ_self k)]
      exact fin_bd ih k (Nat.le_refl _)
def sureL (fit : Nat → Nat → Bool) (n : Nat) : Nat → List Int
  | 0 => []
  | i + 1 => if (bstV fit n n).cost < finV fit i (fl fit i) i + ((rstL fit n).getD i zR).cost then sureL fit n i ++ [(i : Int)] else sureL fit n i
theorem sure_y {fit : Nat → Nat → Bool} {n i : Nat} (h : (bstV fit n n).cost < finV fit i (fl fit i) i + ((rstL fit n).getD i zR).cost) : sureL fit n (i + 1) = sureL fit n i ++ [(i : Int)] := by rw [sureL, if_pos h]
theorem sure_n {fit : Nat → Nat → Bool} {n i : Nat} (h : ¬ (bstV fit n n).cost < finV fit i (fl fit i) i + ((rstL fit n).getD i zR).cost) : sureL fit n (i + 1) = sureL fit n i := by rw [sureL, if_neg h]
theorem sureL_len (fit : Nat → Nat → Bool) (n : Nat) : ∀ i, (sureL fit n i).length ≤ i
  | 0 => by simp [sureL]
  | i + 1 => by
    have := sureL_len fit n i
    rw [sureL]; split
    · rw [List.length_append]; simp; omega
    · omega
def sureV (s : List Int) (l : List VP) (f : VP) : List Int × Int := if askS s l f = false then ([], 1) else (sureL (fitsF s l f) l.length l.length, 0)
theorem su_1 {s : List Int} {l : List VP} {f : VP} (h : askS s l f = false) : sureV s l f = ([], 1) := by unfold sureV; rw [if_pos h]
theorem su_0 {s : List Int} {l : List VP} {f : VP} {k : Nat} (h : askS s l f = true) (hk : k = l.length) : sureV s l f = (sureL (fitsF s l f) l.length k, 0) := by subst hk; unfold sureV; rw [if_neg (by rw [h]; decide)]
theorem su_len {s : List Int} {l : List VP} {f : VP} : (sureV s l f).1.length ≤ 40 := by
  cases h : askS s l f with
  | false => rw [su_1 h]; simp
  | true =>
    rw [su_0 h rfl]
    have h1 := sureL_len (fitsF s l f) l.length l.length
    unfold askS at h
    rw [Bool.and_eq_true] at h
    have := (log h.1).len
    dsimp only; omega
theorem ask_of {s : List Int} {l : List VP} {f : VP} (h : askS s l f = true) : Log s l ∧ validFlow f = true := by
  unfold askS at h; rw [Bool.and_eq_true] at h; exact ⟨log h.1, h.2⟩
def askC (s : List Int) (l : List VP) (f : VP) : Int := if askS s l f = true then 0 else 1
theorem askC_0 {s : List Int} {l : List VP} {f : VP} (h : askC s l f = 0) : askS s l f = true := by
  unfold askC at h; split at h
  · assumption
  · cases h
theorem askC_1 {s : List Int} {l : List VP} {f : VP} (h : askC s l f ≠ 0) : askS s l f = false ∧ askC s l f = 1 := by
  unfold askC at h ⊢; split at h
  · exact absurd rfl h
  · rename_i hn; exact ⟨by simpa using hn, if_neg hn⟩
theorem encR_eq {a b c a' b' c' : Int} (h1 : a = a') (h2 : b = b') (h3 : c = c') : [Value.int .i64 a, .int .i64 b, .int .i64 c] = encR ⟨a', b', c'⟩ := by rw [h1, h2, h3]; rfl
end Go.W

/- The best story, in plain numbers. -/
set_option linter.unusedVariables false
set_option linter.unusedSimpArgs false
namespace Go.W
open Go Go.Sx
def nxt (fit : Nat → Nat → Bool) (n : Nat) (a : Int) : Int := if a < 0 then -1 else ((rstL fit n).getD a.toNat zR).next
def ats (fit : Nat → Nat → Bool) (n : Nat) : Nat → Int
  | 0 => (bstV fit n n).next
  | j + 1 => nxt fit n (ats fit n j)
theorem nxt_bd {fit : Nat → Nat → Bool} {n : Nat} {a : Int} (h0 : 0 ≤ a) (h : a < n) : nxt fit n a = -1 ∨ a < nxt fit n a ∧ nxt fit n a < n := by
  unfold nxt; rw [if_neg (by omega)]
  have := rst_bd (fit := fit) (n := n) (i := a.toNat) (by omega)
  omega
theorem nxt_nat (fit : Nat → Nat → Bool) (n a : Nat) : nxt fit n (a : Int) = ((rstL fit n).getD a zR).next := by
  unfold nxt; rw [if_neg (by omega), Int.toNat_natCast]
theorem nxt_neg {fit : Nat → Nat → Bool} {n : Nat} {a : Int} (h : a < 0) : nxt fit n a = -1 := by unfold nxt; rw [if_pos h]
theorem ats_bd (fit : Nat → Nat → Bool) (n : Nat) : ∀ j, -1 ≤ ats fit n j ∧ ats fit n j < n ∧ (0 ≤ ats fit n j → (j : Int) ≤ ats fit n j)
  | 0 => by have := bst_bd (fit := fit) (n := n) n (Nat.le_refl _); rw [ats]; omega
  | j + 1 => by
    have ih := ats_bd fit n j
    rw [ats]
    by_cases h : ats fit n j < 0
    · rw [nxt_neg h]; omega
    · have := nxt_bd (fit := fit) (n := n) (a := ats fit n j) (by omega) ih.2.1
      omega
def muA (n : Nat) (a : Int) : Nat := if a < 0 then 0 else ((n : Int) - a).toNat
theorem mu_lt {n : Nat} {a x : Int} (h0 : 0 ≤ a) (h : a < n) (hx : x = -1 ∨ a < x ∧ x < n) : muA n x < muA n a := by
  unfold muA
  rw [if_neg (by omega : ¬ a < 0)]
  split <;> omega
def kL (fit : Nat → Nat → Bool) (n : Nat) : Nat → List Int
  | 0 => []
  | j + 1 => if ats fit n j < 0 then kL fit n j else kL fit n j ++ [ats fit n j]
def bL (fit : Nat → Nat → Bool) (n : Nat) : Nat → List Int
  | 0 => []
  | j + 1 => if ats fit n j < 0 then bL fit n j else if 0 ≤ ats fit n (j + 1) ∧ fit (ats fit n j).toNat (ats fit n (j + 1)).toNat = false then bL fit n j ++ [ats fit n (j + 1)] else bL fit n j
theorem kL_y {fit : Nat → Nat → Bool} {n j : Nat} (h : ¬ ats fit n j < 0) : kL fit n (j + 1) = kL fit n j ++ [ats fit n j] := by rw [kL, if_neg h]
theorem bL_y {fit : Nat → Nat → Bool} {n j : Nat} (h : ¬ ats fit n j < 0) (h1 : 0 ≤ ats fit n (j + 1)) (h2 : fit (ats fit n j).toNat (ats fit n (j + 1)).toNat = false) : bL fit n (j + 1) = bL fit n j ++ [ats fit n (j + 1)] := by rw [bL, if_neg h, if_pos ⟨h1, h2⟩]
theorem bL_n {fit : Nat → Nat → Bool} {n j : Nat} (h : ¬ ats fit n j < 0) (h1 : ¬ (0 ≤ ats fit n (j + 1) ∧ fit (ats fit n j).toNat (ats fit n (j + 1)).toNat = false)) : bL fit n (j + 1) = bL fit n j := by rw [bL, if_neg h, if_neg h1]
theorem kL_len (fit : Nat → Nat → Bool) (n : Nat) : ∀ j, (kL fit n j).length ≤ j
  | 0 => by simp [kL]
  | j + 1 => by
    have := kL_len fit n j
    rw [kL]; split
    · omega
    · rw [List.length_append]; simp; omega
theorem bL_len (fit : Nat → Nat → Bool) (n : Nat) : ∀ j, (bL fit n j).length ≤ j
  | 0 => by simp [bL]
  | j + 1 => by
    have := bL_len fit n j
    rw [bL]; split
    · omega
    · split
      · rw [List.length_append]; simp; omega
      · omega
theorem ats_stop {fit : Nat → Nat → Bool} {n j : Nat} (h : ats fit n j < 0) : ∀ i, ats fit n (j + i) < 0
  | 0 => h
  | i + 1 => by rw [← Nat.add_assoc, ats, nxt_neg (ats_stop h i)]; omega
theorem kb_stop {fit : Nat → Nat → Bool} {n j : Nat} (h : ats fit n j < 0) : ∀ i, kL fit n (j + i) = kL fit n j ∧ bL fit n (j + i) = bL fit n j
  | 0 => ⟨rfl, rfl⟩
  | i + 1 => by
    have ih := kb_stop h i
    have hs := ats_stop h i
    rw [← Nat.add_assoc, kL, bL, if_pos hs, if_pos hs]; exact ih
/-- Kept readings, breaks. -/
def stK (fit : Nat → Nat → Bool) (n : Nat) : List Int := kL fit n (n + 1)
def stB (fit : Nat → Nat → Bool) (n : Nat) : List Int := bL fit n (n + 1)
theorem st_end {fit : Nat → Nat → Bool} {n j : Nat} (h : ats fit n j < 0) (hj : j ≤ n + 1) : kL fit n j = stK fit n ∧ bL fit n j = stB fit n := by
  have := kb_stop h (n + 1 - j)
  rw [show j + (n + 1 - j) = n + 1 by omega] at this
  exact ⟨this.1.symm, this.2.symm⟩
theorem j_le {fit : Nat → Nat → Bool} {n j : Nat} (h : ¬ ats fit n j < 0) : j + 1 ≤ n := by have := ats_bd fit n j; omega
theorem stK_len (fit : Nat → Nat → Bool) (n : Nat) : (stK fit n).length ≤ n + 1 := kL_len fit n (n + 1)
theorem stB_len (fit : Nat → Nat → Bool) (n : Nat) : (stB fit n).length ≤ n + 1 := bL_len fit n (n + 1)
/-- How far the path has been gone, and where the two lists stand. -/
structure PSt where
  j : Nat
  A1 : Option Addr
  c1 : Nat
  A2 : Option Addr
  c2 : Nat
/-- A story as it stands in memory. -/
structure VSt where
  kept : List Int
  breaks : List Int
  cost : Int
def encY (A1 : Option Addr) (c1 : Nat) (A2 : Option Addr) (c2 : Nat) (y : VSt) : List Value := [.slice A1 y.kept.length c1, .slice A2 y.breaks.length c2, .int .i64 y.cost]
def stV (fit : Nat → Nat → Bool) (n : Nat) : VSt := ⟨stK fit n, stB fit n, (bstV fit n n).cost⟩
end Go.W

/- Lists of lists, the table of what fits, plans, in plain numbers. -/
set_option linter.unusedVariables false
set_option linter.unusedSimpArgs false
namespace Go.W
open Go Go.Sx
/-! ### A list of lists of anything -/
structure VX (α : Type) where
  A : Option Addr
  c : Nat
  xs : List α
variable {α : Type}
def encX (r : VX α) : List Value := [.slice r.A r.xs.length r.c]
theorem encX_len : ∀ r : VX α, (encX r).length = 1 := fun _ => rfl
def zX : VX α := ⟨none, 0, []⟩
def rwX (f : α → List Value) (T : TypeId) (sz : Nat) (r : VX α) : Rw := ⟨.slice r.A r.xs.length r.c, T, sz, r.xs.length, r.xs.flatMap f⟩
theorem readsX {C : Cx} {m : List Ent} {i : Nat} {f : α → List Value} {T : TypeId} {sz : Nat} {K : List (VX α)} (hi : m[i]? = some (.pile (K.map (rwX f T sz)))) {k : Nat} (hk : k < K.length) : Reads C m (K.getD k zX).A ((K.getD k zX).xs.flatMap f) :=
  Reads.pile hi (E := T) (sz := sz) (List.mem_map.2 ⟨_, getD_mem zX hk, rfl⟩)
def outX (K : List (VX α)) (n : Nat) : List (VX α) := K ++ List.replicate (n - K.length) zX
theorem outX_len {K : List (VX α)} {n : Nat} (h : K.length ≤ n) : (outX K n).length = n := by unfold outX; simp; omega
theorem outX_all {K : List (VX α)} {n : Nat} (h : K.length = n) : outX K n = K := by unfold outX; rw [h]; simp
theorem outX_set {K : List (VX α)} {n : Nat} (r : VX α) (h : K.length < n) : (outX K n).set K.length r = outX (K ++ [r]) n := by
  unfold outX
  rw [List.set_append_right _ _ (Nat.le_refl _), Nat.sub_self, List.length_append]
  obtain ⟨j, hj⟩ : ∃ j, n - K.length = j + 1 := ⟨n - K.length - 1, by omega⟩
  rw [hj, List.replicate_succ, List.set_cons_zero, List.append_assoc, show n - (K.length + [r].length) = j by simp; omega]; rfl
theorem outX_put {K : List (VX α)} {n i : Nat} {v : List Value} (r : VX α) (h : K.length < n) (hi : i = K.length * 1) (hv : v = encX r) : put ((outX K n).flatMap encX) i v = (outX (K ++ [r]) n).flatMap encX := by
  subst hi hv
  rw [flat_put encX_len _ _ _ (by rw [outX_len (by omega)]; exact h), outX_set r h]
theorem zoutX {zs : List Value} {n : Nat} (h : zs = encX (zX : VX α)) : zerosL zs n = (outX ([] : List (VX α)) n).flatMap encX := by
  subst h; rw [zeros_flat encX_len zX (by omega) n]; unfold outX; simp
theorem outX_last {K : List (VX α)} {r : VX α} {n : Nat} : (outX (K ++ [r]) n).getD K.length zX = r := by
  unfold outX; simp [List.getD]
theorem cellE {β : Type} {C : Cx} {m : List Ent} {A : Option Addr} {f : β → List Value} {sz : Nat} {xs : List β} {i : Int} (j : Nat) {v : Value} {r : β} (H : Reads C m A (xs.flatMap f)) (hf : ∀ x, (f x).length = sz) (d : β) (k : Nat) (hk : Nat.blt k sz = true) (hi : i = (j : Int)) (hj : j < xs.length) (he : xs.getD j d = r) (hv : (f r)[k]? = some v) : CellO C m (offA A (i.toNat * sz + k)) v := by
  subst he; exact cellJ j H hf d k hk hi hj hv
theorem layX {C : Cx} {m F : List Ent} {f : α → List Value} {T : TypeId} {sz b n : Nat} {l : List α} {K : List (VX α)} (hl : l.length = n) (hp : m.Perm (.row (.slice (some ⟨b, 0, none⟩) n n) T sz n (l.flatMap f) :: .pile (K.map (rwX f T sz)) :: F)) : ∀ w, Holds C.base C.w0 m w → Holds C.base C.w0 (.pile ((K ++ [(⟨some ⟨b, 0, none⟩, n, l⟩ : VX α)]).map (rwX f T sz)) :: F) w := by
  subst hl
  rw [List.map_append]
  exact layEnd hp
/-! ### The table of what fits -/
def canP (fit : Nat → Nat → Bool) (n i j : Nat) : List Bool := (List.range n).map fun k => decide (i < k ∧ k < j) && fit i k
def canR (fit : Nat → Nat → Bool) (n i : Nat) : List Bool := canP fit n i n
theorem canP_len (fit : Nat → Nat → Bool) (n i j : Nat) : (canP fit n i j).length = n := by simp [canP]
theorem canP_at {fit : Nat → Nat → Bool} {n i j k : Nat} (h : k < n) : (canP fit n i j).getD k false = (decide (i < k ∧ k < j) && fit i k) := by simp [canP, List.getD, h]
theorem canR_at {fit : Nat → Nat → Bool} {n i k : Nat} (h : k < n) (hi : i < k) : (canR fit n i).getD k false = fit i k := by
  unfold canR; rw [canP_at h, decide_eq_true ⟨hi, h⟩, Bool.true_and]
theorem canP_set {fit : Nat → Nat → Bool} {n i j : Nat} (hi : i < j) (hj : j < n) : (canP fit n i j).set j (fit i j) = canP fit n i (j + 1) := by
  refine List.ext_getElem (by simp [canP_len]) fun k h1 h2 => ?_
  have hk : k < n := by simpa [canP_len] using h2
  rw [List.getElem_set]
  simp only [canP, List.getElem_map, List.getElem_range]
  by_cases e : j = k
  · subst e; rw [if_pos rfl, decide_eq_true (show i < j ∧ j < j + 1 by omega), Bool.true_and]
  · rw [if_neg e]
    congr 1
    exact decide_eq_decide.2 ⟨fun h => ⟨h.1, by omega⟩, fun h => ⟨h.1, by omega⟩⟩
theorem canP_put {fit : Nat → Nat → Bool} {n i j q : Nat} {v : List Value} (hi : i < j) (hj : j < n) (hq : q = j * 1) (hv : v = eB (fit i j)) : put ((canP fit n i j).flatMap eB) q v = (canP fit n i (j + 1)).flatMap eB := by
  subst hq hv
  rw [flat_put eB_len _ _ _ (by rw [canP_len]; exact hj), canP_set hi hj]
theorem canP_zero {fit : Nat → Nat → Bool} {zs : List Value} {n i : Nat} (h : zs = eB false) : zerosL zs n = (canP fit n i (i + 1)).flatMap eB := by
  subst h; rw [zeros_flat eB_len false (by omega) n]
  congr 1
  refine List.ext_getElem (by simp [canP_len]) fun k h1 h2 => ?_
  simp only [canP, List.getElem_map, List.getElem_range, List.getElem_replicate]
  rw [decide_eq_false (by omega), Bool.false_and]
/-- The table of the first rows. -/
def CanK (fit : Nat → Nat → Bool) (n : Nat) (K : List (VX Bool)) : Prop := ∀ i, i < K.length → (K.getD i zX).xs = canR fit n i
theorem CanK.snoc {fit : Nat → Nat → Bool} {n : Nat} {K : List (VX Bool)} (h : CanK fit n K) (A : Option Addr) (c : Nat) : CanK fit n (K ++ [⟨A, c, canR fit n K.length⟩]) := fun i hi => by
  rcases Nat.lt_or_ge i K.length with h1 | h1
  · have := h i h1
    simp only [List.getD] at this ⊢
    rw [List.getElem?_append_left h1]; exact this
  · have e : i = K.length := by simp at hi; omega
    subst e; simp [List.getD]
/-! ### Plans -/
structure VT where
  cost : Int
  breaks : Int
  kept : List Int
def zT0 : VT := ⟨0, 0, []⟩
structure VPl where
  cost : Int
  breaks : Int
  A : Option Addr
  c : Nat
  xs : List Int
def encPl (p : VPl) : List Value := [.int .i64 p.cost, .int .i64 p.breaks, .slice p.A p.xs.length p.c]
theorem encPl_len : ∀ p, (encPl p).length = 3 := fun _ => rfl
def zPl : VPl := ⟨0, 0, none, 0, []⟩
def VPl.t (p : VPl) : VT := ⟨p.cost, p.breaks, p.xs⟩
def rowPl (T : TypeId) (p : VPl) : Rw := ⟨.slice p.A p.xs.length p.c, T, 1, p.xs.length, p.xs.flatMap (eI .i64)⟩
/-- A plan whose list lies on the pile, or is empty. -/
def OkPl (T : TypeId) (P : List Rw) (p : VPl) : Prop := (rowPl T p ∈ P ∧ p.A.isSome = true) ∨ (p.A = none ∧ p.xs = [] ∧ p.c = 0)
theorem OkPl.zero (T : TypeId) (P : List Rw) : OkPl T P zPl := .inr ⟨rfl, rfl, rfl⟩
theorem readsPl {C : Cx} {m : List Ent} {i : Nat} {T : TypeId} {P : List Rw} {p : VPl} (hi : m[i]? = some (.pile P)) (h : OkPl T P p) : Reads C m p.A (p.xs.flatMap (eI .i64)) := by
  rcases h with h | h
  · exact Reads.pile hi (E := T) (sz := 1) h.1
  · have h2 : ∀ w, Holds C.base C.w0 m w → Rd w p.A (p.xs.flatMap (eI .i64)) := fun w _ j u hj => by rw [h.2.1] at hj; simp at hj
    unfold Reads; exact h2
theorem OkPl.none {T : TypeId} {P : List Rw} {p : VPl} (h : OkPl T P p) : p.A = none → p.xs.length = 0 ∧ p.c = 0 := fun e => by
  rcases h with ⟨_, h⟩ | ⟨_, h2, h3⟩
  · rw [e] at h; cases h
  · exact ⟨by rw [h2]; rfl, h3⟩
theorem OkPl.more {T : TypeId} {P : List Rw} {p : VPl} (h : OkPl T P p) (r : Rw) : OkPl T (P ++ [r]) p := h.imp (fun h => ⟨List.mem_append.2 (.inl h.1), h.2⟩) id
theorem row_isSome {C : Cx} {m : List Ent} {i : Nat} {A : Option Addr} {n c : Nat} {E : TypeId} {sz : Nat} {xs : List Value} (hi : m[i]? = some (.row (.slice A n c) E sz n xs)) (hn : 0 < n) : ∀ w, Holds C.base C.w0 m w → A.isSome = true := fun w hw => by
  have h := hw.all _ (List.mem_of_getElem? hi)
  rcases h.2 with ⟨h1, h2⟩ | ⟨g, cap, cur, hv, _⟩
  · omega
  · simp only [Value.slice.injEq] at hv; rw [hv.1]; rfl
def c3 (a b : Int) : Int := if a < b then -1 else if b < a then 1 else 0
def cmpL : List Int → List Int → Int
  | [], [] => 0
  | [], _ :: _ => -1
  | _ :: _, [] => 1
  | a :: s, b :: t => if c3 a b ≠ 0 then c3 a b else cmpL s t
def lessT (p q : VT) : Bool := decide ((if c3 p.cost q.cost ≠ 0 then c3 p.cost q.cost else if c3 p.breaks q.breaks ≠ 0 then c3 p.breaks q.breaks else cmpL p.kept q.kept) < 0)
theorem cmpL_at {s t : List Int} {k : Nat} (h : k < s.length) (h1 : k < t.length) : cmpL (s.drop k) (t.drop k) = if c3 (s.getD k 0) (t.getD k 0) ≠ 0 then c3 (s.getD k 0) (t.getD k 0) else cmpL (s.drop (k + 1)) (t.drop (k + 1)) := by
  rw [drop_cons h, drop_cons h1, cmpL]
theorem cmpL_l {s t : List Int} {k : Nat} (h : k < s.length) (h1 : t.length ≤ k) : cmpL (s.drop k) (t.drop k) = 1 := by
  rw [drop_cons h, List.drop_of_length_le h1]; rfl
theorem cmpL_r {s t : List Int} {k : Nat} (h : s.length ≤ k) (h1 : k < t.length) : cmpL (s.drop k) (t.drop k) = -1 := by
  rw [drop_cons h1, List.drop_of_length_le h]; rfl
theorem cmpL_0 {s t : List Int} {k : Nat} (h : s.length ≤ k) (h1 : t.length ≤ k) : cmpL (s.drop k) (t.drop k) = 0 := by
  rw [List.drop_of_length_le h, List.drop_of_length_le h1]; rfl
def fromT (p : VT) (i : Int) (mis br : Int) : VT := ⟨p.cost + mis * 1 + br * 2, p.breaks + br, i :: p.kept⟩
def candT (fit : Nat → Nat → Bool) (n d : Nat) (L : List VT) (m : Nat) : VT := fromT (L.getD (d - 1 - m) zT0) ((n - 1 - d : Nat) : Int) m (brk (fit (n - 1 - d) (n - d + m)))
def innT (fit : Nat → Nat → Bool) (n : Nat) (w : Int) (d : Nat) (L : List VT) : Nat → VT
  | 0 => fromT zT0 ((n - 1 - d : Nat) : Int) d 0
  | m + 1 => if ((n - d + m : Nat) : Int) = w then innT fit n w d L m else if lessT (candT fit n d L m) (innT fit n w d L m) = true then candT fit n d L m else innT fit n w d L m
def tl (fit : Nat → Nat → Bool) (n : Nat) (w : Int) : Nat → List VT
  | 0 => []
  | d + 1 => tl fit n w d ++ [if ((n - 1 - d : Nat) : Int) = w then zT0 else innT fit n w d (tl fit n w d) d]
theorem tl_len (fit : Nat → Nat → Bool) (n : Nat) (w : Int) : ∀ d, (tl fit n w d).length = d
  | 0 => rfl
  | d + 1 => by rw [tl, List.length_append, tl_len fit n w d]; rfl
theorem tl_at {fit : Nat → Nat → Bool} {n : Nat} {w : Int} {j : Nat} : ∀ {d : Nat}, j < d → (tl fit n w d).getD j zT0 = if ((n - 1 - j : Nat) : Int) = w then zT0 else innT fit n w j (tl fit n w j) j
  | d + 1, h => by
    have hl := tl_len fit n w d
    rw [tl]
    rcases Nat.lt_or_ge j d with h1 | h1
    · have := tl_at (fit := fit) (n := n) (w := w) h1
      simp only [List.getD] at this ⊢
      rw [List.getElem?_append_left (by omega)]; exact this
    · obtain rfl : j = d := by omega
      simp only [List.getD]
      rw [List.getElem?_append_right (by omega)]; simp [hl]
def addT (p : VT) (i : Int) : VT := ⟨p.cost + i * 1, p.breaks, p.kept⟩
/-- What has been found so far, the readings gone through from behind. -/
def btT (fit : Nat → Nat → Bool) (n : Nat) (w : Int) : Nat → Bool × VT
  | 0 => (false, zT0)
  | d + 1 => if ((n - 1 - d : Nat) : Int) = w then btT fit n w d else
    if (btT fit n w d).1 = false ∨ lessT (addT (innT fit n w d (tl fit n w d) d) ((n - 1 - d : Nat) : Int)) (btT fit n w d).2 = true then (true, addT (innT fit n w d (tl fit n w d) d) ((n - 1 - d : Nat) : Int)) else btT fit n w d
structure DX where
  b : Nat
  o : Nat
  K : List (VX Bool)
def orL : List Int → Int
  | [] => 0
  | a :: s => if a ≠ 0 then a else orL s
theorem orL_at {s : List Int} {k : Nat} (h : k < s.length) : orL (s.drop k) = if s.getD k 0 ≠ 0 then s.getD k 0 else orL (s.drop (k + 1)) := by rw [drop_cons h, orL]
theorem orL_0 {s : List Int} {k : Nat} (h : s.length ≤ k) : orL (s.drop k) = 0 := by rw [List.drop_of_length_le h]; rfl
theorem less_or {p q : VT} : decide (orL [c3 p.cost q.cost, c3 p.breaks q.breaks, cmpL p.kept q.kept] < 0) = lessT p q := by
  unfold lessT
  simp only [orL]
  congr 1
  by_cases h : cmpL p.kept q.kept = 0
  · rw [if_neg (show ¬ cmpL p.kept q.kept ≠ 0 by rw [h]; simp), h]
  · rw [if_pos h]
theorem less_pl {p q : VPl} : decide (orL [c3 p.cost q.cost, c3 p.breaks q.breaks, cmpL p.xs q.xs] < 0) = lessT p.t q.t := less_or (p := p.t) (q := q.t)
end Go.W

/- The program's best plan, in plain numbers: what its loops carry on. -/
set_option linter.unusedVariables false
set_option linter.unusedSimpArgs false
namespace Go.W
open Go Go.Sx
theorem fr_indexAddrE {β : Type} {C : Cx} {env : Env} {m : List Ent} {o : Oper} {A : Option Addr} {f : β → List Value} {sz : Nat} {xs : List β} {n : Nat} {S x y E c k i} (he : xs.length = n) (H : Reads C m A (xs.flatMap f)) (hf : ∀ x, (f x).length = sz) (ho : o.op = .indexAddr S x y) (hx : ev env x = some (.slice A n c)) (hy : ev env y = some (.int k i)) (hS : C.P.underlying S = some (.slice E)) (hs : (C.P.info? E).map (·.size) = some sz) (hp : Nat.blt 0 sz = true) (hi : 0 ≤ i ∧ i < n) : Free C o env m (.pointer (offA A (i.toNat * sz))) := by
  subst he; exact fr_indexAddrF H hf ho hx hy hS hs hp hi
theorem rd_nil (w : World) : Rd w zPl.A (zPl.xs.flatMap (eI .i64)) := fun j u hj => by simp [zPl] at hj
theorem pl_put {Q : List VPl} {i q : Nat} {v : List Value} (r : VPl) (h : i < Q.length) (hq : q = i * 3) (hv : v = encPl r) : put (Q.flatMap encPl) q v = (Q.set i r).flatMap encPl := by
  subst hq hv; exact flat_put encPl_len _ _ _ h
theorem pl_zero {zs : List Value} {n : Nat} (h : zs = encPl zPl) : zerosL zs n = (List.replicate n zPl).flatMap encPl := by
  subst h; exact zeros_flat encPl_len zPl (by omega) n
theorem set_at {Q : List VPl} {i k : Nat} {r : VPl} (h : i < Q.length) : (Q.set i r).getD k zPl = if k = i then r else Q.getD k zPl := by
  simp only [List.getD]
  by_cases e : k = i
  · subst e; rw [if_pos rfl, List.getElem?_set_self h]; rfl
  · rw [if_neg e, List.getElem?_set_ne (fun e' => e e'.symm)]
theorem less_cost {p q : VT} (h : lessT p q = true) : p.cost ≤ q.cost := by
  unfold lessT at h
  have := of_decide_eq_true h
  unfold c3 at this
  by_cases h1 : q.cost < p.cost
  · rw [if_neg (by omega : ¬ p.cost < q.cost), if_pos h1] at this; simp at this
  · omega
theorem less_not {p q : VT} (h : lessT p q = false) : q.cost ≤ p.cost := by
  unfold lessT at h
  have := of_decide_eq_false h
  unfold c3 at this
  by_cases h1 : p.cost < q.cost
  · rw [if_pos h1] at this; simp at this
  · omega
/-- Bounds of a list of plans. -/
def TBd (L : List VT) : Prop := ∀ j, j < L.length → (0 ≤ (L.getD j zT0).cost ∧ (L.getD j zT0).cost ≤ (j : Int)) ∧ (0 ≤ (L.getD j zT0).breaks ∧ (L.getD j zT0).breaks ≤ (j : Int)) ∧ (L.getD j zT0).kept.length ≤ j + 1
theorem inT_bd {fit : Nat → Nat → Bool} {n d : Nat} {wo : Int} {L : List VT} (h : TBd L) (hl : L.length = d) : ∀ m, m ≤ d → (0 ≤ (innT fit n wo d L m).cost ∧ (innT fit n wo d L m).cost ≤ (d : Int)) ∧ (0 ≤ (innT fit n wo d L m).breaks ∧ (innT fit n wo d L m).breaks ≤ (d : Int)) ∧ (innT fit n wo d L m).kept.length ≤ d + 1
  | 0, _ => by
    refine ⟨⟨?_, ?_⟩, ⟨?_, ?_⟩, ?_⟩ <;> simp [innT, fromT, zT0]
  | m + 1, hm => by
    have ih := inT_bd (fit := fit) (n := n) (wo := wo) h hl m (by omega)
    have h1 := h (d - 1 - m) (by omega)
    have h2 := brk_bd (fit (n - 1 - d) (n - d + m))
    rw [innT]
    split
    · exact ih
    · split
      · rename_i hq
        have h3 := less_cost hq
        refine ⟨⟨?_, Int.le_trans h3 ih.1.2⟩, ⟨?_, ?_⟩, ?_⟩
        · simp only [candT, fromT]; omega
        · simp only [candT, fromT]; omega
        · simp only [candT, fromT]; omega
        · simp only [candT, fromT, List.length_cons]; omega
      · exact ih
theorem tl_bd (fit : Nat → Nat → Bool) (n : Nat) (wo : Int) : ∀ d, TBd (tl fit n wo d)
  | 0 => fun j hj => by simp [tl] at hj
  | d + 1 => fun j hj => by
    have ih := tl_bd fit n wo d
    have hl := tl_len fit n wo d
    rw [tl_len] at hj
    rcases Nat.lt_or_ge j d with h1 | h1
    · have e : (tl fit n wo (d + 1)).getD j zT0 = (tl fit n wo d).getD j zT0 := by rw [tl_at hj, tl_at h1]
      rw [e]; exact ih j (by omega)
    · obtain rfl : j = d := by omega
      rw [tl_at (Nat.lt_succ_self j)]
      split
      · simp [zT0]
      · exact inT_bd ih hl j (Nat.le_refl _)
theorem bt_bd (fit : Nat → Nat → Bool) (n : Nat) (wo : Int) : ∀ d, d ≤ n → 0 ≤ (btT fit n wo d).2.cost ∧ (btT fit n wo d).2.cost ≤ (n : Int) ∧ (btT fit n wo d).2.kept.length ≤ n + 1
  | 0, _ => by simp [btT, zT0]
  | d + 1, hd => by
    have ih := bt_bd fit n wo d (by omega)
    have hi := inT_bd (fit := fit) (n := n) (wo := wo) (tl_bd fit n wo d) (tl_len fit n wo d) d (Nat.le_refl _)
    rw [btT]
    split
    · exact ih
    · split
      · simp only [addT]; omega
      · exact ih
/-- What the outer loop carries on. -/
structure BI (fit : Nat → Nat → Bool) (n : Nat) (wo : Int) (T : TypeId) (d : Nat) (Q : List VPl) (P : List Rw) (o : VPl) : Prop where
  dn : d ≤ n
  len : Q.length = n
  zero : ∀ k, k < n - d → Q.getD k zPl = zPl
  done : ∀ k, n - d ≤ k → k < n → (Q.getD k zPl).t = (tl fit n wo d).getD (n - 1 - k) zT0 ∧ OkPl T P (Q.getD k zPl)
  out : o.t = (btT fit n wo d).2
  ok : OkPl T P o
/-- What the inner loop carries on. -/
structure II (fit : Nat → Nat → Bool) (n : Nat) (wo : Int) (T : TypeId) (d m : Nat) (Q : List VPl) (P : List Rw) (o : VPl) : Prop where
  dn : d < n
  mn : m ≤ d
  len : Q.length = n
  zero : ∀ k, k < n - 1 - d → Q.getD k zPl = zPl
  cur : (Q.getD (n - 1 - d) zPl).t = innT fit n wo d (tl fit n wo d) m
  cok : OkPl T P (Q.getD (n - 1 - d) zPl)
  done : ∀ k, n - d ≤ k → k < n → (Q.getD k zPl).t = (tl fit n wo d).getD (n - 1 - k) zT0 ∧ OkPl T P (Q.getD k zPl)
  out : o.t = (btT fit n wo d).2
  ok : OkPl T P o
theorem bi_0 (fit : Nat → Nat → Bool) (n : Nat) (wo : Int) (T : TypeId) : BI fit n wo T 0 (List.replicate n zPl) [] zPl := by
  refine ⟨Nat.zero_le _, by simp, fun k hk => ?_, fun k h1 h2 => by omega, rfl, OkPl.zero _ _⟩
  simp only [List.getD, List.getElem?_replicate]; split <;> rfl
variable {fit : Nat → Nat → Bool} {n d m : Nat} {wo : Int} {T : TypeId} {Q : List VPl} {P : List Rw} {o : VPl}
theorem BI.skip (h : BI fit n wo T d Q P o) (hd : d < n) (hw : ((n - 1 - d : Nat) : Int) = wo) : BI fit n wo T (d + 1) Q P o := by
  refine ⟨by omega, h.len, fun k hk => h.zero k (by omega), fun k h1 h2 => ?_, ?_, h.ok⟩
  · by_cases e : k = n - 1 - d
    · have hz := h.zero k (by omega)
      rw [hz, tl_at (by omega), if_pos (by rw [show n - 1 - (n - 1 - k) = n - 1 - d by omega]; exact hw)]
      exact ⟨rfl, OkPl.zero _ _⟩
    · have := h.done k (by omega) h2
      rw [tl_at (by omega)] at this ⊢; exact this
  · rw [btT, if_pos hw]; exact h.out
theorem BI.start (h : BI fit n wo T d Q P o) (hd : d < n) (r : VPl) (hr : r.t = fromT zT0 ((n - 1 - d : Nat) : Int) d 0) (hs : r.A.isSome = true) : II fit n wo T d 0 (Q.set (n - 1 - d) r) (P ++ [rowPl T r]) o := by
  have hlt : n - 1 - d < Q.length := by rw [h.len]; omega
  refine ⟨hd, Nat.zero_le _, by rw [List.length_set]; exact h.len, fun k hk => ?_, ?_, ?_, fun k h1 h2 => ?_, h.out, h.ok.more _⟩
  · rw [set_at hlt, if_neg (by omega)]; exact h.zero k (by omega)
  · rw [set_at hlt, if_pos rfl]; exact hr
  · rw [set_at hlt, if_pos rfl]; exact .inl ⟨by simp, hs⟩
  · rw [set_at hlt, if_neg (by omega)]
    exact ⟨(h.done k h1 h2).1, (h.done k h1 h2).2.more _⟩
theorem II.skip (h : II fit n wo T d m Q P o) (hm : m < d) (hw : ((n - d + m : Nat) : Int) = wo) : II fit n wo T d (m + 1) Q P o :=
  ⟨h.dn, by omega, h.len, h.zero, by rw [innT, if_pos hw]; exact h.cur, h.cok, h.done, h.out, h.ok⟩
theorem II.cand (h : II fit n wo T d m Q P o) (hm : m < d) : (Q.getD (n - d + m) zPl).t = (tl fit n wo d).getD (d - 1 - m) zT0 ∧ OkPl T P (Q.getD (n - d + m) zPl) := by
  have h1 := h.dn
  have := h.done (n - d + m) (by omega) (by omega)
  rwa [show n - 1 - (n - d + m) = d - 1 - m by omega] at this
theorem II.keep (h : II fit n wo T d m Q P o) (hm : m < d) (hw : ¬ ((n - d + m : Nat) : Int) = wo) (r : VPl) (hr : r.t = candT fit n d (tl fit n wo d) m) (hq : lessT r.t (Q.getD (n - 1 - d) zPl).t = false) : II fit n wo T d (m + 1) Q (P ++ [rowPl T r]) o := by
  refine ⟨h.dn, by omega, h.len, h.zero, ?_, h.cok.more _, fun k h1 h2 => ⟨(h.done k h1 h2).1, (h.done k h1 h2).2.more _⟩, h.out, h.ok.more _⟩
  rw [innT, if_neg hw, if_neg (by rw [← hr, ← h.cur, hq]; decide)]; exact h.cur
theorem II.take (h : II fit n wo T d m Q P o) (hm : m < d) (hw : ¬ ((n - d + m : Nat) : Int) = wo) (r : VPl) (hr : r.t = candT fit n d (tl fit n wo d) m) (hs : r.A.isSome = true) (hq : lessT r.t (Q.getD (n - 1 - d) zPl).t = true) : II fit n wo T d (m + 1) (Q.set (n - 1 - d) r) (P ++ [rowPl T r]) o := by
  have hdn := h.dn
  have hlt : n - 1 - d < Q.length := by rw [h.len]; omega
  refine ⟨h.dn, by omega, by rw [List.length_set]; exact h.len, fun k hk => ?_, ?_, ?_, fun k h1 h2 => ?_, h.out, h.ok.more _⟩
  · rw [set_at hlt, if_neg (by omega)]; exact h.zero k hk
  · rw [set_at hlt, if_pos rfl, innT, if_neg hw, if_pos (by rw [← hr, ← h.cur, hq]), hr]
  · rw [set_at hlt, if_pos rfl]; exact .inl ⟨by simp, hs⟩
  · rw [set_at hlt, if_neg (by omega)]
    exact ⟨(h.done k h1 h2).1, (h.done k h1 h2).2.more _⟩
/-- The plan of the reading at hand, its start counted in. -/
def addP (p : VPl) (i : Int) : VPl := ⟨p.cost + i * 1, p.breaks, p.A, p.c, p.xs⟩
theorem addP_t (p : VPl) (i : Int) : (addP p i).t = addT p.t i := rfl
theorem II.base (h : II fit n wo T d d Q P o) (hw : ¬ ((n - 1 - d : Nat) : Int) = wo) : ∀ k, n - (d + 1) ≤ k → k < n → (Q.getD k zPl).t = (tl fit n wo (d + 1)).getD (n - 1 - k) zT0 ∧ OkPl T P (Q.getD k zPl) := fun k h1 h2 => by
  have hdn := h.dn
  by_cases e : k = n - 1 - d
  · subst e
    rw [show n - 1 - (n - 1 - d) = d by omega, tl_at (Nat.lt_succ_self d), if_neg hw]
    exact ⟨h.cur, h.cok⟩
  · have := h.done k (by omega) h2
    rw [tl_at (by omega)] at this ⊢; exact this
theorem OkPl.add {p : VPl} (h : OkPl T P p) (i : Int) : OkPl T P (addP p i) := h
theorem II.new (h : II fit n wo T d d Q P o) (hw : ¬ ((n - 1 - d : Nat) : Int) = wo) (hq : (btT fit n wo d).1 = false ∨ lessT (addP (Q.getD (n - 1 - d) zPl) ((n - 1 - d : Nat) : Int)).t o.t = true) : BI fit n wo T (d + 1) Q P (addP (Q.getD (n - 1 - d) zPl) ((n - 1 - d : Nat) : Int)) ∧ (btT fit n wo (d + 1)).1 = true := by
  have hdn := h.dn
  have e : btT fit n wo (d + 1) = (true, addT (innT fit n wo d (tl fit n wo d) d) ((n - 1 - d : Nat) : Int)) := by
    rw [btT, if_neg hw, if_pos (by rw [addP_t, h.cur, h.out] at hq; exact hq)]
  refine ⟨⟨by omega, h.len, fun k hk => h.zero k (by omega), h.base hw, ?_, h.cok.add _⟩, by rw [e]⟩
  rw [e, addP_t, h.cur]
theorem II.old (h : II fit n wo T d d Q P o) (hw : ¬ ((n - 1 - d : Nat) : Int) = wo) (hq : (btT fit n wo d).1 = true) (hq2 : lessT (addP (Q.getD (n - 1 - d) zPl) ((n - 1 - d : Nat) : Int)).t o.t = false) : BI fit n wo T (d + 1) Q P o ∧ (btT fit n wo (d + 1)).1 = true := by
  have hdn := h.dn
  have e : btT fit n wo (d + 1) = btT fit n wo d := by
    rw [btT, if_neg hw, if_neg (by rw [addP_t, h.cur, h.out] at hq2; rw [hq, hq2]; simp)]
  refine ⟨⟨by omega, h.len, fun k hk => h.zero k (by omega), h.base hw, by rw [e]; exact h.out, h.ok⟩, by rw [e]; exact hq⟩
structure BSt where
  d : Nat
  Q : List VPl
  P : List Rw
  o : VPl
structure ISt where
  m : Nat
  Q : List VPl
  P : List Rw
theorem II.cbd (h : II fit n wo T d m Q P o) (hm : m < d) : (0 ≤ (Q.getD (n - d + m) zPl).cost ∧ (Q.getD (n - d + m) zPl).cost ≤ (d : Int)) ∧ (0 ≤ (Q.getD (n - d + m) zPl).breaks ∧ (Q.getD (n - d + m) zPl).breaks ≤ (d : Int)) ∧ (Q.getD (n - d + m) zPl).xs.length ≤ d := by
  have h1 := (h.cand hm).1
  have h2 := tl_bd fit n wo d (d - 1 - m) (by rw [tl_len]; omega)
  rw [← h1] at h2
  have h3 : (0 ≤ (Q.getD (n - d + m) zPl).cost ∧ (Q.getD (n - d + m) zPl).cost ≤ ((d - 1 - m : Nat) : Int)) ∧ (0 ≤ (Q.getD (n - d + m) zPl).breaks ∧ (Q.getD (n - d + m) zPl).breaks ≤ ((d - 1 - m : Nat) : Int)) ∧ (Q.getD (n - d + m) zPl).xs.length ≤ d - 1 - m + 1 := h2
  omega
theorem II.ibd (h : II fit n wo T d m Q P o) : (0 ≤ (Q.getD (n - 1 - d) zPl).cost ∧ (Q.getD (n - 1 - d) zPl).cost ≤ (d : Int)) ∧ (0 ≤ (Q.getD (n - 1 - d) zPl).breaks ∧ (Q.getD (n - 1 - d) zPl).breaks ≤ (d : Int)) ∧ (Q.getD (n - 1 - d) zPl).xs.length ≤ d + 1 := by
  have h2 := inT_bd (fit := fit) (n := n) (wo := wo) (tl_bd fit n wo d) (tl_len fit n wo d) m h.mn
  rw [← h.cur] at h2; exact h2
theorem II.obd (h : II fit n wo T d m Q P o) : o.xs.length ≤ n + 1 := by
  have h2 := bt_bd fit n wo d (by have := h.dn; omega)
  rw [← h.out] at h2; exact h2.2.2
theorem canK_bool {K : List (VX Bool)} (h : CanK fit n K) {i j : Nat} (hi : i < K.length) (hij : i < j) (hj : j < n) : (K.getD i zX).xs.length = n ∧ (K.getD i zX).xs.getD j false = fit i j := by
  rw [h i hi]; exact ⟨canP_len _ _ _ _, canR_at hj hij⟩
end Go.W

/- Sure misreads, in plain numbers. -/
set_option linter.unusedVariables false
set_option linter.unusedSimpArgs false
namespace Go.W
open Go Go.Sx
variable {fit : Nat → Nat → Bool} {n i k q : Nat} {v : List Value}
/-- The list of what comes ahead, the first i of them told. -/
def flO (fit : Nat → Nat → Bool) (n i : Nat) : List Int := fl fit i ++ List.replicate (n - i) 0
/-- And the next one being x so far. -/
def flR (fit : Nat → Nat → Bool) (n i : Nat) (x : Int) : List Int := fl fit i ++ x :: List.replicate (n - i - 1) 0
theorem flO_len (h : i ≤ n) : (flO fit n i).length = n := by unfold flO; simp [fl_len]; omega
theorem flR_len {x : Int} (h : i < n) : (flR fit n i x).length = n := by unfold flR; simp [fl_len]; omega
theorem flO_zero {zs : List Value} (h : zs = eI .i64 0) : zerosL zs n = (flO fit n 0).flatMap (eI .i64) := by
  subst h; rw [zeros_flat (eI_len .i64) 0 (by omega) n]; unfold flO; simp [fl]
theorem flO_put {x : Int} (h : i < n) (hq : q = i * 1) (hv : v = eI .i64 x) : put ((flO fit n i).flatMap (eI .i64)) q v = (flR fit n i x).flatMap (eI .i64) := by
  subst hq hv
  rw [flat_put (eI_len .i64) _ _ _ (by rw [flO_len (by omega)]; exact h)]
  congr 1
  unfold flO flR
  have hl := fl_len fit i
  obtain ⟨j, hj⟩ : ∃ j, n - i = j + 1 := ⟨n - i - 1, by omega⟩
  rw [List.set_append_right _ _ (by omega), hl, Nat.sub_self, hj, List.replicate_succ, List.set_cons_zero, Nat.add_sub_cancel]
theorem flR_at {x : Int} : (flR fit n i x).getD i 0 = x := by
  unfold flR; have hl := fl_len fit i
  simp only [List.getD]; rw [List.getElem?_append_right (by omega), hl, Nat.sub_self]; rfl
theorem flR_lo {x : Int} (h : k < i) : (flR fit n i x).getD k 0 = (fl fit i).getD k 0 := by
  unfold flR; have hl := fl_len fit i
  simp only [List.getD]; rw [List.getElem?_append_left (by omega)]
theorem flR_put {x y : Int} (h : i < n) (hq : q = i * 1) (hv : v = eI .i64 y) : put ((flR fit n i x).flatMap (eI .i64)) q v = (flR fit n i y).flatMap (eI .i64) := by
  subst hq hv
  rw [flat_put (eI_len .i64) _ _ _ (by rw [flR_len h]; exact h)]
  congr 1
  unfold flR
  have hl := fl_len fit i
  rw [List.set_append_right _ _ (by omega), hl, Nat.sub_self, List.set_cons_zero]
theorem flR_fin (h : i < n) : flR fit n i (finV fit i (fl fit i) i) = flO fit n (i + 1) := by
  unfold flR flO; rw [fl, List.append_assoc, show n - (i + 1) = n - i - 1 by omega]; rfl
/-- The least cost from each reading on, as the program's second list has it. -/
def bhO (fit : Nat → Nat → Bool) (n d : Nat) : List Int := (outR fit n d).map (·.cost)
def bhR (fit : Nat → Nat → Bool) (n d : Nat) (x : Int) : List Int := (bhO fit n d).set (n - 1 - d) x
theorem bhO_len {d : Nat} (h : d ≤ n) : (bhO fit n d).length = n := by unfold bhO; rw [List.length_map, outR_len h]
theorem bhR_len {d : Nat} {x : Int} (h : d ≤ n) : (bhR fit n d x).length = n := by unfold bhR; rw [List.length_set, bhO_len h]
theorem map_cost (L : List VR) (k : Nat) : (L.map (·.cost)).getD k 0 = (L.getD k zR).cost := by
  simp only [List.getD, List.getElem?_map]; cases L[k]? <;> rfl
theorem bhO_zero {zs : List Value} (h : zs = eI .i64 0) : zerosL zs n = (bhO fit n 0).flatMap (eI .i64) := by
  subst h; rw [zeros_flat (eI_len .i64) 0 (by omega) n]; unfold bhO outR; simp [rl, zR]
theorem bhO_put {d : Nat} {x : Int} (h : d < n) (hq : q = (n - 1 - d) * 1) (hv : v = eI .i64 x) : put ((bhO fit n d).flatMap (eI .i64)) q v = (bhR fit n d x).flatMap (eI .i64) := by
  subst hq hv
  rw [flat_put (eI_len .i64) _ _ _ (by rw [bhO_len (by omega)]; omega)]; rfl
theorem bhR_put {d : Nat} {x y : Int} (h : d < n) (hq : q = (n - 1 - d) * 1) (hv : v = eI .i64 y) : put ((bhR fit n d x).flatMap (eI .i64)) q v = (bhR fit n d y).flatMap (eI .i64) := by
  subst hq hv
  rw [flat_put (eI_len .i64) _ _ _ (by rw [bhR_len (by omega)]; omega)]; unfold bhR; rw [List.set_set]
theorem bhR_at {d : Nat} {x : Int} (h : d < n) : (bhR fit n d x).getD (n - 1 - d) 0 = x := by
  unfold bhR; simp only [List.getD]; rw [List.getElem?_set_self (by rw [bhO_len (by omega)]; omega)]; rfl
theorem bhR_hi {d m : Nat} {x : Int} (hd : d < n) (h : m < d) : (bhR fit n d x).getD (n - d + m) 0 = ((rl fit n d).getD (d - 1 - m) zR).cost := by
  unfold bhR
  have e : ((bhO fit n d).set (n - 1 - d) x).getD (n - d + m) 0 = (bhO fit n d).getD (n - d + m) 0 := by
    simp only [List.getD]; rw [List.getElem?_set_ne (by omega)]
  rw [e]; unfold bhO
  rw [map_cost, outR_at (by omega) (by omega) (by omega), show n - 1 - (n - d + m) = d - 1 - m by omega]
theorem bhR_fin {d : Nat} (h : d < n) : bhR fit n d (inn fit n d (rl fit n d) d).cost = bhO fit n (d + 1) := by
  unfold bhR bhO
  rw [← outR_set h, List.map_set]
theorem bhO_hi {d k : Nat} (hd : d ≤ n) (h1 : n - d ≤ k) (h2 : k < n) : (bhO fit n d).getD k 0 = ((rstL fit n).getD k zR).cost := by
  unfold bhO rstL
  rw [map_cost, outR_at hd h1 h2, outR_at (Nat.le_refl _) (by omega) h2]
  congr 1
  have key : ∀ e, d + e ≤ n → (rl fit n (d + e)).getD (n - 1 - k) zR = (rl fit n d).getD (n - 1 - k) zR := by
    intro e
    induction e with
    | zero => intro _; rfl
    | succ e ih =>
      intro he
      rw [← ih (by omega), ← Nat.add_assoc, rl, snocR_at (by rw [rl_len]; omega)]
  have := key (n - d) (by omega)
  rw [show d + (n - d) = n by omega] at this
  exact this.symm
/-! the least cost of all, both ways -/
theorem inT_cost {d m : Nat} {L : List VT} : (innT fit n (-1) d L (m + 1)).cost = min (innT fit n (-1) d L m).cost (candT fit n d L m).cost := by
  rw [innT, if_neg (by omega)]
  by_cases h : lessT (candT fit n d L m) (innT fit n (-1) d L m) = true
  · rw [if_pos h]; have := less_cost h; omega
  · rw [if_neg h]; have := less_not (by simpa using h); omega
theorem cost_same : ∀ d, d ≤ n → ∀ j, j < d → ((tl fit n (-1) d).getD j zT0).cost = ((rl fit n d).getD j zR).cost
  | d + 1, hd, j, hj => by
    have ih := cost_same d (by omega)
    have hl := rl_len fit n d
    rcases Nat.lt_or_ge j d with h1 | h1
    · have e : (tl fit n (-1) (d + 1)).getD j zT0 = (tl fit n (-1) d).getD j zT0 := by rw [tl_at hj, tl_at h1]
      rw [e, rl, snocR_at (by omega)]; exact ih j h1
    · obtain rfl : j = d := by omega
      have e2 : (rl fit n (j + 1)).getD j zR = inn fit n j (rl fit n j) j := by
        rw [rl]; have := snocR_last (L := rl fit n j) (r := inn fit n j (rl fit n j) j); rwa [hl] at this
      rw [tl_at (Nat.lt_succ_self j), if_neg (by omega), e2]
      have key : ∀ m, m ≤ j → (innT fit n (-1) j (tl fit n (-1) j) m).cost = (inn fit n j (rl fit n j) m).cost := by
        intro m
        induction m with
        | zero => intro _; simp [innT, inn, fromT, zT0]
        | succ m ihm =>
          intro hm
          rw [inT_cost, inn_cost, ihm (by omega)]
          have h2 := ih (j - 1 - m) (by omega)
          simp only [candT, fromT, candC, h2]; omega
      exact key j (Nat.le_refl _)
/-- The cost of a story that starts at a reading. -/
def totC_ (fit : Nat → Nat → Bool) (n i : Nat) : Int := (i : Int) + ((rstL fit n).getD i zR).cost
theorem bst_min : ∀ m, m ≤ n → 0 < m → (∀ i, i < m → (bstV fit n m).cost ≤ totC_ fit n i) ∧ (∃ i, i < m ∧ (bstV fit n m).cost = totC_ fit n i) ∧ 0 ≤ (bstV fit n m).next
  | m + 1, hm, _ => by
    by_cases hq : (bstV fit n m).next < 0 ∨ (m : Int) + ((rstL fit n).getD m zR).cost < (bstV fit n m).cost ∨ (m : Int) + ((rstL fit n).getD m zR).cost = (bstV fit n m).cost ∧ ((rstL fit n).getD m zR).breaks < (bstV fit n m).breaks
    · rw [bst_y hq]
      refine ⟨fun i hi => ?_, ⟨m, Nat.lt_succ_self m, rfl⟩, by dsimp only; omega⟩
      rcases Nat.lt_or_ge i m with h1 | h1
      · have ih := bst_min m (by omega) (by omega)
        have := ih.1 i h1
        unfold totC_ at this ⊢
        dsimp only; omega
      · rw [show i = m by omega]; exact Int.le_refl _
    · rw [bst_n hq]
      have h0 : 0 < m := by
        rcases Nat.eq_zero_or_pos m with h | h
        · subst h; exact absurd (.inl (by show (-1 : Int) < 0; decide)) hq
        · exact h
      have ih := bst_min m (by omega) h0
      obtain ⟨i0, hi0, e0⟩ := ih.2.1
      refine ⟨fun i hi => ?_, ⟨i0, by omega, e0⟩, ih.2.2⟩
      rcases Nat.lt_or_ge i m with h1 | h1
      · exact ih.1 i h1
      · rw [show i = m by omega]; unfold totC_; omega
theorem tl_more {wo : Int} {j d : Nat} (h : j < d) (hd : d ≤ n) : (tl fit n wo n).getD j zT0 = (tl fit n wo d).getD j zT0 := by rw [tl_at (by omega), tl_at h]
theorem inT_rst {d : Nat} (hd : d < n) : (innT fit n (-1) d (tl fit n (-1) d) d).cost = ((rstL fit n).getD (n - 1 - d) zR).cost := by
  have h1 := cost_same (fit := fit) (n := n) n (Nat.le_refl _) d hd
  rw [tl_at hd, if_neg (by omega)] at h1
  unfold rstL
  rw [h1, outR_at (Nat.le_refl _) (by omega) (by omega), show n - 1 - (n - 1 - d) = d by omega]
theorem bt_min : ∀ d, d ≤ n → 0 < d → (∀ i, n - d ≤ i → i < n → (btT fit n (-1) d).2.cost ≤ totC_ fit n i) ∧ (∃ i, n - d ≤ i ∧ i < n ∧ (btT fit n (-1) d).2.cost = totC_ fit n i) ∧ (btT fit n (-1) d).1 = true
  | d + 1, hd, _ => by
    have hr := inT_rst (fit := fit) (n := n) (d := d) (by omega)
    have hc : (addT (innT fit n (-1) d (tl fit n (-1) d) d) ((n - 1 - d : Nat) : Int)).cost = totC_ fit n (n - 1 - d) := by unfold totC_ addT; dsimp only; rw [hr]; omega
    rw [btT, if_neg (by omega)]
    by_cases hq : (btT fit n (-1) d).1 = false ∨ lessT (addT (innT fit n (-1) d (tl fit n (-1) d) d) ((n - 1 - d : Nat) : Int)) (btT fit n (-1) d).2 = true
    · rw [if_pos hq]
      refine ⟨fun i h1 h2 => ?_, ⟨n - 1 - d, by omega, by omega, hc⟩, rfl⟩
      show (addT _ _).cost ≤ _
      rw [hc]
      by_cases e : i = n - 1 - d
      · rw [e]; exact Int.le_refl _
      · have ih := bt_min d (by omega) (by omega)
        have h3 := ih.1 i (by omega) h2
        rcases hq with hq | hq
        · rw [ih.2.2] at hq; cases hq
        · have := less_cost hq; rw [hc] at this; omega
    · rw [if_neg hq]
      have h0 : 0 < d := by
        rcases Nat.eq_zero_or_pos d with h | h
        · subst h; exact absurd (.inl rfl) hq
        · exact h
      have ih := bt_min d (by omega) h0
      obtain ⟨i0, h1, h2, e0⟩ := ih.2.1
      refine ⟨fun i h3 h4 => ?_, ⟨i0, by omega, h2, e0⟩, ih.2.2⟩
      by_cases e : i = n - 1 - d
      · have h5 : lessT (addT (innT fit n (-1) d (tl fit n (-1) d) d) ((n - 1 - d : Nat) : Int)) (btT fit n (-1) d).2 = false := by
          cases h6 : lessT (addT (innT fit n (-1) d (tl fit n (-1) d) d) ((n - 1 - d : Nat) : Int)) (btT fit n (-1) d).2 with
          | false => rfl
          | true => exact absurd (.inr h6) hq
        have := less_not h5; rw [hc] at this; rw [e]; exact this
      · exact ih.1 i (by omega) h4
theorem pkR2 {e : Ent} {v : Value} {E s n : Nat} {xs ys : List Value} {r : List Ent} (h : xs = ys) : some (e :: Ent.row v E s n xs :: r) = some (e :: Ent.row v E s n ys :: r) := by rw [h]
theorem best_cost : (btT fit n (-1) n).2.cost = (bstV fit n n).cost := by
  rcases Nat.eq_zero_or_pos n with h | h
  · subst h; rfl
  · have h1 := bst_min (fit := fit) (n := n) n (Nat.le_refl _) h
    have h2 := bt_min (fit := fit) (n := n) n (Nat.le_refl _) h
    obtain ⟨i, hi, e1⟩ := h1.2.1
    obtain ⟨j, _, hj, e2⟩ := h2.2.1
    have h3 := h1.1 j hj
    have h4 := h2.1 i (by omega) hi
    omega
theorem fin_step {i k : Nat} (h : k < i) : min (finV fit i (fl fit i) k) ((fl fit i).getD k 0 + (((i : Int) - k - 1) + 2 * brk (fit k i))) = finV fit i (fl fit i) (k + 1) := by
  rw [finV]; congr 3; omega
end Go.W

/- Two things made in either order; what the program's counts come to. -/
set_option linter.unusedVariables false
set_option linter.unusedSimpArgs false
namespace Go.Sx
open Go Go.RowKit
variable {C : Cx} {env : Env} {m : List Ent} {l : List Oper} {K : Env → List Ent → Prop} {S : List Ent} {fuel i j di dj : Nat} {done : List Nat} {oi oj o : Oper}
theorem run_equal_ptr {P : Program} {w : World} {T E : TypeId} {A : Option Addr} (hT : P.underlying T = some (.pointer E)) : (Op.equal T (.pointer A) (.pointer none)).run P w = .ok A.isNone w := by
  unfold Op.equal Op.maxDepth
  rw [show (10000 : Nat) = 9999 + 1 from rfl]
  unfold Op.equalIn
  rw [Sem.run_bind, run_underlying hT]
  cases A <;> rfl
theorem fr_eql_ptr {T x y T' E A} (ho : o.op = .binOp .eql T x y T') (hx : ev env x = some (.pointer A)) (hy : ev env y = some (.pointer none)) (hT : C.P.underlying T = some (.pointer E)) : Free C o env m (.bool A.isNone) := by
  unfold Free
  intro a w hr _
  have h : (binOp .eql T (.pointer A) (.pointer none)).run C.P w = .ok (.bool A.isNone) w := by
    have hq := run_equal_ptr (P := C.P) (w := w) (A := A) hT
    unfold binOp
    simp only [Sem.run_bind, hq, Result.andThen_ok, Sem.run_pure]
  have hg : (eqGuard .eql T x y (.pointer A) (.pointer none)).run C.P w = .ok () w := by unfold eqGuard; rfl
  simp only [execOp, ho, hr.ev hx, hr.ev hy, Sem.run_bind, hg, Result.andThen_ok, h]; rfl
theorem fr_eql_ptr_n {T x y T' E} (ho : o.op = .binOp .eql T x y T') (hx : ev env x = some (.pointer none)) (hy : ev env y = some (.pointer none)) (hT : C.P.underlying T = some (.pointer E)) : Free C o env m (.bool true) := fr_eql_ptr ho hx hy hT
theorem fr_eql_ptr_s {T x y T' E a} (ho : o.op = .binOp .eql T x y T') (hx : ev env x = some (.pointer (some a))) (hy : ev env y = some (.pointer none)) (hT : C.P.underlying T = some (.pointer E)) : Free C o env m (.bool false) := fr_eql_ptr ho hx hy hT
end Go.Sx
namespace Go.W
open Go Go.Sx
variable {fit : Nat → Nat → Bool} {n i : Nat}
theorem flO_at {j : Nat} (h : i < j) : (flO fit n j).getD i 0 = finV fit i (fl fit i) i := by
  rw [← fl_at h]; unfold flO
  simp only [List.getD]; rw [List.getElem?_append_left (by rw [fl_len]; exact h)]
theorem inn_min {d m : Nat} {c : Int} (h : c = candC fit n d (rl fit n d) m) : min (inn fit n d (rl fit n d) m).cost c = (inn fit n d (rl fit n d) (m + 1)).cost := by rw [inn_cost, h]
/-- What the best story of those that keep a reading costs. -/
def withV (fit : Nat → Nat → Bool) (n i : Nat) : Int := finV fit i (fl fit i) i + ((rstL fit n).getD i zR).cost
end Go.W
