/- Strings; the library's builder of strings, walked. -/
import Derived.Test.YthfbmkfbmmjchaaDoorF3
import Derived.Lib.AppendStr
import Derived.Lib.UnsafeStr
import Derived.Lib.Builder
import Derived.Laws.Concat
import Derived.Laws.IdiomStrings
import Derived.Laws.Externs
set_option linter.unusedVariables false
set_option linter.unusedSimpArgs false
namespace Go.Sx
open Go Go.RowKit
variable {C : Cx} {env env' : Env} {m m' : List Ent} {o : Oper} {K : Env → List Ent → Prop}
/-- A string by its bytes. -/
abbrev sv (l : List UInt8) : Value := .string ⟨l.toArray⟩
def eU (b : UInt8) : List Value := [.int .u8 (b.toNat : Int)]
theorem eU_len : ∀ b, (eU b).length = 1 := fun _ => rfl
theorem sv_size (l : List UInt8) : (⟨l.toArray⟩ : ByteArray).size = l.length := by simp [ByteArray.size]
theorem strCells_sv (l : List UInt8) : Lib.strCells ⟨l.toArray⟩ = l.flatMap eU := by
  unfold Lib.strCells eU
  show l.map _ = _
  induction l with
  | nil => rfl
  | cons b l ih => rw [List.map_cons, List.flatMap_cons, ih]; rfl
theorem sv_of (s : ByteArray) : Value.string s = sv s.data.toList := by
  cases s; simp [sv]
theorem fr_addS {T x y T'} {l r : List UInt8} (ho : o.op = .binOp .add T x y T') (hx : ev env x = some (sv l)) (hy : ev env y = some (sv r)) (hb : l.length + r.length ≤ 9223372036854775807) : Free C o env m (sv (l ++ r)) := by
  intro a w hr _
  have h : (binOp .add T (sv l) (sv r)).run C.P w = .ok (sv (l ++ r)) w := by
    have := run_string_add_sum (P := C.P) w ⟨l.toArray⟩ ⟨r.toArray⟩ (by rw [sv_size, sv_size]; exact hb)
    rw [ByteArray.mk_append_mk] at this
    unfold binOp
    simp only [sv]
    exact this
  have hg : (eqGuard .add T x y (sv l) (sv r)).run C.P w = .ok () w := by unfold eqGuard; rfl
  simp only [execOp, ho, hr.ev hx, hr.ev hy, Sem.run_bind, hg, Result.andThen_ok, h]; rfl
theorem beq_S (l r : List UInt8) : ((⟨l.toArray⟩ : ByteArray).toList == (⟨r.toArray⟩ : ByteArray).toList) = decide (l = r) := by
  rw [Bool.eq_iff_iff, decide_eq_true_iff, beq_iff_eq, ByteArray.toList_eq, ByteArray.toList_eq]
theorem fr_eqlS {T x y T'} {l r : List UInt8} (ho : o.op = .binOp .eql T x y T') (hx : ev env x = some (sv l)) (hy : ev env y = some (sv r)) : Free C o env m (.bool (decide (l = r))) := by
  intro a w hr _
  have h : (binOp .eql T (sv l) (sv r)).run C.P w = .ok (.bool (decide (l = r))) w := by
    show (Op.stringOp .eql ⟨l.toArray⟩ ⟨r.toArray⟩).run C.P w = _
    simp only [Op.stringOp, beq_S, Sem.run_pure]
  have hg : (eqGuard .eql T x y (sv l) (sv r)).run C.P w = .ok () w := by unfold eqGuard; rfl
  simp only [execOp, ho, hr.ev hx, hr.ev hy, Sem.run_bind, hg, Result.andThen_ok, h]; rfl
theorem fr_neqS {T x y T'} {l r : List UInt8} (ho : o.op = .binOp .neq T x y T') (hx : ev env x = some (sv l)) (hy : ev env y = some (sv r)) : Free C o env m (.bool (!decide (l = r))) := by
  intro a w hr _
  have h : (binOp .neq T (sv l) (sv r)).run C.P w = .ok (.bool (!decide (l = r))) w := by
    show (Op.stringOp .neq ⟨l.toArray⟩ ⟨r.toArray⟩).run C.P w = _
    simp only [Op.stringOp, beq_S, Sem.run_pure]
  have hg : (eqGuard .neq T x y (sv l) (sv r)).run C.P w = .ok () w := by unfold eqGuard; rfl
  simp only [execOp, ho, hr.ev hx, hr.ev hy, Sem.run_bind, hg, Result.andThen_ok, h]; rfl
theorem fr_neqS_f {T x y T'} {l r : List UInt8} (ho : o.op = .binOp .neq T x y T') (hx : ev env x = some (sv l)) (hy : ev env y = some (sv r)) (h : l = r) : Free C o env m (.bool false) := by
  have := fr_neqS (C := C) (m := m) ho hx hy
  rwa [decide_eq_true h] at this
theorem fr_lenS {x T} {l : List UInt8} (ho : o.op = .call { callee := .builtin .len, args := #[x], argTypes := #[T] }) (hx : ev env x = some (sv l)) (hT : C.P.underlying T = some .string) : Free C o env m (.int .i64 l.length) := by
  have := fr_len_str (m := m) ho hx hT
  rwa [sv_size] at this
/-- Bytes to a string. -/
theorem fr_convBS {S D x E} {n c : Nat} {A : Option Addr} {cs : List Value} (l : List UInt8) (ho : o.op = .convert S D x) (hx : ev env x = some (.slice A n c)) (H : Reads C m A cs) (hcs : cs = l.flatMap eU) (hn : n = l.length) (h0 : 0 < n) (hS : C.P.underlying S = some (.slice E)) (hE : C.P.underlying E = some (.int .u8)) (hD : C.P.underlying D = some .string) : Free C o env m (sv l) := by
  subst hcs hn
  intro a w hr hw
  have hR := H w hw
  have hA := hR.isSome (by rw [flat_len eU_len]; omega)
  obtain ⟨ad, rfl⟩ := Option.isSome_iff_exists.1 hA
  have hrun := run_convert_bytes_back (P := C.P) w S D E ad c l hS hE hD fun j hj => by
    obtain ⟨ad', e1, hc⟩ := hR j (.int .u8 (l[j].toNat : Int)) (by
      have := flat_get eU_len (0 : UInt8) l j 0 hj (by omega)
      simp only [Nat.mul_one, Nat.add_zero] at this
      rw [this]; simp [eU, List.getD, hj])
    obtain rfl := Option.some.inj e1
    exact hc
  simp only [execOp, ho, hr.ev hx, Sem.run_bind, hrun, Result.andThen_ok, Sem.run_pure]
theorem b8_cell {x : Int} (h : 0 ≤ x ∧ x ≤ 255) : (.int .u8 x : Value) = .int .u8 ((UInt8.ofNat x.toNat).toNat : Int) := by
  have : (UInt8.ofNat x.toNat).toNat = x.toNat := by simp [UInt8.toNat_ofNat]; omega
  rw [this]; congr 1; omega
/-! ### The builder -/
theorem blk_shape {i b : Nat} {cs : List Value} {T : TypeId} (hi : m[i]? = some (.blk b cs T)) {w : World} (hw : Holds C.base C.w0 m w) : w.shape? b = some (T, cs.length) := by
  have h := (hw.all _ (List.mem_of_getElem? hi)).2
  simp [World.shape?, h]
theorem fr_toUnsafe {S D x U} {i b : Nat} {cs : List Value} {T : TypeId} {sz : Nat} (hi : m[i]? = some (.blk b cs T)) (ho : o.op = .convert S D x) (hx : ev env x = some (.pointer (some ⟨b, 0, none⟩))) (hS : C.P.underlying S = some (.pointer U)) (hD : C.P.underlying D = some .unsafePointer) (hU : (C.P.info? U).map (·.size) = some sz) (h0 : Nat.blt 0 sz = true) (hl : Nat.blt 0 cs.length = true) : Free C o env m (.pointer (some ⟨b, 0, none⟩)) := by
  intro a w hr hw
  obtain ⟨j, hj, hjs⟩ := Option.map_eq_some_iff.1 hU
  have h0' : 0 < sz := by simpa using h0
  have hrun := Lib.run_to_unsafe (P := C.P) w (src := S) (dst := D) ⟨b, 0, none⟩ hS hD hj (by omega) (blk_shape hi hw) (by simpa using hl)
  simp only [execOp, ho, hr.ev hx, Sem.run_bind, hrun, Result.andThen_ok, Sem.run_pure]
theorem fr_fromUnsafe {S D x U} {i b : Nat} {cs : List Value} {T : TypeId} {sz : Nat} (hi : m[i]? = some (.blk b cs T)) (ho : o.op = .convert S D x) (hx : ev env x = some (.pointer (some ⟨b, 0, none⟩))) (hS : C.P.underlying S = some .unsafePointer) (hD : C.P.underlying D = some (.pointer U)) (hU : (C.P.info? U).map (·.size) = some sz) (hl : liesAt C.P C.P.depth T (cs.length / C.P.cellsOf T) 0 U 1 = true) : Free C o env m (.pointer (some ⟨b, 0, none⟩)) := by
  intro a w hr hw
  obtain ⟨j, hj, hjs⟩ := Option.map_eq_some_iff.1 hU
  have hrun := Lib.run_from_unsafe (P := C.P) w (src := S) (dst := D) ⟨b, 0, none⟩ hS hD hj (blk_shape hi hw) hl
  simp only [execOp, ho, hr.ev hx, Sem.run_bind, hrun, Result.andThen_ok, Sem.run_pure]
theorem fr_noEsc {fo f args at_ x v fn} (ho : o.op = .call { callee := .value fo, args := args, argTypes := at_ }) (hfo : ev env fo = some (.func (.func f) #[] #[])) (ha : args = #[x]) (hx : ev env x = some v) (hf : C.P.funcs[f]? = some fn) (hname : (fn.name == "runtime.NumGoroutine") = false) (hb : fn.body.isNone = true) (hn : Extern.findNext fn = none) (he : Extern.find fn = some Extern.AbiNoEscape.same) : Free C o env m v := by
  intro a w hr hw
  subst ha
  have hrun : (callFunc f #[v]).run C.P w = .ok (.value v) w := by
    rw [run_callFunc_extern hf hname hb hn he, Lib.run_noEscape]; rfl
  simp only [execOp, ho, resolve, hr.ev hfo, Deferred.ofValue, invoke]
  simp [hr.ev hx, hrun]
theorem fr_neq_ptr_same {T x y T' E ad} (ho : o.op = .binOp .neq T x y T') (hx : ev env x = some (.pointer (some ad))) (hy : ev env y = some (.pointer (some ad))) (hT : C.P.underlying T = some (.pointer E)) (hE : (C.P.info? E).isSome = true) : Free C o env m (.bool false) := by
  intro a w hr _
  obtain ⟨j, hj⟩ := Option.isSome_iff_exists.1 hE
  have h := Lib.run_neq_ptr_same (P := C.P) w ad hT hj
  have hg : (eqGuard .neq T x y (.pointer (some ad)) (.pointer (some ad))).run C.P w = .ok () w := by unfold eqGuard; rfl
  simp only [execOp, ho, hr.ev hx, hr.ev hy, Sem.run_bind, hg, Result.andThen_ok, h]; rfl
/-- append(bytes, a string's bytes). -/
theorem op_appendS {d : Nat} {i : Nat} {s x T TS E A n c} {xs l : List UInt8} (ho : o.op = .call { callee := .builtin .append, args := #[s, x], argTypes := #[T, TS] })
    (hs : ev env s = some (.slice A n c)) (hx : ev env x = some (sv l)) (hi : m[i]? = some (.row (.slice A n c) E 1 n (xs.flatMap eU))) (hT : C.P.underlying T = some (.slice E)) (hTS : C.P.underlying TS = some .string)
    (hz : (C.P.info? E).map (fun i => (i.size, i.bytes)) = some (1, 1)) (hzz : (C.P.info? E).bind (·.zero) = some (.int .u8 0))
    (hb : n + l.length ≤ 140737488355328) (hd : o.dst = some d) (hlt : Nat.blt d C.n = true)
    (h : ∀ A' c', K ((d, .slice A' (n + l.length) c') :: env) (m.set i (.row (.slice A' (n + l.length) c') E 1 (n + l.length) ((xs ++ l).flatMap eU)))) : Op1 C o env m K := by
  refine Op1.of_run hd hlt fun a w hrep hh => ?_
  have hmx : maxLen = 9223372036854775807 := rfl
  cases hq : C.P.info? E with
  | none => simp [hq] at hz
  | some inf =>
    simp only [hq, Option.map_some, Option.some.injEq, Prod.mk.injEq] at hz
    simp only [hq, Option.bind_some] at hzz
    obtain ⟨h1, h2⟩ := hz
    have hown := hh.all _ (List.mem_of_getElem? hi)
    have hown : w.ownsRow C.base E 1 (.slice A n c) n (xs.flatMap eU) := hown
    obtain ⟨hlt, hg'⟩ := List.getElem?_eq_some_iff.1 hi
    have hm : m = m.take i ++ .row (.slice A n c) E 1 n (xs.flatMap eU) :: m.drop (i + 1) := by rw [← hg', List.getElem_cons_drop, List.take_append_drop]
    have hset : ∀ e, m.set i e = m.take i ++ e :: m.drop (i + 1) := fun e => by rw [List.set_eq_take_append_cons_drop, if_pos hlt]
    have hsz := sv_size l
    obtain ⟨v', w', hrun, hown', hgr, _⟩ := Lib.run_append_own_string (P := C.P) w C.base T TS o.type E inf hT hTS hq hzz h1 h2 (.slice A n c) n (xs.flatMap eU) hown ⟨l.toArray⟩ (by rw [hsz]; omega) (by rw [hsz]; exact hb) hh.wle
    rw [hsz, strCells_sv, ← List.flatMap_append] at hown'
    have hv' : ∃ A' c', v' = .slice A' (n + l.length) c' := by
      rcases hown'.2 with ⟨rfl, hn0⟩ | ⟨g, cap, cur, rfl, _⟩
      · exact ⟨none, 0, by rw [hn0]⟩
      · exact ⟨_, cap, rfl⟩
    obtain ⟨A', c', rfl⟩ := hv'
    refine ⟨_, w', m.set i (.row (.slice A' (n + l.length) c') E 1 (n + l.length) ((xs ++ l).flatMap eU)), ?_, ?_, h A' c'⟩
    · simp [execOp, ho, resolve, invoke, builtin, hrep.ev hs, hrep.ev hx, hrun]
    · rw [hset]
      rw [hm] at hh
      refine hh.turn hgr hown' fun b hb' => ?_
      simp only [Ent.has] at hb' ⊢
      rcases hown'.2 with ⟨hv, hn0⟩ | ⟨g, cap, cur, hv, hgb, hgg, _⟩
      · simp at hv; obtain ⟨rfl, _⟩ := hv; simp [Value.ownBlock] at hb'
      · simp only [Value.slice.injEq] at hv
        obtain ⟨rfl, _⟩ := hv
        simp only [Value.ownBlock, Option.some.injEq] at hb' ⊢
        subst hb'
        rcases hown.2 with ⟨hv0, hn0⟩ | ⟨g0, cap0, cur0, hv0, hb0, hg0, hnc0, hcm0, hcs0, ht0⟩
        · right
          simp only [Value.slice.injEq] at hv0
          obtain ⟨rfl, rfl, rfl⟩ := hv0
          have hx0 : xs.flatMap eU = [] := List.eq_nil_of_length_eq_zero (by simpa using hown.1)
          obtain ⟨v2, w2, hrun2, hown2, _, _⟩ := Lib.run_append_own_string (P := C.P) w w.heap.size T TS o.type E inf hT hTS hq hzz h1 h2 (.slice none 0 0) 0 [] (World.ownsRow_nil w _ E 1) ⟨l.toArray⟩ (by rw [hsz]; omega) (by rw [hsz]; exact hb) (Nat.le_refl _)
          rw [hrun] at hrun2
          simp only [Result.ok.injEq] at hrun2
          obtain ⟨rfl, rfl⟩ := hrun2
          exact (World.ownsRow.lt hown2 g (by simp [Value.ownBlock])).1
        · simp only [Value.slice.injEq] at hv0
          obtain ⟨rfl, -, rfl⟩ := hv0
          simp only [Value.ownBlock, Option.some.injEq]
          by_cases hroom : n + l.length ≤ c
          · left
            have hroom2 := Lib.run_append_room_string (P := C.P) w T TS o.type E inf hT hTS hq h1 g0 n c cur0 hg0 ⟨l.toArray⟩ (by rw [hsz]; exact hroom) (by rw [hsz]; simp only [Nat.mul_one] at hcs0; omega)
            rw [hrun] at hroom2
            simp only [Result.ok.injEq, Value.slice.injEq, Option.some.injEq, Addr.mk.injEq] at hroom2
            exact hroom2.1.1.1.symm
          · right
            have hgrow := Lib.run_append_grow_string (P := C.P) w T TS o.type E inf _ hT hTS hq hzz ⟨g0, 0, none⟩ n c (xs.flatMap eU) (by rw [h1]; exact hown.1) (World.ownsRow.cells hown (g := g0) rfl) ⟨l.toArray⟩ (by rw [hsz]; omega) (by rw [hsz]; omega) (by
              rw [hsz, h2, Nat.mul_one]
              have := growslice_fits (old := c) (need := n + l.length) (bytes := 1) (by omega) (by omega)
              simpa using this)
            rw [hrun] at hgrow
            simp only [Result.ok.injEq, Value.slice.injEq, Option.some.injEq, Addr.mk.injEq] at hgrow
            have := hgrow.1.1.1
            omega
end Go.Sx
