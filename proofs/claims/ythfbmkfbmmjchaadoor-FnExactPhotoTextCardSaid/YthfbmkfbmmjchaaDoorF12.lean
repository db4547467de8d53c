/- Strings built by a builder; the decimal digits as the library and the specification write them. -/
import Derived.Test.YthfbmkfbmmjchaaDoorF11
import Derived.Test.YthfbmkfbmmjchaaDoorF10
import Derived.Test.YthfbmkfbmmjchaaDoorProg
import Derived.Lib.ItoaNum
import Derived.Lib.LaidTab
import Derived.Sort.Grow
import Derived.Deep.Draws
set_option linter.unusedVariables false
set_option linter.unusedSimpArgs false
namespace Go.Sx
open Go Go.RowKit
variable {C : Cx} {env env' : Env} {m m' : List Ent} {o : Oper} {K : Env → List Ent → Prop}
abbrev bp (b : Nat) (u : Bool) : Value := .pointer (bif u then some ⟨b, 0, none⟩ else none)
theorem op_appendT {d : Nat} {i : Nat} {s x T TS E A c} {xs l : List UInt8} (ho : o.op = .call { callee := .builtin .append, args := #[s, x], argTypes := #[T, TS] })
    (hs : ev env s = some (.slice A xs.length c)) (hx : ev env x = some (sv l)) (hi : m[i]? = some (.row (.slice A xs.length c) E 1 xs.length (xs.flatMap eU))) (hT : C.P.underlying T = some (.slice E)) (hTS : C.P.underlying TS = some .string)
    (hz : (C.P.info? E).map (fun i => (i.size, i.bytes)) = some (1, 1)) (hzz : (C.P.info? E).bind (·.zero) = some (.int .u8 0))
    (hb : xs.length + l.length ≤ 140737488355328) (hd : o.dst = some d) (hlt : Nat.blt d C.n = true)
    (h : ∀ A' c', K ((d, .slice A' (xs ++ l).length c') :: env) (m.set i (.row (.slice A' (xs ++ l).length c') E 1 (xs ++ l).length ((xs ++ l).flatMap eU)))) : Op1 C o env m K := by
  have e : (xs ++ l).length = xs.length + l.length := List.length_append
  refine op_appendS ho hs hx hi hT hTS hz hzz hb hd hlt fun A' c' => ?_
  have := h A' c'
  rwa [e] at this
/-- What is known of a row that is not empty. -/
theorem row_own {i n c sz : Nat} {A : Option Addr} {E xs} (hi : m[i]? = some (.row (.slice A n c) E sz n xs)) (hn : 0 < n) : ∀ w, Holds C.base C.w0 m w → ∃ g, A = some ⟨g, 0, none⟩ ∧ c ≠ 0 := fun w hw => by
  have h := hw.all _ (List.mem_of_getElem? hi)
  rcases h.2 with ⟨_, h0⟩ | ⟨g, cap, cur, hv, _, _, hc, _⟩
  · omega
  · simp only [Value.slice.injEq] at hv
    exact ⟨g, hv.1, by omega⟩
theorem fr_sliceData {T x : _} {a : Addr} {n c : Nat} (ho : o.op = .call { callee := .builtin .unsafeSliceData, args := #[x], argTypes := #[T] }) (hx : ev env x = some (.slice (some a) n c)) (hc : c ≠ 0) : Free C o env m (.pointer (some a)) := by
  intro w0 w hr _
  have h := Lib.run_unsafeSliceData_row (P := C.P) w #[T] o.type a n c hc
  simp only [execOp, ho, resolve, invoke]
  simp [hr.ev hx, builtin, h]
theorem fr_sliceData_n {T x : _} {n c : Nat} (ho : o.op = .call { callee := .builtin .unsafeSliceData, args := #[x], argTypes := #[T] }) (hx : ev env x = some (.slice none n c)) : Free C o env m (.pointer none) := by
  intro w0 w hr _
  have h := Lib.run_unsafeSliceData_nil (P := C.P) w #[T] o.type n c
  simp only [execOp, ho, resolve, invoke]
  simp [hr.ev hx, builtin, h]
theorem fr_unsafeString_n {pt it p q} (ho : o.op = .call { callee := .builtin .unsafeString, args := #[p, q], argTypes := #[pt, it] }) {pp : Option Addr} (hp : ev env p = some (.pointer pp)) (hq : ev env q = some (.int .i64 0)) : Free C o env m (sv []) := by
  intro w0 w hr _
  have h := Lib.run_unsafeString_none (P := C.P) w pt it o.type pp
  simp only [execOp, ho, resolve, invoke]
  simp [hr.ev hp, hr.ev hq, builtin, h]
  rfl
theorem Holds.frz {base w0 w g n c E sz k xs} (h : Holds base w0 (.row (.slice (some ⟨g, 0, none⟩) n c) E sz n xs :: m) w) : Holds base w0 m (w.freeze ⟨g, 0, none⟩ k) := by
  have hall := h.all
  have hg0 := (Ent.holds.lt (hall _ (List.mem_cons_self ..)) g rfl)
  have hgr : w.grownBy (w.freeze ⟨g, 0, none⟩ k) (some g) := by
    unfold World.freeze
    split
    · exact ⟨rfl, rfl, rfl, Nat.le_refl _, fun _ _ _ => rfl⟩
    · exact ⟨rfl, rfl, rfl, by simp, fun j hj hne => by
        simp only [Array.getElem?_modify]
        rw [if_neg (by intro e; exact hne (by rw [e]))]⟩
  have hap := List.pairwise_cons.1 h.apart
  refine ⟨Lib.below_freeze h.below (p := ⟨g, 0, none⟩) hg0.1 k, h.le, fun e he => ?_, hap.2, h.others.trans (KeepsOthers.of_grownBy hgr fun j o' hj ho => (hall _ (List.mem_cons_self ..)).cells rfl j o' hj ho)⟩
  exact (hall e (List.mem_cons_of_mem _ he)).grown hgr (fun b hb heb => by
    obtain rfl := Option.some.inj heb
    exact hap.1 e he _ rfl hb)
/-- unsafe.String over a row of bytes: the row is given away. -/
theorem op_unsafeString {d i : Nat} {pt it p q U g c n : _} {l : List UInt8} {E} (ho : o.op = .call { callee := .builtin .unsafeString, args := #[p, q], argTypes := #[pt, it] })
    (hp : ev env p = some (.pointer (some ⟨g, 0, none⟩))) (hq : ev env q = some (.int .i64 n)) (hi : m[i]? = some (.row (.slice (some ⟨g, 0, none⟩) l.length c) E 1 l.length (l.flatMap eU))) (hn : n = (l.length : Int))
    (hpt : C.P.underlying pt = some (.pointer U)) (hU : U = E) (hc : C.P.cellsOf U = 1) (h0 : 0 < l.length) (hd : o.dst = some d) (hlt : Nat.blt d C.n = true)
    (h : K ((d, sv l) :: env) (m.eraseIdx i)) : Op1 C o env m K := by
  subst hn hU
  refine Op1.of_run hd hlt fun a w hr hh => ?_
  have hown := hh.all _ (List.mem_of_getElem? hi)
  have hown : w.ownsRow C.base U 1 (.slice (some ⟨g, 0, none⟩) l.length c) l.length (l.flatMap eU) := hown
  obtain ⟨hxs, ⟨hv, _⟩ | ⟨g', cap, cur, hv, hb, hg, hnc, hcm, hcs, ht⟩⟩ := hown
  · simp at hv
  simp only [Value.slice.injEq, Option.some.injEq, Addr.mk.injEq, and_true, true_and] at hv
  obtain ⟨rfl, rfl⟩ := hv
  have hmx : maxLen = 9223372036854775807 := rfl
  have hsh : w.shape? g = some (U, c) := by simp [World.shape?, hg]; omega
  have hget : ∀ j x, l[j]? = some x → w.cell? ((⟨g, 0, none⟩ : Addr).add j) = some (.int .u8 x.toNat) := fun j x hj => by
    have hjl := (List.getElem?_eq_some_iff.1 hj).1
    have := flat_get eU_len (0 : UInt8) l j 0 hjl (by omega)
    simp only [Nat.mul_one, Nat.add_zero] at this
    rw [← ht, List.getElem?_take] at this
    rw [if_pos (by omega)] at this
    have hx : l.getD j 0 = x := by simp [List.getD, hj]
    rw [hx] at this
    simp only [eU, List.getElem?_cons_zero] at this
    have h2 : cur[j]? = some (.int .u8 (x.toNat : Int)) := by rw [← Array.getElem?_toList]; exact this
    unfold World.cell? Addr.add
    by_cases hj0 : j = 0
    · subst hj0; simpa [hg] using h2
    · simpa [hj0, hg] using h2
  have hrun := Lib.run_unsafeString_row (P := C.P) w pt it o.type U hpt hc g c hsh l (by intro e; subst e; simp at h0) (by omega) (by omega) hget
  refine ⟨_, w.freeze ⟨g, 0, none⟩ l.length, _, ?_, ?_, h⟩
  · simp [execOp, ho, resolve, invoke, builtin, hr.ev hp, hr.ev hq, hrun]
  · have hp' : m.Perm (.row (.slice (some ⟨g, 0, none⟩) l.length c) U 1 l.length (l.flatMap eU) :: m.eraseIdx i) := by
      obtain ⟨hlt', hgi⟩ := List.getElem?_eq_some_iff.1 hi
      rw [← hgi]
      rw [List.eraseIdx_eq_take_drop_succ]
      have h9 : m = m.take i ++ m[i] :: m.drop (i + 1) := by rw [List.getElem_cons_drop, List.take_append_drop]
      exact (List.Perm.of_eq h9).trans List.perm_middle
    exact (hh.perm hp').frz
/-! ### The library's table of powers of ten -/
def TabO (P : Program) (w : World) : Prop := Lib.TabIs P w "internal/strconv.uint64pow10" .u64 Lib.pow10Tab
theorem TabO.below {P w w'} (h : TabO P w) (hb : Below w.heap.size w w') : TabO P w' := by
  unfold TabO Lib.TabIs World.var? at h ⊢
  cases hg : P.globalNamed "internal/strconv.uint64pow10" with
  | none => simp [hg] at h
  | some g =>
    simp only [hg, Option.bind_some] at h ⊢
    have hlt : g < w.heap.size := by
      rcases Nat.lt_or_ge g w.heap.size with h1 | h1
      · exact h1
      · rw [Array.getElem?_eq_none h1] at h; simp at h
    rw [hb.block g hlt]
    exact h
theorem below_grw (w : World) (k : Nat) (os : Array Obj) : Below w.heap.size w (Sort.grow (w.drewN k) os) :=
  ⟨rfl, rfl, rfl, by show w.heap.size ≤ (w.heap ++ os).size; rw [Array.size_append]; omega, fun j hj => by show (w.heap ++ os)[j]? = _; rw [Array.getElem?_append_left hj]⟩
theorem TabO.keep {P w0 m w} (h : TabO P w0) (hh : Holds w0.heap.size w0 m w) : TabO P w := h.below hh.below
theorem itoa_nn {n : Int} (h : 0 ≤ n) : Lib.itoa n = Lib.decDigits n.toNat := by unfold Lib.itoa; rw [if_neg (by omega)]
theorem itoa_pos (n : Int) : 1 ≤ (Lib.itoa n).length := by
  unfold Lib.itoa
  split
  · simp
  · rw [Lib.decDigits_length]; exact Lib.nDigits_pos _
theorem nDig_le : ∀ (k u : Nat), u < 10 ^ k → 1 ≤ k → Lib.nDigits u ≤ k
  | 0, _, _, h => absurd h (by omega)
  | k + 1, u, hu, _ => by
    by_cases h : u < 10
    · rw [Lib.nDigits_small h]; omega
    · rw [Lib.nDigits_big h]
      have hk : 1 ≤ k := by
        rcases k with _ | k
        · simp at hu; omega
        · omega
      have := nDig_le k (u / 10) (by rw [Nat.pow_succ] at hu; omega) hk
      omega
theorem itoa_le {n : Int} (h : -9223372036854775808 ≤ n ∧ n ≤ 9223372036854775807) : (Lib.itoa n).length ≤ 20 := by
  unfold Lib.itoa
  split
  · rw [List.length_cons, Lib.decDigits_length]
    have := nDig_le 19 n.natAbs (by omega) (by omega)
    omega
  · rw [Lib.decDigits_length]
    have := nDig_le 19 n.toNat (by omega) (by omega)
    omega
theorem itoa_one {n : Int} (h : 0 ≤ n) (h1 : n < 10) : Lib.itoa n = [UInt8.ofNat (48 + n % 10).toNat] := by
  rw [itoa_nn h, Lib.decDigits, dif_pos (by omega)]
  congr 2
  omega
theorem itoa_more {n : Int} (h : 0 ≤ n) (h1 : ¬ n < 10) : Lib.itoa n = Lib.itoa (n / 10) ++ [UInt8.ofNat (48 + n % 10).toNat] := by
  rw [itoa_nn h, itoa_nn (by omega), Lib.decDigits, dif_neg (by omega)]
  congr 3
  · omega
  · omega
theorem eU_one {x : Int} (h : 0 ≤ x ∧ x ≤ 255) : [Value.int .u8 x] = [UInt8.ofNat x.toNat].flatMap eU := by
  rw [List.flatMap_cons, List.flatMap_nil, List.append_nil]
  exact congrArg (· :: []) (b8_cell h)
theorem tS {a b : List UInt8} (h : a = b) : tupleOf [sv a] = sv b := by rw [h]; rfl
theorem vS {a b : List UInt8} (h : a = b) : sv a = sv b := by rw [h]
/-! ### Lines laid one behind the other -/
def joinT (f : Nat → List UInt8) : Nat → List UInt8
  | 0 => []
  | k + 1 => joinT f k ++ f k
theorem joinT_s (f : Nat → List UInt8) (k : Nat) : joinT f (k + 1) = joinT f k ++ f k := rfl
theorem joinT_le {f : Nat → List UInt8} {B : Nat} : ∀ (n : Nat), (∀ i, i < n → (f i).length ≤ B) → (joinT f n).length ≤ n * B
  | 0, _ => by simp [joinT]
  | n + 1, h => by
    rw [joinT, List.length_append, Nat.succ_mul]
    have := joinT_le n fun i hi => h i (by omega)
    have := h n (by omega)
    omega
theorem joinT_pos {f : Nat → List UInt8} (h : ∀ i, 1 ≤ (f i).length) : ∀ (n : Nat), 0 < n → 0 < (joinT f n).length
  | n + 1, _ => by rw [joinT, List.length_append]; have := h n; omega
end Go.Sx
