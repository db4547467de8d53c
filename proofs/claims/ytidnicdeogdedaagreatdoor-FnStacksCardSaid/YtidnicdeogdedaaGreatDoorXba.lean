/- Several texts, one behind the other. -/
import Derived.Test.YtidnicdeogdedaaGreatDoorRows
import Derived.ProofKit
import Derived.SizedLaws
import Derived.Test.YtidnicdeogdedaaGreatDoorProg
import Derived.Lib.ItoaNum
import Derived.Lib.LaidTab
import Derived.Sort.Grow
import Derived.Deep.Draws
import Derived.Lib.Join
import Derived.Lib.ParseIntB
import Derived.Lib.Split
import Derived.Laws.Strings
import Derived.Laws.Strings2
import Derived.Laws.Strings3
import Derived.Laws.Slices
import Derived.Lib.SplitLaws
import Derived.Lib.ParseIntBMem
import Derived.Lib.ParseIntBTie
import Derived.Stop.IfaceNil
import Derived.Handed
import Derived.HandedShaped
import Derived.Test.YtidnicdeogdedaaGreatDoorXaa
import Derived.Test.YtidnicdeogdedaaGreatDoorXab
/- The head of the dump as a list of words, and what the claims ask of it. -/
namespace Go.Proofs.YtidnicdeogdedaaGreatDoor
open Go Go.RowKit
set_option maxRecDepth 100000
theorem words_cons (s : List Char) : ∀ w : List Char, w.all (· != Char.ofNat 32) = true → wordsSigns (w ++ Char.ofNat 32 :: s) = w :: wordsSigns s
  | [], _ => rfl
  | c :: w, h => by
    simp only [List.all_cons, Bool.and_eq_true, bne_iff_ne, ne_eq] at h
    have ih := words_cons s w h.2
    show wordsSigns (c :: (w ++ Char.ofNat 32 :: s)) = _
    conv => lhs; unfold wordsSigns
    split
    · next e => cases e
    · next e => injection e with e1 e2; exact absurd e1 h.1
    · next c' r' _ e => injection e with e1 e2; subst e1; subst e2; rw [ih]
theorem io : Tryz.pinned.checked.prog.initOrder.toList = [Char.ofNat 104, Char.ofNat 97, Char.ofNat 114, Char.ofNat 110, Char.ofNat 101, Char.ofNat 115, Char.ofNat 115] ++ Char.ofNat 32 :: ([Char.ofNat 97, Char.ofNat 100, Char.ofNat 55, Char.ofNat 51, Char.ofNat 50, Char.ofNat 51, Char.ofNat 97, Char.ofNat 51, Char.ofNat 51, Char.ofNat 97, Char.ofNat 52, Char.ofNat 48, Char.ofNat 54, Char.ofNat 100, Char.ofNat 56, Char.ofNat 54, Char.ofNat 54, Char.ofNat 56, Char.ofNat 98, Char.ofNat 50, Char.ofNat 52, Char.ofNat 56, Char.ofNat 55, Char.ofNat 102, Char.ofNat 52, Char.ofNat 52, Char.ofNat 56, Char.ofNat 54, Char.ofNat 53, Char.ofNat 48, Char.ofNat 51, Char.ofNat 101, Char.ofNat 56, Char.ofNat 99, Char.ofNat 49, Char.ofNat 97, Char.ofNat 99, Char.ofNat 56, Char.ofNat 56, Char.ofNat 100, Char.ofNat 54, Char.ofNat 101, Char.ofNat 52, Char.ofNat 97, Char.ofNat 97, Char.ofNat 55, Char.ofNat 102, Char.ofNat 99, Char.ofNat 57, Char.ofNat 98, Char.ofNat 51, Char.ofNat 53, Char.ofNat 55, Char.ofNat 48, Char.ofNat 53, Char.ofNat 51, Char.ofNat 99, Char.ofNat 102, Char.ofNat 99, Char.ofNat 56, Char.ofNat 56, Char.ofNat 101, Char.ofNat 51, Char.ofNat 55] ++ Char.ofNat 32 :: ([Char.ofNat 99, Char.ofNat 117, Char.ofNat 116] ++ Char.ofNat 32 :: [Char.ofNat 97, Char.ofNat 116, Char.ofNat 32, Char.ofNat 108, Char.ofNat 111, Char.ofNat 111, Char.ofNat 112, Char.ofNat 46, Char.ofNat 101, Char.ofNat 120, Char.ofNat 97, Char.ofNat 109, Char.ofNat 112, Char.ofNat 108, Char.ofNat 101, Char.ofNat 47, Char.ofNat 103, Char.ofNat 48, Char.ofNat 49, Char.ofNat 50, Char.ofNat 55, Char.ofNat 56, Char.ofNat 47, Char.ofNat 108, Char.ofNat 97, Char.ofNat 119, Char.ofNat 115, Char.ofNat 46, Char.ofNat 70, Char.ofNat 110, Char.ofNat 83, Char.ofNat 116, Char.ofNat 97, Char.ofNat 99, Char.ofNat 107, Char.ofNat 115])) := by
  have h : Tryz.pinned.checked.prog.initOrder = String.ofList ([Char.ofNat 104, Char.ofNat 97, Char.ofNat 114, Char.ofNat 110, Char.ofNat 101, Char.ofNat 115, Char.ofNat 115] ++ Char.ofNat 32 :: ([Char.ofNat 97, Char.ofNat 100, Char.ofNat 55, Char.ofNat 51, Char.ofNat 50, Char.ofNat 51, Char.ofNat 97, Char.ofNat 51, Char.ofNat 51, Char.ofNat 97, Char.ofNat 52, Char.ofNat 48, Char.ofNat 54, Char.ofNat 100, Char.ofNat 56, Char.ofNat 54, Char.ofNat 54, Char.ofNat 56, Char.ofNat 98, Char.ofNat 50, Char.ofNat 52, Char.ofNat 56, Char.ofNat 55, Char.ofNat 102, Char.ofNat 52, Char.ofNat 52, Char.ofNat 56, Char.ofNat 54, Char.ofNat 53, Char.ofNat 48, Char.ofNat 51, Char.ofNat 101, Char.ofNat 56, Char.ofNat 99, Char.ofNat 49, Char.ofNat 97, Char.ofNat 99, Char.ofNat 56, Char.ofNat 56, Char.ofNat 100, Char.ofNat 54, Char.ofNat 101, Char.ofNat 52, Char.ofNat 97, Char.ofNat 97, Char.ofNat 55, Char.ofNat 102, Char.ofNat 99, Char.ofNat 57, Char.ofNat 98, Char.ofNat 51, Char.ofNat 53, Char.ofNat 55, Char.ofNat 48, Char.ofNat 53, Char.ofNat 51, Char.ofNat 99, Char.ofNat 102, Char.ofNat 99, Char.ofNat 56, Char.ofNat 56, Char.ofNat 101, Char.ofNat 51, Char.ofNat 55] ++ Char.ofNat 32 :: ([Char.ofNat 99, Char.ofNat 117, Char.ofNat 116] ++ Char.ofNat 32 :: [Char.ofNat 97, Char.ofNat 116, Char.ofNat 32, Char.ofNat 108, Char.ofNat 111, Char.ofNat 111, Char.ofNat 112, Char.ofNat 46, Char.ofNat 101, Char.ofNat 120, Char.ofNat 97, Char.ofNat 109, Char.ofNat 112, Char.ofNat 108, Char.ofNat 101, Char.ofNat 47, Char.ofNat 103, Char.ofNat 48, Char.ofNat 49, Char.ofNat 50, Char.ofNat 55, Char.ofNat 56, Char.ofNat 47, Char.ofNat 108, Char.ofNat 97, Char.ofNat 119, Char.ofNat 115, Char.ofNat 46, Char.ofNat 70, Char.ofNat 110, Char.ofNat 83, Char.ofNat 116, Char.ofNat 97, Char.ofNat 99, Char.ofNat 107, Char.ofNat 115]))) := by kernel_rfl
  rw [h, String.toList_ofList]
theorem io_words : ∃ rest, wordsSigns Tryz.pinned.checked.prog.initOrder.toList = [Char.ofNat 104, Char.ofNat 97, Char.ofNat 114, Char.ofNat 110, Char.ofNat 101, Char.ofNat 115, Char.ofNat 115] :: [Char.ofNat 97, Char.ofNat 100, Char.ofNat 55, Char.ofNat 51, Char.ofNat 50, Char.ofNat 51, Char.ofNat 97, Char.ofNat 51, Char.ofNat 51, Char.ofNat 97, Char.ofNat 52, Char.ofNat 48, Char.ofNat 54, Char.ofNat 100, Char.ofNat 56, Char.ofNat 54, Char.ofNat 54, Char.ofNat 56, Char.ofNat 98, Char.ofNat 50, Char.ofNat 52, Char.ofNat 56, Char.ofNat 55, Char.ofNat 102, Char.ofNat 52, Char.ofNat 52, Char.ofNat 56, Char.ofNat 54, Char.ofNat 53, Char.ofNat 48, Char.ofNat 51, Char.ofNat 101, Char.ofNat 56, Char.ofNat 99, Char.ofNat 49, Char.ofNat 97, Char.ofNat 99, Char.ofNat 56, Char.ofNat 56, Char.ofNat 100, Char.ofNat 54, Char.ofNat 101, Char.ofNat 52, Char.ofNat 97, Char.ofNat 97, Char.ofNat 55, Char.ofNat 102, Char.ofNat 99, Char.ofNat 57, Char.ofNat 98, Char.ofNat 51, Char.ofNat 53, Char.ofNat 55, Char.ofNat 48, Char.ofNat 53, Char.ofNat 51, Char.ofNat 99, Char.ofNat 102, Char.ofNat 99, Char.ofNat 56, Char.ofNat 56, Char.ofNat 101, Char.ofNat 51, Char.ofNat 55] :: [Char.ofNat 99, Char.ofNat 117, Char.ofNat 116] :: rest := by
  rw [io, words_cons _ _ (by decide), words_cons _ _ (by decide), words_cons _ _ (by decide)]; exact ⟨_, rfl⟩
theorem io_main : ∃ rest, behindMainWord (wordsSigns Tryz.pinned.checked.prog.initOrder.toList) = [Char.ofNat 99, Char.ofNat 117, Char.ofNat 116] :: rest := by
  obtain ⟨rest, h⟩ := io_words; rw [h]; exact ⟨rest, by kernel_rfl⟩
theorem head_of {P : Program} {rest : List (List Char)} (h : behindMainWord (wordsSigns P.initOrder.toList) = [Char.ofNat 99, Char.ofNat 117, Char.ofNat 116] :: rest) : P.headLifts = [] := by
  unfold Program.headLifts; rw [h]; kernel_rfl
theorem lifts_of {P : Program} {rest : List (List Char)} (h : behindMainWord (wordsSigns P.initOrder.toList) = [Char.ofNat 99, Char.ofNat 117, Char.ofNat 116] :: rest) : P.liftsFinal = false := by
  unfold Program.liftsFinal; rw [head_of h, h]; kernel_rfl
theorem make_of {P : Program} {rest : List (List Char)} (h : behindMainWord (wordsSigns P.initOrder.toList) = [Char.ofNat 99, Char.ofNat 117, Char.ofNat 116] :: rest) : P.make = some .cut := by
  unfold Program.make; rw [head_of h, h]; kernel_rfl
theorem enter_of {P : Program} {rest : List (List Char)} (h : behindMainWord (wordsSigns P.initOrder.toList) = [Char.ofNat 99, Char.ofNat 117, Char.ofNat 116] :: rest) (h1 : P.laysLater = false) (h2 : P.bearsReflect = false) (h3 : P.doorFits [] = true) : P.mayEnter = true := by
  unfold Program.mayEnter; rw [h, h1, h2]
  have e : stripLifts liftWords ([Char.ofNat 99, Char.ofNat 117, Char.ofNat 116] :: rest) = ([], [Char.ofNat 99, Char.ofNat 117, Char.ofNat 116] :: rest) := by kernel_rfl
  simp only [e, h3]; rfl
theorem io_lifts : Tryz.pinned.checked.prog.liftsFinal = false := by obtain ⟨rest, h⟩ := io_main; exact lifts_of h
theorem io_make : Tryz.pinned.checked.prog.make = some .cut := by obtain ⟨rest, h⟩ := io_main; exact make_of h
theorem io_later : Tryz.pinned.checked.prog.laysLater = false := by kernel_rfl
theorem io_reflect : Tryz.pinned.checked.prog.bearsReflect = false := by kernel_rfl
theorem io_door : Tryz.pinned.checked.prog.doorFits [] = true := by kernel_rfl
theorem io_enter : Tryz.pinned.checked.prog.mayEnter = true := by obtain ⟨rest, h⟩ := io_main; exact enter_of h io_later io_reflect io_door
end Go.Proofs.YtidnicdeogdedaaGreatDoor

/- Arguments, opened by their types. -/
namespace Go.Proofs.YtidnicdeogdedaaGreatDoor
open Go Go.Sx Go.W Go.RowKit
set_option maxRecDepth 100000
theorem o_Stack {W : World} {cs : List Value} (h : Cl Tryz.prog W 22 cs) : ∃ (A : Option Addr) (c : Nat) (s : List Int), cs = [.slice A s.length c] ∧ s.length ≤ maxLen ∧ (Nums 255 s) ∧ Rd W A (s.flatMap (eI .u8)) := by
  obtain ⟨A, n, c, e, hn, els, hlen, hall, hr⟩ := h.slice rfl (of_decide_eq_true (by kernel_rfl))
  obtain ⟨s, e2, l2, p2⟩ := each (f := eI .u8) (p := fun k => 0 ≤ k ∧ k ≤ 255) (fun x hx => by obtain ⟨k, e, w⟩ := ((hall x hx).2).int rfl; exact ⟨k, e, bounds_u8 w⟩)
  rw [e2] at hr
  obtain rfl : n = s.length := by omega
  exact ⟨A, c, s, e, hn, p2, hr⟩
theorem o_Int64S {W : World} {cs : List Value} (h : Cl Tryz.prog W 79 cs) : ∃ (A : Option Addr) (c : Nat) (s : List Int), cs = [.slice A s.length c] ∧ s.length ≤ maxLen ∧ (∀ k ∈ s, I64 k) ∧ Rd W A (s.flatMap (eI .i64)) := by
  obtain ⟨A, n, c, e, hn, els, hlen, hall, hr⟩ := h.slice rfl (of_decide_eq_true (by kernel_rfl))
  obtain ⟨s, e2, l2, p2⟩ := each (f := eI .i64) (p := fun k => I64 k) (fun x hx => by obtain ⟨k, e, w⟩ := ((hall x hx).2).int rfl; exact ⟨k, e, bounds_i64 w⟩)
  rw [e2] at hr
  obtain rfl : n = s.length := by omega
  exact ⟨A, c, s, e, hn, p2, hr⟩
theorem o_Digits {W : World} {cs : List Value} (h : Cl Tryz.prog W 29 cs) : ∃ a : Dig, cs = encD a ∧ Nums 255 a.l := by
  obtain ⟨hl, hf⟩ := h.array rfl
  have hl' : cs.length = 8 := hl
  match cs, hl' with
  | [c0, c1, c2, c3, c4, c5, c6, c7], _ =>
    obtain ⟨x0, e0, w0⟩ := Cl.int (cs := [c0]) rfl (hf 0 (by omega))
    have f0 : [c0] = [.int .u8 x0] := e0
    have b0 := bounds_u8 w0
    obtain ⟨x1, e1, w1⟩ := Cl.int (cs := [c1]) rfl (hf 1 (by omega))
    have f1 : [c1] = [.int .u8 x1] := e1
    have b1 := bounds_u8 w1
    obtain ⟨x2, e2, w2⟩ := Cl.int (cs := [c2]) rfl (hf 2 (by omega))
    have f2 : [c2] = [.int .u8 x2] := e2
    have b2 := bounds_u8 w2
    obtain ⟨x3, e3, w3⟩ := Cl.int (cs := [c3]) rfl (hf 3 (by omega))
    have f3 : [c3] = [.int .u8 x3] := e3
    have b3 := bounds_u8 w3
    obtain ⟨x4, e4, w4⟩ := Cl.int (cs := [c4]) rfl (hf 4 (by omega))
    have f4 : [c4] = [.int .u8 x4] := e4
    have b4 := bounds_u8 w4
    obtain ⟨x5, e5, w5⟩ := Cl.int (cs := [c5]) rfl (hf 5 (by omega))
    have f5 : [c5] = [.int .u8 x5] := e5
    have b5 := bounds_u8 w5
    obtain ⟨x6, e6, w6⟩ := Cl.int (cs := [c6]) rfl (hf 6 (by omega))
    have f6 : [c6] = [.int .u8 x6] := e6
    have b6 := bounds_u8 w6
    obtain ⟨x7, e7, w7⟩ := Cl.int (cs := [c7]) rfl (hf 7 (by omega))
    have f7 : [c7] = [.int .u8 x7] := e7
    have b7 := bounds_u8 w7
    cases f0; cases f1; cases f2; cases f3; cases f4; cases f5; cases f6; cases f7
    refine ⟨⟨x0, x1, x2, x3, x4, x5, x6, x7⟩, rfl, fun x hx => ?_⟩
    simp only [Dig.l, List.mem_cons, List.not_mem_nil, or_false] at hx
    rcases hx with rfl | rfl | rfl | rfl | rfl | rfl | rfl | rfl <;> assumption
end Go.Proofs.YtidnicdeogdedaaGreatDoor

/- Strings built by a builder; the decimal digits as the library and the specification write them. -/
set_option linter.unusedVariables false
set_option linter.unusedSimpArgs false
namespace Go.Sx
open Go Go.RowKit
variable {C : Cx} {env env' : Env} {m m' : List Ent} {o : Oper} {K : Env → List Ent → Prop}
abbrev bp (b : Nat) (u : Bool) : Value := .pointer (bif u then some ⟨b, 0, none⟩ else none)
theorem op_appendT {d : Nat} {i : Nat} {s x T TS E A c} {xs l : List UInt8} (ho : o.op = .call { callee := .builtin .append, args := #[s, x], argTypes := #[T, TS] })
    (hs : ev env s = some (.slice A xs.length c)) (hx : ev env x = some (sv l)) (hi : m[i]? = some (.row (.slice A xs.length c) E 1 xs.length (xs.flatMap eU))) (hT : C.P.underlying T = some (.slice E)) (hTS : C.P.underlying TS = some .string)
    (hz : (C.P.info? E).map (fun i => (i.size, i.bytes)) = some (1, 1)) (hzz : (C.P.info? E).bind (·.zero) = some (.int .u8 0))
    (hb : xs.length + l.length ≤ 140737488355328) (hd : o.dst = some d) (hlt : Nat.blt d C.n = true)
    (h : ∀ A' c', K ((d, .slice A' (xs ++ l).length c') :: env) (m.set i (.row (.slice A' (xs ++ l).length c') E 1 (xs ++ l).length ((xs ++ l).flatMap eU)))) : Op1 C o env m K := by
  have e : (xs ++ l).length = xs.length + l.length := List.length_append
  refine op_appendS ho hs hx hi hT hTS hz hzz hb hd hlt fun A' c' => ?_
  have := h A' c'
  rwa [e] at this
/-- What is known of a row that is not empty. -/
theorem row_own {i n c sz : Nat} {A : Option Addr} {E xs} (hi : m[i]? = some (.row (.slice A n c) E sz n xs)) (hn : 0 < n) : ∀ w, Holds C.base C.w0 m w → ∃ g, A = some ⟨g, 0, none⟩ ∧ c ≠ 0 := fun w hw => by
  have h := hw.all _ (List.mem_of_getElem? hi)
  rcases h.2 with ⟨_, h0⟩ | ⟨g, cap, cur, hv, _, _, hc, _⟩
  · omega
  · simp only [Value.slice.injEq] at hv
    exact ⟨g, hv.1, by omega⟩
theorem fr_sliceData {T x : _} {a : Addr} {n c : Nat} (ho : o.op = .call { callee := .builtin .unsafeSliceData, args := #[x], argTypes := #[T] }) (hx : ev env x = some (.slice (some a) n c)) (hc : c ≠ 0) : Free C o env m (.pointer (some a)) := by
  intro w0 w hr _
  have h := Lib.run_unsafeSliceData_row (P := C.P) w #[T] o.type a n c hc
  simp only [execOp, ho, resolve, invoke]
  simp [hr.ev hx, builtin, h]
theorem fr_sliceData_n {T x : _} {n c : Nat} (ho : o.op = .call { callee := .builtin .unsafeSliceData, args := #[x], argTypes := #[T] }) (hx : ev env x = some (.slice none n c)) : Free C o env m (.pointer none) := by
  intro w0 w hr _
  have h := Lib.run_unsafeSliceData_nil (P := C.P) w #[T] o.type n c
  simp only [execOp, ho, resolve, invoke]
  simp [hr.ev hx, builtin, h]
theorem fr_unsafeString_n {pt it p q} (ho : o.op = .call { callee := .builtin .unsafeString, args := #[p, q], argTypes := #[pt, it] }) {pp : Option Addr} (hp : ev env p = some (.pointer pp)) (hq : ev env q = some (.int .i64 0)) : Free C o env m (sv []) := by
  intro w0 w hr _
  have h := Lib.run_unsafeString_none (P := C.P) w pt it o.type pp
  simp only [execOp, ho, resolve, invoke]
  simp [hr.ev hp, hr.ev hq, builtin, h]
  rfl
theorem Holds.frz {base w0 w g n c E sz k xs} (h : Holds base w0 (.row (.slice (some ⟨g, 0, none⟩) n c) E sz n xs :: m) w) : Holds base w0 m (w.freeze ⟨g, 0, none⟩ k) := by
  have hall := h.all
  have hg0 := (Ent.holds.lt (hall _ (List.mem_cons_self ..)) g rfl)
  have hgr : w.grownBy (w.freeze ⟨g, 0, none⟩ k) (some g) := by
    unfold World.freeze
    split
    · exact ⟨rfl, rfl, rfl, Nat.le_refl _, fun _ _ _ => rfl⟩
    · exact ⟨rfl, rfl, rfl, by simp, fun j hj hne => by
        simp only [Array.getElem?_modify]
        rw [if_neg (by intro e; exact hne (by rw [e]))]⟩
  have hap := List.pairwise_cons.1 h.apart
  refine ⟨Lib.below_freeze h.below (p := ⟨g, 0, none⟩) hg0.1 k, h.le, fun e he => ?_, hap.2, h.others.trans (KeepsOthers.of_grownBy hgr fun j o' hj ho => (hall _ (List.mem_cons_self ..)).cells rfl j o' hj ho)⟩
  exact (hall e (List.mem_cons_of_mem _ he)).grown hgr (fun b hb heb => by
    obtain rfl := Option.some.inj heb
    exact hap.1 e he _ rfl hb)
/-- unsafe.String over a row of bytes: the row is given away. -/
theorem op_unsafeString {d i : Nat} {pt it p q U g c n : _} {l : List UInt8} {E} (ho : o.op = .call { callee := .builtin .unsafeString, args := #[p, q], argTypes := #[pt, it] })
    (hp : ev env p = some (.pointer (some ⟨g, 0, none⟩))) (hq : ev env q = some (.int .i64 n)) (hi : m[i]? = some (.row (.slice (some ⟨g, 0, none⟩) l.length c) E 1 l.length (l.flatMap eU))) (hn : n = (l.length : Int))
    (hpt : C.P.underlying pt = some (.pointer U)) (hU : U = E) (hc : C.P.cellsOf U = 1) (h0 : 0 < l.length) (hd : o.dst = some d) (hlt : Nat.blt d C.n = true)
    (h : K ((d, sv l) :: env) (m.eraseIdx i)) : Op1 C o env m K := by
  subst hn hU
  refine Op1.of_run hd hlt fun a w hr hh => ?_
  have hown := hh.all _ (List.mem_of_getElem? hi)
  have hown : w.ownsRow C.base U 1 (.slice (some ⟨g, 0, none⟩) l.length c) l.length (l.flatMap eU) := hown
  obtain ⟨hxs, ⟨hv, _⟩ | ⟨g', cap, cur, hv, hb, hg, hnc, hcm, hcs, ht⟩⟩ := hown
  · simp at hv
  simp only [Value.slice.injEq, Option.some.injEq, Addr.mk.injEq, and_true, true_and] at hv
  obtain ⟨rfl, rfl⟩ := hv
  have hmx : maxLen = 9223372036854775807 := rfl
  have hsh : w.shape? g = some (U, c) := by simp [World.shape?, hg]; omega
  have hget : ∀ j x, l[j]? = some x → w.cell? ((⟨g, 0, none⟩ : Addr).add j) = some (.int .u8 x.toNat) := fun j x hj => by
    have hjl := (List.getElem?_eq_some_iff.1 hj).1
    have := flat_get eU_len (0 : UInt8) l j 0 hjl (by omega)
    simp only [Nat.mul_one, Nat.add_zero] at this
    rw [← ht, List.getElem?_take] at this
    rw [if_pos (by omega)] at this
    have hx : l.getD j 0 = x := by simp [List.getD, hj]
    rw [hx] at this
    simp only [eU, List.getElem?_cons_zero] at this
    have h2 : cur[j]? = some (.int .u8 (x.toNat : Int)) := by rw [← Array.getElem?_toList]; exact this
    unfold World.cell? Addr.add
    by_cases hj0 : j = 0
    · subst hj0; simpa [hg] using h2
    · simpa [hj0, hg] using h2
  have hrun := Lib.run_unsafeString_row (P := C.P) w pt it o.type U hpt hc g c hsh l (by intro e; subst e; simp at h0) (by omega) (by omega) hget
  refine ⟨_, w.freeze ⟨g, 0, none⟩ l.length, _, ?_, ?_, h⟩
  · simp [execOp, ho, resolve, invoke, builtin, hr.ev hp, hr.ev hq, hrun]
  · have hp' : m.Perm (.row (.slice (some ⟨g, 0, none⟩) l.length c) U 1 l.length (l.flatMap eU) :: m.eraseIdx i) := by
      obtain ⟨hlt', hgi⟩ := List.getElem?_eq_some_iff.1 hi
      rw [← hgi]
      rw [List.eraseIdx_eq_take_drop_succ]
      have h9 : m = m.take i ++ m[i] :: m.drop (i + 1) := by rw [List.getElem_cons_drop, List.take_append_drop]
      exact (List.Perm.of_eq h9).trans List.perm_middle
    exact (hh.perm hp').frz
/-! ### The library's table of powers of ten -/
def TabO (P : Program) (w : World) : Prop := Lib.TabIs P w "internal/strconv.uint64pow10" .u64 Lib.pow10Tab
theorem TabO.below {P w w'} (h : TabO P w) (hb : Below w.heap.size w w') : TabO P w' := by
  unfold TabO Lib.TabIs World.var? at h ⊢
  cases hg : P.globalNamed "internal/strconv.uint64pow10" with
  | none => simp [hg] at h
  | some g =>
    simp only [hg, Option.bind_some] at h ⊢
    have hlt : g < w.heap.size := by
      rcases Nat.lt_or_ge g w.heap.size with h1 | h1
      · exact h1
      · rw [Array.getElem?_eq_none h1] at h; simp at h
    rw [hb.block g hlt]
    exact h
theorem below_grw (w : World) (k : Nat) (os : Array Obj) : Below w.heap.size w (Sort.grow (w.drewN k) os) :=
  ⟨rfl, rfl, rfl, by show w.heap.size ≤ (w.heap ++ os).size; rw [Array.size_append]; omega, fun j hj => by show (w.heap ++ os)[j]? = _; rw [Array.getElem?_append_left hj]⟩
theorem TabO.keep {P w0 m w} (h : TabO P w0) (hh : Holds w0.heap.size w0 m w) : TabO P w := h.below hh.below
theorem itoa_nn {n : Int} (h : 0 ≤ n) : Lib.itoa n = Lib.decDigits n.toNat := by unfold Lib.itoa; rw [if_neg (by omega)]
theorem itoa_pos (n : Int) : 1 ≤ (Lib.itoa n).length := by
  unfold Lib.itoa
  split
  · simp
  · rw [Lib.decDigits_length]; exact Lib.nDigits_pos _
theorem nDig_le : ∀ (k u : Nat), u < 10 ^ k → 1 ≤ k → Lib.nDigits u ≤ k
  | 0, _, _, h => absurd h (by omega)
  | k + 1, u, hu, _ => by
    by_cases h : u < 10
    · rw [Lib.nDigits_small h]; omega
    · rw [Lib.nDigits_big h]
      have hk : 1 ≤ k := by
        rcases k with _ | k
        · simp at hu; omega
        · omega
      have := nDig_le k (u / 10) (by rw [Nat.pow_succ] at hu; omega) hk
      omega
theorem itoa_le {n : Int} (h : -9223372036854775808 ≤ n ∧ n ≤ 9223372036854775807) : (Lib.itoa n).length ≤ 20 := by
  unfold Lib.itoa
  split
  · rw [List.length_cons, Lib.decDigits_length]
    have := nDig_le 19 n.natAbs (by omega) (by omega)
    omega
  · rw [Lib.decDigits_length]
    have := nDig_le 19 n.toNat (by omega) (by omega)
    omega
theorem itoa_one {n : Int} (h : 0 ≤ n) (h1 : n < 10) : Lib.itoa n = [UInt8.ofNat (48 + n % 10).toNat] := by
  rw [itoa_nn h, Lib.decDigits, dif_pos (by omega)]
  congr 2
  omega
theorem itoa_more {n : Int} (h : 0 ≤ n) (h1 : ¬ n < 10) : Lib.itoa n = Lib.itoa (n / 10) ++ [UInt8.ofNat (48 + n % 10).toNat] := by
  rw [itoa_nn h, itoa_nn (by omega), Lib.decDigits, dif_neg (by omega)]
  congr 3
  · omega
  · omega
theorem eU_one {x : Int} (h : 0 ≤ x ∧ x ≤ 255) : [Value.int .u8 x] = [UInt8.ofNat x.toNat].flatMap eU := by
  rw [List.flatMap_cons, List.flatMap_nil, List.append_nil]
  exact congrArg (· :: []) (b8_cell h)
theorem tS {a b : List UInt8} (h : a = b) : tupleOf [sv a] = sv b := by rw [h]; rfl
theorem vS {a b : List UInt8} (h : a = b) : sv a = sv b := by rw [h]
/-! ### Lines laid one behind the other -/
def joinT (f : Nat → List UInt8) : Nat → List UInt8
  | 0 => []
  | k + 1 => joinT f k ++ f k
theorem joinT_s (f : Nat → List UInt8) (k : Nat) : joinT f (k + 1) = joinT f k ++ f k := rfl
theorem joinT_le {f : Nat → List UInt8} {B : Nat} : ∀ (n : Nat), (∀ i, i < n → (f i).length ≤ B) → (joinT f n).length ≤ n * B
  | 0, _ => by simp [joinT]
  | n + 1, h => by
    rw [joinT, List.length_append, Nat.succ_mul]
    have := joinT_le n fun i hi => h i (by omega)
    have := h n (by omega)
    omega
theorem joinT_pos {f : Nat → List UInt8} (h : ∀ i, 1 ≤ (f i).length) : ∀ (n : Nat), 0 < n → 0 < (joinT f n).length
  | n + 1, _ => by rw [joinT, List.length_append]; have := h n; omega
end Go.Sx

/- Rows of strings; texts joined. -/
set_option linter.unusedVariables false
set_option linter.unusedSimpArgs false
namespace Go.Sx
open Go Go.RowKit
variable {C : Cx} {env env' : Env} {m m' : List Ent} {o : Oper} {K : Env → List Ent → Prop}
def eSt (l : List UInt8) : List Value := [sv l]
theorem eSt_len : ∀ l, (eSt l).length = 1 := fun _ => rfl
def mkB (l : List UInt8) : ByteArray := ⟨l.toArray⟩
theorem mkB_data (l : List UInt8) : (mkB l).data.toList = l := rfl
theorem mkB_map (xs : List (List UInt8)) : (xs.map mkB).map (·.data.toList) = xs := by
  rw [List.map_map]
  exact List.map_id _
theorem join_pre {w : World} {A : Option Addr} {xs : List (List UInt8)} (h : Rd w A (xs.flatMap eSt)) (h0 : 0 < xs.length) : ∃ bk o', A = some ⟨bk, o', none⟩ ∧ bk < w.heap.size ∧ ∀ (j : Nat) x, (xs.map mkB)[j]? = some x → w.cell? ⟨bk, o' + j, none⟩ = some (.string x) := by
  have hget : ∀ j (hj : j < xs.length), (xs.flatMap eSt)[j]? = some (sv (xs.getD j [])) := fun j hj => by
    have := flat_get eSt_len ([] : List UInt8) xs j 0 hj (by omega)
    simp only [Nat.mul_one, Nat.add_zero] at this
    rw [this]; rfl
  obtain ⟨⟨bk, o', sp⟩, rfl, hc⟩ := h 0 _ (hget 0 h0)
  have hz : (⟨bk, o', sp⟩ : Addr).add 0 = ⟨bk, o', sp⟩ := by unfold Addr.add; simp
  rw [hz] at hc
  have hsp : sp = none := by simpa using World.cell?_spot hc
  subst hsp
  refine ⟨bk, o', rfl, World.block_lt_of_cell? _ _ hc, fun j x hx => ?_⟩
  have hj : j < xs.length := by have := (List.getElem?_eq_some_iff.1 hx).1; simpa using this
  obtain ⟨ad, e1, hc'⟩ := h j _ (hget j hj)
  obtain rfl := Option.some.inj e1
  rw [add_at] at hc'
  rw [hc']
  rw [List.getElem?_map] at hx
  have hg : xs[j]? = some xs[j] := List.getElem?_eq_getElem hj
  rw [hg] at hx
  simp only [Option.map_some, Option.some.injEq] at hx
  rw [← hx]
  simp [List.getD, hj, sv, mkB]
theorem row_cap' {i n c sz : Nat} {A : Option Addr} {E xs} (hi : m[i]? = some (.row (.slice A n c) E sz n xs)) : ∀ w, Holds C.base C.w0 m w → n ≤ c := fun w hw => by
  have h := hw.all _ (List.mem_of_getElem? hi)
  rcases h.2 with ⟨hv, h0⟩ | ⟨g, cap, cur, hv, _, _, hc, _⟩
  · omega
  · simp only [Value.slice.injEq] at hv
    omega
theorem agS {a b : List UInt8} (h : a = b) : (some (sv a) : Option Value) = some (sv b) := by rw [h]
theorem itoa_neg {n : Int} (h : n < 0) : Lib.itoa n = 45 :: Lib.itoa (-n) := by
  rw [itoa_nn (n := -n) (by omega)]
  unfold Lib.itoa
  rw [if_pos h]
  congr 2
  omega
end Go.Sx

/- The text of digits. -/
set_option linter.unusedVariables false
namespace Go.W
open Go Go.Sx
/-- The first k parts. -/
def partsF (f : Nat → List UInt8) (k : Nat) : List (List UInt8) := (List.range k).map f
theorem partsF_len (f : Nat → List UInt8) (k : Nat) : (partsF f k).length = k := by simp [partsF]
theorem partsF_s (f : Nat → List UInt8) (k : Nat) : partsF f (k + 1) = partsF f k ++ [f k] := by simp [partsF, List.range_succ]
theorem joinTail_snoc (sep : List UInt8) (r : List (List UInt8)) (x : List UInt8) : Lib.joinTail sep (r ++ [x]) = Lib.joinTail sep r ++ (sep ++ x) := by simp [Lib.joinTail]
theorem join_snoc {xs : List (List UInt8)} (h : xs ≠ []) (x sep : List UInt8) : Lib.join (xs ++ [x]) sep = Lib.join xs sep ++ sep ++ x := by
  cases xs with
  | nil => exact absurd rfl h
  | cons y r => rw [List.cons_append, Lib.join_cons, Lib.join_cons, joinTail_snoc, List.append_assoc, List.append_assoc]
/-- The parts joined by one that lays them one behind the other, a separator behind each but the last of n. -/
def sepT (f : Nat → List UInt8) (sep : List UInt8) (n k : Nat) : List UInt8 := if k = 0 then [] else Lib.join (partsF f k) sep ++ (if k < n then sep else [])
theorem sepT_0 (f : Nat → List UInt8) (sep : List UInt8) (n : Nat) : sepT f sep n 0 = [] := rfl
theorem sepT_mid {f : Nat → List UInt8} {sep : List UInt8} {n k : Nat} (h : k < n) : Lib.join (partsF f (k + 1)) sep = sepT f sep n k ++ f k := by
  unfold sepT
  by_cases h0 : k = 0
  · subst h0
    rw [if_pos rfl]
    show Lib.join [f 0] sep = _
    rw [Lib.join_one]; rfl
  · rw [if_neg h0, if_pos h, partsF_s, join_snoc (by intro e; have := partsF_len f k; rw [e] at this; simp at this; omega)]
theorem sepT_s {f : Nat → List UInt8} {sep : List UInt8} {n k : Nat} (h : k + 1 < n) : sepT f sep n (k + 1) = sepT f sep n k ++ f k ++ sep := by
  rw [← sepT_mid (by omega : k < n)]
  show (if k + 1 = 0 then _ else _) = _
  rw [if_neg (by omega), if_pos h]
theorem sepT_l {f : Nat → List UInt8} {sep : List UInt8} {n k : Nat} (h : k + 1 = n) : sepT f sep n (k + 1) = sepT f sep n k ++ f k := by
  rw [← sepT_mid (by omega : k < n)]
  show (if k + 1 = 0 then _ else _) = _
  rw [if_neg (by omega), if_neg (by omega), List.append_nil]
theorem sepT_end {f : Nat → List UInt8} {sep : List UInt8} {n : Nat} : sepT f sep n n = Lib.join (partsF f n) sep := by
  unfold sepT
  split
  · rename_i h; subst h; rfl
  · rw [if_neg (by omega), List.append_nil]
theorem sepT_le {f : Nat → List UInt8} {sep : List UInt8} {B n : Nat} (hf : ∀ i, i < n → (f i).length ≤ B) : ∀ k, k ≤ n → (sepT f sep n k).length ≤ k * (B + sep.length)
  | 0, _ => by simp [sepT]
  | k + 1, h => by
    have ih := sepT_le (sep := sep) hf k (by omega)
    have h1 := hf k (by omega)
    rw [Nat.succ_mul]
    rcases Nat.lt_or_ge (k + 1) n with h2 | h2
    · rw [sepT_s h2, List.length_append, List.length_append]; omega
    · rw [sepT_l (by omega), List.length_append]; omega
/-! ### A digit, the digits -/
def dgT (b d : Int) : List UInt8 := if 10 < b ∧ d < 10 then 48 :: Lib.itoa d else Lib.itoa d
theorem dgT_t {b d : Int} (h : 10 < b) (h1 : d < 10) : [48] ++ Lib.itoa d = dgT b d := by unfold dgT; rw [if_pos ⟨h, h1⟩]; rfl
theorem dgT_f {b d : Int} (h : ¬ (10 < b ∧ d < 10)) : Lib.itoa d = dgT b d := by unfold dgT; rw [if_neg h]
theorem itoa_len1 {d : Int} (h : 0 ≤ d) (h1 : d < 10) : (Lib.itoa d).length = 1 := by rw [itoa_one h h1]; rfl
theorem itoa_len2 {d : Int} (h : 10 ≤ d) (h1 : d < 100) : (Lib.itoa d).length = 2 := by
  rw [itoa_more (by omega) (by omega), List.length_append, itoa_len1 (by omega) (by omega)]; rfl
theorem dgT_le {b d : Int} (h : 0 ≤ d) (h1 : d < 100) : (dgT b d).length ≤ 2 := by
  unfold dgT
  split
  · rename_i h2; rw [List.length_cons, itoa_len1 h h2.2]; omega
  · rcases Int.lt_or_le d 10 with h2 | h2
    · rw [itoa_len1 h h2]; omega
    · rw [itoa_len2 h2 h1]; omega
theorem dgT_pos (b d : Int) : 1 ≤ (dgT b d).length := by
  unfold dgT
  split
  · simp
  · exact itoa_pos d
/-- The part of place j, from the top. -/
def dpart (s l : List Int) (j : Nat) : List UInt8 := dgT (s.getD (s.length - 1 - j) 0) (l.getD (s.length - 1 - j) 0)
def digT (s l : List Int) : List UInt8 := Lib.join (partsF (dpart s l) s.length) [58]
def digTx (s l : List Int) : List UInt8 := if (validStack s && validDig s l) = true then digT s l else []
theorem digTx_f {s l : List Int} (h : (validStack s && validDig s l) = false) : digTx s l = [] := by unfold digTx; rw [if_neg (by simp [h])]
theorem digTx_t {s l : List Int} (h : (validStack s && validDig s l) = true) : digTx s l = digT s l := by unfold digTx; rw [if_pos h]
theorem dpart_le {s l : List Int} (hs : Stk s) (hd : DigOk s l) {j : Nat} (hj : j < s.length) : (dpart s l j).length ≤ 2 := by
  have h1 := hs.bases (s.length - 1 - j) (by omega)
  have h2 := hd (s.length - 1 - j) (by omega)
  exact dgT_le h2.1 (by omega)
theorem sepD_le {s l : List Int} (hs : Stk s) (hd : DigOk s l) {k : Nat} (hk : k ≤ s.length) : (sepT (dpart s l) [58] s.length k).length ≤ 24 := by
  have h1 := sepT_le (f := dpart s l) (sep := [58]) (B := 2) (n := s.length) (fun i hi => dpart_le hs hd hi) k hk
  have h2 := hs.len8
  simp only [List.length_cons, List.length_nil] at h1
  omega
theorem digT_le {s l : List Int} (hs : Stk s) (hd : DigOk s l) : (digT s l).length ≤ 24 := by
  unfold digT
  rw [← sepT_end]
  exact sepD_le hs hd (Nat.le_refl _)
end Go.W
namespace Go.W
open Go Go.Sx
def padT (n d : Int) : List UInt8 := (if max 0 (d - ((Lib.itoa n).length : Int)) = 1 then [48] else []) ++ Lib.itoa n
theorem pad_dg {b d : Int} (hb : 2 ≤ b ∧ b ≤ 100) (hd : 0 ≤ d ∧ d < b) : ((Lib.itoa (b - 1)).length : Int) ≤ (Lib.itoa d).length + 1 ∧ padT d ((Lib.itoa (b - 1)).length : Int) = dgT b d := by
  unfold padT dgT
  rcases Int.lt_or_le d 10 with h1 | h1
  · rw [itoa_len1 hd.1 h1]
    rcases Int.lt_or_le (b - 1) 10 with h2 | h2
    · rw [itoa_len1 (by omega) h2, if_neg (by omega), if_neg (by omega)]
      exact ⟨by omega, rfl⟩
    · rw [itoa_len2 h2 (by omega), if_pos (by omega), if_pos ⟨by omega, h1⟩]
      exact ⟨by omega, rfl⟩
  · rw [itoa_len2 h1 (by omega), itoa_len2 (d := b - 1) (by omega) (by omega), if_neg (by omega), if_neg (by omega)]
    exact ⟨by omega, rfl⟩
end Go.W

/- The text of totals. -/
set_option linter.unusedVariables false
namespace Go.W
open Go Go.Sx
/-- A builder in a loop: how far, whether it was written, where its bytes lie. -/
structure BdS where
  k : Nat
  u : Bool
  A : Option Addr
  c : Nat
def tlin (x : VP) : List UInt8 := Lib.itoa x.a ++ [32] ++ Lib.itoa x.b ++ [10]
def tText (l : List VP) (k : Nat) : List UInt8 := joinT (fun i => tlin (l.getD i zP)) k
def totTx (l : List VP) : List UInt8 := if validTot l = true then tText l l.length else []
theorem totTx_f {l : List VP} (h : validTot l = false) : totTx l = [] := by unfold totTx; rw [if_neg (by simp [h])]
theorem totTx_t {l : List VP} (h : validTot l = true) : totTx l = tText l l.length := by unfold totTx; rw [if_pos h]
theorem tlin_le {x : VP} (ha : 0 ≤ x.a ∧ x.a ≤ 100000) (hb : 0 ≤ x.b ∧ x.b ≤ 1000000000000) : (tlin x).length ≤ 42 := by
  have h1 := itoa_le (n := x.a) (by omega)
  have h2 := itoa_le (n := x.b) (by omega)
  simp only [tlin, List.length_append, List.length_cons, List.length_nil]
  omega
theorem tText_le {l : List VP} (h : Tot l) {k : Nat} (hk : k ≤ l.length) : (tText l k).length ≤ 2520 := by
  have h1 := joinT_le (f := fun i => tlin (l.getD i zP)) (B := 42) k fun i hi => tlin_le (h.day i (by omega)) (h.cnt i (by omega))
  have h2 := h.len
  unfold tText
  omega
theorem tText_pos {l : List VP} {k : Nat} (hk : 0 < k) : tText l k ≠ [] := by
  have := joinT_pos (f := fun i => tlin (l.getD i zP)) (fun i => by simp only [tlin, List.length_append, List.length_cons, List.length_nil]; omega) k hk
  intro h
  unfold tText at h
  rw [h] at this
  simp at this
end Go.W

/- The texts of a ticket and of a log. -/
set_option linter.unusedVariables false
namespace Go.W
open Go Go.Sx
def ticT (s : List Int) (t : VTic) : List UInt8 := Lib.itoa t.number ++ [32] ++ digT s t.shows.l ++ [32] ++ Lib.itoa t.check
def ticTx (s : List Int) (t : VTic) : List UInt8 := if validStack s = true ∧ genT s t = true then ticT s t else []
theorem ticTx_0 {s : List Int} {t : VTic} (h : validStack s = false) : ticTx s t = [] := if_neg (by simp [h])
theorem ticTx_1 {s : List Int} {t : VTic} (h : genT s t = false) : ticTx s t = [] := if_neg (by simp [h])
theorem ticTx_t {s : List Int} {t : VTic} (h : validStack s = true) (h1 : genT s t = true) : ticTx s t = ticT s t := if_pos ⟨h, h1⟩
theorem gen_of {s : List Int} {t : VTic} (h : genT s t = true) : (1 ≤ t.number ∧ t.number ≤ 1000000) ∧ validDig s t.shows.l = true ∧ t.check = check t.number t.shows.l := of_decide_eq_true h
def dsv (s : List Int) (v : Int) : List Int := (dig (digs s v)).l
def logLn (s : List Int) (x : VP) : List UInt8 := Lib.itoa x.a ++ [32] ++ digT s (dsv s x.b) ++ [10]
def lText (s : List Int) (l : List VP) (k : Nat) : List UInt8 := joinT (fun i => logLn s (l.getD i zP)) k
def logTx (s : List Int) (l : List VP) : List UInt8 := if validLog s l = true then lText s l l.length else []
theorem logTx_f {s : List Int} {l : List VP} (h : validLog s l = false) : logTx s l = [] := if_neg (by simp [h])
theorem logTx_t {s : List Int} {l : List VP} (h : validLog s l = true) : logTx s l = lText s l l.length := if_pos h
theorem dsv_num {s : List Int} (h : Stk s) (v : Int) : Nums 255 (dsv s v) := by unfold dsv; rw [dig_l (digs_len _ _)]; exact digs_num h.bases
theorem dsv_valid {s : List Int} (h : Stk s) (v : Int) : validDig s (dsv s v) = true := by unfold dsv; rw [dig_l (digs_len _ _)]; exact digs_valid h
theorem dsv_tx {s : List Int} (hv : validStack s = true) (v : Int) : digTx s (dsv s v) = digT s (dsv s v) := digTx_t (by rw [hv, dsv_valid (stk hv)]; rfl)
theorem dsv_le {s : List Int} (hv : validStack s = true) (v : Int) : (digT s (dsv s v)).length ≤ 24 := digT_le (stk hv) (digOk (stk hv).len8 (dsv_num (stk hv) v) (dsv_valid (stk hv) v))
theorem lText_le {s : List Int} {l : List VP} (hv : validStack s = true) (hl : l.length ≤ 1000) (hd : ∀ i, i < l.length → -9223372036854775808 ≤ (l.getD i zP).a ∧ (l.getD i zP).a ≤ 9223372036854775807) {k : Nat} (hk : k ≤ l.length) : (lText s l k).length ≤ 46000 := by
  have h1 := joinT_le (f := fun i => logLn s (l.getD i zP)) (B := 46) k fun i hi => by
    have h2 := itoa_le (hd i (by omega))
    have h3 := dsv_le hv (l.getD i zP).b
    simp only [logLn, List.length_append, List.length_cons, List.length_nil]
    omega
  unfold lText
  omega
theorem lText_pos {s : List Int} {l : List VP} {k : Nat} (hk : 0 < k) : lText s l k ≠ [] := by
  have := joinT_pos (f := fun i => logLn s (l.getD i zP)) (fun i => by simp only [logLn, List.length_append, List.length_cons, List.length_nil]; omega) k hk
  intro h
  unfold lText at h
  rw [h] at this
  simp at this
theorem lText_s (s : List Int) (l : List VP) (k : Nat) : lText s l (k + 1) = lText s l k ++ (Lib.itoa (l.getD k zP).a ++ [32] ++ digT s (dsv s (l.getD k zP).b) ++ [10]) := rfl
end Go.W

/- Numbers read from their texts. -/
set_option linter.unusedVariables false
set_option linter.unusedSimpArgs false
namespace Go.W
open Go Go.Sx
def isDig (c : UInt8) : Prop := 48 ≤ c.toNat ∧ c.toNat ≤ 57
def numV (t : List UInt8) : Nat := t.foldl (fun a c => 10 * a + (c.toNat - 48)) 0
theorem numV_snoc (t : List UInt8) (c : UInt8) : numV (t ++ [c]) = 10 * numV t + (c.toNat - 48) := by simp [numV, List.foldl_append]
/-- What a text of a number is: digits, at least one, no nought ahead of another digit. -/
def numOk (t : List UInt8) : Prop := t ≠ [] ∧ (∀ c ∈ t, isDig c) ∧ (t.length = 1 ∨ t.getD 0 0 ≠ 48)
theorem u8_eq {c : UInt8} {n : Nat} (h : n < 256) (e : c.toNat = n) : UInt8.ofNat n = c := by
  apply UInt8.toNat_inj.1
  rw [UInt8.toNat_ofNat']
  omega
theorem itoa_numV : ∀ (k : Nat) (t : List UInt8), t.length = k → numOk t → Lib.itoa (numV t : Int) = t
  | 0, t, hk, h => absurd (List.eq_nil_of_length_eq_zero hk) h.1
  | k + 1, t, hk, h => by
    have hne := h.1
    obtain ⟨u, c, rfl⟩ : ∃ u c, t = u ++ [c] := ⟨t.dropLast, t.getLast hne, (List.dropLast_concat_getLast hne).symm⟩
    have hc : isDig c := h.2.1 c (by simp)
    have hul : u.length = k := by simpa using hk
    rw [numV_snoc]
    unfold isDig at hc
    rcases u with _ | ⟨a, r⟩
    · rw [itoa_one (by simp [numV] <;> omega) (by simp [numV] <;> omega)]
      simp only [List.nil_append]
      congr 1
      exact u8_eq (by simp [numV] <;> omega) (by simp [numV] <;> omega)
    · have h0 : (a :: r).getD 0 0 ≠ 48 := by
        rcases h.2.2 with h1 | h1
        · simp at h1
        · simpa using h1
      have hu : numOk (a :: r) := ⟨by simp, fun x hx => h.2.1 x (List.mem_append_left _ hx), .inr h0⟩
      have ih := itoa_numV k (a :: r) hul hu
      have hpos : 1 ≤ numV (a :: r) := by
        rcases Nat.eq_zero_or_pos (numV (a :: r)) with h1 | h1
        · exfalso
          rw [h1] at ih
          rw [itoa_one (by decide) (by decide)] at ih
          simp at ih
          exact h0 (by simp [← ih.1])
        · exact h1
      rw [itoa_more (by omega) (by omega)]
      have e1 : ((10 * numV (a :: r) + (c.toNat - 48) : Nat) : Int) / 10 = (numV (a :: r) : Int) := by omega
      rw [e1, ih]
      congr 2
      exact u8_eq (by omega) (by omega)
theorem numV_one {c : UInt8} : numV [c] = c.toNat - 48 := by simp [numV]
theorem u8_nat {n : Nat} (h : n < 256) : (UInt8.ofNat n).toNat = n := by rw [UInt8.toNat_ofNat']; omega
theorem itoa_ok : ∀ (k : Nat) (n : Int), n.toNat = k → 0 ≤ n → numOk (Lib.itoa n) ∧ (numV (Lib.itoa n) : Int) = n := by
  intro k
  induction k using Nat.strongRecOn with
  | ind k ih =>
    intro n hk h0
    by_cases h1 : n < 10
    · rw [itoa_one h0 h1]
      have e := u8_nat (n := (48 + n % 10).toNat) (by omega)
      refine ⟨⟨by simp, fun c hc => ?_, .inl rfl⟩, ?_⟩
      · rw [List.mem_singleton] at hc
        subst hc
        unfold isDig
        rw [e]; omega
      · rw [numV_one, e]; omega
    · rw [itoa_more h0 h1]
      obtain ⟨i1, i2⟩ := ih (n / 10).toNat (by omega) (n / 10) rfl (by omega)
      have e := u8_nat (n := (48 + n % 10).toNat) (by omega)
      refine ⟨⟨by simp, fun c hc => ?_, .inr ?_⟩, ?_⟩
      · rcases List.mem_append.1 hc with hc | hc
        · exact i1.2.1 c hc
        · rw [List.mem_singleton] at hc
          subst hc
          unfold isDig
          rw [e]; omega
      · rcases i1.2.2 with h2 | h2
        · have h3 := itoa_len_one h2 (by omega)
          rw [h3]
          show (UInt8.ofNat (48 + (n / 10) % 10).toNat) ≠ 48
          intro h4
          have h5 := congrArg UInt8.toNat h4
          rw [u8_nat (by omega)] at h5
          simp at h5
          have h6 : n / 10 < 10 := itoa_len_lt h2 (by omega)
          omega
        · have hne := i1.1
          cases hL : Lib.itoa (n / 10) with
          | nil => exact absurd hL hne
          | cons a r => rw [hL] at h2; simpa using h2
      · rw [numV_snoc, e]; omega
where
  itoa_len_lt {m : Int} (h : (Lib.itoa m).length = 1) (h0 : 0 ≤ m) : m < 10 := by
    rcases Int.lt_or_le m 10 with h1 | h1
    · exact h1
    · rw [itoa_more h0 (by omega), List.length_append] at h
      have := itoa_pos (m / 10)
      simp at h
      rw [h] at this
      simp at this
  itoa_len_one {m : Int} (h : (Lib.itoa m).length = 1) (h0 : 0 ≤ m) : Lib.itoa m = [UInt8.ofNat (48 + m % 10).toNat] := itoa_one h0 (itoa_len_lt h h0)
end Go.W

/- Texts cut at a byte. -/
set_option linter.unusedVariables false
set_option linter.unusedSimpArgs false
namespace Go.W
open Go Go.Sx
/-- The pieces of a text behind a piece that has begun. -/
def splitA (c : UInt8) : List UInt8 → List UInt8 → List (List UInt8)
  | acc, [] => [acc]
  | acc, x :: r => if x = c then acc :: splitA c [] r else splitA c (acc ++ [x]) r
theorem splitA_nil (c : UInt8) (acc : List UInt8) : splitA c acc [] = [acc] := rfl
theorem splitA_y {c x : UInt8} {acc r : List UInt8} (h : x = c) : splitA c acc (x :: r) = acc :: splitA c [] r := if_pos h
theorem splitA_n {c x : UInt8} {acc r : List UInt8} (h : ¬ x = c) : splitA c acc (x :: r) = splitA c (acc ++ [x]) r := if_neg h
theorem splitA_ne (c : UInt8) : ∀ (s acc : List UInt8), splitA c acc s ≠ []
  | [], acc => by simp [splitA]
  | x :: r, acc => by
    unfold splitA
    split
    · simp
    · exact splitA_ne c r _
theorem index_cons (c b : UInt8) (l : List UInt8) : Lib.index (b :: l) [c] = if b = c then 0 else if Lib.index l [c] = -1 then -1 else Lib.index l [c] + 1 := by
  show (if [c].isPrefixOf (b :: l) then (0 : Int) else if Lib.index l [c] == -1 then -1 else Lib.index l [c] + 1) = _
  by_cases h : b = c
  · subst h; simp [List.isPrefixOf]
  · have h' : ¬ c = b := fun e => h e.symm
    simp [List.isPrefixOf, h, h']
theorem splitA_idx (c : UInt8) : ∀ (s acc : List UInt8), (Lib.index s [c] = -1 → splitA c acc s = [acc ++ s]) ∧ ∀ i : Nat, Lib.index s [c] = i → splitA c acc s = (acc ++ s.take i) :: splitA c [] (s.drop (i + 1))
  | [], acc => ⟨fun _ => by simp [splitA], fun i h => by
    have : Lib.index [] [c] = -1 := rfl
    omega⟩
  | x :: r, acc => by
    rw [index_cons]
    by_cases hx : x = c
    · rw [if_pos hx, splitA_y hx]
      refine ⟨fun h => absurd h (by decide), fun i h => ?_⟩
      obtain rfl : i = 0 := by omega
      simp
    · rw [if_neg hx, splitA_n hx]
      obtain ⟨h1, h2⟩ := splitA_idx c r (acc ++ [x])
      by_cases hi : Lib.index r [c] = -1
      · rw [if_pos hi]
        refine ⟨fun _ => by rw [h1 hi]; simp, fun i h => by omega⟩
      · rw [if_neg hi]
        have hg := Lib.index_ge r [c]
        refine ⟨fun h => by omega, fun i h => ?_⟩
        obtain ⟨j, rfl⟩ : ∃ j, i = j + 1 := ⟨i - 1, by omega⟩
        rw [h2 j (by omega)]
        simp
/-- The library's pieces are these. -/
theorem splitK_eq (c : UInt8) : ∀ (k : Nat) (s : List UInt8), Lib.count s [c] = k → Lib.splitK [c] 0 k s = splitA c [] s := by
  intro k
  induction k with
  | zero =>
    intro s h
    rcases Int.lt_or_le (Lib.index s [c]) 0 with h1 | h1
    · have hm : Lib.index s [c] = -1 := by have := Lib.index_ge s [c]; omega
      rw [(splitA_idx c s []).1 hm]; rfl
    · obtain ⟨i, hi⟩ := Int.eq_ofNat_of_zero_le h1
      have := Lib.count_hit (sub := [c]) (by simp) hi
      omega
  | succ k ih =>
    intro s h
    rcases Int.lt_or_le (Lib.index s [c]) 0 with h1 | h1
    · have hm : Lib.index s [c] = -1 := by have := Lib.index_ge s [c]; omega
      rw [Lib.count_miss hm] at h
      omega
    · obtain ⟨i, hi⟩ := Int.eq_ofNat_of_zero_le h1
      have hc := Lib.count_hit (sub := [c]) (by simp) hi
      have hn : ¬ (Lib.index s [c] == -1) = true := fun e => by have := beq_iff_eq.1 e; omega
      rw [(splitA_idx c s []).2 i hi, Lib.splitK, if_neg hn]
      have e : (Lib.index s [c]).toNat = i := by omega
      rw [e]
      simp only [List.length_cons, List.length_nil, Nat.zero_add] at hc ⊢
      rw [ih _ (by omega)]
      simp
theorem split_eq (c : UInt8) (s : List UInt8) : Lib.split s [c] = splitA c [] s := splitK_eq c _ s rfl
theorem join_cons2 (x y : List UInt8) (r : List (List UInt8)) (sep : List UInt8) : Lib.join (x :: y :: r) sep = x ++ sep ++ Lib.join (y :: r) sep := by
  rw [Lib.join_cons, Lib.join_cons]
  simp [Lib.joinTail]
theorem join_split (c : UInt8) : ∀ (s acc : List UInt8), Lib.join (splitA c acc s) [c] = acc ++ s
  | [], acc => by rw [splitA_nil, Lib.join_one, List.append_nil]
  | x :: r, acc => by
    by_cases hx : x = c
    · rw [splitA_y hx]
      have ih := join_split c r []
      cases hs : splitA c [] r with
      | nil => exact absurd hs (splitA_ne c r [])
      | cons y ys =>
        rw [hs] at ih
        rw [join_cons2, ih, hx]
        simp
    · rw [splitA_n hx, join_split c r (acc ++ [x])]
      simp
theorem split_no (c : UInt8) : ∀ (s acc : List UInt8), c ∉ acc → ∀ p ∈ splitA c acc s, c ∉ p
  | [], acc, h, p, hp => by
    rw [splitA_nil, List.mem_singleton] at hp
    subst hp; exact h
  | x :: r, acc, h, p, hp => by
    by_cases hx : x = c
    · rw [splitA_y hx, List.mem_cons] at hp
      rcases hp with rfl | hp
      · exact h
      · exact split_no c r [] (by simp) p hp
    · rw [splitA_n hx] at hp
      exact split_no c r _ (by
        rw [List.mem_append, List.mem_singleton]
        rintro (h1 | h1)
        · exact h h1
        · exact hx h1.symm) p hp
theorem splitA_piece {c : UInt8} : ∀ (x acc r : List UInt8), c ∉ x → splitA c acc (x ++ c :: r) = (acc ++ x) :: splitA c [] r
  | [], acc, r, _ => by rw [List.nil_append, splitA_y rfl, List.append_nil]
  | a :: x, acc, r, h => by
    rw [List.mem_cons, not_or] at h
    rw [List.cons_append, splitA_n (fun e => h.1 e.symm), splitA_piece x _ r h.2]
    simp
theorem splitA_last {c : UInt8} : ∀ (x acc : List UInt8), c ∉ x → splitA c acc x = [acc ++ x]
  | [], acc, _ => by rw [splitA_nil, List.append_nil]
  | a :: x, acc, h => by
    rw [List.mem_cons, not_or] at h
    rw [splitA_n (fun e => h.1 e.symm), splitA_last x _ h.2]
    simp
/-- What is joined comes apart again. -/
theorem split_join {c : UInt8} : ∀ (xs : List (List UInt8)), xs ≠ [] → (∀ x ∈ xs, c ∉ x) → splitA c [] (Lib.join xs [c]) = xs
  | [], h, _ => absurd rfl h
  | [x], _, h => by rw [Lib.join_one, splitA_last x [] (h x (by simp))]; rfl
  | x :: y :: r, _, h => by
    rw [join_cons2, List.append_assoc]
    show splitA c [] (x ++ c :: ([] ++ Lib.join (y :: r) [c])) = _
    rw [splitA_piece x [] _ (h x (by simp)), List.nil_append, List.nil_append, split_join (y :: r) (by simp) (fun z hz => h z (List.mem_cons_of_mem _ hz))]
end Go.W

/- The library's numbers read back. -/
set_option linter.unusedVariables false
set_option linter.unusedSimpArgs false
namespace Go.W
open Go Go.Sx
def numF (a : Nat) (l : List UInt8) : Nat := l.foldl (fun a c => 10 * a + (c.toNat - 48)) a
theorem numF_ge : ∀ (l : List UInt8) (a : Nat), a ≤ numF a l
  | [], a => Nat.le_refl _
  | c :: r, a => by
    have := numF_ge r (10 * a + (c.toNat - 48))
    show a ≤ numF (10 * a + (c.toNat - 48)) r
    omega
theorem parse_digits : ∀ (l : List UInt8) (a : Nat), (∀ c ∈ l, isDig c) → numF a l ≤ 2 ^ 64 - 1 → Lib.parseUintM (2 ^ 64 - 1) a l = .ok (numF a l)
  | [], a, _, _ => rfl
  | c :: r, a, hd, hn => by
    have hc : isDig c := hd c (by simp)
    have e : numF a (c :: r) = numF (10 * a + (c.toNat - 48)) r := rfl
    rw [e] at hn ⊢
    have hg := numF_ge r (10 * a + (c.toNat - 48))
    unfold isDig at hc
    rw [Lib.parseUintM, if_pos hc, if_neg (by omega), if_neg (by omega), Nat.mul_comm a 10]
    exact parse_digits r _ (fun x hx => hd x (List.mem_cons_of_mem _ hx)) hn
theorem parse_nat {n : Int} (h : 0 ≤ n) (h1 : n ≤ 9223372036854775808) : Lib.parseUintB 64 (Lib.itoa n) = .ok n.toNat := by
  obtain ⟨hk, hv⟩ := itoa_ok _ n rfl h
  unfold Lib.parseUintB
  rw [if_neg hk.1]
  have e : numF 0 (Lib.itoa n) = numV (Lib.itoa n) := rfl
  rw [parse_digits _ 0 hk.2.1 (by rw [e]; omega), e]
  congr 1
  omega
/-- A number's text is read as the number. -/
theorem parse_itoa {n : Int} (h : -9223372036854775808 ≤ n ∧ n ≤ 9223372036854775807) : Lib.parseIntB 64 (Lib.itoa n) = .ok n := by
  by_cases h0 : n < 0
  · rw [itoa_neg h0]
    have hp := parse_nat (n := -n) (by omega) (by omega)
    unfold Lib.parseIntB
    have e1 : (45 : UInt8).toNat = 45 := by decide
    simp only [e1, or_true, if_true, hp]
    rw [if_neg (by simp), if_neg (by simp; omega)]
    congr 1
    omega
  · have hk := (itoa_ok _ n rfl (by omega)).1
    have hp := parse_nat (n := n) (by omega) (by omega)
    cases hL : Lib.itoa n with
    | nil => exact absurd hL hk.1
    | cons c r =>
      have hc : isDig c := hk.2.1 c (by rw [hL]; simp)
      unfold isDig at hc
      rw [hL] at hp
      unfold Lib.parseIntB
      have n43 : ¬ c.toNat = 43 := by omega
      have n45 : ¬ c.toNat = 45 := by omega
      simp only [n43, n45, or_self, if_false, hp]
      rw [if_neg (by omega), if_neg (by simp)]
      congr 1
      omega
/-- strings.Cut at one byte, by the pieces. -/
theorem cut_one {c : UInt8} {s p : List UInt8} (h : splitA c [] s = [p]) : (Lib.cut s [c]).1 = p ∧ (Lib.cut s [c]).2.1 = [] := by
  unfold Lib.cut
  rcases Int.lt_or_le (Lib.index s [c]) 0 with h1 | h1
  · have hm : Lib.index s [c] = -1 := by have := Lib.index_ge s [c]; omega
    rw [(splitA_idx c s []).1 hm] at h
    rw [if_neg (by omega)]
    simp at h
    exact ⟨h, rfl⟩
  · obtain ⟨i, hi⟩ := Int.eq_ofNat_of_zero_le h1
    rw [(splitA_idx c s []).2 i hi] at h
    simp only [List.cons.injEq] at h
    exact absurd h.2 (splitA_ne c _ _)
theorem cut_more {c : UInt8} {s p q : List UInt8} {r : List (List UInt8)} (h : splitA c [] s = p :: q :: r) : (Lib.cut s [c]).1 = p ∧ (Lib.cut s [c]).2.1 = Lib.join (q :: r) [c] := by
  unfold Lib.cut
  rcases Int.lt_or_le (Lib.index s [c]) 0 with h1 | h1
  · have hm : Lib.index s [c] = -1 := by have := Lib.index_ge s [c]; omega
    rw [(splitA_idx c s []).1 hm] at h
    simp at h
  · obtain ⟨i, hi⟩ := Int.eq_ofNat_of_zero_le h1
    rw [(splitA_idx c s []).2 i hi] at h
    simp only [List.cons.injEq] at h
    rw [if_pos h1]
    have e : (Lib.index s [c]).toNat = i := by omega
    rw [e]
    refine ⟨by have := h.1; simpa using this, ?_⟩
    have hj := join_split c (s.drop (i + 1)) []
    rw [h.2] at hj
    rw [hj]
    simp
end Go.W

/- The text of totals, read. -/
set_option linter.unusedVariables false
set_option linter.unusedSimpArgs false
namespace Go.W
open Go Go.Sx
theorem join_parts (f : Nat → List UInt8) (c : UInt8) : ∀ (k : Nat) (x : List UInt8), Lib.join (partsF f k ++ [x]) [c] = joinT (fun i => f i ++ [c]) k ++ x
  | 0, x => by
    show Lib.join [x] [c] = _
    rw [Lib.join_one]; rfl
  | k + 1, x => by
    rw [partsF_s, join_snoc (by simp), join_parts f c k (f k), joinT]
    simp
def tLn (x : VP) : List UInt8 := Lib.itoa x.a ++ [32] ++ Lib.itoa x.b
theorem tText_join (l : List VP) (k : Nat) : tText l k = Lib.join (partsF (fun i => tLn (l.getD i zP)) k ++ [[]]) [10] := by
  rw [join_parts]
  simp only [List.append_nil]
  rfl
theorem dig_no {t : List UInt8} {c : UInt8} (h : ∀ x ∈ t, isDig x) (hc : c.toNat < 48) : c ∉ t := fun hm => by
  have := (h c hm).1
  omega
theorem itoa_no {n : Int} {c : UInt8} (h : 0 ≤ n) (hc : c.toNat < 48) : c ∉ Lib.itoa n := dig_no (itoa_ok _ n rfl h).1.2.1 hc
theorem tLn_no {x : VP} (ha : 0 ≤ x.a) (hb : 0 ≤ x.b) : (10 : UInt8) ∉ tLn x := by
  have h1 := itoa_no (c := 10) ha (by decide)
  have h2 := itoa_no (c := 10) hb (by decide)
  simp [tLn, h1, h2]
theorem tLn_split {x : VP} (ha : 0 ≤ x.a) (hb : 0 ≤ x.b) : splitA 32 [] (tLn x) = [Lib.itoa x.a, Lib.itoa x.b] := by
  have h1 := itoa_no (c := 32) ha (by decide)
  have h2 := itoa_no (c := 32) hb (by decide)
  have e : tLn x = Lib.join [Lib.itoa x.a, Lib.itoa x.b] [32] := by rw [join_cons2, Lib.join_one]; rfl
  rw [e]
  exact split_join _ (by simp) (fun y hy => by
    simp only [List.mem_cons, List.not_mem_nil, or_false] at hy
    rcases hy with rfl | rfl
    · exact h1
    · exact h2)
/-- The lines of a text of totals. -/
theorem tText_lines {l : List VP} (h : Tot l) : splitA 10 [] (tText l l.length) = partsF (fun i => tLn (l.getD i zP)) l.length ++ [[]] := by
  rw [tText_join]
  refine split_join _ (by simp) fun x hx => ?_
  rcases List.mem_append.1 hx with hx | hx
  · obtain ⟨i, hi, rfl⟩ := List.mem_map.1 hx
    have hi := List.mem_range.1 hi
    exact tLn_no (h.day i hi).1 (h.cnt i hi).1
  · rw [List.mem_singleton] at hx
    subst hx; simp
end Go.W
namespace Go.W
open Go Go.Sx
instance isDigDec (c : UInt8) : Decidable (isDig c) := by unfold isDig; infer_instance
instance numOkDec (t : List UInt8) : Decidable (numOk t) := by unfold numOk; infer_instance
/-- A number of at most B digits, as the specification reads it. -/
def numR (B : Nat) (t : List UInt8) : Int × Bool := if numOk t ∧ t.length ≤ B then ((numV t : Int), true) else (0, false)
theorem numR_itoa {B : Nat} {n : Int} (h : 0 ≤ n) (h1 : n.toNat < 10 ^ B) (hB : 1 ≤ B) : numR B (Lib.itoa n) = (n, true) := by
  obtain ⟨hk, hv⟩ := itoa_ok _ n rfl h
  have hl : (Lib.itoa n).length ≤ B := by rw [itoa_nn h, Lib.decDigits_length]; exact nDig_le B _ h1 hB
  unfold numR
  rw [if_pos ⟨hk, hl⟩, hv]
theorem numR_true {B : Nat} {t : List UInt8} (h : (numR B t).2 = true) : t = Lib.itoa (numR B t).1 ∧ 0 ≤ (numR B t).1 := by
  unfold numR at h ⊢
  split at h
  · rename_i hk
    rw [if_pos hk]
    exact ⟨(itoa_numV _ t rfl hk.1).symm, by simp⟩
  · simp at h
/-- A line of totals. -/
def lineS (l : List UInt8) : Option VP := match splitA 32 [] l with
  | [a, b] => if (numR 13 a).2 = true ∧ (numR 13 b).2 = true then some ⟨(numR 13 a).1, (numR 13 b).1⟩ else none
  | _ => none
theorem lineS_some {l : List UInt8} {x : VP} (h : lineS l = some x) : l = tLn x ∧ 0 ≤ x.a ∧ 0 ≤ x.b := by
  unfold lineS at h
  split at h
  · rename_i a b hs
    split at h
    · rename_i hab
      obtain ⟨ha, ha0⟩ := numR_true hab.1
      obtain ⟨hb, hb0⟩ := numR_true hab.2
      have hj := join_split 32 l []
      rw [hs, join_cons2, Lib.join_one, List.nil_append] at hj
      obtain rfl := Option.some.inj h
      refine ⟨?_, ha0, hb0⟩
      unfold tLn
      rw [← hj]
      rw [← ha, ← hb]
    · cases h
  · cases h
theorem lineS_tLn {x : VP} (ha : 0 ≤ x.a ∧ x.a ≤ 100000) (hb : 0 ≤ x.b ∧ x.b ≤ 1000000000000) : lineS (tLn x) = some x := by
  unfold lineS
  rw [tLn_split ha.1 hb.1]
  simp only [numR_itoa ha.1 (by omega : x.a.toNat < 10 ^ 13) (by decide), numR_itoa hb.1 (by omega : x.b.toNat < 10 ^ 13) (by decide), and_self, if_true]
/-- What the specification reads, line by line. -/
def linesS : List (List UInt8) → Option (List VP)
  | [] => some []
  | l :: r => match lineS l, linesS r with
    | some x, some xs => some (x :: xs)
    | _, _ => none
theorem linesS_some : ∀ {ls : List (List UInt8)} {xs : List VP}, linesS ls = some xs → ls = xs.map tLn
  | [], xs, h => by obtain rfl := Option.some.inj h; rfl
  | l :: r, xs, h => by
    unfold linesS at h
    split at h
    · rename_i x ys h1 h2
      obtain rfl := Option.some.inj h
      rw [(lineS_some h1).1, linesS_some h2]; rfl
    · cases h
theorem linesS_map : ∀ {xs : List VP}, (∀ x ∈ xs, (0 ≤ x.a ∧ x.a ≤ 100000) ∧ 0 ≤ x.b ∧ x.b ≤ 1000000000000) → linesS (xs.map tLn) = some xs
  | [], _ => rfl
  | x :: r, h => by
    have h1 := lineS_tLn (h x (by simp)).1 (h x (by simp)).2
    have h2 := linesS_map (xs := r) fun y hy => h y (List.mem_cons_of_mem _ hy)
    rw [List.map_cons, linesS, h1, h2]
theorem partsF_map (l : List VP) : partsF (fun i => tLn (l.getD i zP)) l.length = l.map tLn := by
  unfold partsF
  apply List.ext_getElem
  · simp
  · intro i h1 h2
    simp at h1
    simp [List.getD, h1]
/-- The list that a text tells, if it tells one. -/
def totRd (t : List UInt8) : Option (List VP) := match (splitA 10 [] t).reverse with
  | [] :: r => match linesS r.reverse with
    | some xs => if validTot xs = true then some xs else none
    | none => none
  | _ => none
theorem totRd_some {t : List UInt8} {l : List VP} (h : totRd t = some l) : validTot l = true ∧ t = tText l l.length := by
  unfold totRd at h
  split at h
  · rename_i r hr
    split at h
    · rename_i xs hx
      split at h
      · rename_i hv
        obtain rfl := Option.some.inj h
        refine ⟨hv, ?_⟩
        have h1 := linesS_some hx
        have h2 : splitA 10 [] t = r.reverse ++ [[]] := by
          have := congrArg List.reverse hr
          simpa using this
        have hj := join_split 10 t []
        rw [h2, h1, ← partsF_map, ← tText_join, List.nil_append] at hj
        exact hj.symm
      · cases h
    · cases h
  · cases h
theorem totRd_text {l : List VP} (h : validTot l = true) : totRd (tText l l.length) = some l := by
  have hT := tot h
  unfold totRd
  rw [tText_lines hT, partsF_map, List.reverse_append]
  simp only [List.reverse_cons, List.reverse_nil, List.nil_append, List.singleton_append]
  have hl : linesS (l.map tLn) = some l := linesS_map fun x hx => by
    obtain ⟨i, hi, rfl⟩ := List.getElem_of_mem hx
    have h1 := hT.day i hi
    have h2 := hT.cnt i hi
    simp only [List.getD, List.getElem?_eq_getElem hi, Option.getD_some] at h1 h2
    exact ⟨h1, h2⟩
  simp only [List.reverse_reverse, hl, h, if_true]
end Go.W

/- Digits read from their texts: digits are read iff the text is theirs. -/
set_option linter.unusedVariables false
set_option linter.unusedSimpArgs false
namespace Go.W
open Go Go.Sx
theorem parse_digitsM {M : Nat} (hM : M ≤ 2 ^ 64 - 1) : ∀ (l : List UInt8) (a : Nat), (∀ c ∈ l, isDig c) → numF a l ≤ M → Lib.parseUintM M a l = .ok (numF a l)
  | [], a, _, _ => rfl
  | c :: r, a, hd, hn => by
    have hc : isDig c := hd c (by simp)
    have e : numF a (c :: r) = numF (10 * a + (c.toNat - 48)) r := rfl
    rw [e] at hn ⊢
    have hg := numF_ge r (10 * a + (c.toNat - 48))
    unfold isDig at hc
    rw [Lib.parseUintM, if_pos hc, if_neg (by omega), if_neg (by omega), Nat.mul_comm a 10]
    exact parse_digitsM hM r _ (fun x hx => hd x (List.mem_cons_of_mem _ hx)) hn
/-- What a digit's text is. -/
theorem dgT_dig {b d : Int} (h : 0 ≤ d) : ∀ c ∈ dgT b d, isDig c := fun c hc => by
  have hk := (itoa_ok _ d rfl h).1.2.1
  unfold dgT at hc
  split at hc
  · rw [List.mem_cons] at hc
    rcases hc with rfl | hc
    · exact ⟨by decide, by decide⟩
    · exact hk c hc
  · exact hk c hc
theorem dgT_val {b d : Int} (h : 0 ≤ d) : (numV (dgT b d) : Int) = d := by
  have hv := (itoa_ok _ d rfl h).2
  unfold dgT
  split
  · show ((numV (48 :: Lib.itoa d) : Nat) : Int) = d
    have e : numV (48 :: Lib.itoa d) = numV (Lib.itoa d) := rfl
    rw [e]; exact hv
  · exact hv
theorem dgT_ne {b d : Int} : dgT b d ≠ [] := fun e => by
  have := dgT_pos b d
  rw [e] at this
  simp at this
theorem dgT_inj {b d e : Int} (h : 0 ≤ d) (h1 : 0 ≤ e) (h2 : dgT b d = dgT b e) : d = e := by
  have a := dgT_val (b := b) h
  have c := dgT_val (b := b) h1
  rw [h2, c] at a
  exact a.symm
/-- A text that ParseUint reads as a number of seven bits. -/
def U7 (t : List UInt8) (u : Int) : Prop := 0 ≤ u ∧ u ≤ 127 ∧ Lib.parseUintB 7 t = .ok u.toNat
theorem dgT_U7 {b d : Int} (h : 0 ≤ d) (h1 : d ≤ 127) : U7 (dgT b d) d := by
  refine ⟨h, h1, ?_⟩
  have hv := dgT_val (b := b) h
  unfold Lib.parseUintB
  rw [if_neg dgT_ne]
  have e : numF 0 (dgT b d) = numV (dgT b d) := rfl
  rw [parse_digitsM (by decide) _ 0 (dgT_dig h) (by rw [e]; omega), e]
  congr 1
  omega
theorem U7_one {t : List UInt8} {u v : Int} (h : U7 t u) (h1 : U7 t v) : u = v := by
  obtain ⟨a, b, c⟩ := h
  obtain ⟨d, e, f⟩ := h1
  rw [c] at f
  injection f with f
  omega
/-- No digits have this text. -/
def NoDig (s : List Int) (t : List UInt8) : Prop := ∀ d : Dig, Nums 255 d.l → validDig s d.l = true → digT s d.l ≠ t
theorem dg_no {b d : Int} {c : UInt8} (h : 0 ≤ d) (hc : c.toNat < 48 ∨ 57 < c.toNat) : c ∉ dgT b d := fun hm => by
  have := dgT_dig h c hm
  unfold isDig at this
  omega
theorem dig_parts {s : List Int} {d : List Int} (hs : Stk s) (hd : DigOk s d) : splitA 58 [] (digT s d) = partsF (dpart s d) s.length := by
  unfold digT
  refine split_join _ (by intro e; have h1 := congrArg List.length e; rw [partsF_len] at h1; have h2 := hs.len1; rw [List.length_nil] at h1; omega) fun x hx => ?_
  obtain ⟨i, hi, rfl⟩ := List.mem_map.1 hx
  have hi := List.mem_range.1 hi
  have h2 := hd (s.length - 1 - i) (by omega)
  exact dg_no h2.1 (.inr (by decide))
theorem parts_getD (f : Nat → List UInt8) {k i : Nat} (h : i < k) : (partsF f k).getD i [] = f i := by
  simp [partsF, List.getD, h]
/-- The word that a digit has. -/
theorem dig_word {s : List Int} {t : List UInt8} {d : Dig} (hs : Stk s) (hn : Nums 255 d.l) (hv : validDig s d.l = true) (ht : digT s d.l = t) {j : Nat} (hj : j < s.length) : (splitA 58 [] t).getD (s.length - 1 - j) [] = dgT (s.getD j 0) (d.l.getD j 0) ∧ 0 ≤ d.l.getD j 0 ∧ d.l.getD j 0 < s.getD j 0 ∧ s.getD j 0 ≤ 100 := by
  have hd := digOk hs.len8 hn hv
  rw [← ht, dig_parts hs hd, parts_getD _ (by omega)]
  have h2 := hd j hj
  have h3 := hs.bases j hj
  refine ⟨?_, h2.1, h2.2, h3.2⟩
  unfold dpart
  rw [show s.length - 1 - (s.length - 1 - j) = j by omega]
theorem ndg_len {s : List Int} {t : List UInt8} (hs : Stk s) (h : (splitA 58 [] t).length ≠ s.length) : NoDig s t := fun d hn hv ht => by
  rw [← ht, dig_parts hs (digOk hs.len8 hn hv), partsF_len] at h
  exact h rfl
theorem ndg_byte {s : List Int} {t : List UInt8} {j k : Nat} (hs : Stk s) (hj : j < s.length) (hk : k < ((splitA 58 [] t).getD (s.length - 1 - j) []).length) (h : ¬ isDig (((splitA 58 [] t).getD (s.length - 1 - j) []).getD k 0)) : NoDig s t := fun d hn hv ht => by
  obtain ⟨h1, h2, h3, h4⟩ := dig_word hs hn hv ht hj
  rw [h1] at hk h
  refine h (dgT_dig (b := s.getD j 0) h2 _ ?_)
  generalize dgT (s.getD j 0) (d.l.getD j 0) = x at hk ⊢
  simp [List.getD, hk]
theorem ndg_big {s : List Int} {t : List UInt8} {j : Nat} {n : Int} (hs : Stk s) (hj : j < s.length) (hn : n = (numV (((splitA 58 [] t).getD (s.length - 1 - j) []).take 3) : Int)) (h : ¬ (n < s.getD j 0 ∧ dgT (s.getD j 0) n = (splitA 58 [] t).getD (s.length - 1 - j) [])) : NoDig s t := fun d hnu hv ht => by
  obtain ⟨h1, h2, h3, h4⟩ := dig_word hs hnu hv ht hj
  have hl := dgT_le (b := s.getD j 0) h2 (by omega)
  rw [h1, List.take_of_length_le (by omega), dgT_val h2] at hn
  subst hn
  exact h ⟨h3, h1.symm⟩
theorem ndg_err {s : List Int} {t : List UInt8} {j : Nat} (hs : Stk s) (hj : j < s.length) (h : ∀ u, ¬ U7 ((splitA 58 [] t).getD (s.length - 1 - j) []) u) : NoDig s t := fun d hn hv ht => by
  obtain ⟨h1, h2, h3, h4⟩ := dig_word hs hn hv ht hj
  rw [h1] at h
  exact h _ (dgT_U7 h2 (by omega))
/-- The digits of the places below k are as told, and all others nought. -/
def DigB (s : List Int) (t : List UInt8) (d : List Int) (k : Nat) : Prop := ∀ j, j < 8 → (j < k → dgT (s.getD j 0) (d.getD j 0) = (splitA 58 [] t).getD (s.length - 1 - j) [] ∧ 0 ≤ d.getD j 0 ∧ d.getD j 0 < s.getD j 0) ∧ (k ≤ j → d.getD j 0 = 0)
theorem digB_0 (s : List Int) (t : List UInt8) : DigB s t [0, 0, 0, 0, 0, 0, 0, 0] 0 := fun j hj => ⟨fun h => by omega, fun _ => by
  rcases j with _ | _ | _ | _ | _ | _ | _ | _ | j <;> first | rfl | omega⟩
theorem digB_s {s : List Int} {t : List UInt8} {d : List Int} {k : Nat} {n : Int} (hl : d.length = 8) (hk : k < 8) (h : DigB s t d k) (h0 : 0 ≤ n) (h1 : n < s.getD k 0) (h2 : dgT (s.getD k 0) n = (splitA 58 [] t).getD (s.length - 1 - k) []) : DigB s t (d.set k n) (k + 1) := fun j hj => by
  by_cases e : j = k
  · subst e
    have e1 : (d.set j n).getD j 0 = n := by simp [List.getD, hl, hj]
    rw [e1]
    exact ⟨fun _ => ⟨h2, h0, h1⟩, fun h => by omega⟩
  · have e1 : (d.set k n).getD j 0 = d.getD j 0 := by simp [List.getD, List.getElem?_set, Ne.symm e]
    rw [e1]
    exact ⟨fun hjk => (h j hj).1 (by omega), fun hjk => (h j hj).2 (by omega)⟩
/-- Digits that are as told at all places have the text. -/
theorem digB_end {s : List Int} {t : List UInt8} {d : List Int} (hs : Stk s) (hl : (splitA 58 [] t).length = s.length) (h : DigB s t d s.length) : validDig s d = true ∧ digT s d = t := by
  have h8 := hs.len8
  constructor
  · unfold validDig
    rw [List.all_eq_true]
    intro j hj
    have hj : j < 8 := List.mem_range.1 hj
    unfold goodAt
    by_cases hjs : j < s.length
    · rw [if_pos hjs, decide_eq_true_iff]; exact ((h j hj).1 hjs).2.2
    · rw [if_neg hjs, decide_eq_true_iff]; exact (h j hj).2 (by omega)
  · have hj := join_split 58 t []
    rw [List.nil_append] at hj
    rw [← hj]
    unfold digT
    congr 1
    apply List.ext_getElem
    · rw [partsF_len, hl]
    · intro i h1 h2
      rw [partsF_len] at h1
      have h3 := ((h (s.length - 1 - i) (by omega)).1 (by omega)).1
      rw [show s.length - 1 - (s.length - 1 - i) = i by omega] at h3
      have h4 : (partsF (dpart s d) s.length)[i] = dpart s d i := by simp [partsF]
      rw [h4]
      unfold dpart
      rw [h3]
      simp [List.getD, h2]
theorem key9 {d e : Dig} {j : Nat} (h1 : d.l.getD j 0 = e.l.getD j 0) (h3 : j < d.l.length) (h4 : j < e.l.length) : d.l[j] = e.l[j] := by
  unfold List.getD at h1
  rw [List.getElem?_eq_getElem h3, List.getElem?_eq_getElem h4] at h1
  exact h1
theorem dig_one {s : List Int} {d e : Dig} (hs : Stk s) (hd : Nums 255 d.l) (he : Nums 255 e.l) (h1 : validDig s d.l = true) (h2 : validDig s e.l = true) (h : digT s d.l = digT s e.l) : d = e := by
  apply dig_inj
  apply List.ext_getElem ((dig_len _).trans (dig_len _).symm)
  intro j h30 h4
  have h3 : j < 8 := h30
  have key : d.l.getD j 0 = e.l.getD j 0 := by
    by_cases hj : j < s.length
    · obtain ⟨a1, a2, _⟩ := dig_word hs hd h1 h hj
      obtain ⟨b1, b2, _⟩ := dig_word hs he h2 rfl hj
      exact dgT_inj a2 b2 (a1.symm.trans b1)
    · have f : ∀ {x : Dig}, validDig s x.l = true → x.l.getD j 0 = 0 := fun {x} hx => by
        unfold validDig at hx
        rw [List.all_eq_true] at hx
        have := hx j (List.mem_range.2 h3)
        unfold goodAt at this
        rwa [if_neg hj, decide_eq_true_iff] at this
      rw [f h1, f h2]
  exact key9 key h30 h4
/-- The parts of the places from the top down are numbers of seven bits: the digits that the program lays. -/
def DigU (s : List Int) (t : List UInt8) (d : List Int) (k : Nat) : Prop := ∀ j, j < 8 → (s.length - k ≤ j → j < s.length → U7 ((splitA 58 [] t).getD (s.length - 1 - j) []) (d.getD j 0)) ∧ ((j < s.length - k ∨ s.length ≤ j) → d.getD j 0 = 0)
theorem digU_0 (s : List Int) (t : List UInt8) : DigU s t [0, 0, 0, 0, 0, 0, 0, 0] 0 := fun j hj => ⟨fun h => by omega, fun _ => by
  rcases j with _ | _ | _ | _ | _ | _ | _ | _ | j <;> first | rfl | omega⟩
theorem digU_s {s : List Int} {t : List UInt8} {d : List Int} {k q : Nat} {n : Int} (hl : d.length = 8) (hs : s.length ≤ 8) (hk : k < s.length) (hq : q = s.length - 1 - k) (h : DigU s t d k) (h0 : U7 ((splitA 58 [] t).getD k []) n) : DigU s t (d.set q n) (k + 1) := fun j hj => by
  subst hq
  by_cases e : j = s.length - 1 - k
  · subst e
    have e1 : (d.set (s.length - 1 - k) n).getD (s.length - 1 - k) 0 = n := by simp [List.getD, hl, hj]
    rw [e1]
    exact ⟨fun _ _ => by rw [show s.length - 1 - (s.length - 1 - k) = k by omega]; exact h0, fun h => by omega⟩
  · have e1 : (d.set (s.length - 1 - k) n).getD j 0 = d.getD j 0 := by simp [List.getD, List.getElem?_set, Ne.symm e]
    rw [e1]
    exact ⟨fun a b => (h j hj).1 (by omega) b, fun a => (h j hj).2 (by omega)⟩
/-- The program's digits do not have the text: none do. -/
theorem ndg_end {s : List Int} {t : List UInt8} {d : Dig} (hv : validStack s = true) (hd : DigU s t d.l s.length) (h : digTx s d.l ≠ t) : NoDig s t := fun e hn hve ht => by
  have hs := stk hv
  have he : d = e := by
    apply dig_inj
    apply List.ext_getElem ((dig_len _).trans (dig_len _).symm)
    intro j h30 h4
    have h3 : j < 8 := h30
    have key : d.l.getD j 0 = e.l.getD j 0 := by
      by_cases hj : j < s.length
      · obtain ⟨a1, a2, a3, a4⟩ := dig_word hs hn hve ht hj
        have := (hd j h3).1 (by omega) hj
        rw [a1] at this
        exact U7_one this (dgT_U7 a2 (by omega))
      · have := (hd j h3).2 (.inr (by omega))
        rw [this]
        unfold validDig at hve
        rw [List.all_eq_true] at hve
        have := hve j (List.mem_range.2 h3)
        unfold goodAt at this
        rw [if_neg hj, decide_eq_true_iff] at this
        exact this.symm
    exact key9 key h30 h4
  subst he
  exact h (by rw [digTx_t (by rw [hv, hve]; rfl)]; exact ht)
def dig0 : Dig := ⟨0, 0, 0, 0, 0, 0, 0, 0⟩
/-- What is read of a text: the digits, and 0; or none, and 5. -/
def DigRd (s : List Int) (t : List UInt8) (x : Dig × Int) : Prop := Nums 255 x.1.l ∧ ((x.2 = 0 ∧ validDig s x.1.l = true ∧ digT s x.1.l = t) ∨ (x.2 = 5 ∧ x.1 = dig0 ∧ NoDig s t))
theorem digRd_one {s : List Int} {t : List UInt8} {x y : Dig × Int} (hs : Stk s) (hx : DigRd s t x) (hy : DigRd s t y) : x = y := by
  obtain ⟨nx, hx⟩ := hx
  obtain ⟨ny, hy⟩ := hy
  rcases hx with ⟨a1, a2, a3⟩ | ⟨a1, a2, a3⟩
  · rcases hy with ⟨b1, b2, b3⟩ | ⟨b1, b2, b3⟩
    · exact Prod.ext (dig_one hs nx ny a2 b2 (a3.trans b3.symm)) (a1.trans b1.symm)
    · exact absurd a3 (b3 x.1 nx a2)
  · rcases hy with ⟨b1, b2, b3⟩ | ⟨b1, b2, b3⟩
    · exact absurd b3 (a3 y.1 ny b2)
    · exact Prod.ext (a2.trans b2.symm) (a1.trans b1.symm)
end Go.W

/- The text of totals, as the program reads it. -/
set_option linter.unusedVariables false
set_option linter.unusedSimpArgs false
namespace Go.W
open Go Go.Sx
theorem itoa_inj {a b : Int} (ha : -9223372036854775808 ≤ a ∧ a ≤ 9223372036854775807) (hb : -9223372036854775808 ≤ b ∧ b ≤ 9223372036854775807) (h : Lib.itoa a = Lib.itoa b) : a = b := by
  have h1 := parse_itoa ha
  have h2 := parse_itoa hb
  rw [h, h2] at h1
  injection h1 with h1
  exact h1.symm
theorem cut_tLn {x : VP} (ha : 0 ≤ x.a) (hb : 0 ≤ x.b) : (Lib.cut (tLn x) [32]).1 = Lib.itoa x.a ∧ (Lib.cut (tLn x) [32]).2.1 = Lib.itoa x.b := by
  have h := cut_more (tLn_split ha hb)
  rw [Lib.join_one] at h
  exact h
/-- The lines that a text has where it tells a list. -/
theorem rd_lines {t : List UInt8} {l : List VP} (h : totRd t = some l) : Tot l ∧ splitA 10 [] t = l.map tLn ++ [[]] := by
  obtain ⟨hv, ht⟩ := totRd_some h
  have hT := tot hv
  refine ⟨hT, ?_⟩
  rw [ht, tText_lines hT, partsF_map]
theorem rd_len {t : List UInt8} {l : List VP} (h : totRd t = some l) : (splitA 10 [] t).length = l.length + 1 := by
  rw [(rd_lines h).2]; simp
theorem rd_line {t : List UInt8} {l : List VP} (h : totRd t = some l) {i : Nat} (hi : i < l.length) : (splitA 10 [] t).getD i [] = tLn (l.getD i zP) := by
  rw [(rd_lines h).2]
  simp [List.getD, List.getElem?_append, hi]
theorem rd_last {t : List UInt8} {l : List VP} (h : totRd t = some l) : (splitA 10 [] t).getD l.length [] = [] := by
  rw [(rd_lines h).2]
  simp [List.getD, List.getElem?_append]
theorem rd_cut {t : List UInt8} {l : List VP} (h : totRd t = some l) {i : Nat} (hi : i < l.length) : (Lib.cut ((splitA 10 [] t).getD i []) [32]).1 = Lib.itoa (l.getD i zP).a ∧ (Lib.cut ((splitA 10 [] t).getD i []) [32]).2.1 = Lib.itoa (l.getD i zP).b := by
  rw [rd_line h hi]
  have hT := (rd_lines h).1
  exact cut_tLn (hT.day i hi).1 (hT.cnt i hi).1
def I64' (n : Int) : Prop := -9223372036854775808 ≤ n ∧ n ≤ 9223372036854775807
/-- A list of numbers that stand in the lines of a text. -/
def CutsOf (t : List UInt8) (l : List VP) : Prop := ∀ i, i < l.length → (I64' (l.getD i zP).a ∧ I64' (l.getD i zP).b) ∧ (Lib.cut ((splitA 10 [] t).getD i []) [32]).1 = Lib.itoa (l.getD i zP).a ∧ (Lib.cut ((splitA 10 [] t).getD i []) [32]).2.1 = Lib.itoa (l.getD i zP).b
theorem CutsOf.snoc {t : List UInt8} {l : List VP} {x : VP} (h : CutsOf t l) (hx : I64' x.a ∧ I64' x.b) (h1 : (Lib.cut ((splitA 10 [] t).getD l.length []) [32]).1 = Lib.itoa x.a) (h2 : (Lib.cut ((splitA 10 [] t).getD l.length []) [32]).2.1 = Lib.itoa x.b) : CutsOf t (l ++ [x]) := fun i hi => by
  rw [List.length_append, List.length_singleton] at hi
  by_cases he : i < l.length
  · have := h i he
    simpa [List.getD, List.getElem?_append, he] using this
  · obtain rfl : i = l.length := by omega
    have e : (l ++ [x]).getD l.length zP = x := by simp [List.getD, List.getElem?_append]
    rw [e]
    exact ⟨hx, h1, h2⟩
/-- Where all lines are numbers, the text tells their list or none. -/
theorem rd_same {t : List UInt8} {l l' : List VP} (hc : CutsOf t l) (hl : (splitA 10 [] t).length = l.length + 1) (h : totRd t = some l') : l = l' := by
  have h1 := rd_len h
  have hT := (rd_lines h).1
  have hll : l.length = l'.length := by omega
  apply List.ext_getElem hll
  intro i h2 h3
  have hx := hc i h2
  have hy := rd_cut h h3
  have d1 := hT.day i h3
  have d2 := hT.cnt i h3
  have ea := itoa_inj hx.1.1 (by omega) (hx.2.1.symm.trans hy.1)
  have eb := itoa_inj hx.1.2 (by omega) (hx.2.2.symm.trans hy.2)
  simp only [List.getD, List.getElem?_eq_getElem h2, List.getElem?_eq_getElem h3, Option.getD_some] at ea eb
  cases hl1 : l[i]
  cases hl2 : l'[i]
  rw [hl1, hl2] at ea eb
  simp only at ea eb
  rw [ea, eb]
theorem rd_ok {t : List UInt8} {l : List VP} (hv : validTot l = true) (ht : totTx l = t) : totRd t = some l := by
  rw [← ht, totTx_t hv]
  exact totRd_text hv
theorem rd_no {t : List UInt8} {l : List VP} (hc : CutsOf t l) (hl : (splitA 10 [] t).length = l.length + 1) (h : ¬ (validTot l = true ∧ totTx l = t)) : totRd t = none := by
  cases hr : totRd t with
  | none => rfl
  | some l' =>
    obtain rfl := rd_same hc hl hr
    obtain ⟨hv, ht⟩ := totRd_some hr
    exact absurd ⟨hv, by rw [totTx_t hv]; exact ht.symm⟩ h
theorem rd_bad {t : List UInt8} {k : Nat} (hk : k + 1 < (splitA 10 [] t).length) (h : ¬ ∃ a b : Int, (I64' a ∧ I64' b) ∧ (Lib.cut ((splitA 10 [] t).getD k []) [32]).1 = Lib.itoa a ∧ (Lib.cut ((splitA 10 [] t).getD k []) [32]).2.1 = Lib.itoa b) : totRd t = none := by
  cases hr : totRd t with
  | none => rfl
  | some l' =>
    exfalso
    have h1 := rd_len hr
    have hT := (rd_lines hr).1
    have hk' : k < l'.length := by omega
    have d1 := hT.day k hk'
    have d2 := hT.cnt k hk'
    exact h ⟨_, _, ⟨⟨by omega, by omega⟩, by omega, by omega⟩, rd_cut hr hk'⟩
theorem rd_60 {t : List UInt8} (h : 61 < (splitA 10 [] t).length) : totRd t = none := by
  cases hr : totRd t with
  | none => rfl
  | some l' =>
    exfalso
    have h1 := rd_len hr
    have h2 := (rd_lines hr).1.len
    omega
theorem rd_open {t : List UInt8} {n : Nat} (hn : (splitA 10 [] t).length = n + 1) (h : (splitA 10 [] t).getD n [] ≠ []) : totRd t = none := by
  cases hr : totRd t with
  | none => rfl
  | some l' =>
    exfalso
    have h1 := rd_len hr
    obtain rfl : n = l'.length := by omega
    exact h (rd_last hr)
end Go.W

/- What the loops of the readers carry on: pieces of a text, numbers, lines. -/
set_option linter.unusedVariables false
set_option linter.unusedSimpArgs false
namespace Go.W
open Go Go.Sx
/-- A text cut so far: the place, where the piece begins, the pieces, the row's room. -/
structure SpS where
  i : Nat
  b : Nat
  out : List (List UInt8)
  A : Option Addr
  c : Nat
theorem drop_getD {t : List UInt8} {i : Nat} (h : i < t.length) : t.drop i = t.getD i 0 :: t.drop (i + 1) := by
  rw [List.drop_eq_getElem_cons h]
  congr 1
  simp [List.getD, h]
theorem sp_y {c : UInt8} {t : List UInt8} {i b : Nat} {out : List (List UInt8)} (hi : i < t.length) (h : t.getD i 0 = c) (H : splitA c [] t = out ++ splitA c ((t.drop b).take (i - b)) (t.drop i)) : splitA c [] t = (out ++ [(t.drop b).take (i - b)]) ++ splitA c ((t.drop (i + 1)).take (i + 1 - (i + 1))) (t.drop (i + 1)) := by
  rw [H, drop_getD hi, splitA_y h, Nat.sub_self, List.take_zero, List.append_assoc]
  rfl
theorem take_snoc {t : List UInt8} {i b : Nat} (hb : b ≤ i) (hi : i < t.length) : (t.drop b).take (i + 1 - b) = (t.drop b).take (i - b) ++ [t.getD i 0] := by
  rw [show i + 1 - b = (i - b) + 1 by omega, List.take_succ_eq_append_getElem (by rw [List.length_drop]; omega)]
  congr 2
  simp [List.getD, hi, show b + (i - b) = i by omega]
theorem sp_n {c : UInt8} {t : List UInt8} {i b : Nat} {out : List (List UInt8)} (hb : b ≤ i) (hi : i < t.length) (h : ¬ t.getD i 0 = c) (H : splitA c [] t = out ++ splitA c ((t.drop b).take (i - b)) (t.drop i)) : splitA c [] t = out ++ splitA c ((t.drop b).take (i + 1 - b)) (t.drop (i + 1)) := by
  rw [H, drop_getD hi, splitA_n h, take_snoc hb hi]
theorem sp_end {c : UInt8} {t : List UInt8} {i b : Nat} {out : List (List UInt8)} (hb : b ≤ i) (hi : i = t.length) (H : splitA c [] t = out ++ splitA c ((t.drop b).take (i - b)) (t.drop i)) : splitA c [] t = out ++ [t.drop b] := by
  subst hi
  rw [H, List.drop_length, splitA_nil, List.take_of_length_le (by rw [List.length_drop]; omega)]
theorem splitA_len (c : UInt8) : ∀ (t acc : List UInt8), (splitA c acc t).length ≤ t.length + 1
  | [], acc => by simp [splitA]
  | x :: r, acc => by
    unfold splitA
    split
    · have := splitA_len c r []
      simp only [List.length_cons]; omega
    · have := splitA_len c r (acc ++ [x])
      simp only [List.length_cons]; omega
theorem splitA_pos (c : UInt8) (t : List UInt8) : 1 ≤ (splitA c [] t).length := by
  cases h : splitA c [] t with
  | nil => exact absurd h (splitA_ne c t [])
  | cons a r => simp
theorem piece_mem (c : UInt8) : ∀ (t acc p : List UInt8), p ∈ splitA c acc t → p.length ≤ acc.length + t.length
  | [], acc, p, h => by rw [splitA_nil, List.mem_singleton] at h; subst h; simp
  | x :: r, acc, p, h => by
    unfold splitA at h
    split at h
    · rw [List.mem_cons] at h
      rcases h with rfl | h
      · omega
      · have := piece_mem c r [] p h
        simp only [List.length_nil, List.length_cons] at *; omega
    · have := piece_mem c r _ p h
      simp only [List.length_append, List.length_cons, List.length_nil] at *; omega
theorem getD_memT {s : List (List UInt8)} {i : Nat} (h : i < s.length) : s.getD i [] ∈ s := by
  rw [List.getD, List.getElem?_eq_getElem h]
  exact List.getElem_mem h
/-- A piece is no longer than the text. -/
theorem piece_le (c : UInt8) (t : List UInt8) (i : Nat) : ((splitA c [] t).getD i []).length ≤ t.length := by
  by_cases h : i < (splitA c [] t).length
  · have := piece_mem c t [] _ (getD_memT (s := splitA c [] t) h)
    simp only [List.length_nil] at this
    omega
  · simp [List.getD, List.getElem?_eq_none (by omega : (splitA c [] t).length ≤ i)]
theorem cut_le (s : List UInt8) (c : UInt8) : (Lib.cut s [c]).1.length ≤ s.length ∧ (Lib.cut s [c]).2.1.length ≤ s.length := by
  unfold Lib.cut
  split
  · simp only [List.length_take, List.length_drop]; omega
  · simp
/-! ### A number, byte by byte -/
theorem numV_lt : ∀ (k : Nat) (t : List UInt8), t.length = k → (∀ c ∈ t, isDig c) → numV t < 10 ^ k
  | 0, t, hk, _ => by obtain rfl := List.eq_nil_of_length_eq_zero hk; decide
  | k + 1, t, hk, h => by
    have hne : t ≠ [] := fun e => by subst e; simp at hk
    obtain ⟨u, c, rfl⟩ : ∃ u c, t = u ++ [c] := ⟨t.dropLast, t.getLast hne, (List.dropLast_concat_getLast hne).symm⟩
    have hc : isDig c := h c (by simp)
    have hul : u.length = k := by simpa using hk
    have ih := numV_lt k u hul (fun x hx => h x (List.mem_append_left _ hx))
    unfold isDig at hc
    rw [numV_snoc, Nat.pow_succ]
    omega
theorem digs_take {t : List UInt8} {k : Nat} (h : ∀ j, j < k → isDig (t.getD j 0)) (hk : k ≤ t.length) : ∀ c ∈ t.take k, isDig c := fun c hc => by
  obtain ⟨j, hj, rfl⟩ := List.getElem_of_mem hc
  have hj' : j < k := by rw [List.length_take] at hj; omega
  have := h j hj'
  simpa [List.getD, show j < t.length by omega] using this
theorem numT_le {t : List UInt8} {k : Nat} (h : ∀ j, j < k → isDig (t.getD j 0)) (hk : k ≤ t.length) (h12 : k ≤ 12) : numV (t.take k) ≤ 1000000000000 := by
  have h1 := numV_lt k (t.take k) (by rw [List.length_take]; omega) (digs_take h hk)
  have h2 : 10 ^ k ≤ 10 ^ 12 := Nat.pow_le_pow_right (by decide) h12
  have h3 : (10 : Nat) ^ 12 = 1000000000000 := by decide
  omega
theorem numT_s {t : List UInt8} {k : Nat} (hk : k < t.length) : numV (t.take (k + 1)) = 10 * numV (t.take k) + ((t.getD k 0).toNat - 48) := by
  rw [List.take_succ_eq_append_getElem hk, numV_snoc]
  simp [List.getD, hk]
theorem isDig_of {c : UInt8} (h : ¬ ((c.toNat : Int) < 48)) (h1 : ¬ ((c.toNat : Int) > 57)) : isDig c := ⟨by omega, by omega⟩
theorem numR_bad {B : Nat} {t : List UInt8} (h : t = [] ∨ B < t.length ∨ (t.getD 0 0 = 48 ∧ 1 < t.length) ∨ ∃ k, k < t.length ∧ ¬ isDig (t.getD k 0)) : numR B t = (0, false) := by
  unfold numR
  refine if_neg fun hk => ?_
  rcases h with h | h | ⟨h, h1⟩ | ⟨k, h, h1⟩
  · exact hk.1.1 h
  · omega
  · rcases hk.1.2.2 with h2 | h2
    · omega
    · exact h2 h
  · exact h1 (hk.1.2.1 _ (by simp [List.getD, h]))
theorem numR_ok {B : Nat} {t : List UInt8} (h : ¬ t = []) (hB : ¬ (B : Int) < t.length) (h0 : ¬ (t.getD 0 0 = 48 ∧ 1 < t.length)) (hd : ∀ j, j < t.length → isDig (t.getD j 0)) : numR B t = ((numV (t.take t.length) : Int), true) := by
  unfold numR
  rw [List.take_length]
  refine if_pos ⟨⟨h, ?_, ?_⟩, by omega⟩
  · have := digs_take hd (Nat.le_refl _)
    rwa [List.take_length] at this
  · have : t.length ≠ 0 := fun e => h (List.eq_nil_of_length_eq_zero e)
    by_cases h1 : t.length = 1
    · exact .inl h1
    · exact .inr fun e => h0 ⟨e, by omega⟩
theorem numR_bd (B : Nat) (t : List UInt8) (hB : B ≤ 13) : 0 ≤ (numR B t).1 ∧ (numR B t).1 ≤ 10000000000000 := by
  unfold numR
  split
  · rename_i h
    have h1 := numV_lt _ t rfl h.1.2.1
    have h2 : 10 ^ t.length ≤ 10 ^ 13 := Nat.pow_le_pow_right (by decide) (by omega)
    have h3 : (10 : Nat) ^ 13 = 10000000000000 := by decide
    simp only
    omega
  · simp
theorem u8_48 {c : UInt8} (h : (c.toNat : Int) = 48) : c = 48 := UInt8.toNat_inj.1 (by show c.toNat = 48; omega)
theorem u8_48n {c : UInt8} (h : ¬ (c.toNat : Int) = 48) : ¬ c = 48 := fun e => h (by rw [e]; rfl)
theorem u8_c {c d : UInt8} {b : Int} (hb : b = (d.toNat : Int)) (h : (c.toNat : Int) = b) : c = d := UInt8.toNat_inj.1 (by omega)
theorem u8_cn {c d : UInt8} {b : Int} (hb : b = (d.toNat : Int)) (h : ¬ (c.toNat : Int) = b) : ¬ c = d := fun e => h (by rw [e, hb])
/-! ### What is read -/
/-- A list that is read, a code, the row's room. -/
structure RdS (α : Type) where
  l : List α
  code : Int
  A : Option Addr
  cap : Nat
/-- The rounds of a reader of lines: the list so far, whether all is well. -/
structure TtS (α : Type) where
  k : Nat
  l : List α
  ok : Bool
  A : Option Addr
  cap : Nat
def TotRd (t : List UInt8) (x : RdS VP) : Prop := (x.code = 0 ∧ totRd t = some x.l) ∨ (x.code = 5 ∧ x.l = [] ∧ totRd t = none)
theorem tot_one {t : List UInt8} {x y : RdS VP} (hx : TotRd t x) (hy : TotRd t y) : x.l = y.l ∧ x.code = y.code := by
  rcases hx with ⟨a1, a2⟩ | ⟨a1, a2, a3⟩ <;> rcases hy with ⟨b1, b2⟩ | ⟨b1, b2, b3⟩
  · rw [a2] at b2; exact ⟨Option.some.inj b2, a1.trans b1.symm⟩
  · rw [a2] at b3; cases b3
  · rw [a3] at b2; cases b2
  · exact ⟨a2.trans b2.symm, a1.trans b1.symm⟩
theorem tot_len {t : List UInt8} {x : RdS VP} (h : TotRd t x) : x.l.length ≤ 60 := by
  rcases h with ⟨_, h⟩ | ⟨_, h, _⟩
  · exact (rd_lines h).1.len
  · rw [h]; simp
def LinesTo (t : List UInt8) (l : List VP) (k : Nat) : Prop := l.length = k ∧ ∀ j, j < k → lineS ((splitA 10 [] t).getD j []) = some (l.getD j zP)
theorem LinesTo.nil (t : List UInt8) : LinesTo t [] 0 := ⟨rfl, fun j hj => by omega⟩
theorem LinesTo.snoc {t : List UInt8} {l : List VP} {k : Nat} {x : VP} (h : LinesTo t l k) (hx : lineS ((splitA 10 [] t).getD k []) = some x) : LinesTo t (l ++ [x]) (k + 1) := by
  obtain ⟨rfl, h⟩ := h
  refine ⟨by simp, fun j hj => ?_⟩
  by_cases he : j < l.length
  · have := h j he
    simpa [List.getD, List.getElem?_append, he] using this
  · obtain rfl : j = l.length := by omega
    have e : (l ++ [x]).getD l.length zP = x := by simp [List.getD, List.getElem?_append]
    rw [e]; exact hx
theorem linesS_all : ∀ {ls : List (List UInt8)} {xs : List VP}, ls.length = xs.length → (∀ j, j < xs.length → lineS (ls.getD j []) = some (xs.getD j zP)) → linesS ls = some xs
  | [], [], _, _ => rfl
  | [], _ :: _, h, _ => by simp at h
  | _ :: _, [], h, _ => by simp at h
  | l :: r, x :: xs, h, h1 => by
    have h2 := h1 0 (by simp)
    have h3 := linesS_all (ls := r) (xs := xs) (by simpa using h) (fun j hj => by
      have := h1 (j + 1) (by simpa using hj)
      simpa using this)
    simp only [List.getD_cons_zero] at h2
    unfold linesS
    rw [h2, h3]
theorem linesS_get : ∀ {ls : List (List UInt8)} {xs : List VP}, linesS ls = some xs → ∀ j, j < ls.length → lineS (ls.getD j []) ≠ none
  | [], _, _, j, hj => by simp at hj
  | l :: r, xs, h, j, hj => by
    unfold linesS at h
    split at h
    · rename_i x ys h1 h2
      rcases j with _ | j
      · simp [h1]
      · have := linesS_get h2 j (by simpa using hj)
        simpa using this
    · cases h
theorem tr_form {t : List UInt8} {n : Nat} (hn : (splitA 10 [] t).length = n + 1) (h0 : (splitA 10 [] t).getD n [] = []) : totRd t = match linesS ((splitA 10 [] t).take n) with
    | some xs => if validTot xs = true then some xs else none
    | none => none := by
  have e : splitA 10 [] t = (splitA 10 [] t).take n ++ [[]] := by
    have h1 : (splitA 10 [] t).take (n + 1) = splitA 10 [] t := List.take_of_length_le (by omega)
    rw [List.take_succ_eq_append_getElem (by omega)] at h1
    have h2 : (splitA 10 [] t)[n] = [] := by
      have := h0
      simpa [List.getD, show n < (splitA 10 [] t).length by omega] using this
    rw [h2] at h1
    exact h1.symm
  unfold totRd
  have e2 : (splitA 10 [] t).reverse = [] :: ((splitA 10 [] t).take n).reverse := by
    have := congrArg List.reverse e
    rw [List.reverse_append] at this
    simpa using this
  rw [e2]
  simp only [List.reverse_reverse]
  try rfl
theorem tr_yes {t : List UInt8} {l : List VP} {n : Nat} (hn : (splitA 10 [] t).length = n + 1) (h0 : (splitA 10 [] t).getD n [] = []) (h : LinesTo t l n) : totRd t = if validTot l = true then some l else none := by
  have e := tr_form hn h0
  rw [linesS_all (xs := l) (by rw [List.length_take, h.1]; omega) (fun j hj => by
    have := h.2 j (by rw [← h.1]; exact hj)
    have hjn : j < n := by rw [← h.1]; exact hj
    rw [← this]
    simp [List.getD, List.getElem?_take, hjn])] at e
  exact e
theorem tr_line {t : List UInt8} {j : Nat} (hj : j + 1 < (splitA 10 [] t).length) (h : lineS ((splitA 10 [] t).getD j []) = none) : totRd t = none := by
  obtain ⟨n, hn⟩ : ∃ n, (splitA 10 [] t).length = n + 1 := ⟨(splitA 10 [] t).length - 1, by omega⟩
  by_cases h0 : (splitA 10 [] t).getD n [] = []
  · rw [tr_form hn h0]
    cases hl : linesS ((splitA 10 [] t).take n) with
    | none => rfl
    | some xs =>
      exfalso
      have := linesS_get hl j (by rw [List.length_take]; omega)
      apply this
      rw [← h]
      simp [List.getD, List.getElem?_take, show j < n by omega]
  · exact rd_open hn h0
theorem line_2 {s : List UInt8} (h : (splitA 32 [] s).length ≠ 2) : lineS s = none := by
  unfold lineS
  split
  · rename_i a b e
    rw [e] at h
    simp at h
  · rfl
theorem line_y {s : List UInt8} (h : (splitA 32 [] s).length = 2) : lineS s = if (numR 13 ((splitA 32 [] s).getD 0 [])).2 = true ∧ (numR 13 ((splitA 32 [] s).getD 1 [])).2 = true then some ⟨(numR 13 ((splitA 32 [] s).getD 0 [])).1, (numR 13 ((splitA 32 [] s).getD 1 [])).1⟩ else none := by
  unfold lineS
  rcases hs : splitA 32 [] s with _ | ⟨a, _ | ⟨b, _ | ⟨c, r⟩⟩⟩
  · rw [hs] at h; simp at h
  · rw [hs] at h; simp at h
  · rfl
  · rw [hs] at h; simp at h
end Go.W
namespace Go.W
open Go Go.Sx
/-! ### Numbers, as the program reads them -/
/-- What ParseInt makes of a text. -/
def PInt (t : List UInt8) (n : Int) (b : Bool) : Prop := I64' n ∧ (b = true → Lib.parseIntB 64 t = .ok n) ∧ (∀ z, Lib.parseIntB 64 t = .ok z → b = true ∧ n = z) ∧ (t = [] → n = 0)
/-- A number that is read iff the text is its own. -/
def RDec (t : List UInt8) (x : Int × Bool) : Prop := I64' x.1 ∧ (x.2 = true → t = Lib.itoa x.1) ∧ (∀ z, I64' z → t = Lib.itoa z → x.2 = true ∧ x.1 = z) ∧ (t = [] → x.1 = 0)
theorem rdec_t {t : List UInt8} {n : Int} {b : Bool} (h : PInt t n b) (hb : b = true) : RDec t (n, decide (Lib.itoa n = t)) := by
  obtain ⟨h1, h2, h3, h4⟩ := h
  refine ⟨h1, fun h => (of_decide_eq_true h).symm, fun z hz e => ?_, h4⟩
  subst e
  obtain ⟨_, e2⟩ := h3 z (parse_itoa hz)
  exact ⟨decide_eq_true (by rw [e2]), e2⟩
theorem rdec_f {t : List UInt8} {n : Int} {b : Bool} (h : PInt t n b) (hb : b = false) : RDec t (n, false) := by
  obtain ⟨h1, h2, h3, h4⟩ := h
  refine ⟨h1, ?_, fun z hz e => ?_, h4⟩
  · intro h; exact absurd h (by simp)
  subst e
  have := (h3 z (parse_itoa hz)).1
  rw [hb] at this
  cases this
theorem parse_bd {t : List UInt8} {v : Int} (h : Lib.parseIntB 64 t = .ok v) : I64' v := by
  unfold I64'
  cases t with
  | nil => cases h
  | cons c r =>
    unfold Lib.parseIntB at h
    simp only at h
    split at h
    · cases h
    · cases h
    · rename_i u hu
      split at h
      · cases h
      · rename_i h1
        split at h
        · cases h
        · rename_i h2
          injection h with h
          subst h
          by_cases h3 : c.toNat = 45
          · simp [h3] at h1 h2 ⊢; omega
          · simp [h3] at h1 h2 ⊢; omega
theorem sat_bd (t : List UInt8) : I64' (Lib.intSat 64 t) := by
  unfold Lib.intSat I64'
  split <;> simp
theorem pint_ok {t : List UInt8} {v : Int} (h : Lib.parseIntB 64 t = .ok v) : PInt t v true := ⟨parse_bd h, fun _ => h, fun z hz => ⟨rfl, by rw [h] at hz; injection hz⟩, fun e => by subst e; cases h⟩
theorem pint_syn {t : List UInt8} (h : ∀ z, Lib.parseIntB 64 t ≠ .ok z) : PInt t 0 false := by
  refine ⟨⟨by decide, by decide⟩, ?_, fun z hz => ?_, fun _ => rfl⟩
  · intro e; exact absurd e (by simp)
  · exact absurd hz (h z)
theorem pint_rng {t : List UInt8} (h : Lib.parseIntB 64 t = .range) : PInt t (Lib.intSat 64 t) false := by
  refine ⟨sat_bd t, ?_, fun z hz => ?_, fun e => by subst e; cases h⟩
  · intro e; exact absurd e (by simp)
  · rw [h] at hz; cases hz
/-- A line whose numbers are not both numbers' own texts. -/
theorem rd_line_no {t : List UInt8} {k : Nat} {x y : Int × Bool} (hk : k + 1 < (splitA 10 [] t).length) (hx : RDec (Lib.cut ((splitA 10 [] t).getD k []) [32]).1 x) (hy : RDec (Lib.cut ((splitA 10 [] t).getD k []) [32]).2.1 y) (h : x.2 = false ∨ y.2 = false) : totRd t = none := by
  refine rd_bad hk ?_
  rintro ⟨a, b, ⟨ha, hb⟩, h1, h2⟩
  have e1 := (hx.2.2.1 a ha h1).1
  have e2 := (hy.2.2.1 b hb h2).1
  rcases h with h | h
  · rw [h] at e1; cases e1
  · rw [h] at e2; cases e2
end Go.W

/- A byte of a string; pieces of a string. -/
set_option linter.unusedVariables false
set_option linter.unusedSimpArgs false
namespace Go.Sx
open Go Go.RowKit
variable {C : Cx} {env env' : Env} {m m' : List Ent} {o : Oper} {K : Env → List Ent → Prop}
theorem fr_indexS {S x y k} {l : List UInt8} {i : Int} (j : Nat) (ho : o.op = .index S x y) (hx : ev env x = some (sv l)) (hy : ev env y = some (.int k i)) (hS : C.P.underlying S = some .string) (hi : i = (j : Nat)) (hj : j < l.length) : Free C o env m (.int .u8 ((l.getD j 0).toNat : Int)) := by
  subst hi
  intro a w hr hw
  have h := run_index_string (P := C.P) w S ⟨l.toArray⟩ k (j : Int) hS
  rw [dif_pos ⟨by omega, by rw [sv_size]; omega⟩] at h
  have e : (⟨l.toArray⟩ : ByteArray)[((j : Nat) : Int).toNat]'(by rw [sv_size]; simpa using hj) = l.getD j 0 := by
    simp [List.getD, hj]
    rfl
  rw [e] at h
  simp only [execOp, ho, hr.ev hx, hr.ev hy, Sem.run_bind, h, Result.andThen_ok, Sem.run_pure]
theorem fr_sliceS {S x y z k k'} {l : List UInt8} {p q : Int} (a b : Nat) (ho : o.op = .slice S x (some y) (some z) none) (hx : ev env x = some (sv l)) (hy : ev env y = some (.int k p)) (hz : ev env z = some (.int k' q)) (hS : C.P.underlying S = some .string) (hp : p = (a : Nat)) (hq : q = (b : Nat)) (hab : a ≤ b) (hb : b ≤ l.length) : Free C o env m (sv ((l.drop a).take (b - a))) := by
  subst hp hq
  intro ac w hr hw
  have h := run_slice_string (P := C.P) w S ⟨l.toArray⟩ k k' (a : Int) (b : Int) hS (by omega) (by omega) (by rw [sv_size]; omega)
  rw [ByteArray.extract_mk] at h
  simp only [Int.toNat_natCast] at h
  simp only [execOp, ho, hr.ev hx, Option.map_none, Option.map_some, hr.ev hy, hr.ev hz, run_sliceAt_string w S _ _ _ _ hS, Sem.run_bind, h, Result.andThen_ok, Sem.run_pure]
theorem fr_sliceS_l {S x y k} {l : List UInt8} {p : Int} (a : Nat) (ho : o.op = .slice S x (some y) none none) (hx : ev env x = some (sv l)) (hy : ev env y = some (.int k p)) (hS : C.P.underlying S = some .string) (hp : p = (a : Nat)) (hb : a ≤ l.length) : Free C o env m (sv (l.drop a)) := by
  subst hp
  intro ac w hr hw
  have h := run_slice_string_from_if (P := C.P) w S ⟨l.toArray⟩ k (a : Int) hS
  rw [if_pos ⟨by omega, by rw [sv_size]; omega⟩, ByteArray.extract_mk, sv_size] at h
  simp only [Int.toNat_natCast] at h
  rw [List.take_of_length_le (by rw [List.length_drop]; omega)] at h
  simp only [execOp, ho, hr.ev hx, Option.map_none, Option.map_some, hr.ev hy, run_sliceAt_string w S _ _ _ _ hS, Sem.run_bind, h, Result.andThen_ok, Sem.run_pure]
end Go.Sx

/- The library's variables that a reader of texts meets; errors compared with nil; the library's Split, Cut and ParseInt, as our contracts say them; what is laid and the shape, both handed on. -/
set_option linter.unusedVariables false
set_option linter.unusedSimpArgs false
namespace Go.Sx
open Go Go.RowKit
variable {C : Cx} {env env' : Env} {m m' : List Ent} {o : Oper} {K : Env → List Ent → Prop}
/-- The three variables of the library that a reader of texts meets. -/
structure RdO (gm gs gr : Nat) (w : World) : Prop where
  max : ∃ m, w.cell? ⟨gm, 0, none⟩ = some (.int .i64 m)
  syn : ∃ v, w.cell? ⟨gs, 0, none⟩ = some v ∧ (v = .nilIface ∨ ∃ te pe, v = .iface te pe)
  rng : ∃ v, w.cell? ⟨gr, 0, none⟩ = some v ∧ (v = .nilIface ∨ ∃ te pe, v = .iface te pe)
theorem cell_below {w w' : World} {g : Nat} {v : Value} (hb : Below w.heap.size w w') (h : w.cell? ⟨g, 0, none⟩ = some v) : w'.cell? ⟨g, 0, none⟩ = some v :=
  (hb.cell (p := ⟨g, 0, none⟩) (World.block_lt_of_cell? _ _ h)).trans h
theorem RdO.below {a b c w w'} (h : RdO a b c w) (hb : Below w.heap.size w w') : RdO a b c w' :=
  ⟨h.max.imp fun _ h => cell_below hb h, h.syn.imp fun _ h => ⟨cell_below hb h.1, h.2⟩, h.rng.imp fun _ h => ⟨cell_below hb h.1, h.2⟩⟩
theorem RdO.keep {a b c w0 m w} (h : RdO a b c w0) (hh : Holds w0.heap.size w0 m w) : RdO a b c w := h.below hh.below
/-- An error: nil, or something. -/
def errV (b : Bool) (t : TypeId) (v : Value) : Value := if b then .nilIface else .iface t v
theorem errV_eq (b : Bool) (t : TypeId) (v : Value) {T : TypeId} {P : Program} {w : World} (h : P.isIface T = true) : (Op.equal T (errV b t v) .nilIface).run P w = .ok b w := by
  cases b
  · exact run_equalIn_iface_nil w 9999 T h t v
  · exact run_equalIn_nil_nil_at w 9999 T h
theorem fr_eql_err {T x c T' b t v ms} (ho : o.op = .binOp .eql T x (.const c) T') (hx : ev env x = some (errV b t v)) (hy : ev env (.const c) = some .nilIface) (hT : C.P.underlying T = some (.interface ms)) : Free C o env m (.bool b) := by
  intro a w hr _
  have hi : C.P.isIface T = true := by simp [Program.isIface, hT]
  have h : (binOp .eql T (errV b t v) .nilIface).run C.P w = .ok (.bool b) w := by
    have e : binOp .eql T (errV b t v) .nilIface = (do pure (.bool (← Op.equal T (errV b t v) .nilIface))) := by cases b <;> rfl
    rw [e]
    simp only [Sem.run_bind, errV_eq b t v hi, Result.andThen_ok, Sem.run_pure]
  have hg : (eqGuard .eql T x (.const c) (errV b t v) .nilIface).run C.P w = .ok () w := by
    cases b
    · show (eqGuard .eql T x (.const c) (.iface t v) .nilIface).run C.P w = _
      rw [eqGuard_at_iface]; rfl
    · show (eqGuard .eql T x (.const c) .nilIface .nilIface).run C.P w = _
      rw [eqGuard_nil_constR]; rfl
  simp only [execOp, ho, hr.ev hx, hr.ev hy, Sem.run_bind, hg, Result.andThen_ok, h]; rfl
theorem fr_neq_err {T x c T' b t v ms} (ho : o.op = .binOp .neq T x (.const c) T') (hx : ev env x = some (errV b t v)) (hy : ev env (.const c) = some .nilIface) (hT : C.P.underlying T = some (.interface ms)) : Free C o env m (.bool (!b)) := by
  intro a w hr _
  have hi : C.P.isIface T = true := by simp [Program.isIface, hT]
  have h : (binOp .neq T (errV b t v) .nilIface).run C.P w = .ok (.bool (!b)) w := by
    have e : binOp .neq T (errV b t v) .nilIface = (do pure (.bool (!(← Op.equal T (errV b t v) .nilIface)))) := by cases b <;> rfl
    rw [e]
    simp only [Sem.run_bind, errV_eq b t v hi, Result.andThen_ok, Sem.run_pure]
  have hg : (eqGuard .neq T x (.const c) (errV b t v) .nilIface).run C.P w = .ok () w := by
    cases b
    · show (eqGuard .neq T x (.const c) (.iface t v) .nilIface).run C.P w = _
      rw [eqGuard_at_iface]; rfl
    · show (eqGuard .neq T x (.const c) .nilIface .nilIface).run C.P w = _
      rw [eqGuard_nil_constR]; rfl
  simp only [execOp, ho, hr.ev hx, hr.ev hy, Sem.run_bind, hg, Result.andThen_ok, h]; rfl
/-- The pieces that the library's Split lays are a row of ours. -/
theorem splitB_pieces (c : UInt8) (t : List UInt8) : (Lib.splitB (mkB [c]) 0 (Lib.countB (mkB t) (mkB [c])) (mkB t)).map (·.data.toList) = W.splitA c [] t := by
  rw [Lib.splitB_data]
  exact W.split_eq c t
theorem split_row {w : World} {T : TypeId} (c : UInt8) (t : List UInt8) (hl : t.length ≤ 281474976710656) :
    (Value.slice (some ⟨w.heap.size, 0, none⟩) (Lib.countB (mkB t) (mkB [c]) + 1) (Lib.countB (mkB t) (mkB [c]) + 1) = Value.slice (some ⟨w.heap.size, 0, none⟩) (W.splitA c [] t).length (W.splitA c [] t).length) ∧
    Ent.holds w.heap.size (w.alloc (.cells ((Lib.splitB (mkB [c]) 0 (Lib.countB (mkB t) (mkB [c])) (mkB t)).map Value.string).toArray T)) (.row (.slice (some ⟨w.heap.size, 0, none⟩) (W.splitA c [] t).length (W.splitA c [] t).length) T 1 (W.splitA c [] t).length ((W.splitA c [] t).flatMap eSt)) := by
  have hp := splitB_pieces c t
  have hlen : Lib.countB (mkB t) (mkB [c]) + 1 = (W.splitA c [] t).length := by
    rw [← hp, List.length_map, Lib.splitB_all (mkB [c]) (by show 1 ≤ 1; decide) 0 _ (mkB t) rfl]
  have hlt := Lib.countB_le (mkB [c]) (by show 1 ≤ 1; decide) (mkB t).size (mkB t) (Nat.le_refl _)
  have hsz : (mkB t).size = t.length := by simp [mkB, ByteArray.size]
  have hcells : (Lib.splitB (mkB [c]) 0 (Lib.countB (mkB t) (mkB [c])) (mkB t)).map Value.string = (W.splitA c [] t).flatMap eSt := by
    rw [← hp]
    generalize Lib.splitB (mkB [c]) 0 (Lib.countB (mkB t) (mkB [c])) (mkB t) = bs
    induction bs with
    | nil => rfl
    | cons b r ih => rw [List.map_cons, ih]; rfl
  refine ⟨by rw [hlen], ?_, .inr ⟨w.heap.size, _, ((Lib.splitB (mkB [c]) 0 (Lib.countB (mkB t) (mkB [c])) (mkB t)).map Value.string).toArray, rfl, Nat.le_refl _, ?_, Nat.le_refl _, ?_, ?_, ?_⟩⟩
  · rw [flat_len eSt_len, Nat.mul_one]
  · show (w.heap.push _)[w.heap.size]? = _
    simp
  · rw [← hlen]; unfold maxLen; omega
  · rw [List.size_toArray, hcells, flat_len eSt_len]
  · rw [hcells, Nat.mul_one]
    exact List.take_of_length_le (by rw [List.toList_toArray, flat_len eSt_len]; omega)
theorem below_alloc (w : World) (o : Obj) : Below w.heap.size w (w.alloc o) := ⟨rfl, rfl, rfl, by show w.heap.size ≤ (w.heap.push o).size; rw [Array.size_push]; omega, fun j hj => by
  show (w.heap.push o)[j]? = _
  rw [Array.getElem?_push, if_neg (by omega)]⟩
theorem fr_subZ {T x y T' p q} (ho : o.op = .binOp .sub T x y T') (hx : ev env x = some (.int .u8 p)) (hy : ev env y = some (.int .u8 q)) (h : 0 ≤ p - q ∧ p - q ≤ 255) : Free C o env m (.int .u8 (p - q)) := by
  have := fr_sub (C := C) (m := m) ho hx hy
  rwa [IntWalk.u8_in _ h] at this
theorem below_drew (w : World) (k : Nat) : Below w.heap.size w (w.drewN k) := ⟨rfl, rfl, rfl, Nat.le_refl _, fun _ _ => rfl⟩
end Go.Sx
namespace Go
variable {H : Type} {enc : TypeId × Value → H}
/-- What is laid and the world's shape, both handed on. -/
theorem handed_and_shaped {a : Assume} {C : Checked} {os : Os} {f : FuncId} {fn : Func} {s : ChangeSpec} {conds : List PathCond} {apart fresh handsOn again : Bool} {X : World → Array Value → Prop}
    (hX : ∀ (w w' : World) (args : Array Value), w.heap = w'.heap → X w args → X w' args)
    (own : ownKnob C.prog.godebug = none) (started : os.Started) (noInit : C.prog.inits.idxOf? f = none) (hfn : C.prog.funcs[f]? = some fn)
    (witness : ∃ (w : World) (tape : Tape) (i : Input), w.os = os ∧ (w.forCall tape i).Shaped C.prog ∧ i.vars = [] ∧ Input.okWide C.prog (w.forCall tape i) .any w.heap.size f i ∧
      ((s.pre enc C.prog fn conds apart (w.forCall tape i).memory i.args ∧ X (w.forCall tape i).memory i.args) ∧ sizedMet enc C.prog fn (OpenSpec.ofChange s) apart (w.forCall tape i).memory i.args) ∧ a.holds C.prog (lone (Frame.enter C.prog f i.args .normal) [] (w.forCall tape i)))
    (contract : ∀ (W : World) (base : Nat) (args : Array Value) (ds gs : List (DataW H)) (before : List MemPlace),
      (∀ (j : Nat) t v, fn.params[j]? = some t → args[j]? = some v → Value.okWide C.prog W .any base t v) →
      DataW.Whole enc C.prog fn.params.toList s.vars apart W args.toList ds gs before →
      conds.all (PathCond.test C.prog ⟨fn.params.toList, ds, s.plain.varTypes C.prog, gs⟩) = true →
      (DataW.weightsEach C.prog (fn.params.toList ++ s.plain.varTypes C.prog) (ds ++ gs)).all (· ≤ reachBytes) = true → X W args → W.ShapedOpen C.prog →
      a.holds C.prog (lone (Frame.enter C.prog f args .normal) [] W) →
      Calls C.prog f args W fun e W' => ∃ v, e = .returned v ∧ s.post enc C.prog fn apart fresh handsOn again W args v W') :
    ReturnsInHanded a C os f .any (fun w args => (s.pre enc C.prog fn conds apart w args ∧ X w args) ∧ sizedMet enc C.prog fn (OpenSpec.ofChange s) apart w args) (s.post enc C.prog fn apart fresh handsOn again) := by
  refine returnsInHanded_of_calls own started noInit witness ?_
  intro w tape i _ hsh _ hok hpre hholds
  obtain ⟨_, _, _, fn', hfn', _, _, _, _, hval⟩ := hok
  have e : fn' = fn := Option.some.inj (hfn'.symm.trans hfn)
  subst e
  obtain ⟨⟨⟨ds, gs, before, hw, hc⟩, hx⟩, hz⟩ := hpre
  have hw' := DataW.Whole.of_heap (w' := w.forCall tape i) (by rfl) hw
  refine (contract (w.forCall tape i) w.heap.size i.args ds gs before hval hw' hc (hz.weights hw) (hX _ _ _ (by rfl) hx) hsh hholds).mono fun e W' ⟨v, he, hp⟩ => ?_
  subst he
  exact ChangeSpec.post_blind hp
end Go

/- What the readers of digits carry on. -/
set_option linter.unusedVariables false
set_option linter.unusedSimpArgs false
namespace Go.Sx
open Go Go.RowKit
variable {C : Cx} {env env' : Env} {m m' : List Ent} {o : Oper} {K : Env → List Ent → Prop}
theorem fr_sub64J {T x y T' p q} (j : Nat) (ho : o.op = .binOp .sub T x y T') (hx : ev env x = some (.int .i64 p)) (hy : ev env y = some (.int .i64 q)) (h : p - q = (j : Int)) (hj : j ≤ 4611686018427387904) : Free C o env m (.int .i64 (j : Int)) := by
  have := fr_sub64 (C := C) (m := m) ho hx hy (by omega)
  rwa [h] at this
theorem set_put {α : Type} {f : α → List Value} {sz : Nat} (hf : ∀ x, (f x).length = sz) (xs : List α) (k : Nat) (y : α) (h : k < xs.length) {i : Nat} (hi : i = k * sz) {v : List Value} (hv : v = f y) : put (xs.flatMap f) i v = (xs.set k y).flatMap f := by
  subst hi hv
  exact flat_put hf xs k y h
end Go.Sx
namespace Go.W
open Go Go.Sx
/-- Digits laid so far. -/
structure DgS where
  k : Nat
  d : List Int
def zeros8 : List Int := [0, 0, 0, 0, 0, 0, 0, 0]
theorem nums_set {d : List Int} (h : Nums 255 d) {i : Nat} {n : Int} (hn : 0 ≤ n ∧ n ≤ 255) : Nums 255 (d.set i n) := fun x hx => by
  rcases List.mem_or_eq_of_mem_set hx with h1 | h1
  · exact h x h1
  · subst h1; exact hn
theorem nums_z : Nums 255 zeros8 := fun x hx => by
  simp only [zeros8, List.mem_cons, List.not_mem_nil, or_false, or_self] at hx
  subst hx
  exact ⟨by decide, by decide⟩
theorem take3 {w : List UInt8} {j : Nat} (h : j ≤ 3) (h1 : j = w.length ∨ j = 3) : w.take j = w.take 3 := by
  rcases h1 with rfl | rfl
  · rw [List.take_length, List.take_of_length_le h]
  · rfl
/-- The digits that the specification reads, if there are any. -/
def L01 (s : List Int) (t : List UInt8) (x : Dig × Bool) : Prop := Nums 255 x.1.l ∧ ((x.2 = true ∧ validDig s x.1.l = true ∧ digT s x.1.l = t) ∨ (x.2 = false ∧ NoDig s t))
theorem l01_no {s : List Int} {t : List UInt8} (h : NoDig s t) : L01 s t (dig0, false) := ⟨nums_z, .inr ⟨rfl, h⟩⟩
theorem l01_yes {s : List Int} {t : List UInt8} {d : List Int} (hs : Stk s) (h8 : d.length = 8) (hn : Nums 255 d) (hl : (splitA 58 [] t).length = s.length) (h : DigB s t d s.length) : L01 s t (dig d, true) := by
  have := digB_end hs hl h
  unfold L01
  rw [dig_l h8]
  exact ⟨hn, .inl ⟨rfl, this⟩⟩
/-- What is read of a text for a stack, a valid one or not. -/
def RdDig (s : List Int) (t : List UInt8) (x : Dig × Int) : Prop := (validStack s = false ∧ x = (dig0, 1)) ∨ (validStack s = true ∧ DigRd s t x)
theorem rdDig_one {s : List Int} {t : List UInt8} {x y : Dig × Int} (hx : RdDig s t x) (hy : RdDig s t y) : x = y := by
  rcases hx with ⟨a, rfl⟩ | ⟨a, hx⟩
  · rcases hy with ⟨_, rfl⟩ | ⟨b, _⟩
    · rfl
    · rw [a] at b; cases b
  · rcases hy with ⟨b, _⟩ | ⟨b, hy⟩
    · rw [a] at b; cases b
    · exact digRd_one (stk a) hx hy
theorem rdDig_num {s : List Int} {t : List UInt8} {x : Dig × Int} (hx : RdDig s t x) : Nums 255 x.1.l := by
  rcases hx with ⟨_, rfl⟩ | ⟨_, hx⟩
  · exact nums_z
  · exact hx.1
theorem rdDig_v {s : List Int} {t : List UInt8} (h : validStack s = false) : RdDig s t (dig0, 1) := .inl ⟨h, rfl⟩
theorem rdDig_no {s : List Int} {t : List UInt8} (h : validStack s = true) (h1 : NoDig s t) : RdDig s t (dig0, 5) := .inr ⟨h, nums_z, .inr ⟨rfl, rfl, h1⟩⟩
theorem rdDig_f {s : List Int} {t : List UInt8} {x : Dig × Bool} (h : validStack s = true) (h1 : L01 s t x) (h2 : x.2 = false) : RdDig s t (dig0, 5) := by
  rcases h1.2 with ⟨e, _⟩ | ⟨_, e⟩
  · rw [h2] at e; cases e
  · exact rdDig_no h e
theorem rdDig_t {s : List Int} {t : List UInt8} {x : Dig × Bool} (h : validStack s = true) (h1 : L01 s t x) (h2 : x.2 = true) : RdDig s t (x.1, 0) := by
  rcases h1.2 with ⟨_, e⟩ | ⟨e, _⟩
  · exact .inr ⟨h, h1.1, .inl ⟨rfl, e⟩⟩
  · rw [h2] at e; cases e
/-- The program's digits have the text: they are valid. -/
theorem rdDig_i {s : List Int} {t : List UInt8} {d : List Int} (h : validStack s = true) (h8 : d.length = 8) (hn : Nums 255 d) (hl : (splitA 58 [] t).length = s.length) (hd : DigU s t d s.length) (ht : digTx s (dig d).l = t) : RdDig s t (dig d, 0) := by
  refine .inr ⟨h, ?_⟩
  unfold DigRd
  rw [dig_l h8] at ht ⊢
  refine ⟨hn, .inl ⟨rfl, ?_⟩⟩
  cases hv : validDig s d
  · exfalso
    rw [digTx_f (by rw [h, hv]; rfl)] at ht
    subst ht
    have hs := stk h
    have h1 := hs.len1
    have hl : [[]].length = s.length := hl
    simp only [List.length_cons, List.length_nil] at hl
    have h2 := (hd 0 (by omega)).1 (by omega) (by omega)
    rw [show s.length - 1 - 0 = 0 by omega] at h2
    have h3 : U7 [] (d.getD 0 0) := h2
    have h4 := h3.2.2
    exact absurd h4 (by simp [Lib.parseUintB])
  · exact ⟨rfl, by rw [← ht]; exact (digTx_t (by rw [h, hv]; rfl)).symm⟩
theorem rdDig_n {s : List Int} {t : List UInt8} {d : List Int} (h : validStack s = true) (h8 : d.length = 8) (hd : DigU s t d s.length) (ht : ¬ digTx s (dig d).l = t) : RdDig s t (dig0, 5) :=
  rdDig_no h (ndg_end h (d := dig d) (by rw [dig_l h8]; exact hd) ht)
/-! ### ParseUint at seven bits -/
def PUint (t : List UInt8) (n : Int) (b : Bool) : Prop := (0 ≤ n ∧ n ≤ 127) ∧ (b = true → U7 t n) ∧ (b = false → ∀ u, ¬ U7 t u)
theorem pum_dig {acc : Nat} {c : UInt8} {r : List UInt8} (h : isDig c) (h0 : acc ≤ 127) (h1 : acc * 10 + (c.toNat - 48) ≤ 127) : Lib.parseUintM 127 acc (c :: r) = Lib.parseUintM 127 (acc * 10 + (c.toNat - 48)) r := by
  unfold isDig at h
  rw [Lib.parseUintM, if_pos h, if_neg (by omega), if_neg (by omega)]
theorem pum_over {acc : Nat} {c : UInt8} {r : List UInt8} (h : isDig c) (h0 : acc ≤ 127) (h1 : 127 < acc * 10 + (c.toNat - 48)) : Lib.parseUintM 127 acc (c :: r) = .range := by
  unfold isDig at h
  rw [Lib.parseUintM, if_pos h, if_neg (by omega), if_pos h1]
theorem pum_no {acc : Nat} {c : UInt8} {r : List UInt8} (h : ¬ isDig c) : Lib.parseUintM 127 acc (c :: r) = Lib.parseUintB 7 [] := by
  unfold isDig at h
  rw [Lib.parseUintM, if_neg h]; rfl
/-- What has been read of a text's first k bytes. -/
def PUm (t : List UInt8) (k : Nat) (n : Nat) : Prop := n ≤ 127 ∧ Lib.parseUintM 127 0 t = Lib.parseUintM 127 n (t.drop k)
theorem pUm_0 (t : List UInt8) : PUm t 0 0 := ⟨by decide, rfl⟩
theorem pUm_s {t : List UInt8} {k n : Nat} (hk : k < t.length) (h : PUm t k n) (hd : isDig (t.getD k 0)) (h1 : n * 10 + ((t.getD k 0).toNat - 48) ≤ 127) : PUm t (k + 1) (n * 10 + ((t.getD k 0).toNat - 48)) := by
  refine ⟨h1, ?_⟩
  rw [h.2, drop_getD hk, pum_dig hd h.1 h1]
/-- The end that ParseUint comes to. -/
def PEnd (t : List UInt8) (x : Int × Int) : Prop := (x.2 = 0 ∧ U7 t x.1) ∨ (x.2 ≠ 0 ∧ (0 ≤ x.1 ∧ x.1 ≤ 127) ∧ (∀ u, ¬ U7 t u) ∧ (x.2 = 1 ∨ x.2 = 2))
theorem u7_no {t : List UInt8} (h : ∀ n, Lib.parseUintB 7 t ≠ .ok n) : ∀ u, ¬ U7 t u := fun u hu => h _ hu.2.2
theorem puB {t : List UInt8} (h : ¬ t = []) : Lib.parseUintB 7 t = Lib.parseUintM 127 0 t := by unfold Lib.parseUintB; rw [if_neg h]
theorem pend_e {t : List UInt8} (h : t = []) : PEnd t (0, 2) := .inr ⟨by decide, ⟨by decide, by decide⟩, u7_no (fun n => by subst h; simp [Lib.parseUintB]), .inr rfl⟩
theorem pend_no {t : List UInt8} {k n : Nat} (h : ¬ t = []) (hk : k < t.length) (hp : PUm t k n) (hd : ¬ isDig (t.getD k 0)) : PEnd t (0, 2) := .inr ⟨by decide, ⟨by decide, by decide⟩, u7_no (fun m => by rw [puB h, hp.2, drop_getD hk, pum_no hd]; simp [Lib.parseUintB]), .inr rfl⟩
theorem pend_over {t : List UInt8} {k n : Nat} (h : ¬ t = []) (hk : k < t.length) (hp : PUm t k n) (hd : isDig (t.getD k 0)) (h1 : 127 < n * 10 + ((t.getD k 0).toNat - 48)) : PEnd t (127, 1) := .inr ⟨by decide, ⟨by decide, by decide⟩, u7_no (fun m => by rw [puB h, hp.2, drop_getD hk, pum_over hd hp.1 h1]; simp), .inl rfl⟩
theorem pend_ok {t : List UInt8} {k n : Nat} (h : ¬ t = []) (hk : k = t.length) (hp : PUm t k n) : PEnd t ((n : Int), 0) := .inl ⟨rfl, by simp only; omega, by have := hp.1; simp only; omega, by
  rw [puB h, hp.2, hk, List.drop_length]; rfl⟩
end Go.W
namespace Go.W
open Go Go.Sx
theorem pum_bd : ∀ (l : List UInt8) (a u : Nat), a ≤ 127 → Lib.parseUintM 127 a l = .ok u → u ≤ 127
  | [], a, u, ha, h => by
    injection h with h
    omega
  | c :: r, a, u, ha, h => by
    unfold Lib.parseUintM at h
    split at h
    · split at h
      · cases h
      · split at h
        · cases h
        · exact pum_bd r _ u (by omega) h
    · cases h
theorem puint_ok {t : List UInt8} {u : Nat} (h : Lib.parseUintB 7 t = .ok u) : PUint t u true := by
  have hb : u ≤ 127 := by
    unfold Lib.parseUintB at h
    split at h
    · cases h
    · exact pum_bd t 0 u (by decide) h
  refine ⟨⟨by omega, by omega⟩, fun _ => ⟨by omega, by omega, by rw [Int.toNat_natCast]; exact h⟩, ?_⟩
  intro e; exact absurd e (by simp)
theorem puint_no {t : List UInt8} {n : Int} (hn : 0 ≤ n ∧ n ≤ 127) (h : ∀ u, Lib.parseUintB 7 t ≠ .ok u) : PUint t n false := by
  refine ⟨hn, ?_, fun _ u hu => h _ hu.2.2⟩
  intro e; exact absurd e (by simp)
end Go.W

/- Tickets read from their texts: a ticket is read iff the text is its own. -/
set_option linter.unusedVariables false
set_option linter.unusedSimpArgs false
namespace Go.W
open Go Go.Sx
theorem val_inj {s l l' : List Int} (hs : Stk s) (h : DigOk s l) (h' : DigOk s l') (hn : s.length ≤ l.length) (hn' : s.length ≤ l'.length) : ∀ j k, k + j = s.length → val (s.drop k) (l.drop k) = val (s.drop k) (l'.drop k) → ∀ i, k ≤ i → i < s.length → l.getD i 0 = l'.getD i 0
  | 0, k, hk, _, i, h1, h2 => by omega
  | j + 1, k, hk, hv, i, h1, h2 => by
    have hb := hs.bases k (by omega)
    have a1 := h k (by omega)
    have a2 := h' k (by omega)
    rw [val_drop (s := s) (l := l) (k := k) (by omega) (by omega), val_drop (s := s) (l := l') (k := k) (by omega) (by omega)] at hv
    have key : l.getD k 0 = l'.getD k 0 ∧ val (s.drop (k + 1)) (l.drop (k + 1)) = val (s.drop (k + 1)) (l'.drop (k + 1)) := by
      generalize val (s.drop (k + 1)) (l.drop (k + 1)) = x at hv ⊢
      generalize val (s.drop (k + 1)) (l'.drop (k + 1)) = y at hv ⊢
      generalize l.getD k 0 = p at *
      generalize l'.getD k 0 = q at *
      generalize s.getD k 0 = b at *
      have e1 : (p + b * x) % b = p := by rw [Int.add_mul_emod_self_left, Int.emod_eq_of_lt a1.1 a1.2]
      have e2 : (q + b * y) % b = q := by rw [Int.add_mul_emod_self_left, Int.emod_eq_of_lt a2.1 a2.2]
      have hpq : p = q := by rw [hv, e2] at e1; exact e1.symm
      refine ⟨hpq, ?_⟩
      subst hpq
      have h3 : b * x = b * y := by omega
      exact Int.eq_of_mul_eq_mul_left (by omega) h3
    by_cases hik : i = k
    · subst hik; exact key.1
    · exact val_inj hs h h' hn hn' j (k + 1) (by omega) key.2 i (by omega) h2
/-- Digits are those of their value. -/
theorem dig_val {s : List Int} {d : Dig} (hs : Stk s) (hn : Nums 255 d.l) (hv : validDig s d.l = true) : dig (digs s (val s d.l)) = d := by
  have h8 := hs.len8
  have hd := digOk h8 hn hv
  have hb := val_lt hs hd (by rw [dig_len]; omega)
  have e := val_of' hs hb.1 hb.2
  apply dig_inj
  rw [dig_l (digs_len _ _)]
  apply List.ext_getElem (by rw [digs_len, dig_len])
  intro i h1 h2
  have hi : i < 8 := h2
  have key : (digs s (val s d.l)).getD i 0 = d.l.getD i 0 := by
    by_cases his : i < s.length
    · refine val_inj hs (digs_ok hs) hd (by rw [digs_len]; omega) (by rw [dig_len]; omega) s.length 0 (by omega) ?_ i (Nat.zero_le _) his
      simpa using e
    · rw [digs_at hi, if_neg his]
      unfold validDig at hv
      rw [List.all_eq_true] at hv
      have := hv i (List.mem_range.2 hi)
      unfold goodAt at this
      rw [if_neg his, decide_eq_true_iff] at this
      exact this.symm
  rw [List.getD, List.getD, List.getElem?_eq_getElem h1, List.getElem?_eq_getElem h2] at key
  exact key
theorem dsv_val {s : List Int} {d : Dig} (hs : Stk s) (hn : Nums 255 d.l) (hv : validDig s d.l = true) : dsv s (val s d.l) = d.l := by
  unfold dsv
  rw [dig_val hs hn hv]
theorem digT_no {s l : List Int} {c : UInt8} (hs : Stk s) (hd : DigOk s l) (hc : c.toNat < 48) : c ∉ digT s l := by
  have h58 : c ≠ 58 := fun e => by subst e; exact absurd hc (by decide)
  unfold digT
  have key : ∀ xs : List (List UInt8), (∀ x ∈ xs, c ∉ x) → c ∉ Lib.join xs [58] := fun xs => by
    induction xs with
    | nil => intro _; simp [Lib.join, List.intercalate]
    | cons x r ih =>
      intro h
      cases r with
      | nil => rw [Lib.join_one]; exact h x (by simp)
      | cons y q =>
        rw [join_cons2, List.mem_append, List.mem_append, not_or, not_or]
        exact ⟨⟨h x (by simp), by simpa using h58⟩, ih fun z hz => h z (List.mem_cons_of_mem _ hz)⟩
  refine key _ fun x hx => ?_
  obtain ⟨i, hi, rfl⟩ := List.mem_map.1 hx
  have hi := List.mem_range.1 hi
  have h2 := hd (s.length - 1 - i) (by omega)
  exact dg_no h2.1 (.inl hc)
/-! ### Tickets -/
def tic0 : VTic := ⟨0, dig0, 0⟩
def NoTic (s : List Int) (t : List UInt8) : Prop := ∀ k : VTic, OkTic k → genT s k = true → ticT s k ≠ t
structure TicP (s : List Int) (t : List UInt8) (k : VTic) : Prop where
  len : (splitA 32 [] t).length = 3
  p0 : (splitA 32 [] t).getD 0 [] = Lib.itoa k.number
  p1 : (splitA 32 [] t).getD 1 [] = digT s k.shows.l
  p2 : (splitA 32 [] t).getD 2 [] = Lib.itoa k.check
  num : 1 ≤ k.number ∧ k.number ≤ 1000000
  val_ : validDig s k.shows.l = true
theorem tic_parts {s : List Int} {t : List UInt8} {k : VTic} (hs : Stk s) (hk : OkTic k) (hg : genT s k = true) (ht : ticT s k = t) : TicP s t k := by
  obtain ⟨h1, h2, h3⟩ := gen_of hg
  have hd := digOk hs.len8 hk.2.1 h2
  have e : ticT s k = Lib.join [Lib.itoa k.number, digT s k.shows.l, Lib.itoa k.check] [32] := by
    rw [join_cons2, join_cons2, Lib.join_one]
    unfold ticT
    simp [List.append_assoc]
  have hp : splitA 32 [] t = [Lib.itoa k.number, digT s k.shows.l, Lib.itoa k.check] := by
    rw [← ht, e]
    refine split_join _ (by simp) fun y hy => ?_
    simp only [List.mem_cons, List.not_mem_nil, or_false] at hy
    rcases hy with rfl | rfl | rfl
    · exact itoa_no (by omega) (by decide)
    · exact digT_no hs hd (by decide)
    · exact itoa_no hk.2.2.1 (by decide)
  exact ⟨by rw [hp]; rfl, by rw [hp]; rfl, by rw [hp]; rfl, by rw [hp]; rfl, h1, h2⟩
theorem tic_join {s : List Int} {t : List UInt8} {n c : Int} {d : Dig} (h : (splitA 32 [] t).length = 3) (h0 : (splitA 32 [] t).getD 0 [] = Lib.itoa n) (h1 : (splitA 32 [] t).getD 1 [] = digT s d.l) (h2 : (splitA 32 [] t).getD 2 [] = Lib.itoa c) : ticT s ⟨n, d, c⟩ = t := by
  have hj := join_split 32 t []
  rcases hp : splitA 32 [] t with _ | ⟨a, _ | ⟨b, _ | ⟨e, _ | ⟨f, r⟩⟩⟩⟩ <;> rw [hp] at h <;> simp only [List.length_cons, List.length_nil] at h <;> first | omega | skip
  rw [hp] at h0 h1 h2 hj
  have h0 : a = Lib.itoa n := h0
  have h1 : b = digT s d.l := h1
  have h2 : e = Lib.itoa c := h2
  rw [join_cons2, join_cons2, Lib.join_one, h0, h1, h2] at hj
  unfold ticT
  simpa [List.append_assoc] using hj
theorem tic_inj {s : List Int} {k k' : VTic} (hs : Stk s) (hk : OkTic k) (hk' : OkTic k') (hg : genT s k = true) (hg' : genT s k' = true) (h : ticT s k = ticT s k') : k = k' := by
  have a := tic_parts hs hk hg h
  have b := tic_parts hs hk' hg' rfl
  have e0 : k.number = k'.number := itoa_inj (by have := a.num; omega) (by have := b.num; omega) (a.p0.symm.trans b.p0)
  have e2 : k.check = k'.check := itoa_inj (by have := hk.2.2; omega) (by have := hk'.2.2; omega) (a.p2.symm.trans b.p2)
  have e1 : k.shows = k'.shows := dig_one hs hk.2.1 hk'.2.1 a.val_ b.val_ (a.p1.symm.trans b.p1)
  cases k; cases k'
  simp only at e0 e1 e2
  rw [e0, e1, e2]
def RdTic (s : List Int) (t : List UInt8) (x : VTic × Int) : Prop := OkTic x.1 ∧ ((validStack s = false ∧ x = (tic0, 1)) ∨ (validStack s = true ∧ ((x.2 = 0 ∧ genT s x.1 = true ∧ ticT s x.1 = t) ∨ (x.2 = 5 ∧ x.1 = tic0 ∧ NoTic s t))))
theorem okTic0 : OkTic tic0 := ⟨⟨by decide, by decide⟩, nums_z, by decide, by decide⟩
theorem rdTic_v {s : List Int} {t : List UInt8} (h : validStack s = false) : RdTic s t (tic0, 1) := ⟨okTic0, .inl ⟨h, rfl⟩⟩
theorem rdTic_no {s : List Int} {t : List UInt8} (h : validStack s = true) (h1 : NoTic s t) : RdTic s t (tic0, 5) := ⟨okTic0, .inr ⟨h, .inr ⟨rfl, rfl, h1⟩⟩⟩
theorem rdTic_one {s : List Int} {t : List UInt8} {x y : VTic × Int} (hx : RdTic s t x) (hy : RdTic s t y) : x = y := by
  obtain ⟨ox, hx⟩ := hx
  obtain ⟨oy, hy⟩ := hy
  rcases hx with ⟨a, rfl⟩ | ⟨a, hx⟩
  · rcases hy with ⟨_, rfl⟩ | ⟨b, _⟩
    · rfl
    · rw [a] at b; cases b
  · rcases hy with ⟨b, _⟩ | ⟨b, hy⟩
    · rw [a] at b; cases b
    · rcases hx with ⟨c1, c2, c3⟩ | ⟨c1, c2, c3⟩ <;> rcases hy with ⟨d1, d2, d3⟩ | ⟨d1, d2, d3⟩
      · exact Prod.ext (tic_inj (stk a) ox oy c2 d2 (c3.trans d3.symm)) (c1.trans d1.symm)
      · exact absurd c3 (d3 x.1 ox c2)
      · exact absurd d3 (c3 y.1 oy d2)
      · exact Prod.ext (c2.trans d2.symm) (c1.trans d1.symm)
theorem nt_len {s : List Int} {t : List UInt8} (h : validStack s = true) (h3 : (splitA 32 [] t).length ≠ 3) : NoTic s t := fun k hk hg ht => h3 (tic_parts (stk h) hk hg ht).len
/-- Where the specification's readings are not all good, there is no ticket. -/
theorem nt_s {s : List Int} {t : List UInt8} {x : Dig × Bool} (h : validStack s = true) (hx : L01 s ((splitA 32 [] t).getD 1 []) x) (hb : ¬ ((numR 9 ((splitA 32 [] t).getD 0 [])).2 = true ∧ x.2 = true ∧ (numR 9 ((splitA 32 [] t).getD 2 [])).2 = true ∧ (numR 9 ((splitA 32 [] t).getD 2 [])).1 ≤ 65535 ∧ genT s ⟨(numR 9 ((splitA 32 [] t).getD 0 [])).1, x.1, (numR 9 ((splitA 32 [] t).getD 2 [])).1⟩ = true)) : NoTic s t := fun k hk hg ht => by
  have p := tic_parts (stk h) hk hg ht
  have e0 := numR_itoa (B := 9) (n := k.number) (by have := p.num; omega) (by have := p.num; omega) (by decide)
  have e2 := numR_itoa (B := 9) (n := k.check) hk.2.2.1 (by have := hk.2.2; omega) (by decide)
  rw [p.p0, p.p2, e0, e2] at hb
  have hxe : x.2 = true ∧ x.1 = k.shows := by
    rw [p.p1] at hx
    rcases hx.2 with ⟨a, b, c⟩ | ⟨a, b⟩
    · exact ⟨a, dig_one (stk h) hx.1 hk.2.1 b p.val_ c⟩
    · exact absurd rfl (b k.shows hk.2.1 p.val_)
  exact hb ⟨rfl, hxe.1, rfl, hk.2.2.2, by simp only; rw [hxe.2]; exact hg⟩
theorem rdTic_s {s : List Int} {t : List UInt8} {x : Dig × Bool} (h : validStack s = true) (h3 : (splitA 32 [] t).length = 3) (hx : L01 s ((splitA 32 [] t).getD 1 []) x) (h0 : (numR 9 ((splitA 32 [] t).getD 0 [])).2 = true) (h1 : x.2 = true) (h2 : (numR 9 ((splitA 32 [] t).getD 2 [])).2 = true) (hok : OkTic ⟨(numR 9 ((splitA 32 [] t).getD 0 [])).1, x.1, (numR 9 ((splitA 32 [] t).getD 2 [])).1⟩) (hg : genT s ⟨(numR 9 ((splitA 32 [] t).getD 0 [])).1, x.1, (numR 9 ((splitA 32 [] t).getD 2 [])).1⟩ = true) : RdTic s t (⟨(numR 9 ((splitA 32 [] t).getD 0 [])).1, x.1, (numR 9 ((splitA 32 [] t).getD 2 [])).1⟩, 0) := by
  refine ⟨hok, .inr ⟨h, .inl ⟨rfl, hg, ?_⟩⟩⟩
  rcases hx.2 with ⟨_, _, c⟩ | ⟨a, _⟩
  · exact tic_join h3 (numR_true h0).1 c.symm (numR_true h2).1
  · rw [h1] at a; cases a
/-- Where the program's readings are not all good, or the text is another one, there is no ticket. -/
theorem nt_i {s : List Int} {t : List UInt8} {x y : Int × Bool} {d : Dig × Int} (h : validStack s = true) (hx : RDec ((splitA 32 [] t).getD 0 []) x) (hd : RdDig s ((splitA 32 [] t).getD 1 []) d) (hy : RDec ((splitA 32 [] t).getD 2 []) y) (hb : ¬ (x.2 = true ∧ y.2 = true ∧ d.2 = 0 ∧ ticTx s ⟨x.1, d.1, IntKind.u16.wrap y.1⟩ = t)) : NoTic s t := fun k hk hg ht => by
  have p := tic_parts (stk h) hk hg ht
  obtain ⟨a1, a2⟩ := hx.2.2.1 k.number ⟨by have := p.num; omega, by have := p.num; omega⟩ p.p0
  obtain ⟨b1, b2⟩ := hy.2.2.1 k.check ⟨by have := hk.2.2; omega, by have := hk.2.2; omega⟩ p.p2
  have e : d = (k.shows, 0) := rdDig_one hd (.inr ⟨h, hk.2.1, .inl ⟨rfl, p.val_, p.p1.symm⟩⟩)
  refine hb ⟨a1, b1, by rw [e], ?_⟩
  have hw : IntKind.u16.wrap y.1 = k.check := by rw [b2]; exact IntWalk.u16_in _ hk.2.2
  rw [hw, a2, e]
  rw [ticTx_t h hg]
  exact ht
theorem rdTic_i {s : List Int} {t : List UInt8} {x y : Int × Bool} {d : Dig × Int} (h : validStack s = true) (h3 : (splitA 32 [] t).length = 3) (hok : OkTic ⟨x.1, d.1, IntKind.u16.wrap y.1⟩) (ht : ticTx s ⟨x.1, d.1, IntKind.u16.wrap y.1⟩ = t) : RdTic s t (⟨x.1, d.1, IntKind.u16.wrap y.1⟩, 0) := by
  refine ⟨hok, .inr ⟨h, .inl ⟨rfl, ?_⟩⟩⟩
  cases hg : genT s ⟨x.1, d.1, IntKind.u16.wrap y.1⟩
  · rw [ticTx_1 hg] at ht
    subst ht
    have h3 : ([[]] : List (List UInt8)).length = 3 := h3
    simp at h3
  · exact ⟨rfl, by rw [← ht]; exact (ticTx_t h hg).symm⟩
end Go.W

/- Stacks: a step down undoes a step up; complements; places. -/
set_option linter.unusedVariables false
set_option linter.unusedSimpArgs false
namespace Go.W
open Go Go.Sx
theorem mod_mul {v P b : Int} (hP : 0 < P) (hb : 0 < b) : v % (P * b) = v % P + v / P % b * P := by
  have h1 := Int.emod_add_mul_ediv v P
  have h2 := Int.emod_add_mul_ediv (v / P) b
  have a1 := Int.emod_nonneg v (show P ≠ 0 by omega)
  have a2 := Int.emod_lt_of_pos v hP
  have a3 := Int.emod_nonneg (v / P) (show b ≠ 0 by omega)
  have a4 := Int.emod_lt_of_pos (v / P) hb
  generalize v / P / b = q at *
  generalize v / P % b = r at *
  generalize v / P = y at *
  generalize v % P = x at *
  have hr0 : 0 ≤ r * P := Int.mul_nonneg a3 (by omega)
  have hr1 : r * P ≤ (b - 1) * P := Int.mul_le_mul_of_nonneg_right (by omega) (by omega)
  have hr2 : (b - 1) * P = P * b - P := by rw [Int.sub_mul, Int.one_mul, Int.mul_comm]
  have e : v = (x + r * P) + P * b * q := by
    rw [← h1, ← h2, Int.mul_add, ← Int.mul_assoc, Int.mul_comm P r]
    omega
  rw [e, Int.add_mul_emod_self_left, Int.emod_eq_of_lt (by omega) (by omega)]
theorem val_snoc : ∀ (s l : List Int) (b : Int), val (s ++ [b]) l = val s l + l.getD s.length 0 * prod s
  | [], l, b => by
    show l.headD 0 + b * val [] l.tail = 0 + l.getD 0 0 * 1
    rw [show val [] l.tail = 0 from rfl]
    cases l <;> simp
  | x :: s, l, b => by
    show l.headD 0 + x * val (s ++ [b]) l.tail = l.headD 0 + x * val s l.tail + l.getD (s.length + 1) 0 * (x * prod s)
    rw [val_snoc s l.tail b]
    have e : l.tail.getD s.length 0 = l.getD (s.length + 1) 0 := by cases l <;> simp
    rw [e, Int.mul_add, Int.add_assoc, Int.mul_left_comm]
theorem take_sI {l : List Int} {k : Nat} (h : k < l.length) : l.take (k + 1) = l.take k ++ [l.getD k 0] := by
  rw [List.take_succ_eq_append_getElem h]
  simp [List.getD, h]
theorem val_take {s l : List Int} {k : Nat} (h : k < s.length) : val (s.take (k + 1)) l = val (s.take k) l + l.getD k 0 * prod (s.take k) := by
  rw [take_sI h, val_snoc, List.length_take, Nat.min_eq_left (by omega)]
/-- The last digits are worth what is left. -/
theorem last_digs {s : List Int} {v : Int} (hs : Stk s) : ∀ k, k ≤ s.length → val (s.take k) (digs s v) = v % prod (s.take k)
  | 0, _ => by simp [val, prod, Int.emod_one]
  | k + 1, h => by
    have hb := hs.bases k (by omega)
    have hp := prod_pos (hs.bases.take k)
    rw [val_take (by omega), last_digs hs k (by omega), prod_take (by omega), mod_mul (by omega) (by omega), digs_lo hs.len8 (by omega)]
    rfl
/-- The digits that are left to the greatest value. -/
def compL (s l : List Int) : List Int := (List.range 8).map fun k => if k < s.length then s.getD k 0 - 1 - l.getD k 0 else l.getD k 0
theorem compL_len (s l : List Int) : (compL s l).length = 8 := by simp [compL]
theorem compL_at {s l : List Int} {k : Nat} (hk : k < 8) : (compL s l).getD k 0 = if k < s.length then s.getD k 0 - 1 - l.getD k 0 else l.getD k 0 := by
  simp [compL, List.getD, hk]
theorem comp_bd {s l : List Int} (hs : Stk s) (hl : DigOk s l) {k : Nat} (h : k < s.length) : 0 ≤ (compL s l).getD k 0 ∧ (compL s l).getD k 0 < s.getD k 0 := by
  have := hl k h
  have := hs.len8
  rw [compL_at (by omega), if_pos h]; omega
theorem val_comp {s l : List Int} (hs : Stk s) (h8 : l.length = 8) : ∀ j k, k + j = s.length → val (s.drop k) ((compL s l).drop k) = prod (s.drop k) - 1 - val (s.drop k) (l.drop k)
  | 0, k, h => by rw [val_end (by omega), val_end (by omega), List.drop_of_length_le (by omega)]; simp [prod]
  | j + 1, k, h => by
    have h88 := hs.len8
    rw [val_drop (by omega) (by rw [compL_len]; omega), val_drop (l := l) (by omega) (by omega), val_comp hs h8 j (k + 1) (by omega), prod_drop (s := s) (k := k) (by omega), compL_at (by omega), if_pos (by omega)]
    generalize prod (s.drop (k + 1)) = P
    generalize val (s.drop (k + 1)) (l.drop (k + 1)) = y
    generalize s.getD k 0 = b
    rw [Int.mul_sub, Int.mul_sub, Int.mul_one]
    omega
def compD (s : List Int) (a : Dig) : Dig := dig (compL s a.l)
theorem compD_l (s : List Int) (a : Dig) : (compD s a).l = compL s a.l := dig_l (compL_len _ _)
theorem compD_val {s : List Int} {a : Dig} (hs : Stk s) : val s (compD s a).l = prod s - 1 - val s a.l := by
  rw [compD_l]
  have := val_comp hs (dig_len a) s.length 0 (by omega)
  simpa using this
theorem vd_of {s l : List Int} (h : DigOk s l) (h0 : ∀ i, i < 8 → s.length ≤ i → l.getD i 0 = 0) : validDig s l = true := by
  unfold validDig
  rw [List.all_eq_true]
  intro i hi
  have hi : i < 8 := by simpa using hi
  unfold goodAt
  by_cases e : i < s.length
  · rw [if_pos e, decide_eq_true_iff]; exact (h i e).2
  · rw [if_neg e, decide_eq_true_iff]; exact h0 i hi (by omega)
theorem vd_rest {s l : List Int} (hv : validDig s l = true) {i : Nat} (hi : i < 8) (h : s.length ≤ i) : l.getD i 0 = 0 := by
  unfold validDig at hv
  rw [List.all_eq_true] at hv
  have := hv i (List.mem_range.2 hi)
  unfold goodAt at this
  rw [if_neg (by omega), decide_eq_true_iff] at this
  exact this
theorem compD_valid {s : List Int} {a : Dig} (hs : Stk s) (hn : Nums 255 a.l) (hv : validDig s a.l = true) : validDig s (compD s a).l = true := by
  have hD := digOk hs.len8 hn hv
  rw [compD_l]
  exact vd_of (fun i hi => comp_bd hs hD hi) fun i hi h => by rw [compL_at hi, if_neg (by omega)]; exact vd_rest hv hi h
theorem compD_num {s : List Int} {a : Dig} (hs : Stk s) (hn : Nums 255 a.l) (hv : validDig s a.l = true) : Nums 255 (compD s a).l := by
  have hD := digOk hs.len8 hn hv
  rw [compD_l]
  intro x hx
  unfold compL at hx
  rw [List.mem_map] at hx
  obtain ⟨i, hi, rfl⟩ := hx
  have hi := List.mem_range.1 hi
  split
  · rename_i h
    have h1 := hD i h
    have h2 := hs.bases i h
    omega
  · exact hn.at_ (by omega) i
theorem compD_twice {s : List Int} {a : Dig} (hs : Stk s) : compD s (compD s a) = a := by
  apply dig_inj
  rw [compD_l, compD_l]
  apply List.ext_getElem (by rw [compL_len, dig_len])
  intro i h1 h2
  have hi : i < 8 := h2
  have key : (compL s (compL s a.l)).getD i 0 = a.l.getD i 0 := by
    rw [compL_at hi, compL_at hi]
    split <;> omega
  rw [List.getD, List.getD, List.getElem?_eq_getElem h1, List.getElem?_eq_getElem h2] at key
  exact key
/-- How many wheels have moved. -/
def movedL (a b : List Int) : Nat → Int
  | 0 => 0
  | k + 1 => if b.getD k 0 ≠ a.getD k 0 then movedL a b k + 1 else movedL a b k
theorem mv_t {a b : List Int} {k : Nat} (h : b.getD k 0 ≠ a.getD k 0) : movedL a b (k + 1) = movedL a b k + 1 := if_pos h
theorem mv_f {a b : List Int} {k : Nat} (h : ¬ b.getD k 0 ≠ a.getD k 0) : movedL a b (k + 1) = movedL a b k := if_neg h
theorem mv_bd (a b : List Int) : ∀ k, 0 ≤ movedL a b k ∧ movedL a b k ≤ k
  | 0 => by simp [movedL]
  | k + 1 => by have := mv_bd a b k; unfold movedL; split <;> omega
theorem mv_sym (a b : List Int) : ∀ k, movedL a b k = movedL b a k
  | 0 => rfl
  | k + 1 => by
    unfold movedL
    rw [mv_sym a b k]
    by_cases h : b.getD k 0 = a.getD k 0
    · rw [if_neg (fun e => e h), if_neg (fun e => e h.symm)]
    · rw [if_pos h, if_pos (fun e => h e.symm)]
theorem addD_back {s : List Int} {a : Dig} (hs : Stk s) (hn : Nums 255 a.l) (hv : validDig s a.l = true) : addD s (addD s a 1) (-1) = a := by
  have e : addD s (addD s a 1) (-1) = dig (digs s ((val s (addD s a 1).l + -1) % size s)) := rfl
  have hb := val_lt hs (digOk hs.len8 hn hv) (by rw [dig_len]; exact hs.len8)
  rw [e, addD_val hs, hs.size_, Int.emod_add_emod, show val s a.l + 1 + -1 = val s a.l by omega, Int.emod_eq_of_lt hb.1 hb.2, dig_val hs hn hv]
end Go.W

/- The text of a stack, and what is read of it. -/
set_option linter.unusedVariables false
set_option linter.unusedSimpArgs false
namespace Go.W
open Go Go.Sx
def stP (s : List Int) (k : Nat) : List UInt8 := Lib.itoa (s.getD (s.length - 1 - k) 0)
def stkT (s : List Int) : List UInt8 := Lib.join (partsF (stP s) s.length) [58]
theorem stP_le {s : List Int} (hs : Stk s) {k : Nat} (hk : k < s.length) : (stP s k).length ≤ 20 := by
  have h1 := hs.bases (s.length - 1 - k) (by omega)
  exact itoa_le (n := s.getD (s.length - 1 - k) 0) (by omega)
theorem stkT_le {s : List Int} (hs : Stk s) : (stkT s).length ≤ 200 := by
  unfold stkT
  rw [← sepT_end]
  have h1 := sepT_le (f := stP s) (sep := [58]) (B := 20) (n := s.length) (fun i hi => stP_le hs hi) s.length (Nat.le_refl _)
  have h2 := hs.len8
  simp only [List.length_cons, List.length_nil] at h1
  omega
theorem stk_parts {s : List Int} (hs : Stk s) : splitA 58 [] (stkT s) = partsF (stP s) s.length := by
  unfold stkT
  refine split_join _ (by intro e; have h1 := congrArg List.length e; rw [partsF_len] at h1; have h2 := hs.len1; rw [List.length_nil] at h1; omega) fun x hx => ?_
  obtain ⟨i, hi, rfl⟩ := List.mem_map.1 hx
  have hi := List.mem_range.1 hi
  have h1 := hs.bases (s.length - 1 - i) (by omega)
  intro hm
  have := (itoa_ok _ (s.getD (s.length - 1 - i) 0) rfl (by omega)).1.2.1 _ hm
  unfold isDig at this
  exact absurd this.2 (by decide)
theorem stk_len {s : List Int} (hs : Stk s) : (splitA 58 [] (stkT s)).length = s.length := by rw [stk_parts hs, partsF_len]
theorem stk_at {s : List Int} (hs : Stk s) {k : Nat} (hk : k < s.length) : (splitA 58 [] (stkT s)).getD (s.length - 1 - k) [] = Lib.itoa (s.getD k 0) := by
  rw [stk_parts hs, parts_getD _ (by omega)]
  unfold stP
  rw [show s.length - 1 - (s.length - 1 - k) = k by omega]
theorem parse_dig8 : ∀ (l : List UInt8) (a : Nat), (∀ c ∈ l, isDig c) → numF a l ≤ 255 → Lib.parseUintM 255 a l = .ok (numF a l)
  | [], a, _, _ => rfl
  | c :: r, a, hd, hn => by
    have hc : isDig c := hd c (by simp)
    have e : numF a (c :: r) = numF (10 * a + (c.toNat - 48)) r := rfl
    rw [e] at hn ⊢
    have hg := numF_ge r (10 * a + (c.toNat - 48))
    unfold isDig at hc
    rw [Lib.parseUintM, if_pos hc, if_neg (by omega), if_neg (by omega), Nat.mul_comm a 10]
    exact parse_dig8 r _ (fun x hx => hd x (List.mem_cons_of_mem _ hx)) hn
theorem parse_8 {n : Int} (h : 0 ≤ n) (h1 : n ≤ 255) : Lib.parseUintB 8 (Lib.itoa n) = .ok n.toNat := by
  obtain ⟨hk, hv⟩ := itoa_ok _ n rfl h
  unfold Lib.parseUintB
  rw [if_neg hk.1]
  have e : numF 0 (Lib.itoa n) = numV (Lib.itoa n) := rfl
  have h8 : (2 : Nat) ^ 8 - 1 = 255 := rfl
  rw [h8, parse_dig8 _ 0 hk.2.1 (by rw [e]; omega), e]
  congr 1
  omega
theorem rdDig_back {s : List Int} {d : Dig} {x : Dig × Int} (hv : validStack s = true) (hn : Nums 255 d.l) (hd : validDig s d.l = true) (hx : RdDig s (digTx s d.l) x) : x.1 = d ∧ x.2 = 0 := by
  rw [digTx_t (by rw [hv, hd]; rfl)] at hx
  have := rdDig_one hx (y := (d, 0)) (.inr ⟨hv, hn, .inl ⟨rfl, hd, rfl⟩⟩)
  rw [this]
  exact ⟨rfl, rfl⟩
/-- Wheels of which some may be left out. -/
structure StkW (s : List Int) : Prop where
  len8 : s.length ≤ 8
  bases : Bases s
  le : prod s ≤ 1000000000000
theorem Stk.w {s : List Int} (h : Stk s) (k : Nat) : StkW (s.take k) := ⟨by have := h.len8; rw [List.length_take]; omega, h.bases.take k, by have h1 := prod_take_le h.bases k; have h2 := h.le; omega⟩
theorem DigOk.take {s l : List Int} (h : DigOk s l) (k : Nat) : DigOk (s.take k) l := fun i hi => by
  have hi' : i < k ∧ i < s.length := by rw [List.length_take] at hi; omega
  have := h i hi'.2
  rwa [show (s.take k).getD i 0 = s.getD i 0 by simp [List.getD, List.getElem?_take, hi'.1]]
theorem val_leW {s l : List Int} (hs : StkW s) (hl : DigOk s l) (hn : s.length ≤ l.length) (k : Nat) : 0 ≤ val (s.drop k) (l.drop k) ∧ val (s.drop k) (l.drop k) < 1000000000000 := by
  rcases Nat.lt_or_ge s.length k with h | h
  · rw [val_end (by omega)]; omega
  · have h1 := val_bd hs.bases hl hn (s.length - k) k (by omega)
    have h2 := prod_drop_le hs.bases k
    have := hs.le
    omega
theorem val_stepW {s l : List Int} (hs : StkW s) (hl : DigOk s l) (hn : s.length ≤ l.length) {k : Nat} (h : k < s.length) :
    val (s.drop k) (l.drop k) = val (s.drop (k + 1)) (l.drop (k + 1)) * s.getD k 0 + l.getD k 0 ∧ 0 ≤ val (s.drop (k + 1)) (l.drop (k + 1)) * s.getD k 0 ∧ val (s.drop (k + 1)) (l.drop (k + 1)) * s.getD k 0 ≤ 1000000000000 ∧ 0 ≤ l.getD k 0 ∧ l.getD k 0 ≤ 100 := by
  have h1 := val_drop (s := s) (l := l) h (by omega)
  have h2 := val_leW hs hl hn k
  have h3 := val_leW hs hl hn (k + 1)
  have h4 := hl k h
  have h5 := hs.bases k h
  have h6 : 0 ≤ s.getD k 0 * val (s.drop (k + 1)) (l.drop (k + 1)) := Int.mul_nonneg (by omega) h3.1
  rw [Int.mul_comm (val _ _) (s.getD k 0)]
  omega
theorem nums_tk {b : Int} {s : List Int} (h : Nums b s) (k : Nat) : Nums b (s.take k) := fun x hx => h x (List.mem_of_mem_take hx)
theorem over_comp {s : List Int} {a : Dig} (hs : Stk s) : over (compL s a.l) a.l s.length = (compD s a).l := by
  have h8 := hs.len8
  have hl := compL_len s a.l
  have hla := dig_len a
  rw [compD_l]
  have hol : (over (compL s a.l) a.l s.length).length = 8 := by rw [over_len (by rw [hl, hla]), hla]
  apply List.ext_getElem (by rw [hol, hl])
  intro i h1 h2
  have hi : i < 8 := by omega
  have key : (over (compL s a.l) a.l s.length).getD i 0 = (compL s a.l).getD i 0 := by
    unfold over
    by_cases h : i < s.length
    · have e : ((compL s a.l).take s.length ++ a.l.drop s.length)[i]? = (compL s a.l)[i]? := by
        rw [List.getElem?_append_left (by rw [List.length_take, hl]; omega), List.getElem?_take, if_pos h]
      simp only [List.getD, e]
    · have e : ((compL s a.l).take s.length ++ a.l.drop s.length)[i]? = a.l[i]? := by
        rw [List.getElem?_append_right (by rw [List.length_take, hl]; omega), List.length_take, hl, List.getElem?_drop, show s.length + (i - min s.length 8) = i by omega]
      rw [compL_at hi, if_neg h]
      simp only [List.getD, e]
  rw [List.getD, List.getD, List.getElem?_eq_getElem h1, List.getElem?_eq_getElem h2] at key
  exact key
theorem mv_ext {a b : List Int} {n : Nat} : ∀ j, (∀ i, n ≤ i → i < n + j → b.getD i 0 = a.getD i 0) → movedL a b (n + j) = movedL a b n
  | 0, _ => rfl
  | j + 1, h => by
    rw [← Nat.add_assoc, mv_f (fun e => e (h (n + j) (by omega) (by omega)))]
    exact mv_ext j fun i h1 h2 => h i h1 (by omega)
theorem mv_8 {s : List Int} {a : Dig} {n : Int} (hs : Stk s) (hd : validDig s a.l = true) : movedL a.l (addD s a n).l 8 = movedL a.l (addD s a n).l s.length := by
  have h8 := hs.len8
  obtain ⟨j, hj⟩ : ∃ j, 8 = s.length + j := ⟨8 - s.length, by omega⟩
  rw [hj]
  exact mv_ext j fun i h1 h2 => by rw [vd_rest (addD_valid hs) (by omega) h1, vd_rest hd (by omega) h1]
/-- What the law of stacks asks. -/
structure StL (s : List Int) (v : Int) (d : Dig) : Prop where
  num : Nums 255 d.l
  ok : validDig s d.l = true
  val_ : val s d.l = v
  last : ∀ k, k ≤ s.length → val (s.take k) d.l = v % prod (s.take k)
  cval : val s (compD s d).l = prod s - 1 - v
  cok : validDig s (compD s d).l = true
  cnum : Nums 255 (compD s d).l
  two : compD s (compD s d) = d
  up : Nums 255 (addD s d 1).l
  upok : validDig s (addD s d 1).l = true
  back : addD s (addD s d 1) (-1) = d
theorem stl {s : List Int} {v : Int} (hs : Stk s) (h0 : 0 ≤ v ∧ v < size s) : StL s v (dig (digs s v)) := by
  have e : (dig (digs s v)).l = digs s v := dig_l (digs_len _ _)
  have hn : Nums 255 (dig (digs s v)).l := by rw [e]; exact digs_num hs.bases
  have hd : validDig s (dig (digs s v)).l = true := by rw [e]; exact digs_valid hs
  have hv : val s (dig (digs s v)).l = v := by rw [e]; exact val_of' hs h0.1 (by rw [← hs.size_]; exact h0.2)
  exact ⟨hn, hd, hv, fun k hk => by rw [e]; exact last_digs hs k hk, by rw [compD_val hs, hv], compD_valid hs hn hd, compD_num hs hn hd, compD_twice hs, addD_num hs, addD_valid hs, addD_back hs hn hd⟩
theorem size_take {s : List Int} (hs : Stk s) (k : Nat) : size (s.take k) = prod (s.take k) := by
  rw [size_prod (hs.bases.take k)]
  have h1 := prod_take_le hs.bases k
  have h2 := hs.le
  omega
/-- What a wheel adds. -/
theorem wheel_add {s l : List Int} {k : Nat} (hs : Stk s) (hl : DigOk s l) (h : k < s.length) (hn : s.length ≤ l.length) : val (s.take (k + 1)) l = val (s.take k) l + l.getD k 0 * prod (s.take k) ∧ prod (s.take (k + 1)) = prod (s.take k) * s.getD k 0 ∧ 0 ≤ l.getD k 0 * prod (s.take k) ∧ l.getD k 0 * prod (s.take k) ≤ 1000000000000 ∧ 0 ≤ val (s.take k) l ∧ val (s.take k) l ≤ 1000000000000 ∧ 1 ≤ prod (s.take k) ∧ prod (s.take k) ≤ 1000000000000 ∧ prod (s.take k) * s.getD k 0 ≤ 1000000000000 ∧ 1 ≤ prod (s.take k) * s.getD k 0 := by
  have hp8 := prod_pos (hs.bases.take (k + 1))
  have hp := prod_pos (hs.bases.take k)
  have h1 := prod_take_le hs.bases k
  have h2 := prod_take_le hs.bases (k + 1)
  have h3 := hs.le
  have h4 := hl k h
  have h5 := prod_take (s := s) (k := k) h
  have h6 : l.getD k 0 * prod (s.take k) ≤ s.getD k 0 * prod (s.take k) := Int.mul_le_mul_of_nonneg_right (by omega) (by omega)
  rw [Int.mul_comm (s.getD k 0)] at h6
  have h7 := val_leW (hs.w k) (hl.take k) (by rw [List.length_take]; omega) 0
  rw [List.drop_zero, List.drop_zero] at h7
  exact ⟨val_take h, h5, Int.mul_nonneg h4.1 (by omega), by omega, h7.1, by omega, hp, by omega, by omega, by omega⟩
end Go.W

/- A range over a function whose rounds turn what is held in a way that is told by what is known of it. -/
set_option linter.unusedVariables false
set_option linter.unusedSimpArgs false
namespace Go.Sx
open Go Go.RowKit
variable {C : Cx} {env env' : Env} {m m' : List Ent} {Q Q' : Post} {l rest : List Oper} {o : Oper} {K : Env → List Ent → Prop}
def TabB (P : Program) (base : Nat) (w : World) : Prop := TabO P w ∧ ∀ g, P.globalNamed "internal/strconv.uint64pow10" = some g → g < base
theorem TabO.base {P w} (h : TabO P w) : TabB P w.heap.size w := ⟨h, fun g hg => by
  unfold TabO Lib.TabIs World.var? at h
  simp only [hg, Option.bind_some] at h
  rcases Nat.lt_or_ge g w.heap.size with h1 | h1
  · exact h1
  · rw [Array.getElem?_eq_none h1] at h; simp at h⟩
theorem TabB.keep {P base w w'} (h : TabB P base w) (hb : Below base w w') : TabB P base w' := ⟨by
  have h2 := h.2
  have h := h.1
  unfold TabO Lib.TabIs World.var? at h ⊢
  cases hg : P.globalNamed "internal/strconv.uint64pow10" with
  | none => simp [hg] at h
  | some g =>
    simp only [hg, Option.bind_some] at h ⊢
    rw [hb.block g (h2 g hg)]
    exact h, h.2⟩
theorem TabB.get {P base w0 m w} (h : TabB P base w0) (hh : Holds base w0 m w) : TabO P w := (h.keep hh.below).1
theorem ExL.yieldX {S : List Ent → Prop} {d lp : Nat} {fo args at_ vs} (ho : o.op = .call { callee := .value fo, args := args, argTypes := at_ }) (hfo : ev env fo = some (.func (.yield lp) #[] #[])) (hargs : evs env args.toList = some vs) (hg : wantB l env o = some true) (hd : o.dst = some d) (hlt : Nat.blt d C.n = true)
    (hy : ∀ w, Holds C.base C.w0 m w → YieldAt (fc none) 0 C.P lp vs.toArray w (fun e w' => e = .returned (.bool true) ∧ ∃ m', S m' ∧ Holds C.base C.w0 m' w'))
    (h : ∀ m', S m' → ExL C l rest ((d, .bool true) :: env) m' K) : ExL C l (o :: rest) env m K := by
  unfold ExL at h ⊢
  intro a w hr hh
  have hw := wantB_ok hr hg
  unfold wl
  rw [if_pos hw]
  refine .inr ?_
  obtain ⟨f, tm, asg, bd, hyr, hR⟩ := hy w hh
  have e1 : args.map a.eval = vs.toArray := by rw [← hr.evs hargs]; simp [← Array.toList_inj]
  refine ⟨lp, f, tm, asg, bd, w, ?_, ?_⟩
  · simp [execOp, ho, resolve, hr.ev hfo, Deferred.ofValue, invoke, e1, hyr]
  · refine RoundIn.mono (F := fc C.rd) hR ?_
    rintro e w' ⟨rfl, m', hS, hh'⟩
    exact h m' hS _ _ (hr.put1 hd hlt) hh'
theorem pk3R {a b : Ent} {v : Value} {E sz n : Nat} {cs cs' : List Value} {r : List Ent} (h : cs = cs') : some (a :: b :: Ent.row v E sz n cs :: r) = some (a :: b :: .row v E sz n cs' :: r) := by rw [h]
def YieldsX (P : Program) (l base : Nat) (w0 : World) (box : Ent) (Sf : Nat → List Ent → Prop) (N : Nat) (encs : Nat → List Value) : Prop :=
  ∀ k W mk, k < N → Sf k mk → Holds base w0 (box :: mk) W → YieldAt (fc none) 0 P l (encs k).toArray W (fun e W' => e = .returned (.bool true) ∧ ∃ m', (∃ mk', Sf (k + 1) mk' ∧ m' = box :: mk') ∧ Holds base w0 m' W')
def IterX (P : Program) (gf : FuncId) (lb : List Value) (base : Nat) (w0 : World) (box : Ent) (N : Nat) (encs : Nat → List Value) : Prop :=
  Enters P gf ∧ ∀ (w1 : World) (l : Nat) (Sf : Nat → List Ent → Prop) (m0 : List Ent) (W : World), Below base w0 w1 → YieldsX P l base w1 box Sf N encs → Sf 0 m0 → Holds base w1 (box :: m0) W →
    Calls P gf (.func (.yield l) #[] #[] :: lb).toArray W fun e W' => (∃ v, e = .returned v) ∧ ∃ mN, Sf N mN ∧ Holds base w1 (box :: mN) W'
theorem Ex.rangeFX {g : Operand} {ps : List Nat} {asg bd B : Code} {id gf N : Nat} {lb : List Value} {encs : Nat → List Value} {box : Ent} {Sf : Nat → List Ent → Prop} {m0 : List Ent} (t : Nat) (is : List Nat) (E1 : Nat → Env) (hrd : C.rd = none) (hds : C.ds = [])
    (hg : ev env g = some (.func (.func gf) #[] (List.toArray lb))) (hit : IterX C.P gf lb C.base C.w0 box N encs) (hps : ∀ k, (encs k).length = ps.length) (hpn : ps.all (fun p => Nat.blt p C.n) = true) (hM : pickT m t is = some (box :: m0)) (hf : freshT t is = true) (h0 : Sf 0 m0)
    (hasg : ∀ l k W mk, k < N → Sf k mk → Below C.base C.w0 W → Ex ⟨C.P, C.n, C.base, W, some l, []⟩ asg (zipR ps (encs k) env) (box :: mk) (fun e env' m' => e = .normal ∧ Agree (E1 k) env' ∧ m' = box :: mk))
    (hbd : ∀ l k W mk, k < N → Sf k mk → Below C.base C.w0 W → Ex ⟨C.P, C.n, C.base, W, some l, []⟩ bd (E1 k) (box :: mk) (fun e env' m' => e = .normal ∧ ∃ t is mk', Sf (k + 1) mk' ∧ pickT m' t is = some (box :: mk') ∧ freshT t is = true))
    (hB : ∀ D W mk, Sf N mk → Below C.base C.w0 W → Ex ⟨C.P, C.n, C.base, W, none, [mark D]⟩ B env (box :: mk) (fun e env' m' => e = .ret ∧ Q e env' m')) :
    ExT C (.block id (.rangeFunc g ps.toArray asg bd)) B env m Q := by
  obtain ⟨P, n, base, w0, rd, ds⟩ := C
  simp only at hrd hds hit hasg hbd hB hpn
  subst hrd hds
  unfold Ex at hasg hbd hB
  intro a w hr hh
  simp only at hr hh
  refine wpIn_block (wpIn_rangeFunc ?_)
  intro fn _
  obtain ⟨rec, hrec⟩ : ∃ rec : LoopState → Option Code → Loop, rec = fun st pe => { state := st, pending := pe, fn, tmps := a.tmps, params := ps.toArray, assign := asg, body := bd, defers := w.heap.size } := ⟨_, rfl⟩
  obtain ⟨W1, hW1⟩ : ∃ W1, (w.alloc (.deferred (some []))).alloc (.loop (rec .ready none)) = W1 := ⟨_, rfl⟩
  have hL1 : W1.heap[w.heap.size + 1]? = some (.loop (rec .ready none)) := by
    rw [← hW1]; have := World.alloc_heap_new (w.alloc (.deferred (some []))) (.loop (rec .ready none)); rwa [World.size_alloc] at this
  have hK1 : W1.heap[w.heap.size]? = some (.deferred (some [])) := by
    rw [← hW1]; exact (Below.heap_alloc _ _ _ (by simp)).trans (World.alloc_heap_new w _)
  have hg1 : w.grownBy W1 none := by rw [← hW1]; exact grown_of_below (((below_alloc' w _).trans ((below_alloc' _ _).mono (by simp)))) none
  have hb1 : Below base w W1 := by rw [← hW1]; exact (((below_alloc' w _).trans ((below_alloc' _ _).mono (by simp)))).mono hh.wle
  have hB1 : Below base w0 W1 := hh.below.trans hb1
  have hH1 : Holds base W1 (box :: m0) W1 := (hh.pickT hM hf).fresh hg1
  have ho1 : KeepsOthers w W1 := KeepsOthers.of_grownBy hg1 (fun _ _ e => nomatch e)
  have hsz : w.heap.size + 1 < W1.heap.size := (Array.getElem?_eq_some_iff.1 hL1).1
  have hwle := hh.wle
  refine ⟨w.heap.size + 1, [mark w.heap.size], W1, { target := .fn (.func gf) lb.toArray, args := #[.func (.yield (w.heap.size + 1)) #[] #[]] }, W1, gf,
    #[.func (.yield (w.heap.size + 1)) #[] #[]] ++ lb.toArray, W1, ?_, ?_, fun _ _ => trivial, ?_, noDepth, ?_⟩
  · rw [← hW1, hrec]; exact run_enterLoop_outer _ _ _ _ _
  · simp only [resolve, hr.ev hg]
    simp [go_sem]
  · simp [invoke, go_sem, hit.1 _]
  · refine callsFc _ _ ?_
    have hcall := hit.2 W1 (w.heap.size + 1) Sf m0 W1 hB1 ?_ h0 hH1
    · rw [show #[Value.func (.yield (w.heap.size + 1)) #[] #[]] ++ lb.toArray = (Value.func (.yield (w.heap.size + 1)) #[] #[] :: lb).toArray by simp]
      refine hcall.mono ?_
      rintro e W2 ⟨⟨v, rfl⟩, mN, hSN, hH2⟩
      have hl2 : W2.heap[w.heap.size + 1]? = some (.loop (rec .ready none)) := hH2.others.same _ _ hL1 rfl
      have hk2 : W2.heap[w.heap.size]? = some (.deferred (some [])) := hH2.others.same _ _ hK1 rfl
      have hend := run_endLoop (P := P) hl2 (by rw [hrec]; simp)
      have hp0 : (rec .ready none).pending = none := by rw [hrec]
      refine ⟨none, _, hend.trans (congrArg (fun p => Result.ok p _) hp0), ?_⟩
      have hk3 : (W2.putObj (w.heap.size + 1) (.loop { rec .ready none with state := .exhausted })).heap[w.heap.size]? = some (.deferred (some [])) := (World.putObj_heap_other (by omega)).trans hk2
      have hb3 : Below base W2 (W2.putObj (w.heap.size + 1) (.loop { rec .ready none with state := .exhausted })) := below_put _ hH2.wle (by omega)
      have hr3 : Rep n [mark w.heap.size] env { a with defers := [mark w.heap.size] ++ a.defers } := ⟨by rw [hr.def0]; rfl, hr.size, hr.at_⟩
      have h3 := hB w.heap.size _ mN hSN (hB1.trans (hH2.below.trans hb3)) _ _ hr3 (hH2.freshPut hl2 rfl)
      refine wpIn_mono h3 ?_
      rintro e a4 W4 ⟨ho, env4, m4, ds4, hr4, hh4, ⟨rfl, hq⟩, hd4⟩
      have hd5 : ds4 = [mark w.heap.size] := by
        rcases hd4 with h | ⟨_, h, _⟩
        · exact h
        · cases h
      refine ⟨rfl, env4, m4, ds4, hr4, ⟨(hB1.trans (hH2.below.trans hb3)).trans hh4.below, hh.le, hh4.all, hh4.apart, ?_⟩, hq, .inr ⟨rfl, rfl, _, hd5, hh.below.size, hh4.others.same _ _ hk3 rfl⟩⟩
      refine KeepsOthers.trans ⟨?_, fun k o hk ho => ?_⟩ hh4.others
      · have h1 := hh.below.size; have h2 := hH2.below.size; simp; omega
      · have hk0 : k < w0.heap.size := (Array.getElem?_eq_some_iff.1 hk).1
        have h1 := hh.below.size
        exact (World.putObj_heap_other (by omega)).trans (hH2.others.same _ _ (ho1.same _ _ (hh.others.same _ _ hk ho) ho) ho)
    · intro k W mk hk hS hH
      have hl : W.heap[w.heap.size + 1]? = some (.loop (rec .ready none)) := hH.others.same _ _ hL1 rfl
      have hy := run_yield (P := P) (args := (encs k).toArray) hl (by rw [hrec]; simp [hps k])
      rw [hrec] at hy
      refine ⟨fn, _, asg, bd, hy, roundIn_of_wpIn trivial ?_⟩
      have hBW := hB1.trans hH.below
      have hrz : Rep n [] (zipR ps (encs k) env) { tmps := (ps.toArray.zip (encs k).toArray).foldl (fun tmps (t, a) => tmps.setIfInBounds t a) a.tmps, defers := [] } := by
        have := rep_zip (vs := encs k) (env := env) (tm := a.tmps) (ds := []) hpn ⟨rfl, hr.size, hr.at_⟩
        simpa using this
      have h1 := hasg (w.heap.size + 1) k W mk hk hS hBW _ W hrz hH.fresh0
      refine wpIn_mono h1 ?_
      rintro e a1 Wa ⟨_, env1, m1, ds1, hr1, hh1, ⟨rfl, hA, rfl⟩, hd1⟩
      have hds1 : ds1 = [] := hd1.same (fun e => nomatch e)
      subst hds1
      have hla : Wa.heap[w.heap.size + 1]? = some (.loop (rec .ready none)) := hh1.others.same _ _ hl rfl
      have hlt : w.heap.size + 1 < Wa.heap.size := (Array.getElem?_eq_some_iff.1 hla).1
      refine ⟨_, run_beginRound hla (by rw [hrec]), ?_⟩
      have hbb : Below base Wa (Wa.putObj (w.heap.size + 1) (.loop { rec .ready none with state := .busy })) := below_put _ hh1.wle (by omega)
      have h2 := hbd (w.heap.size + 1) k _ mk hk hS ((hBW.trans hh1.below).trans hbb) a1 _ (hr1.agree hA) (hh1.freshPut hla rfl)
      refine wpIn_mono h2 ?_
      rintro e a2 Wc ⟨_, env2, m2, ds2, hr2, hh2, ⟨rfl, t2, is2, mk', hS', hp2, hf2⟩, hd2⟩
      have hlc : Wc.heap[w.heap.size + 1]? = some (.loop { rec .ready none with state := .busy }) := hh2.others.same _ _ (World.putObj_heap_same hlt) rfl
      have her := run_endRound (P := P) none hlc
      refine ⟨_, _, her, rfl, _, ⟨mk', hS', rfl⟩, ?_⟩
      have hpk := hh2.pickT hp2 hf2
      have hbc : Below base Wc (Wc.putObj (w.heap.size + 1) (.loop { { rec .ready none with state := .busy } with state := if (none : Option Code).isNone then .ready else .done, pending := none })) := below_put _ hh2.wle (by omega)
      refine ⟨(((hH.below.trans hh1.below).trans hbb).trans hh2.below).trans hbc, hH.le, fun e he => (hpk.all e he).put hlc rfl rfl, hpk.apart, ⟨?_, fun j o hj ho => ?_⟩⟩
      · have h1 := hH.below.size
        have h2 : W.heap.size ≤ Wa.heap.size := hh1.below.size
        have h3 : (Wa.putObj (w.heap.size + 1) (.loop { rec .ready none with state := .busy })).heap.size ≤ Wc.heap.size := hh2.below.size
        rw [World.putObj_size] at h3 ⊢
        omega
      · by_cases hj2 : j = w.heap.size + 1
        · subst hj2
          rw [hL1] at hj
          cases hj
          have := World.putObj_heap_same (w := Wc) (o := .loop { { rec .ready none with state := .busy } with state := if (none : Option Code).isNone then .ready else .done, pending := none }) (Array.getElem?_eq_some_iff.1 hlc).1
          rw [this, hrec]; rfl
        · exact (World.putObj_heap_other hj2).trans (hh2.others.same _ _ ((World.putObj_heap_other hj2).trans (hh1.others.same _ _ (hH.others.same _ _ hj ho) ho)) ho)
/-- The same as it is met: what a round sees (V), what stays (Kp, Mk), what it turns (M), what is known of it (I). -/
theorem Ex.rangeKX {X : Type} {g : Operand} {ps : List Nat} {asg bd B : Code} {id gf N : Nat} {lb : List Value} {encs : Nat → List Value} {box : Ent} (V : Nat → Env) (M : Nat → X → List Ent) (I : Nat → X → Prop) (x0 : X) (Kp : Env) (Mk : List Ent) (t : Nat) (is : List Nat)
    (hg : ev env g = some (.func (.func gf) #[] (List.toArray lb))) (hit : IterX C.P gf lb C.base C.w0 box N encs) (hps : ∀ k, (encs k).length = ps.length) (hrd : C.rd = none) (hds : C.ds = []) (hpn : ps.all (fun p => Nat.blt p C.n) = true) (hM : pickT m t is = some (box :: (M 0 x0 ++ Mk))) (hf : freshT t is = true) (h0 : I 0 x0) (hK : Agree Kp env)
    (hasg : ∀ l k W x, k < N → I k x → Below C.base C.w0 W → Ex ⟨C.P, C.n, C.base, W, some l, []⟩ asg (zipR ps (encs k) env) (box :: (M k x ++ Mk)) (fun e env' m' => e = .normal ∧ Agree (V k ++ Kp) env' ∧ m' = box :: (M k x ++ Mk)))
    (hbd : ∀ l k W x, k < N → I k x → Below C.base C.w0 W → Ex ⟨C.P, C.n, C.base, W, some l, []⟩ bd (V k ++ Kp) (box :: (M k x ++ Mk)) (fun e env' m' => e = .normal ∧ ∃ x' t is, I (k + 1) x' ∧ pickT m' t is = some (box :: (M (k + 1) x' ++ Mk)) ∧ freshT t is = true))
    (hB : ∀ D W x, I N x → Below C.base C.w0 W → Ex ⟨C.P, C.n, C.base, W, none, [mark D]⟩ B env (box :: (M N x ++ Mk)) (fun e env' m' => e = .ret ∧ Q e env' m')) :
    ExT C (.block id (.rangeFunc g ps.toArray asg bd)) B env m Q := by
  refine Ex.rangeFX (Sf := fun k mk => ∃ x, I k x ∧ mk = M k x ++ Mk) (m0 := M 0 x0 ++ Mk) t is (fun k => V k ++ Kp) hrd hds hg hit hps hpn hM hf ⟨x0, h0, rfl⟩ ?_ ?_ ?_
  · rintro l k W _ hk ⟨x, hx, rfl⟩ hW
    exact hasg l k W x hk hx hW
  · rintro l k W _ hk ⟨x, hx, rfl⟩ hW
    have h := hbd l k W x hk hx hW
    unfold Ex at h ⊢
    intro a w hr hh
    refine wpIn_mono (h a w hr hh) ?_
    rintro e a2 w2 ⟨ho, env2, m2, ds2, hr2, hh2, ⟨he, x', t2, is2, hI, hp, hf2⟩, hd2⟩
    exact ⟨ho, env2, m2, ds2, hr2, hh2, ⟨he, t2, is2, _, ⟨x', hI, rfl⟩, hp, hf2⟩, hd2⟩
  · rintro D W _ ⟨x, hx, rfl⟩ hW
    exact hB D W x hx hW
theorem IterX.of {P : Program} {gf fn c n} {lb : List Value} {base : Nat} {w0 : World} {box : Ent} {N : Nat} {encs : Nat → List Value} (hE : Enters P gf) (hf : P.funcs[gf]? = some fn) (hb : fn.body = some c) (hn : fn.ntmps = n) (hrs : fn.results = List.toArray []) (hv : Nat.ble (lb.length + 1) n = true)
    (h : ∀ w1 l Sf m0, Below base w0 w1 → YieldsX P l base w1 box Sf N encs → Sf 0 m0 → Ex ⟨P, n, base, w1, none, []⟩ c (argsAt 0 (.func (.yield l) #[] #[] :: lb)) (box :: m0) (fun e env m => isEnd e = true ∧ ∃ mN, Sf N mN ∧ m = box :: mN)) : IterX P gf lb base w0 box N encs := by
  refine ⟨hE, fun w1 l Sf m0 W hW hY h0 hH => fcCalls (rd := none) (n := 0) (callsIn_of_wp_marks hf hb trivial ?_)⟩
  subst hn
  refine wpIn_mono (h w1 l Sf m0 hW hY h0 _ W (rep_start (Nat.le_of_ble_eq_true (by simpa using hv))) hH) ?_
  rintro e a w' ⟨ho, env, m, ds, hr, hh, ⟨hend, mN, hSN, rfl⟩, hd⟩
  refine bodyOf (e := e) hd hr hh (by cases e <;> simp_all [isEnd]) (fun w'' hh => ?_)
  have hrun := run_results (fn := fn) (rs := []) (vs := []) hrs trivial hr hh
  exact ⟨_, hrun, ⟨_, rfl⟩, mN, hSN, hh⟩
end Go.Sx

/- A range over a function that walks a row which is made here: the row lies among what is held. -/
set_option linter.unusedVariables false
set_option linter.unusedSimpArgs false
namespace Go.Sx
open Go Go.RowKit
variable {C : Cx} {env env' : Env} {m m' : List Ent} {Q Q' : Post} {l rest : List Oper} {o : Oper} {K : Env → List Ent → Prop}
def IterXR (P : Program) (gf : FuncId) (lb : List Value) (base : Nat) (w0 : World) (box : Ent) (j : Nat) (row : Ent) (N : Nat) (encs : Nat → List Value) : Prop :=
  Enters P gf ∧ ∀ (w1 : World) (l : Nat) (Sf : Nat → List Ent → Prop) (m0 : List Ent) (W : World), (∀ k mk, Sf k mk → mk[j]? = some row) → Below base w0 w1 → YieldsX P l base w1 box Sf N encs → Sf 0 m0 → Holds base w1 (box :: m0) W →
    Calls P gf (.func (.yield l) #[] #[] :: lb).toArray W fun e W' => (∃ v, e = .returned v) ∧ ∃ mN, Sf N mN ∧ Holds base w1 (box :: mN) W'
theorem Ex.rangeFXR {j : Nat} {row : Ent} {g : Operand} {ps : List Nat} {asg bd B : Code} {id gf N : Nat} {lb : List Value} {encs : Nat → List Value} {box : Ent} {Sf : Nat → List Ent → Prop} {m0 : List Ent} (t : Nat) (is : List Nat) (E1 : Nat → Env) (hrd : C.rd = none) (hds : C.ds = [])
    (hg : ev env g = some (.func (.func gf) #[] (List.toArray lb))) (hit : IterXR C.P gf lb C.base C.w0 box j row N encs) (hrow : ∀ k mk, Sf k mk → mk[j]? = some row) (hps : ∀ k, (encs k).length = ps.length) (hpn : ps.all (fun p => Nat.blt p C.n) = true) (hM : pickT m t is = some (box :: m0)) (hf : freshT t is = true) (h0 : Sf 0 m0)
    (hasg : ∀ l k W mk, k < N → Sf k mk → Below C.base C.w0 W → Ex ⟨C.P, C.n, C.base, W, some l, []⟩ asg (zipR ps (encs k) env) (box :: mk) (fun e env' m' => e = .normal ∧ Agree (E1 k) env' ∧ m' = box :: mk))
    (hbd : ∀ l k W mk, k < N → Sf k mk → Below C.base C.w0 W → Ex ⟨C.P, C.n, C.base, W, some l, []⟩ bd (E1 k) (box :: mk) (fun e env' m' => e = .normal ∧ ∃ t is mk', Sf (k + 1) mk' ∧ pickT m' t is = some (box :: mk') ∧ freshT t is = true))
    (hB : ∀ D W mk, Sf N mk → Below C.base C.w0 W → Ex ⟨C.P, C.n, C.base, W, none, [mark D]⟩ B env (box :: mk) (fun e env' m' => e = .ret ∧ Q e env' m')) :
    ExT C (.block id (.rangeFunc g ps.toArray asg bd)) B env m Q := by
  obtain ⟨P, n, base, w0, rd, ds⟩ := C
  simp only at hrd hds hit hasg hbd hB hpn
  subst hrd hds
  unfold Ex at hasg hbd hB
  intro a w hr hh
  simp only at hr hh
  refine wpIn_block (wpIn_rangeFunc ?_)
  intro fn _
  obtain ⟨rec, hrec⟩ : ∃ rec : LoopState → Option Code → Loop, rec = fun st pe => { state := st, pending := pe, fn, tmps := a.tmps, params := ps.toArray, assign := asg, body := bd, defers := w.heap.size } := ⟨_, rfl⟩
  obtain ⟨W1, hW1⟩ : ∃ W1, (w.alloc (.deferred (some []))).alloc (.loop (rec .ready none)) = W1 := ⟨_, rfl⟩
  have hL1 : W1.heap[w.heap.size + 1]? = some (.loop (rec .ready none)) := by
    rw [← hW1]; have := World.alloc_heap_new (w.alloc (.deferred (some []))) (.loop (rec .ready none)); rwa [World.size_alloc] at this
  have hK1 : W1.heap[w.heap.size]? = some (.deferred (some [])) := by
    rw [← hW1]; exact (Below.heap_alloc _ _ _ (by simp)).trans (World.alloc_heap_new w _)
  have hg1 : w.grownBy W1 none := by rw [← hW1]; exact grown_of_below (((below_alloc' w _).trans ((below_alloc' _ _).mono (by simp)))) none
  have hb1 : Below base w W1 := by rw [← hW1]; exact (((below_alloc' w _).trans ((below_alloc' _ _).mono (by simp)))).mono hh.wle
  have hB1 : Below base w0 W1 := hh.below.trans hb1
  have hH1 : Holds base W1 (box :: m0) W1 := (hh.pickT hM hf).fresh hg1
  have ho1 : KeepsOthers w W1 := KeepsOthers.of_grownBy hg1 (fun _ _ e => nomatch e)
  have hsz : w.heap.size + 1 < W1.heap.size := (Array.getElem?_eq_some_iff.1 hL1).1
  have hwle := hh.wle
  refine ⟨w.heap.size + 1, [mark w.heap.size], W1, { target := .fn (.func gf) lb.toArray, args := #[.func (.yield (w.heap.size + 1)) #[] #[]] }, W1, gf,
    #[.func (.yield (w.heap.size + 1)) #[] #[]] ++ lb.toArray, W1, ?_, ?_, fun _ _ => trivial, ?_, noDepth, ?_⟩
  · rw [← hW1, hrec]; exact run_enterLoop_outer _ _ _ _ _
  · simp only [resolve, hr.ev hg]
    simp [go_sem]
  · simp [invoke, go_sem, hit.1 _]
  · refine callsFc _ _ ?_
    have hcall := hit.2 W1 (w.heap.size + 1) Sf m0 W1 hrow hB1 ?_ h0 hH1
    · rw [show #[Value.func (.yield (w.heap.size + 1)) #[] #[]] ++ lb.toArray = (Value.func (.yield (w.heap.size + 1)) #[] #[] :: lb).toArray by simp]
      refine hcall.mono ?_
      rintro e W2 ⟨⟨v, rfl⟩, mN, hSN, hH2⟩
      have hl2 : W2.heap[w.heap.size + 1]? = some (.loop (rec .ready none)) := hH2.others.same _ _ hL1 rfl
      have hk2 : W2.heap[w.heap.size]? = some (.deferred (some [])) := hH2.others.same _ _ hK1 rfl
      have hend := run_endLoop (P := P) hl2 (by rw [hrec]; simp)
      have hp0 : (rec .ready none).pending = none := by rw [hrec]
      refine ⟨none, _, hend.trans (congrArg (fun p => Result.ok p _) hp0), ?_⟩
      have hk3 : (W2.putObj (w.heap.size + 1) (.loop { rec .ready none with state := .exhausted })).heap[w.heap.size]? = some (.deferred (some [])) := (World.putObj_heap_other (by omega)).trans hk2
      have hb3 : Below base W2 (W2.putObj (w.heap.size + 1) (.loop { rec .ready none with state := .exhausted })) := below_put _ hH2.wle (by omega)
      have hr3 : Rep n [mark w.heap.size] env { a with defers := [mark w.heap.size] ++ a.defers } := ⟨by rw [hr.def0]; rfl, hr.size, hr.at_⟩
      have h3 := hB w.heap.size _ mN hSN (hB1.trans (hH2.below.trans hb3)) _ _ hr3 (hH2.freshPut hl2 rfl)
      refine wpIn_mono h3 ?_
      rintro e a4 W4 ⟨ho, env4, m4, ds4, hr4, hh4, ⟨rfl, hq⟩, hd4⟩
      have hd5 : ds4 = [mark w.heap.size] := by
        rcases hd4 with h | ⟨_, h, _⟩
        · exact h
        · cases h
      refine ⟨rfl, env4, m4, ds4, hr4, ⟨(hB1.trans (hH2.below.trans hb3)).trans hh4.below, hh.le, hh4.all, hh4.apart, ?_⟩, hq, .inr ⟨rfl, rfl, _, hd5, hh.below.size, hh4.others.same _ _ hk3 rfl⟩⟩
      refine KeepsOthers.trans ⟨?_, fun k o hk ho => ?_⟩ hh4.others
      · have h1 := hh.below.size; have h2 := hH2.below.size; simp; omega
      · have hk0 : k < w0.heap.size := (Array.getElem?_eq_some_iff.1 hk).1
        have h1 := hh.below.size
        exact (World.putObj_heap_other (by omega)).trans (hH2.others.same _ _ (ho1.same _ _ (hh.others.same _ _ hk ho) ho) ho)
    · intro k W mk hk hS hH
      have hl : W.heap[w.heap.size + 1]? = some (.loop (rec .ready none)) := hH.others.same _ _ hL1 rfl
      have hy := run_yield (P := P) (args := (encs k).toArray) hl (by rw [hrec]; simp [hps k])
      rw [hrec] at hy
      refine ⟨fn, _, asg, bd, hy, roundIn_of_wpIn trivial ?_⟩
      have hBW := hB1.trans hH.below
      have hrz : Rep n [] (zipR ps (encs k) env) { tmps := (ps.toArray.zip (encs k).toArray).foldl (fun tmps (t, a) => tmps.setIfInBounds t a) a.tmps, defers := [] } := by
        have := rep_zip (vs := encs k) (env := env) (tm := a.tmps) (ds := []) hpn ⟨rfl, hr.size, hr.at_⟩
        simpa using this
      have h1 := hasg (w.heap.size + 1) k W mk hk hS hBW _ W hrz hH.fresh0
      refine wpIn_mono h1 ?_
      rintro e a1 Wa ⟨_, env1, m1, ds1, hr1, hh1, ⟨rfl, hA, rfl⟩, hd1⟩
      have hds1 : ds1 = [] := hd1.same (fun e => nomatch e)
      subst hds1
      have hla : Wa.heap[w.heap.size + 1]? = some (.loop (rec .ready none)) := hh1.others.same _ _ hl rfl
      have hlt : w.heap.size + 1 < Wa.heap.size := (Array.getElem?_eq_some_iff.1 hla).1
      refine ⟨_, run_beginRound hla (by rw [hrec]), ?_⟩
      have hbb : Below base Wa (Wa.putObj (w.heap.size + 1) (.loop { rec .ready none with state := .busy })) := below_put _ hh1.wle (by omega)
      have h2 := hbd (w.heap.size + 1) k _ mk hk hS ((hBW.trans hh1.below).trans hbb) a1 _ (hr1.agree hA) (hh1.freshPut hla rfl)
      refine wpIn_mono h2 ?_
      rintro e a2 Wc ⟨_, env2, m2, ds2, hr2, hh2, ⟨rfl, t2, is2, mk', hS', hp2, hf2⟩, hd2⟩
      have hlc : Wc.heap[w.heap.size + 1]? = some (.loop { rec .ready none with state := .busy }) := hh2.others.same _ _ (World.putObj_heap_same hlt) rfl
      have her := run_endRound (P := P) none hlc
      refine ⟨_, _, her, rfl, _, ⟨mk', hS', rfl⟩, ?_⟩
      have hpk := hh2.pickT hp2 hf2
      have hbc : Below base Wc (Wc.putObj (w.heap.size + 1) (.loop { { rec .ready none with state := .busy } with state := if (none : Option Code).isNone then .ready else .done, pending := none })) := below_put _ hh2.wle (by omega)
      refine ⟨(((hH.below.trans hh1.below).trans hbb).trans hh2.below).trans hbc, hH.le, fun e he => (hpk.all e he).put hlc rfl rfl, hpk.apart, ⟨?_, fun j o hj ho => ?_⟩⟩
      · have h1 := hH.below.size
        have h2 : W.heap.size ≤ Wa.heap.size := hh1.below.size
        have h3 : (Wa.putObj (w.heap.size + 1) (.loop { rec .ready none with state := .busy })).heap.size ≤ Wc.heap.size := hh2.below.size
        rw [World.putObj_size] at h3 ⊢
        omega
      · by_cases hj2 : j = w.heap.size + 1
        · subst hj2
          rw [hL1] at hj
          cases hj
          have := World.putObj_heap_same (w := Wc) (o := .loop { { rec .ready none with state := .busy } with state := if (none : Option Code).isNone then .ready else .done, pending := none }) (Array.getElem?_eq_some_iff.1 hlc).1
          rw [this, hrec]; rfl
        · exact (World.putObj_heap_other hj2).trans (hh2.others.same _ _ ((World.putObj_heap_other hj2).trans (hh1.others.same _ _ (hH.others.same _ _ hj ho) ho)) ho)
/-- The same as it is met: what a round sees (V), what stays (Kp, Mk), what it turns (M), what is known of it (I). -/
theorem Ex.rangeKXR {j : Nat} {row : Ent} {X : Type} {g : Operand} {ps : List Nat} {asg bd B : Code} {id gf N : Nat} {lb : List Value} {encs : Nat → List Value} {box : Ent} (V : Nat → Env) (M : Nat → X → List Ent) (I : Nat → X → Prop) (x0 : X) (Kp : Env) (Mk : List Ent) (t : Nat) (is : List Nat)
    (hg : ev env g = some (.func (.func gf) #[] (List.toArray lb))) (hit : IterXR C.P gf lb C.base C.w0 box j row N encs) (hrow : ∀ k x, (M k x ++ Mk)[j]? = some row) (hps : ∀ k, (encs k).length = ps.length) (hrd : C.rd = none) (hds : C.ds = []) (hpn : ps.all (fun p => Nat.blt p C.n) = true) (hM : pickT m t is = some (box :: (M 0 x0 ++ Mk))) (hf : freshT t is = true) (h0 : I 0 x0) (hK : Agree Kp env)
    (hasg : ∀ l k W x, k < N → I k x → Below C.base C.w0 W → Ex ⟨C.P, C.n, C.base, W, some l, []⟩ asg (zipR ps (encs k) env) (box :: (M k x ++ Mk)) (fun e env' m' => e = .normal ∧ Agree (V k ++ Kp) env' ∧ m' = box :: (M k x ++ Mk)))
    (hbd : ∀ l k W x, k < N → I k x → Below C.base C.w0 W → Ex ⟨C.P, C.n, C.base, W, some l, []⟩ bd (V k ++ Kp) (box :: (M k x ++ Mk)) (fun e env' m' => e = .normal ∧ ∃ x' t is, I (k + 1) x' ∧ pickT m' t is = some (box :: (M (k + 1) x' ++ Mk)) ∧ freshT t is = true))
    (hB : ∀ D W x, I N x → Below C.base C.w0 W → Ex ⟨C.P, C.n, C.base, W, none, [mark D]⟩ B env (box :: (M N x ++ Mk)) (fun e env' m' => e = .ret ∧ Q e env' m')) :
    ExT C (.block id (.rangeFunc g ps.toArray asg bd)) B env m Q := by
  refine Ex.rangeFXR (Sf := fun k mk => ∃ x, I k x ∧ mk = M k x ++ Mk) (m0 := M 0 x0 ++ Mk) t is (fun k => V k ++ Kp) hrd hds hg hit (fun k mk ⟨x, _, e⟩ => by rw [e]; exact hrow k x) hps hpn hM hf ⟨x0, h0, rfl⟩ ?_ ?_ ?_
  · rintro l k W _ hk ⟨x, hx, rfl⟩ hW
    exact hasg l k W x hk hx hW
  · rintro l k W _ hk ⟨x, hx, rfl⟩ hW
    have h := hbd l k W x hk hx hW
    unfold Ex at h ⊢
    intro a w hr hh
    refine wpIn_mono (h a w hr hh) ?_
    rintro e a2 w2 ⟨ho, env2, m2, ds2, hr2, hh2, ⟨he, x', t2, is2, hI, hp, hf2⟩, hd2⟩
    exact ⟨ho, env2, m2, ds2, hr2, hh2, ⟨he, t2, is2, _, ⟨x', hI, rfl⟩, hp, hf2⟩, hd2⟩
  · rintro D W _ ⟨x, hx, rfl⟩ hW
    exact hB D W x hx hW
theorem IterXR.of {j : Nat} {row : Ent} {P : Program} {gf fn c n} {lb : List Value} {base : Nat} {w0 : World} {box : Ent} {N : Nat} {encs : Nat → List Value} (hE : Enters P gf) (hf : P.funcs[gf]? = some fn) (hb : fn.body = some c) (hn : fn.ntmps = n) (hrs : fn.results = List.toArray []) (hv : Nat.ble (lb.length + 1) n = true)
    (h : ∀ w1 l Sf m0, (∀ k mk, Sf k mk → mk[j]? = some row) → Below base w0 w1 → YieldsX P l base w1 box Sf N encs → Sf 0 m0 → Ex ⟨P, n, base, w1, none, []⟩ c (argsAt 0 (.func (.yield l) #[] #[] :: lb)) (box :: m0) (fun e env m => isEnd e = true ∧ ∃ mN, Sf N mN ∧ m = box :: mN)) : IterXR P gf lb base w0 box j row N encs := by
  refine ⟨hE, fun w1 l Sf m0 W hR hW hY h0 hH => fcCalls (rd := none) (n := 0) (callsIn_of_wp_marks hf hb trivial ?_)⟩
  subst hn
  refine wpIn_mono (h w1 l Sf m0 hR hW hY h0 _ W (rep_start (Nat.le_of_ble_eq_true (by simpa using hv))) hH) ?_
  rintro e a w' ⟨ho, env, m, ds, hr, hh, ⟨hend, mN, hSN, rfl⟩, hd⟩
  refine bodyOf (e := e) hd hr hh (by cases e <;> simp_all [isEnd]) (fun w'' hh => ?_)
  have hrun := run_results (fn := fn) (rs := []) (vs := []) hrs trivial hr hh
  exact ⟨_, hrun, ⟨_, rfl⟩, mN, hSN, hh⟩
end Go.Sx
namespace Go.Sx
open Go Go.RowKit
theorem RdB.takeF {α : Type} {f : α → List Value} {sz : Nat} {l : List α} {base : Nat} {w : World} {A : Option Addr} (h : RdB base w A (l.flatMap f)) (hf : ∀ x, (f x).length = sz) (k : Nat) : RdB base w A ((l.take k).flatMap f) := by
  have e : l.flatMap f = (l.take k).flatMap f ++ (l.drop k).flatMap f := by rw [← List.flatMap_append, List.take_append_drop]
  rw [e] at h
  exact fun i v hi => h i v (by rw [List.getElem?_append_left (List.getElem?_eq_some_iff.1 hi).1]; exact hi)
end Go.Sx
namespace Go.Sx
open Go Go.RowKit
/-- The library's variables lie, and below a bound. -/
structure RdBs (a b c base : Nat) (w : World) : Prop where
  rd : RdO a b c w
  la : a < base
  lb : b < base
  lc : c < base
theorem RdO.base {a b c w} (h : RdO a b c w) : RdBs a b c w.heap.size w := by
  refine ⟨h, ?_, ?_, ?_⟩
  · obtain ⟨_, h⟩ := h.max; exact World.block_lt_of_cell? _ ⟨a, 0, none⟩ h
  · obtain ⟨_, h, _⟩ := h.syn; exact World.block_lt_of_cell? _ ⟨b, 0, none⟩ h
  · obtain ⟨_, h, _⟩ := h.rng; exact World.block_lt_of_cell? _ ⟨c, 0, none⟩ h
theorem RdBs.keep {a b c base w w'} (h : RdBs a b c base w) (hb : Below base w w') : RdBs a b c base w' :=
  ⟨⟨h.rd.max.imp fun _ e => (hb.cell (p := ⟨a, 0, none⟩) h.la).trans e, h.rd.syn.imp fun _ e => ⟨(hb.cell (p := ⟨b, 0, none⟩) h.lb).trans e.1, e.2⟩, h.rd.rng.imp fun _ e => ⟨(hb.cell (p := ⟨c, 0, none⟩) h.lc).trans e.1, e.2⟩⟩, h.la, h.lb, h.lc⟩
theorem RdBs.get {a b c base w0 m w} (h : RdBs a b c base w0) (hh : Holds base w0 m w) : RdO a b c w := (h.keep hh.below).rd
end Go.Sx

/- What these functions of the program hand back, each proved by walking its operations. -/
set_option linter.unusedVariables false
set_option linter.unusedSimpArgs false
set_option maxRecDepth 4000
namespace Go.Proofs.YtidnicdeogdedaaGreatDoor
open Go Go.Sx Go.RowKit Go.W Go.Proofs
attribute [local irreducible] Ex ExL ExD Op1 Free RetQ MutQ Reads CellO SegO LoadsAs
theorem e_57 : Enters Tryz.prog 57 := Enters.of Tryz.func57 rfl
theorem c_l00Min (a b : Int) : Ret Tryz.prog 57 [.int .i64 a, .int .i64 b] (fun w => True) (fun x : Unit => .int .i64 (min a b)) (fun x => []) (fun x => True) := by
  refine Ret.of e_57 Tryz.func57 rfl Tryz.ntmps57 rfl rfl (fun w hpre => ?_)
  refine Ex.regSeq (ExL.pures 1 rfl ?_)
  refine ExL.nil ?_
  refine Ex.seq ?_
  refine Ex.regSeq (ExL.pures 2 rfl ?_)
  refine ExL.lss rfl rfl rfl rfl rfl rfl (fun h1 => ?_) (fun h1 => ?_)
  · refine ExL.nil ?_
    refine Ex.cond_t rfl ?_
    refine Ex.regSeq (ExL.pures 2 rfl ?_)
    refine ExL.nil ?_
    refine Ex.ret ?_
    refine RetQ.mk () rfl (.tmp rfl .nil) (tI (by omega)) [] (rfl) rfl (trivial)
  · refine ExL.nil ?_
    refine Ex.cond_f rfl ?_
    refine Ex.skip ?_
    refine Ex.regSeq (ExL.pures 2 rfl ?_)
    refine ExL.nil ?_
    refine Ex.ret ?_
    refine RetQ.mk () rfl (.tmp rfl .nil) (tI (by omega)) [] (rfl) rfl (trivial)
theorem e_35 : Enters Tryz.prog 35 := Enters.of Tryz.func35 rfl
theorem c_l00In (a b c : Int) : Ret Tryz.prog 35 [.int .i64 a, .int .i64 b, .int .i64 c] (fun w => True) (fun x : Unit => .bool (decide (b ≤ a ∧ a ≤ c))) (fun x => []) (fun x => True) := by
  refine Ret.of e_35 Tryz.func35 rfl Tryz.ntmps35 rfl rfl (fun w hpre => ?_)
  refine Ex.regSeq (ExL.pures 1 rfl ?_)
  refine ExL.nil ?_
  refine Ex.regSeq (ExL.pures 2 rfl ?_)
  refine ExL.geq rfl rfl rfl rfl rfl rfl (fun h1 => ?_) (fun h1 => ?_)
  · refine ExL.pures 3 rfl ?_
    refine ExL.leq rfl rfl rfl rfl rfl rfl (fun h2 => ?_) (fun h2 => ?_)
    · refine ExL.pures 2 rfl ?_
      refine ExL.nil ?_
      refine Ex.ret ?_
      refine RetQ.mk () rfl (.tmp rfl .nil) (tB (by simp; omega)) [] (rfl) rfl (trivial)
    · refine ExL.pures 2 rfl ?_
      refine ExL.nil ?_
      refine Ex.ret ?_
      refine RetQ.mk () rfl (.tmp rfl .nil) (tB (by simp; omega)) [] (rfl) rfl (trivial)
  · refine ExL.pures 6 rfl ?_
    refine ExL.nil ?_
    refine Ex.ret ?_
    refine RetQ.mk () rfl (.tmp rfl .nil) (tB (by simp; omega)) [] (rfl) rfl (trivial)
theorem e_47 : Enters Tryz.prog 47 := Enters.of Tryz.func47 rfl
theorem c_within (a b c : Int) : Ret Tryz.prog 47 [.int .i64 a, .int .i64 b, .int .i64 c] (fun w => True) (fun x : Unit => .bool (decide (b ≤ a ∧ a ≤ c))) (fun x => []) (fun x => True) := by
  refine Ret.of e_47 Tryz.func47 rfl Tryz.ntmps47 rfl rfl (fun w hpre => ?_)
  refine Ex.regSeq (ExL.pures 1 rfl ?_)
  refine ExL.nil ?_
  refine Ex.regSeq (ExL.pures 2 rfl ?_)
  refine ExL.leq rfl rfl rfl rfl rfl rfl (fun h1 => ?_) (fun h1 => ?_)
  · refine ExL.pures 3 rfl ?_
    refine ExL.leq rfl rfl rfl rfl rfl rfl (fun h2 => ?_) (fun h2 => ?_)
    · refine ExL.pures 2 rfl ?_
      refine ExL.nil ?_
      refine Ex.ret ?_
      refine RetQ.mk () rfl (.tmp rfl .nil) (tB (by simp; omega)) [] (rfl) rfl (trivial)
    · refine ExL.pures 2 rfl ?_
      refine ExL.nil ?_
      refine Ex.ret ?_
      refine RetQ.mk () rfl (.tmp rfl .nil) (tB (by simp; omega)) [] (rfl) rfl (trivial)
  · refine ExL.pures 6 rfl ?_
    refine ExL.nil ?_
    refine Ex.ret ?_
    refine RetQ.mk () rfl (.tmp rfl .nil) (tB (by simp; omega)) [] (rfl) rfl (trivial)
theorem e_29 : Enters Tryz.prog 29 := Enters.of Tryz.func29 rfl
theorem c_l01Size (s : List Int) (hu : Nums 255 s) (As : Option Addr) (cs : Nat) (hl : s.length ≤ maxLen) : Ret Tryz.prog 29 [.slice As s.length cs] (fun w => Rd w As (s.flatMap (eI .u8))) (fun x : Unit => .int .i64 (size s)) (fun x => []) (fun x => True) := by
  refine Ret.of e_29 Tryz.func29 rfl Tryz.ntmps29 rfl rfl (fun w hpre => ?_)
  unfold maxLen at hl
  have hs := hpre.base
  refine Ex.regSeq (ExL.pures 1 rfl ?_)
  refine ExL.nil ?_
  refine Ex.regSeq (ExL.pures 1 rfl ?_)
  refine ExL.nil ?_
  refine Ex.seq ?_
  refine Ex.regSeq (ExL.pures 1 rfl ?_)
  refine ExL.nil ?_
  refine Ex.block ?_
  refine Ex.loopK (X := Nat) (fun k => [(3, .int .i64 (size (s.take k))), (4, .int .i64 k)]) (fun k => []) (fun k => k ≤ s.length) (fun k => s.length - k) 0 [(0, _), (2, _)] [] 0 [] ⟨rfl, rfl, trivial⟩ ⟨rfl, rfl, trivial⟩ (rfl) rfl (Nat.zero_le _) (fun k hI => ?_)
  have hI : k ≤ s.length := hI
  have hb := size_bd hu k
  have hm := size_mul hu k
  have hx := hu.at_ (by omega) k
  refine Ex.seq ?_
  refine Ex.regSeq (ExL.pures 3 rfl ?_)
  refine ExL.lss rfl rfl rfl rfl rfl rfl (fun h1 => ?_) (fun h1 => ?_)
  · refine ExL.nil ?_
    refine Ex.cond_t rfl ?_
    refine Ex.skip ?_
    refine Ex.seq ?_
    refine Ex.block ?_
    refine Ex.region (ExL.pures 3 rfl ?_)
    refine ExL.free (fr_indexAddrF (Reads.old hs) (eI_len .u8) rfl rfl rfl rfl rfl rfl (by omega)) rfl rfl rfl ?_
    refine ExL.free (fr_load rfl rfl rfl rfl (by first | exact cellN (Reads.old hs) (eI_len .u8) 0 0 rfl (by omega) rfl | exact cellF (Reads.old hs) (eI_len .u8) 0 0 rfl (by omega) rfl)) rfl rfl rfl ?_
    refine ExL.free (by first | exact fr_conv64 rfl rfl rfl rfl (by omega) | exact fr_conv rfl rfl rfl rfl) rfl rfl rfl ?_
    refine ExL.free (by first | exact fr_mul64 rfl rfl rfl (by omega) | exact fr_mul rfl rfl rfl) rfl rfl rfl ?_
    refine ExL.op rfl (op_ret rfl rfl rfl (c_l00Min _ _) (fun _ _ => trivial) rfl rfl (fun x2 hx2 => ?_))
    refine ExL.pures 1 rfl ?_
    refine ExL.nil ?_
    refine Ex.region (ExL.pures 1 rfl ?_)
    refine ExL.free (by first | exact fr_add64 rfl rfl rfl (by omega) | exact fr_add rfl rfl rfl) rfl rfl rfl ?_
    refine ExL.pures 1 rfl ?_
    refine ExL.nil ?_
    refine Hand.mk (k + 1) 0 [] ⟨agI (size_snoc s k (by omega)).symm, rfl, trivial⟩ ⟨rfl, rfl, trivial⟩ (rfl) rfl (by omega) (by omega)
  · refine ExL.nil ?_
    refine Ex.cond_f rfl ?_
    refine Ex.exit ?_
    refine Ex.regSeq (ExL.pures 2 rfl ?_)
    refine ExL.nil ?_
    refine Ex.ret ?_
    refine RetQ.mk () rfl (.tmp rfl .nil) (tI (by rw [List.take_of_length_le (by omega)])) [] (rfl) rfl (trivial)
theorem e_31 : Enters Tryz.prog 31 := Enters.of Tryz.func31 rfl
theorem c_size (s : List Int) (hu : Nums 255 s) (As : Option Addr) (cs : Nat) (hl : s.length ≤ maxLen) : Ret Tryz.prog 31 [.slice As s.length cs] (fun w => Rd w As (s.flatMap (eI .u8))) (fun x : Unit => .int .i64 (size s)) (fun x => []) (fun x => True) := by
  refine Ret.of e_31 Tryz.func31 rfl Tryz.ntmps31 rfl rfl (fun w hpre => ?_)
  unfold maxLen at hl
  have hs := hpre.base
  refine Ex.regSeq (ExL.pures 1 rfl ?_)
  refine ExL.nil ?_
  refine Ex.regSeq (ExL.pures 1 rfl ?_)
  refine ExL.nil ?_
  refine Ex.seq ?_
  refine Ex.regSeq (ExL.pures 3 rfl ?_)
  refine ExL.nil ?_
  refine Ex.block ?_
  refine Ex.loopK (X := Nat) (fun k => [(3, .int .i64 (size (s.take k))), (8, .int .i64 k)]) (fun k => []) (fun k => k ≤ s.length) (fun k => s.length - k) 0 [(2, _), (6, _), (7, _)] [] 0 [] ⟨rfl, rfl, trivial⟩ ⟨rfl, rfl, rfl, trivial⟩ (rfl) rfl (Nat.zero_le _) (fun k hI => ?_)
  have hI : k ≤ s.length := hI
  have hb := size_bd hu k
  have hm := size_mul hu k
  have hx := hu.at_ (by omega) k
  refine Ex.regSeq (ExL.pures 0 rfl ?_)
  refine ExL.lss rfl rfl rfl rfl rfl rfl (fun h1 => ?_) (fun h1 => ?_)
  · refine ExL.nil ?_
    refine Ex.seq ?_
    refine Ex.cond_t rfl ?_
    refine Ex.skip ?_
    refine Ex.seq ?_
    refine Ex.block ?_
    refine Ex.regSeq (ExL.pures 0 rfl ?_)
    refine ExL.free (fr_indexAddrF (Reads.old hs) (eI_len .u8) rfl rfl rfl rfl rfl rfl (by omega)) rfl rfl rfl ?_
    refine ExL.free (fr_load rfl rfl rfl rfl (by first | exact cellN (Reads.old hs) (eI_len .u8) 0 0 rfl (by omega) rfl | exact cellF (Reads.old hs) (eI_len .u8) 0 0 rfl (by omega) rfl)) rfl rfl rfl ?_
    refine ExL.pures 1 rfl ?_
    refine ExL.nil ?_
    refine Ex.region (ExL.pures 2 rfl ?_)
    refine ExL.free (by first | exact fr_conv64 rfl rfl rfl rfl (by omega) | exact fr_conv rfl rfl rfl rfl) rfl rfl rfl ?_
    refine ExL.free (by first | exact fr_mul64 rfl rfl rfl (by omega) | exact fr_mul rfl rfl rfl) rfl rfl rfl ?_
    refine ExL.free (fr_min rfl rfl rfl) rfl rfl rfl ?_
    refine ExL.pures 1 rfl ?_
    refine ExL.nil ?_
    refine Ex.region (ExL.pures 0 rfl ?_)
    refine ExL.free (by first | exact fr_add64 rfl rfl rfl (by omega) | exact fr_add rfl rfl rfl) rfl rfl rfl ?_
    refine ExL.pures 1 rfl ?_
    refine ExL.nil ?_
    refine Hand.mk (k + 1) 0 [] ⟨agI (size_snoc s k (by omega)).symm, rfl, trivial⟩ ⟨rfl, rfl, rfl, trivial⟩ (rfl) rfl (by omega) (by omega)
  · refine ExL.nil ?_
    refine Ex.seq ?_
    refine Ex.cond_f rfl ?_
    refine Ex.exit ?_
    refine Ex.regSeq (ExL.pures 2 rfl ?_)
    refine ExL.nil ?_
    refine Ex.ret ?_
    refine RetQ.mk () rfl (.tmp rfl .nil) (tI (by rw [List.take_of_length_le (by omega)])) [] (rfl) rfl (trivial)
theorem e_48 : Enters Tryz.prog 48 := Enters.of Tryz.func48 rfl
theorem c_wheels (s : List Int) (As : Option Addr) (cs : Nat) : Ret Tryz.prog 48 [.slice As s.length cs] (fun w => True) (fun x : Unit => .int .i64 s.length) (fun x => []) (fun x => True) := by
  refine Ret.of e_48 Tryz.func48 rfl Tryz.ntmps48 rfl rfl (fun w hpre => ?_)
  refine Ex.regSeq (ExL.pures 1 rfl ?_)
  refine ExL.nil ?_
  refine Ex.regSeq (ExL.pures 3 rfl ?_)
  refine ExL.nil ?_
  refine Ex.ret ?_
  refine RetQ.mk () rfl (.tmp rfl .nil) (rfl) [] (rfl) rfl (trivial)
theorem e_34 : Enters Tryz.prog 34 := Enters.of Tryz.func34 rfl
theorem c_l01Ok (s : List Int) (hu : Nums 255 s) (As : Option Addr) (cs : Nat) (hl : s.length ≤ maxLen) : Ret Tryz.prog 34 [.slice As s.length cs] (fun w => Rd w As (s.flatMap (eI .u8))) (fun x : Unit => .bool (validStack s)) (fun x => []) (fun x => True) := by
  refine Ret.of e_34 Tryz.func34 rfl Tryz.ntmps34 rfl rfl (fun w hpre => ?_)
  unfold maxLen at hl
  have hs := hpre.base
  refine Ex.regSeq (ExL.pures 1 rfl ?_)
  refine ExL.nil ?_
  refine Ex.seq ?_
  refine Ex.regSeq (ExL.pures 2 rfl ?_)
  refine ExL.op rfl (op_ret rfl rfl rfl (c_l00In _ _ _) (fun _ _ => trivial) rfl rfl (fun x1 hx1 => ?_))
  refine ExL.pures 1 rfl ?_
  refine ExL.nil ?_
  refine Ex.cond rfl (fun hb2 => ?_) (fun hb2 => ?_)
  · replace hb2 := nd_t hb2
    refine Ex.regSeq (ExL.pures 1 rfl ?_)
    refine ExL.nil ?_
    refine Ex.ret ?_
    refine RetQ.mk () rfl (.tmp rfl .nil) (tB (by first | exact vs_len (by assumption) | exact vs_base (k := k) (by omega) (by omega) | (have hkl : k = s.length := (by omega); subst hkl; first | exact vs_yes (by assumption) hall (by omega) | exact vs_size (by omega)))) [] (rfl) rfl (trivial)
  · replace hb2 := nd_f hb2
    refine Ex.skip ?_
    refine Ex.seq ?_
    refine Ex.regSeq (ExL.pures 1 rfl ?_)
    refine ExL.nil ?_
    refine Ex.block ?_
    refine Ex.loopK (X := Nat) (fun k => [(3, .int .i64 k)]) (fun k => []) (fun k => k ≤ s.length ∧ ∀ i, i < k → 2 ≤ s.getD i 0 ∧ s.getD i 0 ≤ 100) (fun k => s.length - k) 0 [(0, _)] [] 0 [] ⟨rfl, trivial⟩ ⟨rfl, trivial⟩ (rfl) rfl ⟨Nat.zero_le _, fun i hi => by omega⟩ (fun k hI => ?_)
    have hI : k ≤ s.length ∧ ∀ i, i < k → 2 ≤ s.getD i 0 ∧ s.getD i 0 ≤ 100 := hI
    obtain ⟨hk, hall⟩ := hI
    refine Ex.seq ?_
    refine Ex.regSeq (ExL.pures 3 rfl ?_)
    refine ExL.lss rfl rfl rfl rfl rfl rfl (fun h3 => ?_) (fun h3 => ?_)
    · refine ExL.nil ?_
      refine Ex.cond_t rfl ?_
      refine Ex.skip ?_
      refine Ex.seq ?_
      refine Ex.block ?_
      refine Ex.regSeq (ExL.pures 2 rfl ?_)
      refine ExL.free (fr_indexAddrF (Reads.old hs) (eI_len .u8) rfl rfl rfl rfl rfl rfl (by omega)) rfl rfl rfl ?_
      refine ExL.free (fr_load rfl rfl rfl rfl (by first | exact cellN (Reads.old hs) (eI_len .u8) 0 0 rfl (by omega) rfl | exact cellF (Reads.old hs) (eI_len .u8) 0 0 rfl (by omega) rfl)) rfl rfl rfl ?_
      refine ExL.lss rfl rfl rfl rfl rfl rfl (fun h4 => ?_) (fun h4 => ?_)
      · refine ExL.pures 7 rfl ?_
        refine ExL.nil ?_
        refine Ex.cond_t rfl ?_
        refine Ex.regSeq (ExL.pures 1 rfl ?_)
        refine ExL.nil ?_
        refine Ex.ret ?_
        refine RetQ.mk () rfl (.tmp rfl .nil) (tB (by first | exact vs_len (by assumption) | exact vs_base (k := k) (by omega) (by omega) | (have hkl : k = s.length := (by omega); subst hkl; first | exact vs_yes (by assumption) hall (by omega) | exact vs_size (by omega)))) [] (rfl) rfl (trivial)
      · refine ExL.pures 3 rfl ?_
        refine ExL.free (fr_indexAddrF (Reads.old hs) (eI_len .u8) rfl rfl rfl rfl rfl rfl (by omega)) rfl rfl rfl ?_
        refine ExL.free (fr_load rfl rfl rfl rfl (by first | exact cellN (Reads.old hs) (eI_len .u8) 0 0 rfl (by omega) rfl | exact cellF (Reads.old hs) (eI_len .u8) 0 0 rfl (by omega) rfl)) rfl rfl rfl ?_
        refine ExL.gtr rfl rfl rfl rfl rfl rfl (fun h5 => ?_) (fun h5 => ?_)
        · refine ExL.pures 1 rfl ?_
          refine ExL.nil ?_
          refine Ex.cond_t rfl ?_
          refine Ex.regSeq (ExL.pures 1 rfl ?_)
          refine ExL.nil ?_
          refine Ex.ret ?_
          refine RetQ.mk () rfl (.tmp rfl .nil) (tB (by first | exact vs_len (by assumption) | exact vs_base (k := k) (by omega) (by omega) | (have hkl : k = s.length := (by omega); subst hkl; first | exact vs_yes (by assumption) hall (by omega) | exact vs_size (by omega)))) [] (rfl) rfl (trivial)
        · refine ExL.pures 1 rfl ?_
          refine ExL.nil ?_
          refine Ex.cond_f rfl ?_
          refine Ex.skip ?_
          refine Ex.region (ExL.pures 1 rfl ?_)
          refine ExL.free (by first | exact fr_add64 rfl rfl rfl (by omega) | exact fr_add rfl rfl rfl) rfl rfl rfl ?_
          refine ExL.pures 1 rfl ?_
          refine ExL.nil ?_
          refine Hand.mk (k + 1) 0 [] ⟨rfl, trivial⟩ ⟨rfl, trivial⟩ (rfl) rfl (⟨by omega, all_snoc hall (by omega)⟩) (by omega)
    · refine ExL.nil ?_
      refine Ex.cond_f rfl ?_
      refine Ex.exit ?_
      refine Ex.regSeq (ExL.pures 1 rfl ?_)
      refine ExL.op rfl (op_ret rfl rfl rfl (c_l01Size _ (by assumption) _ _ (by first | assumption | omega | (unfold maxLen; omega))) (Reads.get (Reads.old hs)) rfl rfl (fun x6 hx6 => ?_))
      refine ExL.leq rfl rfl rfl rfl rfl rfl (fun h7 => ?_) (fun h7 => ?_)
      · refine ExL.pures 1 rfl ?_
        refine ExL.nil ?_
        refine Ex.ret ?_
        refine RetQ.mk () rfl (.tmp rfl .nil) (tB (by first | exact vs_len (by assumption) | exact vs_base (k := k) (by omega) (by omega) | (have hkl : k = s.length := (by omega); subst hkl; first | exact vs_yes (by assumption) hall (by omega) | exact vs_size (by omega)))) [] (rfl) rfl (trivial)
      · refine ExL.pures 1 rfl ?_
        refine ExL.nil ?_
        refine Ex.ret ?_
        refine RetQ.mk () rfl (.tmp rfl .nil) (tB (by first | exact vs_len (by assumption) | exact vs_base (k := k) (by omega) (by omega) | (have hkl : k = s.length := (by omega); subst hkl; first | exact vs_yes (by assumption) hall (by omega) | exact vs_size (by omega)))) [] (rfl) rfl (trivial)
end Go.Proofs.YtidnicdeogdedaaGreatDoor

/- What these functions of the program hand back, each proved by walking its operations. -/
set_option linter.unusedVariables false
set_option linter.unusedSimpArgs false
set_option maxRecDepth 4000
namespace Go.Proofs.YtidnicdeogdedaaGreatDoor
open Go Go.Sx Go.RowKit Go.W Go.Proofs
attribute [local irreducible] Ex ExL ExD Op1 Free RetQ MutQ Reads CellO SegO LoadsAs
theorem e_45 : Enters Tryz.prog 45 := Enters.of Tryz.func45 rfl
theorem c_l01Same (s : List Int) (As : Option Addr) (cs : Nat) (hls : s.length ≤ maxLen) (t : List Int) (At : Option Addr) (ct : Nat) (hlt : t.length ≤ maxLen) : Ret Tryz.prog 45 [.slice As s.length cs, .slice At t.length ct] (fun w => Rd w As (s.flatMap (eI .u8)) ∧ Rd w At (t.flatMap (eI .u8))) (fun x : Unit => .bool (decide (s = t))) (fun x => []) (fun x => True) := by
  refine Ret.of e_45 Tryz.func45 rfl Tryz.ntmps45 rfl rfl (fun w hpre => ?_)
  have hs := hpre.1.base
  have ht := hpre.2.base
  have hm0 : maxLen = 9223372036854775807 := rfl
  refine Ex.regSeq (ExL.pures 1 rfl ?_)
  refine ExL.nil ?_
  refine Ex.seq ?_
  refine Ex.regSeq (ExL.pures 4 rfl ?_)
  refine ExL.neq rfl rfl rfl rfl rfl rfl (fun h1 => ?_) (fun h1 => ?_)
  · refine ExL.nil ?_
    refine Ex.cond_t rfl ?_
    refine Ex.regSeq (ExL.pures 1 rfl ?_)
    refine ExL.nil ?_
    refine Ex.ret ?_
    refine RetQ.mk () rfl (.tmp rfl .nil) (tB (by first | exact eq_len (by omega) | exact eq_no k (by assumption) | exact eq_yes (k := k) (by omega) (by omega) hall)) [] (rfl) rfl (trivial)
  · refine ExL.nil ?_
    refine Ex.cond_f rfl ?_
    refine Ex.skip ?_
    refine Ex.seq ?_
    refine Ex.regSeq (ExL.pures 1 rfl ?_)
    refine ExL.nil ?_
    refine Ex.block ?_
    refine Ex.loopK (X := Nat) (fun k => [(5, .int .i64 k)]) (fun k => []) (fun k => k ≤ s.length ∧ ∀ i, i < k → s.getD i 0 = t.getD i 0) (fun k => s.length - k) 0 [(0, _), (1, _)] [] 0 [] ⟨rfl, trivial⟩ ⟨rfl, rfl, trivial⟩ (rfl) rfl ⟨Nat.zero_le _, fun i hi => by omega⟩ (fun k hI => ?_)
    have hI : k ≤ s.length ∧ ∀ i, i < k → s.getD i 0 = t.getD i 0 := hI
    obtain ⟨hk, hall⟩ := hI
    refine Ex.seq ?_
    refine Ex.regSeq (ExL.pures 3 rfl ?_)
    refine ExL.lss rfl rfl rfl rfl rfl rfl (fun h2 => ?_) (fun h2 => ?_)
    · refine ExL.nil ?_
      refine Ex.cond_t rfl ?_
      refine Ex.skip ?_
      refine Ex.seq ?_
      refine Ex.block ?_
      refine Ex.drawSeqM rfl ?_
      refine ExD.take (i := 0) rfl (by kernel_rfl) (pureVal_ok rfl) ((List.Sublist.refl _)) rfl rfl rfl ?_
      refine ExD.take (i := 1) rfl (by kernel_rfl) (pureVal_ok rfl) ((List.Sublist.refl _)) rfl rfl rfl ?_
      refine ExD.take (i := 2) rfl (by kernel_rfl) (fr_indexAddrF (Reads.old hs) (eI_len .u8) rfl rfl rfl rfl rfl rfl (by omega)) ((List.Sublist.refl _)) rfl rfl rfl ?_
      refine ExD.take (i := 3) rfl (by kernel_rfl) (fr_load rfl rfl rfl rfl (by first | exact cellN (Reads.old hs) (eI_len .u8) 0 0 rfl (by omega) rfl | exact cellF (Reads.old hs) (eI_len .u8) 0 0 rfl (by omega) rfl)) ((List.Sublist.refl _)) rfl rfl rfl ?_
      refine ExD.take (i := 4) rfl (by kernel_rfl) (pureVal_ok rfl) ((List.Sublist.refl _)) rfl rfl rfl ?_
      refine ExD.take (i := 5) rfl (by kernel_rfl) (pureVal_ok rfl) ((List.Sublist.refl _)) rfl rfl rfl ?_
      refine ExD.take (i := 6) rfl (by kernel_rfl) (fr_indexAddrF (Reads.old ht) (eI_len .u8) rfl rfl rfl rfl rfl rfl (by omega)) ((List.Sublist.refl _)) rfl rfl rfl ?_
      refine ExD.take (i := 7) rfl (by kernel_rfl) (fr_load rfl rfl rfl rfl (by first | exact cellN (Reads.old ht) (eI_len .u8) 0 0 rfl (by omega) rfl | exact cellF (Reads.old ht) (eI_len .u8) 0 0 rfl (by omega) rfl)) ((List.Sublist.refl _)) rfl rfl rfl ?_
      refine ExD.cmp_neq (i := 8) rfl (by kernel_rfl) rfl rfl rfl ((List.Sublist.refl _)) rfl rfl rfl (fun h3 => ?_) (fun h3 => ?_)
      · refine ExD.done (by kernel_rfl) ?_
        refine Ex.cond_t rfl ?_
        refine Ex.regSeq (ExL.pures 1 rfl ?_)
        refine ExL.nil ?_
        refine Ex.ret ?_
        refine RetQ.mk () rfl (.tmp rfl .nil) (tB (by first | exact eq_len (by omega) | exact eq_no k (by assumption) | exact eq_yes (k := k) (by omega) (by omega) hall)) [] (rfl) rfl (trivial)
      · refine ExD.done (by kernel_rfl) ?_
        refine Ex.cond_f rfl ?_
        refine Ex.skip ?_
        refine Ex.region (ExL.pures 1 rfl ?_)
        refine ExL.free (by first | exact fr_add64 rfl rfl rfl (by omega) | exact fr_add rfl rfl rfl) rfl rfl rfl ?_
        refine ExL.pures 1 rfl ?_
        refine ExL.nil ?_
        refine Hand.mk (k + 1) 0 [] ⟨rfl, trivial⟩ ⟨rfl, rfl, trivial⟩ (rfl) rfl (⟨by omega, all_snoc hall (by first | assumption | omega)⟩) (by omega)
    · refine ExL.nil ?_
      refine Ex.cond_f rfl ?_
      refine Ex.exit ?_
      refine Ex.regSeq (ExL.pures 1 rfl ?_)
      refine ExL.nil ?_
      refine Ex.ret ?_
      refine RetQ.mk () rfl (.tmp rfl .nil) (tB (by first | exact eq_len (by omega) | exact eq_no k (by assumption) | exact eq_yes (k := k) (by omega) (by omega) hall)) [] (rfl) rfl (trivial)
theorem e_46 : Enters Tryz.prog 46 := Enters.of Tryz.func46 rfl
theorem c_slEqual (s : List Int) (As : Option Addr) (cs : Nat) (hls : s.length ≤ maxLen) (t : List Int) (At : Option Addr) (ct : Nat) (hlt : t.length ≤ maxLen) : Ret Tryz.prog 46 [.slice As s.length cs, .slice At t.length ct] (fun w => Rd w As (s.flatMap (eI .u8)) ∧ Rd w At (t.flatMap (eI .u8))) (fun x : Unit => .bool (decide (s = t))) (fun x => []) (fun x => True) := by
  refine Ret.of e_46 Tryz.func46 rfl Tryz.ntmps46 rfl rfl (fun w hpre => ?_)
  have hs := hpre.1.base
  have ht := hpre.2.base
  have hm0 : maxLen = 9223372036854775807 := rfl
  refine Ex.regSeq (ExL.pures 1 rfl ?_)
  refine ExL.nil ?_
  refine Ex.seq ?_
  refine Ex.regSeq (ExL.pures 4 rfl ?_)
  refine ExL.neq rfl rfl rfl rfl rfl rfl (fun h1 => ?_) (fun h1 => ?_)
  · refine ExL.nil ?_
    refine Ex.cond_t rfl ?_
    refine Ex.regSeq (ExL.pures 1 rfl ?_)
    refine ExL.nil ?_
    refine Ex.ret ?_
    refine RetQ.mk () rfl (.tmp rfl .nil) (tB (by first | exact eq_len (by omega) | exact eq_no k (by assumption) | exact eq_yes (k := k) (by omega) (by omega) hall)) [] (rfl) rfl (trivial)
  · refine ExL.nil ?_
    refine Ex.cond_f rfl ?_
    refine Ex.skip ?_
    refine Ex.seq ?_
    refine Ex.regSeq (ExL.pures 3 rfl ?_)
    refine ExL.nil ?_
    refine Ex.block ?_
    refine Ex.loopK (X := Nat) (fun k => [(13, .int .i64 k)]) (fun k => []) (fun k => k ≤ s.length ∧ ∀ i, i < k → s.getD i 0 = t.getD i 0) (fun k => s.length - k) 0 [(0, _), (1, _), (12, _)] [] 0 [] ⟨rfl, trivial⟩ ⟨rfl, rfl, rfl, trivial⟩ (rfl) rfl ⟨Nat.zero_le _, fun i hi => by omega⟩ (fun k hI => ?_)
    have hI : k ≤ s.length ∧ ∀ i, i < k → s.getD i 0 = t.getD i 0 := hI
    obtain ⟨hk, hall⟩ := hI
    refine Ex.regSeq (ExL.pures 0 rfl ?_)
    refine ExL.lss rfl rfl rfl rfl rfl rfl (fun h2 => ?_) (fun h2 => ?_)
    · refine ExL.nil ?_
      refine Ex.seq ?_
      refine Ex.cond_t rfl ?_
      refine Ex.skip ?_
      refine Ex.seq ?_
      refine Ex.block ?_
      refine Ex.regSeq (ExL.pures 2 rfl ?_)
      refine ExL.nil ?_
      refine Ex.drawSeqM rfl ?_
      refine ExD.take (i := 0) rfl (by kernel_rfl) (pureVal_ok rfl) ((List.Sublist.refl _)) rfl rfl rfl ?_
      refine ExD.take (i := 1) rfl (by kernel_rfl) (pureVal_ok rfl) ((List.Sublist.refl _)) rfl rfl rfl ?_
      refine ExD.take (i := 2) rfl (by kernel_rfl) (fr_indexAddrF (Reads.old hs) (eI_len .u8) rfl rfl rfl rfl rfl rfl (by omega)) ((List.Sublist.refl _)) rfl rfl rfl ?_
      refine ExD.take (i := 3) rfl (by kernel_rfl) (fr_load rfl rfl rfl rfl (by first | exact cellN (Reads.old hs) (eI_len .u8) 0 0 rfl (by omega) rfl | exact cellF (Reads.old hs) (eI_len .u8) 0 0 rfl (by omega) rfl)) ((List.Sublist.refl _)) rfl rfl rfl ?_
      refine ExD.take (i := 4) rfl (by kernel_rfl) (pureVal_ok rfl) ((List.Sublist.refl _)) rfl rfl rfl ?_
      refine ExD.take (i := 5) rfl (by kernel_rfl) (pureVal_ok rfl) ((List.Sublist.refl _)) rfl rfl rfl ?_
      refine ExD.take (i := 6) rfl (by kernel_rfl) (fr_indexAddrF (Reads.old ht) (eI_len .u8) rfl rfl rfl rfl rfl rfl (by omega)) ((List.Sublist.refl _)) rfl rfl rfl ?_
      refine ExD.take (i := 7) rfl (by kernel_rfl) (fr_load rfl rfl rfl rfl (by first | exact cellN (Reads.old ht) (eI_len .u8) 0 0 rfl (by omega) rfl | exact cellF (Reads.old ht) (eI_len .u8) 0 0 rfl (by omega) rfl)) ((List.Sublist.refl _)) rfl rfl rfl ?_
      refine ExD.cmp_neq (i := 8) rfl (by kernel_rfl) rfl rfl rfl ((List.Sublist.refl _)) rfl rfl rfl (fun h3 => ?_) (fun h3 => ?_)
      · refine ExD.done (by kernel_rfl) ?_
        refine Ex.cond_t rfl ?_
        refine Ex.regSeq (ExL.pures 1 rfl ?_)
        refine ExL.nil ?_
        refine Ex.ret ?_
        refine RetQ.mk () rfl (.tmp rfl .nil) (tB (by first | exact eq_len (by omega) | exact eq_no k (by assumption) | exact eq_yes (k := k) (by omega) (by omega) hall)) [] (rfl) rfl (trivial)
      · refine ExD.done (by kernel_rfl) ?_
        refine Ex.cond_f rfl ?_
        refine Ex.skip ?_
        refine Ex.region (ExL.pures 0 rfl ?_)
        refine ExL.free (by first | exact fr_add64 rfl rfl rfl (by omega) | exact fr_add rfl rfl rfl) rfl rfl rfl ?_
        refine ExL.pures 1 rfl ?_
        refine ExL.nil ?_
        refine Hand.mk (k + 1) 0 [] ⟨rfl, trivial⟩ ⟨rfl, rfl, rfl, trivial⟩ (rfl) rfl (⟨by omega, all_snoc hall (by first | assumption | omega)⟩) (by omega)
    · refine ExL.nil ?_
      refine Ex.seq ?_
      refine Ex.cond_f rfl ?_
      refine Ex.exit ?_
      refine Ex.regSeq (ExL.pures 1 rfl ?_)
      refine ExL.nil ?_
      refine Ex.ret ?_
      refine RetQ.mk () rfl (.tmp rfl .nil) (tB (by first | exact eq_len (by omega) | exact eq_no k (by assumption) | exact eq_yes (k := k) (by omega) (by omega) hall)) [] (rfl) rfl (trivial)
theorem e_16 : Enters Tryz.prog 16 := Enters.of Tryz.func16 rfl
theorem c_SameStack (s : List Int) (As : Option Addr) (cs : Nat) (hls : s.length ≤ maxLen) (t : List Int) (At : Option Addr) (ct : Nat) (hlt : t.length ≤ maxLen) : Ret Tryz.prog 16 [.slice As s.length cs, .slice At t.length ct] (fun w => Rd w As (s.flatMap (eI .u8)) ∧ Rd w At (t.flatMap (eI .u8))) (fun x : Unit => .bool (decide (s = t))) (fun x => []) (fun x => True) := by
  refine Ret.of e_16 Tryz.func16 rfl Tryz.ntmps16 rfl rfl (fun w hpre => ?_)
  have hs := hpre.1.base
  have ht := hpre.2.base
  refine Ex.regSeq (ExL.pures 1 rfl ?_)
  refine ExL.nil ?_
  refine Ex.regSeq (ExL.pures 2 rfl ?_)
  refine ExL.op rfl (op_ret rfl rfl rfl (c_slEqual s _ _ (by omega) t _ _ (by omega)) (fun w hw => ⟨Reads.get (Reads.old hs) w hw, Reads.get (Reads.old ht) w hw⟩) rfl rfl (fun x1 hx1 => ?_))
  refine ExL.pures 1 rfl ?_
  refine ExL.nil ?_
  refine Ex.ret ?_
  refine RetQ.mk () rfl (.tmp rfl .nil) (rfl) [] (rfl) rfl (trivial)
end Go.Proofs.YtidnicdeogdedaaGreatDoor

/- What these functions of the program hand back, each proved by walking its operations. -/
set_option linter.unusedVariables false
set_option linter.unusedSimpArgs false
set_option maxRecDepth 4000
namespace Go.Proofs.YtidnicdeogdedaaGreatDoor
open Go Go.Sx Go.RowKit Go.W Go.Proofs
attribute [local irreducible] Ex ExL ExD Op1 Free RetQ MutQ Reads CellO SegO LoadsAs
end Go.Proofs.YtidnicdeogdedaaGreatDoor

/- What these functions of the program hand back, each proved by walking its operations. -/
set_option linter.unusedVariables false
set_option linter.unusedSimpArgs false
set_option maxRecDepth 4000
namespace Go.Proofs.YtidnicdeogdedaaGreatDoor
open Go Go.Sx Go.RowKit Go.W Go.Proofs
attribute [local irreducible] Ex ExL ExD Op1 Free RetQ MutQ Reads CellO SegO LoadsAs
end Go.Proofs.YtidnicdeogdedaaGreatDoor

/- What these functions of the program hand back, each proved by walking its operations. -/
set_option linter.unusedVariables false
set_option linter.unusedSimpArgs false
set_option maxRecDepth 4000
namespace Go.Proofs.YtidnicdeogdedaaGreatDoor
open Go Go.Sx Go.RowKit Go.W Go.Proofs
attribute [local irreducible] Ex ExL ExD Op1 Free RetQ MutQ Reads CellO SegO LoadsAs
theorem e_69 : Enters Tryz.prog 69 := Enters.of Tryz.func69 rfl
theorem c_slIndexFunc (s : List Int) (hu : ∀ x, x ∈ s → 0 ≤ x ∧ x ≤ 255) (As : Option Addr) (cs : Nat) (hls : s.length ≤ maxLen) (g : FuncId) (cap : List Value) (Pr : World → Prop) (hPr : ∀ w w', Pr w → Below w.heap.size w w' → Pr w') (p : Int → Bool) (hp : ∀ x : Int, 0 ≤ x ∧ x ≤ 255 → Ret Tryz.prog g ([.int .u8 x] ++ cap) Pr (fun _ : Unit => .bool (p x)) (fun _ => []) (fun _ => True)) : Ret Tryz.prog 69 [.slice As s.length cs, .func (.func g) #[] cap.toArray] (fun w => Rd w As (s.flatMap (eI .u8)) ∧ Pr w) (fun x : Unit => .int .i64 (idxF p s)) (fun x => []) (fun x => True) := by
  refine Ret.of e_69 Tryz.func69 rfl Tryz.ntmps69 rfl rfl (fun w hpre => ?_)
  have hs := hpre.1.base
  have hm0 : maxLen = 9223372036854775807 := rfl
  refine Ex.regSeq (ExL.pures 1 rfl ?_)
  refine ExL.nil ?_
  refine Ex.seq ?_
  refine Ex.regSeq (ExL.pures 3 rfl ?_)
  refine ExL.nil ?_
  refine Ex.block ?_
  refine Ex.loopK (X := Nat) (fun k => [(8, .int .i64 k)]) (fun k => []) (fun k => k ≤ s.length ∧ ∀ i, i < k → p (s.getD i 0) = false) (fun k => s.length - k) 0 [(0, _), (1, _), (7, _)] [] 0 [] ⟨rfl, trivial⟩ ⟨rfl, rfl, rfl, trivial⟩ (rfl) rfl ⟨Nat.zero_le _, fun i hi => by omega⟩ (fun k hI => ?_)
  have hI : k ≤ s.length ∧ ∀ i, i < k → p (s.getD i 0) = false := hI
  obtain ⟨hk, hall⟩ := hI
  refine Ex.regSeq (ExL.pures 0 rfl ?_)
  refine ExL.lss rfl rfl rfl rfl rfl rfl (fun h1 => ?_) (fun h1 => ?_)
  · refine ExL.nil ?_
    refine Ex.seq ?_
    refine Ex.cond_t rfl ?_
    refine Ex.skip ?_
    refine Ex.seq ?_
    refine Ex.block ?_
    have hk2 : k < s.length := by omega
    refine Ex.regSeq (ExL.pures 2 rfl ?_)
    refine ExL.nil ?_
    refine Ex.regSeq (ExL.pures 3 rfl ?_)
    refine ExL.free (fr_indexAddrF (Reads.old hs) (eI_len .u8) rfl rfl rfl rfl rfl rfl (by omega)) rfl rfl rfl ?_
    refine ExL.free (fr_load rfl rfl rfl rfl (by first | exact cellN (Reads.old hs) (eI_len .u8) 0 0 rfl (by omega) rfl | exact cellF (Reads.old hs) (eI_len .u8) 0 0 rfl (by omega) rfl)) rfl rfl rfl ?_
    refine ExL.op rfl (op_ret rfl rfl rfl (hp _ (hu _ (getD_mem _ hk2))) (fun w' hw => hPr _ _ hpre.2 hw.below) rfl rfl (fun x2 hx2 => ?_))
    refine ExL.nil ?_
    refine Ex.cond rfl (fun hb3 => ?_) (fun hb3 => ?_)
    · refine Ex.regSeq (ExL.pures 2 rfl ?_)
      refine ExL.nil ?_
      refine Ex.ret ?_
      refine RetQ.mk () rfl (.tmp rfl .nil) (tI (by first | exact (idx_hit (by omega) hall (by assumption)).symm | exact (idx_none (by omega) hall).symm)) [] (rfl) rfl (trivial)
    · refine Ex.skip ?_
      refine Ex.region (ExL.pures 0 rfl ?_)
      refine ExL.free (by first | exact fr_add64 rfl rfl rfl (by omega) | exact fr_add rfl rfl rfl) rfl rfl rfl ?_
      refine ExL.pures 1 rfl ?_
      refine ExL.nil ?_
      refine Hand.mk (k + 1) 0 [] ⟨rfl, trivial⟩ ⟨rfl, rfl, rfl, trivial⟩ (rfl) rfl (⟨by omega, all_snoc hall (by assumption)⟩) (by omega)
  · refine ExL.nil ?_
    refine Ex.seq ?_
    refine Ex.cond_f rfl ?_
    refine Ex.exit ?_
    refine Ex.regSeq (ExL.pures 1 rfl ?_)
    refine ExL.nil ?_
    refine Ex.ret ?_
    refine RetQ.mk () rfl (.tmp rfl .nil) (tI (by first | exact (idx_hit (by omega) hall (by assumption)).symm | exact (idx_none (by omega) hall).symm)) [] (rfl) rfl (trivial)
theorem e_49 : Enters Tryz.prog 49 := Enters.of Tryz.func49 rfl
theorem c_slContainsFunc (s : List Int) (hu : ∀ x, x ∈ s → 0 ≤ x ∧ x ≤ 255) (As : Option Addr) (cs : Nat) (hls : s.length ≤ maxLen) (g : FuncId) (cap : List Value) (Pr : World → Prop) (hPr : ∀ w w', Pr w → Below w.heap.size w w' → Pr w') (p : Int → Bool) (hp : ∀ x : Int, 0 ≤ x ∧ x ≤ 255 → Ret Tryz.prog g ([.int .u8 x] ++ cap) Pr (fun _ : Unit => .bool (p x)) (fun _ => []) (fun _ => True)) : Ret Tryz.prog 49 [.slice As s.length cs, .func (.func g) #[] cap.toArray] (fun w => Rd w As (s.flatMap (eI .u8)) ∧ Pr w) (fun x : Unit => .bool (s.any p)) (fun x => []) (fun x => True) := by
  refine Ret.of e_49 Tryz.func49 rfl Tryz.ntmps49 rfl rfl (fun w hpre => ?_)
  have hs := hpre.1.base
  have hm0 : maxLen = 9223372036854775807 := rfl
  refine Ex.regSeq (ExL.pures 1 rfl ?_)
  refine ExL.nil ?_
  refine Ex.regSeq (ExL.pures 2 rfl ?_)
  refine ExL.op rfl (op_ret rfl rfl rfl (c_slIndexFunc s hu _ _ (by omega) g cap Pr hPr p hp) (fun w' hw => ⟨Reads.get (Reads.old hs) w' hw, hPr _ _ hpre.2 hw.below⟩) rfl rfl (fun x1 hx1 => ?_))
  refine ExL.geq rfl rfl rfl rfl rfl rfl (fun h2 => ?_) (fun h2 => ?_)
  · refine ExL.pures 1 rfl ?_
    refine ExL.nil ?_
    refine Ex.ret ?_
    refine RetQ.mk () rfl (.tmp rfl .nil) (tB (by rw [any_idx]; first | exact dec_t (by omega) | exact dec_f (by omega) | rfl)) [] (rfl) rfl (trivial)
  · refine ExL.pures 1 rfl ?_
    refine ExL.nil ?_
    refine Ex.ret ?_
    refine RetQ.mk () rfl (.tmp rfl .nil) (tB (by rw [any_idx]; first | exact dec_t (by omega) | exact dec_f (by omega) | rfl)) [] (rfl) rfl (trivial)
theorem e_50 : Enters Tryz.prog 50 := Enters.of Tryz.func50 rfl
theorem c_vs1 (y : Int) : Ret Tryz.prog 50 [.int .u8 y] (fun w => True) (fun x : Unit => .bool (decide (y < 2 ∨ 100 < y))) (fun x => []) (fun x => True) := by
  refine Ret.of e_50 Tryz.func50 rfl Tryz.ntmps50 rfl rfl (fun w hpre => ?_)
  refine Ex.regSeq (ExL.pures 1 rfl ?_)
  refine ExL.nil ?_
  refine Ex.regSeq (ExL.pures 1 rfl ?_)
  refine ExL.lss rfl rfl rfl rfl rfl rfl (fun h1 => ?_) (fun h1 => ?_)
  · refine ExL.pures 5 rfl ?_
    refine ExL.nil ?_
    refine Ex.ret ?_
    refine RetQ.mk () rfl (.tmp rfl .nil) (tB (by first | exact dec_t (by omega) | exact dec_f (by omega) | (exact decide_eq_decide.2 (by omega)))) [] (rfl) rfl (trivial)
  · refine ExL.pures 2 rfl ?_
    refine ExL.gtr rfl rfl rfl rfl rfl rfl (fun h2 => ?_) (fun h2 => ?_)
    · refine ExL.pures 2 rfl ?_
      refine ExL.nil ?_
      refine Ex.ret ?_
      refine RetQ.mk () rfl (.tmp rfl .nil) (tB (by first | exact dec_t (by omega) | exact dec_f (by omega) | (exact decide_eq_decide.2 (by omega)))) [] (rfl) rfl (trivial)
    · refine ExL.pures 2 rfl ?_
      refine ExL.nil ?_
      refine Ex.ret ?_
      refine RetQ.mk () rfl (.tmp rfl .nil) (tB (by first | exact dec_t (by omega) | exact dec_f (by omega) | (exact decide_eq_decide.2 (by omega)))) [] (rfl) rfl (trivial)
theorem e_17 : Enters Tryz.prog 17 := Enters.of Tryz.func17 rfl
theorem c_ValidStack (s : List Int) (hu : Nums 255 s) (As : Option Addr) (cs : Nat) (hl : s.length ≤ maxLen) : Ret Tryz.prog 17 [.slice As s.length cs] (fun w => Rd w As (s.flatMap (eI .u8))) (fun x : Unit => .bool (validStack s)) (fun x => []) (fun x => True) := by
  refine Ret.of e_17 Tryz.func17 rfl Tryz.ntmps17 rfl rfl (fun w hpre => ?_)
  have hs := hpre.base
  have hm0 : maxLen = 9223372036854775807 := rfl
  refine Ex.regSeq (ExL.pures 1 rfl ?_)
  refine ExL.nil ?_
  refine Ex.regSeq (ExL.pures 1 rfl ?_)
  refine ExL.op rfl (op_ret rfl rfl rfl (c_wheels _ _ _) (fun _ _ => trivial) rfl rfl (fun x1 hx1 => ?_))
  refine ExL.op rfl (op_ret rfl rfl rfl (c_within _ _ _) (fun _ _ => trivial) rfl rfl (fun x2 hx2 => ?_))
  refine ExL.pures 1 rfl ?_
  refine ExL.bool (d := 7) rfl (fun hb3 => ?_) (fun hb3 => ?_)
  · replace hb3 := of_decide_eq_true hb3
    refine ExL.pures 1 rfl ?_
    refine ExL.op rfl (op_ret rfl rfl rfl (c_slContainsFunc s hu _ _ (by omega) 50 [] (fun _ => True) (fun _ _ _ _ => trivial) (fun x => decide (x < 2 ∨ 100 < x)) (fun x _ => c_vs1 x)) (fun w' hw => ⟨Reads.get (Reads.old hs) w' hw, trivial⟩) rfl rfl (fun x4 hx4 => ?_))
    refine ExL.pures 3 rfl ?_
    refine ExL.nil ?_
    refine Ex.regSeq (ExL.pures 2 rfl ?_)
    refine ExL.bool (d := 13) rfl (fun hb5 => ?_) (fun hb5 => ?_)
    · replace hb5 := nb_t hb5
      refine ExL.pures 1 rfl ?_
      refine ExL.op rfl (op_ret rfl rfl rfl (c_size _ (by assumption) _ _ (by first | assumption | omega | (unfold maxLen; omega))) (Reads.get (Reads.old hs)) rfl rfl (fun x6 hx6 => ?_))
      refine ExL.leq rfl rfl rfl rfl rfl rfl (fun h7 => ?_) (fun h7 => ?_)
      · refine ExL.pures 2 rfl ?_
        refine ExL.nil ?_
        refine Ex.ret ?_
        refine RetQ.mk () rfl (.tmp rfl .nil) (tB (by first | exact vs_len (by assumption) | exact vs_any (by assumption) | exact vs_size (by assumption) | exact vs_yes2 (by assumption) (by assumption) (by assumption))) [] (rfl) rfl (trivial)
      · refine ExL.pures 2 rfl ?_
        refine ExL.nil ?_
        refine Ex.ret ?_
        refine RetQ.mk () rfl (.tmp rfl .nil) (tB (by first | exact vs_len (by assumption) | exact vs_any (by assumption) | exact vs_size (by assumption) | exact vs_yes2 (by assumption) (by assumption) (by assumption))) [] (rfl) rfl (trivial)
    · replace hb5 := nb_f hb5
      refine ExL.pures 5 rfl ?_
      refine ExL.nil ?_
      refine Ex.ret ?_
      refine RetQ.mk () rfl (.tmp rfl .nil) (tB (by first | exact vs_len (by assumption) | exact vs_any (by assumption) | exact vs_size (by assumption) | exact vs_yes2 (by assumption) (by assumption) (by assumption))) [] (rfl) rfl (trivial)
  · replace hb3 := of_decide_eq_false hb3
    refine ExL.pures 5 rfl ?_
    refine ExL.nil ?_
    refine Ex.regSeq (ExL.pures 7 rfl ?_)
    refine ExL.nil ?_
    refine Ex.ret ?_
    refine RetQ.mk () rfl (.tmp rfl .nil) (tB (by first | exact vs_len (by assumption) | exact vs_any (by assumption) | exact vs_size (by assumption) | exact vs_yes2 (by assumption) (by assumption) (by assumption))) [] (rfl) rfl (trivial)
theorem e_72 : Enters Tryz.prog 72 := Enters.of Tryz.func72 rfl
theorem c_l01Digits (s : List Int) (hu : Nums 255 s) (As : Option Addr) (cs : Nat) (hls : s.length ≤ maxLen) (a : Dig) (ha : Nums 255 a.l) : Ret Tryz.prog 72 [.slice As s.length cs, .agg (encD a).toArray] (fun w => Rd w As (s.flatMap (eI .u8))) (fun x : Unit => .bool (validDig s a.l)) (fun x => []) (fun x => True) := by
  refine Ret.of e_72 Tryz.func72 rfl Tryz.ntmps72 rfl rfl (fun w hpre => ?_)
  have hs := hpre.base
  have hm0 : maxLen = 9223372036854775807 := rfl
  refine Ex.regSeq (ExL.pures 0 rfl ?_)
  refine ExL.op rfl (op_box rfl rfl rfl rfl rfl (fun b1 => ?_))
  refine ExL.pures 1 rfl ?_
  refine ExL.nil ?_
  refine Ex.seq ?_
  refine Ex.regSeq (ExL.pures 1 rfl ?_)
  refine ExL.nil ?_
  refine Ex.block ?_
  refine Ex.loopK (X := Nat) (fun k => [(5, .int .i64 k)]) (fun k => []) (fun k => k ≤ 8 ∧ ∀ i, i < k → goodAt s a.l i = true) (fun k => 8 - k) 0 [(0, _), (3, _)] [_] 1 [0] ⟨rfl, trivial⟩ ⟨rfl, rfl, trivial⟩ (rfl) rfl ⟨Nat.zero_le _, fun i hi => by omega⟩ (fun k hI => ?_)
  have hI : k ≤ 8 ∧ ∀ i, i < k → goodAt s a.l i = true := hI
  obtain ⟨hk, hall⟩ := hI
  have hb := ha.at_ (by omega) k
  refine Ex.seq ?_
  refine Ex.regSeq (ExL.pures 1 rfl ?_)
  refine ExL.lss rfl rfl rfl rfl rfl rfl (fun h2 => ?_) (fun h2 => ?_)
  · refine ExL.nil ?_
    refine Ex.cond_t rfl ?_
    refine Ex.skip ?_
    refine Ex.seq ?_
    refine Ex.block ?_
    refine Ex.drawSeqM rfl ?_
    refine ExD.take (i := 0) rfl (by kernel_rfl) (pureVal_ok rfl) ((List.Sublist.refl _)) rfl rfl rfl ?_
    refine ExD.take (i := 1) rfl (by kernel_rfl) (pureVal_ok rfl) ((List.Sublist.refl _)) rfl rfl rfl ?_
    refine ExD.take (i := 2) rfl (by kernel_rfl) (pureVal_ok rfl) ((List.Sublist.refl _)) rfl rfl rfl ?_
    refine ExD.cmp_lss (i := 3) rfl (by kernel_rfl) rfl rfl rfl ((List.Sublist.refl _)) rfl rfl rfl (fun h3 => ?_) (fun h3 => ?_)
    · refine ExD.take (i := 4) rfl (by kernel_rfl) (pureVal_ok rfl) ((List.Sublist.refl _)) rfl rfl rfl ?_
      refine ExD.take (i := 5) rfl (by kernel_rfl) (pureVal_ok rfl) ((List.Sublist.refl _)) rfl rfl rfl ?_
      refine ExD.take (i := 6) rfl (by kernel_rfl) (fr_indexAddr_b (sz := 1) rfl rfl rfl rfl rfl (by omega)) ((List.Sublist.refl _)) rfl rfl rfl ?_
      refine ExD.take (i := 7) rfl (by kernel_rfl) (fr_load rfl rfl rfl rfl (CellO.blk (i := 0) rfl (blkG (eI_len .u8) 0 rfl (by rw [dig_len]; omega) rfl))) ((List.Sublist.refl _)) rfl rfl rfl ?_
      refine ExD.take (i := 8) rfl (by kernel_rfl) (pureVal_ok rfl) ((List.Sublist.refl _)) rfl rfl rfl ?_
      refine ExD.take (i := 9) rfl (by kernel_rfl) (pureVal_ok rfl) ((List.Sublist.refl _)) rfl rfl rfl ?_
      refine ExD.take (i := 10) rfl (by kernel_rfl) (fr_indexAddrF (Reads.old hs) (eI_len .u8) rfl rfl rfl rfl rfl rfl (by omega)) ((List.Sublist.refl _)) rfl rfl rfl ?_
      refine ExD.take (i := 11) rfl (by kernel_rfl) (fr_load rfl rfl rfl rfl (by first | exact cellN (Reads.old hs) (eI_len .u8) 0 0 rfl (by omega) rfl | exact cellF (Reads.old hs) (eI_len .u8) 0 0 rfl (by omega) rfl)) ((List.Sublist.refl _)) rfl rfl rfl ?_
      refine ExD.cmp_geq (i := 12) rfl (by kernel_rfl) rfl rfl rfl ((List.Sublist.refl _)) rfl rfl rfl (fun h4 => ?_) (fun h4 => ?_)
      · refine ExD.take (i := 13) rfl (by kernel_rfl) (pureVal_ok rfl) ((List.Sublist.refl _)) rfl rfl rfl ?_
        refine ExD.take (i := 14) rfl (by kernel_rfl) (pureVal_ok rfl) ((List.Sublist.refl _)) rfl rfl rfl ?_
        refine ExD.pass (i := 15) rfl (by kernel_rfl) ((List.Sublist.refl _)) rfl rfl rfl ?_
        refine ExD.pass (i := 16) rfl (by kernel_rfl) ((List.Sublist.refl _)) rfl rfl rfl ?_
        refine ExD.pass (i := 17) rfl (by kernel_rfl) ((List.Sublist.refl _)) rfl rfl rfl ?_
        refine ExD.pass (i := 18) rfl (by kernel_rfl) ((List.Sublist.refl _)) rfl rfl rfl ?_
        refine ExD.pass (i := 19) rfl (by kernel_rfl) ((List.Sublist.refl _)) rfl rfl rfl ?_
        refine ExD.pass (i := 20) rfl (by kernel_rfl) ((List.Sublist.refl _)) rfl rfl rfl ?_
        refine ExD.pass (i := 21) rfl (by kernel_rfl) ((List.Sublist.refl _)) rfl rfl rfl ?_
        refine ExD.pass (i := 22) rfl (by kernel_rfl) ((List.Sublist.refl _)) rfl rfl rfl ?_
        refine ExD.pass (i := 23) rfl (by kernel_rfl) ((List.Sublist.refl _)) rfl rfl rfl ?_
        refine ExD.pass (i := 24) rfl (by kernel_rfl) ((List.Sublist.refl _)) rfl rfl rfl ?_
        refine ExD.take (i := 25) rfl (by kernel_rfl) (pureVal_ok rfl) ((List.Sublist.refl _)) rfl rfl rfl ?_
        refine ExD.done (by kernel_rfl) ?_
        refine Ex.cond_t rfl ?_
        refine Ex.regSeq (ExL.pures 1 rfl ?_)
        refine ExL.nil ?_
        refine Ex.ret ?_
        refine RetQ.mk () rfl (.tmp rfl .nil) (tB (by first | exact good_all (by omega) hall | exact bad_lo (k := k) (by omega) (by omega) (by assumption) | exact bad_hi (k := k) (by omega) (by omega) (by omega))) [] (rfl) rfl (trivial)
      · refine ExD.take (i := 13) rfl (by kernel_rfl) (pureVal_ok rfl) ((List.Sublist.refl _)) rfl rfl rfl ?_
        refine ExD.take (i := 14) rfl (by kernel_rfl) (pureVal_ok rfl) ((List.Sublist.refl _)) rfl rfl rfl ?_
        refine ExD.take (i := 15) rfl (by kernel_rfl) (pureVal_ok rfl) ((List.Sublist.refl _)) rfl rfl rfl ?_
        refine ExD.take (i := 16) rfl (by kernel_rfl) (pureVal_ok rfl) ((List.Sublist.refl _)) rfl rfl rfl ?_
        refine ExD.take (i := 17) rfl (by kernel_rfl) (pureVal_ok rfl) ((List.Sublist.refl _)) rfl rfl rfl ?_
        refine ExD.cmp_geq (i := 18) rfl (by kernel_rfl) rfl rfl rfl ((List.Sublist.refl _)) rfl rfl rfl (fun h5 => ?_) (fun h5 => ?_)
        · refine ExD.take (i := 19) rfl (by kernel_rfl) (pureVal_ok rfl) ((List.Sublist.refl _)) rfl rfl rfl ?_
          refine ExD.take (i := 20) rfl (by kernel_rfl) (pureVal_ok rfl) ((List.Sublist.refl _)) rfl rfl rfl ?_
          refine ExD.take (i := 21) rfl (by kernel_rfl) (fr_indexAddr_b (sz := 1) rfl rfl rfl rfl rfl (by omega)) ((List.Sublist.refl _)) rfl rfl rfl ?_
          refine ExD.take (i := 22) rfl (by kernel_rfl) (fr_load rfl rfl rfl rfl (CellO.blk (i := 0) rfl (blkG (eI_len .u8) 0 rfl (by rw [dig_len]; omega) rfl))) ((List.Sublist.refl _)) rfl rfl rfl ?_
          refine ExD.cmp_neq (i := 23) rfl (by kernel_rfl) rfl rfl rfl ((List.Sublist.refl _)) rfl rfl rfl (fun h6 => ?_) (fun h6 => ?_)
          · refine ExD.take (i := 24) rfl (by kernel_rfl) (pureVal_ok rfl) ((List.Sublist.refl _)) rfl rfl rfl ?_
            refine ExD.take (i := 25) rfl (by kernel_rfl) (pureVal_ok rfl) ((List.Sublist.refl _)) rfl rfl rfl ?_
            refine ExD.done (by kernel_rfl) ?_
            refine Ex.cond_t rfl ?_
            refine Ex.regSeq (ExL.pures 1 rfl ?_)
            refine ExL.nil ?_
            refine Ex.ret ?_
            refine RetQ.mk () rfl (.tmp rfl .nil) (tB (by first | exact good_all (by omega) hall | exact bad_lo (k := k) (by omega) (by omega) (by assumption) | exact bad_hi (k := k) (by omega) (by omega) (by omega))) [] (rfl) rfl (trivial)
          · refine ExD.take (i := 24) rfl (by kernel_rfl) (pureVal_ok rfl) ((List.Sublist.refl _)) rfl rfl rfl ?_
            refine ExD.take (i := 25) rfl (by kernel_rfl) (pureVal_ok rfl) ((List.Sublist.refl _)) rfl rfl rfl ?_
            refine ExD.done (by kernel_rfl) ?_
            refine Ex.cond_f rfl ?_
            refine Ex.skip ?_
            refine Ex.region (ExL.pures 1 rfl ?_)
            refine ExL.free (by first | exact fr_add64 rfl rfl rfl (by omega) | exact fr_add rfl rfl rfl) rfl rfl rfl ?_
            refine ExL.pures 1 rfl ?_
            refine ExL.nil ?_
            refine Hand.mk (k + 1) 1 [0] ⟨rfl, trivial⟩ ⟨rfl, rfl, trivial⟩ (rfl) rfl (⟨by omega, all_snoc hall (by first | exact good_lo (by omega) (by first | assumption | omega) | exact good_hi (by omega) (by omega))⟩) (by omega)
        · refine ExD.take (i := 19) rfl (by kernel_rfl) (pureVal_ok rfl) ((List.Sublist.refl _)) rfl rfl rfl ?_
          refine ExD.pass (i := 20) rfl (by kernel_rfl) ((List.Sublist.refl _)) rfl rfl rfl ?_
          refine ExD.pass (i := 21) rfl (by kernel_rfl) ((List.Sublist.refl _)) rfl rfl rfl ?_
          refine ExD.pass (i := 22) rfl (by kernel_rfl) ((List.Sublist.refl _)) rfl rfl rfl ?_
          refine ExD.pass (i := 23) rfl (by kernel_rfl) ((List.Sublist.refl _)) rfl rfl rfl ?_
          refine ExD.take (i := 24) rfl (by kernel_rfl) (pureVal_ok rfl) ((List.Sublist.refl _)) rfl rfl rfl ?_
          refine ExD.take (i := 25) rfl (by kernel_rfl) (pureVal_ok rfl) ((List.Sublist.refl _)) rfl rfl rfl ?_
          refine ExD.done (by kernel_rfl) ?_
          refine Ex.cond_f rfl ?_
          refine Ex.skip ?_
          refine Ex.region (ExL.pures 1 rfl ?_)
          refine ExL.free (by first | exact fr_add64 rfl rfl rfl (by omega) | exact fr_add rfl rfl rfl) rfl rfl rfl ?_
          refine ExL.pures 1 rfl ?_
          refine ExL.nil ?_
          refine Hand.mk (k + 1) 1 [0] ⟨rfl, trivial⟩ ⟨rfl, rfl, trivial⟩ (rfl) rfl (⟨by omega, all_snoc hall (by first | exact good_lo (by omega) (by first | assumption | omega) | exact good_hi (by omega) (by omega))⟩) (by omega)
    · refine ExD.take (i := 4) rfl (by kernel_rfl) (pureVal_ok rfl) ((List.Sublist.refl _)) rfl rfl rfl ?_
      refine ExD.pass (i := 5) rfl (by kernel_rfl) ((List.Sublist.refl _)) rfl rfl rfl ?_
      refine ExD.pass (i := 6) rfl (by kernel_rfl) ((List.Sublist.refl _)) rfl rfl rfl ?_
      refine ExD.pass (i := 7) rfl (by kernel_rfl) ((List.Sublist.refl _)) rfl rfl rfl ?_
      refine ExD.pass (i := 8) rfl (by kernel_rfl) ((List.Sublist.refl _)) rfl rfl rfl ?_
      refine ExD.pass (i := 9) rfl (by kernel_rfl) ((List.Sublist.refl _)) rfl rfl rfl ?_
      refine ExD.pass (i := 10) rfl (by kernel_rfl) ((List.Sublist.refl _)) rfl rfl rfl ?_
      refine ExD.pass (i := 11) rfl (by kernel_rfl) ((List.Sublist.refl _)) rfl rfl rfl ?_
      refine ExD.pass (i := 12) rfl (by kernel_rfl) ((List.Sublist.refl _)) rfl rfl rfl ?_
      refine ExD.take (i := 13) rfl (by kernel_rfl) (pureVal_ok rfl) ((List.Sublist.refl _)) rfl rfl rfl ?_
      refine ExD.take (i := 14) rfl (by kernel_rfl) (pureVal_ok rfl) ((List.Sublist.refl _)) rfl rfl rfl ?_
      refine ExD.take (i := 15) rfl (by kernel_rfl) (pureVal_ok rfl) ((List.Sublist.refl _)) rfl rfl rfl ?_
      refine ExD.take (i := 16) rfl (by kernel_rfl) (pureVal_ok rfl) ((List.Sublist.refl _)) rfl rfl rfl ?_
      refine ExD.take (i := 17) rfl (by kernel_rfl) (pureVal_ok rfl) ((List.Sublist.refl _)) rfl rfl rfl ?_
      refine ExD.cmp_geq (i := 18) rfl (by kernel_rfl) rfl rfl rfl ((List.Sublist.refl _)) rfl rfl rfl (fun h7 => ?_) (fun h7 => ?_)
      · refine ExD.take (i := 19) rfl (by kernel_rfl) (pureVal_ok rfl) ((List.Sublist.refl _)) rfl rfl rfl ?_
        refine ExD.take (i := 20) rfl (by kernel_rfl) (pureVal_ok rfl) ((List.Sublist.refl _)) rfl rfl rfl ?_
        refine ExD.take (i := 21) rfl (by kernel_rfl) (fr_indexAddr_b (sz := 1) rfl rfl rfl rfl rfl (by omega)) ((List.Sublist.refl _)) rfl rfl rfl ?_
        refine ExD.take (i := 22) rfl (by kernel_rfl) (fr_load rfl rfl rfl rfl (CellO.blk (i := 0) rfl (blkG (eI_len .u8) 0 rfl (by rw [dig_len]; omega) rfl))) ((List.Sublist.refl _)) rfl rfl rfl ?_
        refine ExD.cmp_neq (i := 23) rfl (by kernel_rfl) rfl rfl rfl ((List.Sublist.refl _)) rfl rfl rfl (fun h8 => ?_) (fun h8 => ?_)
        · refine ExD.take (i := 24) rfl (by kernel_rfl) (pureVal_ok rfl) ((List.Sublist.refl _)) rfl rfl rfl ?_
          refine ExD.take (i := 25) rfl (by kernel_rfl) (pureVal_ok rfl) ((List.Sublist.refl _)) rfl rfl rfl ?_
          refine ExD.done (by kernel_rfl) ?_
          refine Ex.cond_t rfl ?_
          refine Ex.regSeq (ExL.pures 1 rfl ?_)
          refine ExL.nil ?_
          refine Ex.ret ?_
          refine RetQ.mk () rfl (.tmp rfl .nil) (tB (by first | exact good_all (by omega) hall | exact bad_lo (k := k) (by omega) (by omega) (by assumption) | exact bad_hi (k := k) (by omega) (by omega) (by omega))) [] (rfl) rfl (trivial)
        · refine ExD.take (i := 24) rfl (by kernel_rfl) (pureVal_ok rfl) ((List.Sublist.refl _)) rfl rfl rfl ?_
          refine ExD.take (i := 25) rfl (by kernel_rfl) (pureVal_ok rfl) ((List.Sublist.refl _)) rfl rfl rfl ?_
          refine ExD.done (by kernel_rfl) ?_
          refine Ex.cond_f rfl ?_
          refine Ex.skip ?_
          refine Ex.region (ExL.pures 1 rfl ?_)
          refine ExL.free (by first | exact fr_add64 rfl rfl rfl (by omega) | exact fr_add rfl rfl rfl) rfl rfl rfl ?_
          refine ExL.pures 1 rfl ?_
          refine ExL.nil ?_
          refine Hand.mk (k + 1) 1 [0] ⟨rfl, trivial⟩ ⟨rfl, rfl, trivial⟩ (rfl) rfl (⟨by omega, all_snoc hall (by first | exact good_lo (by omega) (by first | assumption | omega) | exact good_hi (by omega) (by omega))⟩) (by omega)
      · refine ExD.take (i := 19) rfl (by kernel_rfl) (pureVal_ok rfl) ((List.Sublist.refl _)) rfl rfl rfl ?_
        refine ExD.pass (i := 20) rfl (by kernel_rfl) ((List.Sublist.refl _)) rfl rfl rfl ?_
        refine ExD.pass (i := 21) rfl (by kernel_rfl) ((List.Sublist.refl _)) rfl rfl rfl ?_
        refine ExD.pass (i := 22) rfl (by kernel_rfl) ((List.Sublist.refl _)) rfl rfl rfl ?_
        refine ExD.pass (i := 23) rfl (by kernel_rfl) ((List.Sublist.refl _)) rfl rfl rfl ?_
        refine ExD.take (i := 24) rfl (by kernel_rfl) (pureVal_ok rfl) ((List.Sublist.refl _)) rfl rfl rfl ?_
        refine ExD.take (i := 25) rfl (by kernel_rfl) (pureVal_ok rfl) ((List.Sublist.refl _)) rfl rfl rfl ?_
        refine ExD.done (by kernel_rfl) ?_
        refine Ex.cond_f rfl ?_
        refine Ex.skip ?_
        refine Ex.region (ExL.pures 1 rfl ?_)
        refine ExL.free (by first | exact fr_add64 rfl rfl rfl (by omega) | exact fr_add rfl rfl rfl) rfl rfl rfl ?_
        refine ExL.pures 1 rfl ?_
        refine ExL.nil ?_
        refine Hand.mk (k + 1) 1 [0] ⟨rfl, trivial⟩ ⟨rfl, rfl, trivial⟩ (rfl) rfl (⟨by omega, all_snoc hall (by first | exact good_lo (by omega) (by first | assumption | omega) | exact good_hi (by omega) (by omega))⟩) (by omega)
  · refine ExL.nil ?_
    refine Ex.cond_f rfl ?_
    refine Ex.exit ?_
    refine Ex.regSeq (ExL.pures 1 rfl ?_)
    refine ExL.nil ?_
    refine Ex.ret ?_
    refine RetQ.mk () rfl (.tmp rfl .nil) (tB (by first | exact good_all (by omega) hall | exact bad_lo (k := k) (by omega) (by omega) (by assumption) | exact bad_hi (k := k) (by omega) (by omega) (by omega))) [] (rfl) rfl (trivial)
theorem e_53 : Enters Tryz.prog 53 := Enters.of Tryz.func53 rfl
theorem c_sValidDigits (s : List Int) (hu : Nums 255 s) (As : Option Addr) (cs : Nat) (hls : s.length ≤ maxLen) (a : Dig) (ha : Nums 255 a.l) : Ret Tryz.prog 53 [.slice As s.length cs, .agg (encD a).toArray] (fun w => Rd w As (s.flatMap (eI .u8))) (fun x : Unit => .bool (validStack s && validDig s a.l)) (fun x => []) (fun x => True) := by
  refine Ret.of e_53 Tryz.func53 rfl Tryz.ntmps53 rfl rfl (fun w hpre => ?_)
  have hs := hpre.base
  have hm0 : maxLen = 9223372036854775807 := rfl
  refine Ex.regSeq (ExL.pures 0 rfl ?_)
  refine ExL.op rfl (op_box rfl rfl rfl rfl rfl (fun b1 => ?_))
  refine ExL.pures 1 rfl ?_
  refine ExL.nil ?_
  refine Ex.regSeq (ExL.pures 1 rfl ?_)
  refine ExL.op rfl (op_ret rfl rfl rfl (c_l01Ok _ (by assumption) _ _ (by first | assumption | omega | (unfold maxLen; omega))) (Reads.get (Reads.old hs)) rfl rfl (fun x2 hx2 => ?_))
  refine ExL.pures 1 rfl ?_
  refine ExL.bool (d := 7) rfl (fun hb3 => ?_) (fun hb3 => ?_)
  · refine ExL.pures 1 rfl ?_
    refine ExL.free (fr_loadN rfl rfl rfl rfl rfl (SegO.whole (i := 0) rfl)) rfl rfl rfl ?_
    refine ExL.op rfl (op_ret rfl rfl rfl (c_l01Digits s (by assumption) _ _ (by omega) a (by assumption)) (Reads.get (Reads.old hs)) rfl rfl (fun x4 hx4 => ?_))
    refine ExL.pures 2 rfl ?_
    refine ExL.nil ?_
    refine Ex.ret ?_
    refine RetQ.mk () rfl (.tmp rfl .nil) (tB (by simp_all)) [] (rfl) rfl (trivial)
  · refine ExL.pures 5 rfl ?_
    refine ExL.nil ?_
    refine Ex.ret ?_
    refine RetQ.mk () rfl (.tmp rfl .nil) (tB (by simp_all)) [] (rfl) rfl (trivial)
theorem e_18 : Enters Tryz.prog 18 := Enters.of Tryz.func18 rfl
theorem c_iValidDigits (s : List Int) (hu : Nums 255 s) (As : Option Addr) (cs : Nat) (hls : s.length ≤ maxLen) (a : Dig) (ha : Nums 255 a.l) : Ret Tryz.prog 18 [.slice As s.length cs, .agg (encD a).toArray] (fun w => Rd w As (s.flatMap (eI .u8))) (fun x : Unit => .bool (validStack s && validDig s a.l)) (fun x => []) (fun x => True) := by
  refine Ret.of e_18 Tryz.func18 rfl Tryz.ntmps18 rfl rfl (fun w hpre => ?_)
  have hs := hpre.base
  have hm0 : maxLen = 9223372036854775807 := rfl
  refine Ex.regSeq (ExL.pures 0 rfl ?_)
  refine ExL.op rfl (op_box rfl rfl rfl rfl rfl (fun b1 => ?_))
  refine ExL.pures 1 rfl ?_
  refine ExL.nil ?_
  refine Ex.seq ?_
  refine Ex.regSeq (ExL.pures 1 rfl ?_)
  refine ExL.op rfl (op_ret rfl rfl rfl (c_ValidStack _ (by assumption) _ _ (by first | assumption | omega | (unfold maxLen; omega))) (Reads.get (Reads.old hs)) rfl rfl (fun x2 hx2 => ?_))
  refine ExL.pures 1 rfl ?_
  refine ExL.nil ?_
  refine Ex.cond rfl (fun hb3 => ?_) (fun hb3 => ?_)
  · replace hb3 := nb_t hb3
    refine Ex.regSeq (ExL.pures 1 rfl ?_)
    refine ExL.nil ?_
    refine Ex.ret ?_
    refine RetQ.mk () rfl (.tmp rfl .nil) (tB (by first | (rw [(by assumption : validStack s = false)]; rfl) | (rw [(by assumption : validStack s = true), Bool.true_and]; first | exact good_all (by omega) hall | exact bad_lo (k := k) (by omega) (by omega) (by assumption) | exact bad_hi (k := k) (by omega) (by omega) (by omega)))) [] (rfl) rfl (trivial)
  · replace hb3 := nb_f hb3
    refine Ex.skip ?_
    refine Ex.seq ?_
    refine Ex.regSeq (ExL.pures 0 rfl ?_)
    refine ExL.free (fr_loadN rfl rfl rfl rfl rfl (SegO.whole (i := 0) rfl)) rfl rfl rfl ?_
    refine ExL.pures 1 rfl ?_
    refine ExL.nil ?_
    refine Ex.block ?_
    refine Ex.loopK (X := Nat) (fun k => [(11, .int .i64 k)]) (fun k => []) (fun k => k ≤ 8 ∧ ∀ i, i < k → goodAt s a.l i = true) (fun k => 8 - k) 0 [(0, _), (10, _)] [] 1 [] ⟨rfl, trivial⟩ ⟨rfl, rfl, trivial⟩ (rfl) rfl ⟨Nat.zero_le _, fun i hi => by omega⟩ (fun k hI => ?_)
    have hI : k ≤ 8 ∧ ∀ i, i < k → goodAt s a.l i = true := hI
    obtain ⟨hk, hall⟩ := hI
    have hb := ha.at_ (by omega) k
    refine Ex.regSeq (ExL.pures 0 rfl ?_)
    refine ExL.lss rfl rfl rfl rfl rfl rfl (fun h4 => ?_) (fun h4 => ?_)
    · refine ExL.nil ?_
      refine Ex.seq ?_
      refine Ex.cond_t rfl ?_
      refine Ex.skip ?_
      refine Ex.seq ?_
      refine Ex.block ?_
      refine Ex.regSeq (ExL.pures 1 rfl ?_)
      refine ExL.free (fr_index (sz := 1) rfl rfl rfl rfl rfl rfl rfl (by omega) (idxG (eI_len .u8) 0 rfl (by rw [dig_len]; omega) rfl)) rfl rfl rfl ?_
      refine ExL.pures 2 rfl ?_
      refine ExL.nil ?_
      refine Ex.regSeq (ExL.pures 3 rfl ?_)
      refine ExL.lss rfl rfl rfl rfl rfl rfl (fun h5 => ?_) (fun h5 => ?_)
      · refine ExL.pures 4 rfl ?_
        refine ExL.free (fr_indexAddrF (Reads.old hs) (eI_len .u8) rfl rfl rfl rfl rfl rfl (by omega)) rfl rfl rfl ?_
        refine ExL.free (fr_load rfl rfl rfl rfl (by first | exact cellN (Reads.old hs) (eI_len .u8) 0 0 rfl (by omega) rfl | exact cellF (Reads.old hs) (eI_len .u8) 0 0 rfl (by omega) rfl)) rfl rfl rfl ?_
        refine ExL.geq rfl rfl rfl rfl rfl rfl (fun h6 => ?_) (fun h6 => ?_)
        · refine ExL.pures 11 rfl ?_
          refine ExL.nil ?_
          refine Ex.cond_t rfl ?_
          refine Ex.regSeq (ExL.pures 1 rfl ?_)
          refine ExL.nil ?_
          refine Ex.ret ?_
          refine RetQ.mk () rfl (.tmp rfl .nil) (tB (by first | (rw [(by assumption : validStack s = false)]; rfl) | (rw [(by assumption : validStack s = true), Bool.true_and]; first | exact good_all (by omega) hall | exact bad_lo (k := k) (by omega) (by omega) (by assumption) | exact bad_hi (k := k) (by omega) (by omega) (by omega)))) [] (rfl) rfl (trivial)
        · refine ExL.pures 5 rfl ?_
          refine ExL.geq rfl rfl rfl rfl rfl rfl (fun h7 => ?_) (fun h7 => ?_)
          · refine ExL.pures 2 rfl ?_
            refine ExL.gtr rfl rfl rfl rfl rfl rfl (fun h8 => ?_) (fun h8 => ?_)
            · refine ExL.pures 2 rfl ?_
              refine ExL.nil ?_
              refine Ex.cond_t rfl ?_
              refine Ex.regSeq (ExL.pures 1 rfl ?_)
              refine ExL.nil ?_
              refine Ex.ret ?_
              refine RetQ.mk () rfl (.tmp rfl .nil) (tB (by first | (rw [(by assumption : validStack s = false)]; rfl) | (rw [(by assumption : validStack s = true), Bool.true_and]; first | exact good_all (by omega) hall | exact bad_lo (k := k) (by omega) (by omega) (by assumption) | exact bad_hi (k := k) (by omega) (by omega) (by omega)))) [] (rfl) rfl (trivial)
            · refine ExL.pures 2 rfl ?_
              refine ExL.nil ?_
              refine Ex.cond_f rfl ?_
              refine Ex.skip ?_
              refine Ex.region (ExL.pures 0 rfl ?_)
              refine ExL.free (by first | exact fr_add64 rfl rfl rfl (by omega) | exact fr_add rfl rfl rfl) rfl rfl rfl ?_
              refine ExL.pures 1 rfl ?_
              refine ExL.nil ?_
              refine Hand.mk (k + 1) 0 [] ⟨rfl, trivial⟩ ⟨rfl, rfl, trivial⟩ (rfl) rfl (⟨by omega, all_snoc hall (by first | exact good_lo (by omega) (by first | assumption | omega) | exact good_hi (by omega) (by omega))⟩) (by omega)
          · refine ExL.pures 5 rfl ?_
            refine ExL.nil ?_
            refine Ex.cond_f rfl ?_
            refine Ex.skip ?_
            refine Ex.region (ExL.pures 0 rfl ?_)
            refine ExL.free (by first | exact fr_add64 rfl rfl rfl (by omega) | exact fr_add rfl rfl rfl) rfl rfl rfl ?_
            refine ExL.pures 1 rfl ?_
            refine ExL.nil ?_
            refine Hand.mk (k + 1) 0 [] ⟨rfl, trivial⟩ ⟨rfl, rfl, trivial⟩ (rfl) rfl (⟨by omega, all_snoc hall (by first | exact good_lo (by omega) (by first | assumption | omega) | exact good_hi (by omega) (by omega))⟩) (by omega)
      · refine ExL.pures 12 rfl ?_
        refine ExL.geq rfl rfl rfl rfl rfl rfl (fun h9 => ?_) (fun h9 => ?_)
        · refine ExL.pures 2 rfl ?_
          refine ExL.gtr rfl rfl rfl rfl rfl rfl (fun h10 => ?_) (fun h10 => ?_)
          · refine ExL.pures 2 rfl ?_
            refine ExL.nil ?_
            refine Ex.cond_t rfl ?_
            refine Ex.regSeq (ExL.pures 1 rfl ?_)
            refine ExL.nil ?_
            refine Ex.ret ?_
            refine RetQ.mk () rfl (.tmp rfl .nil) (tB (by first | (rw [(by assumption : validStack s = false)]; rfl) | (rw [(by assumption : validStack s = true), Bool.true_and]; first | exact good_all (by omega) hall | exact bad_lo (k := k) (by omega) (by omega) (by assumption) | exact bad_hi (k := k) (by omega) (by omega) (by omega)))) [] (rfl) rfl (trivial)
          · refine ExL.pures 2 rfl ?_
            refine ExL.nil ?_
            refine Ex.cond_f rfl ?_
            refine Ex.skip ?_
            refine Ex.region (ExL.pures 0 rfl ?_)
            refine ExL.free (by first | exact fr_add64 rfl rfl rfl (by omega) | exact fr_add rfl rfl rfl) rfl rfl rfl ?_
            refine ExL.pures 1 rfl ?_
            refine ExL.nil ?_
            refine Hand.mk (k + 1) 0 [] ⟨rfl, trivial⟩ ⟨rfl, rfl, trivial⟩ (rfl) rfl (⟨by omega, all_snoc hall (by first | exact good_lo (by omega) (by first | assumption | omega) | exact good_hi (by omega) (by omega))⟩) (by omega)
        · refine ExL.pures 5 rfl ?_
          refine ExL.nil ?_
          refine Ex.cond_f rfl ?_
          refine Ex.skip ?_
          refine Ex.region (ExL.pures 0 rfl ?_)
          refine ExL.free (by first | exact fr_add64 rfl rfl rfl (by omega) | exact fr_add rfl rfl rfl) rfl rfl rfl ?_
          refine ExL.pures 1 rfl ?_
          refine ExL.nil ?_
          refine Hand.mk (k + 1) 0 [] ⟨rfl, trivial⟩ ⟨rfl, rfl, trivial⟩ (rfl) rfl (⟨by omega, all_snoc hall (by first | exact good_lo (by omega) (by first | assumption | omega) | exact good_hi (by omega) (by omega))⟩) (by omega)
    · refine ExL.nil ?_
      refine Ex.seq ?_
      refine Ex.cond_f rfl ?_
      refine Ex.exit ?_
      refine Ex.regSeq (ExL.pures 1 rfl ?_)
      refine ExL.nil ?_
      refine Ex.ret ?_
      refine RetQ.mk () rfl (.tmp rfl .nil) (tB (by first | (rw [(by assumption : validStack s = false)]; rfl) | (rw [(by assumption : validStack s = true), Bool.true_and]; first | exact good_all (by omega) hall | exact bad_lo (k := k) (by omega) (by omega) (by assumption) | exact bad_hi (k := k) (by omega) (by omega) (by omega)))) [] (rfl) rfl (trivial)
end Go.Proofs.YtidnicdeogdedaaGreatDoor
