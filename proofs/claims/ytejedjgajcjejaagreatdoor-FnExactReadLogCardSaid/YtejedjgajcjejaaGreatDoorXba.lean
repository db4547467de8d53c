/- Several texts, one behind the other. -/
import Derived.Test.YtejedjgajcjejaaGreatDoorRows
import Derived.ProofKit
import Derived.SizedLaws
import Derived.Test.YtejedjgajcjejaaGreatDoorProg
import Derived.Lib.ItoaNum
import Derived.Lib.LaidTab
import Derived.Sort.Grow
import Derived.Deep.Draws
import Derived.Lib.Join
import Derived.Laws.Strings
import Derived.Laws.Strings2
import Derived.Laws.Strings3
import Derived.Laws.Slices
import Derived.Lib.ParseIntB
import Derived.Lib.Split
import Derived.Lib.SplitLaws
import Derived.Lib.ParseIntBMem
import Derived.Lib.ParseIntBTie
import Derived.Stop.IfaceNil
import Derived.Handed
import Derived.HandedShaped
import Derived.Shelf.Strings.Builder1
import Derived.Shelf.Strings.Builder2
import Derived.Shelf.Strings.OnBuilder
import Derived.Shelf.Strings.BuilderF
import Derived.Shelf.Utf8.RuneCount
import Derived.Shelf.Strconv.Itoa0
import Derived.Shelf.Strconv.Itoa1
import Derived.Shelf.LaysM
import Derived.Shelf.Strconv.Itoa2
import Derived.Shelf.Strconv.Itoa3
import Derived.Shelf.Strconv.Itoa4
import Derived.Shelf.Strconv.ParseIntEmpty
import Derived.Shelf.Strconv.Clone
import Derived.Shelf.Strconv.SyntaxError
import Derived.Shelf.LaysC
import Derived.Shelf.Strconv.ToError
import Derived.Shelf.Strconv.Lower
import Derived.Shelf.Strconv.ParseUint10
import Derived.Shelf.Strconv.ParseUint10Empty
import Derived.Shelf.Strconv.ParseUint10Any
import Derived.Shelf.Strconv.ParseInt10
import Derived.Shelf.Strconv.RangeError
import Derived.Shelf.Strconv.ToErrorRange
import Derived.Shelf.Strconv.ParseUintEmpty
import Derived.Shelf.Strconv.ParseUint10b64
import Derived.Shelf.Strconv.ParseUint10b32
import Derived.Shelf.Strconv.ParseUint10b16
import Derived.Shelf.Strconv.ParseUint10b8
import Derived.Shelf.Strconv.ParseUint10At
import Derived.Shelf.Strconv.ParseInt10At64
import Derived.Shelf.Strconv.ParseInt10At32
import Derived.Shelf.Strconv.ParseInt10At16
import Derived.Shelf.Strconv.ParseInt10At8
import Derived.Shelf.Strconv.ParseInt10All
import Derived.Shelf.Strconv.ParseIntPublic10
import Derived.Ground.MpProg
import Derived.Shelf.Pu.ParseUintPublic10
import Derived.Shelf.Strings.Search1
import Derived.Shelf.Strings.Search2
import Derived.Shelf.Strings.Search3
import Derived.Shelf.Strings.Cut
import Derived.Shelf.Strings.Count
import Derived.Shelf.Strings.Shaped
import Derived.Shelf.Strings.Prefix
import Derived.Shelf.Strings.Split
import Derived.Shelf.Strings.SplitShaped
import Derived.Shelf.Unicode.Decode
import Derived.Shelf.Strings.RuneCount
import Derived.Shelf.Strings.Explode
import Derived.Shelf.Bits.Mul64
import Derived.Shelf.Strings.Repeat
import Derived.Shelf.Unicode.DecodeSlow
import Derived.Shelf.Unicode.DecodeAny
import Derived.Test.YtejedjgajcjejaaGreatDoorXaa
import Derived.Test.YtejedjgajcjejaaGreatDoorXab
/- The head of the dump as a list of words, and what the claims ask of it. -/
namespace Go.Proofs.YtejedjgajcjejaaGreatDoor
open Go Go.RowKit
set_option maxRecDepth 100000
theorem words_cons (s : List Char) : ∀ w : List Char, w.all (· != Char.ofNat 32) = true → wordsSigns (w ++ Char.ofNat 32 :: s) = w :: wordsSigns s
  | [], _ => rfl
  | c :: w, h => by
    simp only [List.all_cons, Bool.and_eq_true, bne_iff_ne, ne_eq] at h
    have ih := words_cons s w h.2
    show wordsSigns (c :: (w ++ Char.ofNat 32 :: s)) = _
    conv => lhs; unfold wordsSigns
    split
    · next e => cases e
    · next e => injection e with e1 e2; exact absurd e1 h.1
    · next c' r' _ e => injection e with e1 e2; subst e1; subst e2; rw [ih]
theorem io : Tryz.pinned.checked.prog.initOrder.toList = [Char.ofNat 104, Char.ofNat 97, Char.ofNat 114, Char.ofNat 110, Char.ofNat 101, Char.ofNat 115, Char.ofNat 115] ++ Char.ofNat 32 :: ([Char.ofNat 55, Char.ofNat 97, Char.ofNat 54, Char.ofNat 50, Char.ofNat 55, Char.ofNat 101, Char.ofNat 49, Char.ofNat 48, Char.ofNat 54, Char.ofNat 100, Char.ofNat 102, Char.ofNat 55, Char.ofNat 51, Char.ofNat 98, Char.ofNat 49, Char.ofNat 49, Char.ofNat 48, Char.ofNat 98, Char.ofNat 56, Char.ofNat 51, Char.ofNat 55, Char.ofNat 97, Char.ofNat 97, Char.ofNat 97, Char.ofNat 100, Char.ofNat 56, Char.ofNat 51, Char.ofNat 48, Char.ofNat 55, Char.ofNat 99, Char.ofNat 97, Char.ofNat 55, Char.ofNat 50, Char.ofNat 55, Char.ofNat 100, Char.ofNat 100, Char.ofNat 54, Char.ofNat 98, Char.ofNat 102, Char.ofNat 56, Char.ofNat 49, Char.ofNat 99, Char.ofNat 99, Char.ofNat 99, Char.ofNat 99, Char.ofNat 50, Char.ofNat 99, Char.ofNat 56, Char.ofNat 55, Char.ofNat 99, Char.ofNat 49, Char.ofNat 53, Char.ofNat 51, Char.ofNat 101, Char.ofNat 53, Char.ofNat 48, Char.ofNat 102, Char.ofNat 100, Char.ofNat 57, Char.ofNat 52, Char.ofNat 51, Char.ofNat 100, Char.ofNat 102, Char.ofNat 101] ++ Char.ofNat 32 :: ([Char.ofNat 99, Char.ofNat 117, Char.ofNat 116] ++ Char.ofNat 32 :: [Char.ofNat 97, Char.ofNat 116, Char.ofNat 32, Char.ofNat 108, Char.ofNat 111, Char.ofNat 111, Char.ofNat 112, Char.ofNat 46, Char.ofNat 101, Char.ofNat 120, Char.ofNat 97, Char.ofNat 109, Char.ofNat 112, Char.ofNat 108, Char.ofNat 101, Char.ofNat 47, Char.ofNat 103, Char.ofNat 48, Char.ofNat 49, Char.ofNat 50, Char.ofNat 55, Char.ofNat 56, Char.ofNat 47, Char.ofNat 108, Char.ofNat 97, Char.ofNat 119, Char.ofNat 115, Char.ofNat 46, Char.ofNat 70, Char.ofNat 110, Char.ofNat 69, Char.ofNat 120, Char.ofNat 97, Char.ofNat 99, Char.ofNat 116, Char.ofNat 82, Char.ofNat 101, Char.ofNat 97, Char.ofNat 100, Char.ofNat 84, Char.ofNat 105, Char.ofNat 99, Char.ofNat 107, Char.ofNat 101, Char.ofNat 116, Char.ofNat 32, Char.ofNat 108, Char.ofNat 111, Char.ofNat 111, Char.ofNat 112, Char.ofNat 46, Char.ofNat 101, Char.ofNat 120, Char.ofNat 97, Char.ofNat 109, Char.ofNat 112, Char.ofNat 108, Char.ofNat 101, Char.ofNat 47, Char.ofNat 103, Char.ofNat 48, Char.ofNat 49, Char.ofNat 50, Char.ofNat 55, Char.ofNat 56, Char.ofNat 47, Char.ofNat 108, Char.ofNat 97, Char.ofNat 119, Char.ofNat 115, Char.ofNat 46, Char.ofNat 70, Char.ofNat 110, Char.ofNat 69, Char.ofNat 120, Char.ofNat 97, Char.ofNat 99, Char.ofNat 116, Char.ofNat 82, Char.ofNat 101, Char.ofNat 97, Char.ofNat 100, Char.ofNat 76, Char.ofNat 111, Char.ofNat 103])) := by
  have h : Tryz.pinned.checked.prog.initOrder = String.ofList ([Char.ofNat 104, Char.ofNat 97, Char.ofNat 114, Char.ofNat 110, Char.ofNat 101, Char.ofNat 115, Char.ofNat 115] ++ Char.ofNat 32 :: ([Char.ofNat 55, Char.ofNat 97, Char.ofNat 54, Char.ofNat 50, Char.ofNat 55, Char.ofNat 101, Char.ofNat 49, Char.ofNat 48, Char.ofNat 54, Char.ofNat 100, Char.ofNat 102, Char.ofNat 55, Char.ofNat 51, Char.ofNat 98, Char.ofNat 49, Char.ofNat 49, Char.ofNat 48, Char.ofNat 98, Char.ofNat 56, Char.ofNat 51, Char.ofNat 55, Char.ofNat 97, Char.ofNat 97, Char.ofNat 97, Char.ofNat 100, Char.ofNat 56, Char.ofNat 51, Char.ofNat 48, Char.ofNat 55, Char.ofNat 99, Char.ofNat 97, Char.ofNat 55, Char.ofNat 50, Char.ofNat 55, Char.ofNat 100, Char.ofNat 100, Char.ofNat 54, Char.ofNat 98, Char.ofNat 102, Char.ofNat 56, Char.ofNat 49, Char.ofNat 99, Char.ofNat 99, Char.ofNat 99, Char.ofNat 99, Char.ofNat 50, Char.ofNat 99, Char.ofNat 56, Char.ofNat 55, Char.ofNat 99, Char.ofNat 49, Char.ofNat 53, Char.ofNat 51, Char.ofNat 101, Char.ofNat 53, Char.ofNat 48, Char.ofNat 102, Char.ofNat 100, Char.ofNat 57, Char.ofNat 52, Char.ofNat 51, Char.ofNat 100, Char.ofNat 102, Char.ofNat 101] ++ Char.ofNat 32 :: ([Char.ofNat 99, Char.ofNat 117, Char.ofNat 116] ++ Char.ofNat 32 :: [Char.ofNat 97, Char.ofNat 116, Char.ofNat 32, Char.ofNat 108, Char.ofNat 111, Char.ofNat 111, Char.ofNat 112, Char.ofNat 46, Char.ofNat 101, Char.ofNat 120, Char.ofNat 97, Char.ofNat 109, Char.ofNat 112, Char.ofNat 108, Char.ofNat 101, Char.ofNat 47, Char.ofNat 103, Char.ofNat 48, Char.ofNat 49, Char.ofNat 50, Char.ofNat 55, Char.ofNat 56, Char.ofNat 47, Char.ofNat 108, Char.ofNat 97, Char.ofNat 119, Char.ofNat 115, Char.ofNat 46, Char.ofNat 70, Char.ofNat 110, Char.ofNat 69, Char.ofNat 120, Char.ofNat 97, Char.ofNat 99, Char.ofNat 116, Char.ofNat 82, Char.ofNat 101, Char.ofNat 97, Char.ofNat 100, Char.ofNat 84, Char.ofNat 105, Char.ofNat 99, Char.ofNat 107, Char.ofNat 101, Char.ofNat 116, Char.ofNat 32, Char.ofNat 108, Char.ofNat 111, Char.ofNat 111, Char.ofNat 112, Char.ofNat 46, Char.ofNat 101, Char.ofNat 120, Char.ofNat 97, Char.ofNat 109, Char.ofNat 112, Char.ofNat 108, Char.ofNat 101, Char.ofNat 47, Char.ofNat 103, Char.ofNat 48, Char.ofNat 49, Char.ofNat 50, Char.ofNat 55, Char.ofNat 56, Char.ofNat 47, Char.ofNat 108, Char.ofNat 97, Char.ofNat 119, Char.ofNat 115, Char.ofNat 46, Char.ofNat 70, Char.ofNat 110, Char.ofNat 69, Char.ofNat 120, Char.ofNat 97, Char.ofNat 99, Char.ofNat 116, Char.ofNat 82, Char.ofNat 101, Char.ofNat 97, Char.ofNat 100, Char.ofNat 76, Char.ofNat 111, Char.ofNat 103]))) := by kernel_rfl
  rw [h, String.toList_ofList]
theorem io_words : ∃ rest, wordsSigns Tryz.pinned.checked.prog.initOrder.toList = [Char.ofNat 104, Char.ofNat 97, Char.ofNat 114, Char.ofNat 110, Char.ofNat 101, Char.ofNat 115, Char.ofNat 115] :: [Char.ofNat 55, Char.ofNat 97, Char.ofNat 54, Char.ofNat 50, Char.ofNat 55, Char.ofNat 101, Char.ofNat 49, Char.ofNat 48, Char.ofNat 54, Char.ofNat 100, Char.ofNat 102, Char.ofNat 55, Char.ofNat 51, Char.ofNat 98, Char.ofNat 49, Char.ofNat 49, Char.ofNat 48, Char.ofNat 98, Char.ofNat 56, Char.ofNat 51, Char.ofNat 55, Char.ofNat 97, Char.ofNat 97, Char.ofNat 97, Char.ofNat 100, Char.ofNat 56, Char.ofNat 51, Char.ofNat 48, Char.ofNat 55, Char.ofNat 99, Char.ofNat 97, Char.ofNat 55, Char.ofNat 50, Char.ofNat 55, Char.ofNat 100, Char.ofNat 100, Char.ofNat 54, Char.ofNat 98, Char.ofNat 102, Char.ofNat 56, Char.ofNat 49, Char.ofNat 99, Char.ofNat 99, Char.ofNat 99, Char.ofNat 99, Char.ofNat 50, Char.ofNat 99, Char.ofNat 56, Char.ofNat 55, Char.ofNat 99, Char.ofNat 49, Char.ofNat 53, Char.ofNat 51, Char.ofNat 101, Char.ofNat 53, Char.ofNat 48, Char.ofNat 102, Char.ofNat 100, Char.ofNat 57, Char.ofNat 52, Char.ofNat 51, Char.ofNat 100, Char.ofNat 102, Char.ofNat 101] :: [Char.ofNat 99, Char.ofNat 117, Char.ofNat 116] :: rest := by
  rw [io, words_cons _ _ (by decide), words_cons _ _ (by decide), words_cons _ _ (by decide)]; exact ⟨_, rfl⟩
theorem io_main : ∃ rest, behindMainWord (wordsSigns Tryz.pinned.checked.prog.initOrder.toList) = [Char.ofNat 99, Char.ofNat 117, Char.ofNat 116] :: rest := by
  obtain ⟨rest, h⟩ := io_words; rw [h]; exact ⟨rest, by kernel_rfl⟩
theorem head_of {P : Program} {rest : List (List Char)} (h : behindMainWord (wordsSigns P.initOrder.toList) = [Char.ofNat 99, Char.ofNat 117, Char.ofNat 116] :: rest) : P.headLifts = [] := by
  unfold Program.headLifts; rw [h]; kernel_rfl
theorem lifts_of {P : Program} {rest : List (List Char)} (h : behindMainWord (wordsSigns P.initOrder.toList) = [Char.ofNat 99, Char.ofNat 117, Char.ofNat 116] :: rest) : P.liftsFinal = false := by
  unfold Program.liftsFinal; rw [head_of h, h]; kernel_rfl
theorem make_of {P : Program} {rest : List (List Char)} (h : behindMainWord (wordsSigns P.initOrder.toList) = [Char.ofNat 99, Char.ofNat 117, Char.ofNat 116] :: rest) : P.make = some .cut := by
  unfold Program.make; rw [head_of h, h]; kernel_rfl
theorem enter_of {P : Program} {rest : List (List Char)} (h : behindMainWord (wordsSigns P.initOrder.toList) = [Char.ofNat 99, Char.ofNat 117, Char.ofNat 116] :: rest) (h1 : P.laysLater = false) (h2 : P.bearsReflect = false) (h3 : P.doorFits [] = true) : P.mayEnter = true := by
  unfold Program.mayEnter; rw [h, h1, h2]
  have e : stripLifts liftWords ([Char.ofNat 99, Char.ofNat 117, Char.ofNat 116] :: rest) = ([], [Char.ofNat 99, Char.ofNat 117, Char.ofNat 116] :: rest) := by kernel_rfl
  simp only [e, h3]; rfl
theorem io_lifts : Tryz.pinned.checked.prog.liftsFinal = false := by obtain ⟨rest, h⟩ := io_main; exact lifts_of h
theorem io_make : Tryz.pinned.checked.prog.make = some .cut := by obtain ⟨rest, h⟩ := io_main; exact make_of h
theorem io_later : Tryz.pinned.checked.prog.laysLater = false := by kernel_rfl
theorem io_reflect : Tryz.pinned.checked.prog.bearsReflect = false := by kernel_rfl
theorem io_door : Tryz.pinned.checked.prog.doorFits [] = true := by kernel_rfl
theorem io_enter : Tryz.pinned.checked.prog.mayEnter = true := by obtain ⟨rest, h⟩ := io_main; exact enter_of h io_later io_reflect io_door
end Go.Proofs.YtejedjgajcjejaaGreatDoor

/- Arguments, opened by their types. -/
namespace Go.Proofs.YtejedjgajcjejaaGreatDoor
open Go Go.Sx Go.W Go.RowKit
set_option maxRecDepth 100000
theorem o_Stack {W : World} {cs : List Value} (h : Cl Tryz.prog W 22 cs) : ∃ (A : Option Addr) (c : Nat) (s : List Int), cs = [.slice A s.length c] ∧ s.length ≤ maxLen ∧ (Nums 255 s) ∧ Rd W A (s.flatMap (eI .u8)) := by
  obtain ⟨A, n, c, e, hn, els, hlen, hall, hr⟩ := h.slice rfl (of_decide_eq_true (by kernel_rfl))
  obtain ⟨s, e2, l2, p2⟩ := each (f := eI .u8) (p := fun k => 0 ≤ k ∧ k ≤ 255) (fun x hx => by obtain ⟨k, e, w⟩ := ((hall x hx).2).int rfl; exact ⟨k, e, bounds_u8 w⟩)
  rw [e2] at hr
  obtain rfl : n = s.length := by omega
  exact ⟨A, c, s, e, hn, p2, hr⟩
theorem o_Digits {W : World} {cs : List Value} (h : Cl Tryz.prog W 23 cs) : ∃ a : Dig, cs = encD a ∧ Nums 255 a.l := by
  obtain ⟨hl, hf⟩ := h.array rfl
  have hl' : cs.length = 8 := hl
  match cs, hl' with
  | [c0, c1, c2, c3, c4, c5, c6, c7], _ =>
    obtain ⟨x0, e0, w0⟩ := Cl.int (cs := [c0]) rfl (hf 0 (by omega))
    have f0 : [c0] = [.int .u8 x0] := e0
    have b0 := bounds_u8 w0
    obtain ⟨x1, e1, w1⟩ := Cl.int (cs := [c1]) rfl (hf 1 (by omega))
    have f1 : [c1] = [.int .u8 x1] := e1
    have b1 := bounds_u8 w1
    obtain ⟨x2, e2, w2⟩ := Cl.int (cs := [c2]) rfl (hf 2 (by omega))
    have f2 : [c2] = [.int .u8 x2] := e2
    have b2 := bounds_u8 w2
    obtain ⟨x3, e3, w3⟩ := Cl.int (cs := [c3]) rfl (hf 3 (by omega))
    have f3 : [c3] = [.int .u8 x3] := e3
    have b3 := bounds_u8 w3
    obtain ⟨x4, e4, w4⟩ := Cl.int (cs := [c4]) rfl (hf 4 (by omega))
    have f4 : [c4] = [.int .u8 x4] := e4
    have b4 := bounds_u8 w4
    obtain ⟨x5, e5, w5⟩ := Cl.int (cs := [c5]) rfl (hf 5 (by omega))
    have f5 : [c5] = [.int .u8 x5] := e5
    have b5 := bounds_u8 w5
    obtain ⟨x6, e6, w6⟩ := Cl.int (cs := [c6]) rfl (hf 6 (by omega))
    have f6 : [c6] = [.int .u8 x6] := e6
    have b6 := bounds_u8 w6
    obtain ⟨x7, e7, w7⟩ := Cl.int (cs := [c7]) rfl (hf 7 (by omega))
    have f7 : [c7] = [.int .u8 x7] := e7
    have b7 := bounds_u8 w7
    cases f0; cases f1; cases f2; cases f3; cases f4; cases f5; cases f6; cases f7
    refine ⟨⟨x0, x1, x2, x3, x4, x5, x6, x7⟩, rfl, fun x hx => ?_⟩
    simp only [Dig.l, List.mem_cons, List.not_mem_nil, or_false] at hx
    rcases hx with rfl | rfl | rfl | rfl | rfl | rfl | rfl | rfl <;> assumption
end Go.Proofs.YtejedjgajcjejaaGreatDoor

/- Strings built by a builder; the decimal digits as the library and the specification write them. -/
set_option linter.unusedVariables false
set_option linter.unusedSimpArgs false
namespace Go.Sx
open Go Go.RowKit
variable {C : Cx} {env env' : Env} {m m' : List Ent} {o : Oper} {K : Env → List Ent → Prop}
abbrev bp (b : Nat) (u : Bool) : Value := .pointer (bif u then some ⟨b, 0, none⟩ else none)
theorem op_appendT {d : Nat} {i : Nat} {s x T TS E A c} {xs l : List UInt8} (ho : o.op = .call { callee := .builtin .append, args := #[s, x], argTypes := #[T, TS] })
    (hs : ev env s = some (.slice A xs.length c)) (hx : ev env x = some (sv l)) (hi : m[i]? = some (.row (.slice A xs.length c) E 1 xs.length (xs.flatMap eU))) (hT : C.P.underlying T = some (.slice E)) (hTS : C.P.underlying TS = some .string)
    (hz : (C.P.info? E).map (fun i => (i.size, i.bytes)) = some (1, 1)) (hzz : (C.P.info? E).bind (·.zero) = some (.int .u8 0))
    (hb : xs.length + l.length ≤ 140737488355328) (hd : o.dst = some d) (hlt : Nat.blt d C.n = true)
    (h : ∀ A' c', K ((d, .slice A' (xs ++ l).length c') :: env) (m.set i (.row (.slice A' (xs ++ l).length c') E 1 (xs ++ l).length ((xs ++ l).flatMap eU)))) : Op1 C o env m K := by
  have e : (xs ++ l).length = xs.length + l.length := List.length_append
  refine op_appendS ho hs hx hi hT hTS hz hzz hb hd hlt fun A' c' => ?_
  have := h A' c'
  rwa [e] at this
/-- What is known of a row that is not empty. -/
theorem row_own {i n c sz : Nat} {A : Option Addr} {E xs} (hi : m[i]? = some (.row (.slice A n c) E sz n xs)) (hn : 0 < n) : ∀ w, Holds C.base C.w0 m w → ∃ g, A = some ⟨g, 0, none⟩ ∧ c ≠ 0 := fun w hw => by
  have h := hw.all _ (List.mem_of_getElem? hi)
  rcases h.2 with ⟨_, h0⟩ | ⟨g, cap, cur, hv, _, _, hc, _⟩
  · omega
  · simp only [Value.slice.injEq] at hv
    exact ⟨g, hv.1, by omega⟩
theorem fr_sliceData {T x : _} {a : Addr} {n c : Nat} (ho : o.op = .call { callee := .builtin .unsafeSliceData, args := #[x], argTypes := #[T] }) (hx : ev env x = some (.slice (some a) n c)) (hc : c ≠ 0) : Free C o env m (.pointer (some a)) := by
  intro w0 w hr _
  have h := Lib.run_unsafeSliceData_row (P := C.P) w #[T] o.type a n c hc
  simp only [execOp, ho, resolve, invoke]
  simp [hr.ev hx, builtin, h]
theorem fr_sliceData_n {T x : _} {n c : Nat} (ho : o.op = .call { callee := .builtin .unsafeSliceData, args := #[x], argTypes := #[T] }) (hx : ev env x = some (.slice none n c)) : Free C o env m (.pointer none) := by
  intro w0 w hr _
  have h := Lib.run_unsafeSliceData_nil (P := C.P) w #[T] o.type n c
  simp only [execOp, ho, resolve, invoke]
  simp [hr.ev hx, builtin, h]
theorem fr_unsafeString_n {pt it p q} (ho : o.op = .call { callee := .builtin .unsafeString, args := #[p, q], argTypes := #[pt, it] }) {pp : Option Addr} (hp : ev env p = some (.pointer pp)) (hq : ev env q = some (.int .i64 0)) : Free C o env m (sv []) := by
  intro w0 w hr _
  have h := Lib.run_unsafeString_none (P := C.P) w pt it o.type pp
  simp only [execOp, ho, resolve, invoke]
  simp [hr.ev hp, hr.ev hq, builtin, h]
  rfl
theorem Holds.frz {base w0 w g n c E sz k xs} (h : Holds base w0 (.row (.slice (some ⟨g, 0, none⟩) n c) E sz n xs :: m) w) : Holds base w0 m (w.freeze ⟨g, 0, none⟩ k) := by
  have hall := h.all
  have hg0 := (Ent.holds.lt (hall _ (List.mem_cons_self ..)) g rfl)
  have hgr : w.grownBy (w.freeze ⟨g, 0, none⟩ k) (some g) := by
    unfold World.freeze
    split
    · exact ⟨rfl, rfl, rfl, Nat.le_refl _, fun _ _ _ => rfl⟩
    · exact ⟨rfl, rfl, rfl, by simp, fun j hj hne => by
        simp only [Array.getElem?_modify]
        rw [if_neg (by intro e; exact hne (by rw [e]))]⟩
  have hap := List.pairwise_cons.1 h.apart
  refine ⟨Lib.below_freeze h.below (p := ⟨g, 0, none⟩) hg0.1 k, h.le, fun e he => ?_, hap.2, h.others.trans (KeepsOthers.of_grownBy hgr fun j o' hj ho => (hall _ (List.mem_cons_self ..)).cells rfl j o' hj ho)⟩
  exact (hall e (List.mem_cons_of_mem _ he)).grown hgr (fun b hb heb => by
    obtain rfl := Option.some.inj heb
    exact hap.1 e he _ rfl hb)
/-- unsafe.String over a row of bytes: the row is given away. -/
theorem op_unsafeString {d i : Nat} {pt it p q U g c n : _} {l : List UInt8} {E} (ho : o.op = .call { callee := .builtin .unsafeString, args := #[p, q], argTypes := #[pt, it] })
    (hp : ev env p = some (.pointer (some ⟨g, 0, none⟩))) (hq : ev env q = some (.int .i64 n)) (hi : m[i]? = some (.row (.slice (some ⟨g, 0, none⟩) l.length c) E 1 l.length (l.flatMap eU))) (hn : n = (l.length : Int))
    (hpt : C.P.underlying pt = some (.pointer U)) (hU : U = E) (hc : C.P.cellsOf U = 1) (h0 : 0 < l.length) (hd : o.dst = some d) (hlt : Nat.blt d C.n = true)
    (h : K ((d, sv l) :: env) (m.eraseIdx i)) : Op1 C o env m K := by
  subst hn hU
  refine Op1.of_run hd hlt fun a w hr hh => ?_
  have hown := hh.all _ (List.mem_of_getElem? hi)
  have hown : w.ownsRow C.base U 1 (.slice (some ⟨g, 0, none⟩) l.length c) l.length (l.flatMap eU) := hown
  obtain ⟨hxs, ⟨hv, _⟩ | ⟨g', cap, cur, hv, hb, hg, hnc, hcm, hcs, ht⟩⟩ := hown
  · simp at hv
  simp only [Value.slice.injEq, Option.some.injEq, Addr.mk.injEq, and_true, true_and] at hv
  obtain ⟨rfl, rfl⟩ := hv
  have hmx : maxLen = 9223372036854775807 := rfl
  have hsh : w.shape? g = some (U, c) := by simp [World.shape?, hg]; omega
  have hget : ∀ j x, l[j]? = some x → w.cell? ((⟨g, 0, none⟩ : Addr).add j) = some (.int .u8 x.toNat) := fun j x hj => by
    have hjl := (List.getElem?_eq_some_iff.1 hj).1
    have := flat_get eU_len (0 : UInt8) l j 0 hjl (by omega)
    simp only [Nat.mul_one, Nat.add_zero] at this
    rw [← ht, List.getElem?_take] at this
    rw [if_pos (by omega)] at this
    have hx : l.getD j 0 = x := by simp [List.getD, hj]
    rw [hx] at this
    simp only [eU, List.getElem?_cons_zero] at this
    have h2 : cur[j]? = some (.int .u8 (x.toNat : Int)) := by rw [← Array.getElem?_toList]; exact this
    unfold World.cell? Addr.add
    by_cases hj0 : j = 0
    · subst hj0; simpa [hg] using h2
    · simpa [hj0, hg] using h2
  have hrun := Lib.run_unsafeString_row (P := C.P) w pt it o.type U hpt hc g c hsh l (by intro e; subst e; simp at h0) (by omega) (by omega) hget
  refine ⟨_, w.freeze ⟨g, 0, none⟩ l.length, _, ?_, ?_, h⟩
  · simp [execOp, ho, resolve, invoke, builtin, hr.ev hp, hr.ev hq, hrun]
  · have hp' : m.Perm (.row (.slice (some ⟨g, 0, none⟩) l.length c) U 1 l.length (l.flatMap eU) :: m.eraseIdx i) := by
      obtain ⟨hlt', hgi⟩ := List.getElem?_eq_some_iff.1 hi
      rw [← hgi]
      rw [List.eraseIdx_eq_take_drop_succ]
      have h9 : m = m.take i ++ m[i] :: m.drop (i + 1) := by rw [List.getElem_cons_drop, List.take_append_drop]
      exact (List.Perm.of_eq h9).trans List.perm_middle
    exact (hh.perm hp').frz
/-! ### The library's table of powers of ten -/
def TabO (P : Program) (w : World) : Prop := Lib.TabIs P w "internal/strconv.uint64pow10" .u64 Lib.pow10Tab
theorem TabO.below {P w w'} (h : TabO P w) (hb : Below w.heap.size w w') : TabO P w' := by
  unfold TabO Lib.TabIs World.var? at h ⊢
  cases hg : P.globalNamed "internal/strconv.uint64pow10" with
  | none => simp [hg] at h
  | some g =>
    simp only [hg, Option.bind_some] at h ⊢
    have hlt : g < w.heap.size := by
      rcases Nat.lt_or_ge g w.heap.size with h1 | h1
      · exact h1
      · rw [Array.getElem?_eq_none h1] at h; simp at h
    rw [hb.block g hlt]
    exact h
theorem below_grw (w : World) (k : Nat) (os : Array Obj) : Below w.heap.size w (Sort.grow (w.drewN k) os) :=
  ⟨rfl, rfl, rfl, by show w.heap.size ≤ (w.heap ++ os).size; rw [Array.size_append]; omega, fun j hj => by show (w.heap ++ os)[j]? = _; rw [Array.getElem?_append_left hj]⟩
theorem TabO.keep {P w0 m w} (h : TabO P w0) (hh : Holds w0.heap.size w0 m w) : TabO P w := h.below hh.below
theorem itoa_nn {n : Int} (h : 0 ≤ n) : Lib.itoa n = Lib.decDigits n.toNat := by unfold Lib.itoa; rw [if_neg (by omega)]
theorem itoa_pos (n : Int) : 1 ≤ (Lib.itoa n).length := by
  unfold Lib.itoa
  split
  · simp
  · rw [Lib.decDigits_length]; exact Lib.nDigits_pos _
theorem nDig_le : ∀ (k u : Nat), u < 10 ^ k → 1 ≤ k → Lib.nDigits u ≤ k
  | 0, _, _, h => absurd h (by omega)
  | k + 1, u, hu, _ => by
    by_cases h : u < 10
    · rw [Lib.nDigits_small h]; omega
    · rw [Lib.nDigits_big h]
      have hk : 1 ≤ k := by
        rcases k with _ | k
        · simp at hu; omega
        · omega
      have := nDig_le k (u / 10) (by rw [Nat.pow_succ] at hu; omega) hk
      omega
theorem itoa_le {n : Int} (h : -9223372036854775808 ≤ n ∧ n ≤ 9223372036854775807) : (Lib.itoa n).length ≤ 20 := by
  unfold Lib.itoa
  split
  · rw [List.length_cons, Lib.decDigits_length]
    have := nDig_le 19 n.natAbs (by omega) (by omega)
    omega
  · rw [Lib.decDigits_length]
    have := nDig_le 19 n.toNat (by omega) (by omega)
    omega
theorem itoa_one {n : Int} (h : 0 ≤ n) (h1 : n < 10) : Lib.itoa n = [UInt8.ofNat (48 + n % 10).toNat] := by
  rw [itoa_nn h, Lib.decDigits, dif_pos (by omega)]
  congr 2
  omega
theorem itoa_more {n : Int} (h : 0 ≤ n) (h1 : ¬ n < 10) : Lib.itoa n = Lib.itoa (n / 10) ++ [UInt8.ofNat (48 + n % 10).toNat] := by
  rw [itoa_nn h, itoa_nn (by omega), Lib.decDigits, dif_neg (by omega)]
  congr 3
  · omega
  · omega
theorem eU_one {x : Int} (h : 0 ≤ x ∧ x ≤ 255) : [Value.int .u8 x] = [UInt8.ofNat x.toNat].flatMap eU := by
  rw [List.flatMap_cons, List.flatMap_nil, List.append_nil]
  exact congrArg (· :: []) (b8_cell h)
theorem tS {a b : List UInt8} (h : a = b) : tupleOf [sv a] = sv b := by rw [h]; rfl
theorem vS {a b : List UInt8} (h : a = b) : sv a = sv b := by rw [h]
/-! ### Lines laid one behind the other -/
def joinT (f : Nat → List UInt8) : Nat → List UInt8
  | 0 => []
  | k + 1 => joinT f k ++ f k
theorem joinT_s (f : Nat → List UInt8) (k : Nat) : joinT f (k + 1) = joinT f k ++ f k := rfl
theorem joinT_le {f : Nat → List UInt8} {B : Nat} : ∀ (n : Nat), (∀ i, i < n → (f i).length ≤ B) → (joinT f n).length ≤ n * B
  | 0, _ => by simp [joinT]
  | n + 1, h => by
    rw [joinT, List.length_append, Nat.succ_mul]
    have := joinT_le n fun i hi => h i (by omega)
    have := h n (by omega)
    omega
theorem joinT_pos {f : Nat → List UInt8} (h : ∀ i, 1 ≤ (f i).length) : ∀ (n : Nat), 0 < n → 0 < (joinT f n).length
  | n + 1, _ => by rw [joinT, List.length_append]; have := h n; omega
end Go.Sx

/- Rows of strings; texts joined. -/
set_option linter.unusedVariables false
set_option linter.unusedSimpArgs false
namespace Go.Sx
open Go Go.RowKit
variable {C : Cx} {env env' : Env} {m m' : List Ent} {o : Oper} {K : Env → List Ent → Prop}
def eSt (l : List UInt8) : List Value := [sv l]
theorem eSt_len : ∀ l, (eSt l).length = 1 := fun _ => rfl
def mkB (l : List UInt8) : ByteArray := ⟨l.toArray⟩
theorem mkB_data (l : List UInt8) : (mkB l).data.toList = l := rfl
theorem mkB_map (xs : List (List UInt8)) : (xs.map mkB).map (·.data.toList) = xs := by
  rw [List.map_map]
  exact List.map_id _
theorem join_pre {w : World} {A : Option Addr} {xs : List (List UInt8)} (h : Rd w A (xs.flatMap eSt)) (h0 : 0 < xs.length) : ∃ bk o', A = some ⟨bk, o', none⟩ ∧ bk < w.heap.size ∧ ∀ (j : Nat) x, (xs.map mkB)[j]? = some x → w.cell? ⟨bk, o' + j, none⟩ = some (.string x) := by
  have hget : ∀ j (hj : j < xs.length), (xs.flatMap eSt)[j]? = some (sv (xs.getD j [])) := fun j hj => by
    have := flat_get eSt_len ([] : List UInt8) xs j 0 hj (by omega)
    simp only [Nat.mul_one, Nat.add_zero] at this
    rw [this]; rfl
  obtain ⟨⟨bk, o', sp⟩, rfl, hc⟩ := h 0 _ (hget 0 h0)
  have hz : (⟨bk, o', sp⟩ : Addr).add 0 = ⟨bk, o', sp⟩ := by unfold Addr.add; simp
  rw [hz] at hc
  have hsp : sp = none := by simpa using World.cell?_spot hc
  subst hsp
  refine ⟨bk, o', rfl, World.block_lt_of_cell? _ _ hc, fun j x hx => ?_⟩
  have hj : j < xs.length := by have := (List.getElem?_eq_some_iff.1 hx).1; simpa using this
  obtain ⟨ad, e1, hc'⟩ := h j _ (hget j hj)
  obtain rfl := Option.some.inj e1
  rw [add_at] at hc'
  rw [hc']
  rw [List.getElem?_map] at hx
  have hg : xs[j]? = some xs[j] := List.getElem?_eq_getElem hj
  rw [hg] at hx
  simp only [Option.map_some, Option.some.injEq] at hx
  rw [← hx]
  simp [List.getD, hj, sv, mkB]
theorem row_cap' {i n c sz : Nat} {A : Option Addr} {E xs} (hi : m[i]? = some (.row (.slice A n c) E sz n xs)) : ∀ w, Holds C.base C.w0 m w → n ≤ c := fun w hw => by
  have h := hw.all _ (List.mem_of_getElem? hi)
  rcases h.2 with ⟨hv, h0⟩ | ⟨g, cap, cur, hv, _, _, hc, _⟩
  · omega
  · simp only [Value.slice.injEq] at hv
    omega
theorem agS {a b : List UInt8} (h : a = b) : (some (sv a) : Option Value) = some (sv b) := by rw [h]
theorem itoa_neg {n : Int} (h : n < 0) : Lib.itoa n = 45 :: Lib.itoa (-n) := by
  rw [itoa_nn (n := -n) (by omega)]
  unfold Lib.itoa
  rw [if_pos h]
  congr 2
  omega
end Go.Sx

/- A byte of a string; pieces of a string. -/
set_option linter.unusedVariables false
set_option linter.unusedSimpArgs false
namespace Go.Sx
open Go Go.RowKit
variable {C : Cx} {env env' : Env} {m m' : List Ent} {o : Oper} {K : Env → List Ent → Prop}
theorem fr_indexS {S x y k} {l : List UInt8} {i : Int} (j : Nat) (ho : o.op = .index S x y) (hx : ev env x = some (sv l)) (hy : ev env y = some (.int k i)) (hS : C.P.underlying S = some .string) (hi : i = (j : Nat)) (hj : j < l.length) : Free C o env m (.int .u8 ((l.getD j 0).toNat : Int)) := by
  subst hi
  intro a w hr hw
  have h := run_index_string (P := C.P) w S ⟨l.toArray⟩ k (j : Int) hS
  rw [dif_pos ⟨by omega, by rw [sv_size]; omega⟩] at h
  have e : (⟨l.toArray⟩ : ByteArray)[((j : Nat) : Int).toNat]'(by rw [sv_size]; simpa using hj) = l.getD j 0 := by
    simp [List.getD, hj]
    rfl
  rw [e] at h
  simp only [execOp, ho, hr.ev hx, hr.ev hy, Sem.run_bind, h, Result.andThen_ok, Sem.run_pure]
theorem fr_sliceS {S x y z k k'} {l : List UInt8} {p q : Int} (a b : Nat) (ho : o.op = .slice S x (some y) (some z) none) (hx : ev env x = some (sv l)) (hy : ev env y = some (.int k p)) (hz : ev env z = some (.int k' q)) (hS : C.P.underlying S = some .string) (hp : p = (a : Nat)) (hq : q = (b : Nat)) (hab : a ≤ b) (hb : b ≤ l.length) : Free C o env m (sv ((l.drop a).take (b - a))) := by
  subst hp hq
  intro ac w hr hw
  have h := run_slice_string (P := C.P) w S ⟨l.toArray⟩ k k' (a : Int) (b : Int) hS (by omega) (by omega) (by rw [sv_size]; omega)
  rw [ByteArray.extract_mk] at h
  simp only [Int.toNat_natCast] at h
  simp only [execOp, ho, hr.ev hx, Option.map_none, Option.map_some, hr.ev hy, hr.ev hz, run_sliceAt_string w S _ _ _ _ hS, Sem.run_bind, h, Result.andThen_ok, Sem.run_pure]
theorem fr_sliceS_l {S x y k} {l : List UInt8} {p : Int} (a : Nat) (ho : o.op = .slice S x (some y) none none) (hx : ev env x = some (sv l)) (hy : ev env y = some (.int k p)) (hS : C.P.underlying S = some .string) (hp : p = (a : Nat)) (hb : a ≤ l.length) : Free C o env m (sv (l.drop a)) := by
  subst hp
  intro ac w hr hw
  have h := run_slice_string_from_if (P := C.P) w S ⟨l.toArray⟩ k (a : Int) hS
  rw [if_pos ⟨by omega, by rw [sv_size]; omega⟩, ByteArray.extract_mk, sv_size] at h
  simp only [Int.toNat_natCast] at h
  rw [List.take_of_length_le (by rw [List.length_drop]; omega)] at h
  simp only [execOp, ho, hr.ev hx, Option.map_none, Option.map_some, hr.ev hy, run_sliceAt_string w S _ _ _ _ hS, Sem.run_bind, h, Result.andThen_ok, Sem.run_pure]
end Go.Sx

/- Numbers read from their texts. -/
set_option linter.unusedVariables false
set_option linter.unusedSimpArgs false
namespace Go.W
open Go Go.Sx
def isDig (c : UInt8) : Prop := 48 ≤ c.toNat ∧ c.toNat ≤ 57
def numV (t : List UInt8) : Nat := t.foldl (fun a c => 10 * a + (c.toNat - 48)) 0
theorem numV_snoc (t : List UInt8) (c : UInt8) : numV (t ++ [c]) = 10 * numV t + (c.toNat - 48) := by simp [numV, List.foldl_append]
/-- What a text of a number is: digits, at least one, no nought ahead of another digit. -/
def numOk (t : List UInt8) : Prop := t ≠ [] ∧ (∀ c ∈ t, isDig c) ∧ (t.length = 1 ∨ t.getD 0 0 ≠ 48)
theorem u8_eq {c : UInt8} {n : Nat} (h : n < 256) (e : c.toNat = n) : UInt8.ofNat n = c := by
  apply UInt8.toNat_inj.1
  rw [UInt8.toNat_ofNat']
  omega
theorem itoa_numV : ∀ (k : Nat) (t : List UInt8), t.length = k → numOk t → Lib.itoa (numV t : Int) = t
  | 0, t, hk, h => absurd (List.eq_nil_of_length_eq_zero hk) h.1
  | k + 1, t, hk, h => by
    have hne := h.1
    obtain ⟨u, c, rfl⟩ : ∃ u c, t = u ++ [c] := ⟨t.dropLast, t.getLast hne, (List.dropLast_concat_getLast hne).symm⟩
    have hc : isDig c := h.2.1 c (by simp)
    have hul : u.length = k := by simpa using hk
    rw [numV_snoc]
    unfold isDig at hc
    rcases u with _ | ⟨a, r⟩
    · rw [itoa_one (by simp [numV] <;> omega) (by simp [numV] <;> omega)]
      simp only [List.nil_append]
      congr 1
      exact u8_eq (by simp [numV] <;> omega) (by simp [numV] <;> omega)
    · have h0 : (a :: r).getD 0 0 ≠ 48 := by
        rcases h.2.2 with h1 | h1
        · simp at h1
        · simpa using h1
      have hu : numOk (a :: r) := ⟨by simp, fun x hx => h.2.1 x (List.mem_append_left _ hx), .inr h0⟩
      have ih := itoa_numV k (a :: r) hul hu
      have hpos : 1 ≤ numV (a :: r) := by
        rcases Nat.eq_zero_or_pos (numV (a :: r)) with h1 | h1
        · exfalso
          rw [h1] at ih
          rw [itoa_one (by decide) (by decide)] at ih
          simp at ih
          exact h0 (by simp [← ih.1])
        · exact h1
      rw [itoa_more (by omega) (by omega)]
      have e1 : ((10 * numV (a :: r) + (c.toNat - 48) : Nat) : Int) / 10 = (numV (a :: r) : Int) := by omega
      rw [e1, ih]
      congr 2
      exact u8_eq (by omega) (by omega)
theorem numV_one {c : UInt8} : numV [c] = c.toNat - 48 := by simp [numV]
theorem u8_nat {n : Nat} (h : n < 256) : (UInt8.ofNat n).toNat = n := by rw [UInt8.toNat_ofNat']; omega
theorem itoa_ok : ∀ (k : Nat) (n : Int), n.toNat = k → 0 ≤ n → numOk (Lib.itoa n) ∧ (numV (Lib.itoa n) : Int) = n := by
  intro k
  induction k using Nat.strongRecOn with
  | ind k ih =>
    intro n hk h0
    by_cases h1 : n < 10
    · rw [itoa_one h0 h1]
      have e := u8_nat (n := (48 + n % 10).toNat) (by omega)
      refine ⟨⟨by simp, fun c hc => ?_, .inl rfl⟩, ?_⟩
      · rw [List.mem_singleton] at hc
        subst hc
        unfold isDig
        rw [e]; omega
      · rw [numV_one, e]; omega
    · rw [itoa_more h0 h1]
      obtain ⟨i1, i2⟩ := ih (n / 10).toNat (by omega) (n / 10) rfl (by omega)
      have e := u8_nat (n := (48 + n % 10).toNat) (by omega)
      refine ⟨⟨by simp, fun c hc => ?_, .inr ?_⟩, ?_⟩
      · rcases List.mem_append.1 hc with hc | hc
        · exact i1.2.1 c hc
        · rw [List.mem_singleton] at hc
          subst hc
          unfold isDig
          rw [e]; omega
      · rcases i1.2.2 with h2 | h2
        · have h3 := itoa_len_one h2 (by omega)
          rw [h3]
          show (UInt8.ofNat (48 + (n / 10) % 10).toNat) ≠ 48
          intro h4
          have h5 := congrArg UInt8.toNat h4
          rw [u8_nat (by omega)] at h5
          simp at h5
          have h6 : n / 10 < 10 := itoa_len_lt h2 (by omega)
          omega
        · have hne := i1.1
          cases hL : Lib.itoa (n / 10) with
          | nil => exact absurd hL hne
          | cons a r => rw [hL] at h2; simpa using h2
      · rw [numV_snoc, e]; omega
where
  itoa_len_lt {m : Int} (h : (Lib.itoa m).length = 1) (h0 : 0 ≤ m) : m < 10 := by
    rcases Int.lt_or_le m 10 with h1 | h1
    · exact h1
    · rw [itoa_more h0 (by omega), List.length_append] at h
      have := itoa_pos (m / 10)
      simp at h
      rw [h] at this
      simp at this
  itoa_len_one {m : Int} (h : (Lib.itoa m).length = 1) (h0 : 0 ≤ m) : Lib.itoa m = [UInt8.ofNat (48 + m % 10).toNat] := itoa_one h0 (itoa_len_lt h h0)
end Go.W

/- Texts cut at a byte. -/
set_option linter.unusedVariables false
set_option linter.unusedSimpArgs false
namespace Go.W
open Go Go.Sx
/-- The pieces of a text behind a piece that has begun. -/
def splitA (c : UInt8) : List UInt8 → List UInt8 → List (List UInt8)
  | acc, [] => [acc]
  | acc, x :: r => if x = c then acc :: splitA c [] r else splitA c (acc ++ [x]) r
theorem splitA_nil (c : UInt8) (acc : List UInt8) : splitA c acc [] = [acc] := rfl
theorem splitA_y {c x : UInt8} {acc r : List UInt8} (h : x = c) : splitA c acc (x :: r) = acc :: splitA c [] r := if_pos h
theorem splitA_n {c x : UInt8} {acc r : List UInt8} (h : ¬ x = c) : splitA c acc (x :: r) = splitA c (acc ++ [x]) r := if_neg h
theorem splitA_ne (c : UInt8) : ∀ (s acc : List UInt8), splitA c acc s ≠ []
  | [], acc => by simp [splitA]
  | x :: r, acc => by
    unfold splitA
    split
    · simp
    · exact splitA_ne c r _
theorem index_cons (c b : UInt8) (l : List UInt8) : Lib.index (b :: l) [c] = if b = c then 0 else if Lib.index l [c] = -1 then -1 else Lib.index l [c] + 1 := by
  show (if [c].isPrefixOf (b :: l) then (0 : Int) else if Lib.index l [c] == -1 then -1 else Lib.index l [c] + 1) = _
  by_cases h : b = c
  · subst h; simp [List.isPrefixOf]
  · have h' : ¬ c = b := fun e => h e.symm
    simp [List.isPrefixOf, h, h']
theorem splitA_idx (c : UInt8) : ∀ (s acc : List UInt8), (Lib.index s [c] = -1 → splitA c acc s = [acc ++ s]) ∧ ∀ i : Nat, Lib.index s [c] = i → splitA c acc s = (acc ++ s.take i) :: splitA c [] (s.drop (i + 1))
  | [], acc => ⟨fun _ => by simp [splitA], fun i h => by
    have : Lib.index [] [c] = -1 := rfl
    omega⟩
  | x :: r, acc => by
    rw [index_cons]
    by_cases hx : x = c
    · rw [if_pos hx, splitA_y hx]
      refine ⟨fun h => absurd h (by decide), fun i h => ?_⟩
      obtain rfl : i = 0 := by omega
      simp
    · rw [if_neg hx, splitA_n hx]
      obtain ⟨h1, h2⟩ := splitA_idx c r (acc ++ [x])
      by_cases hi : Lib.index r [c] = -1
      · rw [if_pos hi]
        refine ⟨fun _ => by rw [h1 hi]; simp, fun i h => by omega⟩
      · rw [if_neg hi]
        have hg := Lib.index_ge r [c]
        refine ⟨fun h => by omega, fun i h => ?_⟩
        obtain ⟨j, rfl⟩ : ∃ j, i = j + 1 := ⟨i - 1, by omega⟩
        rw [h2 j (by omega)]
        simp
/-- The library's pieces are these. -/
theorem splitK_eq (c : UInt8) : ∀ (k : Nat) (s : List UInt8), Lib.count s [c] = k → Lib.splitK [c] 0 k s = splitA c [] s := by
  intro k
  induction k with
  | zero =>
    intro s h
    rcases Int.lt_or_le (Lib.index s [c]) 0 with h1 | h1
    · have hm : Lib.index s [c] = -1 := by have := Lib.index_ge s [c]; omega
      rw [(splitA_idx c s []).1 hm]; rfl
    · obtain ⟨i, hi⟩ := Int.eq_ofNat_of_zero_le h1
      have := Lib.count_hit (sub := [c]) (by simp) hi
      omega
  | succ k ih =>
    intro s h
    rcases Int.lt_or_le (Lib.index s [c]) 0 with h1 | h1
    · have hm : Lib.index s [c] = -1 := by have := Lib.index_ge s [c]; omega
      rw [Lib.count_miss hm] at h
      omega
    · obtain ⟨i, hi⟩ := Int.eq_ofNat_of_zero_le h1
      have hc := Lib.count_hit (sub := [c]) (by simp) hi
      have hn : ¬ (Lib.index s [c] == -1) = true := fun e => by have := beq_iff_eq.1 e; omega
      rw [(splitA_idx c s []).2 i hi, Lib.splitK, if_neg hn]
      have e : (Lib.index s [c]).toNat = i := by omega
      rw [e]
      simp only [List.length_cons, List.length_nil, Nat.zero_add] at hc ⊢
      rw [ih _ (by omega)]
      simp
theorem split_eq (c : UInt8) (s : List UInt8) : Lib.split s [c] = splitA c [] s := splitK_eq c _ s rfl
theorem join_cons2 (x y : List UInt8) (r : List (List UInt8)) (sep : List UInt8) : Lib.join (x :: y :: r) sep = x ++ sep ++ Lib.join (y :: r) sep := by
  rw [Lib.join_cons, Lib.join_cons]
  simp [Lib.joinTail]
theorem join_split (c : UInt8) : ∀ (s acc : List UInt8), Lib.join (splitA c acc s) [c] = acc ++ s
  | [], acc => by rw [splitA_nil, Lib.join_one, List.append_nil]
  | x :: r, acc => by
    by_cases hx : x = c
    · rw [splitA_y hx]
      have ih := join_split c r []
      cases hs : splitA c [] r with
      | nil => exact absurd hs (splitA_ne c r [])
      | cons y ys =>
        rw [hs] at ih
        rw [join_cons2, ih, hx]
        simp
    · rw [splitA_n hx, join_split c r (acc ++ [x])]
      simp
theorem split_no (c : UInt8) : ∀ (s acc : List UInt8), c ∉ acc → ∀ p ∈ splitA c acc s, c ∉ p
  | [], acc, h, p, hp => by
    rw [splitA_nil, List.mem_singleton] at hp
    subst hp; exact h
  | x :: r, acc, h, p, hp => by
    by_cases hx : x = c
    · rw [splitA_y hx, List.mem_cons] at hp
      rcases hp with rfl | hp
      · exact h
      · exact split_no c r [] (by simp) p hp
    · rw [splitA_n hx] at hp
      exact split_no c r _ (by
        rw [List.mem_append, List.mem_singleton]
        rintro (h1 | h1)
        · exact h h1
        · exact hx h1.symm) p hp
theorem splitA_piece {c : UInt8} : ∀ (x acc r : List UInt8), c ∉ x → splitA c acc (x ++ c :: r) = (acc ++ x) :: splitA c [] r
  | [], acc, r, _ => by rw [List.nil_append, splitA_y rfl, List.append_nil]
  | a :: x, acc, r, h => by
    rw [List.mem_cons, not_or] at h
    rw [List.cons_append, splitA_n (fun e => h.1 e.symm), splitA_piece x _ r h.2]
    simp
theorem splitA_last {c : UInt8} : ∀ (x acc : List UInt8), c ∉ x → splitA c acc x = [acc ++ x]
  | [], acc, _ => by rw [splitA_nil, List.append_nil]
  | a :: x, acc, h => by
    rw [List.mem_cons, not_or] at h
    rw [splitA_n (fun e => h.1 e.symm), splitA_last x _ h.2]
    simp
/-- What is joined comes apart again. -/
theorem split_join {c : UInt8} : ∀ (xs : List (List UInt8)), xs ≠ [] → (∀ x ∈ xs, c ∉ x) → splitA c [] (Lib.join xs [c]) = xs
  | [], h, _ => absurd rfl h
  | [x], _, h => by rw [Lib.join_one, splitA_last x [] (h x (by simp))]; rfl
  | x :: y :: r, _, h => by
    rw [join_cons2, List.append_assoc]
    show splitA c [] (x ++ c :: ([] ++ Lib.join (y :: r) [c])) = _
    rw [splitA_piece x [] _ (h x (by simp)), List.nil_append, List.nil_append, split_join (y :: r) (by simp) (fun z hz => h z (List.mem_cons_of_mem _ hz))]
end Go.W

/- The library's numbers read back. -/
set_option linter.unusedVariables false
set_option linter.unusedSimpArgs false
namespace Go.W
open Go Go.Sx
def numF (a : Nat) (l : List UInt8) : Nat := l.foldl (fun a c => 10 * a + (c.toNat - 48)) a
theorem numF_ge : ∀ (l : List UInt8) (a : Nat), a ≤ numF a l
  | [], a => Nat.le_refl _
  | c :: r, a => by
    have := numF_ge r (10 * a + (c.toNat - 48))
    show a ≤ numF (10 * a + (c.toNat - 48)) r
    omega
theorem parse_digits : ∀ (l : List UInt8) (a : Nat), (∀ c ∈ l, isDig c) → numF a l ≤ 2 ^ 64 - 1 → Lib.parseUintM (2 ^ 64 - 1) a l = .ok (numF a l)
  | [], a, _, _ => rfl
  | c :: r, a, hd, hn => by
    have hc : isDig c := hd c (by simp)
    have e : numF a (c :: r) = numF (10 * a + (c.toNat - 48)) r := rfl
    rw [e] at hn ⊢
    have hg := numF_ge r (10 * a + (c.toNat - 48))
    unfold isDig at hc
    rw [Lib.parseUintM, if_pos hc, if_neg (by omega), if_neg (by omega), Nat.mul_comm a 10]
    exact parse_digits r _ (fun x hx => hd x (List.mem_cons_of_mem _ hx)) hn
theorem parse_nat {n : Int} (h : 0 ≤ n) (h1 : n ≤ 9223372036854775808) : Lib.parseUintB 64 (Lib.itoa n) = .ok n.toNat := by
  obtain ⟨hk, hv⟩ := itoa_ok _ n rfl h
  unfold Lib.parseUintB
  rw [if_neg hk.1]
  have e : numF 0 (Lib.itoa n) = numV (Lib.itoa n) := rfl
  rw [parse_digits _ 0 hk.2.1 (by rw [e]; omega), e]
  congr 1
  omega
/-- A number's text is read as the number. -/
theorem parse_itoa {n : Int} (h : -9223372036854775808 ≤ n ∧ n ≤ 9223372036854775807) : Lib.parseIntB 64 (Lib.itoa n) = .ok n := by
  by_cases h0 : n < 0
  · rw [itoa_neg h0]
    have hp := parse_nat (n := -n) (by omega) (by omega)
    unfold Lib.parseIntB
    have e1 : (45 : UInt8).toNat = 45 := by decide
    simp only [e1, or_true, if_true, hp]
    rw [if_neg (by simp), if_neg (by simp; omega)]
    congr 1
    omega
  · have hk := (itoa_ok _ n rfl (by omega)).1
    have hp := parse_nat (n := n) (by omega) (by omega)
    cases hL : Lib.itoa n with
    | nil => exact absurd hL hk.1
    | cons c r =>
      have hc : isDig c := hk.2.1 c (by rw [hL]; simp)
      unfold isDig at hc
      rw [hL] at hp
      unfold Lib.parseIntB
      have n43 : ¬ c.toNat = 43 := by omega
      have n45 : ¬ c.toNat = 45 := by omega
      simp only [n43, n45, or_self, if_false, hp]
      rw [if_neg (by omega), if_neg (by simp)]
      congr 1
      omega
/-- strings.Cut at one byte, by the pieces. -/
theorem cut_one {c : UInt8} {s p : List UInt8} (h : splitA c [] s = [p]) : (Lib.cut s [c]).1 = p ∧ (Lib.cut s [c]).2.1 = [] := by
  unfold Lib.cut
  rcases Int.lt_or_le (Lib.index s [c]) 0 with h1 | h1
  · have hm : Lib.index s [c] = -1 := by have := Lib.index_ge s [c]; omega
    rw [(splitA_idx c s []).1 hm] at h
    rw [if_neg (by omega)]
    simp at h
    exact ⟨h, rfl⟩
  · obtain ⟨i, hi⟩ := Int.eq_ofNat_of_zero_le h1
    rw [(splitA_idx c s []).2 i hi] at h
    simp only [List.cons.injEq] at h
    exact absurd h.2 (splitA_ne c _ _)
theorem cut_more {c : UInt8} {s p q : List UInt8} {r : List (List UInt8)} (h : splitA c [] s = p :: q :: r) : (Lib.cut s [c]).1 = p ∧ (Lib.cut s [c]).2.1 = Lib.join (q :: r) [c] := by
  unfold Lib.cut
  rcases Int.lt_or_le (Lib.index s [c]) 0 with h1 | h1
  · have hm : Lib.index s [c] = -1 := by have := Lib.index_ge s [c]; omega
    rw [(splitA_idx c s []).1 hm] at h
    simp at h
  · obtain ⟨i, hi⟩ := Int.eq_ofNat_of_zero_le h1
    rw [(splitA_idx c s []).2 i hi] at h
    simp only [List.cons.injEq] at h
    rw [if_pos h1]
    have e : (Lib.index s [c]).toNat = i := by omega
    rw [e]
    refine ⟨by have := h.1; simpa using this, ?_⟩
    have hj := join_split c (s.drop (i + 1)) []
    rw [h.2] at hj
    rw [hj]
    simp
end Go.W

/- The library's variables that a reader of texts meets; errors compared with nil; the library's Split, Cut and ParseInt, as our contracts say them; what is laid and the shape, both handed on. -/
set_option linter.unusedVariables false
set_option linter.unusedSimpArgs false
namespace Go.Sx
open Go Go.RowKit
variable {C : Cx} {env env' : Env} {m m' : List Ent} {o : Oper} {K : Env → List Ent → Prop}
/-- The three variables of the library that a reader of texts meets. -/
structure RdO (gm gs gr : Nat) (w : World) : Prop where
  max : ∃ m, w.cell? ⟨gm, 0, none⟩ = some (.int .i64 m)
  syn : ∃ v, w.cell? ⟨gs, 0, none⟩ = some v ∧ (v = .nilIface ∨ ∃ te pe, v = .iface te pe)
  rng : ∃ v, w.cell? ⟨gr, 0, none⟩ = some v ∧ (v = .nilIface ∨ ∃ te pe, v = .iface te pe)
theorem cell_below {w w' : World} {g : Nat} {v : Value} (hb : Below w.heap.size w w') (h : w.cell? ⟨g, 0, none⟩ = some v) : w'.cell? ⟨g, 0, none⟩ = some v :=
  (hb.cell (p := ⟨g, 0, none⟩) (World.block_lt_of_cell? _ _ h)).trans h
theorem RdO.below {a b c w w'} (h : RdO a b c w) (hb : Below w.heap.size w w') : RdO a b c w' :=
  ⟨h.max.imp fun _ h => cell_below hb h, h.syn.imp fun _ h => ⟨cell_below hb h.1, h.2⟩, h.rng.imp fun _ h => ⟨cell_below hb h.1, h.2⟩⟩
theorem RdO.keep {a b c w0 m w} (h : RdO a b c w0) (hh : Holds w0.heap.size w0 m w) : RdO a b c w := h.below hh.below
/-- An error: nil, or something. -/
def errV (b : Bool) (t : TypeId) (v : Value) : Value := if b then .nilIface else .iface t v
theorem errV_eq (b : Bool) (t : TypeId) (v : Value) {T : TypeId} {P : Program} {w : World} (h : P.isIface T = true) : (Op.equal T (errV b t v) .nilIface).run P w = .ok b w := by
  cases b
  · exact run_equalIn_iface_nil w 9999 T h t v
  · exact run_equalIn_nil_nil_at w 9999 T h
theorem fr_eql_err {T x c T' b t v ms} (ho : o.op = .binOp .eql T x (.const c) T') (hx : ev env x = some (errV b t v)) (hy : ev env (.const c) = some .nilIface) (hT : C.P.underlying T = some (.interface ms)) : Free C o env m (.bool b) := by
  intro a w hr _
  have hi : C.P.isIface T = true := by simp [Program.isIface, hT]
  have h : (binOp .eql T (errV b t v) .nilIface).run C.P w = .ok (.bool b) w := by
    have e : binOp .eql T (errV b t v) .nilIface = (do pure (.bool (← Op.equal T (errV b t v) .nilIface))) := by cases b <;> rfl
    rw [e]
    simp only [Sem.run_bind, errV_eq b t v hi, Result.andThen_ok, Sem.run_pure]
  have hg : (eqGuard .eql T x (.const c) (errV b t v) .nilIface).run C.P w = .ok () w := by
    cases b
    · show (eqGuard .eql T x (.const c) (.iface t v) .nilIface).run C.P w = _
      rw [eqGuard_at_iface]; rfl
    · show (eqGuard .eql T x (.const c) .nilIface .nilIface).run C.P w = _
      rw [eqGuard_nil_constR]; rfl
  simp only [execOp, ho, hr.ev hx, hr.ev hy, Sem.run_bind, hg, Result.andThen_ok, h]; rfl
theorem fr_neq_err {T x c T' b t v ms} (ho : o.op = .binOp .neq T x (.const c) T') (hx : ev env x = some (errV b t v)) (hy : ev env (.const c) = some .nilIface) (hT : C.P.underlying T = some (.interface ms)) : Free C o env m (.bool (!b)) := by
  intro a w hr _
  have hi : C.P.isIface T = true := by simp [Program.isIface, hT]
  have h : (binOp .neq T (errV b t v) .nilIface).run C.P w = .ok (.bool (!b)) w := by
    have e : binOp .neq T (errV b t v) .nilIface = (do pure (.bool (!(← Op.equal T (errV b t v) .nilIface)))) := by cases b <;> rfl
    rw [e]
    simp only [Sem.run_bind, errV_eq b t v hi, Result.andThen_ok, Sem.run_pure]
  have hg : (eqGuard .neq T x (.const c) (errV b t v) .nilIface).run C.P w = .ok () w := by
    cases b
    · show (eqGuard .neq T x (.const c) (.iface t v) .nilIface).run C.P w = _
      rw [eqGuard_at_iface]; rfl
    · show (eqGuard .neq T x (.const c) .nilIface .nilIface).run C.P w = _
      rw [eqGuard_nil_constR]; rfl
  simp only [execOp, ho, hr.ev hx, hr.ev hy, Sem.run_bind, hg, Result.andThen_ok, h]; rfl
/-- The pieces that the library's Split lays are a row of ours. -/
theorem splitB_pieces (c : UInt8) (t : List UInt8) : (Lib.splitB (mkB [c]) 0 (Lib.countB (mkB t) (mkB [c])) (mkB t)).map (·.data.toList) = W.splitA c [] t := by
  rw [Lib.splitB_data]
  exact W.split_eq c t
theorem split_row {w : World} {T : TypeId} (c : UInt8) (t : List UInt8) (hl : t.length ≤ 281474976710656) :
    (Value.slice (some ⟨w.heap.size, 0, none⟩) (Lib.countB (mkB t) (mkB [c]) + 1) (Lib.countB (mkB t) (mkB [c]) + 1) = Value.slice (some ⟨w.heap.size, 0, none⟩) (W.splitA c [] t).length (W.splitA c [] t).length) ∧
    Ent.holds w.heap.size (w.alloc (.cells ((Lib.splitB (mkB [c]) 0 (Lib.countB (mkB t) (mkB [c])) (mkB t)).map Value.string).toArray T)) (.row (.slice (some ⟨w.heap.size, 0, none⟩) (W.splitA c [] t).length (W.splitA c [] t).length) T 1 (W.splitA c [] t).length ((W.splitA c [] t).flatMap eSt)) := by
  have hp := splitB_pieces c t
  have hlen : Lib.countB (mkB t) (mkB [c]) + 1 = (W.splitA c [] t).length := by
    rw [← hp, List.length_map, Lib.splitB_all (mkB [c]) (by show 1 ≤ 1; decide) 0 _ (mkB t) rfl]
  have hlt := Lib.countB_le (mkB [c]) (by show 1 ≤ 1; decide) (mkB t).size (mkB t) (Nat.le_refl _)
  have hsz : (mkB t).size = t.length := by simp [mkB, ByteArray.size]
  have hcells : (Lib.splitB (mkB [c]) 0 (Lib.countB (mkB t) (mkB [c])) (mkB t)).map Value.string = (W.splitA c [] t).flatMap eSt := by
    rw [← hp]
    generalize Lib.splitB (mkB [c]) 0 (Lib.countB (mkB t) (mkB [c])) (mkB t) = bs
    induction bs with
    | nil => rfl
    | cons b r ih => rw [List.map_cons, ih]; rfl
  refine ⟨by rw [hlen], ?_, .inr ⟨w.heap.size, _, ((Lib.splitB (mkB [c]) 0 (Lib.countB (mkB t) (mkB [c])) (mkB t)).map Value.string).toArray, rfl, Nat.le_refl _, ?_, Nat.le_refl _, ?_, ?_, ?_⟩⟩
  · rw [flat_len eSt_len, Nat.mul_one]
  · show (w.heap.push _)[w.heap.size]? = _
    simp
  · rw [← hlen]; unfold maxLen; omega
  · rw [List.size_toArray, hcells, flat_len eSt_len]
  · rw [hcells, Nat.mul_one]
    exact List.take_of_length_le (by rw [List.toList_toArray, flat_len eSt_len]; omega)
theorem below_alloc (w : World) (o : Obj) : Below w.heap.size w (w.alloc o) := ⟨rfl, rfl, rfl, by show w.heap.size ≤ (w.heap.push o).size; rw [Array.size_push]; omega, fun j hj => by
  show (w.heap.push o)[j]? = _
  rw [Array.getElem?_push, if_neg (by omega)]⟩
theorem fr_subZ {T x y T' p q} (ho : o.op = .binOp .sub T x y T') (hx : ev env x = some (.int .u8 p)) (hy : ev env y = some (.int .u8 q)) (h : 0 ≤ p - q ∧ p - q ≤ 255) : Free C o env m (.int .u8 (p - q)) := by
  have := fr_sub (C := C) (m := m) ho hx hy
  rwa [IntWalk.u8_in _ h] at this
theorem below_drew (w : World) (k : Nat) : Below w.heap.size w (w.drewN k) := ⟨rfl, rfl, rfl, Nat.le_refl _, fun _ _ => rfl⟩
end Go.Sx
namespace Go
variable {H : Type} {enc : TypeId × Value → H}
/-- What is laid and the world's shape, both handed on. -/
theorem handed_and_shaped {a : Assume} {C : Checked} {os : Os} {f : FuncId} {fn : Func} {s : ChangeSpec} {conds : List PathCond} {apart fresh handsOn again : Bool} {X : World → Array Value → Prop}
    (hX : ∀ (w w' : World) (args : Array Value), w.heap = w'.heap → X w args → X w' args)
    (own : ownKnob C.prog.godebug = none) (started : os.Started) (noInit : C.prog.inits.idxOf? f = none) (hfn : C.prog.funcs[f]? = some fn)
    (witness : ∃ (w : World) (tape : Tape) (i : Input), w.os = os ∧ (w.forCall tape i).Shaped C.prog ∧ i.vars = [] ∧ Input.okWide C.prog (w.forCall tape i) .any w.heap.size f i ∧
      ((s.pre enc C.prog fn conds apart (w.forCall tape i).memory i.args ∧ X (w.forCall tape i).memory i.args) ∧ sizedMet enc C.prog fn (OpenSpec.ofChange s) apart (w.forCall tape i).memory i.args) ∧ a.holds C.prog (lone (Frame.enter C.prog f i.args .normal) [] (w.forCall tape i)))
    (contract : ∀ (W : World) (base : Nat) (args : Array Value) (ds gs : List (DataW H)) (before : List MemPlace),
      (∀ (j : Nat) t v, fn.params[j]? = some t → args[j]? = some v → Value.okWide C.prog W .any base t v) →
      DataW.Whole enc C.prog fn.params.toList s.vars apart W args.toList ds gs before →
      conds.all (PathCond.test C.prog ⟨fn.params.toList, ds, s.plain.varTypes C.prog, gs⟩) = true →
      (DataW.weightsEach C.prog (fn.params.toList ++ s.plain.varTypes C.prog) (ds ++ gs)).all (· ≤ reachBytes) = true → X W args → W.ShapedOpen C.prog →
      a.holds C.prog (lone (Frame.enter C.prog f args .normal) [] W) →
      Calls C.prog f args W fun e W' => ∃ v, e = .returned v ∧ s.post enc C.prog fn apart fresh handsOn again W args v W') :
    ReturnsInHanded a C os f .any (fun w args => (s.pre enc C.prog fn conds apart w args ∧ X w args) ∧ sizedMet enc C.prog fn (OpenSpec.ofChange s) apart w args) (s.post enc C.prog fn apart fresh handsOn again) := by
  refine returnsInHanded_of_calls own started noInit witness ?_
  intro w tape i _ hsh _ hok hpre hholds
  obtain ⟨_, _, _, fn', hfn', _, _, _, _, hval⟩ := hok
  have e : fn' = fn := Option.some.inj (hfn'.symm.trans hfn)
  subst e
  obtain ⟨⟨⟨ds, gs, before, hw, hc⟩, hx⟩, hz⟩ := hpre
  have hw' := DataW.Whole.of_heap (w' := w.forCall tape i) (by rfl) hw
  refine (contract (w.forCall tape i) w.heap.size i.args ds gs before hval hw' hc (hz.weights hw) (hX _ _ _ (by rfl) hx) hsh hholds).mono fun e W' ⟨v, he, hp⟩ => ?_
  subst he
  exact ChangeSpec.post_blind hp
end Go

/- The text of totals. -/
set_option linter.unusedVariables false
namespace Go.W
open Go Go.Sx
/-- A builder in a loop: how far, whether it was written, where its bytes lie. -/
structure BdS where
  k : Nat
  u : Bool
  A : Option Addr
  c : Nat
def tlin (x : VP) : List UInt8 := Lib.itoa x.a ++ [32] ++ Lib.itoa x.b ++ [10]
def tText (l : List VP) (k : Nat) : List UInt8 := joinT (fun i => tlin (l.getD i zP)) k
def totTx (l : List VP) : List UInt8 := if validTot l = true then tText l l.length else []
theorem totTx_f {l : List VP} (h : validTot l = false) : totTx l = [] := by unfold totTx; rw [if_neg (by simp [h])]
theorem totTx_t {l : List VP} (h : validTot l = true) : totTx l = tText l l.length := by unfold totTx; rw [if_pos h]
theorem tlin_le {x : VP} (ha : 0 ≤ x.a ∧ x.a ≤ 100000) (hb : 0 ≤ x.b ∧ x.b ≤ 1000000000000) : (tlin x).length ≤ 42 := by
  have h1 := itoa_le (n := x.a) (by omega)
  have h2 := itoa_le (n := x.b) (by omega)
  simp only [tlin, List.length_append, List.length_cons, List.length_nil]
  omega
theorem tText_le {l : List VP} (h : Tot l) {k : Nat} (hk : k ≤ l.length) : (tText l k).length ≤ 2520 := by
  have h1 := joinT_le (f := fun i => tlin (l.getD i zP)) (B := 42) k fun i hi => tlin_le (h.day i (by omega)) (h.cnt i (by omega))
  have h2 := h.len
  unfold tText
  omega
theorem tText_pos {l : List VP} {k : Nat} (hk : 0 < k) : tText l k ≠ [] := by
  have := joinT_pos (f := fun i => tlin (l.getD i zP)) (fun i => by simp only [tlin, List.length_append, List.length_cons, List.length_nil]; omega) k hk
  intro h
  unfold tText at h
  rw [h] at this
  simp at this
end Go.W

/- The text of digits. -/
set_option linter.unusedVariables false
namespace Go.W
open Go Go.Sx
/-- The first k parts. -/
def partsF (f : Nat → List UInt8) (k : Nat) : List (List UInt8) := (List.range k).map f
theorem partsF_len (f : Nat → List UInt8) (k : Nat) : (partsF f k).length = k := by simp [partsF]
theorem partsF_s (f : Nat → List UInt8) (k : Nat) : partsF f (k + 1) = partsF f k ++ [f k] := by simp [partsF, List.range_succ]
theorem joinTail_snoc (sep : List UInt8) (r : List (List UInt8)) (x : List UInt8) : Lib.joinTail sep (r ++ [x]) = Lib.joinTail sep r ++ (sep ++ x) := by simp [Lib.joinTail]
theorem join_snoc {xs : List (List UInt8)} (h : xs ≠ []) (x sep : List UInt8) : Lib.join (xs ++ [x]) sep = Lib.join xs sep ++ sep ++ x := by
  cases xs with
  | nil => exact absurd rfl h
  | cons y r => rw [List.cons_append, Lib.join_cons, Lib.join_cons, joinTail_snoc, List.append_assoc, List.append_assoc]
/-- The parts joined by one that lays them one behind the other, a separator behind each but the last of n. -/
def sepT (f : Nat → List UInt8) (sep : List UInt8) (n k : Nat) : List UInt8 := if k = 0 then [] else Lib.join (partsF f k) sep ++ (if k < n then sep else [])
theorem sepT_0 (f : Nat → List UInt8) (sep : List UInt8) (n : Nat) : sepT f sep n 0 = [] := rfl
theorem sepT_mid {f : Nat → List UInt8} {sep : List UInt8} {n k : Nat} (h : k < n) : Lib.join (partsF f (k + 1)) sep = sepT f sep n k ++ f k := by
  unfold sepT
  by_cases h0 : k = 0
  · subst h0
    rw [if_pos rfl]
    show Lib.join [f 0] sep = _
    rw [Lib.join_one]; rfl
  · rw [if_neg h0, if_pos h, partsF_s, join_snoc (by intro e; have := partsF_len f k; rw [e] at this; simp at this; omega)]
theorem sepT_s {f : Nat → List UInt8} {sep : List UInt8} {n k : Nat} (h : k + 1 < n) : sepT f sep n (k + 1) = sepT f sep n k ++ f k ++ sep := by
  rw [← sepT_mid (by omega : k < n)]
  show (if k + 1 = 0 then _ else _) = _
  rw [if_neg (by omega), if_pos h]
theorem sepT_l {f : Nat → List UInt8} {sep : List UInt8} {n k : Nat} (h : k + 1 = n) : sepT f sep n (k + 1) = sepT f sep n k ++ f k := by
  rw [← sepT_mid (by omega : k < n)]
  show (if k + 1 = 0 then _ else _) = _
  rw [if_neg (by omega), if_neg (by omega), List.append_nil]
theorem sepT_end {f : Nat → List UInt8} {sep : List UInt8} {n : Nat} : sepT f sep n n = Lib.join (partsF f n) sep := by
  unfold sepT
  split
  · rename_i h; subst h; rfl
  · rw [if_neg (by omega), List.append_nil]
theorem sepT_le {f : Nat → List UInt8} {sep : List UInt8} {B n : Nat} (hf : ∀ i, i < n → (f i).length ≤ B) : ∀ k, k ≤ n → (sepT f sep n k).length ≤ k * (B + sep.length)
  | 0, _ => by simp [sepT]
  | k + 1, h => by
    have ih := sepT_le (sep := sep) hf k (by omega)
    have h1 := hf k (by omega)
    rw [Nat.succ_mul]
    rcases Nat.lt_or_ge (k + 1) n with h2 | h2
    · rw [sepT_s h2, List.length_append, List.length_append]; omega
    · rw [sepT_l (by omega), List.length_append]; omega
/-! ### A digit, the digits -/
def dgT (b d : Int) : List UInt8 := if 10 < b ∧ d < 10 then 48 :: Lib.itoa d else Lib.itoa d
theorem dgT_t {b d : Int} (h : 10 < b) (h1 : d < 10) : [48] ++ Lib.itoa d = dgT b d := by unfold dgT; rw [if_pos ⟨h, h1⟩]; rfl
theorem dgT_f {b d : Int} (h : ¬ (10 < b ∧ d < 10)) : Lib.itoa d = dgT b d := by unfold dgT; rw [if_neg h]
theorem itoa_len1 {d : Int} (h : 0 ≤ d) (h1 : d < 10) : (Lib.itoa d).length = 1 := by rw [itoa_one h h1]; rfl
theorem itoa_len2 {d : Int} (h : 10 ≤ d) (h1 : d < 100) : (Lib.itoa d).length = 2 := by
  rw [itoa_more (by omega) (by omega), List.length_append, itoa_len1 (by omega) (by omega)]; rfl
theorem dgT_le {b d : Int} (h : 0 ≤ d) (h1 : d < 100) : (dgT b d).length ≤ 2 := by
  unfold dgT
  split
  · rename_i h2; rw [List.length_cons, itoa_len1 h h2.2]; omega
  · rcases Int.lt_or_le d 10 with h2 | h2
    · rw [itoa_len1 h h2]; omega
    · rw [itoa_len2 h2 h1]; omega
theorem dgT_pos (b d : Int) : 1 ≤ (dgT b d).length := by
  unfold dgT
  split
  · simp
  · exact itoa_pos d
/-- The part of place j, from the top. -/
def dpart (s l : List Int) (j : Nat) : List UInt8 := dgT (s.getD (s.length - 1 - j) 0) (l.getD (s.length - 1 - j) 0)
def digT (s l : List Int) : List UInt8 := Lib.join (partsF (dpart s l) s.length) [58]
def digTx (s l : List Int) : List UInt8 := if (validStack s && validDig s l) = true then digT s l else []
theorem digTx_f {s l : List Int} (h : (validStack s && validDig s l) = false) : digTx s l = [] := by unfold digTx; rw [if_neg (by simp [h])]
theorem digTx_t {s l : List Int} (h : (validStack s && validDig s l) = true) : digTx s l = digT s l := by unfold digTx; rw [if_pos h]
theorem dpart_le {s l : List Int} (hs : Stk s) (hd : DigOk s l) {j : Nat} (hj : j < s.length) : (dpart s l j).length ≤ 2 := by
  have h1 := hs.bases (s.length - 1 - j) (by omega)
  have h2 := hd (s.length - 1 - j) (by omega)
  exact dgT_le h2.1 (by omega)
theorem sepD_le {s l : List Int} (hs : Stk s) (hd : DigOk s l) {k : Nat} (hk : k ≤ s.length) : (sepT (dpart s l) [58] s.length k).length ≤ 24 := by
  have h1 := sepT_le (f := dpart s l) (sep := [58]) (B := 2) (n := s.length) (fun i hi => dpart_le hs hd hi) k hk
  have h2 := hs.len8
  simp only [List.length_cons, List.length_nil] at h1
  omega
theorem digT_le {s l : List Int} (hs : Stk s) (hd : DigOk s l) : (digT s l).length ≤ 24 := by
  unfold digT
  rw [← sepT_end]
  exact sepD_le hs hd (Nat.le_refl _)
end Go.W
namespace Go.W
open Go Go.Sx
def padT (n d : Int) : List UInt8 := (if max 0 (d - ((Lib.itoa n).length : Int)) = 1 then [48] else []) ++ Lib.itoa n
theorem pad_dg {b d : Int} (hb : 2 ≤ b ∧ b ≤ 100) (hd : 0 ≤ d ∧ d < b) : ((Lib.itoa (b - 1)).length : Int) ≤ (Lib.itoa d).length + 1 ∧ padT d ((Lib.itoa (b - 1)).length : Int) = dgT b d := by
  unfold padT dgT
  rcases Int.lt_or_le d 10 with h1 | h1
  · rw [itoa_len1 hd.1 h1]
    rcases Int.lt_or_le (b - 1) 10 with h2 | h2
    · rw [itoa_len1 (by omega) h2, if_neg (by omega), if_neg (by omega)]
      exact ⟨by omega, rfl⟩
    · rw [itoa_len2 h2 (by omega), if_pos (by omega), if_pos ⟨by omega, h1⟩]
      exact ⟨by omega, rfl⟩
  · rw [itoa_len2 h1 (by omega), itoa_len2 (d := b - 1) (by omega) (by omega), if_neg (by omega), if_neg (by omega)]
    exact ⟨by omega, rfl⟩
end Go.W

/- The text of totals, read. -/
set_option linter.unusedVariables false
set_option linter.unusedSimpArgs false
namespace Go.W
open Go Go.Sx
theorem join_parts (f : Nat → List UInt8) (c : UInt8) : ∀ (k : Nat) (x : List UInt8), Lib.join (partsF f k ++ [x]) [c] = joinT (fun i => f i ++ [c]) k ++ x
  | 0, x => by
    show Lib.join [x] [c] = _
    rw [Lib.join_one]; rfl
  | k + 1, x => by
    rw [partsF_s, join_snoc (by simp), join_parts f c k (f k), joinT]
    simp
def tLn (x : VP) : List UInt8 := Lib.itoa x.a ++ [32] ++ Lib.itoa x.b
theorem tText_join (l : List VP) (k : Nat) : tText l k = Lib.join (partsF (fun i => tLn (l.getD i zP)) k ++ [[]]) [10] := by
  rw [join_parts]
  simp only [List.append_nil]
  rfl
theorem dig_no {t : List UInt8} {c : UInt8} (h : ∀ x ∈ t, isDig x) (hc : c.toNat < 48) : c ∉ t := fun hm => by
  have := (h c hm).1
  omega
theorem itoa_no {n : Int} {c : UInt8} (h : 0 ≤ n) (hc : c.toNat < 48) : c ∉ Lib.itoa n := dig_no (itoa_ok _ n rfl h).1.2.1 hc
theorem tLn_no {x : VP} (ha : 0 ≤ x.a) (hb : 0 ≤ x.b) : (10 : UInt8) ∉ tLn x := by
  have h1 := itoa_no (c := 10) ha (by decide)
  have h2 := itoa_no (c := 10) hb (by decide)
  simp [tLn, h1, h2]
theorem tLn_split {x : VP} (ha : 0 ≤ x.a) (hb : 0 ≤ x.b) : splitA 32 [] (tLn x) = [Lib.itoa x.a, Lib.itoa x.b] := by
  have h1 := itoa_no (c := 32) ha (by decide)
  have h2 := itoa_no (c := 32) hb (by decide)
  have e : tLn x = Lib.join [Lib.itoa x.a, Lib.itoa x.b] [32] := by rw [join_cons2, Lib.join_one]; rfl
  rw [e]
  exact split_join _ (by simp) (fun y hy => by
    simp only [List.mem_cons, List.not_mem_nil, or_false] at hy
    rcases hy with rfl | rfl
    · exact h1
    · exact h2)
/-- The lines of a text of totals. -/
theorem tText_lines {l : List VP} (h : Tot l) : splitA 10 [] (tText l l.length) = partsF (fun i => tLn (l.getD i zP)) l.length ++ [[]] := by
  rw [tText_join]
  refine split_join _ (by simp) fun x hx => ?_
  rcases List.mem_append.1 hx with hx | hx
  · obtain ⟨i, hi, rfl⟩ := List.mem_map.1 hx
    have hi := List.mem_range.1 hi
    exact tLn_no (h.day i hi).1 (h.cnt i hi).1
  · rw [List.mem_singleton] at hx
    subst hx; simp
end Go.W
namespace Go.W
open Go Go.Sx
instance isDigDec (c : UInt8) : Decidable (isDig c) := by unfold isDig; infer_instance
instance numOkDec (t : List UInt8) : Decidable (numOk t) := by unfold numOk; infer_instance
/-- A number of at most B digits, as the specification reads it. -/
def numR (B : Nat) (t : List UInt8) : Int × Bool := if numOk t ∧ t.length ≤ B then ((numV t : Int), true) else (0, false)
theorem numR_itoa {B : Nat} {n : Int} (h : 0 ≤ n) (h1 : n.toNat < 10 ^ B) (hB : 1 ≤ B) : numR B (Lib.itoa n) = (n, true) := by
  obtain ⟨hk, hv⟩ := itoa_ok _ n rfl h
  have hl : (Lib.itoa n).length ≤ B := by rw [itoa_nn h, Lib.decDigits_length]; exact nDig_le B _ h1 hB
  unfold numR
  rw [if_pos ⟨hk, hl⟩, hv]
theorem numR_true {B : Nat} {t : List UInt8} (h : (numR B t).2 = true) : t = Lib.itoa (numR B t).1 ∧ 0 ≤ (numR B t).1 := by
  unfold numR at h ⊢
  split at h
  · rename_i hk
    rw [if_pos hk]
    exact ⟨(itoa_numV _ t rfl hk.1).symm, by simp⟩
  · simp at h
/-- A line of totals. -/
def lineS (l : List UInt8) : Option VP := match splitA 32 [] l with
  | [a, b] => if (numR 13 a).2 = true ∧ (numR 13 b).2 = true then some ⟨(numR 13 a).1, (numR 13 b).1⟩ else none
  | _ => none
theorem lineS_some {l : List UInt8} {x : VP} (h : lineS l = some x) : l = tLn x ∧ 0 ≤ x.a ∧ 0 ≤ x.b := by
  unfold lineS at h
  split at h
  · rename_i a b hs
    split at h
    · rename_i hab
      obtain ⟨ha, ha0⟩ := numR_true hab.1
      obtain ⟨hb, hb0⟩ := numR_true hab.2
      have hj := join_split 32 l []
      rw [hs, join_cons2, Lib.join_one, List.nil_append] at hj
      obtain rfl := Option.some.inj h
      refine ⟨?_, ha0, hb0⟩
      unfold tLn
      rw [← hj]
      rw [← ha, ← hb]
    · cases h
  · cases h
theorem lineS_tLn {x : VP} (ha : 0 ≤ x.a ∧ x.a ≤ 100000) (hb : 0 ≤ x.b ∧ x.b ≤ 1000000000000) : lineS (tLn x) = some x := by
  unfold lineS
  rw [tLn_split ha.1 hb.1]
  simp only [numR_itoa ha.1 (by omega : x.a.toNat < 10 ^ 13) (by decide), numR_itoa hb.1 (by omega : x.b.toNat < 10 ^ 13) (by decide), and_self, if_true]
/-- What the specification reads, line by line. -/
def linesS : List (List UInt8) → Option (List VP)
  | [] => some []
  | l :: r => match lineS l, linesS r with
    | some x, some xs => some (x :: xs)
    | _, _ => none
theorem linesS_some : ∀ {ls : List (List UInt8)} {xs : List VP}, linesS ls = some xs → ls = xs.map tLn
  | [], xs, h => by obtain rfl := Option.some.inj h; rfl
  | l :: r, xs, h => by
    unfold linesS at h
    split at h
    · rename_i x ys h1 h2
      obtain rfl := Option.some.inj h
      rw [(lineS_some h1).1, linesS_some h2]; rfl
    · cases h
theorem linesS_map : ∀ {xs : List VP}, (∀ x ∈ xs, (0 ≤ x.a ∧ x.a ≤ 100000) ∧ 0 ≤ x.b ∧ x.b ≤ 1000000000000) → linesS (xs.map tLn) = some xs
  | [], _ => rfl
  | x :: r, h => by
    have h1 := lineS_tLn (h x (by simp)).1 (h x (by simp)).2
    have h2 := linesS_map (xs := r) fun y hy => h y (List.mem_cons_of_mem _ hy)
    rw [List.map_cons, linesS, h1, h2]
theorem partsF_map (l : List VP) : partsF (fun i => tLn (l.getD i zP)) l.length = l.map tLn := by
  unfold partsF
  apply List.ext_getElem
  · simp
  · intro i h1 h2
    simp at h1
    simp [List.getD, h1]
/-- The list that a text tells, if it tells one. -/
def totRd (t : List UInt8) : Option (List VP) := match (splitA 10 [] t).reverse with
  | [] :: r => match linesS r.reverse with
    | some xs => if validTot xs = true then some xs else none
    | none => none
  | _ => none
theorem totRd_some {t : List UInt8} {l : List VP} (h : totRd t = some l) : validTot l = true ∧ t = tText l l.length := by
  unfold totRd at h
  split at h
  · rename_i r hr
    split at h
    · rename_i xs hx
      split at h
      · rename_i hv
        obtain rfl := Option.some.inj h
        refine ⟨hv, ?_⟩
        have h1 := linesS_some hx
        have h2 : splitA 10 [] t = r.reverse ++ [[]] := by
          have := congrArg List.reverse hr
          simpa using this
        have hj := join_split 10 t []
        rw [h2, h1, ← partsF_map, ← tText_join, List.nil_append] at hj
        exact hj.symm
      · cases h
    · cases h
  · cases h
theorem totRd_text {l : List VP} (h : validTot l = true) : totRd (tText l l.length) = some l := by
  have hT := tot h
  unfold totRd
  rw [tText_lines hT, partsF_map, List.reverse_append]
  simp only [List.reverse_cons, List.reverse_nil, List.nil_append, List.singleton_append]
  have hl : linesS (l.map tLn) = some l := linesS_map fun x hx => by
    obtain ⟨i, hi, rfl⟩ := List.getElem_of_mem hx
    have h1 := hT.day i hi
    have h2 := hT.cnt i hi
    simp only [List.getD, List.getElem?_eq_getElem hi, Option.getD_some] at h1 h2
    exact ⟨h1, h2⟩
  simp only [List.reverse_reverse, hl, h, if_true]
end Go.W

/- The text of totals, as the program reads it. -/
set_option linter.unusedVariables false
set_option linter.unusedSimpArgs false
namespace Go.W
open Go Go.Sx
theorem itoa_inj {a b : Int} (ha : -9223372036854775808 ≤ a ∧ a ≤ 9223372036854775807) (hb : -9223372036854775808 ≤ b ∧ b ≤ 9223372036854775807) (h : Lib.itoa a = Lib.itoa b) : a = b := by
  have h1 := parse_itoa ha
  have h2 := parse_itoa hb
  rw [h, h2] at h1
  injection h1 with h1
  exact h1.symm
theorem cut_tLn {x : VP} (ha : 0 ≤ x.a) (hb : 0 ≤ x.b) : (Lib.cut (tLn x) [32]).1 = Lib.itoa x.a ∧ (Lib.cut (tLn x) [32]).2.1 = Lib.itoa x.b := by
  have h := cut_more (tLn_split ha hb)
  rw [Lib.join_one] at h
  exact h
/-- The lines that a text has where it tells a list. -/
theorem rd_lines {t : List UInt8} {l : List VP} (h : totRd t = some l) : Tot l ∧ splitA 10 [] t = l.map tLn ++ [[]] := by
  obtain ⟨hv, ht⟩ := totRd_some h
  have hT := tot hv
  refine ⟨hT, ?_⟩
  rw [ht, tText_lines hT, partsF_map]
theorem rd_len {t : List UInt8} {l : List VP} (h : totRd t = some l) : (splitA 10 [] t).length = l.length + 1 := by
  rw [(rd_lines h).2]; simp
theorem rd_line {t : List UInt8} {l : List VP} (h : totRd t = some l) {i : Nat} (hi : i < l.length) : (splitA 10 [] t).getD i [] = tLn (l.getD i zP) := by
  rw [(rd_lines h).2]
  simp [List.getD, List.getElem?_append, hi]
theorem rd_last {t : List UInt8} {l : List VP} (h : totRd t = some l) : (splitA 10 [] t).getD l.length [] = [] := by
  rw [(rd_lines h).2]
  simp [List.getD, List.getElem?_append]
theorem rd_cut {t : List UInt8} {l : List VP} (h : totRd t = some l) {i : Nat} (hi : i < l.length) : (Lib.cut ((splitA 10 [] t).getD i []) [32]).1 = Lib.itoa (l.getD i zP).a ∧ (Lib.cut ((splitA 10 [] t).getD i []) [32]).2.1 = Lib.itoa (l.getD i zP).b := by
  rw [rd_line h hi]
  have hT := (rd_lines h).1
  exact cut_tLn (hT.day i hi).1 (hT.cnt i hi).1
def I64' (n : Int) : Prop := -9223372036854775808 ≤ n ∧ n ≤ 9223372036854775807
/-- A list of numbers that stand in the lines of a text. -/
def CutsOf (t : List UInt8) (l : List VP) : Prop := ∀ i, i < l.length → (I64' (l.getD i zP).a ∧ I64' (l.getD i zP).b) ∧ (Lib.cut ((splitA 10 [] t).getD i []) [32]).1 = Lib.itoa (l.getD i zP).a ∧ (Lib.cut ((splitA 10 [] t).getD i []) [32]).2.1 = Lib.itoa (l.getD i zP).b
theorem CutsOf.snoc {t : List UInt8} {l : List VP} {x : VP} (h : CutsOf t l) (hx : I64' x.a ∧ I64' x.b) (h1 : (Lib.cut ((splitA 10 [] t).getD l.length []) [32]).1 = Lib.itoa x.a) (h2 : (Lib.cut ((splitA 10 [] t).getD l.length []) [32]).2.1 = Lib.itoa x.b) : CutsOf t (l ++ [x]) := fun i hi => by
  rw [List.length_append, List.length_singleton] at hi
  by_cases he : i < l.length
  · have := h i he
    simpa [List.getD, List.getElem?_append, he] using this
  · obtain rfl : i = l.length := by omega
    have e : (l ++ [x]).getD l.length zP = x := by simp [List.getD, List.getElem?_append]
    rw [e]
    exact ⟨hx, h1, h2⟩
/-- Where all lines are numbers, the text tells their list or none. -/
theorem rd_same {t : List UInt8} {l l' : List VP} (hc : CutsOf t l) (hl : (splitA 10 [] t).length = l.length + 1) (h : totRd t = some l') : l = l' := by
  have h1 := rd_len h
  have hT := (rd_lines h).1
  have hll : l.length = l'.length := by omega
  apply List.ext_getElem hll
  intro i h2 h3
  have hx := hc i h2
  have hy := rd_cut h h3
  have d1 := hT.day i h3
  have d2 := hT.cnt i h3
  have ea := itoa_inj hx.1.1 (by omega) (hx.2.1.symm.trans hy.1)
  have eb := itoa_inj hx.1.2 (by omega) (hx.2.2.symm.trans hy.2)
  simp only [List.getD, List.getElem?_eq_getElem h2, List.getElem?_eq_getElem h3, Option.getD_some] at ea eb
  cases hl1 : l[i]
  cases hl2 : l'[i]
  rw [hl1, hl2] at ea eb
  simp only at ea eb
  rw [ea, eb]
theorem rd_ok {t : List UInt8} {l : List VP} (hv : validTot l = true) (ht : totTx l = t) : totRd t = some l := by
  rw [← ht, totTx_t hv]
  exact totRd_text hv
theorem rd_no {t : List UInt8} {l : List VP} (hc : CutsOf t l) (hl : (splitA 10 [] t).length = l.length + 1) (h : ¬ (validTot l = true ∧ totTx l = t)) : totRd t = none := by
  cases hr : totRd t with
  | none => rfl
  | some l' =>
    obtain rfl := rd_same hc hl hr
    obtain ⟨hv, ht⟩ := totRd_some hr
    exact absurd ⟨hv, by rw [totTx_t hv]; exact ht.symm⟩ h
theorem rd_bad {t : List UInt8} {k : Nat} (hk : k + 1 < (splitA 10 [] t).length) (h : ¬ ∃ a b : Int, (I64' a ∧ I64' b) ∧ (Lib.cut ((splitA 10 [] t).getD k []) [32]).1 = Lib.itoa a ∧ (Lib.cut ((splitA 10 [] t).getD k []) [32]).2.1 = Lib.itoa b) : totRd t = none := by
  cases hr : totRd t with
  | none => rfl
  | some l' =>
    exfalso
    have h1 := rd_len hr
    have hT := (rd_lines hr).1
    have hk' : k < l'.length := by omega
    have d1 := hT.day k hk'
    have d2 := hT.cnt k hk'
    exact h ⟨_, _, ⟨⟨by omega, by omega⟩, by omega, by omega⟩, rd_cut hr hk'⟩
theorem rd_60 {t : List UInt8} (h : 61 < (splitA 10 [] t).length) : totRd t = none := by
  cases hr : totRd t with
  | none => rfl
  | some l' =>
    exfalso
    have h1 := rd_len hr
    have h2 := (rd_lines hr).1.len
    omega
theorem rd_open {t : List UInt8} {n : Nat} (hn : (splitA 10 [] t).length = n + 1) (h : (splitA 10 [] t).getD n [] ≠ []) : totRd t = none := by
  cases hr : totRd t with
  | none => rfl
  | some l' =>
    exfalso
    have h1 := rd_len hr
    obtain rfl : n = l'.length := by omega
    exact h (rd_last hr)
end Go.W

/- What the loops of the readers carry on: pieces of a text, numbers, lines. -/
set_option linter.unusedVariables false
set_option linter.unusedSimpArgs false
namespace Go.W
open Go Go.Sx
/-- A text cut so far: the place, where the piece begins, the pieces, the row's room. -/
structure SpS where
  i : Nat
  b : Nat
  out : List (List UInt8)
  A : Option Addr
  c : Nat
theorem drop_getD {t : List UInt8} {i : Nat} (h : i < t.length) : t.drop i = t.getD i 0 :: t.drop (i + 1) := by
  rw [List.drop_eq_getElem_cons h]
  congr 1
  simp [List.getD, h]
theorem sp_y {c : UInt8} {t : List UInt8} {i b : Nat} {out : List (List UInt8)} (hi : i < t.length) (h : t.getD i 0 = c) (H : splitA c [] t = out ++ splitA c ((t.drop b).take (i - b)) (t.drop i)) : splitA c [] t = (out ++ [(t.drop b).take (i - b)]) ++ splitA c ((t.drop (i + 1)).take (i + 1 - (i + 1))) (t.drop (i + 1)) := by
  rw [H, drop_getD hi, splitA_y h, Nat.sub_self, List.take_zero, List.append_assoc]
  rfl
theorem take_snoc {t : List UInt8} {i b : Nat} (hb : b ≤ i) (hi : i < t.length) : (t.drop b).take (i + 1 - b) = (t.drop b).take (i - b) ++ [t.getD i 0] := by
  rw [show i + 1 - b = (i - b) + 1 by omega, List.take_succ_eq_append_getElem (by rw [List.length_drop]; omega)]
  congr 2
  simp [List.getD, hi, show b + (i - b) = i by omega]
theorem sp_n {c : UInt8} {t : List UInt8} {i b : Nat} {out : List (List UInt8)} (hb : b ≤ i) (hi : i < t.length) (h : ¬ t.getD i 0 = c) (H : splitA c [] t = out ++ splitA c ((t.drop b).take (i - b)) (t.drop i)) : splitA c [] t = out ++ splitA c ((t.drop b).take (i + 1 - b)) (t.drop (i + 1)) := by
  rw [H, drop_getD hi, splitA_n h, take_snoc hb hi]
theorem sp_end {c : UInt8} {t : List UInt8} {i b : Nat} {out : List (List UInt8)} (hb : b ≤ i) (hi : i = t.length) (H : splitA c [] t = out ++ splitA c ((t.drop b).take (i - b)) (t.drop i)) : splitA c [] t = out ++ [t.drop b] := by
  subst hi
  rw [H, List.drop_length, splitA_nil, List.take_of_length_le (by rw [List.length_drop]; omega)]
theorem splitA_len (c : UInt8) : ∀ (t acc : List UInt8), (splitA c acc t).length ≤ t.length + 1
  | [], acc => by simp [splitA]
  | x :: r, acc => by
    unfold splitA
    split
    · have := splitA_len c r []
      simp only [List.length_cons]; omega
    · have := splitA_len c r (acc ++ [x])
      simp only [List.length_cons]; omega
theorem splitA_pos (c : UInt8) (t : List UInt8) : 1 ≤ (splitA c [] t).length := by
  cases h : splitA c [] t with
  | nil => exact absurd h (splitA_ne c t [])
  | cons a r => simp
theorem piece_mem (c : UInt8) : ∀ (t acc p : List UInt8), p ∈ splitA c acc t → p.length ≤ acc.length + t.length
  | [], acc, p, h => by rw [splitA_nil, List.mem_singleton] at h; subst h; simp
  | x :: r, acc, p, h => by
    unfold splitA at h
    split at h
    · rw [List.mem_cons] at h
      rcases h with rfl | h
      · omega
      · have := piece_mem c r [] p h
        simp only [List.length_nil, List.length_cons] at *; omega
    · have := piece_mem c r _ p h
      simp only [List.length_append, List.length_cons, List.length_nil] at *; omega
theorem getD_memT {s : List (List UInt8)} {i : Nat} (h : i < s.length) : s.getD i [] ∈ s := by
  rw [List.getD, List.getElem?_eq_getElem h]
  exact List.getElem_mem h
/-- A piece is no longer than the text. -/
theorem piece_le (c : UInt8) (t : List UInt8) (i : Nat) : ((splitA c [] t).getD i []).length ≤ t.length := by
  by_cases h : i < (splitA c [] t).length
  · have := piece_mem c t [] _ (getD_memT (s := splitA c [] t) h)
    simp only [List.length_nil] at this
    omega
  · simp [List.getD, List.getElem?_eq_none (by omega : (splitA c [] t).length ≤ i)]
theorem cut_le (s : List UInt8) (c : UInt8) : (Lib.cut s [c]).1.length ≤ s.length ∧ (Lib.cut s [c]).2.1.length ≤ s.length := by
  unfold Lib.cut
  split
  · simp only [List.length_take, List.length_drop]; omega
  · simp
/-! ### A number, byte by byte -/
theorem numV_lt : ∀ (k : Nat) (t : List UInt8), t.length = k → (∀ c ∈ t, isDig c) → numV t < 10 ^ k
  | 0, t, hk, _ => by obtain rfl := List.eq_nil_of_length_eq_zero hk; decide
  | k + 1, t, hk, h => by
    have hne : t ≠ [] := fun e => by subst e; simp at hk
    obtain ⟨u, c, rfl⟩ : ∃ u c, t = u ++ [c] := ⟨t.dropLast, t.getLast hne, (List.dropLast_concat_getLast hne).symm⟩
    have hc : isDig c := h c (by simp)
    have hul : u.length = k := by simpa using hk
    have ih := numV_lt k u hul (fun x hx => h x (List.mem_append_left _ hx))
    unfold isDig at hc
    rw [numV_snoc, Nat.pow_succ]
    omega
theorem digs_take {t : List UInt8} {k : Nat} (h : ∀ j, j < k → isDig (t.getD j 0)) (hk : k ≤ t.length) : ∀ c ∈ t.take k, isDig c := fun c hc => by
  obtain ⟨j, hj, rfl⟩ := List.getElem_of_mem hc
  have hj' : j < k := by rw [List.length_take] at hj; omega
  have := h j hj'
  simpa [List.getD, show j < t.length by omega] using this
theorem numT_le {t : List UInt8} {k : Nat} (h : ∀ j, j < k → isDig (t.getD j 0)) (hk : k ≤ t.length) (h12 : k ≤ 12) : numV (t.take k) ≤ 1000000000000 := by
  have h1 := numV_lt k (t.take k) (by rw [List.length_take]; omega) (digs_take h hk)
  have h2 : 10 ^ k ≤ 10 ^ 12 := Nat.pow_le_pow_right (by decide) h12
  have h3 : (10 : Nat) ^ 12 = 1000000000000 := by decide
  omega
theorem numT_s {t : List UInt8} {k : Nat} (hk : k < t.length) : numV (t.take (k + 1)) = 10 * numV (t.take k) + ((t.getD k 0).toNat - 48) := by
  rw [List.take_succ_eq_append_getElem hk, numV_snoc]
  simp [List.getD, hk]
theorem isDig_of {c : UInt8} (h : ¬ ((c.toNat : Int) < 48)) (h1 : ¬ ((c.toNat : Int) > 57)) : isDig c := ⟨by omega, by omega⟩
theorem numR_bad {B : Nat} {t : List UInt8} (h : t = [] ∨ B < t.length ∨ (t.getD 0 0 = 48 ∧ 1 < t.length) ∨ ∃ k, k < t.length ∧ ¬ isDig (t.getD k 0)) : numR B t = (0, false) := by
  unfold numR
  refine if_neg fun hk => ?_
  rcases h with h | h | ⟨h, h1⟩ | ⟨k, h, h1⟩
  · exact hk.1.1 h
  · omega
  · rcases hk.1.2.2 with h2 | h2
    · omega
    · exact h2 h
  · exact h1 (hk.1.2.1 _ (by simp [List.getD, h]))
theorem numR_ok {B : Nat} {t : List UInt8} (h : ¬ t = []) (hB : ¬ (B : Int) < t.length) (h0 : ¬ (t.getD 0 0 = 48 ∧ 1 < t.length)) (hd : ∀ j, j < t.length → isDig (t.getD j 0)) : numR B t = ((numV (t.take t.length) : Int), true) := by
  unfold numR
  rw [List.take_length]
  refine if_pos ⟨⟨h, ?_, ?_⟩, by omega⟩
  · have := digs_take hd (Nat.le_refl _)
    rwa [List.take_length] at this
  · have : t.length ≠ 0 := fun e => h (List.eq_nil_of_length_eq_zero e)
    by_cases h1 : t.length = 1
    · exact .inl h1
    · exact .inr fun e => h0 ⟨e, by omega⟩
theorem numR_bd (B : Nat) (t : List UInt8) (hB : B ≤ 13) : 0 ≤ (numR B t).1 ∧ (numR B t).1 ≤ 10000000000000 := by
  unfold numR
  split
  · rename_i h
    have h1 := numV_lt _ t rfl h.1.2.1
    have h2 : 10 ^ t.length ≤ 10 ^ 13 := Nat.pow_le_pow_right (by decide) (by omega)
    have h3 : (10 : Nat) ^ 13 = 10000000000000 := by decide
    simp only
    omega
  · simp
theorem u8_48 {c : UInt8} (h : (c.toNat : Int) = 48) : c = 48 := UInt8.toNat_inj.1 (by show c.toNat = 48; omega)
theorem u8_48n {c : UInt8} (h : ¬ (c.toNat : Int) = 48) : ¬ c = 48 := fun e => h (by rw [e]; rfl)
theorem u8_c {c d : UInt8} {b : Int} (hb : b = (d.toNat : Int)) (h : (c.toNat : Int) = b) : c = d := UInt8.toNat_inj.1 (by omega)
theorem u8_cn {c d : UInt8} {b : Int} (hb : b = (d.toNat : Int)) (h : ¬ (c.toNat : Int) = b) : ¬ c = d := fun e => h (by rw [e, hb])
/-! ### What is read -/
/-- A list that is read, a code, the row's room. -/
structure RdS (α : Type) where
  l : List α
  code : Int
  A : Option Addr
  cap : Nat
/-- The rounds of a reader of lines: the list so far, whether all is well. -/
structure TtS (α : Type) where
  k : Nat
  l : List α
  ok : Bool
  A : Option Addr
  cap : Nat
def TotRd (t : List UInt8) (x : RdS VP) : Prop := (x.code = 0 ∧ totRd t = some x.l) ∨ (x.code = 5 ∧ x.l = [] ∧ totRd t = none)
theorem tot_one {t : List UInt8} {x y : RdS VP} (hx : TotRd t x) (hy : TotRd t y) : x.l = y.l ∧ x.code = y.code := by
  rcases hx with ⟨a1, a2⟩ | ⟨a1, a2, a3⟩ <;> rcases hy with ⟨b1, b2⟩ | ⟨b1, b2, b3⟩
  · rw [a2] at b2; exact ⟨Option.some.inj b2, a1.trans b1.symm⟩
  · rw [a2] at b3; cases b3
  · rw [a3] at b2; cases b2
  · exact ⟨a2.trans b2.symm, a1.trans b1.symm⟩
theorem tot_len {t : List UInt8} {x : RdS VP} (h : TotRd t x) : x.l.length ≤ 60 := by
  rcases h with ⟨_, h⟩ | ⟨_, h, _⟩
  · exact (rd_lines h).1.len
  · rw [h]; simp
def LinesTo (t : List UInt8) (l : List VP) (k : Nat) : Prop := l.length = k ∧ ∀ j, j < k → lineS ((splitA 10 [] t).getD j []) = some (l.getD j zP)
theorem LinesTo.nil (t : List UInt8) : LinesTo t [] 0 := ⟨rfl, fun j hj => by omega⟩
theorem LinesTo.snoc {t : List UInt8} {l : List VP} {k : Nat} {x : VP} (h : LinesTo t l k) (hx : lineS ((splitA 10 [] t).getD k []) = some x) : LinesTo t (l ++ [x]) (k + 1) := by
  obtain ⟨rfl, h⟩ := h
  refine ⟨by simp, fun j hj => ?_⟩
  by_cases he : j < l.length
  · have := h j he
    simpa [List.getD, List.getElem?_append, he] using this
  · obtain rfl : j = l.length := by omega
    have e : (l ++ [x]).getD l.length zP = x := by simp [List.getD, List.getElem?_append]
    rw [e]; exact hx
theorem linesS_all : ∀ {ls : List (List UInt8)} {xs : List VP}, ls.length = xs.length → (∀ j, j < xs.length → lineS (ls.getD j []) = some (xs.getD j zP)) → linesS ls = some xs
  | [], [], _, _ => rfl
  | [], _ :: _, h, _ => by simp at h
  | _ :: _, [], h, _ => by simp at h
  | l :: r, x :: xs, h, h1 => by
    have h2 := h1 0 (by simp)
    have h3 := linesS_all (ls := r) (xs := xs) (by simpa using h) (fun j hj => by
      have := h1 (j + 1) (by simpa using hj)
      simpa using this)
    simp only [List.getD_cons_zero] at h2
    unfold linesS
    rw [h2, h3]
theorem linesS_get : ∀ {ls : List (List UInt8)} {xs : List VP}, linesS ls = some xs → ∀ j, j < ls.length → lineS (ls.getD j []) ≠ none
  | [], _, _, j, hj => by simp at hj
  | l :: r, xs, h, j, hj => by
    unfold linesS at h
    split at h
    · rename_i x ys h1 h2
      rcases j with _ | j
      · simp [h1]
      · have := linesS_get h2 j (by simpa using hj)
        simpa using this
    · cases h
theorem tr_form {t : List UInt8} {n : Nat} (hn : (splitA 10 [] t).length = n + 1) (h0 : (splitA 10 [] t).getD n [] = []) : totRd t = match linesS ((splitA 10 [] t).take n) with
    | some xs => if validTot xs = true then some xs else none
    | none => none := by
  have e : splitA 10 [] t = (splitA 10 [] t).take n ++ [[]] := by
    have h1 : (splitA 10 [] t).take (n + 1) = splitA 10 [] t := List.take_of_length_le (by omega)
    rw [List.take_succ_eq_append_getElem (by omega)] at h1
    have h2 : (splitA 10 [] t)[n] = [] := by
      have := h0
      simpa [List.getD, show n < (splitA 10 [] t).length by omega] using this
    rw [h2] at h1
    exact h1.symm
  unfold totRd
  have e2 : (splitA 10 [] t).reverse = [] :: ((splitA 10 [] t).take n).reverse := by
    have := congrArg List.reverse e
    rw [List.reverse_append] at this
    simpa using this
  rw [e2]
  simp only [List.reverse_reverse]
  try rfl
theorem tr_yes {t : List UInt8} {l : List VP} {n : Nat} (hn : (splitA 10 [] t).length = n + 1) (h0 : (splitA 10 [] t).getD n [] = []) (h : LinesTo t l n) : totRd t = if validTot l = true then some l else none := by
  have e := tr_form hn h0
  rw [linesS_all (xs := l) (by rw [List.length_take, h.1]; omega) (fun j hj => by
    have := h.2 j (by rw [← h.1]; exact hj)
    have hjn : j < n := by rw [← h.1]; exact hj
    rw [← this]
    simp [List.getD, List.getElem?_take, hjn])] at e
  exact e
theorem tr_line {t : List UInt8} {j : Nat} (hj : j + 1 < (splitA 10 [] t).length) (h : lineS ((splitA 10 [] t).getD j []) = none) : totRd t = none := by
  obtain ⟨n, hn⟩ : ∃ n, (splitA 10 [] t).length = n + 1 := ⟨(splitA 10 [] t).length - 1, by omega⟩
  by_cases h0 : (splitA 10 [] t).getD n [] = []
  · rw [tr_form hn h0]
    cases hl : linesS ((splitA 10 [] t).take n) with
    | none => rfl
    | some xs =>
      exfalso
      have := linesS_get hl j (by rw [List.length_take]; omega)
      apply this
      rw [← h]
      simp [List.getD, List.getElem?_take, show j < n by omega]
  · exact rd_open hn h0
theorem line_2 {s : List UInt8} (h : (splitA 32 [] s).length ≠ 2) : lineS s = none := by
  unfold lineS
  split
  · rename_i a b e
    rw [e] at h
    simp at h
  · rfl
theorem line_y {s : List UInt8} (h : (splitA 32 [] s).length = 2) : lineS s = if (numR 13 ((splitA 32 [] s).getD 0 [])).2 = true ∧ (numR 13 ((splitA 32 [] s).getD 1 [])).2 = true then some ⟨(numR 13 ((splitA 32 [] s).getD 0 [])).1, (numR 13 ((splitA 32 [] s).getD 1 [])).1⟩ else none := by
  unfold lineS
  rcases hs : splitA 32 [] s with _ | ⟨a, _ | ⟨b, _ | ⟨c, r⟩⟩⟩
  · rw [hs] at h; simp at h
  · rw [hs] at h; simp at h
  · rfl
  · rw [hs] at h; simp at h
end Go.W
namespace Go.W
open Go Go.Sx
/-! ### Numbers, as the program reads them -/
/-- What ParseInt makes of a text. -/
def PInt (t : List UInt8) (n : Int) (b : Bool) : Prop := I64' n ∧ (b = true → Lib.parseIntB 64 t = .ok n) ∧ (∀ z, Lib.parseIntB 64 t = .ok z → b = true ∧ n = z) ∧ (t = [] → n = 0)
/-- A number that is read iff the text is its own. -/
def RDec (t : List UInt8) (x : Int × Bool) : Prop := I64' x.1 ∧ (x.2 = true → t = Lib.itoa x.1) ∧ (∀ z, I64' z → t = Lib.itoa z → x.2 = true ∧ x.1 = z) ∧ (t = [] → x.1 = 0)
theorem rdec_t {t : List UInt8} {n : Int} {b : Bool} (h : PInt t n b) (hb : b = true) : RDec t (n, decide (Lib.itoa n = t)) := by
  obtain ⟨h1, h2, h3, h4⟩ := h
  refine ⟨h1, fun h => (of_decide_eq_true h).symm, fun z hz e => ?_, h4⟩
  subst e
  obtain ⟨_, e2⟩ := h3 z (parse_itoa hz)
  exact ⟨decide_eq_true (by rw [e2]), e2⟩
theorem rdec_f {t : List UInt8} {n : Int} {b : Bool} (h : PInt t n b) (hb : b = false) : RDec t (n, false) := by
  obtain ⟨h1, h2, h3, h4⟩ := h
  refine ⟨h1, ?_, fun z hz e => ?_, h4⟩
  · intro h; exact absurd h (by simp)
  subst e
  have := (h3 z (parse_itoa hz)).1
  rw [hb] at this
  cases this
theorem parse_bd {t : List UInt8} {v : Int} (h : Lib.parseIntB 64 t = .ok v) : I64' v := by
  unfold I64'
  cases t with
  | nil => cases h
  | cons c r =>
    unfold Lib.parseIntB at h
    simp only at h
    split at h
    · cases h
    · cases h
    · rename_i u hu
      split at h
      · cases h
      · rename_i h1
        split at h
        · cases h
        · rename_i h2
          injection h with h
          subst h
          by_cases h3 : c.toNat = 45
          · simp [h3] at h1 h2 ⊢; omega
          · simp [h3] at h1 h2 ⊢; omega
theorem sat_bd (t : List UInt8) : I64' (Lib.intSat 64 t) := by
  unfold Lib.intSat I64'
  split <;> simp
theorem pint_ok {t : List UInt8} {v : Int} (h : Lib.parseIntB 64 t = .ok v) : PInt t v true := ⟨parse_bd h, fun _ => h, fun z hz => ⟨rfl, by rw [h] at hz; injection hz⟩, fun e => by subst e; cases h⟩
theorem pint_syn {t : List UInt8} (h : ∀ z, Lib.parseIntB 64 t ≠ .ok z) : PInt t 0 false := by
  refine ⟨⟨by decide, by decide⟩, ?_, fun z hz => ?_, fun _ => rfl⟩
  · intro e; exact absurd e (by simp)
  · exact absurd hz (h z)
theorem pint_rng {t : List UInt8} (h : Lib.parseIntB 64 t = .range) : PInt t (Lib.intSat 64 t) false := by
  refine ⟨sat_bd t, ?_, fun z hz => ?_, fun e => by subst e; cases h⟩
  · intro e; exact absurd e (by simp)
  · rw [h] at hz; cases hz
/-- A line whose numbers are not both numbers' own texts. -/
theorem rd_line_no {t : List UInt8} {k : Nat} {x y : Int × Bool} (hk : k + 1 < (splitA 10 [] t).length) (hx : RDec (Lib.cut ((splitA 10 [] t).getD k []) [32]).1 x) (hy : RDec (Lib.cut ((splitA 10 [] t).getD k []) [32]).2.1 y) (h : x.2 = false ∨ y.2 = false) : totRd t = none := by
  refine rd_bad hk ?_
  rintro ⟨a, b, ⟨ha, hb⟩, h1, h2⟩
  have e1 := (hx.2.2.1 a ha h1).1
  have e2 := (hy.2.2.1 b hb h2).1
  rcases h with h | h
  · rw [h] at e1; cases e1
  · rw [h] at e2; cases e2
end Go.W

/-
  DERIVED: THE SHELF's CONTRACTS AT THIS DUMP, IN PLAIN WORDS (tools/lay-plain.mjs out of 'TryzShelf.lean', which tools/lay-shelf.mjs wrote): THE SAME DECLARATIONS UNDER THE SAME NAMES: 'import', 'namespace', 'open', 'def', 'theorem' AND NOTHING ELSE: no command of the shelf's: FOR A HAND-IN. Each laying: the table of numbers ('.._ren') and one theorem, a field a fact of the dump's own or the kernel's comparison; each contract: ONE APPLICATION.
-/
namespace Go.Proofs
open Go.Shelf
def Tryz.lays156_ren : Go.Shelf.Ren := ⟨fun | 156 => 73 | 165 => 90 | 166 => 57 | 169 => 59 | 240 => 77 | 241 => 107 | 276 => 95 | 277 => 119 | n => n, fun | 31 => 42 | 9 => 9 | 3 => 3 | 4 => 4 | 0 => 0 | 20 => 20 | 72 => 92 | 76 => 93 | 70 => 90 | 37 => 22 | 75 => 76 | 127 => 107 | 164 => 122 | 5 => 5 | 80 => 96 | n => n, fun | n => n⟩
theorem Tryz.lays156 : Go.Proofs.Lays.n156 Tryz.prog Tryz.lays156_ren := {
  mixed := by kernel_rfl
  f156 := Tryz.func73.trans (congrArg some (by kernel_rfl))
  f165 := Tryz.func90.trans (congrArg some (by kernel_rfl))
  f166 := Tryz.func57.trans (congrArg some (by kernel_rfl))
  f169 := Tryz.func59.trans (congrArg some (by kernel_rfl))
  f240 := Tryz.func77.trans (congrArg some (by kernel_rfl))
  f241 := Tryz.func107.trans (congrArg some (by kernel_rfl))
  f276 := Tryz.func95.trans (congrArg some (by kernel_rfl))
  f277 := Tryz.func119.trans (congrArg some (by kernel_rfl))
  t0 := Tryz.underlying0
  a0 := Tryz.isAgg0
  z0 := Tryz.sizeOf0
  v0 := Tryz.zeroValue0
  t3 := Tryz.underlying3
  a3 := Tryz.isAgg3
  z3 := Tryz.sizeOf3
  v3 := Tryz.zeroValue3
  t4 := Tryz.underlying4
  a4 := Tryz.isAgg4
  z4 := Tryz.sizeOf4
  v4 := Tryz.zeroValue4
  t9 := Tryz.underlying9
  a9 := Tryz.isAgg9
  z9 := Tryz.sizeOf9
  v9 := Tryz.zeroValue9
  t20 := Tryz.underlying20
  a20 := Tryz.isAgg20
  z20 := Tryz.sizeOf20
  v20 := Tryz.zeroValue20
  t31 := Tryz.underlying42
  a31 := Tryz.isAgg42
  z31 := Tryz.sizeOf42
  v31 := Tryz.zeroValue42
  t37 := Tryz.underlying22
  a37 := Tryz.isAgg22
  z37 := Tryz.sizeOf22
  v37 := Tryz.zeroValue22
  t70 := Tryz.underlying90
  a70 := Tryz.isAgg90
  z70 := Tryz.sizeOf90
  v70 := Tryz.zeroValue90
  t72 := Tryz.underlying92
  a72 := Tryz.isAgg92
  z72 := Tryz.sizeOf92
  v72 := Tryz.zeroValue92
  t75 := Tryz.underlying76
  a75 := Tryz.isAgg76
  z75 := Tryz.sizeOf76
  v75 := Tryz.zeroValue76
  t76 := Tryz.underlying93
  a76 := Tryz.isAgg93
  z76 := Tryz.sizeOf93
  v76 := Tryz.zeroValue93
  t127 := Tryz.underlying107
  a127 := Tryz.isAgg107
  z127 := Tryz.sizeOf107
  v127 := Tryz.zeroValue107
  t164 := Tryz.underlying122
  a164 := Tryz.isAgg122
  z164 := Tryz.sizeOf122
  v164 := Tryz.zeroValue122 }
theorem Tryz.Builder_Extra_156 : Builder.Extra Tryz.prog Tryz.lays156_ren := {
  sizeBuilder := by kernel_rfl
  liesBuilder := by kernel_rfl
  t5 := Tryz.underlying5
  a5 := Tryz.isAgg5
  z5 := Tryz.sizeOf5
  v5 := Tryz.zeroValue5
  infoByte := by kernel_rfl
  cellsByte := by kernel_rfl
  sizeByte := by kernel_rfl
  neB5 := by decide }
open Go.RowKit in
/-- No element: the empty string; the world is as it was. (Whatever the slice's address and capacity: a nil slice too.) (LAID: no walk: one application.) -/
theorem Tryz.strings_Join_none (a : Option Addr) (c : Nat) (sep : ByteArray) (w : World) :
    Calls Tryz.prog 73 #[.slice a 0 c, .string sep] w fun e w' => e = .returned (.string ⟨#[]⟩) ∧ w' = w := Any.strings_Join_none Tryz.lays156 Tryz.Builder_Extra_156 a c sep w
open Go.RowKit in
/-- strings.Join: "Join concatenates the elements of its first argument to create a single string. The separator string sep is placed between elements in the resulting string.": HOWEVER MANY ELEMENTS. Below the heap's end the world is as it was. (LAID: no walk: one application.) -/
theorem Tryz.strings_Join (bk o c : Nat) (xs : List ByteArray) (sep : ByteArray) (w : World) (hcells : ∀ (j : Nat) x, xs[j]? = some x → w.cell? ⟨bk, o + j, none⟩ = some (.string x)) (hbk : bk < w.heap.size) (hN : xs.length ≤ 140737488355328) (hcap : xs.length ≤ c) (hlen : (Lib.join (xs.map (·.data.toList)) sep.data.toList).length ≤ 140737488355328) :
    Calls Tryz.prog 73 #[.slice (some ⟨bk, o, none⟩) xs.length c, .string sep] w fun e w' => e = .returned (.string ⟨(Lib.join (xs.map (·.data.toList)) sep.data.toList).toArray⟩) ∧ Below w.heap.size w w' := Any.strings_Join Tryz.lays156 Tryz.Builder_Extra_156 bk o c xs sep w hcells hbk hN hcap hlen
def Tryz.laysM171_ren : Go.Shelf.Ren := ⟨fun | 171 => 99 | 243 => 110 | 246 => 85 | 283 => 100 | 284 => 101 | 285 => 102 | 286 => 103 | 129 => 112 | 317 => 111 | 318 => 113 | 319 => 114 | 320 => 115 | 337 => 120 | 338 => 121 | n => n, fun | 3 => 3 | 9 => 9 | 2 => 2 | 4 => 4 | 171 => 129 | 0 => 0 | 53 => 80 | 37 => 22 | 5 => 5 | 173 => 132 | 212 => 149 | 51 => 138 | 20 => 20 | 213 => 150 | 46 => 98 | 232 => 158 | 233 => 159 | n => n, fun | 17 => 5 | 18 => 6 | 19 => 7 | n => n⟩
theorem Tryz.laysM171 : Go.Proofs.LaysM.n171 Tryz.prog Tryz.laysM171_ren := {
  mixed := by kernel_rfl
  f129 := Tryz.func112.trans (congrArg some (by kernel_rfl))
  f171 := Tryz.func99.trans (congrArg some (by kernel_rfl))
  f243 := Tryz.func110.trans (congrArg some (by kernel_rfl))
  f246 := Tryz.func85.trans (congrArg some (by kernel_rfl))
  f283 := Tryz.func100.trans (congrArg some (by kernel_rfl))
  f284 := Tryz.func101.trans (congrArg some (by kernel_rfl))
  f285 := Tryz.func102.trans (congrArg some (by kernel_rfl))
  f286 := Tryz.func103.trans (congrArg some (by kernel_rfl))
  f317 := Tryz.func111.trans (congrArg some (by kernel_rfl))
  f318 := Tryz.func113.trans (congrArg some (by kernel_rfl))
  f319 := Tryz.func114.trans (congrArg some (by kernel_rfl))
  f320 := Tryz.func115.trans (congrArg some (by kernel_rfl))
  f337 := Tryz.func120.trans (congrArg some (by kernel_rfl))
  f338 := Tryz.func121.trans (congrArg some (by kernel_rfl))
  t0 := Tryz.underlying0
  a0 := Tryz.isAgg0
  z0 := Tryz.sizeOf0
  v0 := Tryz.zeroValue0
  t2 := Tryz.underlying2
  a2 := Tryz.isAgg2
  z2 := Tryz.sizeOf2
  v2 := Tryz.zeroValue2
  t3 := Tryz.underlying3
  a3 := Tryz.isAgg3
  z3 := Tryz.sizeOf3
  v3 := Tryz.zeroValue3
  t4 := Tryz.underlying4
  a4 := Tryz.isAgg4
  z4 := Tryz.sizeOf4
  v4 := Tryz.zeroValue4
  t5 := Tryz.underlying5
  a5 := Tryz.isAgg5
  z5 := Tryz.sizeOf5
  v5 := Tryz.zeroValue5
  t9 := Tryz.underlying9
  a9 := Tryz.isAgg9
  z9 := Tryz.sizeOf9
  v9 := Tryz.zeroValue9
  t20 := Tryz.underlying20
  a20 := Tryz.isAgg20
  z20 := Tryz.sizeOf20
  v20 := Tryz.zeroValue20
  t37 := Tryz.underlying22
  a37 := Tryz.isAgg22
  z37 := Tryz.sizeOf22
  v37 := Tryz.zeroValue22
  t46 := Tryz.underlying98
  a46 := Tryz.isAgg98
  z46 := Tryz.sizeOf98
  v46 := Tryz.zeroValue98
  t51 := Tryz.underlying138
  a51 := Tryz.isAgg138
  z51 := Tryz.sizeOf138
  v51 := Tryz.zeroValue138
  t53 := Tryz.underlying80
  a53 := Tryz.isAgg80
  z53 := Tryz.sizeOf80
  v53 := Tryz.zeroValue80
  t171 := Tryz.underlying129
  a171 := Tryz.isAgg129
  z171 := Tryz.sizeOf129
  v171 := Tryz.zeroValue129
  t173 := Tryz.underlying132
  a173 := Tryz.isAgg132
  z173 := Tryz.sizeOf132
  v173 := Tryz.zeroValue132
  t212 := Tryz.underlying149
  a212 := Tryz.isAgg149
  z212 := Tryz.sizeOf149
  v212 := Tryz.zeroValue149
  t213 := Tryz.underlying150
  a213 := Tryz.isAgg150
  z213 := Tryz.sizeOf150
  t232 := Tryz.underlying158
  a232 := Tryz.isAgg158
  z232 := Tryz.sizeOf158
  v232 := Tryz.zeroValue158
  t233 := Tryz.underlying159
  a233 := Tryz.isAgg159
  z233 := Tryz.sizeOf159
  v233 := Tryz.zeroValue159
  g17 := by kernel_rfl
  g18 := by kernel_rfl
  g19 := by kernel_rfl
  i0 := by kernel_rfl
  i2 := by kernel_rfl
  i3 := by kernel_rfl
  i4 := by kernel_rfl
  i5 := by kernel_rfl
  i9 := by kernel_rfl
  i20 := by kernel_rfl
  i37 := by kernel_rfl
  i46 := by kernel_rfl
  i51 := by kernel_rfl
  i53 := by kernel_rfl
  i171 := by kernel_rfl
  i173 := by kernel_rfl
  i212 := by kernel_rfl
  i232 := by kernel_rfl
  i233 := by kernel_rfl
  m17 := by kernel_rfl
  m18 := by kernel_rfl
  m19 := by kernel_rfl }
open Go.RowKit Go.Sort Go.Lib in
/-- strconv.Itoa: "Itoa is equivalent to FormatInt(int64(i), 10).": i's DECIMAL NUMERAL ('Lib.itoa': a '-' where i is negative, then the digits), FOR EVERY int. The world behind the call: the world before it, new blocks behind the heap (the library's 'var a [24]byte'), draws. (LAID: no walk: one application.) -/
theorem Tryz.strconv_Itoa (n : Int) (h0 : -9223372036854775808 ≤ n) (h1 : n ≤ 9223372036854775807) (w : World) (htab : Lib.TabIs Tryz.prog w "internal/strconv.uint64pow10" .u64 Lib.pow10Tab) :
    Calls Tryz.prog 99 #[.int .i64 n] w fun e w' => e = .returned (.string ⟨(Lib.itoa n).toArray⟩) ∧ ∃ k os, w' = grow (w.drewN k) os := Any.strconv_Itoa Tryz.laysM171 n h0 h1 w htab
def Tryz.laysM173_ren : Go.Shelf.Ren := ⟨fun | 173 => 68 | 246 => 85 | 283 => 100 | 284 => 101 | 285 => 102 | 286 => 103 | 129 => 112 | 317 => 111 | 318 => 113 | 319 => 114 | 320 => 115 | 337 => 120 | 338 => 121 | n => n, fun | 2 => 2 | 3 => 3 | 9 => 9 | 4 => 4 | 171 => 129 | 0 => 0 | 53 => 80 | 37 => 22 | 5 => 5 | 173 => 132 | 212 => 149 | 51 => 138 | 20 => 20 | 213 => 150 | 46 => 98 | 232 => 158 | 233 => 159 | n => n, fun | 17 => 5 | 18 => 6 | 19 => 7 | n => n⟩
theorem Tryz.laysM173 : Go.Proofs.LaysM.n173 Tryz.prog Tryz.laysM173_ren := {
  mixed := by kernel_rfl
  f129 := Tryz.func112.trans (congrArg some (by kernel_rfl))
  f173 := Tryz.func68.trans (congrArg some (by kernel_rfl))
  f246 := Tryz.func85.trans (congrArg some (by kernel_rfl))
  f283 := Tryz.func100.trans (congrArg some (by kernel_rfl))
  f284 := Tryz.func101.trans (congrArg some (by kernel_rfl))
  f285 := Tryz.func102.trans (congrArg some (by kernel_rfl))
  f286 := Tryz.func103.trans (congrArg some (by kernel_rfl))
  f317 := Tryz.func111.trans (congrArg some (by kernel_rfl))
  f318 := Tryz.func113.trans (congrArg some (by kernel_rfl))
  f319 := Tryz.func114.trans (congrArg some (by kernel_rfl))
  f320 := Tryz.func115.trans (congrArg some (by kernel_rfl))
  f337 := Tryz.func120.trans (congrArg some (by kernel_rfl))
  f338 := Tryz.func121.trans (congrArg some (by kernel_rfl))
  t0 := Tryz.underlying0
  a0 := Tryz.isAgg0
  z0 := Tryz.sizeOf0
  v0 := Tryz.zeroValue0
  t2 := Tryz.underlying2
  a2 := Tryz.isAgg2
  z2 := Tryz.sizeOf2
  v2 := Tryz.zeroValue2
  t3 := Tryz.underlying3
  a3 := Tryz.isAgg3
  z3 := Tryz.sizeOf3
  v3 := Tryz.zeroValue3
  t4 := Tryz.underlying4
  a4 := Tryz.isAgg4
  z4 := Tryz.sizeOf4
  v4 := Tryz.zeroValue4
  t5 := Tryz.underlying5
  a5 := Tryz.isAgg5
  z5 := Tryz.sizeOf5
  v5 := Tryz.zeroValue5
  t9 := Tryz.underlying9
  a9 := Tryz.isAgg9
  z9 := Tryz.sizeOf9
  v9 := Tryz.zeroValue9
  t20 := Tryz.underlying20
  a20 := Tryz.isAgg20
  z20 := Tryz.sizeOf20
  v20 := Tryz.zeroValue20
  t37 := Tryz.underlying22
  a37 := Tryz.isAgg22
  z37 := Tryz.sizeOf22
  v37 := Tryz.zeroValue22
  t46 := Tryz.underlying98
  a46 := Tryz.isAgg98
  z46 := Tryz.sizeOf98
  v46 := Tryz.zeroValue98
  t51 := Tryz.underlying138
  a51 := Tryz.isAgg138
  z51 := Tryz.sizeOf138
  v51 := Tryz.zeroValue138
  t53 := Tryz.underlying80
  a53 := Tryz.isAgg80
  z53 := Tryz.sizeOf80
  v53 := Tryz.zeroValue80
  t171 := Tryz.underlying129
  a171 := Tryz.isAgg129
  z171 := Tryz.sizeOf129
  v171 := Tryz.zeroValue129
  t173 := Tryz.underlying132
  a173 := Tryz.isAgg132
  z173 := Tryz.sizeOf132
  v173 := Tryz.zeroValue132
  t212 := Tryz.underlying149
  a212 := Tryz.isAgg149
  z212 := Tryz.sizeOf149
  v212 := Tryz.zeroValue149
  t213 := Tryz.underlying150
  a213 := Tryz.isAgg150
  z213 := Tryz.sizeOf150
  t232 := Tryz.underlying158
  a232 := Tryz.isAgg158
  z232 := Tryz.sizeOf158
  v232 := Tryz.zeroValue158
  t233 := Tryz.underlying159
  a233 := Tryz.isAgg159
  z233 := Tryz.sizeOf159
  v233 := Tryz.zeroValue159
  g17 := by kernel_rfl
  g18 := by kernel_rfl
  g19 := by kernel_rfl
  i0 := by kernel_rfl
  i2 := by kernel_rfl
  i3 := by kernel_rfl
  i4 := by kernel_rfl
  i5 := by kernel_rfl
  i9 := by kernel_rfl
  i20 := by kernel_rfl
  i37 := by kernel_rfl
  i46 := by kernel_rfl
  i51 := by kernel_rfl
  i53 := by kernel_rfl
  i171 := by kernel_rfl
  i173 := by kernel_rfl
  i212 := by kernel_rfl
  i232 := by kernel_rfl
  i233 := by kernel_rfl
  m17 := by kernel_rfl
  m18 := by kernel_rfl
  m19 := by kernel_rfl }
open Go.RowKit Go.Sort Go.Lib in
/-- strconv.FormatInt: "FormatInt returns the string representation of i in the given base": AT BASE 10: i's decimal numeral, for every int64. (LAID: no walk: one application.) -/
theorem Tryz.strconv_FormatInt_10 (n : Int) (h0 : -9223372036854775808 ≤ n) (h1 : n ≤ 9223372036854775807) (w : World) (htab : Lib.TabIs Tryz.prog w "internal/strconv.uint64pow10" .u64 Lib.pow10Tab) :
    Calls Tryz.prog 68 #[.int .i64 n, .int .i64 10] w fun e w' => e = .returned (.string ⟨(Lib.itoa n).toArray⟩) ∧ ∃ k os, w' = grow (w.drewN k) os := Any.strconv_FormatInt_10 Tryz.laysM173 n h0 h1 w htab
def Tryz.laysC174_ren : Go.Shelf.Ren := ⟨fun | 174 => 47 | 247 => 66 | 245 => 67 | 287 => 69 | 279 => 81 | 280 => 82 | 281 => 83 | 282 => 84 | 321 => 86 | 322 => 87 | 316 => 97 | 171 => 99 | 205 => 98 | 243 => 110 | 246 => 85 | 283 => 100 | 284 => 101 | 285 => 102 | 286 => 103 | 129 => 112 | 317 => 111 | 318 => 113 | 319 => 114 | 320 => 115 | 337 => 120 | 338 => 121 | n => n, fun | 9 => 9 | 3 => 3 | 2 => 2 | 75 => 76 | 85 => 77 | 4 => 4 | 167 => 112 | 5 => 5 | 53 => 80 | 175 => 81 | 46 => 98 | 168 => 113 | 37 => 22 | 0 => 0 | 210 => 126 | 21 => 21 | 127 => 107 | 145 => 147 | 143 => 145 | 171 => 129 | 173 => 132 | 212 => 149 | 51 => 138 | 20 => 20 | 213 => 150 | 232 => 158 | 233 => 159 | 80 => 96 | n => n, fun | 15 => 1 | 16 => 2 | 17 => 5 | 18 => 6 | 19 => 7 | n => n⟩
theorem Tryz.laysC174 : Go.Proofs.LaysC.n174 Tryz.prog Tryz.laysC174_ren := {
  mixed := by kernel_rfl
  f129 := Tryz.func112.trans (congrArg some (by kernel_rfl))
  f171 := Tryz.func99.trans (congrArg some (by kernel_rfl))
  f174 := Tryz.func47.trans (congrArg some (by kernel_rfl))
  f205 := Tryz.func98.trans (congrArg some (by kernel_rfl))
  f243 := Tryz.func110.trans (congrArg some (by kernel_rfl))
  f245 := Tryz.func67.trans (congrArg some (by kernel_rfl))
  f246 := Tryz.func85.trans (congrArg some (by kernel_rfl))
  f247 := Tryz.func66.trans (congrArg some (by kernel_rfl))
  f279 := Tryz.func81.trans (congrArg some (by kernel_rfl))
  f280 := Tryz.func82.trans (congrArg some (by kernel_rfl))
  f281 := Tryz.func83.trans (congrArg some (by kernel_rfl))
  f282 := Tryz.func84.trans (congrArg some (by kernel_rfl))
  f283 := Tryz.func100.trans (congrArg some (by kernel_rfl))
  f284 := Tryz.func101.trans (congrArg some (by kernel_rfl))
  f285 := Tryz.func102.trans (congrArg some (by kernel_rfl))
  f286 := Tryz.func103.trans (congrArg some (by kernel_rfl))
  f287 := Tryz.func69.trans (congrArg some (by kernel_rfl))
  f316 := Tryz.func97.trans (congrArg some (by kernel_rfl))
  f317 := Tryz.func111.trans (congrArg some (by kernel_rfl))
  f318 := Tryz.func113.trans (congrArg some (by kernel_rfl))
  f319 := Tryz.func114.trans (congrArg some (by kernel_rfl))
  f320 := Tryz.func115.trans (congrArg some (by kernel_rfl))
  f321 := Tryz.func86.trans (congrArg some (by kernel_rfl))
  f322 := Tryz.func87.trans (congrArg some (by kernel_rfl))
  f337 := Tryz.func120.trans (congrArg some (by kernel_rfl))
  f338 := Tryz.func121.trans (congrArg some (by kernel_rfl))
  t0 := Tryz.underlying0
  a0 := Tryz.isAgg0
  z0 := Tryz.sizeOf0
  v0 := Tryz.zeroValue0
  t2 := Tryz.underlying2
  a2 := Tryz.isAgg2
  z2 := Tryz.sizeOf2
  v2 := Tryz.zeroValue2
  t3 := Tryz.underlying3
  a3 := Tryz.isAgg3
  z3 := Tryz.sizeOf3
  v3 := Tryz.zeroValue3
  t4 := Tryz.underlying4
  a4 := Tryz.isAgg4
  z4 := Tryz.sizeOf4
  v4 := Tryz.zeroValue4
  t5 := Tryz.underlying5
  a5 := Tryz.isAgg5
  z5 := Tryz.sizeOf5
  v5 := Tryz.zeroValue5
  t9 := Tryz.underlying9
  a9 := Tryz.isAgg9
  z9 := Tryz.sizeOf9
  v9 := Tryz.zeroValue9
  t20 := Tryz.underlying20
  a20 := Tryz.isAgg20
  z20 := Tryz.sizeOf20
  v20 := Tryz.zeroValue20
  t21 := Tryz.underlying21
  a21 := Tryz.isAgg21
  z21 := Tryz.sizeOf21
  v21 := Tryz.zeroValue21
  t37 := Tryz.underlying22
  a37 := Tryz.isAgg22
  z37 := Tryz.sizeOf22
  v37 := Tryz.zeroValue22
  t46 := Tryz.underlying98
  a46 := Tryz.isAgg98
  z46 := Tryz.sizeOf98
  v46 := Tryz.zeroValue98
  t51 := Tryz.underlying138
  a51 := Tryz.isAgg138
  z51 := Tryz.sizeOf138
  v51 := Tryz.zeroValue138
  t53 := Tryz.underlying80
  a53 := Tryz.isAgg80
  z53 := Tryz.sizeOf80
  v53 := Tryz.zeroValue80
  t75 := Tryz.underlying76
  a75 := Tryz.isAgg76
  z75 := Tryz.sizeOf76
  v75 := Tryz.zeroValue76
  t85 := Tryz.underlying77
  a85 := Tryz.isAgg77
  z85 := Tryz.sizeOf77
  v85 := Tryz.zeroValue77
  t127 := Tryz.underlying107
  a127 := Tryz.isAgg107
  z127 := Tryz.sizeOf107
  v127 := Tryz.zeroValue107
  t143 := Tryz.underlying145
  a143 := Tryz.isAgg145
  z143 := Tryz.sizeOf145
  v143 := Tryz.zeroValue145
  t145 := Tryz.underlying147
  a145 := Tryz.isAgg147
  z145 := Tryz.sizeOf147
  v145 := Tryz.zeroValue147
  t167 := Tryz.underlying112
  a167 := Tryz.isAgg112
  z167 := Tryz.sizeOf112
  v167 := Tryz.zeroValue112
  t168 := Tryz.underlying113
  a168 := Tryz.isAgg113
  z168 := Tryz.sizeOf113
  v168 := Tryz.zeroValue113
  t171 := Tryz.underlying129
  a171 := Tryz.isAgg129
  z171 := Tryz.sizeOf129
  v171 := Tryz.zeroValue129
  t173 := Tryz.underlying132
  a173 := Tryz.isAgg132
  z173 := Tryz.sizeOf132
  v173 := Tryz.zeroValue132
  t175 := Tryz.underlying81
  a175 := Tryz.isAgg81
  z175 := Tryz.sizeOf81
  v175 := Tryz.zeroValue81
  t210 := Tryz.underlying126
  a210 := Tryz.isAgg126
  z210 := Tryz.sizeOf126
  v210 := Tryz.zeroValue126
  t212 := Tryz.underlying149
  a212 := Tryz.isAgg149
  z212 := Tryz.sizeOf149
  v212 := Tryz.zeroValue149
  t213 := Tryz.underlying150
  a213 := Tryz.isAgg150
  z213 := Tryz.sizeOf150
  t232 := Tryz.underlying158
  a232 := Tryz.isAgg158
  z232 := Tryz.sizeOf158
  v232 := Tryz.zeroValue158
  t233 := Tryz.underlying159
  a233 := Tryz.isAgg159
  z233 := Tryz.sizeOf159
  v233 := Tryz.zeroValue159
  g15 := by kernel_rfl
  g16 := by kernel_rfl
  g17 := by kernel_rfl
  g18 := by kernel_rfl
  g19 := by kernel_rfl
  t80 := Tryz.underlying96
  a80 := Tryz.isAgg96
  z80 := Tryz.sizeOf96
  v80 := Tryz.zeroValue96
  i0 := by kernel_rfl
  i2 := by kernel_rfl
  i3 := by kernel_rfl
  i4 := by kernel_rfl
  i5 := by kernel_rfl
  i9 := by kernel_rfl
  i20 := by kernel_rfl
  i21 := by kernel_rfl
  i37 := by kernel_rfl
  i46 := by kernel_rfl
  i51 := by kernel_rfl
  i53 := by kernel_rfl
  i75 := by kernel_rfl
  i80 := by kernel_rfl
  i85 := by kernel_rfl
  i127 := by kernel_rfl
  i143 := by kernel_rfl
  i145 := by kernel_rfl
  i167 := by kernel_rfl
  i168 := by kernel_rfl
  i171 := by kernel_rfl
  i173 := by kernel_rfl
  i175 := by kernel_rfl
  i210 := by kernel_rfl
  i212 := by kernel_rfl
  i232 := by kernel_rfl
  i233 := by kernel_rfl
  m15 := by kernel_rfl
  m16 := by kernel_rfl
  m17 := by kernel_rfl
  m18 := by kernel_rfl
  m19 := by kernel_rfl
  c0 := by kernel_rfl
  c2 := by kernel_rfl
  c3 := by kernel_rfl
  c4 := by kernel_rfl
  c5 := by kernel_rfl
  c9 := by kernel_rfl
  c20 := by kernel_rfl
  c21 := by kernel_rfl
  c37 := by kernel_rfl
  c46 := by kernel_rfl
  c51 := by kernel_rfl
  c53 := by kernel_rfl
  c75 := by kernel_rfl
  c80 := by kernel_rfl
  c85 := by kernel_rfl
  c127 := by kernel_rfl
  c143 := by kernel_rfl
  c145 := by kernel_rfl
  c167 := by kernel_rfl
  c168 := by kernel_rfl
  c171 := by kernel_rfl
  c173 := by kernel_rfl
  c175 := by kernel_rfl
  c210 := by kernel_rfl
  c212 := by kernel_rfl
  c213 := by kernel_rfl
  c232 := by kernel_rfl
  c233 := by kernel_rfl }
open Go.RowKit in
/-- strconv.ParseInt(s, 10, 64), AT EVERY STRING THAT SPELLS AN int64 ('Lib.parseIntB 64 s.data.toList = .ok v'): v, AND NO ERROR. (LAID: no walk: one application.) -/
theorem Tryz.strconv_ParseInt_10_at64_ok (s : ByteArray) (hmax : s.size ≤ 9223372036854775806) (v : Int) (h : Lib.parseIntB 64 s.data.toList = .ok v) (w : World) :
    Calls Tryz.prog 47 #[.string s, .int .i64 10, .int .i64 64] w fun e w' => e = .returned (.tuple #[.int .i64 v, .nilIface]) ∧ (w' = w ∨ ∃ t, w' = Lib.bytesWorld w 5 t) := Any.strconv_ParseInt_10_at64_ok Tryz.laysC174 s hmax v h w
open Go.RowKit in
/-- strconv.ParseInt(s, 10, 64), AT EVERY STRING THAT IS NO DECIMAL NUMERAL: 0, AND AN ERROR THAT IS NOT nil: a *NumError in a new block N: {Func: "ParseInt", Num: s's bytes, Err: what the variable ErrSyntax holds}. Of what was there nothing has turned. (LAID: no walk: one application.) -/
theorem Tryz.strconv_ParseInt_10_at64_syntax (s : ByteArray) (hlim : s.size ≤ 281474976710656) (h : Lib.parseIntB 64 s.data.toList = Lib.parseIntB 64 []) (ev : Value) (w : World) (hv : w.cell? ⟨1, 0, none⟩ = some ev) (hev : ev = .nilIface ∨ ∃ te pe, ev = .iface te pe) :
    Calls Tryz.prog 47 #[.string s, .int .i64 10, .int .i64 64] w fun e w' => ∃ N, e = .returned (.tuple #[.int .i64 (0), .iface 113 (.pointer (some ⟨N, 0, none⟩))]) ∧ w.heap.size ≤ N ∧ w'.heap[N]? = some (.cells #[.string ⟨#[80, 97, 114, 115, 101, 73, 110, 116]⟩, .string s, ev] 126 (0, 0)) ∧ Below w.heap.size w w' := Any.strconv_ParseInt_10_at64_syntax Tryz.laysC174 s hlim h ev w hv hev
open Go.RowKit in
/-- strconv.ParseInt(s, 10, 64), AT EVERY NUMERAL THAT NO int64 HOLDS: THE GREATEST OR THE LEAST int64, BY THE SIGN ('Lib.intSat 64'), AND AN ERROR THAT IS NOT nil: a *NumError in a new block N: {Func: "ParseInt", Num: s's bytes, Err: what the variable ErrRange holds}. Of what was there nothing has turned. (LAID: no walk: one application.) -/
theorem Tryz.strconv_ParseInt_10_at64_range (s : ByteArray) (hlim : s.size ≤ 281474976710656) (h : Lib.parseIntB 64 s.data.toList = .range) (ev : Value) (w : World) (hv : w.cell? ⟨2, 0, none⟩ = some ev) (hev : ev = .nilIface ∨ ∃ te pe, ev = .iface te pe) :
    Calls Tryz.prog 47 #[.string s, .int .i64 10, .int .i64 64] w fun e w' => ∃ N, e = .returned (.tuple #[.int .i64 (Lib.intSat 64 s.data.toList), .iface 113 (.pointer (some ⟨N, 0, none⟩))]) ∧ w.heap.size ≤ N ∧ w'.heap[N]? = some (.cells #[.string ⟨#[80, 97, 114, 115, 101, 73, 110, 116]⟩, .string s, ev] 126 (0, 0)) ∧ Below w.heap.size w w' := Any.strconv_ParseInt_10_at64_range Tryz.laysC174 s hlim h ev w hv hev
def Tryz.laysPu14_ren : Go.Shelf.Ren := ⟨fun | 14 => 49 | 16 => 69 | 17 => 67 | 19 => 86 | 20 => 87 | 21 => 81 | 22 => 82 | 23 => 83 | 24 => 84 | 25 => 97 | 27 => 99 | 26 => 98 | 28 => 110 | 29 => 85 | 30 => 100 | 31 => 101 | 32 => 102 | 33 => 103 | 35 => 112 | 34 => 111 | 36 => 113 | 37 => 114 | 38 => 115 | 39 => 120 | 40 => 121 | n => n, fun | 9 => 9 | 3 => 3 | 22 => 80 | 24 => 76 | 25 => 81 | 4 => 4 | 34 => 112 | 5 => 5 | 36 => 98 | 37 => 22 | 0 => 0 | 39 => 113 | 21 => 21 | 44 => 126 | 47 => 107 | 50 => 147 | 48 => 145 | 2 => 2 | 52 => 129 | 55 => 132 | 59 => 149 | 60 => 138 | 20 => 20 | 61 => 150 | 65 => 158 | 66 => 159 | 67 => 96 | n => n, fun | 0 => 1 | 1 => 2 | 2 => 5 | 3 => 6 | 4 => 7 | n => n⟩
theorem Tryz.laysPu14 : Go.Proofs.LaysPu.n14 Tryz.prog Tryz.laysPu14_ren := {
  mixed := by kernel_rfl
  f14 := Tryz.func49.trans (congrArg some (by kernel_rfl))
  f16 := Tryz.func69.trans (congrArg some (by kernel_rfl))
  f17 := Tryz.func67.trans (congrArg some (by kernel_rfl))
  f19 := Tryz.func86.trans (congrArg some (by kernel_rfl))
  f20 := Tryz.func87.trans (congrArg some (by kernel_rfl))
  f21 := Tryz.func81.trans (congrArg some (by kernel_rfl))
  f22 := Tryz.func82.trans (congrArg some (by kernel_rfl))
  f23 := Tryz.func83.trans (congrArg some (by kernel_rfl))
  f24 := Tryz.func84.trans (congrArg some (by kernel_rfl))
  f25 := Tryz.func97.trans (congrArg some (by kernel_rfl))
  f26 := Tryz.func98.trans (congrArg some (by kernel_rfl))
  f27 := Tryz.func99.trans (congrArg some (by kernel_rfl))
  f28 := Tryz.func110.trans (congrArg some (by kernel_rfl))
  f29 := Tryz.func85.trans (congrArg some (by kernel_rfl))
  f30 := Tryz.func100.trans (congrArg some (by kernel_rfl))
  f31 := Tryz.func101.trans (congrArg some (by kernel_rfl))
  f32 := Tryz.func102.trans (congrArg some (by kernel_rfl))
  f33 := Tryz.func103.trans (congrArg some (by kernel_rfl))
  f34 := Tryz.func111.trans (congrArg some (by kernel_rfl))
  f35 := Tryz.func112.trans (congrArg some (by kernel_rfl))
  f36 := Tryz.func113.trans (congrArg some (by kernel_rfl))
  f37 := Tryz.func114.trans (congrArg some (by kernel_rfl))
  f38 := Tryz.func115.trans (congrArg some (by kernel_rfl))
  f39 := Tryz.func120.trans (congrArg some (by kernel_rfl))
  f40 := Tryz.func121.trans (congrArg some (by kernel_rfl))
  t0 := Tryz.underlying0
  a0 := Tryz.isAgg0
  z0 := Tryz.sizeOf0
  v0 := Tryz.zeroValue0
  i0 := by kernel_rfl
  t2 := Tryz.underlying2
  a2 := Tryz.isAgg2
  z2 := Tryz.sizeOf2
  v2 := Tryz.zeroValue2
  i2 := by kernel_rfl
  t3 := Tryz.underlying3
  a3 := Tryz.isAgg3
  z3 := Tryz.sizeOf3
  v3 := Tryz.zeroValue3
  i3 := by kernel_rfl
  t4 := Tryz.underlying4
  a4 := Tryz.isAgg4
  z4 := Tryz.sizeOf4
  v4 := Tryz.zeroValue4
  i4 := by kernel_rfl
  t5 := Tryz.underlying5
  a5 := Tryz.isAgg5
  z5 := Tryz.sizeOf5
  v5 := Tryz.zeroValue5
  i5 := by kernel_rfl
  t9 := Tryz.underlying9
  a9 := Tryz.isAgg9
  z9 := Tryz.sizeOf9
  v9 := Tryz.zeroValue9
  i9 := by kernel_rfl
  t20 := Tryz.underlying20
  a20 := Tryz.isAgg20
  z20 := Tryz.sizeOf20
  v20 := Tryz.zeroValue20
  i20 := by kernel_rfl
  t21 := Tryz.underlying21
  a21 := Tryz.isAgg21
  z21 := Tryz.sizeOf21
  v21 := Tryz.zeroValue21
  i21 := by kernel_rfl
  t22 := Tryz.underlying80
  a22 := Tryz.isAgg80
  z22 := Tryz.sizeOf80
  v22 := Tryz.zeroValue80
  i22 := by kernel_rfl
  t24 := Tryz.underlying76
  a24 := Tryz.isAgg76
  z24 := Tryz.sizeOf76
  v24 := Tryz.zeroValue76
  i24 := by kernel_rfl
  t25 := Tryz.underlying81
  a25 := Tryz.isAgg81
  z25 := Tryz.sizeOf81
  v25 := Tryz.zeroValue81
  i25 := by kernel_rfl
  t34 := Tryz.underlying112
  a34 := Tryz.isAgg112
  z34 := Tryz.sizeOf112
  v34 := Tryz.zeroValue112
  i34 := by kernel_rfl
  c34 := by kernel_rfl
  t36 := Tryz.underlying98
  a36 := Tryz.isAgg98
  z36 := Tryz.sizeOf98
  v36 := Tryz.zeroValue98
  i36 := by kernel_rfl
  t37 := Tryz.underlying22
  a37 := Tryz.isAgg22
  z37 := Tryz.sizeOf22
  v37 := Tryz.zeroValue22
  i37 := by kernel_rfl
  t39 := Tryz.underlying113
  a39 := Tryz.isAgg113
  z39 := Tryz.sizeOf113
  v39 := Tryz.zeroValue113
  i39 := by kernel_rfl
  t44 := Tryz.underlying126
  a44 := Tryz.isAgg126
  z44 := Tryz.sizeOf126
  v44 := Tryz.zeroValue126
  i44 := by kernel_rfl
  t47 := Tryz.underlying107
  a47 := Tryz.isAgg107
  z47 := Tryz.sizeOf107
  v47 := Tryz.zeroValue107
  i47 := by kernel_rfl
  t48 := Tryz.underlying145
  a48 := Tryz.isAgg145
  z48 := Tryz.sizeOf145
  v48 := Tryz.zeroValue145
  i48 := by kernel_rfl
  t50 := Tryz.underlying147
  a50 := Tryz.isAgg147
  z50 := Tryz.sizeOf147
  v50 := Tryz.zeroValue147
  i50 := by kernel_rfl
  t52 := Tryz.underlying129
  a52 := Tryz.isAgg129
  z52 := Tryz.sizeOf129
  v52 := Tryz.zeroValue129
  i52 := by kernel_rfl
  t55 := Tryz.underlying132
  a55 := Tryz.isAgg132
  z55 := Tryz.sizeOf132
  v55 := Tryz.zeroValue132
  i55 := by kernel_rfl
  t59 := Tryz.underlying149
  a59 := Tryz.isAgg149
  z59 := Tryz.sizeOf149
  v59 := Tryz.zeroValue149
  i59 := by kernel_rfl
  t60 := Tryz.underlying138
  a60 := Tryz.isAgg138
  z60 := Tryz.sizeOf138
  v60 := Tryz.zeroValue138
  i60 := by kernel_rfl
  t61 := Tryz.underlying150
  a61 := Tryz.isAgg150
  z61 := Tryz.sizeOf150
  t65 := Tryz.underlying158
  a65 := Tryz.isAgg158
  z65 := Tryz.sizeOf158
  v65 := Tryz.zeroValue158
  i65 := by kernel_rfl
  t66 := Tryz.underlying159
  a66 := Tryz.isAgg159
  z66 := Tryz.sizeOf159
  v66 := Tryz.zeroValue159
  i66 := by kernel_rfl
  t67 := Tryz.underlying96
  a67 := Tryz.isAgg96
  z67 := Tryz.sizeOf96
  v67 := Tryz.zeroValue96
  i67 := by kernel_rfl
  g0 := by kernel_rfl
  m0 := by kernel_rfl
  g1 := by kernel_rfl
  m1 := by kernel_rfl
  g2 := by kernel_rfl
  m2 := by kernel_rfl
  g3 := by kernel_rfl
  m3 := by kernel_rfl
  g4 := by kernel_rfl
  m4 := by kernel_rfl }
open Go.RowKit in
/-- strconv.ParseUint(s, 10, 8), AT EVERY STRING THAT SPELLS A uint8 ('Lib.parseUintB 8 s.data.toList = .ok u'): u, AND NO ERROR. (LAID: no walk: one application.) -/
theorem Tryz.strconv_ParseUint_10_at8_ok (s : ByteArray) (hmax : s.size ≤ 9223372036854775806) (u : Nat) (h : Lib.parseUintB 8 s.data.toList = .ok u) (w : World) :
    Calls Tryz.prog 49 #[.string s, .int .i64 10, .int .i64 8] w fun e w' => e = .returned (.tuple #[.int .u64 u, .nilIface]) ∧ (w' = w ∨ w' = Lib.bytesWorld w 5 s) := Any.strconv_ParseUint_10_at8_ok Tryz.laysPu14 s hmax u h w
open Go.RowKit in
/-- strconv.ParseUint(s, 10, 8), AT EVERY STRING THAT IS NO ROW OF DECIMAL DIGITS (a sign is a fault): 0, AND AN ERROR THAT IS NOT nil: a *NumError in a new block N: {Func: "ParseUint", Num: s's bytes, Err: what the variable ErrSyntax holds}. Of what was there nothing has turned. (LAID: no walk: one application.) -/
theorem Tryz.strconv_ParseUint_10_at8_syntax (s : ByteArray) (hlim : s.size ≤ 281474976710656) (h : Lib.parseUintB 8 s.data.toList = Lib.parseUintB 8 []) (ev : Value) (w : World) (hv : w.cell? ⟨1, 0, none⟩ = some ev) (hev : ev = .nilIface ∨ ∃ te pe, ev = .iface te pe) :
    Calls Tryz.prog 49 #[.string s, .int .i64 10, .int .i64 8] w fun e w' => ∃ N, e = .returned (.tuple #[.int .u64 0, .iface 113 (.pointer (some ⟨N, 0, none⟩))]) ∧ w.heap.size ≤ N ∧ w'.heap[N]? = some (.cells #[.string ⟨#[80, 97, 114, 115, 101, 85, 105, 110, 116]⟩, .string s, ev] 126 (0, 0)) ∧ Below w.heap.size w w' := Any.strconv_ParseUint_10_at8_syntax Tryz.laysPu14 s hlim h ev w hv hev
open Go.RowKit in
/-- strconv.ParseUint(s, 10, 8), AT EVERY NUMERAL THAT NO uint8 HOLDS: THE GREATEST uint8, AND AN ERROR THAT IS NOT nil: a *NumError in a new block N: {Func: "ParseUint", Num: s's bytes, Err: what the variable ErrRange holds}. Of what was there nothing has turned. (LAID: no walk: one application.) -/
theorem Tryz.strconv_ParseUint_10_at8_range (s : ByteArray) (hlim : s.size ≤ 281474976710656) (h : Lib.parseUintB 8 s.data.toList = .range) (ev : Value) (w : World) (hv : w.cell? ⟨2, 0, none⟩ = some ev) (hev : ev = .nilIface ∨ ∃ te pe, ev = .iface te pe) :
    Calls Tryz.prog 49 #[.string s, .int .i64 10, .int .i64 8] w fun e w' => ∃ N, e = .returned (.tuple #[.int .u64 255, .iface 113 (.pointer (some ⟨N, 0, none⟩))]) ∧ w.heap.size ≤ N ∧ w'.heap[N]? = some (.cells #[.string ⟨#[80, 97, 114, 115, 101, 85, 105, 110, 116]⟩, .string s, ev] 126 (0, 0)) ∧ Below w.heap.size w w' := Any.strconv_ParseUint_10_at8_range Tryz.laysPu14 s hlim h ev w hv hev
def Tryz.lays145_ren : Go.Shelf.Ren := ⟨fun | 145 => 31 | 220 => 54 | 219 => 74 | 217 => 91 | 225 => 92 | 224 => 93 | 267 => 94 | 266 => 108 | 314 => 109 | n => n, fun | 9 => 9 | 4 => 4 | 59 => 61 | 3 => 3 | 5 => 5 | 46 => 98 | 146 => 139 | 51 => 138 | n => n, fun | 1 => 0 | n => n⟩
theorem Tryz.lays145 : Go.Proofs.Lays.n145 Tryz.prog Tryz.lays145_ren := {
  mixed := by kernel_rfl
  f145 := Tryz.func31.trans (congrArg some (by kernel_rfl))
  f217 := Tryz.func91.trans (congrArg some (by kernel_rfl))
  f219 := Tryz.func74.trans (congrArg some (by kernel_rfl))
  f220 := Tryz.func54.trans (congrArg some (by kernel_rfl))
  f224 := Tryz.func93.trans (congrArg some (by kernel_rfl))
  f225 := Tryz.func92.trans (congrArg some (by kernel_rfl))
  f266 := Tryz.func108.trans (congrArg some (by kernel_rfl))
  f267 := Tryz.func94.trans (congrArg some (by kernel_rfl))
  f314 := Tryz.func109.trans (congrArg some (by kernel_rfl))
  t3 := Tryz.underlying3
  a3 := Tryz.isAgg3
  z3 := Tryz.sizeOf3
  v3 := Tryz.zeroValue3
  t4 := Tryz.underlying4
  a4 := Tryz.isAgg4
  z4 := Tryz.sizeOf4
  v4 := Tryz.zeroValue4
  t5 := Tryz.underlying5
  a5 := Tryz.isAgg5
  z5 := Tryz.sizeOf5
  v5 := Tryz.zeroValue5
  t9 := Tryz.underlying9
  a9 := Tryz.isAgg9
  z9 := Tryz.sizeOf9
  v9 := Tryz.zeroValue9
  t46 := Tryz.underlying98
  a46 := Tryz.isAgg98
  z46 := Tryz.sizeOf98
  v46 := Tryz.zeroValue98
  t51 := Tryz.underlying138
  a51 := Tryz.isAgg138
  z51 := Tryz.sizeOf138
  v51 := Tryz.zeroValue138
  t59 := Tryz.underlying61
  a59 := Tryz.isAgg61
  z59 := Tryz.sizeOf61
  v59 := Tryz.zeroValue61
  t146 := Tryz.underlying139
  a146 := Tryz.isAgg139
  z146 := Tryz.sizeOf139
  v146 := Tryz.zeroValue139
  g1 := by kernel_rfl }
open Go.RowKit Go.Lib in
/-- strings.Cut: "Cut slices s around the first instance of sep, returning the text before and after sep. The found result reports whether sep appears in s. If sep does not appear in s, cut returns s, "", false.": IT RETURNS 'Lib.cut s sep'; the world is as it was but for the count of draws. (LAID: no walk: one application.) -/
theorem Tryz.strings_Cut (s sep : ByteArray) (m : Int) (w : World) (hs : s.size < 4294967281) (hm : w.cell? ⟨0, 0, none⟩ = some (.int .i64 m)) :
    Calls Tryz.prog 31 #[.string s, .string sep] w fun e w' => e = .returned (.tuple #[.string ⟨(Lib.cut s.data.toList sep.data.toList).1.toArray⟩, .string ⟨(Lib.cut s.data.toList sep.data.toList).2.1.toArray⟩, .bool (Lib.cut s.data.toList sep.data.toList).2.2]) ∧ ∃ n, w' = w.drewN n := Any.strings_Cut Tryz.lays145 s sep m w hs hm
def Tryz.lays146_ren : Go.Shelf.Ren := ⟨fun | 146 => 22 | 221 => 46 | 268 => 63 | 138 => 64 | 143 => 65 | 195 => 78 | 197 => 79 | 218 => 80 | 219 => 74 | 260 => 96 | 217 => 91 | 225 => 92 | 224 => 93 | 267 => 94 | 266 => 108 | 314 => 109 | n => n, fun | 9 => 9 | 31 => 42 | 3 => 3 | 4 => 4 | 0 => 0 | 105 => 109 | 21 => 21 | 5 => 5 | 46 => 98 | 119 => 141 | 139 => 144 | 138 => 143 | 146 => 139 | 51 => 138 | n => n, fun | 1 => 0 | 3 => 3 | 4 => 4 | n => n⟩
theorem Tryz.lays146 : Go.Proofs.Lays.n146 Tryz.prog Tryz.lays146_ren := {
  mixed := by kernel_rfl
  f138 := Tryz.func64.trans (congrArg some (by kernel_rfl))
  f143 := Tryz.func65.trans (congrArg some (by kernel_rfl))
  f146 := Tryz.func22.trans (congrArg some (by kernel_rfl))
  f195 := Tryz.func78.trans (congrArg some (by kernel_rfl))
  f197 := Tryz.func79.trans (congrArg some (by kernel_rfl))
  f217 := Tryz.func91.trans (congrArg some (by kernel_rfl))
  f218 := Tryz.func80.trans (congrArg some (by kernel_rfl))
  f219 := Tryz.func74.trans (congrArg some (by kernel_rfl))
  f221 := Tryz.func46.trans (congrArg some (by kernel_rfl))
  f224 := Tryz.func93.trans (congrArg some (by kernel_rfl))
  f225 := Tryz.func92.trans (congrArg some (by kernel_rfl))
  f260 := Tryz.func96.trans (congrArg some (by kernel_rfl))
  f266 := Tryz.func108.trans (congrArg some (by kernel_rfl))
  f267 := Tryz.func94.trans (congrArg some (by kernel_rfl))
  f268 := Tryz.func63.trans (congrArg some (by kernel_rfl))
  f314 := Tryz.func109.trans (congrArg some (by kernel_rfl))
  t0 := Tryz.underlying0
  a0 := Tryz.isAgg0
  z0 := Tryz.sizeOf0
  v0 := Tryz.zeroValue0
  t3 := Tryz.underlying3
  a3 := Tryz.isAgg3
  z3 := Tryz.sizeOf3
  v3 := Tryz.zeroValue3
  t4 := Tryz.underlying4
  a4 := Tryz.isAgg4
  z4 := Tryz.sizeOf4
  v4 := Tryz.zeroValue4
  t5 := Tryz.underlying5
  a5 := Tryz.isAgg5
  z5 := Tryz.sizeOf5
  v5 := Tryz.zeroValue5
  t9 := Tryz.underlying9
  a9 := Tryz.isAgg9
  z9 := Tryz.sizeOf9
  v9 := Tryz.zeroValue9
  t21 := Tryz.underlying21
  a21 := Tryz.isAgg21
  z21 := Tryz.sizeOf21
  v21 := Tryz.zeroValue21
  t31 := Tryz.underlying42
  a31 := Tryz.isAgg42
  z31 := Tryz.sizeOf42
  v31 := Tryz.zeroValue42
  t46 := Tryz.underlying98
  a46 := Tryz.isAgg98
  z46 := Tryz.sizeOf98
  v46 := Tryz.zeroValue98
  t51 := Tryz.underlying138
  a51 := Tryz.isAgg138
  z51 := Tryz.sizeOf138
  v51 := Tryz.zeroValue138
  t105 := Tryz.underlying109
  a105 := Tryz.isAgg109
  z105 := Tryz.sizeOf109
  v105 := Tryz.zeroValue109
  t119 := Tryz.underlying141
  a119 := Tryz.isAgg141
  z119 := Tryz.sizeOf141
  t138 := Tryz.underlying143
  a138 := Tryz.isAgg143
  z138 := Tryz.sizeOf143
  v138 := Tryz.zeroValue143
  t139 := Tryz.underlying144
  a139 := Tryz.isAgg144
  z139 := Tryz.sizeOf144
  v139 := Tryz.zeroValue144
  t146 := Tryz.underlying139
  a146 := Tryz.isAgg139
  z146 := Tryz.sizeOf139
  v146 := Tryz.zeroValue139
  g1 := by kernel_rfl
  g3 := by kernel_rfl
  g4 := by kernel_rfl }
open Go.RowKit Go.Lib in
/-- strings.Split. (LAID: no walk: one application.) -/
theorem Tryz.strings_Split (s sep : ByteArray) (m : Int) (w : World) (hs : s.size < 4294967281) (hm : w.cell? ⟨0, 0, none⟩ = some (.int .i64 m)) (h1 : 1 ≤ sep.size) :
    Calls Tryz.prog 22 #[.string s, .string sep] w fun e w' =>
      e = .returned (.slice (some ⟨w.heap.size, 0, none⟩) (Lib.countB s sep + 1) (Lib.countB s sep + 1)) ∧ w' = w.alloc (.cells ((Lib.splitB sep 0 (Lib.countB s sep) s).map Value.string).toArray 9) := Any.strings_Split Tryz.lays146 (by kernel_rfl) s sep m w hs hm h1
def Tryz.lays105_ren : Go.Shelf.Ren := ⟨fun | 105 => 89 | 212 => 104 | 99 => 105 | 165 => 90 | 166 => 57 | 170 => 106 | 169 => 59 | 263 => 116 | 264 => 117 | 206 => 118 | 240 => 77 | 241 => 107 | 276 => 95 | 277 => 119 | n => n, fun | 9 => 9 | 3 => 3 | 4 => 4 | 20 => 20 | 0 => 0 | 46 => 98 | 109 => 134 | 5 => 5 | 72 => 92 | 76 => 93 | 51 => 138 | 146 => 139 | 53 => 80 | 148 => 154 | 70 => 90 | 37 => 22 | 75 => 76 | 127 => 107 | 164 => 122 | 80 => 96 | n => n, fun | n => n⟩
theorem Tryz.lays105 : Go.Proofs.Lays.n105 Tryz.prog Tryz.lays105_ren := {
  mixed := by kernel_rfl
  f99 := Tryz.func105.trans (congrArg some (by kernel_rfl))
  f105 := Tryz.func89.trans (congrArg some (by kernel_rfl))
  f165 := Tryz.func90.trans (congrArg some (by kernel_rfl))
  f166 := Tryz.func57.trans (congrArg some (by kernel_rfl))
  f169 := Tryz.func59.trans (congrArg some (by kernel_rfl))
  f170 := Tryz.func106.trans (congrArg some (by kernel_rfl))
  f206 := Tryz.func118.trans (congrArg some (by kernel_rfl))
  f212 := Tryz.func104.trans (congrArg some (by kernel_rfl))
  f240 := Tryz.func77.trans (congrArg some (by kernel_rfl))
  f241 := Tryz.func107.trans (congrArg some (by kernel_rfl))
  f263 := Tryz.func116.trans (congrArg some (by kernel_rfl))
  f264 := Tryz.func117.trans (congrArg some (by kernel_rfl))
  f276 := Tryz.func95.trans (congrArg some (by kernel_rfl))
  f277 := Tryz.func119.trans (congrArg some (by kernel_rfl))
  t0 := Tryz.underlying0
  a0 := Tryz.isAgg0
  z0 := Tryz.sizeOf0
  v0 := Tryz.zeroValue0
  t3 := Tryz.underlying3
  a3 := Tryz.isAgg3
  z3 := Tryz.sizeOf3
  v3 := Tryz.zeroValue3
  t4 := Tryz.underlying4
  a4 := Tryz.isAgg4
  z4 := Tryz.sizeOf4
  v4 := Tryz.zeroValue4
  t5 := Tryz.underlying5
  a5 := Tryz.isAgg5
  z5 := Tryz.sizeOf5
  v5 := Tryz.zeroValue5
  t9 := Tryz.underlying9
  a9 := Tryz.isAgg9
  z9 := Tryz.sizeOf9
  v9 := Tryz.zeroValue9
  t20 := Tryz.underlying20
  a20 := Tryz.isAgg20
  z20 := Tryz.sizeOf20
  v20 := Tryz.zeroValue20
  t37 := Tryz.underlying22
  a37 := Tryz.isAgg22
  z37 := Tryz.sizeOf22
  v37 := Tryz.zeroValue22
  t46 := Tryz.underlying98
  a46 := Tryz.isAgg98
  z46 := Tryz.sizeOf98
  v46 := Tryz.zeroValue98
  t51 := Tryz.underlying138
  a51 := Tryz.isAgg138
  z51 := Tryz.sizeOf138
  v51 := Tryz.zeroValue138
  t53 := Tryz.underlying80
  a53 := Tryz.isAgg80
  z53 := Tryz.sizeOf80
  v53 := Tryz.zeroValue80
  t70 := Tryz.underlying90
  a70 := Tryz.isAgg90
  z70 := Tryz.sizeOf90
  v70 := Tryz.zeroValue90
  t72 := Tryz.underlying92
  a72 := Tryz.isAgg92
  z72 := Tryz.sizeOf92
  v72 := Tryz.zeroValue92
  t75 := Tryz.underlying76
  a75 := Tryz.isAgg76
  z75 := Tryz.sizeOf76
  v75 := Tryz.zeroValue76
  t76 := Tryz.underlying93
  a76 := Tryz.isAgg93
  z76 := Tryz.sizeOf93
  v76 := Tryz.zeroValue93
  t109 := Tryz.underlying134
  a109 := Tryz.isAgg134
  z109 := Tryz.sizeOf134
  v109 := Tryz.zeroValue134
  t127 := Tryz.underlying107
  a127 := Tryz.isAgg107
  z127 := Tryz.sizeOf107
  v127 := Tryz.zeroValue107
  t146 := Tryz.underlying139
  a146 := Tryz.isAgg139
  z146 := Tryz.sizeOf139
  v146 := Tryz.zeroValue139
  t148 := Tryz.underlying154
  a148 := Tryz.isAgg154
  z148 := Tryz.sizeOf154
  v148 := Tryz.zeroValue154
  t164 := Tryz.underlying122
  a164 := Tryz.isAgg122
  z164 := Tryz.sizeOf122
  v164 := Tryz.zeroValue122 }
open Go.RowKit Go.Lib in
theorem Tryz.strings_Repeat_zero (s : ByteArray) (w : World) :
    Calls Tryz.prog 89 #[.string s, .int .i64 0] w fun e w' => e = .returned (.string ⟨#[]⟩) ∧ w' = w := Any.strings_Repeat_zero Tryz.lays105 s w
open Go.RowKit Go.Lib in
theorem Tryz.strings_Repeat_one (s : ByteArray) (w : World) :
    Calls Tryz.prog 89 #[.string s, .int .i64 1] w fun e w' => e = .returned (.string s) ∧ w' = w := Any.strings_Repeat_one Tryz.lays105 s w
end Go.Proofs

/- What these functions of the program hand back, each proved by walking its operations. -/
set_option linter.unusedVariables false
set_option linter.unusedSimpArgs false
set_option maxRecDepth 4000
namespace Go.Proofs.YtejedjgajcjejaaGreatDoor
open Go Go.Sx Go.RowKit Go.W Go.Proofs
attribute [local irreducible] Ex ExL ExD Op1 Free RetQ MutQ Reads CellO SegO LoadsAs
theorem e_22 : Enters Tryz.prog 22 := Enters.of Tryz.func22 rfl
theorem c_Split (t : List UInt8) (c : UInt8) (hl : t.length ≤ 1048576) : Ret Tryz.prog 22 [sv t, sv [c]] (fun w => RdO 0 1 2 w) (fun x : Nat => .slice (some ⟨x, 0, none⟩) (splitA c [] t).length (splitA c [] t).length) (fun x => [.row (.slice (some ⟨x, 0, none⟩) (splitA c [] t).length (splitA c [] t).length) 9 1 (splitA c [] t).length ((splitA c [] t).flatMap eSt)]) (fun _ => True) := by
  refine ⟨e_22, fun w hr => ?_⟩
  obtain ⟨m, hm⟩ := hr.max
  have hz : (mkB t).size = t.length := rfl
  refine (Go.Proofs.Tryz.strings_Split (mkB t) (mkB [c]) m w (by omega) hm (by show 1 ≤ 1; decide)).mono ?_
  rintro e w' ⟨rfl, rfl⟩
  obtain ⟨h1, h2⟩ := split_row (T := 9) (w := w) c t (by omega)
  exact ⟨w.heap.size, trivial, congrArg _ h1, below_alloc _ _, by simpa using h2, by simp⟩
theorem e_31 : Enters Tryz.prog 31 := Enters.of Tryz.func31 rfl
theorem c_Cut (t : List UInt8) (c : UInt8) (hl : t.length ≤ 1048576) : Ret Tryz.prog 31 [sv t, sv [c]] (fun w => RdO 0 1 2 w) (fun _ : Unit => .tuple #[sv (Lib.cut t [c]).1, sv (Lib.cut t [c]).2.1, .bool (Lib.cut t [c]).2.2]) (fun _ => []) (fun _ => True) := by
  refine ⟨e_31, fun w hr => ?_⟩
  obtain ⟨m, hm⟩ := hr.max
  have hz : (mkB t).size = t.length := rfl
  refine (Go.Proofs.Tryz.strings_Cut (mkB t) (mkB [c]) m w (by omega) hm).mono ?_
  rintro e w' ⟨rfl, n, rfl⟩
  exact ⟨(), trivial, rfl, below_drew _ _, by simp, List.Pairwise.nil⟩
theorem e_47 : Enters Tryz.prog 47 := Enters.of Tryz.func47 rfl
theorem c_ParseInt (t : List UInt8) (hl : t.length ≤ 1048576) : Ret Tryz.prog 47 [sv t, .int .i64 10, .int .i64 64] (fun w => RdO 0 1 2 w) (fun x : Int × Bool × TypeId × Value => .tuple #[.int .i64 x.1, errV x.2.1 x.2.2.1 x.2.2.2]) (fun _ => []) (fun x => PInt t x.1 x.2.1) := by
  refine ⟨e_47, fun w hr => ?_⟩
  have hz : (mkB t).size = t.length := rfl
  cases h : Lib.parseIntB 64 t with
  | ok v =>
    refine (Go.Proofs.Tryz.strconv_ParseInt_10_at64_ok (mkB t) (by omega) v h w).mono ?_
    rintro e w' ⟨rfl, hw⟩
    refine ⟨(v, true, 0, .nilIface), pint_ok h, rfl, ?_, by simp, List.Pairwise.nil⟩
    rcases hw with rfl | ⟨u, rfl⟩
    · exact Below.refl _ _
    · exact Lib.bytesWorld_below _ _ _
  | range =>
    obtain ⟨ev, hv, hev⟩ := hr.rng
    refine (Go.Proofs.Tryz.strconv_ParseInt_10_at64_range (mkB t) (by omega) h ev w hv hev).mono ?_
    rintro e w' ⟨N, rfl, _, _, hb⟩
    exact ⟨(Lib.intSat 64 t, false, _, _), pint_rng h, rfl, hb, by simp, List.Pairwise.nil⟩
  | _ =>
    obtain ⟨ev, hv, hev⟩ := hr.syn
    refine (Go.Proofs.Tryz.strconv_ParseInt_10_at64_syntax (mkB t) (by omega) h ev w hv hev).mono ?_
    rintro e w' ⟨N, rfl, _, _, hb⟩
    exact ⟨(0, false, _, _), pint_syn (fun z e => by rw [h] at e; cases e), rfl, hb, by simp, List.Pairwise.nil⟩
theorem e_17 : Enters Tryz.prog 17 := Enters.of Tryz.func17 rfl
theorem c_l01Split (t : List UInt8) (b : Int) (c : UInt8) (hb : b = (c.toNat : Int)) (hl : t.length ≤ 1048576) : Ret Tryz.prog 17 [sv t, .int .u8 b] (fun w => True) (fun x : Option Addr × Nat => .slice x.1 (splitA c [] t).length x.2) (fun x => [.row (.slice x.1 (splitA c [] t).length x.2) 9 1 (splitA c [] t).length ((splitA c [] t).flatMap eSt)]) (fun x => True) := by
  refine Ret.of e_17 Tryz.func17 rfl Tryz.ntmps17 rfl rfl (fun w hpre => ?_)
  have hm0 : maxLen = 9223372036854775807 := rfl
  refine Ex.regSeq (ExL.pures 1 rfl ?_)
  refine ExL.nil ?_
  refine Ex.regSeq (ExL.pures 0 rfl ?_)
  refine ExL.op rfl (op_buildSlice (sz := 1) rfl rfl rfl rfl rfl rfl rfl rfl (by decide) rfl rfl rfl (fun r1 => ?_))
  refine ExL.pures 1 rfl ?_
  refine ExL.nil ?_
  refine Ex.regSeq (ExL.pures 1 rfl ?_)
  refine ExL.nil ?_
  refine Ex.seq ?_
  refine Ex.regSeq (ExL.pures 1 rfl ?_)
  refine ExL.nil ?_
  refine Ex.block ?_
  refine Ex.loopK (X := SpS) (fun q => [(5, .slice q.A q.out.length q.c), (6, .int .i64 q.b), (7, .int .i64 q.i)]) (fun q => [.row (.slice q.A q.out.length q.c) 9 1 q.out.length (q.out.flatMap eSt)]) (fun q => q.b ≤ q.i ∧ q.i ≤ t.length ∧ q.out.length ≤ q.i ∧ splitA c [] t = q.out ++ splitA c ((t.drop q.b).take (q.i - q.b)) (t.drop q.i)) (fun q => t.length - q.i) (⟨0, 0, [], (some ⟨r1, 0, none⟩), 0⟩ : SpS) [(0, _), (1, _), (4, _)] [] 1 [0] ⟨rfl, rfl, rfl, trivial⟩ ⟨rfl, rfl, rfl, trivial⟩ (rfl) rfl ⟨Nat.le_refl _, Nat.zero_le _, Nat.le_refl _, rfl⟩ (fun q hI => ?_)
  have hI : q.b ≤ q.i ∧ q.i ≤ t.length ∧ q.out.length ≤ q.i ∧ splitA c [] t = q.out ++ splitA c ((t.drop q.b).take (q.i - q.b)) (t.drop q.i) := hI
  obtain ⟨hqb, hqi, hqo, hqs⟩ := hI
  refine Ex.seq ?_
  refine Ex.regSeq (ExL.pures 2 rfl ?_)
  refine ExL.free (fr_lenS (l := t) rfl rfl rfl) rfl rfl rfl ?_
  refine ExL.lss rfl rfl rfl rfl rfl rfl (fun h2 => ?_) (fun h2 => ?_)
  · refine ExL.nil ?_
    refine Ex.cond_t rfl ?_
    refine Ex.skip ?_
    refine Ex.seq ?_
    refine Ex.block ?_
    refine Ex.regSeq (ExL.pures 2 rfl ?_)
    refine ExL.free (fr_indexS (l := t) (q.i) rfl rfl rfl rfl (by first | rfl | omega) (by omega)) rfl rfl rfl ?_
    refine ExL.pures 1 rfl ?_
    refine ExL.eql rfl rfl rfl rfl rfl rfl (fun h3 => ?_) (fun h3 => ?_)
    · refine ExL.nil ?_
      refine Ex.cond_t rfl ?_
      refine Ex.regSeq (ExL.pures 4 rfl ?_)
      refine ExL.free (fr_sliceS (l := t) (q.b) (q.i) rfl rfl rfl rfl rfl (by first | rfl | omega) (by first | rfl | omega) (by omega) (by omega)) rfl rfl rfl ?_
      refine ExL.op rfl (op_buildSlice (sz := 1) rfl rfl rfl rfl rfl rfl rfl rfl (by decide) rfl rfl rfl (fun r4 => ?_))
      refine ExL.op rfl (op_append (sz := 1) (bytes := 16) (i := 1) rfl rfl rfl rfl (Reads.row (i := 0) rfl) rfl (fun e => nomatch e) rfl rfl rfl rfl (by constructor <;> first | omega | (unfold maxLen; omega)) rfl rfl (fun A5 cA5 => ?_))
      refine ExL.pures 1 rfl ?_
      refine ExL.nil ?_
      refine Ex.region (ExL.pures 1 rfl ?_)
      refine ExL.free (by first | exact fr_add64 rfl rfl rfl (by omega) | exact fr_add rfl rfl rfl) rfl rfl rfl ?_
      refine ExL.pures 1 rfl ?_
      refine ExL.nil ?_
      refine Ex.region (ExL.pures 1 rfl ?_)
      refine ExL.free (by first | exact fr_add64 rfl rfl rfl (by omega) | exact fr_add rfl rfl rfl) rfl rfl rfl ?_
      refine ExL.pures 1 rfl ?_
      refine ExL.nil ?_
      refine Hand.mk (⟨q.i + 1, q.i + 1, q.out ++ [(t.drop q.b).take (q.i - q.b)], A5, cA5⟩ : SpS) 2 [1] ⟨(by rw [List.length_append]; rfl), rfl, rfl, trivial⟩ ⟨rfl, rfl, rfl, trivial⟩ (by rw [List.length_append, List.flatMap_append]; rfl) rfl (⟨Nat.le_refl _, by dsimp only; omega, by rw [List.length_append]; simp only [List.length_cons, List.length_nil]; omega, sp_y (by omega) (u8_c hb (by assumption)) hqs⟩) (by dsimp only; omega)
    · refine ExL.nil ?_
      refine Ex.cond_f rfl ?_
      refine Ex.skip ?_
      refine Ex.region (ExL.pures 1 rfl ?_)
      refine ExL.free (by first | exact fr_add64 rfl rfl rfl (by omega) | exact fr_add rfl rfl rfl) rfl rfl rfl ?_
      refine ExL.pures 1 rfl ?_
      refine ExL.nil ?_
      refine Hand.mk (⟨q.i + 1, q.b, q.out, q.A, q.c⟩ : SpS) 1 [0] ⟨rfl, rfl, rfl, trivial⟩ ⟨rfl, rfl, rfl, trivial⟩ (rfl) rfl (⟨by dsimp only; omega, by dsimp only; omega, by dsimp only; omega, sp_n hqb (by omega) (u8_cn hb (by assumption)) hqs⟩) (by dsimp only; omega)
  · refine ExL.nil ?_
    refine Ex.cond_f rfl ?_
    refine Ex.exit ?_
    have hqe := sp_end hqb (by omega) hqs
    refine Ex.regSeq (ExL.pures 3 rfl ?_)
    refine ExL.free (fr_sliceS_l (l := t) (q.b) rfl rfl rfl rfl (by first | rfl | omega) (by omega)) rfl rfl rfl ?_
    refine ExL.op rfl (op_buildSlice (sz := 1) rfl rfl rfl rfl rfl rfl rfl rfl (by decide) rfl rfl rfl (fun r7 => ?_))
    refine ExL.op rfl (op_append (sz := 1) (bytes := 16) (i := 1) rfl rfl rfl rfl (Reads.row (i := 0) rfl) rfl (fun e => nomatch e) rfl rfl rfl rfl (by constructor <;> first | omega | (unfold maxLen; omega)) rfl rfl (fun A8 cA8 => ?_))
    refine ExL.pures 1 rfl ?_
    refine ExL.nil ?_
    refine Ex.ret ?_
    refine RetQ.mk (A8, cA8) rfl (.tmp rfl .nil) ((by rw [hqe, List.length_append]; rfl)) [1] (by rw [hqe, List.length_append, List.flatMap_append]; rfl) rfl (trivial)
theorem e_18 : Enters Tryz.prog 18 := Enters.of Tryz.func18 rfl
theorem c_l01Number (t : List UInt8) (hl : t.length ≤ 1048576) : Ret Tryz.prog 18 [sv t] (fun w => True) (fun x : Unit => .tuple #[.int .i64 (numR 9 t).1, .bool (numR 9 t).2]) (fun x => []) (fun x => True) := by
  refine Ret.of e_18 Tryz.func18 rfl Tryz.ntmps18 rfl rfl (fun w hpre => ?_)
  refine Ex.regSeq (ExL.pures 2 rfl ?_)
  refine ExL.nil ?_
  refine Ex.seq ?_
  refine Ex.regSeq (ExL.pures 1 rfl ?_)
  refine ExL.free (fr_eqlS (l := t) (r := []) rfl rfl rfl) rfl rfl rfl ?_
  refine ExL.pures 1 rfl ?_
  refine ExL.bool (d := 8) rfl (fun hb1 => ?_) (fun hb1 => ?_)
  · replace hb1 := of_decide_eq_true hb1
    refine ExL.pures 14 rfl ?_
    refine ExL.nil ?_
    refine Ex.cond_t rfl ?_
    refine Ex.regSeq (ExL.pures 2 rfl ?_)
    refine ExL.nil ?_
    refine Ex.ret ?_
    refine RetQ.mk () rfl (.tmp rfl (.tmp rfl .nil)) ((by first | (rw [numR_bad (B := 9) (.inl (by assumption))]; rfl) | (rw [numR_bad (B := 9) (.inr (.inl (by omega)))]; rfl) | (rw [numR_bad (B := 9) (.inr (.inr (.inl ⟨u8_48 (by assumption), by omega⟩)))]; rfl) | (rw [numR_bad (B := 9) (.inr (.inr (.inr ⟨k, by omega, fun h => by have := h.1; have := h.2; omega⟩)))]; rfl) | (rw [numR_ok (B := 9) (by assumption) (by omega) (fun h => by first | (have := h.2; omega) | exact u8_48n (by assumption) h.1) hall]; rfl))) [] (rfl) rfl (trivial)
  · replace hb1 := of_decide_eq_false hb1
    refine ExL.pures 1 rfl ?_
    refine ExL.free (fr_lenS (l := t) rfl rfl rfl) rfl rfl rfl ?_
    refine ExL.gtr rfl rfl rfl rfl rfl rfl (fun h2 => ?_) (fun h2 => ?_)
    · refine ExL.pures 11 rfl ?_
      refine ExL.nil ?_
      refine Ex.cond_t rfl ?_
      refine Ex.regSeq (ExL.pures 2 rfl ?_)
      refine ExL.nil ?_
      refine Ex.ret ?_
      refine RetQ.mk () rfl (.tmp rfl (.tmp rfl .nil)) ((by first | (rw [numR_bad (B := 9) (.inl (by assumption))]; rfl) | (rw [numR_bad (B := 9) (.inr (.inl (by omega)))]; rfl) | (rw [numR_bad (B := 9) (.inr (.inr (.inl ⟨u8_48 (by assumption), by omega⟩)))]; rfl) | (rw [numR_bad (B := 9) (.inr (.inr (.inr ⟨k, by omega, fun h => by have := h.1; have := h.2; omega⟩)))]; rfl) | (rw [numR_ok (B := 9) (by assumption) (by omega) (fun h => by first | (have := h.2; omega) | exact u8_48n (by assumption) h.1) hall]; rfl))) [] (rfl) rfl (trivial)
    · refine ExL.pures 3 rfl ?_
      refine ExL.free (fr_indexS (l := t) (0) rfl rfl rfl rfl rfl (List.length_pos_iff.2 (by assumption))) rfl rfl rfl ?_
      refine ExL.eql rfl rfl rfl rfl rfl rfl (fun h3 => ?_) (fun h3 => ?_)
      · refine ExL.pures 2 rfl ?_
        refine ExL.free (fr_lenS (l := t) rfl rfl rfl) rfl rfl rfl ?_
        refine ExL.gtr rfl rfl rfl rfl rfl rfl (fun h4 => ?_) (fun h4 => ?_)
        · refine ExL.pures 2 rfl ?_
          refine ExL.nil ?_
          refine Ex.cond_t rfl ?_
          refine Ex.regSeq (ExL.pures 2 rfl ?_)
          refine ExL.nil ?_
          refine Ex.ret ?_
          refine RetQ.mk () rfl (.tmp rfl (.tmp rfl .nil)) ((by first | (rw [numR_bad (B := 9) (.inl (by assumption))]; rfl) | (rw [numR_bad (B := 9) (.inr (.inl (by omega)))]; rfl) | (rw [numR_bad (B := 9) (.inr (.inr (.inl ⟨u8_48 (by assumption), by omega⟩)))]; rfl) | (rw [numR_bad (B := 9) (.inr (.inr (.inr ⟨k, by omega, fun h => by have := h.1; have := h.2; omega⟩)))]; rfl) | (rw [numR_ok (B := 9) (by assumption) (by omega) (fun h => by first | (have := h.2; omega) | exact u8_48n (by assumption) h.1) hall]; rfl))) [] (rfl) rfl (trivial)
        · refine ExL.pures 2 rfl ?_
          refine ExL.nil ?_
          refine Ex.cond_f rfl ?_
          refine Ex.skip ?_
          refine Ex.regSeq (ExL.pures 1 rfl ?_)
          refine ExL.nil ?_
          refine Ex.seq ?_
          refine Ex.regSeq (ExL.pures 1 rfl ?_)
          refine ExL.nil ?_
          refine Ex.block ?_
          refine Ex.loopK (X := Nat) (fun k => [(4, .int .i64 (numV (t.take k) : Int)), (5, .int .i64 k)]) (fun k => []) (fun k => k ≤ t.length ∧ ∀ j, j < k → isDig (t.getD j 0)) (fun k => t.length - k) 0 [(0, _)] [] 0 [] ⟨rfl, rfl, trivial⟩ ⟨rfl, trivial⟩ (rfl) rfl ⟨Nat.zero_le _, fun j hj => by omega⟩ (fun k hI => ?_)
          have hI : k ≤ t.length ∧ ∀ j, j < k → isDig (t.getD j 0) := hI
          obtain ⟨hk, hall⟩ := hI
          refine Ex.seq ?_
          refine Ex.regSeq (ExL.pures 2 rfl ?_)
          refine ExL.free (fr_lenS (l := t) rfl rfl rfl) rfl rfl rfl ?_
          refine ExL.lss rfl rfl rfl rfl rfl rfl (fun h5 => ?_) (fun h5 => ?_)
          · refine ExL.nil ?_
            refine Ex.cond_t rfl ?_
            refine Ex.skip ?_
            refine Ex.seq ?_
            refine Ex.block ?_
            have hkl : k < t.length := by omega
            have hnv := numT_le hall (by omega) (by omega)
            refine Ex.seq ?_
            refine Ex.regSeq (ExL.pures 2 rfl ?_)
            refine ExL.free (fr_indexS (l := t) (k) rfl rfl rfl rfl (by first | rfl | omega) (by omega)) rfl rfl rfl ?_
            refine ExL.lss rfl rfl rfl rfl rfl rfl (fun h6 => ?_) (fun h6 => ?_)
            · refine ExL.pures 6 rfl ?_
              refine ExL.nil ?_
              refine Ex.cond_t rfl ?_
              refine Ex.regSeq (ExL.pures 2 rfl ?_)
              refine ExL.nil ?_
              refine Ex.ret ?_
              refine RetQ.mk () rfl (.tmp rfl (.tmp rfl .nil)) ((by first | (rw [numR_bad (B := 9) (.inl (by assumption))]; rfl) | (rw [numR_bad (B := 9) (.inr (.inl (by omega)))]; rfl) | (rw [numR_bad (B := 9) (.inr (.inr (.inl ⟨u8_48 (by assumption), by omega⟩)))]; rfl) | (rw [numR_bad (B := 9) (.inr (.inr (.inr ⟨k, by omega, fun h => by have := h.1; have := h.2; omega⟩)))]; rfl) | (rw [numR_ok (B := 9) (by assumption) (by omega) (fun h => by first | (have := h.2; omega) | exact u8_48n (by assumption) h.1) hall]; rfl))) [] (rfl) rfl (trivial)
            · refine ExL.pures 3 rfl ?_
              refine ExL.free (fr_indexS (l := t) (k) rfl rfl rfl rfl (by first | rfl | omega) (by omega)) rfl rfl rfl ?_
              refine ExL.gtr rfl rfl rfl rfl rfl rfl (fun h7 => ?_) (fun h7 => ?_)
              · refine ExL.pures 1 rfl ?_
                refine ExL.nil ?_
                refine Ex.cond_t rfl ?_
                refine Ex.regSeq (ExL.pures 2 rfl ?_)
                refine ExL.nil ?_
                refine Ex.ret ?_
                refine RetQ.mk () rfl (.tmp rfl (.tmp rfl .nil)) ((by first | (rw [numR_bad (B := 9) (.inl (by assumption))]; rfl) | (rw [numR_bad (B := 9) (.inr (.inl (by omega)))]; rfl) | (rw [numR_bad (B := 9) (.inr (.inr (.inl ⟨u8_48 (by assumption), by omega⟩)))]; rfl) | (rw [numR_bad (B := 9) (.inr (.inr (.inr ⟨k, by omega, fun h => by have := h.1; have := h.2; omega⟩)))]; rfl) | (rw [numR_ok (B := 9) (by assumption) (by omega) (fun h => by first | (have := h.2; omega) | exact u8_48n (by assumption) h.1) hall]; rfl))) [] (rfl) rfl (trivial)
              · refine ExL.pures 1 rfl ?_
                refine ExL.nil ?_
                refine Ex.cond_f rfl ?_
                refine Ex.skip ?_
                have hdg := isDig_of (c := t.getD k 0) (by assumption) (by assumption)
                have hns : 10 * (numV (t.take k) : Int) + (((t.getD k 0).toNat : Int) - 48) = (numV (t.take (k + 1)) : Int) := by rw [numT_s hkl]; have := hdg.1; omega
                have hd1 := hdg.1
                have hd2 := hdg.2
                refine Ex.region (ExL.pures 1 rfl ?_)
                refine ExL.free (by first | exact fr_mul64 rfl rfl rfl (by omega) | exact fr_mul rfl rfl rfl) rfl rfl rfl ?_
                refine ExL.pures 2 rfl ?_
                refine ExL.free (fr_indexS (l := t) (k) rfl rfl rfl rfl (by first | rfl | omega) (by omega)) rfl rfl rfl ?_
                refine ExL.free (fr_subZ rfl rfl rfl (by omega)) rfl rfl rfl ?_
                refine ExL.free (by first | exact fr_conv64 rfl rfl rfl rfl (by omega) | exact fr_conv rfl rfl rfl rfl) rfl rfl rfl ?_
                refine ExL.free (by first | exact fr_add64 rfl rfl rfl (by omega) | exact fr_add rfl rfl rfl) rfl rfl rfl ?_
                refine ExL.pures 1 rfl ?_
                refine ExL.nil ?_
                refine Ex.region (ExL.pures 1 rfl ?_)
                refine ExL.free (by first | exact fr_add64 rfl rfl rfl (by omega) | exact fr_add rfl rfl rfl) rfl rfl rfl ?_
                refine ExL.pures 1 rfl ?_
                refine ExL.nil ?_
                refine Hand.mk (k + 1) 0 [] ⟨agI hns, rfl, trivial⟩ ⟨rfl, trivial⟩ (rfl) rfl (⟨by omega, all_snoc hall hdg⟩) (by omega)
          · refine ExL.nil ?_
            refine Ex.cond_f rfl ?_
            refine Ex.exit ?_
            obtain rfl : k = t.length := by omega
            refine Ex.regSeq (ExL.pures 3 rfl ?_)
            refine ExL.nil ?_
            refine Ex.ret ?_
            refine RetQ.mk () rfl (.tmp rfl (.tmp rfl .nil)) ((by first | (rw [numR_bad (B := 9) (.inl (by assumption))]; rfl) | (rw [numR_bad (B := 9) (.inr (.inl (by omega)))]; rfl) | (rw [numR_bad (B := 9) (.inr (.inr (.inl ⟨u8_48 (by assumption), by omega⟩)))]; rfl) | (rw [numR_bad (B := 9) (.inr (.inr (.inr ⟨k, by omega, fun h => by have := h.1; have := h.2; omega⟩)))]; rfl) | (rw [numR_ok (B := 9) (by assumption) (by omega) (fun h => by first | (have := h.2; omega) | exact u8_48n (by assumption) h.1) hall]; rfl))) [] (rfl) rfl (trivial)
      · refine ExL.pures 6 rfl ?_
        refine ExL.nil ?_
        refine Ex.cond_f rfl ?_
        refine Ex.skip ?_
        refine Ex.regSeq (ExL.pures 1 rfl ?_)
        refine ExL.nil ?_
        refine Ex.seq ?_
        refine Ex.regSeq (ExL.pures 1 rfl ?_)
        refine ExL.nil ?_
        refine Ex.block ?_
        refine Ex.loopK (X := Nat) (fun k => [(4, .int .i64 (numV (t.take k) : Int)), (5, .int .i64 k)]) (fun k => []) (fun k => k ≤ t.length ∧ ∀ j, j < k → isDig (t.getD j 0)) (fun k => t.length - k) 0 [(0, _)] [] 0 [] ⟨rfl, rfl, trivial⟩ ⟨rfl, trivial⟩ (rfl) rfl ⟨Nat.zero_le _, fun j hj => by omega⟩ (fun k hI => ?_)
        have hI : k ≤ t.length ∧ ∀ j, j < k → isDig (t.getD j 0) := hI
        obtain ⟨hk, hall⟩ := hI
        refine Ex.seq ?_
        refine Ex.regSeq (ExL.pures 2 rfl ?_)
        refine ExL.free (fr_lenS (l := t) rfl rfl rfl) rfl rfl rfl ?_
        refine ExL.lss rfl rfl rfl rfl rfl rfl (fun h8 => ?_) (fun h8 => ?_)
        · refine ExL.nil ?_
          refine Ex.cond_t rfl ?_
          refine Ex.skip ?_
          refine Ex.seq ?_
          refine Ex.block ?_
          have hkl : k < t.length := by omega
          have hnv := numT_le hall (by omega) (by omega)
          refine Ex.seq ?_
          refine Ex.regSeq (ExL.pures 2 rfl ?_)
          refine ExL.free (fr_indexS (l := t) (k) rfl rfl rfl rfl (by first | rfl | omega) (by omega)) rfl rfl rfl ?_
          refine ExL.lss rfl rfl rfl rfl rfl rfl (fun h9 => ?_) (fun h9 => ?_)
          · refine ExL.pures 6 rfl ?_
            refine ExL.nil ?_
            refine Ex.cond_t rfl ?_
            refine Ex.regSeq (ExL.pures 2 rfl ?_)
            refine ExL.nil ?_
            refine Ex.ret ?_
            refine RetQ.mk () rfl (.tmp rfl (.tmp rfl .nil)) ((by first | (rw [numR_bad (B := 9) (.inl (by assumption))]; rfl) | (rw [numR_bad (B := 9) (.inr (.inl (by omega)))]; rfl) | (rw [numR_bad (B := 9) (.inr (.inr (.inl ⟨u8_48 (by assumption), by omega⟩)))]; rfl) | (rw [numR_bad (B := 9) (.inr (.inr (.inr ⟨k, by omega, fun h => by have := h.1; have := h.2; omega⟩)))]; rfl) | (rw [numR_ok (B := 9) (by assumption) (by omega) (fun h => by first | (have := h.2; omega) | exact u8_48n (by assumption) h.1) hall]; rfl))) [] (rfl) rfl (trivial)
          · refine ExL.pures 3 rfl ?_
            refine ExL.free (fr_indexS (l := t) (k) rfl rfl rfl rfl (by first | rfl | omega) (by omega)) rfl rfl rfl ?_
            refine ExL.gtr rfl rfl rfl rfl rfl rfl (fun h10 => ?_) (fun h10 => ?_)
            · refine ExL.pures 1 rfl ?_
              refine ExL.nil ?_
              refine Ex.cond_t rfl ?_
              refine Ex.regSeq (ExL.pures 2 rfl ?_)
              refine ExL.nil ?_
              refine Ex.ret ?_
              refine RetQ.mk () rfl (.tmp rfl (.tmp rfl .nil)) ((by first | (rw [numR_bad (B := 9) (.inl (by assumption))]; rfl) | (rw [numR_bad (B := 9) (.inr (.inl (by omega)))]; rfl) | (rw [numR_bad (B := 9) (.inr (.inr (.inl ⟨u8_48 (by assumption), by omega⟩)))]; rfl) | (rw [numR_bad (B := 9) (.inr (.inr (.inr ⟨k, by omega, fun h => by have := h.1; have := h.2; omega⟩)))]; rfl) | (rw [numR_ok (B := 9) (by assumption) (by omega) (fun h => by first | (have := h.2; omega) | exact u8_48n (by assumption) h.1) hall]; rfl))) [] (rfl) rfl (trivial)
            · refine ExL.pures 1 rfl ?_
              refine ExL.nil ?_
              refine Ex.cond_f rfl ?_
              refine Ex.skip ?_
              have hdg := isDig_of (c := t.getD k 0) (by assumption) (by assumption)
              have hns : 10 * (numV (t.take k) : Int) + (((t.getD k 0).toNat : Int) - 48) = (numV (t.take (k + 1)) : Int) := by rw [numT_s hkl]; have := hdg.1; omega
              have hd1 := hdg.1
              have hd2 := hdg.2
              refine Ex.region (ExL.pures 1 rfl ?_)
              refine ExL.free (by first | exact fr_mul64 rfl rfl rfl (by omega) | exact fr_mul rfl rfl rfl) rfl rfl rfl ?_
              refine ExL.pures 2 rfl ?_
              refine ExL.free (fr_indexS (l := t) (k) rfl rfl rfl rfl (by first | rfl | omega) (by omega)) rfl rfl rfl ?_
              refine ExL.free (fr_subZ rfl rfl rfl (by omega)) rfl rfl rfl ?_
              refine ExL.free (by first | exact fr_conv64 rfl rfl rfl rfl (by omega) | exact fr_conv rfl rfl rfl rfl) rfl rfl rfl ?_
              refine ExL.free (by first | exact fr_add64 rfl rfl rfl (by omega) | exact fr_add rfl rfl rfl) rfl rfl rfl ?_
              refine ExL.pures 1 rfl ?_
              refine ExL.nil ?_
              refine Ex.region (ExL.pures 1 rfl ?_)
              refine ExL.free (by first | exact fr_add64 rfl rfl rfl (by omega) | exact fr_add rfl rfl rfl) rfl rfl rfl ?_
              refine ExL.pures 1 rfl ?_
              refine ExL.nil ?_
              refine Hand.mk (k + 1) 0 [] ⟨agI hns, rfl, trivial⟩ ⟨rfl, trivial⟩ (rfl) rfl (⟨by omega, all_snoc hall hdg⟩) (by omega)
        · refine ExL.nil ?_
          refine Ex.cond_f rfl ?_
          refine Ex.exit ?_
          obtain rfl : k = t.length := by omega
          refine Ex.regSeq (ExL.pures 3 rfl ?_)
          refine ExL.nil ?_
          refine Ex.ret ?_
          refine RetQ.mk () rfl (.tmp rfl (.tmp rfl .nil)) ((by first | (rw [numR_bad (B := 9) (.inl (by assumption))]; rfl) | (rw [numR_bad (B := 9) (.inr (.inl (by omega)))]; rfl) | (rw [numR_bad (B := 9) (.inr (.inr (.inl ⟨u8_48 (by assumption), by omega⟩)))]; rfl) | (rw [numR_bad (B := 9) (.inr (.inr (.inr ⟨k, by omega, fun h => by have := h.1; have := h.2; omega⟩)))]; rfl) | (rw [numR_ok (B := 9) (by assumption) (by omega) (fun h => by first | (have := h.2; omega) | exact u8_48n (by assumption) h.1) hall]; rfl))) [] (rfl) rfl (trivial)
theorem e_30 : Enters Tryz.prog 30 := Enters.of Tryz.func30 rfl
theorem c_linesOf (t : List UInt8) (hl : t.length ≤ 1048576) : Ret Tryz.prog 30 [sv t] (fun w => RdO 0 1 2 w) (fun x : Nat => .tuple #[.slice (some ⟨x, 0, none⟩) ((splitA 10 [] t).length - 1) (splitA 10 [] t).length, .bool (decide ((splitA 10 [] t).getD ((splitA 10 [] t).length - 1) [] = []))]) (fun x => [.row (.slice (some ⟨x, 0, none⟩) (splitA 10 [] t).length (splitA 10 [] t).length) 9 1 (splitA 10 [] t).length ((splitA 10 [] t).flatMap eSt)]) (fun x => True) := by
  refine Ret.of e_30 Tryz.func30 rfl Tryz.ntmps30 rfl rfl (fun w hpre => ?_)
  have hrd := hpre
  have hpp := splitA_pos 10 t
  have hpn := splitA_len 10 t []
  have hm0 : maxLen = 9223372036854775807 := rfl
  refine Ex.regSeq (ExL.pures 2 rfl ?_)
  refine ExL.nil ?_
  refine Ex.regSeq (ExL.pures 1 rfl ?_)
  refine ExL.op rfl (op_ret rfl rfl rfl (c_Split t 10 (by omega)) (fun w hw => RdO.keep hrd hw) rfl rfl (fun x1 hx1 => ?_))
  refine ExL.pures 1 rfl ?_
  refine ExL.nil ?_
  refine Ex.regSeq (ExL.pures 2 rfl ?_)
  refine ExL.free (by first | exact fr_sub64 rfl rfl rfl (by omega) | exact fr_sub rfl rfl rfl) rfl rfl rfl ?_
  refine ExL.pures 1 rfl ?_
  refine ExL.nil ?_
  refine Ex.drawSeqM rfl ?_
  refine ExD.take (i := 0) rfl (by kernel_rfl) (pureVal_ok rfl) ((List.Sublist.refl _)) rfl rfl rfl ?_
  refine ExD.take (i := 1) rfl (by kernel_rfl) (pureVal_ok rfl) ((List.Sublist.refl _)) rfl rfl rfl ?_
  refine ExD.take (i := 2) rfl (by kernel_rfl) (fr_slice_h (sz := 1) (((splitA 10 [] t).length - 1)) (by first | rfl | (push_cast; rfl) | omega) rfl rfl rfl rfl rfl (by omega)) ((List.Sublist.refl _)) rfl rfl rfl ?_
  refine ExD.take (i := 3) rfl (by kernel_rfl) (pureVal_ok rfl) ((List.Sublist.refl _)) rfl rfl rfl ?_
  refine ExD.take (i := 4) rfl (by kernel_rfl) (pureVal_ok rfl) ((List.Sublist.refl _)) rfl rfl rfl ?_
  refine ExD.take (i := 5) rfl (by kernel_rfl) (fr_indexAddr (sz := 1) rfl rfl rfl rfl rfl rfl (by omega)) ((List.Sublist.refl _)) rfl rfl rfl ?_
  refine ExD.take (i := 6) rfl (by kernel_rfl) (fr_load rfl rfl rfl rfl (cellJ (((splitA 10 [] t).length - 1)) (Reads.row (i := 0) rfl) eSt_len ([] : List UInt8) 0 rfl (by omega) (by omega) rfl)) ((List.Sublist.refl _)) rfl rfl rfl ?_
  refine ExD.take (i := 7) rfl (by kernel_rfl) (fr_eqlS (l := ((splitA 10 [] t).getD ((splitA 10 [] t).length - 1) [])) (r := []) rfl rfl rfl) ((List.Sublist.refl _)) rfl rfl rfl ?_
  refine ExD.take (i := 8) rfl (by kernel_rfl) (pureVal_ok rfl) ((List.Sublist.refl _)) rfl rfl rfl ?_
  refine ExD.take (i := 9) rfl (by kernel_rfl) (pureVal_ok rfl) ((List.Sublist.refl _)) rfl rfl rfl ?_
  refine ExD.done (by kernel_rfl) ?_
  refine Ex.ret ?_
  refine RetQ.mk _ rfl (.tmp rfl (.tmp rfl .nil)) (rfl) [0] (rfl) rfl (trivial)
end Go.Proofs.YtejedjgajcjejaaGreatDoor

/- Digits read from their texts: digits are read iff the text is theirs. -/
set_option linter.unusedVariables false
set_option linter.unusedSimpArgs false
namespace Go.W
open Go Go.Sx
theorem parse_digitsM {M : Nat} (hM : M ≤ 2 ^ 64 - 1) : ∀ (l : List UInt8) (a : Nat), (∀ c ∈ l, isDig c) → numF a l ≤ M → Lib.parseUintM M a l = .ok (numF a l)
  | [], a, _, _ => rfl
  | c :: r, a, hd, hn => by
    have hc : isDig c := hd c (by simp)
    have e : numF a (c :: r) = numF (10 * a + (c.toNat - 48)) r := rfl
    rw [e] at hn ⊢
    have hg := numF_ge r (10 * a + (c.toNat - 48))
    unfold isDig at hc
    rw [Lib.parseUintM, if_pos hc, if_neg (by omega), if_neg (by omega), Nat.mul_comm a 10]
    exact parse_digitsM hM r _ (fun x hx => hd x (List.mem_cons_of_mem _ hx)) hn
/-- What a digit's text is. -/
theorem dgT_dig {b d : Int} (h : 0 ≤ d) : ∀ c ∈ dgT b d, isDig c := fun c hc => by
  have hk := (itoa_ok _ d rfl h).1.2.1
  unfold dgT at hc
  split at hc
  · rw [List.mem_cons] at hc
    rcases hc with rfl | hc
    · exact ⟨by decide, by decide⟩
    · exact hk c hc
  · exact hk c hc
theorem dgT_val {b d : Int} (h : 0 ≤ d) : (numV (dgT b d) : Int) = d := by
  have hv := (itoa_ok _ d rfl h).2
  unfold dgT
  split
  · show ((numV (48 :: Lib.itoa d) : Nat) : Int) = d
    have e : numV (48 :: Lib.itoa d) = numV (Lib.itoa d) := rfl
    rw [e]; exact hv
  · exact hv
theorem dgT_ne {b d : Int} : dgT b d ≠ [] := fun e => by
  have := dgT_pos b d
  rw [e] at this
  simp at this
theorem dgT_inj {b d e : Int} (h : 0 ≤ d) (h1 : 0 ≤ e) (h2 : dgT b d = dgT b e) : d = e := by
  have a := dgT_val (b := b) h
  have c := dgT_val (b := b) h1
  rw [h2, c] at a
  exact a.symm
/-- A text that ParseUint reads as a number of seven bits. -/
def U7 (t : List UInt8) (u : Int) : Prop := 0 ≤ u ∧ u ≤ 127 ∧ Lib.parseUintB 7 t = .ok u.toNat
theorem dgT_U7 {b d : Int} (h : 0 ≤ d) (h1 : d ≤ 127) : U7 (dgT b d) d := by
  refine ⟨h, h1, ?_⟩
  have hv := dgT_val (b := b) h
  unfold Lib.parseUintB
  rw [if_neg dgT_ne]
  have e : numF 0 (dgT b d) = numV (dgT b d) := rfl
  rw [parse_digitsM (by decide) _ 0 (dgT_dig h) (by rw [e]; omega), e]
  congr 1
  omega
theorem U7_one {t : List UInt8} {u v : Int} (h : U7 t u) (h1 : U7 t v) : u = v := by
  obtain ⟨a, b, c⟩ := h
  obtain ⟨d, e, f⟩ := h1
  rw [c] at f
  injection f with f
  omega
/-- No digits have this text. -/
def NoDig (s : List Int) (t : List UInt8) : Prop := ∀ d : Dig, Nums 255 d.l → validDig s d.l = true → digT s d.l ≠ t
theorem dg_no {b d : Int} {c : UInt8} (h : 0 ≤ d) (hc : c.toNat < 48 ∨ 57 < c.toNat) : c ∉ dgT b d := fun hm => by
  have := dgT_dig h c hm
  unfold isDig at this
  omega
theorem dig_parts {s : List Int} {d : List Int} (hs : Stk s) (hd : DigOk s d) : splitA 58 [] (digT s d) = partsF (dpart s d) s.length := by
  unfold digT
  refine split_join _ (by intro e; have h1 := congrArg List.length e; rw [partsF_len] at h1; have h2 := hs.len1; rw [List.length_nil] at h1; omega) fun x hx => ?_
  obtain ⟨i, hi, rfl⟩ := List.mem_map.1 hx
  have hi := List.mem_range.1 hi
  have h2 := hd (s.length - 1 - i) (by omega)
  exact dg_no h2.1 (.inr (by decide))
theorem parts_getD (f : Nat → List UInt8) {k i : Nat} (h : i < k) : (partsF f k).getD i [] = f i := by
  simp [partsF, List.getD, h]
/-- The word that a digit has. -/
theorem dig_word {s : List Int} {t : List UInt8} {d : Dig} (hs : Stk s) (hn : Nums 255 d.l) (hv : validDig s d.l = true) (ht : digT s d.l = t) {j : Nat} (hj : j < s.length) : (splitA 58 [] t).getD (s.length - 1 - j) [] = dgT (s.getD j 0) (d.l.getD j 0) ∧ 0 ≤ d.l.getD j 0 ∧ d.l.getD j 0 < s.getD j 0 ∧ s.getD j 0 ≤ 100 := by
  have hd := digOk hs.len8 hn hv
  rw [← ht, dig_parts hs hd, parts_getD _ (by omega)]
  have h2 := hd j hj
  have h3 := hs.bases j hj
  refine ⟨?_, h2.1, h2.2, h3.2⟩
  unfold dpart
  rw [show s.length - 1 - (s.length - 1 - j) = j by omega]
theorem ndg_len {s : List Int} {t : List UInt8} (hs : Stk s) (h : (splitA 58 [] t).length ≠ s.length) : NoDig s t := fun d hn hv ht => by
  rw [← ht, dig_parts hs (digOk hs.len8 hn hv), partsF_len] at h
  exact h rfl
theorem ndg_byte {s : List Int} {t : List UInt8} {j k : Nat} (hs : Stk s) (hj : j < s.length) (hk : k < ((splitA 58 [] t).getD (s.length - 1 - j) []).length) (h : ¬ isDig (((splitA 58 [] t).getD (s.length - 1 - j) []).getD k 0)) : NoDig s t := fun d hn hv ht => by
  obtain ⟨h1, h2, h3, h4⟩ := dig_word hs hn hv ht hj
  rw [h1] at hk h
  refine h (dgT_dig (b := s.getD j 0) h2 _ ?_)
  generalize dgT (s.getD j 0) (d.l.getD j 0) = x at hk ⊢
  simp [List.getD, hk]
theorem ndg_big {s : List Int} {t : List UInt8} {j : Nat} {n : Int} (hs : Stk s) (hj : j < s.length) (hn : n = (numV (((splitA 58 [] t).getD (s.length - 1 - j) []).take 3) : Int)) (h : ¬ (n < s.getD j 0 ∧ dgT (s.getD j 0) n = (splitA 58 [] t).getD (s.length - 1 - j) [])) : NoDig s t := fun d hnu hv ht => by
  obtain ⟨h1, h2, h3, h4⟩ := dig_word hs hnu hv ht hj
  have hl := dgT_le (b := s.getD j 0) h2 (by omega)
  rw [h1, List.take_of_length_le (by omega), dgT_val h2] at hn
  subst hn
  exact h ⟨h3, h1.symm⟩
theorem ndg_err {s : List Int} {t : List UInt8} {j : Nat} (hs : Stk s) (hj : j < s.length) (h : ∀ u, ¬ U7 ((splitA 58 [] t).getD (s.length - 1 - j) []) u) : NoDig s t := fun d hn hv ht => by
  obtain ⟨h1, h2, h3, h4⟩ := dig_word hs hn hv ht hj
  rw [h1] at h
  exact h _ (dgT_U7 h2 (by omega))
/-- The digits of the places below k are as told, and all others nought. -/
def DigB (s : List Int) (t : List UInt8) (d : List Int) (k : Nat) : Prop := ∀ j, j < 8 → (j < k → dgT (s.getD j 0) (d.getD j 0) = (splitA 58 [] t).getD (s.length - 1 - j) [] ∧ 0 ≤ d.getD j 0 ∧ d.getD j 0 < s.getD j 0) ∧ (k ≤ j → d.getD j 0 = 0)
theorem digB_0 (s : List Int) (t : List UInt8) : DigB s t [0, 0, 0, 0, 0, 0, 0, 0] 0 := fun j hj => ⟨fun h => by omega, fun _ => by
  rcases j with _ | _ | _ | _ | _ | _ | _ | _ | j <;> first | rfl | omega⟩
theorem digB_s {s : List Int} {t : List UInt8} {d : List Int} {k : Nat} {n : Int} (hl : d.length = 8) (hk : k < 8) (h : DigB s t d k) (h0 : 0 ≤ n) (h1 : n < s.getD k 0) (h2 : dgT (s.getD k 0) n = (splitA 58 [] t).getD (s.length - 1 - k) []) : DigB s t (d.set k n) (k + 1) := fun j hj => by
  by_cases e : j = k
  · subst e
    have e1 : (d.set j n).getD j 0 = n := by simp [List.getD, hl, hj]
    rw [e1]
    exact ⟨fun _ => ⟨h2, h0, h1⟩, fun h => by omega⟩
  · have e1 : (d.set k n).getD j 0 = d.getD j 0 := by simp [List.getD, List.getElem?_set, Ne.symm e]
    rw [e1]
    exact ⟨fun hjk => (h j hj).1 (by omega), fun hjk => (h j hj).2 (by omega)⟩
/-- Digits that are as told at all places have the text. -/
theorem digB_end {s : List Int} {t : List UInt8} {d : List Int} (hs : Stk s) (hl : (splitA 58 [] t).length = s.length) (h : DigB s t d s.length) : validDig s d = true ∧ digT s d = t := by
  have h8 := hs.len8
  constructor
  · unfold validDig
    rw [List.all_eq_true]
    intro j hj
    have hj : j < 8 := List.mem_range.1 hj
    unfold goodAt
    by_cases hjs : j < s.length
    · rw [if_pos hjs, decide_eq_true_iff]; exact ((h j hj).1 hjs).2.2
    · rw [if_neg hjs, decide_eq_true_iff]; exact (h j hj).2 (by omega)
  · have hj := join_split 58 t []
    rw [List.nil_append] at hj
    rw [← hj]
    unfold digT
    congr 1
    apply List.ext_getElem
    · rw [partsF_len, hl]
    · intro i h1 h2
      rw [partsF_len] at h1
      have h3 := ((h (s.length - 1 - i) (by omega)).1 (by omega)).1
      rw [show s.length - 1 - (s.length - 1 - i) = i by omega] at h3
      have h4 : (partsF (dpart s d) s.length)[i] = dpart s d i := by simp [partsF]
      rw [h4]
      unfold dpart
      rw [h3]
      simp [List.getD, h2]
theorem key9 {d e : Dig} {j : Nat} (h1 : d.l.getD j 0 = e.l.getD j 0) (h3 : j < d.l.length) (h4 : j < e.l.length) : d.l[j] = e.l[j] := by
  unfold List.getD at h1
  rw [List.getElem?_eq_getElem h3, List.getElem?_eq_getElem h4] at h1
  exact h1
theorem dig_one {s : List Int} {d e : Dig} (hs : Stk s) (hd : Nums 255 d.l) (he : Nums 255 e.l) (h1 : validDig s d.l = true) (h2 : validDig s e.l = true) (h : digT s d.l = digT s e.l) : d = e := by
  apply dig_inj
  apply List.ext_getElem ((dig_len _).trans (dig_len _).symm)
  intro j h30 h4
  have h3 : j < 8 := h30
  have key : d.l.getD j 0 = e.l.getD j 0 := by
    by_cases hj : j < s.length
    · obtain ⟨a1, a2, _⟩ := dig_word hs hd h1 h hj
      obtain ⟨b1, b2, _⟩ := dig_word hs he h2 rfl hj
      exact dgT_inj a2 b2 (a1.symm.trans b1)
    · have f : ∀ {x : Dig}, validDig s x.l = true → x.l.getD j 0 = 0 := fun {x} hx => by
        unfold validDig at hx
        rw [List.all_eq_true] at hx
        have := hx j (List.mem_range.2 h3)
        unfold goodAt at this
        rwa [if_neg hj, decide_eq_true_iff] at this
      rw [f h1, f h2]
  exact key9 key h30 h4
/-- The parts of the places from the top down are numbers of seven bits: the digits that the program lays. -/
def DigU (s : List Int) (t : List UInt8) (d : List Int) (k : Nat) : Prop := ∀ j, j < 8 → (s.length - k ≤ j → j < s.length → U7 ((splitA 58 [] t).getD (s.length - 1 - j) []) (d.getD j 0)) ∧ ((j < s.length - k ∨ s.length ≤ j) → d.getD j 0 = 0)
theorem digU_0 (s : List Int) (t : List UInt8) : DigU s t [0, 0, 0, 0, 0, 0, 0, 0] 0 := fun j hj => ⟨fun h => by omega, fun _ => by
  rcases j with _ | _ | _ | _ | _ | _ | _ | _ | j <;> first | rfl | omega⟩
theorem digU_s {s : List Int} {t : List UInt8} {d : List Int} {k q : Nat} {n : Int} (hl : d.length = 8) (hs : s.length ≤ 8) (hk : k < s.length) (hq : q = s.length - 1 - k) (h : DigU s t d k) (h0 : U7 ((splitA 58 [] t).getD k []) n) : DigU s t (d.set q n) (k + 1) := fun j hj => by
  subst hq
  by_cases e : j = s.length - 1 - k
  · subst e
    have e1 : (d.set (s.length - 1 - k) n).getD (s.length - 1 - k) 0 = n := by simp [List.getD, hl, hj]
    rw [e1]
    exact ⟨fun _ _ => by rw [show s.length - 1 - (s.length - 1 - k) = k by omega]; exact h0, fun h => by omega⟩
  · have e1 : (d.set (s.length - 1 - k) n).getD j 0 = d.getD j 0 := by simp [List.getD, List.getElem?_set, Ne.symm e]
    rw [e1]
    exact ⟨fun a b => (h j hj).1 (by omega) b, fun a => (h j hj).2 (by omega)⟩
/-- The program's digits do not have the text: none do. -/
theorem ndg_end {s : List Int} {t : List UInt8} {d : Dig} (hv : validStack s = true) (hd : DigU s t d.l s.length) (h : digTx s d.l ≠ t) : NoDig s t := fun e hn hve ht => by
  have hs := stk hv
  have he : d = e := by
    apply dig_inj
    apply List.ext_getElem ((dig_len _).trans (dig_len _).symm)
    intro j h30 h4
    have h3 : j < 8 := h30
    have key : d.l.getD j 0 = e.l.getD j 0 := by
      by_cases hj : j < s.length
      · obtain ⟨a1, a2, a3, a4⟩ := dig_word hs hn hve ht hj
        have := (hd j h3).1 (by omega) hj
        rw [a1] at this
        exact U7_one this (dgT_U7 a2 (by omega))
      · have := (hd j h3).2 (.inr (by omega))
        rw [this]
        unfold validDig at hve
        rw [List.all_eq_true] at hve
        have := hve j (List.mem_range.2 h3)
        unfold goodAt at this
        rw [if_neg hj, decide_eq_true_iff] at this
        exact this.symm
    exact key9 key h30 h4
  subst he
  exact h (by rw [digTx_t (by rw [hv, hve]; rfl)]; exact ht)
def dig0 : Dig := ⟨0, 0, 0, 0, 0, 0, 0, 0⟩
/-- What is read of a text: the digits, and 0; or none, and 5. -/
def DigRd (s : List Int) (t : List UInt8) (x : Dig × Int) : Prop := Nums 255 x.1.l ∧ ((x.2 = 0 ∧ validDig s x.1.l = true ∧ digT s x.1.l = t) ∨ (x.2 = 5 ∧ x.1 = dig0 ∧ NoDig s t))
theorem digRd_one {s : List Int} {t : List UInt8} {x y : Dig × Int} (hs : Stk s) (hx : DigRd s t x) (hy : DigRd s t y) : x = y := by
  obtain ⟨nx, hx⟩ := hx
  obtain ⟨ny, hy⟩ := hy
  rcases hx with ⟨a1, a2, a3⟩ | ⟨a1, a2, a3⟩
  · rcases hy with ⟨b1, b2, b3⟩ | ⟨b1, b2, b3⟩
    · exact Prod.ext (dig_one hs nx ny a2 b2 (a3.trans b3.symm)) (a1.trans b1.symm)
    · exact absurd a3 (b3 x.1 nx a2)
  · rcases hy with ⟨b1, b2, b3⟩ | ⟨b1, b2, b3⟩
    · exact absurd b3 (a3 y.1 ny b2)
    · exact Prod.ext (a2.trans b2.symm) (a1.trans b1.symm)
end Go.W

/- What the readers of digits carry on. -/
set_option linter.unusedVariables false
set_option linter.unusedSimpArgs false
namespace Go.Sx
open Go Go.RowKit
variable {C : Cx} {env env' : Env} {m m' : List Ent} {o : Oper} {K : Env → List Ent → Prop}
theorem fr_sub64J {T x y T' p q} (j : Nat) (ho : o.op = .binOp .sub T x y T') (hx : ev env x = some (.int .i64 p)) (hy : ev env y = some (.int .i64 q)) (h : p - q = (j : Int)) (hj : j ≤ 4611686018427387904) : Free C o env m (.int .i64 (j : Int)) := by
  have := fr_sub64 (C := C) (m := m) ho hx hy (by omega)
  rwa [h] at this
theorem set_put {α : Type} {f : α → List Value} {sz : Nat} (hf : ∀ x, (f x).length = sz) (xs : List α) (k : Nat) (y : α) (h : k < xs.length) {i : Nat} (hi : i = k * sz) {v : List Value} (hv : v = f y) : put (xs.flatMap f) i v = (xs.set k y).flatMap f := by
  subst hi hv
  exact flat_put hf xs k y h
end Go.Sx
namespace Go.W
open Go Go.Sx
/-- Digits laid so far. -/
structure DgS where
  k : Nat
  d : List Int
def zeros8 : List Int := [0, 0, 0, 0, 0, 0, 0, 0]
theorem nums_set {d : List Int} (h : Nums 255 d) {i : Nat} {n : Int} (hn : 0 ≤ n ∧ n ≤ 255) : Nums 255 (d.set i n) := fun x hx => by
  rcases List.mem_or_eq_of_mem_set hx with h1 | h1
  · exact h x h1
  · subst h1; exact hn
theorem nums_z : Nums 255 zeros8 := fun x hx => by
  simp only [zeros8, List.mem_cons, List.not_mem_nil, or_false, or_self] at hx
  subst hx
  exact ⟨by decide, by decide⟩
theorem take3 {w : List UInt8} {j : Nat} (h : j ≤ 3) (h1 : j = w.length ∨ j = 3) : w.take j = w.take 3 := by
  rcases h1 with rfl | rfl
  · rw [List.take_length, List.take_of_length_le h]
  · rfl
/-- The digits that the specification reads, if there are any. -/
def L01 (s : List Int) (t : List UInt8) (x : Dig × Bool) : Prop := Nums 255 x.1.l ∧ ((x.2 = true ∧ validDig s x.1.l = true ∧ digT s x.1.l = t) ∨ (x.2 = false ∧ NoDig s t))
theorem l01_no {s : List Int} {t : List UInt8} (h : NoDig s t) : L01 s t (dig0, false) := ⟨nums_z, .inr ⟨rfl, h⟩⟩
theorem l01_yes {s : List Int} {t : List UInt8} {d : List Int} (hs : Stk s) (h8 : d.length = 8) (hn : Nums 255 d) (hl : (splitA 58 [] t).length = s.length) (h : DigB s t d s.length) : L01 s t (dig d, true) := by
  have := digB_end hs hl h
  unfold L01
  rw [dig_l h8]
  exact ⟨hn, .inl ⟨rfl, this⟩⟩
/-- What is read of a text for a stack, a valid one or not. -/
def RdDig (s : List Int) (t : List UInt8) (x : Dig × Int) : Prop := (validStack s = false ∧ x = (dig0, 1)) ∨ (validStack s = true ∧ DigRd s t x)
theorem rdDig_one {s : List Int} {t : List UInt8} {x y : Dig × Int} (hx : RdDig s t x) (hy : RdDig s t y) : x = y := by
  rcases hx with ⟨a, rfl⟩ | ⟨a, hx⟩
  · rcases hy with ⟨_, rfl⟩ | ⟨b, _⟩
    · rfl
    · rw [a] at b; cases b
  · rcases hy with ⟨b, _⟩ | ⟨b, hy⟩
    · rw [a] at b; cases b
    · exact digRd_one (stk a) hx hy
theorem rdDig_num {s : List Int} {t : List UInt8} {x : Dig × Int} (hx : RdDig s t x) : Nums 255 x.1.l := by
  rcases hx with ⟨_, rfl⟩ | ⟨_, hx⟩
  · exact nums_z
  · exact hx.1
theorem rdDig_v {s : List Int} {t : List UInt8} (h : validStack s = false) : RdDig s t (dig0, 1) := .inl ⟨h, rfl⟩
theorem rdDig_no {s : List Int} {t : List UInt8} (h : validStack s = true) (h1 : NoDig s t) : RdDig s t (dig0, 5) := .inr ⟨h, nums_z, .inr ⟨rfl, rfl, h1⟩⟩
theorem rdDig_f {s : List Int} {t : List UInt8} {x : Dig × Bool} (h : validStack s = true) (h1 : L01 s t x) (h2 : x.2 = false) : RdDig s t (dig0, 5) := by
  rcases h1.2 with ⟨e, _⟩ | ⟨_, e⟩
  · rw [h2] at e; cases e
  · exact rdDig_no h e
theorem rdDig_t {s : List Int} {t : List UInt8} {x : Dig × Bool} (h : validStack s = true) (h1 : L01 s t x) (h2 : x.2 = true) : RdDig s t (x.1, 0) := by
  rcases h1.2 with ⟨_, e⟩ | ⟨e, _⟩
  · exact .inr ⟨h, h1.1, .inl ⟨rfl, e⟩⟩
  · rw [h2] at e; cases e
/-- The program's digits have the text: they are valid. -/
theorem rdDig_i {s : List Int} {t : List UInt8} {d : List Int} (h : validStack s = true) (h8 : d.length = 8) (hn : Nums 255 d) (hl : (splitA 58 [] t).length = s.length) (hd : DigU s t d s.length) (ht : digTx s (dig d).l = t) : RdDig s t (dig d, 0) := by
  refine .inr ⟨h, ?_⟩
  unfold DigRd
  rw [dig_l h8] at ht ⊢
  refine ⟨hn, .inl ⟨rfl, ?_⟩⟩
  cases hv : validDig s d
  · exfalso
    rw [digTx_f (by rw [h, hv]; rfl)] at ht
    subst ht
    have hs := stk h
    have h1 := hs.len1
    have hl : [[]].length = s.length := hl
    simp only [List.length_cons, List.length_nil] at hl
    have h2 := (hd 0 (by omega)).1 (by omega) (by omega)
    rw [show s.length - 1 - 0 = 0 by omega] at h2
    have h3 : U7 [] (d.getD 0 0) := h2
    have h4 := h3.2.2
    exact absurd h4 (by simp [Lib.parseUintB])
  · exact ⟨rfl, by rw [← ht]; exact (digTx_t (by rw [h, hv]; rfl)).symm⟩
theorem rdDig_n {s : List Int} {t : List UInt8} {d : List Int} (h : validStack s = true) (h8 : d.length = 8) (hd : DigU s t d s.length) (ht : ¬ digTx s (dig d).l = t) : RdDig s t (dig0, 5) :=
  rdDig_no h (ndg_end h (d := dig d) (by rw [dig_l h8]; exact hd) ht)
/-! ### ParseUint at seven bits -/
def PUint (t : List UInt8) (n : Int) (b : Bool) : Prop := (0 ≤ n ∧ n ≤ 127) ∧ (b = true → U7 t n) ∧ (b = false → ∀ u, ¬ U7 t u)
theorem pum_dig {acc : Nat} {c : UInt8} {r : List UInt8} (h : isDig c) (h0 : acc ≤ 127) (h1 : acc * 10 + (c.toNat - 48) ≤ 127) : Lib.parseUintM 127 acc (c :: r) = Lib.parseUintM 127 (acc * 10 + (c.toNat - 48)) r := by
  unfold isDig at h
  rw [Lib.parseUintM, if_pos h, if_neg (by omega), if_neg (by omega)]
theorem pum_over {acc : Nat} {c : UInt8} {r : List UInt8} (h : isDig c) (h0 : acc ≤ 127) (h1 : 127 < acc * 10 + (c.toNat - 48)) : Lib.parseUintM 127 acc (c :: r) = .range := by
  unfold isDig at h
  rw [Lib.parseUintM, if_pos h, if_neg (by omega), if_pos h1]
theorem pum_no {acc : Nat} {c : UInt8} {r : List UInt8} (h : ¬ isDig c) : Lib.parseUintM 127 acc (c :: r) = Lib.parseUintB 7 [] := by
  unfold isDig at h
  rw [Lib.parseUintM, if_neg h]; rfl
/-- What has been read of a text's first k bytes. -/
def PUm (t : List UInt8) (k : Nat) (n : Nat) : Prop := n ≤ 127 ∧ Lib.parseUintM 127 0 t = Lib.parseUintM 127 n (t.drop k)
theorem pUm_0 (t : List UInt8) : PUm t 0 0 := ⟨by decide, rfl⟩
theorem pUm_s {t : List UInt8} {k n : Nat} (hk : k < t.length) (h : PUm t k n) (hd : isDig (t.getD k 0)) (h1 : n * 10 + ((t.getD k 0).toNat - 48) ≤ 127) : PUm t (k + 1) (n * 10 + ((t.getD k 0).toNat - 48)) := by
  refine ⟨h1, ?_⟩
  rw [h.2, drop_getD hk, pum_dig hd h.1 h1]
/-- The end that ParseUint comes to. -/
def PEnd (t : List UInt8) (x : Int × Int) : Prop := (x.2 = 0 ∧ U7 t x.1) ∨ (x.2 ≠ 0 ∧ (0 ≤ x.1 ∧ x.1 ≤ 127) ∧ (∀ u, ¬ U7 t u) ∧ (x.2 = 1 ∨ x.2 = 2))
theorem u7_no {t : List UInt8} (h : ∀ n, Lib.parseUintB 7 t ≠ .ok n) : ∀ u, ¬ U7 t u := fun u hu => h _ hu.2.2
theorem puB {t : List UInt8} (h : ¬ t = []) : Lib.parseUintB 7 t = Lib.parseUintM 127 0 t := by unfold Lib.parseUintB; rw [if_neg h]
theorem pend_e {t : List UInt8} (h : t = []) : PEnd t (0, 2) := .inr ⟨by decide, ⟨by decide, by decide⟩, u7_no (fun n => by subst h; simp [Lib.parseUintB]), .inr rfl⟩
theorem pend_no {t : List UInt8} {k n : Nat} (h : ¬ t = []) (hk : k < t.length) (hp : PUm t k n) (hd : ¬ isDig (t.getD k 0)) : PEnd t (0, 2) := .inr ⟨by decide, ⟨by decide, by decide⟩, u7_no (fun m => by rw [puB h, hp.2, drop_getD hk, pum_no hd]; simp [Lib.parseUintB]), .inr rfl⟩
theorem pend_over {t : List UInt8} {k n : Nat} (h : ¬ t = []) (hk : k < t.length) (hp : PUm t k n) (hd : isDig (t.getD k 0)) (h1 : 127 < n * 10 + ((t.getD k 0).toNat - 48)) : PEnd t (127, 1) := .inr ⟨by decide, ⟨by decide, by decide⟩, u7_no (fun m => by rw [puB h, hp.2, drop_getD hk, pum_over hd hp.1 h1]; simp), .inl rfl⟩
theorem pend_ok {t : List UInt8} {k n : Nat} (h : ¬ t = []) (hk : k = t.length) (hp : PUm t k n) : PEnd t ((n : Int), 0) := .inl ⟨rfl, by simp only; omega, by have := hp.1; simp only; omega, by
  rw [puB h, hp.2, hk, List.drop_length]; rfl⟩
end Go.W
namespace Go.W
open Go Go.Sx
theorem pum_bd : ∀ (l : List UInt8) (a u : Nat), a ≤ 127 → Lib.parseUintM 127 a l = .ok u → u ≤ 127
  | [], a, u, ha, h => by
    injection h with h
    omega
  | c :: r, a, u, ha, h => by
    unfold Lib.parseUintM at h
    split at h
    · split at h
      · cases h
      · split at h
        · cases h
        · exact pum_bd r _ u (by omega) h
    · cases h
theorem puint_ok {t : List UInt8} {u : Nat} (h : Lib.parseUintB 7 t = .ok u) : PUint t u true := by
  have hb : u ≤ 127 := by
    unfold Lib.parseUintB at h
    split at h
    · cases h
    · exact pum_bd t 0 u (by decide) h
  refine ⟨⟨by omega, by omega⟩, fun _ => ⟨by omega, by omega, by rw [Int.toNat_natCast]; exact h⟩, ?_⟩
  intro e; exact absurd e (by simp)
theorem puint_no {t : List UInt8} {n : Int} (hn : 0 ≤ n ∧ n ≤ 127) (h : ∀ u, Lib.parseUintB 7 t ≠ .ok u) : PUint t n false := by
  refine ⟨hn, ?_, fun _ u hu => h _ hu.2.2⟩
  intro e; exact absurd e (by simp)
end Go.W

/- What these functions of the program hand back, each proved by walking its operations. -/
set_option linter.unusedVariables false
set_option linter.unusedSimpArgs false
set_option maxRecDepth 4000
namespace Go.Proofs.YtejedjgajcjejaaGreatDoor
open Go Go.Sx Go.RowKit Go.W Go.Proofs
attribute [local irreducible] Ex ExL ExD Op1 Free RetQ MutQ Reads CellO SegO LoadsAs
theorem e_49 : Enters Tryz.prog 49 := Enters.of Tryz.func49 rfl
theorem c_ParseUint (t : List UInt8) (hl : t.length ≤ 1048576) : Ret Tryz.prog 49 [sv t, .int .i64 10, .int .i64 7] (fun w => RdO 0 1 2 w) (fun x : Int × Bool × TypeId × Value => .tuple #[.int .u64 x.1, errV x.2.1 x.2.2.1 x.2.2.2]) (fun _ => []) (fun x => PUint t x.1 x.2.1) := by
  refine ⟨e_49, fun w hr => ?_⟩
  have hz : (mkB t).size = t.length := rfl
  cases h : Lib.parseUintB 7 t with
  | ok u =>
    refine (Go.U7.u7_ok Go.Proofs.Tryz.laysPu14 (mkB t) (by omega) u h w).mono ?_
    rintro e w' ⟨rfl, hw⟩
    refine ⟨((u : Int), true, 0, .nilIface), puint_ok h, rfl, ?_, by simp, List.Pairwise.nil⟩
    rcases hw with rfl | rfl
    · exact Below.refl _ _
    · exact Lib.bytesWorld_below _ _ _
  | range =>
    obtain ⟨ev, hv, hev⟩ := hr.rng
    refine (Go.U7.u7_rng Go.Proofs.Tryz.laysPu14 (mkB t) (by omega) h ev w hv hev).mono ?_
    rintro e w' ⟨N, rfl, _, _, hb⟩
    exact ⟨(127, false, _, _), puint_no ⟨by simp, by simp⟩ (fun z e => by rw [h] at e; cases e), rfl, hb, by simp, List.Pairwise.nil⟩
  | _ =>
    obtain ⟨ev, hv, hev⟩ := hr.syn
    refine (Go.U7.u7_syn Go.Proofs.Tryz.laysPu14 (mkB t) (by omega) h ev w hv hev).mono ?_
    rintro e w' ⟨N, rfl, _, _, hb⟩
    exact ⟨(0, false, _, _), puint_no ⟨by simp, by simp⟩ (fun z e => by rw [h] at e; cases e), rfl, hb, by simp, List.Pairwise.nil⟩
end Go.Proofs.YtejedjgajcjejaaGreatDoor

/- What these functions of the program hand back, each proved by walking its operations. -/
set_option linter.unusedVariables false
set_option linter.unusedSimpArgs false
set_option maxRecDepth 4000
namespace Go.Proofs.YtejedjgajcjejaaGreatDoor
open Go Go.Sx Go.RowKit Go.W Go.Proofs
attribute [local irreducible] Ex ExL ExD Op1 Free RetQ MutQ Reads CellO SegO LoadsAs
theorem e_68 : Enters Tryz.prog 68 := Enters.of Tryz.func68 rfl
theorem c_FormatInt (n : Int) (hn : -9223372036854775808 ≤ n ∧ n ≤ 9223372036854775807) : Ret Tryz.prog 68 [.int .i64 n, .int .i64 10] (fun w => TabO Tryz.prog w) (fun _ : Unit => sv (Lib.itoa n)) (fun _ => []) (fun _ => True) :=
  ⟨e_68, fun w ht => (Go.Proofs.Tryz.strconv_FormatInt_10 n hn.1 hn.2 w ht).mono (by rintro e w' ⟨rfl, q, os, rfl⟩; exact ⟨(), trivial, rfl, below_grw w q os, by simp, List.Pairwise.nil⟩)⟩
theorem e_48 : Enters Tryz.prog 48 := Enters.of Tryz.func48 rfl
theorem c_decimal (n : Int) (hn : -9223372036854775808 ≤ n ∧ n ≤ 9223372036854775807) : Ret Tryz.prog 48 [.int .i64 n] (fun w => TabO Tryz.prog w) (fun x : Unit => sv (Lib.itoa n)) (fun x => []) (fun x => True) := by
  refine Ret.of e_48 Tryz.func48 rfl Tryz.ntmps48 rfl rfl (fun w hpre => ?_)
  have htab := hpre
  refine Ex.regSeq (ExL.pures 1 rfl ?_)
  refine ExL.nil ?_
  refine Ex.regSeq (ExL.pures 1 rfl ?_)
  refine ExL.op rfl (op_ret rfl rfl rfl (c_FormatInt n (by omega)) (fun w hw => TabO.keep htab hw) rfl rfl (fun x1 hx1 => ?_))
  refine ExL.pures 1 rfl ?_
  refine ExL.nil ?_
  refine Ex.ret ?_
  refine RetQ.mk () rfl (.tmp rfl .nil) (rfl) [] (rfl) rfl (trivial)
theorem e_61 : Enters Tryz.prog 61 := Enters.of Tryz.func61 rfl
set_option maxHeartbeats 1000000 in
theorem dec_step (n : Int) (hn : 0 ≤ n ∧ n ≤ 9223372036854775807) (ih : 10 ≤ n → Ret Tryz.prog 61 [.int .i64 (n / 10)] (fun _ => True) (fun _ : Unit => sv (Lib.itoa (n / 10))) (fun _ => []) (fun _ => True)) : Ret Tryz.prog 61 [.int .i64 n] (fun w => True) (fun x : Unit => sv (Lib.itoa n)) (fun x => []) (fun x => True) := by
  refine Ret.of e_61 Tryz.func61 rfl Tryz.ntmps61 rfl rfl (fun w hpre => ?_)
  have hm1 := Int.emod_nonneg n (show (10 : Int) ≠ 0 by decide)
  have hm2 := Int.emod_lt_of_pos n (show (0 : Int) < 10 by decide)
  have hd1 : 0 ≤ n / 10 ∧ n / 10 ≤ n := by omega
  refine Ex.regSeq (ExL.pures 1 rfl ?_)
  refine ExL.nil ?_
  refine Ex.seq ?_
  refine Ex.regSeq (ExL.pures 1 rfl ?_)
  refine ExL.lss rfl rfl rfl rfl rfl rfl (fun h1 => ?_) (fun h1 => ?_)
  · refine ExL.nil ?_
    refine Ex.cond_t rfl ?_
    refine Ex.regSeq (ExL.pures 1 rfl ?_)
    refine ExL.free (by first | exact fr_remP rfl rfl rfl (by omega) | exact fr_rem rfl rfl rfl (by omega)) rfl rfl rfl ?_
    refine ExL.free (by first | exact fr_add64 rfl rfl rfl (by omega) | exact fr_add rfl rfl rfl) rfl rfl rfl ?_
    refine ExL.free (by first | exact fr_conv_u8 rfl rfl rfl rfl (by omega) | exact fr_conv rfl rfl rfl rfl) rfl rfl rfl ?_
    refine ExL.op rfl (op_buildSlice (sz := 1) rfl rfl rfl rfl rfl rfl rfl rfl (by decide) rfl rfl rfl (fun r2 => ?_))
    refine ExL.free (fr_convBS ([UInt8.ofNat (48 + n % 10).toNat]) rfl rfl (Reads.row (i := 0) rfl) (eU_one (by omega)) rfl (by decide) rfl rfl rfl) rfl rfl rfl ?_
    refine ExL.pures 1 rfl ?_
    refine ExL.nil ?_
    refine Ex.ret ?_
    refine RetQ.mk () rfl (.tmp rfl .nil) (tS (by first | exact (itoa_one (by omega) (by omega)).symm | exact (itoa_more (by omega) (by omega)).symm)) [] (rfl) rfl (trivial)
  · refine ExL.nil ?_
    refine Ex.cond_f rfl ?_
    refine Ex.skip ?_
    have hil := itoa_le (n := n / 10) (by omega)
    refine Ex.drawSeqM rfl ?_
    refine ExD.take (i := 0) rfl (by kernel_rfl) (pureVal_ok rfl) ((List.Sublist.refl _)) rfl rfl rfl ?_
    refine ExD.take (i := 1) rfl (by kernel_rfl) (by first | exact fr_quo64 rfl rfl rfl (by omega) | exact fr_quo rfl rfl rfl (by omega)) ((List.Sublist.refl _)) rfl rfl rfl ?_
    refine ExD.take (i := 3) rfl (by kernel_rfl) (pureVal_ok rfl) ((List.Sublist.refl _)) rfl rfl rfl ?_
    refine ExD.take (i := 4) rfl (by kernel_rfl) (by first | exact fr_remP rfl rfl rfl (by omega) | exact fr_rem rfl rfl rfl (by omega)) ((List.Sublist.refl _)) rfl rfl rfl ?_
    refine ExD.take (i := 5) rfl (by kernel_rfl) (by first | exact fr_add64 rfl rfl rfl (by omega) | exact fr_add rfl rfl rfl) ((List.Sublist.refl _)) rfl rfl rfl ?_
    refine ExD.take (i := 6) rfl (by kernel_rfl) (by first | exact fr_conv_u8 rfl rfl rfl rfl (by omega) | exact fr_conv rfl rfl rfl rfl) ((List.Sublist.refl _)) rfl rfl rfl ?_
    refine ExD.fork (i := 2) (j := 7) rfl rfl (by kernel_rfl) rfl rfl (op_ret rfl rfl rfl (ih (by omega)) (fun _ _ => trivial) rfl rfl (fun x3 hx3 => ⟨(List.Sublist.refl _), ?_⟩)) (op_buildSlice (sz := 1) rfl rfl rfl rfl rfl rfl rfl rfl (by decide) rfl rfl rfl (fun r4 => ⟨(List.nil_sublist _), ?_⟩))
    · refine ExD.op (i := 7) rfl (by kernel_rfl) rfl (op_buildSlice (sz := 1) rfl rfl rfl rfl rfl rfl rfl rfl (by decide) rfl rfl rfl (fun r5 => ⟨(List.nil_sublist _), ?_⟩))
      refine ExD.op (i := 8) rfl (by kernel_rfl) rfl (Op1.of_free (fr_convBS ([UInt8.ofNat (48 + n % 10).toNat]) rfl rfl (Reads.row (i := 0) rfl) (eU_one (by omega)) rfl (by decide) rfl rfl rfl) rfl rfl ⟨(List.nil_sublist _), ?_⟩)
      refine ExD.take (i := 9) rfl (by kernel_rfl) (fr_addS (l := Lib.itoa (n / 10)) (r := [UInt8.ofNat (48 + n % 10).toNat]) rfl rfl rfl (by first | omega | (simp only [List.length_append, List.length_cons, List.length_nil]; omega))) ((List.nil_sublist _)) rfl rfl rfl ?_
      refine ExD.take (i := 10) rfl (by kernel_rfl) (pureVal_ok rfl) ((List.nil_sublist _)) rfl rfl rfl ?_
      refine ExD.done (by kernel_rfl) ?_
      refine Ex.ret ?_
      refine RetQ.mk () rfl (.tmp rfl .nil) (tS (by first | exact (itoa_one (by omega) (by omega)).symm | exact (itoa_more (by omega) (by omega)).symm)) [] (rfl) rfl (trivial)
    · refine ExD.fork (i := 2) (j := 8) rfl rfl (by kernel_rfl) rfl rfl (op_ret rfl rfl rfl (ih (by omega)) (fun _ _ => trivial) rfl rfl (fun x6 hx6 => ⟨(List.nil_sublist _), ?_⟩)) (Op1.of_free (fr_convBS ([UInt8.ofNat (48 + n % 10).toNat]) rfl rfl (Reads.row (i := 0) rfl) (eU_one (by omega)) rfl (by decide) rfl rfl rfl) rfl rfl ⟨(List.nil_sublist _), ?_⟩)
      · refine ExD.op (i := 8) rfl (by kernel_rfl) rfl (Op1.of_free (fr_convBS ([UInt8.ofNat (48 + n % 10).toNat]) rfl rfl (Reads.row (i := 0) rfl) (eU_one (by omega)) rfl (by decide) rfl rfl rfl) rfl rfl ⟨(List.nil_sublist _), ?_⟩)
        refine ExD.take (i := 9) rfl (by kernel_rfl) (fr_addS (l := Lib.itoa (n / 10)) (r := [UInt8.ofNat (48 + n % 10).toNat]) rfl rfl rfl (by first | omega | (simp only [List.length_append, List.length_cons, List.length_nil]; omega))) ((List.nil_sublist _)) rfl rfl rfl ?_
        refine ExD.take (i := 10) rfl (by kernel_rfl) (pureVal_ok rfl) ((List.nil_sublist _)) rfl rfl rfl ?_
        refine ExD.done (by kernel_rfl) ?_
        refine Ex.ret ?_
        refine RetQ.mk () rfl (.tmp rfl .nil) (tS (by first | exact (itoa_one (by omega) (by omega)).symm | exact (itoa_more (by omega) (by omega)).symm)) [] (rfl) rfl (trivial)
      · refine ExD.op (i := 2) rfl (by kernel_rfl) rfl (op_ret rfl rfl rfl (ih (by omega)) (fun _ _ => trivial) rfl rfl (fun x7 hx7 => ⟨(List.nil_sublist _), ?_⟩))
        refine ExD.take (i := 9) rfl (by kernel_rfl) (fr_addS (l := Lib.itoa (n / 10)) (r := [UInt8.ofNat (48 + n % 10).toNat]) rfl rfl rfl (by first | omega | (simp only [List.length_append, List.length_cons, List.length_nil]; omega))) ((List.nil_sublist _)) rfl rfl rfl ?_
        refine ExD.take (i := 10) rfl (by kernel_rfl) (pureVal_ok rfl) ((List.nil_sublist _)) rfl rfl rfl ?_
        refine ExD.done (by kernel_rfl) ?_
        refine Ex.ret ?_
        refine RetQ.mk () rfl (.tmp rfl .nil) (tS (by first | exact (itoa_one (by omega) (by omega)).symm | exact (itoa_more (by omega) (by omega)).symm)) [] (rfl) rfl (trivial)
theorem c_sDecimal (n : Int) (hn : 0 ≤ n ∧ n ≤ 9223372036854775807) : Ret Tryz.prog 61 [.int .i64 n] (fun _ => True) (fun _ : Unit => sv (Lib.itoa n)) (fun _ => []) (fun _ => True) := by
  induction hk : n.toNat using Nat.strongRecOn generalizing n with
  | ind k ih => exact dec_step n hn (fun h10 => ih (n / 10).toNat (by omega) (n / 10) (by omega) rfl)
end Go.Proofs.YtejedjgajcjejaaGreatDoor

/- A range over a function whose rounds turn what is held in a way that is told by what is known of it. -/
set_option linter.unusedVariables false
set_option linter.unusedSimpArgs false
namespace Go.Sx
open Go Go.RowKit
variable {C : Cx} {env env' : Env} {m m' : List Ent} {Q Q' : Post} {l rest : List Oper} {o : Oper} {K : Env → List Ent → Prop}
def TabB (P : Program) (base : Nat) (w : World) : Prop := TabO P w ∧ ∀ g, P.globalNamed "internal/strconv.uint64pow10" = some g → g < base
theorem TabO.base {P w} (h : TabO P w) : TabB P w.heap.size w := ⟨h, fun g hg => by
  unfold TabO Lib.TabIs World.var? at h
  simp only [hg, Option.bind_some] at h
  rcases Nat.lt_or_ge g w.heap.size with h1 | h1
  · exact h1
  · rw [Array.getElem?_eq_none h1] at h; simp at h⟩
theorem TabB.keep {P base w w'} (h : TabB P base w) (hb : Below base w w') : TabB P base w' := ⟨by
  have h2 := h.2
  have h := h.1
  unfold TabO Lib.TabIs World.var? at h ⊢
  cases hg : P.globalNamed "internal/strconv.uint64pow10" with
  | none => simp [hg] at h
  | some g =>
    simp only [hg, Option.bind_some] at h ⊢
    rw [hb.block g (h2 g hg)]
    exact h, h.2⟩
theorem TabB.get {P base w0 m w} (h : TabB P base w0) (hh : Holds base w0 m w) : TabO P w := (h.keep hh.below).1
theorem ExL.yieldX {S : List Ent → Prop} {d lp : Nat} {fo args at_ vs} (ho : o.op = .call { callee := .value fo, args := args, argTypes := at_ }) (hfo : ev env fo = some (.func (.yield lp) #[] #[])) (hargs : evs env args.toList = some vs) (hg : wantB l env o = some true) (hd : o.dst = some d) (hlt : Nat.blt d C.n = true)
    (hy : ∀ w, Holds C.base C.w0 m w → YieldAt (fc none) 0 C.P lp vs.toArray w (fun e w' => e = .returned (.bool true) ∧ ∃ m', S m' ∧ Holds C.base C.w0 m' w'))
    (h : ∀ m', S m' → ExL C l rest ((d, .bool true) :: env) m' K) : ExL C l (o :: rest) env m K := by
  unfold ExL at h ⊢
  intro a w hr hh
  have hw := wantB_ok hr hg
  unfold wl
  rw [if_pos hw]
  refine .inr ?_
  obtain ⟨f, tm, asg, bd, hyr, hR⟩ := hy w hh
  have e1 : args.map a.eval = vs.toArray := by rw [← hr.evs hargs]; simp [← Array.toList_inj]
  refine ⟨lp, f, tm, asg, bd, w, ?_, ?_⟩
  · simp [execOp, ho, resolve, hr.ev hfo, Deferred.ofValue, invoke, e1, hyr]
  · refine RoundIn.mono (F := fc C.rd) hR ?_
    rintro e w' ⟨rfl, m', hS, hh'⟩
    exact h m' hS _ _ (hr.put1 hd hlt) hh'
theorem pk3R {a b : Ent} {v : Value} {E sz n : Nat} {cs cs' : List Value} {r : List Ent} (h : cs = cs') : some (a :: b :: Ent.row v E sz n cs :: r) = some (a :: b :: .row v E sz n cs' :: r) := by rw [h]
def YieldsX (P : Program) (l base : Nat) (w0 : World) (box : Ent) (Sf : Nat → List Ent → Prop) (N : Nat) (encs : Nat → List Value) : Prop :=
  ∀ k W mk, k < N → Sf k mk → Holds base w0 (box :: mk) W → YieldAt (fc none) 0 P l (encs k).toArray W (fun e W' => e = .returned (.bool true) ∧ ∃ m', (∃ mk', Sf (k + 1) mk' ∧ m' = box :: mk') ∧ Holds base w0 m' W')
def IterX (P : Program) (gf : FuncId) (lb : List Value) (base : Nat) (w0 : World) (box : Ent) (N : Nat) (encs : Nat → List Value) : Prop :=
  Enters P gf ∧ ∀ (w1 : World) (l : Nat) (Sf : Nat → List Ent → Prop) (m0 : List Ent) (W : World), Below base w0 w1 → YieldsX P l base w1 box Sf N encs → Sf 0 m0 → Holds base w1 (box :: m0) W →
    Calls P gf (.func (.yield l) #[] #[] :: lb).toArray W fun e W' => (∃ v, e = .returned v) ∧ ∃ mN, Sf N mN ∧ Holds base w1 (box :: mN) W'
theorem Ex.rangeFX {g : Operand} {ps : List Nat} {asg bd B : Code} {id gf N : Nat} {lb : List Value} {encs : Nat → List Value} {box : Ent} {Sf : Nat → List Ent → Prop} {m0 : List Ent} (t : Nat) (is : List Nat) (E1 : Nat → Env) (hrd : C.rd = none) (hds : C.ds = [])
    (hg : ev env g = some (.func (.func gf) #[] (List.toArray lb))) (hit : IterX C.P gf lb C.base C.w0 box N encs) (hps : ∀ k, (encs k).length = ps.length) (hpn : ps.all (fun p => Nat.blt p C.n) = true) (hM : pickT m t is = some (box :: m0)) (hf : freshT t is = true) (h0 : Sf 0 m0)
    (hasg : ∀ l k W mk, k < N → Sf k mk → Below C.base C.w0 W → Ex ⟨C.P, C.n, C.base, W, some l, []⟩ asg (zipR ps (encs k) env) (box :: mk) (fun e env' m' => e = .normal ∧ Agree (E1 k) env' ∧ m' = box :: mk))
    (hbd : ∀ l k W mk, k < N → Sf k mk → Below C.base C.w0 W → Ex ⟨C.P, C.n, C.base, W, some l, []⟩ bd (E1 k) (box :: mk) (fun e env' m' => e = .normal ∧ ∃ t is mk', Sf (k + 1) mk' ∧ pickT m' t is = some (box :: mk') ∧ freshT t is = true))
    (hB : ∀ D W mk, Sf N mk → Below C.base C.w0 W → Ex ⟨C.P, C.n, C.base, W, none, [mark D]⟩ B env (box :: mk) (fun e env' m' => e = .ret ∧ Q e env' m')) :
    ExT C (.block id (.rangeFunc g ps.toArray asg bd)) B env m Q := by
  obtain ⟨P, n, base, w0, rd, ds⟩ := C
  simp only at hrd hds hit hasg hbd hB hpn
  subst hrd hds
  unfold Ex at hasg hbd hB
  intro a w hr hh
  simp only at hr hh
  refine wpIn_block (wpIn_rangeFunc ?_)
  intro fn _
  obtain ⟨rec, hrec⟩ : ∃ rec : LoopState → Option Code → Loop, rec = fun st pe => { state := st, pending := pe, fn, tmps := a.tmps, params := ps.toArray, assign := asg, body := bd, defers := w.heap.size } := ⟨_, rfl⟩
  obtain ⟨W1, hW1⟩ : ∃ W1, (w.alloc (.deferred (some []))).alloc (.loop (rec .ready none)) = W1 := ⟨_, rfl⟩
  have hL1 : W1.heap[w.heap.size + 1]? = some (.loop (rec .ready none)) := by
    rw [← hW1]; have := World.alloc_heap_new (w.alloc (.deferred (some []))) (.loop (rec .ready none)); rwa [World.size_alloc] at this
  have hK1 : W1.heap[w.heap.size]? = some (.deferred (some [])) := by
    rw [← hW1]; exact (Below.heap_alloc _ _ _ (by simp)).trans (World.alloc_heap_new w _)
  have hg1 : w.grownBy W1 none := by rw [← hW1]; exact grown_of_below (((below_alloc' w _).trans ((below_alloc' _ _).mono (by simp)))) none
  have hb1 : Below base w W1 := by rw [← hW1]; exact (((below_alloc' w _).trans ((below_alloc' _ _).mono (by simp)))).mono hh.wle
  have hB1 : Below base w0 W1 := hh.below.trans hb1
  have hH1 : Holds base W1 (box :: m0) W1 := (hh.pickT hM hf).fresh hg1
  have ho1 : KeepsOthers w W1 := KeepsOthers.of_grownBy hg1 (fun _ _ e => nomatch e)
  have hsz : w.heap.size + 1 < W1.heap.size := (Array.getElem?_eq_some_iff.1 hL1).1
  have hwle := hh.wle
  refine ⟨w.heap.size + 1, [mark w.heap.size], W1, { target := .fn (.func gf) lb.toArray, args := #[.func (.yield (w.heap.size + 1)) #[] #[]] }, W1, gf,
    #[.func (.yield (w.heap.size + 1)) #[] #[]] ++ lb.toArray, W1, ?_, ?_, fun _ _ => trivial, ?_, noDepth, ?_⟩
  · rw [← hW1, hrec]; exact run_enterLoop_outer _ _ _ _ _
  · simp only [resolve, hr.ev hg]
    simp [go_sem]
  · simp [invoke, go_sem, hit.1 _]
  · refine callsFc _ _ ?_
    have hcall := hit.2 W1 (w.heap.size + 1) Sf m0 W1 hB1 ?_ h0 hH1
    · rw [show #[Value.func (.yield (w.heap.size + 1)) #[] #[]] ++ lb.toArray = (Value.func (.yield (w.heap.size + 1)) #[] #[] :: lb).toArray by simp]
      refine hcall.mono ?_
      rintro e W2 ⟨⟨v, rfl⟩, mN, hSN, hH2⟩
      have hl2 : W2.heap[w.heap.size + 1]? = some (.loop (rec .ready none)) := hH2.others.same _ _ hL1 rfl
      have hk2 : W2.heap[w.heap.size]? = some (.deferred (some [])) := hH2.others.same _ _ hK1 rfl
      have hend := run_endLoop (P := P) hl2 (by rw [hrec]; simp)
      have hp0 : (rec .ready none).pending = none := by rw [hrec]
      refine ⟨none, _, hend.trans (congrArg (fun p => Result.ok p _) hp0), ?_⟩
      have hk3 : (W2.putObj (w.heap.size + 1) (.loop { rec .ready none with state := .exhausted })).heap[w.heap.size]? = some (.deferred (some [])) := (World.putObj_heap_other (by omega)).trans hk2
      have hb3 : Below base W2 (W2.putObj (w.heap.size + 1) (.loop { rec .ready none with state := .exhausted })) := below_put _ hH2.wle (by omega)
      have hr3 : Rep n [mark w.heap.size] env { a with defers := [mark w.heap.size] ++ a.defers } := ⟨by rw [hr.def0]; rfl, hr.size, hr.at_⟩
      have h3 := hB w.heap.size _ mN hSN (hB1.trans (hH2.below.trans hb3)) _ _ hr3 (hH2.freshPut hl2 rfl)
      refine wpIn_mono h3 ?_
      rintro e a4 W4 ⟨ho, env4, m4, ds4, hr4, hh4, ⟨rfl, hq⟩, hd4⟩
      have hd5 : ds4 = [mark w.heap.size] := by
        rcases hd4 with h | ⟨_, h, _⟩
        · exact h
        · cases h
      refine ⟨rfl, env4, m4, ds4, hr4, ⟨(hB1.trans (hH2.below.trans hb3)).trans hh4.below, hh.le, hh4.all, hh4.apart, ?_⟩, hq, .inr ⟨rfl, rfl, _, hd5, hh.below.size, hh4.others.same _ _ hk3 rfl⟩⟩
      refine KeepsOthers.trans ⟨?_, fun k o hk ho => ?_⟩ hh4.others
      · have h1 := hh.below.size; have h2 := hH2.below.size; simp; omega
      · have hk0 : k < w0.heap.size := (Array.getElem?_eq_some_iff.1 hk).1
        have h1 := hh.below.size
        exact (World.putObj_heap_other (by omega)).trans (hH2.others.same _ _ (ho1.same _ _ (hh.others.same _ _ hk ho) ho) ho)
    · intro k W mk hk hS hH
      have hl : W.heap[w.heap.size + 1]? = some (.loop (rec .ready none)) := hH.others.same _ _ hL1 rfl
      have hy := run_yield (P := P) (args := (encs k).toArray) hl (by rw [hrec]; simp [hps k])
      rw [hrec] at hy
      refine ⟨fn, _, asg, bd, hy, roundIn_of_wpIn trivial ?_⟩
      have hBW := hB1.trans hH.below
      have hrz : Rep n [] (zipR ps (encs k) env) { tmps := (ps.toArray.zip (encs k).toArray).foldl (fun tmps (t, a) => tmps.setIfInBounds t a) a.tmps, defers := [] } := by
        have := rep_zip (vs := encs k) (env := env) (tm := a.tmps) (ds := []) hpn ⟨rfl, hr.size, hr.at_⟩
        simpa using this
      have h1 := hasg (w.heap.size + 1) k W mk hk hS hBW _ W hrz hH.fresh0
      refine wpIn_mono h1 ?_
      rintro e a1 Wa ⟨_, env1, m1, ds1, hr1, hh1, ⟨rfl, hA, rfl⟩, hd1⟩
      have hds1 : ds1 = [] := hd1.same (fun e => nomatch e)
      subst hds1
      have hla : Wa.heap[w.heap.size + 1]? = some (.loop (rec .ready none)) := hh1.others.same _ _ hl rfl
      have hlt : w.heap.size + 1 < Wa.heap.size := (Array.getElem?_eq_some_iff.1 hla).1
      refine ⟨_, run_beginRound hla (by rw [hrec]), ?_⟩
      have hbb : Below base Wa (Wa.putObj (w.heap.size + 1) (.loop { rec .ready none with state := .busy })) := below_put _ hh1.wle (by omega)
      have h2 := hbd (w.heap.size + 1) k _ mk hk hS ((hBW.trans hh1.below).trans hbb) a1 _ (hr1.agree hA) (hh1.freshPut hla rfl)
      refine wpIn_mono h2 ?_
      rintro e a2 Wc ⟨_, env2, m2, ds2, hr2, hh2, ⟨rfl, t2, is2, mk', hS', hp2, hf2⟩, hd2⟩
      have hlc : Wc.heap[w.heap.size + 1]? = some (.loop { rec .ready none with state := .busy }) := hh2.others.same _ _ (World.putObj_heap_same hlt) rfl
      have her := run_endRound (P := P) none hlc
      refine ⟨_, _, her, rfl, _, ⟨mk', hS', rfl⟩, ?_⟩
      have hpk := hh2.pickT hp2 hf2
      have hbc : Below base Wc (Wc.putObj (w.heap.size + 1) (.loop { { rec .ready none with state := .busy } with state := if (none : Option Code).isNone then .ready else .done, pending := none })) := below_put _ hh2.wle (by omega)
      refine ⟨(((hH.below.trans hh1.below).trans hbb).trans hh2.below).trans hbc, hH.le, fun e he => (hpk.all e he).put hlc rfl rfl, hpk.apart, ⟨?_, fun j o hj ho => ?_⟩⟩
      · have h1 := hH.below.size
        have h2 : W.heap.size ≤ Wa.heap.size := hh1.below.size
        have h3 : (Wa.putObj (w.heap.size + 1) (.loop { rec .ready none with state := .busy })).heap.size ≤ Wc.heap.size := hh2.below.size
        rw [World.putObj_size] at h3 ⊢
        omega
      · by_cases hj2 : j = w.heap.size + 1
        · subst hj2
          rw [hL1] at hj
          cases hj
          have := World.putObj_heap_same (w := Wc) (o := .loop { { rec .ready none with state := .busy } with state := if (none : Option Code).isNone then .ready else .done, pending := none }) (Array.getElem?_eq_some_iff.1 hlc).1
          rw [this, hrec]; rfl
        · exact (World.putObj_heap_other hj2).trans (hh2.others.same _ _ ((World.putObj_heap_other hj2).trans (hh1.others.same _ _ (hH.others.same _ _ hj ho) ho)) ho)
/-- The same as it is met: what a round sees (V), what stays (Kp, Mk), what it turns (M), what is known of it (I). -/
theorem Ex.rangeKX {X : Type} {g : Operand} {ps : List Nat} {asg bd B : Code} {id gf N : Nat} {lb : List Value} {encs : Nat → List Value} {box : Ent} (V : Nat → Env) (M : Nat → X → List Ent) (I : Nat → X → Prop) (x0 : X) (Kp : Env) (Mk : List Ent) (t : Nat) (is : List Nat)
    (hg : ev env g = some (.func (.func gf) #[] (List.toArray lb))) (hit : IterX C.P gf lb C.base C.w0 box N encs) (hps : ∀ k, (encs k).length = ps.length) (hrd : C.rd = none) (hds : C.ds = []) (hpn : ps.all (fun p => Nat.blt p C.n) = true) (hM : pickT m t is = some (box :: (M 0 x0 ++ Mk))) (hf : freshT t is = true) (h0 : I 0 x0) (hK : Agree Kp env)
    (hasg : ∀ l k W x, k < N → I k x → Below C.base C.w0 W → Ex ⟨C.P, C.n, C.base, W, some l, []⟩ asg (zipR ps (encs k) env) (box :: (M k x ++ Mk)) (fun e env' m' => e = .normal ∧ Agree (V k ++ Kp) env' ∧ m' = box :: (M k x ++ Mk)))
    (hbd : ∀ l k W x, k < N → I k x → Below C.base C.w0 W → Ex ⟨C.P, C.n, C.base, W, some l, []⟩ bd (V k ++ Kp) (box :: (M k x ++ Mk)) (fun e env' m' => e = .normal ∧ ∃ x' t is, I (k + 1) x' ∧ pickT m' t is = some (box :: (M (k + 1) x' ++ Mk)) ∧ freshT t is = true))
    (hB : ∀ D W x, I N x → Below C.base C.w0 W → Ex ⟨C.P, C.n, C.base, W, none, [mark D]⟩ B env (box :: (M N x ++ Mk)) (fun e env' m' => e = .ret ∧ Q e env' m')) :
    ExT C (.block id (.rangeFunc g ps.toArray asg bd)) B env m Q := by
  refine Ex.rangeFX (Sf := fun k mk => ∃ x, I k x ∧ mk = M k x ++ Mk) (m0 := M 0 x0 ++ Mk) t is (fun k => V k ++ Kp) hrd hds hg hit hps hpn hM hf ⟨x0, h0, rfl⟩ ?_ ?_ ?_
  · rintro l k W _ hk ⟨x, hx, rfl⟩ hW
    exact hasg l k W x hk hx hW
  · rintro l k W _ hk ⟨x, hx, rfl⟩ hW
    have h := hbd l k W x hk hx hW
    unfold Ex at h ⊢
    intro a w hr hh
    refine wpIn_mono (h a w hr hh) ?_
    rintro e a2 w2 ⟨ho, env2, m2, ds2, hr2, hh2, ⟨he, x', t2, is2, hI, hp, hf2⟩, hd2⟩
    exact ⟨ho, env2, m2, ds2, hr2, hh2, ⟨he, t2, is2, _, ⟨x', hI, rfl⟩, hp, hf2⟩, hd2⟩
  · rintro D W _ ⟨x, hx, rfl⟩ hW
    exact hB D W x hx hW
theorem IterX.of {P : Program} {gf fn c n} {lb : List Value} {base : Nat} {w0 : World} {box : Ent} {N : Nat} {encs : Nat → List Value} (hE : Enters P gf) (hf : P.funcs[gf]? = some fn) (hb : fn.body = some c) (hn : fn.ntmps = n) (hrs : fn.results = List.toArray []) (hv : Nat.ble (lb.length + 1) n = true)
    (h : ∀ w1 l Sf m0, Below base w0 w1 → YieldsX P l base w1 box Sf N encs → Sf 0 m0 → Ex ⟨P, n, base, w1, none, []⟩ c (argsAt 0 (.func (.yield l) #[] #[] :: lb)) (box :: m0) (fun e env m => isEnd e = true ∧ ∃ mN, Sf N mN ∧ m = box :: mN)) : IterX P gf lb base w0 box N encs := by
  refine ⟨hE, fun w1 l Sf m0 W hW hY h0 hH => fcCalls (rd := none) (n := 0) (callsIn_of_wp_marks hf hb trivial ?_)⟩
  subst hn
  refine wpIn_mono (h w1 l Sf m0 hW hY h0 _ W (rep_start (Nat.le_of_ble_eq_true (by simpa using hv))) hH) ?_
  rintro e a w' ⟨ho, env, m, ds, hr, hh, ⟨hend, mN, hSN, rfl⟩, hd⟩
  refine bodyOf (e := e) hd hr hh (by cases e <;> simp_all [isEnd]) (fun w'' hh => ?_)
  have hrun := run_results (fn := fn) (rs := []) (vs := []) hrs trivial hr hh
  exact ⟨_, hrun, ⟨_, rfl⟩, mN, hSN, hh⟩
end Go.Sx

/- What these functions of the program hand back, each proved by walking its operations. -/
set_option linter.unusedVariables false
set_option linter.unusedSimpArgs false
set_option maxRecDepth 4000
namespace Go.Proofs.YtejedjgajcjejaaGreatDoor
open Go Go.Sx Go.RowKit Go.W Go.Proofs
attribute [local irreducible] Ex ExL ExD Op1 Free RetQ MutQ Reads CellO SegO LoadsAs
theorem e_60 : Enters Tryz.prog 60 := Enters.of Tryz.func60 rfl
theorem c_l00Min (a b : Int) : Ret Tryz.prog 60 [.int .i64 a, .int .i64 b] (fun w => True) (fun x : Unit => .int .i64 (min a b)) (fun x => []) (fun x => True) := by
  refine Ret.of e_60 Tryz.func60 rfl Tryz.ntmps60 rfl rfl (fun w hpre => ?_)
  refine Ex.regSeq (ExL.pures 1 rfl ?_)
  refine ExL.nil ?_
  refine Ex.seq ?_
  refine Ex.regSeq (ExL.pures 2 rfl ?_)
  refine ExL.lss rfl rfl rfl rfl rfl rfl (fun h1 => ?_) (fun h1 => ?_)
  · refine ExL.nil ?_
    refine Ex.cond_t rfl ?_
    refine Ex.regSeq (ExL.pures 2 rfl ?_)
    refine ExL.nil ?_
    refine Ex.ret ?_
    refine RetQ.mk () rfl (.tmp rfl .nil) (tI (by omega)) [] (rfl) rfl (trivial)
  · refine ExL.nil ?_
    refine Ex.cond_f rfl ?_
    refine Ex.skip ?_
    refine Ex.regSeq (ExL.pures 2 rfl ?_)
    refine ExL.nil ?_
    refine Ex.ret ?_
    refine RetQ.mk () rfl (.tmp rfl .nil) (tI (by omega)) [] (rfl) rfl (trivial)
theorem e_36 : Enters Tryz.prog 36 := Enters.of Tryz.func36 rfl
theorem c_l00In (a b c : Int) : Ret Tryz.prog 36 [.int .i64 a, .int .i64 b, .int .i64 c] (fun w => True) (fun x : Unit => .bool (decide (b ≤ a ∧ a ≤ c))) (fun x => []) (fun x => True) := by
  refine Ret.of e_36 Tryz.func36 rfl Tryz.ntmps36 rfl rfl (fun w hpre => ?_)
  refine Ex.regSeq (ExL.pures 1 rfl ?_)
  refine ExL.nil ?_
  refine Ex.regSeq (ExL.pures 2 rfl ?_)
  refine ExL.geq rfl rfl rfl rfl rfl rfl (fun h1 => ?_) (fun h1 => ?_)
  · refine ExL.pures 3 rfl ?_
    refine ExL.leq rfl rfl rfl rfl rfl rfl (fun h2 => ?_) (fun h2 => ?_)
    · refine ExL.pures 2 rfl ?_
      refine ExL.nil ?_
      refine Ex.ret ?_
      refine RetQ.mk () rfl (.tmp rfl .nil) (tB (by simp; omega)) [] (rfl) rfl (trivial)
    · refine ExL.pures 2 rfl ?_
      refine ExL.nil ?_
      refine Ex.ret ?_
      refine RetQ.mk () rfl (.tmp rfl .nil) (tB (by simp; omega)) [] (rfl) rfl (trivial)
  · refine ExL.pures 6 rfl ?_
    refine ExL.nil ?_
    refine Ex.ret ?_
    refine RetQ.mk () rfl (.tmp rfl .nil) (tB (by simp; omega)) [] (rfl) rfl (trivial)
theorem e_41 : Enters Tryz.prog 41 := Enters.of Tryz.func41 rfl
theorem c_within (a b c : Int) : Ret Tryz.prog 41 [.int .i64 a, .int .i64 b, .int .i64 c] (fun w => True) (fun x : Unit => .bool (decide (b ≤ a ∧ a ≤ c))) (fun x => []) (fun x => True) := by
  refine Ret.of e_41 Tryz.func41 rfl Tryz.ntmps41 rfl rfl (fun w hpre => ?_)
  refine Ex.regSeq (ExL.pures 1 rfl ?_)
  refine ExL.nil ?_
  refine Ex.regSeq (ExL.pures 2 rfl ?_)
  refine ExL.leq rfl rfl rfl rfl rfl rfl (fun h1 => ?_) (fun h1 => ?_)
  · refine ExL.pures 3 rfl ?_
    refine ExL.leq rfl rfl rfl rfl rfl rfl (fun h2 => ?_) (fun h2 => ?_)
    · refine ExL.pures 2 rfl ?_
      refine ExL.nil ?_
      refine Ex.ret ?_
      refine RetQ.mk () rfl (.tmp rfl .nil) (tB (by simp; omega)) [] (rfl) rfl (trivial)
    · refine ExL.pures 2 rfl ?_
      refine ExL.nil ?_
      refine Ex.ret ?_
      refine RetQ.mk () rfl (.tmp rfl .nil) (tB (by simp; omega)) [] (rfl) rfl (trivial)
  · refine ExL.pures 6 rfl ?_
    refine ExL.nil ?_
    refine Ex.ret ?_
    refine RetQ.mk () rfl (.tmp rfl .nil) (tB (by simp; omega)) [] (rfl) rfl (trivial)
theorem e_37 : Enters Tryz.prog 37 := Enters.of Tryz.func37 rfl
theorem c_l01Size (s : List Int) (hu : Nums 255 s) (As : Option Addr) (cs : Nat) (hl : s.length ≤ maxLen) : Ret Tryz.prog 37 [.slice As s.length cs] (fun w => Rd w As (s.flatMap (eI .u8))) (fun x : Unit => .int .i64 (size s)) (fun x => []) (fun x => True) := by
  refine Ret.of e_37 Tryz.func37 rfl Tryz.ntmps37 rfl rfl (fun w hpre => ?_)
  unfold maxLen at hl
  have hs := hpre.base
  refine Ex.regSeq (ExL.pures 1 rfl ?_)
  refine ExL.nil ?_
  refine Ex.regSeq (ExL.pures 1 rfl ?_)
  refine ExL.nil ?_
  refine Ex.seq ?_
  refine Ex.regSeq (ExL.pures 1 rfl ?_)
  refine ExL.nil ?_
  refine Ex.block ?_
  refine Ex.loopK (X := Nat) (fun k => [(3, .int .i64 (size (s.take k))), (4, .int .i64 k)]) (fun k => []) (fun k => k ≤ s.length) (fun k => s.length - k) 0 [(0, _), (2, _)] [] 0 [] ⟨rfl, rfl, trivial⟩ ⟨rfl, rfl, trivial⟩ (rfl) rfl (Nat.zero_le _) (fun k hI => ?_)
  have hI : k ≤ s.length := hI
  have hb := size_bd hu k
  have hm := size_mul hu k
  have hx := hu.at_ (by omega) k
  refine Ex.seq ?_
  refine Ex.regSeq (ExL.pures 3 rfl ?_)
  refine ExL.lss rfl rfl rfl rfl rfl rfl (fun h1 => ?_) (fun h1 => ?_)
  · refine ExL.nil ?_
    refine Ex.cond_t rfl ?_
    refine Ex.skip ?_
    refine Ex.seq ?_
    refine Ex.block ?_
    refine Ex.region (ExL.pures 3 rfl ?_)
    refine ExL.free (fr_indexAddrF (Reads.old hs) (eI_len .u8) rfl rfl rfl rfl rfl rfl (by omega)) rfl rfl rfl ?_
    refine ExL.free (fr_load rfl rfl rfl rfl (by first | exact cellN (Reads.old hs) (eI_len .u8) 0 0 rfl (by omega) rfl | exact cellF (Reads.old hs) (eI_len .u8) 0 0 rfl (by omega) rfl)) rfl rfl rfl ?_
    refine ExL.free (by first | exact fr_conv64 rfl rfl rfl rfl (by omega) | exact fr_conv rfl rfl rfl rfl) rfl rfl rfl ?_
    refine ExL.free (by first | exact fr_mul64 rfl rfl rfl (by omega) | exact fr_mul rfl rfl rfl) rfl rfl rfl ?_
    refine ExL.op rfl (op_ret rfl rfl rfl (c_l00Min _ _) (fun _ _ => trivial) rfl rfl (fun x2 hx2 => ?_))
    refine ExL.pures 1 rfl ?_
    refine ExL.nil ?_
    refine Ex.region (ExL.pures 1 rfl ?_)
    refine ExL.free (by first | exact fr_add64 rfl rfl rfl (by omega) | exact fr_add rfl rfl rfl) rfl rfl rfl ?_
    refine ExL.pures 1 rfl ?_
    refine ExL.nil ?_
    refine Hand.mk (k + 1) 0 [] ⟨agI (size_snoc s k (by omega)).symm, rfl, trivial⟩ ⟨rfl, rfl, trivial⟩ (rfl) rfl (by omega) (by omega)
  · refine ExL.nil ?_
    refine Ex.cond_f rfl ?_
    refine Ex.exit ?_
    refine Ex.regSeq (ExL.pures 2 rfl ?_)
    refine ExL.nil ?_
    refine Ex.ret ?_
    refine RetQ.mk () rfl (.tmp rfl .nil) (tI (by rw [List.take_of_length_le (by omega)])) [] (rfl) rfl (trivial)
theorem e_45 : Enters Tryz.prog 45 := Enters.of Tryz.func45 rfl
theorem c_size (s : List Int) (hu : Nums 255 s) (As : Option Addr) (cs : Nat) (hl : s.length ≤ maxLen) : Ret Tryz.prog 45 [.slice As s.length cs] (fun w => Rd w As (s.flatMap (eI .u8))) (fun x : Unit => .int .i64 (size s)) (fun x => []) (fun x => True) := by
  refine Ret.of e_45 Tryz.func45 rfl Tryz.ntmps45 rfl rfl (fun w hpre => ?_)
  unfold maxLen at hl
  have hs := hpre.base
  refine Ex.regSeq (ExL.pures 1 rfl ?_)
  refine ExL.nil ?_
  refine Ex.regSeq (ExL.pures 1 rfl ?_)
  refine ExL.nil ?_
  refine Ex.seq ?_
  refine Ex.regSeq (ExL.pures 3 rfl ?_)
  refine ExL.nil ?_
  refine Ex.block ?_
  refine Ex.loopK (X := Nat) (fun k => [(3, .int .i64 (size (s.take k))), (8, .int .i64 k)]) (fun k => []) (fun k => k ≤ s.length) (fun k => s.length - k) 0 [(2, _), (6, _), (7, _)] [] 0 [] ⟨rfl, rfl, trivial⟩ ⟨rfl, rfl, rfl, trivial⟩ (rfl) rfl (Nat.zero_le _) (fun k hI => ?_)
  have hI : k ≤ s.length := hI
  have hb := size_bd hu k
  have hm := size_mul hu k
  have hx := hu.at_ (by omega) k
  refine Ex.regSeq (ExL.pures 0 rfl ?_)
  refine ExL.lss rfl rfl rfl rfl rfl rfl (fun h1 => ?_) (fun h1 => ?_)
  · refine ExL.nil ?_
    refine Ex.seq ?_
    refine Ex.cond_t rfl ?_
    refine Ex.skip ?_
    refine Ex.seq ?_
    refine Ex.block ?_
    refine Ex.regSeq (ExL.pures 0 rfl ?_)
    refine ExL.free (fr_indexAddrF (Reads.old hs) (eI_len .u8) rfl rfl rfl rfl rfl rfl (by omega)) rfl rfl rfl ?_
    refine ExL.free (fr_load rfl rfl rfl rfl (by first | exact cellN (Reads.old hs) (eI_len .u8) 0 0 rfl (by omega) rfl | exact cellF (Reads.old hs) (eI_len .u8) 0 0 rfl (by omega) rfl)) rfl rfl rfl ?_
    refine ExL.pures 1 rfl ?_
    refine ExL.nil ?_
    refine Ex.region (ExL.pures 2 rfl ?_)
    refine ExL.free (by first | exact fr_conv64 rfl rfl rfl rfl (by omega) | exact fr_conv rfl rfl rfl rfl) rfl rfl rfl ?_
    refine ExL.free (by first | exact fr_mul64 rfl rfl rfl (by omega) | exact fr_mul rfl rfl rfl) rfl rfl rfl ?_
    refine ExL.free (fr_min rfl rfl rfl) rfl rfl rfl ?_
    refine ExL.pures 1 rfl ?_
    refine ExL.nil ?_
    refine Ex.region (ExL.pures 0 rfl ?_)
    refine ExL.free (by first | exact fr_add64 rfl rfl rfl (by omega) | exact fr_add rfl rfl rfl) rfl rfl rfl ?_
    refine ExL.pures 1 rfl ?_
    refine ExL.nil ?_
    refine Hand.mk (k + 1) 0 [] ⟨agI (size_snoc s k (by omega)).symm, rfl, trivial⟩ ⟨rfl, rfl, rfl, trivial⟩ (rfl) rfl (by omega) (by omega)
  · refine ExL.nil ?_
    refine Ex.seq ?_
    refine Ex.cond_f rfl ?_
    refine Ex.exit ?_
    refine Ex.regSeq (ExL.pures 2 rfl ?_)
    refine ExL.nil ?_
    refine Ex.ret ?_
    refine RetQ.mk () rfl (.tmp rfl .nil) (tI (by rw [List.take_of_length_le (by omega)])) [] (rfl) rfl (trivial)
theorem e_42 : Enters Tryz.prog 42 := Enters.of Tryz.func42 rfl
theorem c_wheels (s : List Int) (As : Option Addr) (cs : Nat) : Ret Tryz.prog 42 [.slice As s.length cs] (fun w => True) (fun x : Unit => .int .i64 s.length) (fun x => []) (fun x => True) := by
  refine Ret.of e_42 Tryz.func42 rfl Tryz.ntmps42 rfl rfl (fun w hpre => ?_)
  refine Ex.regSeq (ExL.pures 1 rfl ?_)
  refine ExL.nil ?_
  refine Ex.regSeq (ExL.pures 3 rfl ?_)
  refine ExL.nil ?_
  refine Ex.ret ?_
  refine RetQ.mk () rfl (.tmp rfl .nil) (rfl) [] (rfl) rfl (trivial)
theorem e_16 : Enters Tryz.prog 16 := Enters.of Tryz.func16 rfl
theorem c_l01Ok (s : List Int) (hu : Nums 255 s) (As : Option Addr) (cs : Nat) (hl : s.length ≤ maxLen) : Ret Tryz.prog 16 [.slice As s.length cs] (fun w => Rd w As (s.flatMap (eI .u8))) (fun x : Unit => .bool (validStack s)) (fun x => []) (fun x => True) := by
  refine Ret.of e_16 Tryz.func16 rfl Tryz.ntmps16 rfl rfl (fun w hpre => ?_)
  unfold maxLen at hl
  have hs := hpre.base
  refine Ex.regSeq (ExL.pures 1 rfl ?_)
  refine ExL.nil ?_
  refine Ex.seq ?_
  refine Ex.regSeq (ExL.pures 2 rfl ?_)
  refine ExL.op rfl (op_ret rfl rfl rfl (c_l00In _ _ _) (fun _ _ => trivial) rfl rfl (fun x1 hx1 => ?_))
  refine ExL.pures 1 rfl ?_
  refine ExL.nil ?_
  refine Ex.cond rfl (fun hb2 => ?_) (fun hb2 => ?_)
  · replace hb2 := nd_t hb2
    refine Ex.regSeq (ExL.pures 1 rfl ?_)
    refine ExL.nil ?_
    refine Ex.ret ?_
    refine RetQ.mk () rfl (.tmp rfl .nil) (tB (by first | exact vs_len (by assumption) | exact vs_base (k := k) (by omega) (by omega) | (have hkl : k = s.length := (by omega); subst hkl; first | exact vs_yes (by assumption) hall (by omega) | exact vs_size (by omega)))) [] (rfl) rfl (trivial)
  · replace hb2 := nd_f hb2
    refine Ex.skip ?_
    refine Ex.seq ?_
    refine Ex.regSeq (ExL.pures 1 rfl ?_)
    refine ExL.nil ?_
    refine Ex.block ?_
    refine Ex.loopK (X := Nat) (fun k => [(3, .int .i64 k)]) (fun k => []) (fun k => k ≤ s.length ∧ ∀ i, i < k → 2 ≤ s.getD i 0 ∧ s.getD i 0 ≤ 100) (fun k => s.length - k) 0 [(0, _)] [] 0 [] ⟨rfl, trivial⟩ ⟨rfl, trivial⟩ (rfl) rfl ⟨Nat.zero_le _, fun i hi => by omega⟩ (fun k hI => ?_)
    have hI : k ≤ s.length ∧ ∀ i, i < k → 2 ≤ s.getD i 0 ∧ s.getD i 0 ≤ 100 := hI
    obtain ⟨hk, hall⟩ := hI
    refine Ex.seq ?_
    refine Ex.regSeq (ExL.pures 3 rfl ?_)
    refine ExL.lss rfl rfl rfl rfl rfl rfl (fun h3 => ?_) (fun h3 => ?_)
    · refine ExL.nil ?_
      refine Ex.cond_t rfl ?_
      refine Ex.skip ?_
      refine Ex.seq ?_
      refine Ex.block ?_
      refine Ex.regSeq (ExL.pures 2 rfl ?_)
      refine ExL.free (fr_indexAddrF (Reads.old hs) (eI_len .u8) rfl rfl rfl rfl rfl rfl (by omega)) rfl rfl rfl ?_
      refine ExL.free (fr_load rfl rfl rfl rfl (by first | exact cellN (Reads.old hs) (eI_len .u8) 0 0 rfl (by omega) rfl | exact cellF (Reads.old hs) (eI_len .u8) 0 0 rfl (by omega) rfl)) rfl rfl rfl ?_
      refine ExL.lss rfl rfl rfl rfl rfl rfl (fun h4 => ?_) (fun h4 => ?_)
      · refine ExL.pures 7 rfl ?_
        refine ExL.nil ?_
        refine Ex.cond_t rfl ?_
        refine Ex.regSeq (ExL.pures 1 rfl ?_)
        refine ExL.nil ?_
        refine Ex.ret ?_
        refine RetQ.mk () rfl (.tmp rfl .nil) (tB (by first | exact vs_len (by assumption) | exact vs_base (k := k) (by omega) (by omega) | (have hkl : k = s.length := (by omega); subst hkl; first | exact vs_yes (by assumption) hall (by omega) | exact vs_size (by omega)))) [] (rfl) rfl (trivial)
      · refine ExL.pures 3 rfl ?_
        refine ExL.free (fr_indexAddrF (Reads.old hs) (eI_len .u8) rfl rfl rfl rfl rfl rfl (by omega)) rfl rfl rfl ?_
        refine ExL.free (fr_load rfl rfl rfl rfl (by first | exact cellN (Reads.old hs) (eI_len .u8) 0 0 rfl (by omega) rfl | exact cellF (Reads.old hs) (eI_len .u8) 0 0 rfl (by omega) rfl)) rfl rfl rfl ?_
        refine ExL.gtr rfl rfl rfl rfl rfl rfl (fun h5 => ?_) (fun h5 => ?_)
        · refine ExL.pures 1 rfl ?_
          refine ExL.nil ?_
          refine Ex.cond_t rfl ?_
          refine Ex.regSeq (ExL.pures 1 rfl ?_)
          refine ExL.nil ?_
          refine Ex.ret ?_
          refine RetQ.mk () rfl (.tmp rfl .nil) (tB (by first | exact vs_len (by assumption) | exact vs_base (k := k) (by omega) (by omega) | (have hkl : k = s.length := (by omega); subst hkl; first | exact vs_yes (by assumption) hall (by omega) | exact vs_size (by omega)))) [] (rfl) rfl (trivial)
        · refine ExL.pures 1 rfl ?_
          refine ExL.nil ?_
          refine Ex.cond_f rfl ?_
          refine Ex.skip ?_
          refine Ex.region (ExL.pures 1 rfl ?_)
          refine ExL.free (by first | exact fr_add64 rfl rfl rfl (by omega) | exact fr_add rfl rfl rfl) rfl rfl rfl ?_
          refine ExL.pures 1 rfl ?_
          refine ExL.nil ?_
          refine Hand.mk (k + 1) 0 [] ⟨rfl, trivial⟩ ⟨rfl, trivial⟩ (rfl) rfl (⟨by omega, all_snoc hall (by omega)⟩) (by omega)
    · refine ExL.nil ?_
      refine Ex.cond_f rfl ?_
      refine Ex.exit ?_
      refine Ex.regSeq (ExL.pures 1 rfl ?_)
      refine ExL.op rfl (op_ret rfl rfl rfl (c_l01Size _ (by assumption) _ _ (by first | assumption | omega | (unfold maxLen; omega))) (Reads.get (Reads.old hs)) rfl rfl (fun x6 hx6 => ?_))
      refine ExL.leq rfl rfl rfl rfl rfl rfl (fun h7 => ?_) (fun h7 => ?_)
      · refine ExL.pures 1 rfl ?_
        refine ExL.nil ?_
        refine Ex.ret ?_
        refine RetQ.mk () rfl (.tmp rfl .nil) (tB (by first | exact vs_len (by assumption) | exact vs_base (k := k) (by omega) (by omega) | (have hkl : k = s.length := (by omega); subst hkl; first | exact vs_yes (by assumption) hall (by omega) | exact vs_size (by omega)))) [] (rfl) rfl (trivial)
      · refine ExL.pures 1 rfl ?_
        refine ExL.nil ?_
        refine Ex.ret ?_
        refine RetQ.mk () rfl (.tmp rfl .nil) (tB (by first | exact vs_len (by assumption) | exact vs_base (k := k) (by omega) (by omega) | (have hkl : k = s.length := (by omega); subst hkl; first | exact vs_yes (by assumption) hall (by omega) | exact vs_size (by omega)))) [] (rfl) rfl (trivial)
end Go.Proofs.YtejedjgajcjejaaGreatDoor

/- What these functions of the program hand back, each proved by walking its operations. -/
set_option linter.unusedVariables false
set_option linter.unusedSimpArgs false
set_option maxRecDepth 4000
namespace Go.Proofs.YtejedjgajcjejaaGreatDoor
open Go Go.Sx Go.RowKit Go.W Go.Proofs
attribute [local irreducible] Ex ExL ExD Op1 Free RetQ MutQ Reads CellO SegO LoadsAs
theorem e_9 : Enters Tryz.prog 9 := Enters.of Tryz.func9 rfl
theorem c_eqStack (s : List Int) (As : Option Addr) (cs : Nat) (hls : s.length ≤ maxLen) (t : List Int) (At : Option Addr) (ct : Nat) (hlt : t.length ≤ maxLen) : Ret Tryz.prog 9 [.slice As s.length cs, .slice At t.length ct] (fun w => Rd w As (s.flatMap (eI .u8)) ∧ Rd w At (t.flatMap (eI .u8))) (fun x : Unit => .bool (decide (s = t))) (fun x => []) (fun x => True) := by
  refine Ret.of e_9 Tryz.func9 rfl Tryz.ntmps9 rfl rfl (fun w hpre => ?_)
  have hs := hpre.1.base
  have ht := hpre.2.base
  have hm0 : maxLen = 9223372036854775807 := rfl
  refine Ex.regSeq (ExL.pures 1 rfl ?_)
  refine ExL.nil ?_
  refine Ex.seq ?_
  refine Ex.regSeq (ExL.pures 4 rfl ?_)
  refine ExL.neq rfl rfl rfl rfl rfl rfl (fun h1 => ?_) (fun h1 => ?_)
  · refine ExL.nil ?_
    refine Ex.cond_t rfl ?_
    refine Ex.regSeq (ExL.pures 1 rfl ?_)
    refine ExL.nil ?_
    refine Ex.ret ?_
    refine RetQ.mk () rfl (.tmp rfl .nil) (tB (by first | exact eq_len (by omega) | exact eq_no k (by assumption) | exact eq_yes (k := k) (by omega) (by omega) hall)) [] (rfl) rfl (trivial)
  · refine ExL.nil ?_
    refine Ex.cond_f rfl ?_
    refine Ex.skip ?_
    refine Ex.seq ?_
    refine Ex.regSeq (ExL.pures 1 rfl ?_)
    refine ExL.nil ?_
    refine Ex.block ?_
    refine Ex.loopK (X := Nat) (fun k => [(5, .int .i64 k)]) (fun k => []) (fun k => k ≤ s.length ∧ ∀ i, i < k → s.getD i 0 = t.getD i 0) (fun k => s.length - k) 0 [(0, _), (1, _)] [] 0 [] ⟨rfl, trivial⟩ ⟨rfl, rfl, trivial⟩ (rfl) rfl ⟨Nat.zero_le _, fun i hi => by omega⟩ (fun k hI => ?_)
    have hI : k ≤ s.length ∧ ∀ i, i < k → s.getD i 0 = t.getD i 0 := hI
    obtain ⟨hk, hall⟩ := hI
    refine Ex.seq ?_
    refine Ex.regSeq (ExL.pures 3 rfl ?_)
    refine ExL.lss rfl rfl rfl rfl rfl rfl (fun h2 => ?_) (fun h2 => ?_)
    · refine ExL.nil ?_
      refine Ex.cond_t rfl ?_
      refine Ex.skip ?_
      refine Ex.seq ?_
      refine Ex.block ?_
      refine Ex.drawSeqM rfl ?_
      refine ExD.take (i := 0) rfl (by kernel_rfl) (pureVal_ok rfl) ((List.Sublist.refl _)) rfl rfl rfl ?_
      refine ExD.take (i := 1) rfl (by kernel_rfl) (pureVal_ok rfl) ((List.Sublist.refl _)) rfl rfl rfl ?_
      refine ExD.take (i := 2) rfl (by kernel_rfl) (fr_indexAddrF (Reads.old hs) (eI_len .u8) rfl rfl rfl rfl rfl rfl (by omega)) ((List.Sublist.refl _)) rfl rfl rfl ?_
      refine ExD.take (i := 3) rfl (by kernel_rfl) (fr_load rfl rfl rfl rfl (by first | exact cellN (Reads.old hs) (eI_len .u8) 0 0 rfl (by omega) rfl | exact cellF (Reads.old hs) (eI_len .u8) 0 0 rfl (by omega) rfl)) ((List.Sublist.refl _)) rfl rfl rfl ?_
      refine ExD.take (i := 4) rfl (by kernel_rfl) (pureVal_ok rfl) ((List.Sublist.refl _)) rfl rfl rfl ?_
      refine ExD.take (i := 5) rfl (by kernel_rfl) (pureVal_ok rfl) ((List.Sublist.refl _)) rfl rfl rfl ?_
      refine ExD.take (i := 6) rfl (by kernel_rfl) (fr_indexAddrF (Reads.old ht) (eI_len .u8) rfl rfl rfl rfl rfl rfl (by omega)) ((List.Sublist.refl _)) rfl rfl rfl ?_
      refine ExD.take (i := 7) rfl (by kernel_rfl) (fr_load rfl rfl rfl rfl (by first | exact cellN (Reads.old ht) (eI_len .u8) 0 0 rfl (by omega) rfl | exact cellF (Reads.old ht) (eI_len .u8) 0 0 rfl (by omega) rfl)) ((List.Sublist.refl _)) rfl rfl rfl ?_
      refine ExD.cmp_neq (i := 8) rfl (by kernel_rfl) rfl rfl rfl ((List.Sublist.refl _)) rfl rfl rfl (fun h3 => ?_) (fun h3 => ?_)
      · refine ExD.done (by kernel_rfl) ?_
        refine Ex.cond_t rfl ?_
        refine Ex.regSeq (ExL.pures 1 rfl ?_)
        refine ExL.nil ?_
        refine Ex.ret ?_
        refine RetQ.mk () rfl (.tmp rfl .nil) (tB (by first | exact eq_len (by omega) | exact eq_no k (by assumption) | exact eq_yes (k := k) (by omega) (by omega) hall)) [] (rfl) rfl (trivial)
      · refine ExD.done (by kernel_rfl) ?_
        refine Ex.cond_f rfl ?_
        refine Ex.skip ?_
        refine Ex.region (ExL.pures 1 rfl ?_)
        refine ExL.free (by first | exact fr_add64 rfl rfl rfl (by omega) | exact fr_add rfl rfl rfl) rfl rfl rfl ?_
        refine ExL.pures 1 rfl ?_
        refine ExL.nil ?_
        refine Hand.mk (k + 1) 0 [] ⟨rfl, trivial⟩ ⟨rfl, rfl, trivial⟩ (rfl) rfl (⟨by omega, all_snoc hall (by first | assumption | omega)⟩) (by omega)
    · refine ExL.nil ?_
      refine Ex.cond_f rfl ?_
      refine Ex.exit ?_
      refine Ex.regSeq (ExL.pures 1 rfl ?_)
      refine ExL.nil ?_
      refine Ex.ret ?_
      refine RetQ.mk () rfl (.tmp rfl .nil) (tB (by first | exact eq_len (by omega) | exact eq_no k (by assumption) | exact eq_yes (k := k) (by omega) (by omega) hall)) [] (rfl) rfl (trivial)
theorem e_6 : Enters Tryz.prog 6 := Enters.of Tryz.func6 rfl
theorem c_toStack (s : List Int) (As : Option Addr) (cs : Nat) (hls : s.length ≤ 1048576) : Ret Tryz.prog 6 [.slice As s.length cs] (fun w => Rd w As (s.flatMap (eI .u8))) (fun x : Nat => .slice (some ⟨x, 0, none⟩) s.length s.length) (fun x => [.row (.slice (some ⟨x, 0, none⟩) s.length s.length) 5 1 s.length (s.flatMap (eI .u8))]) (fun x => True) := by
  refine Ret.of e_6 Tryz.func6 rfl Tryz.ntmps6 rfl rfl (fun w hpre => ?_)
  have hs := hpre.base
  refine Ex.regSeq (ExL.pures 1 rfl ?_)
  refine ExL.nil ?_
  refine Ex.regSeq (ExL.pures 2 rfl ?_)
  refine ExL.op rfl (op_makeSlice (sz := 1) rfl rfl rfl rfl rfl rfl rfl rfl (⟨by omega, by unfold maxLen; omega⟩) rfl rfl (fun r1 => ?_))
  refine ExL.pures 1 rfl ?_
  refine ExL.nil ?_
  refine Ex.seq ?_
  refine Ex.regSeq (ExL.pures 1 rfl ?_)
  refine ExL.nil ?_
  refine Ex.block ?_
  refine Ex.loopK (X := Nat) (fun k => [(4, .int .i64 k)]) (fun k => [.row (.slice (some ⟨r1, 0, none⟩) s.length s.length) 5 1 s.length ((Sx.part 0 s k).flatMap (eI .u8))]) (fun k => k ≤ s.length) (fun k => s.length - k) 0 [(0, _), (2, _), (3, _)] [] 1 [0] ⟨rfl, trivial⟩ ⟨rfl, rfl, rfl, trivial⟩ (pkR (zpart (eI_len .u8) 0 rfl s rfl)) rfl (Nat.zero_le _) (fun k hI => ?_)
  have hI : k ≤ s.length := hI
  refine Ex.seq ?_
  refine Ex.regSeq (ExL.pures 3 rfl ?_)
  refine ExL.lss rfl rfl rfl rfl rfl rfl (fun h2 => ?_) (fun h2 => ?_)
  · refine ExL.nil ?_
    refine Ex.cond_t rfl ?_
    refine Ex.skip ?_
    refine Ex.seq ?_
    refine Ex.block ?_
    refine Ex.region (ExL.pures 4 rfl ?_)
    refine ExL.free (fr_indexAddrF (Reads.old hs) (eI_len .u8) rfl rfl rfl rfl rfl rfl (by omega)) rfl rfl rfl ?_
    refine ExL.free (fr_load rfl rfl rfl rfl (by first | exact cellN (Reads.old hs) (eI_len .u8) 0 0 rfl (by omega) rfl | exact cellF (Reads.old hs) (eI_len .u8) 0 0 rfl (by omega) rfl)) rfl rfl rfl ?_
    refine ExL.free (fr_indexAddr (sz := 1) rfl rfl rfl rfl rfl rfl (by omega)) rfl rfl rfl ?_
    refine ExL.op rfl (op_storeRow (i := 0) rfl rfl rfl rfl rfl rfl rfl rfl (room (eI_len .u8) (k := k) (part_lt (by omega) (by omega)) (by first | rfl | simp) rfl) (List.cons_ne_nil _ _) rfl ?_)
    refine ExL.nil ?_
    refine Ex.region (ExL.pures 1 rfl ?_)
    refine ExL.free (by first | exact fr_add64 rfl rfl rfl (by omega) | exact fr_add rfl rfl rfl) rfl rfl rfl ?_
    refine ExL.pures 1 rfl ?_
    refine ExL.nil ?_
    refine Hand.mk (k + 1) 1 [0] ⟨rfl, trivial⟩ ⟨rfl, rfl, rfl, trivial⟩ (pkR (part_put (eI_len .u8) 0 0 s k (by omega) (by simp) rfl)) rfl (by omega) (by omega)
  · refine ExL.nil ?_
    refine Ex.cond_f rfl ?_
    refine Ex.exit ?_
    refine Ex.regSeq (ExL.pures 2 rfl ?_)
    refine ExL.nil ?_
    refine Ex.ret ?_
    refine RetQ.mk _ rfl (.tmp rfl .nil) (rfl) [0] (pkR (by obtain rfl : k = s.length := (by omega); rw [part_all])) rfl (trivial)
theorem e_26 : Enters Tryz.prog 26 := Enters.of Tryz.func26 rfl
theorem c_eqDigits (a b : Dig) : Ret Tryz.prog 26 [.agg (encD a).toArray, .agg (encD b).toArray] (fun w => True) (fun x : Unit => .bool (decide (a.l = b.l))) (fun x => []) (fun x => True) := by
  refine Ret.of e_26 Tryz.func26 rfl Tryz.ntmps26 rfl rfl (fun w hpre => ?_)
  refine Ex.regSeq (ExL.pures 0 rfl ?_)
  refine ExL.op rfl (op_box rfl rfl rfl rfl rfl (fun b1 => ?_))
  refine ExL.op rfl (op_box rfl rfl rfl rfl rfl (fun b2 => ?_))
  refine ExL.pures 1 rfl ?_
  refine ExL.nil ?_
  refine Ex.seq ?_
  refine Ex.regSeq (ExL.pures 1 rfl ?_)
  refine ExL.nil ?_
  refine Ex.block ?_
  refine Ex.loopK (X := Nat) (fun k => [(5, .int .i64 k)]) (fun k => []) (fun k => k ≤ 8 ∧ ∀ i, i < k → a.l.getD i 0 = b.l.getD i 0) (fun k => 8 - k) 0 [(2, _), (3, _)] [_, _] 2 [0, 1] ⟨rfl, trivial⟩ ⟨rfl, rfl, trivial⟩ (rfl) rfl ⟨Nat.zero_le _, fun i hi => by omega⟩ (fun k hI => ?_)
  have hI : k ≤ 8 ∧ ∀ i, i < k → a.l.getD i 0 = b.l.getD i 0 := hI
  obtain ⟨hk, hall⟩ := hI
  refine Ex.seq ?_
  refine Ex.regSeq (ExL.pures 1 rfl ?_)
  refine ExL.lss rfl rfl rfl rfl rfl rfl (fun h3 => ?_) (fun h3 => ?_)
  · refine ExL.nil ?_
    refine Ex.cond_t rfl ?_
    refine Ex.skip ?_
    refine Ex.seq ?_
    refine Ex.block ?_
    refine Ex.drawSeqM rfl ?_
    refine ExD.take (i := 0) rfl (by kernel_rfl) (pureVal_ok rfl) ((List.Sublist.refl _)) rfl rfl rfl ?_
    refine ExD.take (i := 1) rfl (by kernel_rfl) (fr_indexAddr_b (sz := 1) rfl rfl rfl rfl rfl (by omega)) ((List.Sublist.refl _)) rfl rfl rfl ?_
    refine ExD.take (i := 2) rfl (by kernel_rfl) (fr_load rfl rfl rfl rfl (CellO.blk (i := 1) rfl (blkG (eI_len .u8) 0 rfl (by rw [dig_len]; omega) rfl))) ((List.Sublist.refl _)) rfl rfl rfl ?_
    refine ExD.take (i := 3) rfl (by kernel_rfl) (pureVal_ok rfl) ((List.Sublist.refl _)) rfl rfl rfl ?_
    refine ExD.take (i := 4) rfl (by kernel_rfl) (fr_indexAddr_b (sz := 1) rfl rfl rfl rfl rfl (by omega)) ((List.Sublist.refl _)) rfl rfl rfl ?_
    refine ExD.take (i := 5) rfl (by kernel_rfl) (fr_load rfl rfl rfl rfl (CellO.blk (i := 0) rfl (blkG (eI_len .u8) 0 rfl (by rw [dig_len]; omega) rfl))) ((List.Sublist.refl _)) rfl rfl rfl ?_
    refine ExD.cmp_neq (i := 6) rfl (by kernel_rfl) rfl rfl rfl ((List.Sublist.refl _)) rfl rfl rfl (fun h4 => ?_) (fun h4 => ?_)
    · refine ExD.done (by kernel_rfl) ?_
      refine Ex.cond_t rfl ?_
      refine Ex.regSeq (ExL.pures 1 rfl ?_)
      refine ExL.nil ?_
      refine Ex.ret ?_
      refine RetQ.mk () rfl (.tmp rfl .nil) (tB (by first | exact eq_no k (by assumption) | exact eq_yes (k := k) rfl (by rw [dig_len]; omega) hall)) [] (rfl) rfl (trivial)
    · refine ExD.done (by kernel_rfl) ?_
      refine Ex.cond_f rfl ?_
      refine Ex.skip ?_
      refine Ex.region (ExL.pures 1 rfl ?_)
      refine ExL.free (by first | exact fr_add64 rfl rfl rfl (by omega) | exact fr_add rfl rfl rfl) rfl rfl rfl ?_
      refine ExL.pures 1 rfl ?_
      refine ExL.nil ?_
      refine Hand.mk (k + 1) 2 [0, 1] ⟨rfl, trivial⟩ ⟨rfl, rfl, trivial⟩ (rfl) rfl (⟨by omega, all_snoc hall (by first | assumption | omega)⟩) (by omega)
  · refine ExL.nil ?_
    refine Ex.cond_f rfl ?_
    refine Ex.exit ?_
    refine Ex.regSeq (ExL.pures 1 rfl ?_)
    refine ExL.nil ?_
    refine Ex.ret ?_
    refine RetQ.mk () rfl (.tmp rfl .nil) (tB (by first | exact eq_no k (by assumption) | exact eq_yes (k := k) rfl (by rw [dig_len]; omega) hall)) [] (rfl) rfl (trivial)
end Go.Proofs.YtejedjgajcjejaaGreatDoor

/- What these functions of the program hand back, each proved by walking its operations. -/
set_option linter.unusedVariables false
set_option linter.unusedSimpArgs false
set_option maxRecDepth 4000
namespace Go.Proofs.YtejedjgajcjejaaGreatDoor
open Go Go.Sx Go.RowKit Go.W Go.Proofs
attribute [local irreducible] Ex ExL ExD Op1 Free RetQ MutQ Reads CellO SegO LoadsAs
end Go.Proofs.YtejedjgajcjejaaGreatDoor

/- What these functions of the program hand back, each proved by walking its operations. -/
set_option linter.unusedVariables false
set_option linter.unusedSimpArgs false
set_option maxRecDepth 4000
namespace Go.Proofs.YtejedjgajcjejaaGreatDoor
open Go Go.Sx Go.RowKit Go.W Go.Proofs
attribute [local irreducible] Ex ExL ExD Op1 Free RetQ MutQ Reads CellO SegO LoadsAs
theorem e_40 : Enters Tryz.prog 40 := Enters.of Tryz.func40 rfl
theorem c_l07Check (n : Int) (hn : 0 ≤ n ∧ n ≤ 9223372036854775807) (a : Dig) (ha : Nums 255 a.l) : Ret Tryz.prog 40 [.int .i64 n, .agg (encD a).toArray] (fun w => True) (fun x : Unit => .int .u16 (check n a.l)) (fun x => []) (fun x => True) := by
  refine Ret.of e_40 Tryz.func40 rfl Tryz.ntmps40 rfl rfl (fun w hpre => ?_)
  refine Ex.regSeq (ExL.pures 0 rfl ?_)
  refine ExL.op rfl (op_box rfl rfl rfl rfl rfl (fun b1 => ?_))
  refine ExL.pures 1 rfl ?_
  refine ExL.nil ?_
  refine Ex.regSeq (ExL.pures 1 rfl ?_)
  refine ExL.nil ?_
  refine Ex.seq ?_
  refine Ex.regSeq (ExL.pures 1 rfl ?_)
  refine ExL.nil ?_
  refine Ex.block ?_
  refine Ex.loopK (X := Nat) (fun k => [(5, .int .u16 (chk1 n k)), (6, .int .i64 k)]) (fun k => []) (fun k => k ≤ 4) (fun k => 4 - k) 0 [(0, _), (3, _), (4, _)] [_] 1 [0] ⟨rfl, rfl, trivial⟩ ⟨rfl, rfl, rfl, trivial⟩ (rfl) rfl (by omega) (fun k hI => ?_)
  have hI : k ≤ 4 := hI
  have hd := Int.ediv_nonneg hn.1 (show (0 : Int) ≤ 2 ^ min (8 * (k : Int)).toNat IntKind.i64.bits from Int.pow_nonneg (by omega))
  have hd2 := Int.ediv_le_self (2 ^ min (8 * (k : Int)).toNat IntKind.i64.bits) hn.1
  refine Ex.seq ?_
  refine Ex.regSeq (ExL.pures 1 rfl ?_)
  refine ExL.lss rfl rfl rfl rfl rfl rfl (fun h2 => ?_) (fun h2 => ?_)
  · refine ExL.nil ?_
    refine Ex.cond_t rfl ?_
    refine Ex.skip ?_
    refine Ex.seq ?_
    refine Ex.block ?_
    refine Ex.region (ExL.pures 1 rfl ?_)
    refine ExL.free (fr_mul rfl rfl rfl) rfl rfl rfl ?_
    refine ExL.pures 2 rfl ?_
    refine ExL.free (by first | exact fr_mul64 rfl rfl rfl (by omega) | exact fr_mul rfl rfl rfl) rfl rfl rfl ?_
    refine ExL.free (by first | exact fr_conv_u64 rfl rfl rfl rfl (by omega) | exact fr_conv rfl rfl rfl rfl) rfl rfl rfl ?_
    refine ExL.free (fr_shr rfl rfl rfl (by omega)) rfl rfl rfl ?_
    refine ExL.free (by first | exact fr_and255 rfl rfl rfl (by omega) | exact fr_bits rfl rfl rfl (by simp)) rfl rfl rfl ?_
    refine ExL.free (by first | exact fr_conv_u16 rfl rfl rfl rfl (by omega) | exact fr_conv rfl rfl rfl rfl) rfl rfl rfl ?_
    refine ExL.free (fr_add rfl rfl rfl) rfl rfl rfl ?_
    refine ExL.pures 1 rfl ?_
    refine ExL.nil ?_
    refine Ex.region (ExL.pures 1 rfl ?_)
    refine ExL.free (by first | exact fr_add64 rfl rfl rfl (by omega) | exact fr_add rfl rfl rfl) rfl rfl rfl ?_
    refine ExL.pures 1 rfl ?_
    refine ExL.nil ?_
    refine Hand.mk (k + 1) 1 [0] ⟨agI (by rw [shr_256 (by omega)]; exact wrap_step _ _), rfl, trivial⟩ ⟨rfl, rfl, rfl, trivial⟩ (rfl) rfl (by omega) (by omega)
  · refine ExL.nil ?_
    refine Ex.cond_f rfl ?_
    refine Ex.exit ?_
    obtain rfl : k = 4 := (by omega)
    refine Ex.seq ?_
    refine Ex.regSeq (ExL.pures 1 rfl ?_)
    refine ExL.nil ?_
    refine Ex.block ?_
    refine Ex.loopK (X := Nat) (fun k => [(5, .int .u16 (chk2 (chk1 n 4) (a.l.take k))), (7, .int .i64 k)]) (fun k => []) (fun k => k ≤ 8) (fun k => 8 - k) 0 [(3, _), (4, _)] [_] 1 [0] ⟨rfl, rfl, trivial⟩ ⟨rfl, rfl, trivial⟩ (rfl) rfl (by omega) (fun k hI => ?_)
    have hI : k ≤ 8 := hI
    have hx := ha.at_ (by omega) k
    refine Ex.seq ?_
    refine Ex.regSeq (ExL.pures 1 rfl ?_)
    refine ExL.lss rfl rfl rfl rfl rfl rfl (fun h3 => ?_) (fun h3 => ?_)
    · refine ExL.nil ?_
      refine Ex.cond_t rfl ?_
      refine Ex.skip ?_
      refine Ex.seq ?_
      refine Ex.block ?_
      refine Ex.region (ExL.pures 1 rfl ?_)
      refine ExL.free (fr_mul rfl rfl rfl) rfl rfl rfl ?_
      refine ExL.pures 1 rfl ?_
      refine ExL.free (fr_indexAddr_b (sz := 1) rfl rfl rfl rfl rfl (by omega)) rfl rfl rfl ?_
      refine ExL.free (fr_load rfl rfl rfl rfl (CellO.blk (i := 0) rfl (blkG (eI_len .u8) 0 rfl (by rw [dig_len]; omega) rfl))) rfl rfl rfl ?_
      refine ExL.free (by first | exact fr_conv_u16 rfl rfl rfl rfl (by omega) | exact fr_conv rfl rfl rfl rfl) rfl rfl rfl ?_
      refine ExL.free (fr_add rfl rfl rfl) rfl rfl rfl ?_
      refine ExL.pures 1 rfl ?_
      refine ExL.nil ?_
      refine Ex.region (ExL.pures 1 rfl ?_)
      refine ExL.free (by first | exact fr_add64 rfl rfl rfl (by omega) | exact fr_add rfl rfl rfl) rfl rfl rfl ?_
      refine ExL.pures 1 rfl ?_
      refine ExL.nil ?_
      refine Hand.mk (k + 1) 1 [0] ⟨agI ((wrap_step _ _).trans (chk2_snoc _ _ k (by rw [dig_len]; omega)).symm), rfl, trivial⟩ ⟨rfl, rfl, trivial⟩ (rfl) rfl (by omega) (by omega)
    · refine ExL.nil ?_
      refine Ex.cond_f rfl ?_
      refine Ex.exit ?_
      obtain rfl : k = 8 := (by omega)
      refine Ex.regSeq (ExL.pures 2 rfl ?_)
      refine ExL.nil ?_
      refine Ex.ret ?_
      refine RetQ.mk () rfl (.tmp rfl .nil) (rfl) [] (rfl) rfl (trivial)
theorem e_88 : Enters Tryz.prog 88 := Enters.of Tryz.func88 rfl
theorem c_put (b : Nat) (c n : Int) (hn : 0 ≤ n ∧ n ≤ 255) : Mut Tryz.prog 88 [.int .u8 n, .pointer (some ⟨b, 0, none⟩)] [.blk b [.int .u16 c] 25] (fun base w0 F => True) (fun x : Unit => .tuple #[]) (fun x => [.blk b [.int .u16 (W.step c n)] 25]) (fun x => True) := by
  refine Mut.of e_88 Tryz.func88 rfl Tryz.ntmps88 rfl rfl (fun base w0 F hfr => ?_)
  refine Ex.region (ExL.pures 0 rfl ?_)
  refine ExL.free (fr_load rfl rfl rfl rfl (CellO.blk (i := 0) rfl rfl)) rfl rfl rfl ?_
  refine ExL.free (fr_mul rfl rfl rfl) rfl rfl rfl ?_
  refine ExL.pures 1 rfl ?_
  refine ExL.free (by first | exact fr_conv_u16 rfl rfl rfl rfl (by omega) | exact fr_conv rfl rfl rfl rfl) rfl rfl rfl ?_
  refine ExL.free (fr_add rfl rfl rfl) rfl rfl rfl ?_
  refine ExL.op rfl (op_storeC (i := 0) rfl rfl rfl rfl rfl rfl rfl rfl rfl rfl ?_)
  refine ExL.nil ?_
  refine MutQ.mk () rfl .nil (rfl) 1 [0] (pkB (congrArg (fun z => [Value.int .u16 z]) (wrap_step _ _))) rfl (trivial)
theorem e_71 : Enters Tryz.prog 71 := Enters.of Tryz.func71 rfl
theorem c_check (n : Int) (hn : 0 ≤ n ∧ n ≤ 9223372036854775807) (a : Dig) (ha : Nums 255 a.l) : Ret Tryz.prog 71 [.int .i64 n, .agg (encD a).toArray] (fun w => True) (fun x : Unit => .int .u16 (check n a.l)) (fun x => []) (fun x => True) := by
  refine Ret.of e_71 Tryz.func71 rfl Tryz.ntmps71 rfl rfl (fun w hpre => ?_)
  refine Ex.regSeq (ExL.pures 0 rfl ?_)
  refine ExL.op rfl (op_box rfl rfl rfl rfl rfl (fun b1 => ?_))
  refine ExL.pures 1 rfl ?_
  refine ExL.nil ?_
  refine Ex.regSeq (ExL.pures 0 rfl ?_)
  refine ExL.op rfl (op_alloc rfl rfl rfl rfl rfl (fun b2 => ?_))
  refine ExL.op rfl (op_storeC (i := 0) rfl rfl rfl rfl rfl rfl rfl rfl rfl rfl ?_)
  refine ExL.nil ?_
  refine Ex.regSeq (ExL.pures 0 rfl ?_)
  refine ExL.free (fr_makeFunc rfl rfl rfl) rfl rfl rfl ?_
  refine ExL.pures 1 rfl ?_
  refine ExL.nil ?_
  refine Ex.seq ?_
  refine Ex.regSeq (ExL.pures 1 rfl ?_)
  refine ExL.nil ?_
  refine Ex.block ?_
  refine Ex.loopK (X := Nat) (fun k => [(0, .int .i64 (n / 256 ^ k)), (10, .int .i64 k)]) (fun k => [.blk b2 [.int .u16 (chk1 n k)] 25]) (fun k => k ≤ 4) (fun k => 4 - k) 0 [(3, _), (4, _), (5, _), (6, _)] [_] 2 [0, 1] ⟨agI (by simp), rfl, trivial⟩ ⟨rfl, rfl, rfl, rfl, trivial⟩ (rfl) rfl (by omega) (fun k hI => ?_)
  have hI : k ≤ 4 := hI
  have hd := Int.ediv_nonneg hn.1 (show (0 : Int) ≤ 256 ^ k from Int.pow_nonneg (by omega))
  have hu : 0 ≤ IntKind.u8.wrap (n / 256 ^ k) ∧ IntKind.u8.wrap (n / 256 ^ k) ≤ 255 := (by rw [wrap_u8_mod]; omega)
  refine Ex.regSeq (ExL.pures 0 rfl ?_)
  refine ExL.lss rfl rfl rfl rfl rfl rfl (fun h3 => ?_) (fun h3 => ?_)
  · refine ExL.nil ?_
    refine Ex.seq ?_
    refine Ex.cond_t rfl ?_
    refine Ex.skip ?_
    refine Ex.seq ?_
    refine Ex.block ?_
    refine Ex.regSeq (ExL.pures 2 rfl ?_)
    refine ExL.free (by first | exact fr_conv_u8 rfl rfl rfl rfl (by omega) | exact fr_conv rfl rfl rfl rfl) rfl rfl rfl ?_
    refine ExL.op rfl (op_mut rfl rfl rfl (c_put _ _ _ (by omega)) (perm_at (i := 0) rfl) (trivial) rfl rfl (fun x4 hx4 => ?_))
    refine ExL.nil ?_
    refine Ex.region (ExL.pures 1 rfl ?_)
    refine ExL.free (fr_shr rfl rfl rfl (by omega)) rfl rfl rfl ?_
    refine ExL.pures 1 rfl ?_
    refine ExL.nil ?_
    refine Ex.region (ExL.pures 0 rfl ?_)
    refine ExL.free (by first | exact fr_add64 rfl rfl rfl (by omega) | exact fr_add rfl rfl rfl) rfl rfl rfl ?_
    refine ExL.pures 1 rfl ?_
    refine ExL.nil ?_
    refine Hand.mk (k + 1) 2 [0, 1] ⟨agI (div_256 _ _), rfl, trivial⟩ ⟨rfl, rfl, rfl, rfl, trivial⟩ (pkB (by rw [wrap_u8_mod]; rfl)) rfl (by omega) (by omega)
  · refine ExL.nil ?_
    refine Ex.seq ?_
    refine Ex.cond_f rfl ?_
    refine Ex.exit ?_
    obtain rfl : k = 4 := (by omega)
    refine Ex.seq ?_
    refine Ex.regSeq (ExL.pures 0 rfl ?_)
    refine ExL.free (fr_loadN rfl rfl rfl rfl rfl (SegO.whole (i := 1) rfl)) rfl rfl rfl ?_
    refine ExL.pures 1 rfl ?_
    refine ExL.nil ?_
    refine Ex.block ?_
    refine Ex.loopK (X := Nat) (fun k => [(20, .int .i64 k)]) (fun k => [.blk b2 [.int .u16 (chk2 (chk1 n 4) (a.l.take k))] 25]) (fun k => k ≤ 8) (fun k => 8 - k) 0 [(4, _), (5, _), (6, _), (19, _)] [] 2 [0] ⟨rfl, trivial⟩ ⟨rfl, rfl, rfl, rfl, trivial⟩ (rfl) rfl (by omega) (fun k hI => ?_)
    have hI : k ≤ 8 := hI
    have hx := ha.at_ (by omega) k
    refine Ex.regSeq (ExL.pures 0 rfl ?_)
    refine ExL.lss rfl rfl rfl rfl rfl rfl (fun h5 => ?_) (fun h5 => ?_)
    · refine ExL.nil ?_
      refine Ex.seq ?_
      refine Ex.cond_t rfl ?_
      refine Ex.skip ?_
      refine Ex.seq ?_
      refine Ex.block ?_
      refine Ex.regSeq (ExL.pures 0 rfl ?_)
      refine ExL.free (fr_index (sz := 1) rfl rfl rfl rfl rfl rfl rfl (by omega) (idxG (eI_len .u8) 0 rfl (by rw [dig_len]; omega) rfl)) rfl rfl rfl ?_
      refine ExL.pures 1 rfl ?_
      refine ExL.nil ?_
      refine Ex.region (ExL.pures 2 rfl ?_)
      refine ExL.op rfl (op_mut rfl rfl rfl (c_put _ _ _ (by omega)) (perm_at (i := 0) rfl) (trivial) rfl rfl (fun x6 hx6 => ?_))
      refine ExL.nil ?_
      refine Ex.region (ExL.pures 0 rfl ?_)
      refine ExL.free (by first | exact fr_add64 rfl rfl rfl (by omega) | exact fr_add rfl rfl rfl) rfl rfl rfl ?_
      refine ExL.pures 1 rfl ?_
      refine ExL.nil ?_
      refine Hand.mk (k + 1) 1 [0] ⟨rfl, trivial⟩ ⟨rfl, rfl, rfl, rfl, trivial⟩ (pkB (by rw [chk2_snoc _ _ k (by rw [dig_len]; omega)])) rfl (by omega) (by omega)
    · refine ExL.nil ?_
      refine Ex.seq ?_
      refine Ex.cond_f rfl ?_
      refine Ex.exit ?_
      obtain rfl : k = 8 := (by omega)
      refine Ex.regSeq (ExL.pures 0 rfl ?_)
      refine ExL.free (fr_load rfl rfl rfl rfl (CellO.blk (i := 0) rfl rfl)) rfl rfl rfl ?_
      refine ExL.pures 1 rfl ?_
      refine ExL.nil ?_
      refine Ex.ret ?_
      refine RetQ.mk () rfl (.tmp rfl .nil) (rfl) [] (rfl) rfl (trivial)
end Go.Proofs.YtejedjgajcjejaaGreatDoor
