/- Several texts, one behind the other. -/
import Derived.Test.YtdgfalhfmboalaaGreatDoorRows
import Derived.ProofKit
import Derived.SizedLaws
import Derived.Test.YtdgfalhfmboalaaGreatDoorProg
import Derived.Lib.ItoaNum
import Derived.Lib.LaidTab
import Derived.Sort.Grow
import Derived.Deep.Draws
import Derived.Lib.Join
import Derived.Lib.ParseIntB
import Derived.Lib.Split
import Derived.Laws.Strings
import Derived.Laws.Strings2
import Derived.Laws.Strings3
import Derived.Laws.Slices
import Derived.Lib.SplitLaws
import Derived.Lib.ParseIntBMem
import Derived.Lib.ParseIntBTie
import Derived.Stop.IfaceNil
import Derived.Handed
import Derived.HandedShaped
import Derived.Test.YtdgfalhfmboalaaGreatDoorXaa
import Derived.Test.YtdgfalhfmboalaaGreatDoorXab
/- The head of the dump as a list of words, and what the claims ask of it. -/
namespace Go.Proofs.YtdgfalhfmboalaaGreatDoor
open Go Go.RowKit
set_option maxRecDepth 100000
theorem words_cons (s : List Char) : ∀ w : List Char, w.all (· != Char.ofNat 32) = true → wordsSigns (w ++ Char.ofNat 32 :: s) = w :: wordsSigns s
  | [], _ => rfl
  | c :: w, h => by
    simp only [List.all_cons, Bool.and_eq_true, bne_iff_ne, ne_eq] at h
    have ih := words_cons s w h.2
    show wordsSigns (c :: (w ++ Char.ofNat 32 :: s)) = _
    conv => lhs; unfold wordsSigns
    split
    · next e => cases e
    · next e => injection e with e1 e2; exact absurd e1 h.1
    · next c' r' _ e => injection e with e1 e2; subst e1; subst e2; rw [ih]
theorem io : Tryz.pinned.checked.prog.initOrder.toList = [Char.ofNat 104, Char.ofNat 97, Char.ofNat 114, Char.ofNat 110, Char.ofNat 101, Char.ofNat 115, Char.ofNat 115] ++ Char.ofNat 32 :: ([Char.ofNat 99, Char.ofNat 99, Char.ofNat 53, Char.ofNat 55, Char.ofNat 49, Char.ofNat 99, Char.ofNat 50, Char.ofNat 56, Char.ofNat 56, Char.ofNat 53, Char.ofNat 54, Char.ofNat 99, Char.ofNat 97, Char.ofNat 53, Char.ofNat 55, Char.ofNat 51, Char.ofNat 101, Char.ofNat 53, Char.ofNat 97, Char.ofNat 49, Char.ofNat 98, Char.ofNat 100, Char.ofNat 54, Char.ofNat 50, Char.ofNat 48, Char.ofNat 100, Char.ofNat 57, Char.ofNat 102, Char.ofNat 98, Char.ofNat 101, Char.ofNat 98, Char.ofNat 98, Char.ofNat 97, Char.ofNat 99, Char.ofNat 48, Char.ofNat 102, Char.ofNat 97, Char.ofNat 57, Char.ofNat 49, Char.ofNat 101, Char.ofNat 99, Char.ofNat 54, Char.ofNat 99, Char.ofNat 101, Char.ofNat 101, Char.ofNat 57, Char.ofNat 100, Char.ofNat 51, Char.ofNat 54, Char.ofNat 49, Char.ofNat 102, Char.ofNat 55, Char.ofNat 54, Char.ofNat 54, Char.ofNat 100, Char.ofNat 48, Char.ofNat 102, Char.ofNat 51, Char.ofNat 53, Char.ofNat 57, Char.ofNat 99, Char.ofNat 101, Char.ofNat 102, Char.ofNat 99] ++ Char.ofNat 32 :: ([Char.ofNat 99, Char.ofNat 117, Char.ofNat 116] ++ Char.ofNat 32 :: [Char.ofNat 97, Char.ofNat 116, Char.ofNat 32, Char.ofNat 108, Char.ofNat 111, Char.ofNat 111, Char.ofNat 112, Char.ofNat 46, Char.ofNat 101, Char.ofNat 120, Char.ofNat 97, Char.ofNat 109, Char.ofNat 112, Char.ofNat 108, Char.ofNat 101, Char.ofNat 47, Char.ofNat 103, Char.ofNat 48, Char.ofNat 49, Char.ofNat 50, Char.ofNat 55, Char.ofNat 56, Char.ofNat 47, Char.ofNat 108, Char.ofNat 97, Char.ofNat 119, Char.ofNat 115, Char.ofNat 46, Char.ofNat 70, Char.ofNat 110, Char.ofNat 80, Char.ofNat 104, Char.ofNat 111, Char.ofNat 116, Char.ofNat 111, Char.ofNat 115])) := by
  have h : Tryz.pinned.checked.prog.initOrder = String.ofList ([Char.ofNat 104, Char.ofNat 97, Char.ofNat 114, Char.ofNat 110, Char.ofNat 101, Char.ofNat 115, Char.ofNat 115] ++ Char.ofNat 32 :: ([Char.ofNat 99, Char.ofNat 99, Char.ofNat 53, Char.ofNat 55, Char.ofNat 49, Char.ofNat 99, Char.ofNat 50, Char.ofNat 56, Char.ofNat 56, Char.ofNat 53, Char.ofNat 54, Char.ofNat 99, Char.ofNat 97, Char.ofNat 53, Char.ofNat 55, Char.ofNat 51, Char.ofNat 101, Char.ofNat 53, Char.ofNat 97, Char.ofNat 49, Char.ofNat 98, Char.ofNat 100, Char.ofNat 54, Char.ofNat 50, Char.ofNat 48, Char.ofNat 100, Char.ofNat 57, Char.ofNat 102, Char.ofNat 98, Char.ofNat 101, Char.ofNat 98, Char.ofNat 98, Char.ofNat 97, Char.ofNat 99, Char.ofNat 48, Char.ofNat 102, Char.ofNat 97, Char.ofNat 57, Char.ofNat 49, Char.ofNat 101, Char.ofNat 99, Char.ofNat 54, Char.ofNat 99, Char.ofNat 101, Char.ofNat 101, Char.ofNat 57, Char.ofNat 100, Char.ofNat 51, Char.ofNat 54, Char.ofNat 49, Char.ofNat 102, Char.ofNat 55, Char.ofNat 54, Char.ofNat 54, Char.ofNat 100, Char.ofNat 48, Char.ofNat 102, Char.ofNat 51, Char.ofNat 53, Char.ofNat 57, Char.ofNat 99, Char.ofNat 101, Char.ofNat 102, Char.ofNat 99] ++ Char.ofNat 32 :: ([Char.ofNat 99, Char.ofNat 117, Char.ofNat 116] ++ Char.ofNat 32 :: [Char.ofNat 97, Char.ofNat 116, Char.ofNat 32, Char.ofNat 108, Char.ofNat 111, Char.ofNat 111, Char.ofNat 112, Char.ofNat 46, Char.ofNat 101, Char.ofNat 120, Char.ofNat 97, Char.ofNat 109, Char.ofNat 112, Char.ofNat 108, Char.ofNat 101, Char.ofNat 47, Char.ofNat 103, Char.ofNat 48, Char.ofNat 49, Char.ofNat 50, Char.ofNat 55, Char.ofNat 56, Char.ofNat 47, Char.ofNat 108, Char.ofNat 97, Char.ofNat 119, Char.ofNat 115, Char.ofNat 46, Char.ofNat 70, Char.ofNat 110, Char.ofNat 80, Char.ofNat 104, Char.ofNat 111, Char.ofNat 116, Char.ofNat 111, Char.ofNat 115]))) := by kernel_rfl
  rw [h, String.toList_ofList]
theorem io_words : ∃ rest, wordsSigns Tryz.pinned.checked.prog.initOrder.toList = [Char.ofNat 104, Char.ofNat 97, Char.ofNat 114, Char.ofNat 110, Char.ofNat 101, Char.ofNat 115, Char.ofNat 115] :: [Char.ofNat 99, Char.ofNat 99, Char.ofNat 53, Char.ofNat 55, Char.ofNat 49, Char.ofNat 99, Char.ofNat 50, Char.ofNat 56, Char.ofNat 56, Char.ofNat 53, Char.ofNat 54, Char.ofNat 99, Char.ofNat 97, Char.ofNat 53, Char.ofNat 55, Char.ofNat 51, Char.ofNat 101, Char.ofNat 53, Char.ofNat 97, Char.ofNat 49, Char.ofNat 98, Char.ofNat 100, Char.ofNat 54, Char.ofNat 50, Char.ofNat 48, Char.ofNat 100, Char.ofNat 57, Char.ofNat 102, Char.ofNat 98, Char.ofNat 101, Char.ofNat 98, Char.ofNat 98, Char.ofNat 97, Char.ofNat 99, Char.ofNat 48, Char.ofNat 102, Char.ofNat 97, Char.ofNat 57, Char.ofNat 49, Char.ofNat 101, Char.ofNat 99, Char.ofNat 54, Char.ofNat 99, Char.ofNat 101, Char.ofNat 101, Char.ofNat 57, Char.ofNat 100, Char.ofNat 51, Char.ofNat 54, Char.ofNat 49, Char.ofNat 102, Char.ofNat 55, Char.ofNat 54, Char.ofNat 54, Char.ofNat 100, Char.ofNat 48, Char.ofNat 102, Char.ofNat 51, Char.ofNat 53, Char.ofNat 57, Char.ofNat 99, Char.ofNat 101, Char.ofNat 102, Char.ofNat 99] :: [Char.ofNat 99, Char.ofNat 117, Char.ofNat 116] :: rest := by
  rw [io, words_cons _ _ (by decide), words_cons _ _ (by decide), words_cons _ _ (by decide)]; exact ⟨_, rfl⟩
theorem io_main : ∃ rest, behindMainWord (wordsSigns Tryz.pinned.checked.prog.initOrder.toList) = [Char.ofNat 99, Char.ofNat 117, Char.ofNat 116] :: rest := by
  obtain ⟨rest, h⟩ := io_words; rw [h]; exact ⟨rest, by kernel_rfl⟩
theorem head_of {P : Program} {rest : List (List Char)} (h : behindMainWord (wordsSigns P.initOrder.toList) = [Char.ofNat 99, Char.ofNat 117, Char.ofNat 116] :: rest) : P.headLifts = [] := by
  unfold Program.headLifts; rw [h]; kernel_rfl
theorem lifts_of {P : Program} {rest : List (List Char)} (h : behindMainWord (wordsSigns P.initOrder.toList) = [Char.ofNat 99, Char.ofNat 117, Char.ofNat 116] :: rest) : P.liftsFinal = false := by
  unfold Program.liftsFinal; rw [head_of h, h]; kernel_rfl
theorem make_of {P : Program} {rest : List (List Char)} (h : behindMainWord (wordsSigns P.initOrder.toList) = [Char.ofNat 99, Char.ofNat 117, Char.ofNat 116] :: rest) : P.make = some .cut := by
  unfold Program.make; rw [head_of h, h]; kernel_rfl
theorem enter_of {P : Program} {rest : List (List Char)} (h : behindMainWord (wordsSigns P.initOrder.toList) = [Char.ofNat 99, Char.ofNat 117, Char.ofNat 116] :: rest) (h1 : P.laysLater = false) (h2 : P.bearsReflect = false) (h3 : P.doorFits [] = true) : P.mayEnter = true := by
  unfold Program.mayEnter; rw [h, h1, h2]
  have e : stripLifts liftWords ([Char.ofNat 99, Char.ofNat 117, Char.ofNat 116] :: rest) = ([], [Char.ofNat 99, Char.ofNat 117, Char.ofNat 116] :: rest) := by kernel_rfl
  simp only [e, h3]; rfl
theorem io_lifts : Tryz.pinned.checked.prog.liftsFinal = false := by obtain ⟨rest, h⟩ := io_main; exact lifts_of h
theorem io_make : Tryz.pinned.checked.prog.make = some .cut := by obtain ⟨rest, h⟩ := io_main; exact make_of h
theorem io_later : Tryz.pinned.checked.prog.laysLater = false := by kernel_rfl
theorem io_reflect : Tryz.pinned.checked.prog.bearsReflect = false := by kernel_rfl
theorem io_door : Tryz.pinned.checked.prog.doorFits [] = true := by kernel_rfl
theorem io_enter : Tryz.pinned.checked.prog.mayEnter = true := by obtain ⟨rest, h⟩ := io_main; exact enter_of h io_later io_reflect io_door
end Go.Proofs.YtdgfalhfmboalaaGreatDoor

/- Arguments, opened by their types. -/
namespace Go.Proofs.YtdgfalhfmboalaaGreatDoor
open Go Go.Sx Go.W Go.RowKit
set_option maxRecDepth 100000
theorem o_Stack {W : World} {cs : List Value} (h : Cl Tryz.prog W 22 cs) : ∃ (A : Option Addr) (c : Nat) (s : List Int), cs = [.slice A s.length c] ∧ s.length ≤ maxLen ∧ (Nums 255 s) ∧ Rd W A (s.flatMap (eI .u8)) := by
  obtain ⟨A, n, c, e, hn, els, hlen, hall, hr⟩ := h.slice rfl (of_decide_eq_true (by kernel_rfl))
  obtain ⟨s, e2, l2, p2⟩ := each (f := eI .u8) (p := fun k => 0 ≤ k ∧ k ≤ 255) (fun x hx => by obtain ⟨k, e, w⟩ := ((hall x hx).2).int rfl; exact ⟨k, e, bounds_u8 w⟩)
  rw [e2] at hr
  obtain rfl : n = s.length := by omega
  exact ⟨A, c, s, e, hn, p2, hr⟩
end Go.Proofs.YtdgfalhfmboalaaGreatDoor

/- Strings built by a builder; the decimal digits as the library and the specification write them. -/
set_option linter.unusedVariables false
set_option linter.unusedSimpArgs false
namespace Go.Sx
open Go Go.RowKit
variable {C : Cx} {env env' : Env} {m m' : List Ent} {o : Oper} {K : Env → List Ent → Prop}
/-! ### The library's table of powers of ten -/
def TabO (P : Program) (w : World) : Prop := Lib.TabIs P w "internal/strconv.uint64pow10" .u64 Lib.pow10Tab
theorem TabO.below {P w w'} (h : TabO P w) (hb : Below w.heap.size w w') : TabO P w' := by
  unfold TabO Lib.TabIs World.var? at h ⊢
  cases hg : P.globalNamed "internal/strconv.uint64pow10" with
  | none => simp [hg] at h
  | some g =>
    simp only [hg, Option.bind_some] at h ⊢
    have hlt : g < w.heap.size := by
      rcases Nat.lt_or_ge g w.heap.size with h1 | h1
      · exact h1
      · rw [Array.getElem?_eq_none h1] at h; simp at h
    rw [hb.block g hlt]
    exact h
theorem below_grw (w : World) (k : Nat) (os : Array Obj) : Below w.heap.size w (Sort.grow (w.drewN k) os) :=
  ⟨rfl, rfl, rfl, by show w.heap.size ≤ (w.heap ++ os).size; rw [Array.size_append]; omega, fun j hj => by show (w.heap ++ os)[j]? = _; rw [Array.getElem?_append_left hj]⟩
theorem TabO.keep {P w0 m w} (h : TabO P w0) (hh : Holds w0.heap.size w0 m w) : TabO P w := h.below hh.below
theorem itoa_nn {n : Int} (h : 0 ≤ n) : Lib.itoa n = Lib.decDigits n.toNat := by unfold Lib.itoa; rw [if_neg (by omega)]
theorem itoa_pos (n : Int) : 1 ≤ (Lib.itoa n).length := by
  unfold Lib.itoa
  split
  · simp
  · rw [Lib.decDigits_length]; exact Lib.nDigits_pos _
theorem nDig_le : ∀ (k u : Nat), u < 10 ^ k → 1 ≤ k → Lib.nDigits u ≤ k
  | 0, _, _, h => absurd h (by omega)
  | k + 1, u, hu, _ => by
    by_cases h : u < 10
    · rw [Lib.nDigits_small h]; omega
    · rw [Lib.nDigits_big h]
      have hk : 1 ≤ k := by
        rcases k with _ | k
        · simp at hu; omega
        · omega
      have := nDig_le k (u / 10) (by rw [Nat.pow_succ] at hu; omega) hk
      omega
theorem itoa_le {n : Int} (h : -9223372036854775808 ≤ n ∧ n ≤ 9223372036854775807) : (Lib.itoa n).length ≤ 20 := by
  unfold Lib.itoa
  split
  · rw [List.length_cons, Lib.decDigits_length]
    have := nDig_le 19 n.natAbs (by omega) (by omega)
    omega
  · rw [Lib.decDigits_length]
    have := nDig_le 19 n.toNat (by omega) (by omega)
    omega
theorem itoa_one {n : Int} (h : 0 ≤ n) (h1 : n < 10) : Lib.itoa n = [UInt8.ofNat (48 + n % 10).toNat] := by
  rw [itoa_nn h, Lib.decDigits, dif_pos (by omega)]
  congr 2
  omega
theorem itoa_more {n : Int} (h : 0 ≤ n) (h1 : ¬ n < 10) : Lib.itoa n = Lib.itoa (n / 10) ++ [UInt8.ofNat (48 + n % 10).toNat] := by
  rw [itoa_nn h, itoa_nn (by omega), Lib.decDigits, dif_neg (by omega)]
  congr 3
  · omega
  · omega
theorem tS {a b : List UInt8} (h : a = b) : tupleOf [sv a] = sv b := by rw [h]; rfl
/-! ### Lines laid one behind the other -/
end Go.Sx

/- Rows of strings; texts joined. -/
set_option linter.unusedVariables false
set_option linter.unusedSimpArgs false
namespace Go.Sx
open Go Go.RowKit
variable {C : Cx} {env env' : Env} {m m' : List Ent} {o : Oper} {K : Env → List Ent → Prop}
def eSt (l : List UInt8) : List Value := [sv l]
theorem eSt_len : ∀ l, (eSt l).length = 1 := fun _ => rfl
def mkB (l : List UInt8) : ByteArray := ⟨l.toArray⟩
theorem mkB_map (xs : List (List UInt8)) : (xs.map mkB).map (·.data.toList) = xs := by
  rw [List.map_map]
  exact List.map_id _
theorem join_pre {w : World} {A : Option Addr} {xs : List (List UInt8)} (h : Rd w A (xs.flatMap eSt)) (h0 : 0 < xs.length) : ∃ bk o', A = some ⟨bk, o', none⟩ ∧ bk < w.heap.size ∧ ∀ (j : Nat) x, (xs.map mkB)[j]? = some x → w.cell? ⟨bk, o' + j, none⟩ = some (.string x) := by
  have hget : ∀ j (hj : j < xs.length), (xs.flatMap eSt)[j]? = some (sv (xs.getD j [])) := fun j hj => by
    have := flat_get eSt_len ([] : List UInt8) xs j 0 hj (by omega)
    simp only [Nat.mul_one, Nat.add_zero] at this
    rw [this]; rfl
  obtain ⟨⟨bk, o', sp⟩, rfl, hc⟩ := h 0 _ (hget 0 h0)
  have hz : (⟨bk, o', sp⟩ : Addr).add 0 = ⟨bk, o', sp⟩ := by unfold Addr.add; simp
  rw [hz] at hc
  have hsp : sp = none := by simpa using World.cell?_spot hc
  subst hsp
  refine ⟨bk, o', rfl, World.block_lt_of_cell? _ _ hc, fun j x hx => ?_⟩
  have hj : j < xs.length := by have := (List.getElem?_eq_some_iff.1 hx).1; simpa using this
  obtain ⟨ad, e1, hc'⟩ := h j _ (hget j hj)
  obtain rfl := Option.some.inj e1
  rw [add_at] at hc'
  rw [hc']
  rw [List.getElem?_map] at hx
  have hg : xs[j]? = some xs[j] := List.getElem?_eq_getElem hj
  rw [hg] at hx
  simp only [Option.map_some, Option.some.injEq] at hx
  rw [← hx]
  simp [List.getD, hj, sv, mkB]
theorem row_cap' {i n c sz : Nat} {A : Option Addr} {E xs} (hi : m[i]? = some (.row (.slice A n c) E sz n xs)) : ∀ w, Holds C.base C.w0 m w → n ≤ c := fun w hw => by
  have h := hw.all _ (List.mem_of_getElem? hi)
  rcases h.2 with ⟨hv, h0⟩ | ⟨g, cap, cur, hv, _, _, hc, _⟩
  · omega
  · simp only [Value.slice.injEq] at hv
    omega
theorem itoa_neg {n : Int} (h : n < 0) : Lib.itoa n = 45 :: Lib.itoa (-n) := by
  rw [itoa_nn (n := -n) (by omega)]
  unfold Lib.itoa
  rw [if_pos h]
  congr 2
  omega
end Go.Sx

/- The text of digits. -/
set_option linter.unusedVariables false
namespace Go.W
open Go Go.Sx
/-- The first k parts. -/
def partsF (f : Nat → List UInt8) (k : Nat) : List (List UInt8) := (List.range k).map f
theorem partsF_len (f : Nat → List UInt8) (k : Nat) : (partsF f k).length = k := by simp [partsF]
theorem partsF_s (f : Nat → List UInt8) (k : Nat) : partsF f (k + 1) = partsF f k ++ [f k] := by simp [partsF, List.range_succ]
theorem joinTail_snoc (sep : List UInt8) (r : List (List UInt8)) (x : List UInt8) : Lib.joinTail sep (r ++ [x]) = Lib.joinTail sep r ++ (sep ++ x) := by simp [Lib.joinTail]
theorem join_snoc {xs : List (List UInt8)} (h : xs ≠ []) (x sep : List UInt8) : Lib.join (xs ++ [x]) sep = Lib.join xs sep ++ sep ++ x := by
  cases xs with
  | nil => exact absurd rfl h
  | cons y r => rw [List.cons_append, Lib.join_cons, Lib.join_cons, joinTail_snoc, List.append_assoc, List.append_assoc]
/-- The parts joined by one that lays them one behind the other, a separator behind each but the last of n. -/
def sepT (f : Nat → List UInt8) (sep : List UInt8) (n k : Nat) : List UInt8 := if k = 0 then [] else Lib.join (partsF f k) sep ++ (if k < n then sep else [])
theorem sepT_mid {f : Nat → List UInt8} {sep : List UInt8} {n k : Nat} (h : k < n) : Lib.join (partsF f (k + 1)) sep = sepT f sep n k ++ f k := by
  unfold sepT
  by_cases h0 : k = 0
  · subst h0
    rw [if_pos rfl]
    show Lib.join [f 0] sep = _
    rw [Lib.join_one]; rfl
  · rw [if_neg h0, if_pos h, partsF_s, join_snoc (by intro e; have := partsF_len f k; rw [e] at this; simp at this; omega)]
theorem sepT_s {f : Nat → List UInt8} {sep : List UInt8} {n k : Nat} (h : k + 1 < n) : sepT f sep n (k + 1) = sepT f sep n k ++ f k ++ sep := by
  rw [← sepT_mid (by omega : k < n)]
  show (if k + 1 = 0 then _ else _) = _
  rw [if_neg (by omega), if_pos h]
theorem sepT_l {f : Nat → List UInt8} {sep : List UInt8} {n k : Nat} (h : k + 1 = n) : sepT f sep n (k + 1) = sepT f sep n k ++ f k := by
  rw [← sepT_mid (by omega : k < n)]
  show (if k + 1 = 0 then _ else _) = _
  rw [if_neg (by omega), if_neg (by omega), List.append_nil]
theorem sepT_end {f : Nat → List UInt8} {sep : List UInt8} {n : Nat} : sepT f sep n n = Lib.join (partsF f n) sep := by
  unfold sepT
  split
  · rename_i h; subst h; rfl
  · rw [if_neg (by omega), List.append_nil]
theorem sepT_le {f : Nat → List UInt8} {sep : List UInt8} {B n : Nat} (hf : ∀ i, i < n → (f i).length ≤ B) : ∀ k, k ≤ n → (sepT f sep n k).length ≤ k * (B + sep.length)
  | 0, _ => by simp [sepT]
  | k + 1, h => by
    have ih := sepT_le (sep := sep) hf k (by omega)
    have h1 := hf k (by omega)
    rw [Nat.succ_mul]
    rcases Nat.lt_or_ge (k + 1) n with h2 | h2
    · rw [sepT_s h2, List.length_append, List.length_append]; omega
    · rw [sepT_l (by omega), List.length_append]; omega
/-! ### A digit, the digits -/
def dgT (b d : Int) : List UInt8 := if 10 < b ∧ d < 10 then 48 :: Lib.itoa d else Lib.itoa d
theorem dgT_pos (b d : Int) : 1 ≤ (dgT b d).length := by
  unfold dgT
  split
  · simp
  · exact itoa_pos d
end Go.W
namespace Go.W
open Go Go.Sx
end Go.W

/- The text of a photo. -/
set_option linter.unusedVariables false
namespace Go.W
open Go Go.Sx
/-- A growing slice of strings in a loop. -/
theorem digP_get {m : VMk} {k i : Nat} (hi : i < (digP m k).length) : ∃ d, d < k ∧ hasM m d = true ∧ (digP m k).getD i 0 = (d : Int) := by
  have h := getD_mem (s := digP m k) 0 hi
  unfold digP at h
  obtain ⟨d, hd, e⟩ := List.mem_map.1 h
  have h2 := List.mem_filter.1 hd
  exact ⟨d, List.mem_range.1 h2.1, h2.2, by unfold digP; exact e.symm⟩
def marksT (m : VMk) (k : Nat) : List UInt8 := Lib.join ((digP m k).map Lib.itoa) [124]
def wheelT (m : VMk) (b : Int) : List UInt8 := if m.l = (fullM b.toNat).l then [63] else marksT m 128
theorem marksT_n {m : VMk} {k : Nat} (h : hasM m k = false) : marksT m (k + 1) = marksT m k := by unfold marksT; rw [digP_n h]
theorem join_ne {xs : List (List UInt8)} {sep : List UInt8} (h : xs ≠ []) (h1 : ∀ x ∈ xs, 1 ≤ x.length) : Lib.join xs sep ≠ [] := by
  cases xs with
  | nil => exact absurd rfl h
  | cons y r =>
    rw [Lib.join_cons]
    intro e
    have h2 := h1 y (by simp)
    have h3 := congrArg List.length e
    rw [List.length_append] at h3
    simp at h3
    rw [h3.1] at h2
    simp at h2
theorem marksT_e {m : VMk} {k : Nat} (h : marksT m k = []) : digP m k = [] := by
  cases hd : digP m k with
  | nil => rfl
  | cons a r =>
    refine absurd h ?_
    unfold marksT
    rw [hd]
    exact join_ne (by simp) (fun x hx => by
      obtain ⟨n, _, rfl⟩ := List.mem_map.1 hx
      exact itoa_pos n)
theorem marksT_y0 {m : VMk} {k : Nat} (h : hasM m k = true) (h0 : marksT m k = []) : marksT m (k + 1) = marksT m k ++ Lib.itoa (k : Int) := by
  have h1 := marksT_e h0
  rw [h0]
  unfold marksT
  rw [digP_y h, h1]
  show Lib.join [Lib.itoa (k : Int)] [124] = _
  rw [Lib.join_one]; rfl
theorem marksT_y1 {m : VMk} {k : Nat} (h : hasM m k = true) (h0 : ¬ marksT m k = []) : marksT m (k + 1) = marksT m k ++ [124] ++ Lib.itoa (k : Int) := by
  unfold marksT at h0 ⊢
  rw [digP_y h, List.map_append]
  exact join_snoc (by intro e; rw [e] at h0; exact h0 rfl) _ _
theorem marksT_le {m : VMk} : ∀ {k : Nat}, k ≤ 128 → (marksT m k).length ≤ 21 * k
  | 0, _ => by simp [marksT, digP, Lib.join, List.intercalate]
  | k + 1, hk => by
    have ih := marksT_le (m := m) (k := k) (by omega)
    have h2 := itoa_le (n := (k : Int)) (by omega)
    cases h : hasM m k
    · rw [marksT_n h]; omega
    · by_cases h0 : marksT m k = []
      · rw [marksT_y0 h h0, List.length_append]; omega
      · rw [marksT_y1 h h0, List.length_append, List.length_append, List.length_cons, List.length_nil]; omega
theorem wheelT_le {m : VMk} {b : Int} : (wheelT m b).length ≤ 2688 := by
  unfold wheelT
  split
  · simp
  · have := marksT_le (m := m) (k := 128) (by omega)
    omega
/-- As many marks as the base: all of them. -/
theorem cnt_full {m : VMk} {b : Int} (hm : OkMk m) (hb : 0 ≤ b ∧ b ≤ 128) (h : ∀ d, d < 128 → hasM m d = true → (d : Int) < b) : cntM m = b ↔ m.l = (fullM b.toNat).l := by
  have hd : digP m b.toNat = digI m := digP_end (by omega) (fun d hd hh => by have := h d hd hh; omega)
  have hl : cntM m = ((digP m b.toNat).length : Int) := by rw [hd]; exact (digI_len m).symm
  have hl2 : (digP m b.toNat).length = ((List.range b.toNat).filter (hasM m)).length := by unfold digP; rw [List.length_map]
  constructor
  · intro hc
    have h1 : ((List.range b.toNat).filter (hasM m)).length = (List.range b.toNat).length := by rw [List.length_range]; omega
    have h2 := List.length_filter_eq_length_iff.1 h1
    have e : m = fullM b.toNat := has_ext hm (fullM_ok (by omega)) fun d hd' => by
      rw [has_full (by omega) hd']
      by_cases hdb : d < b.toNat
      · rw [h2 d (List.mem_range.2 hdb), decide_eq_true hdb]
      · rw [decide_eq_false hdb]
        cases hh : hasM m d
        · rfl
        · have := h d hd' hh; omega
    rw [← e]
  · intro e
    have e := mk_inj e
    have h1 : ((List.range b.toNat).filter (hasM m)).length = (List.range b.toNat).length := by
      refine List.length_filter_eq_length_iff.2 fun d hd' => ?_
      have hdb := List.mem_range.1 hd'
      rw [e, has_full (by omega) (by omega), decide_eq_true hdb]
    rw [List.length_range] at h1
    omega
theorem wheel_y {m : VMk} {b : Int} (hm : OkMk m) (hb : 0 ≤ b ∧ b ≤ 128) (h : ∀ d, d < 128 → hasM m d = true → (d : Int) < b) (hc : cntM m = b) : wheelT m b = [63] := if_pos ((cnt_full hm hb h).1 hc)
theorem wheel_n {m : VMk} {b : Int} (hm : OkMk m) (hb : 0 ≤ b ∧ b ≤ 128) (h : ∀ d, d < 128 → hasM m d = true → (d : Int) < b) (hc : ¬ cntM m = b) : wheelT m b = marksT m 128 := if_neg (fun e => hc ((cnt_full hm hb h).2 e))
def wpart (s : List Int) (l : List VMk) (j : Nat) : List UInt8 := wheelT (l.getD (s.length - 1 - j) zMk) (s.getD (s.length - 1 - j) 0)
def phT (s : List Int) (l : List VMk) : List UInt8 := Lib.join (partsF (wpart s l) s.length) [58]
def phTx (s : List Int) (p : VPh) : List UInt8 := if validPh s p = true then phT s p.l else []
theorem phTx_f {s : List Int} {p : VPh} (h : validPh s p = false) : phTx s p = [] := if_neg (by simp [h])
theorem phTx_t {s : List Int} {p : VPh} (h : validPh s p = true) : phTx s p = phT s p.l := if_pos h
theorem sepW_le {s : List Int} {l : List VMk} (hs : Stk s) {k : Nat} (hk : k ≤ s.length) : (sepT (wpart s l) [58] s.length k).length ≤ 22000 := by
  have h1 := sepT_le (f := wpart s l) (sep := [58]) (B := 2688) (n := s.length) (fun i hi => wheelT_le) k hk
  have h2 := hs.len8
  simp only [List.length_cons, List.length_nil] at h1
  omega
theorem phT_le {s : List Int} {l : List VMk} (hs : Stk s) : (phT s l).length ≤ 22000 := by
  unfold phT
  rw [← sepT_end]
  exact sepW_le hs (Nat.le_refl _)
end Go.W
namespace Go.W
open Go Go.Sx
theorem digI_bd (m : VMk) (i : Nat) : 0 ≤ (digI m).getD i 0 ∧ (digI m).getD i 0 ≤ 128 := by
  by_cases h : i < (digI m).length
  · obtain ⟨d, hd, _, e⟩ := digP_get (m := m) (k := 128) h
    have e : (digI m).getD i 0 = (d : Int) := e
    rw [e]; omega
  · simp [List.getD, List.getElem?_eq_none (by omega : (digI m).length ≤ i)]
def strsP (l : List Int) (k : Nat) : List (List UInt8) := (l.take k).map Lib.itoa
theorem strsP_len {l : List Int} {k : Nat} (hk : k ≤ l.length) : (strsP l k).length = k := by simp [strsP]; omega
theorem strsP_s {l : List Int} {k : Nat} (hk : k < l.length) : strsP l (k + 1) = strsP l k ++ [Lib.itoa (l.getD k 0)] := by
  unfold strsP
  rw [List.take_succ_eq_append_getElem hk, List.map_append]
  simp [List.getD, hk]
theorem strs_join (m : VMk) : Lib.join (strsP (digI m) (digI m).length) [124] = marksT m 128 := by
  unfold strsP marksT
  rw [List.take_length, digP_all]
end Go.W

/- The text of totals. -/
set_option linter.unusedVariables false
namespace Go.W
open Go Go.Sx
end Go.W

/- Numbers read from their texts. -/
set_option linter.unusedVariables false
set_option linter.unusedSimpArgs false
namespace Go.W
open Go Go.Sx
def isDig (c : UInt8) : Prop := 48 ≤ c.toNat ∧ c.toNat ≤ 57
def numV (t : List UInt8) : Nat := t.foldl (fun a c => 10 * a + (c.toNat - 48)) 0
theorem numV_snoc (t : List UInt8) (c : UInt8) : numV (t ++ [c]) = 10 * numV t + (c.toNat - 48) := by simp [numV, List.foldl_append]
/-- What a text of a number is: digits, at least one, no nought ahead of another digit. -/
def numOk (t : List UInt8) : Prop := t ≠ [] ∧ (∀ c ∈ t, isDig c) ∧ (t.length = 1 ∨ t.getD 0 0 ≠ 48)
theorem numV_one {c : UInt8} : numV [c] = c.toNat - 48 := by simp [numV]
theorem u8_nat {n : Nat} (h : n < 256) : (UInt8.ofNat n).toNat = n := by rw [UInt8.toNat_ofNat']; omega
theorem itoa_ok : ∀ (k : Nat) (n : Int), n.toNat = k → 0 ≤ n → numOk (Lib.itoa n) ∧ (numV (Lib.itoa n) : Int) = n := by
  intro k
  induction k using Nat.strongRecOn with
  | ind k ih =>
    intro n hk h0
    by_cases h1 : n < 10
    · rw [itoa_one h0 h1]
      have e := u8_nat (n := (48 + n % 10).toNat) (by omega)
      refine ⟨⟨by simp, fun c hc => ?_, .inl rfl⟩, ?_⟩
      · rw [List.mem_singleton] at hc
        subst hc
        unfold isDig
        rw [e]; omega
      · rw [numV_one, e]; omega
    · rw [itoa_more h0 h1]
      obtain ⟨i1, i2⟩ := ih (n / 10).toNat (by omega) (n / 10) rfl (by omega)
      have e := u8_nat (n := (48 + n % 10).toNat) (by omega)
      refine ⟨⟨by simp, fun c hc => ?_, .inr ?_⟩, ?_⟩
      · rcases List.mem_append.1 hc with hc | hc
        · exact i1.2.1 c hc
        · rw [List.mem_singleton] at hc
          subst hc
          unfold isDig
          rw [e]; omega
      · rcases i1.2.2 with h2 | h2
        · have h3 := itoa_len_one h2 (by omega)
          rw [h3]
          show (UInt8.ofNat (48 + (n / 10) % 10).toNat) ≠ 48
          intro h4
          have h5 := congrArg UInt8.toNat h4
          rw [u8_nat (by omega)] at h5
          simp at h5
          have h6 : n / 10 < 10 := itoa_len_lt h2 (by omega)
          omega
        · have hne := i1.1
          cases hL : Lib.itoa (n / 10) with
          | nil => exact absurd hL hne
          | cons a r => rw [hL] at h2; simpa using h2
      · rw [numV_snoc, e]; omega
where
  itoa_len_lt {m : Int} (h : (Lib.itoa m).length = 1) (h0 : 0 ≤ m) : m < 10 := by
    rcases Int.lt_or_le m 10 with h1 | h1
    · exact h1
    · rw [itoa_more h0 (by omega), List.length_append] at h
      have := itoa_pos (m / 10)
      simp at h
      rw [h] at this
      simp at this
  itoa_len_one {m : Int} (h : (Lib.itoa m).length = 1) (h0 : 0 ≤ m) : Lib.itoa m = [UInt8.ofNat (48 + m % 10).toNat] := itoa_one h0 (itoa_len_lt h h0)
end Go.W

/- Texts cut at a byte. -/
set_option linter.unusedVariables false
set_option linter.unusedSimpArgs false
namespace Go.W
open Go Go.Sx
/-- The pieces of a text behind a piece that has begun. -/
def splitA (c : UInt8) : List UInt8 → List UInt8 → List (List UInt8)
  | acc, [] => [acc]
  | acc, x :: r => if x = c then acc :: splitA c [] r else splitA c (acc ++ [x]) r
theorem splitA_nil (c : UInt8) (acc : List UInt8) : splitA c acc [] = [acc] := rfl
theorem splitA_y {c x : UInt8} {acc r : List UInt8} (h : x = c) : splitA c acc (x :: r) = acc :: splitA c [] r := if_pos h
theorem splitA_n {c x : UInt8} {acc r : List UInt8} (h : ¬ x = c) : splitA c acc (x :: r) = splitA c (acc ++ [x]) r := if_neg h
theorem splitA_ne (c : UInt8) : ∀ (s acc : List UInt8), splitA c acc s ≠ []
  | [], acc => by simp [splitA]
  | x :: r, acc => by
    unfold splitA
    split
    · simp
    · exact splitA_ne c r _
theorem index_cons (c b : UInt8) (l : List UInt8) : Lib.index (b :: l) [c] = if b = c then 0 else if Lib.index l [c] = -1 then -1 else Lib.index l [c] + 1 := by
  show (if [c].isPrefixOf (b :: l) then (0 : Int) else if Lib.index l [c] == -1 then -1 else Lib.index l [c] + 1) = _
  by_cases h : b = c
  · subst h; simp [List.isPrefixOf]
  · have h' : ¬ c = b := fun e => h e.symm
    simp [List.isPrefixOf, h, h']
theorem splitA_idx (c : UInt8) : ∀ (s acc : List UInt8), (Lib.index s [c] = -1 → splitA c acc s = [acc ++ s]) ∧ ∀ i : Nat, Lib.index s [c] = i → splitA c acc s = (acc ++ s.take i) :: splitA c [] (s.drop (i + 1))
  | [], acc => ⟨fun _ => by simp [splitA], fun i h => by
    have : Lib.index [] [c] = -1 := rfl
    omega⟩
  | x :: r, acc => by
    rw [index_cons]
    by_cases hx : x = c
    · rw [if_pos hx, splitA_y hx]
      refine ⟨fun h => absurd h (by decide), fun i h => ?_⟩
      obtain rfl : i = 0 := by omega
      simp
    · rw [if_neg hx, splitA_n hx]
      obtain ⟨h1, h2⟩ := splitA_idx c r (acc ++ [x])
      by_cases hi : Lib.index r [c] = -1
      · rw [if_pos hi]
        refine ⟨fun _ => by rw [h1 hi]; simp, fun i h => by omega⟩
      · rw [if_neg hi]
        have hg := Lib.index_ge r [c]
        refine ⟨fun h => by omega, fun i h => ?_⟩
        obtain ⟨j, rfl⟩ : ∃ j, i = j + 1 := ⟨i - 1, by omega⟩
        rw [h2 j (by omega)]
        simp
/-- The library's pieces are these. -/
theorem splitK_eq (c : UInt8) : ∀ (k : Nat) (s : List UInt8), Lib.count s [c] = k → Lib.splitK [c] 0 k s = splitA c [] s := by
  intro k
  induction k with
  | zero =>
    intro s h
    rcases Int.lt_or_le (Lib.index s [c]) 0 with h1 | h1
    · have hm : Lib.index s [c] = -1 := by have := Lib.index_ge s [c]; omega
      rw [(splitA_idx c s []).1 hm]; rfl
    · obtain ⟨i, hi⟩ := Int.eq_ofNat_of_zero_le h1
      have := Lib.count_hit (sub := [c]) (by simp) hi
      omega
  | succ k ih =>
    intro s h
    rcases Int.lt_or_le (Lib.index s [c]) 0 with h1 | h1
    · have hm : Lib.index s [c] = -1 := by have := Lib.index_ge s [c]; omega
      rw [Lib.count_miss hm] at h
      omega
    · obtain ⟨i, hi⟩ := Int.eq_ofNat_of_zero_le h1
      have hc := Lib.count_hit (sub := [c]) (by simp) hi
      have hn : ¬ (Lib.index s [c] == -1) = true := fun e => by have := beq_iff_eq.1 e; omega
      rw [(splitA_idx c s []).2 i hi, Lib.splitK, if_neg hn]
      have e : (Lib.index s [c]).toNat = i := by omega
      rw [e]
      simp only [List.length_cons, List.length_nil, Nat.zero_add] at hc ⊢
      rw [ih _ (by omega)]
      simp
theorem split_eq (c : UInt8) (s : List UInt8) : Lib.split s [c] = splitA c [] s := splitK_eq c _ s rfl
theorem join_cons2 (x y : List UInt8) (r : List (List UInt8)) (sep : List UInt8) : Lib.join (x :: y :: r) sep = x ++ sep ++ Lib.join (y :: r) sep := by
  rw [Lib.join_cons, Lib.join_cons]
  simp [Lib.joinTail]
theorem splitA_piece {c : UInt8} : ∀ (x acc r : List UInt8), c ∉ x → splitA c acc (x ++ c :: r) = (acc ++ x) :: splitA c [] r
  | [], acc, r, _ => by rw [List.nil_append, splitA_y rfl, List.append_nil]
  | a :: x, acc, r, h => by
    rw [List.mem_cons, not_or] at h
    rw [List.cons_append, splitA_n (fun e => h.1 e.symm), splitA_piece x _ r h.2]
    simp
theorem splitA_last {c : UInt8} : ∀ (x acc : List UInt8), c ∉ x → splitA c acc x = [acc ++ x]
  | [], acc, _ => by rw [splitA_nil, List.append_nil]
  | a :: x, acc, h => by
    rw [List.mem_cons, not_or] at h
    rw [splitA_n (fun e => h.1 e.symm), splitA_last x _ h.2]
    simp
/-- What is joined comes apart again. -/
theorem split_join {c : UInt8} : ∀ (xs : List (List UInt8)), xs ≠ [] → (∀ x ∈ xs, c ∉ x) → splitA c [] (Lib.join xs [c]) = xs
  | [], h, _ => absurd rfl h
  | [x], _, h => by rw [Lib.join_one, splitA_last x [] (h x (by simp))]; rfl
  | x :: y :: r, _, h => by
    rw [join_cons2, List.append_assoc]
    show splitA c [] (x ++ c :: ([] ++ Lib.join (y :: r) [c])) = _
    rw [splitA_piece x [] _ (h x (by simp)), List.nil_append, List.nil_append, split_join (y :: r) (by simp) (fun z hz => h z (List.mem_cons_of_mem _ hz))]
end Go.W

/- The library's numbers read back. -/
set_option linter.unusedVariables false
set_option linter.unusedSimpArgs false
namespace Go.W
open Go Go.Sx
def numF (a : Nat) (l : List UInt8) : Nat := l.foldl (fun a c => 10 * a + (c.toNat - 48)) a
theorem numF_ge : ∀ (l : List UInt8) (a : Nat), a ≤ numF a l
  | [], a => Nat.le_refl _
  | c :: r, a => by
    have := numF_ge r (10 * a + (c.toNat - 48))
    show a ≤ numF (10 * a + (c.toNat - 48)) r
    omega
theorem parse_digits : ∀ (l : List UInt8) (a : Nat), (∀ c ∈ l, isDig c) → numF a l ≤ 2 ^ 64 - 1 → Lib.parseUintM (2 ^ 64 - 1) a l = .ok (numF a l)
  | [], a, _, _ => rfl
  | c :: r, a, hd, hn => by
    have hc : isDig c := hd c (by simp)
    have e : numF a (c :: r) = numF (10 * a + (c.toNat - 48)) r := rfl
    rw [e] at hn ⊢
    have hg := numF_ge r (10 * a + (c.toNat - 48))
    unfold isDig at hc
    rw [Lib.parseUintM, if_pos hc, if_neg (by omega), if_neg (by omega), Nat.mul_comm a 10]
    exact parse_digits r _ (fun x hx => hd x (List.mem_cons_of_mem _ hx)) hn
theorem parse_nat {n : Int} (h : 0 ≤ n) (h1 : n ≤ 9223372036854775808) : Lib.parseUintB 64 (Lib.itoa n) = .ok n.toNat := by
  obtain ⟨hk, hv⟩ := itoa_ok _ n rfl h
  unfold Lib.parseUintB
  rw [if_neg hk.1]
  have e : numF 0 (Lib.itoa n) = numV (Lib.itoa n) := rfl
  rw [parse_digits _ 0 hk.2.1 (by rw [e]; omega), e]
  congr 1
  omega
/-- A number's text is read as the number. -/
theorem parse_itoa {n : Int} (h : -9223372036854775808 ≤ n ∧ n ≤ 9223372036854775807) : Lib.parseIntB 64 (Lib.itoa n) = .ok n := by
  by_cases h0 : n < 0
  · rw [itoa_neg h0]
    have hp := parse_nat (n := -n) (by omega) (by omega)
    unfold Lib.parseIntB
    have e1 : (45 : UInt8).toNat = 45 := by decide
    simp only [e1, or_true, if_true, hp]
    rw [if_neg (by simp), if_neg (by simp; omega)]
    congr 1
    omega
  · have hk := (itoa_ok _ n rfl (by omega)).1
    have hp := parse_nat (n := n) (by omega) (by omega)
    cases hL : Lib.itoa n with
    | nil => exact absurd hL hk.1
    | cons c r =>
      have hc : isDig c := hk.2.1 c (by rw [hL]; simp)
      unfold isDig at hc
      rw [hL] at hp
      unfold Lib.parseIntB
      have n43 : ¬ c.toNat = 43 := by omega
      have n45 : ¬ c.toNat = 45 := by omega
      simp only [n43, n45, or_self, if_false, hp]
      rw [if_neg (by omega), if_neg (by simp)]
      congr 1
      omega
end Go.W

/- The text of totals, read. -/
set_option linter.unusedVariables false
set_option linter.unusedSimpArgs false
namespace Go.W
open Go Go.Sx
end Go.W
namespace Go.W
open Go Go.Sx
instance isDigDec (c : UInt8) : Decidable (isDig c) := by unfold isDig; infer_instance
instance numOkDec (t : List UInt8) : Decidable (numOk t) := by unfold numOk; infer_instance
/-- A number of at most B digits, as the specification reads it. -/
def numR (B : Nat) (t : List UInt8) : Int × Bool := if numOk t ∧ t.length ≤ B then ((numV t : Int), true) else (0, false)
/-- A line of totals. -/
def lineS (l : List UInt8) : Option VP := match splitA 32 [] l with
  | [a, b] => if (numR 13 a).2 = true ∧ (numR 13 b).2 = true then some ⟨(numR 13 a).1, (numR 13 b).1⟩ else none
  | _ => none
end Go.W

/- Digits read from their texts: digits are read iff the text is theirs. -/
set_option linter.unusedVariables false
set_option linter.unusedSimpArgs false
namespace Go.W
open Go Go.Sx
theorem parse_digitsM {M : Nat} (hM : M ≤ 2 ^ 64 - 1) : ∀ (l : List UInt8) (a : Nat), (∀ c ∈ l, isDig c) → numF a l ≤ M → Lib.parseUintM M a l = .ok (numF a l)
  | [], a, _, _ => rfl
  | c :: r, a, hd, hn => by
    have hc : isDig c := hd c (by simp)
    have e : numF a (c :: r) = numF (10 * a + (c.toNat - 48)) r := rfl
    rw [e] at hn ⊢
    have hg := numF_ge r (10 * a + (c.toNat - 48))
    unfold isDig at hc
    rw [Lib.parseUintM, if_pos hc, if_neg (by omega), if_neg (by omega), Nat.mul_comm a 10]
    exact parse_digitsM hM r _ (fun x hx => hd x (List.mem_cons_of_mem _ hx)) hn
/-- What a digit's text is. -/
theorem dgT_dig {b d : Int} (h : 0 ≤ d) : ∀ c ∈ dgT b d, isDig c := fun c hc => by
  have hk := (itoa_ok _ d rfl h).1.2.1
  unfold dgT at hc
  split at hc
  · rw [List.mem_cons] at hc
    rcases hc with rfl | hc
    · exact ⟨by decide, by decide⟩
    · exact hk c hc
  · exact hk c hc
theorem dgT_val {b d : Int} (h : 0 ≤ d) : (numV (dgT b d) : Int) = d := by
  have hv := (itoa_ok _ d rfl h).2
  unfold dgT
  split
  · show ((numV (48 :: Lib.itoa d) : Nat) : Int) = d
    have e : numV (48 :: Lib.itoa d) = numV (Lib.itoa d) := rfl
    rw [e]; exact hv
  · exact hv
theorem dgT_ne {b d : Int} : dgT b d ≠ [] := fun e => by
  have := dgT_pos b d
  rw [e] at this
  simp at this
/-- A text that ParseUint reads as a number of seven bits. -/
def U7 (t : List UInt8) (u : Int) : Prop := 0 ≤ u ∧ u ≤ 127 ∧ Lib.parseUintB 7 t = .ok u.toNat
theorem dgT_U7 {b d : Int} (h : 0 ≤ d) (h1 : d ≤ 127) : U7 (dgT b d) d := by
  refine ⟨h, h1, ?_⟩
  have hv := dgT_val (b := b) h
  unfold Lib.parseUintB
  rw [if_neg dgT_ne]
  have e : numF 0 (dgT b d) = numV (dgT b d) := rfl
  rw [parse_digitsM (by decide) _ 0 (dgT_dig h) (by rw [e]; omega), e]
  congr 1
  omega
theorem U7_one {t : List UInt8} {u v : Int} (h : U7 t u) (h1 : U7 t v) : u = v := by
  obtain ⟨a, b, c⟩ := h
  obtain ⟨d, e, f⟩ := h1
  rw [c] at f
  injection f with f
  omega
theorem parts_getD (f : Nat → List UInt8) {k i : Nat} (h : i < k) : (partsF f k).getD i [] = f i := by
  simp [partsF, List.getD, h]
end Go.W

/- The text of totals, as the program reads it. -/
set_option linter.unusedVariables false
set_option linter.unusedSimpArgs false
namespace Go.W
open Go Go.Sx
theorem itoa_inj {a b : Int} (ha : -9223372036854775808 ≤ a ∧ a ≤ 9223372036854775807) (hb : -9223372036854775808 ≤ b ∧ b ≤ 9223372036854775807) (h : Lib.itoa a = Lib.itoa b) : a = b := by
  have h1 := parse_itoa ha
  have h2 := parse_itoa hb
  rw [h, h2] at h1
  injection h1 with h1
  exact h1.symm
end Go.W

/- What the loops of the readers carry on: pieces of a text, numbers, lines. -/
set_option linter.unusedVariables false
set_option linter.unusedSimpArgs false
namespace Go.W
open Go Go.Sx
theorem splitA_len (c : UInt8) : ∀ (t acc : List UInt8), (splitA c acc t).length ≤ t.length + 1
  | [], acc => by simp [splitA]
  | x :: r, acc => by
    unfold splitA
    split
    · have := splitA_len c r []
      simp only [List.length_cons]; omega
    · have := splitA_len c r (acc ++ [x])
      simp only [List.length_cons]; omega
theorem splitA_pos (c : UInt8) (t : List UInt8) : 1 ≤ (splitA c [] t).length := by
  cases h : splitA c [] t with
  | nil => exact absurd h (splitA_ne c t [])
  | cons a r => simp
theorem piece_mem (c : UInt8) : ∀ (t acc p : List UInt8), p ∈ splitA c acc t → p.length ≤ acc.length + t.length
  | [], acc, p, h => by rw [splitA_nil, List.mem_singleton] at h; subst h; simp
  | x :: r, acc, p, h => by
    unfold splitA at h
    split at h
    · rw [List.mem_cons] at h
      rcases h with rfl | h
      · omega
      · have := piece_mem c r [] p h
        simp only [List.length_nil, List.length_cons] at *; omega
    · have := piece_mem c r _ p h
      simp only [List.length_append, List.length_cons, List.length_nil] at *; omega
theorem getD_memT {s : List (List UInt8)} {i : Nat} (h : i < s.length) : s.getD i [] ∈ s := by
  rw [List.getD, List.getElem?_eq_getElem h]
  exact List.getElem_mem h
/-- A piece is no longer than the text. -/
theorem piece_le (c : UInt8) (t : List UInt8) (i : Nat) : ((splitA c [] t).getD i []).length ≤ t.length := by
  by_cases h : i < (splitA c [] t).length
  · have := piece_mem c t [] _ (getD_memT (s := splitA c [] t) h)
    simp only [List.length_nil] at this
    omega
  · simp [List.getD, List.getElem?_eq_none (by omega : (splitA c [] t).length ≤ i)]
/-! ### A number, byte by byte -/
/-! ### What is read -/
def LinesTo (t : List UInt8) (l : List VP) (k : Nat) : Prop := l.length = k ∧ ∀ j, j < k → lineS ((splitA 10 [] t).getD j []) = some (l.getD j zP)
theorem LinesTo.nil (t : List UInt8) : LinesTo t [] 0 := ⟨rfl, fun j hj => by omega⟩
end Go.W
namespace Go.W
open Go Go.Sx
/-! ### Numbers, as the program reads them -/
end Go.W

/- A byte of a string; pieces of a string. -/
set_option linter.unusedVariables false
set_option linter.unusedSimpArgs false
namespace Go.Sx
open Go Go.RowKit
variable {C : Cx} {env env' : Env} {m m' : List Ent} {o : Oper} {K : Env → List Ent → Prop}
end Go.Sx

/- The library's variables that a reader of texts meets; errors compared with nil; the library's Split, Cut and ParseInt, as our contracts say them; what is laid and the shape, both handed on. -/
set_option linter.unusedVariables false
set_option linter.unusedSimpArgs false
namespace Go.Sx
open Go Go.RowKit
variable {C : Cx} {env env' : Env} {m m' : List Ent} {o : Oper} {K : Env → List Ent → Prop}
/-- The three variables of the library that a reader of texts meets. -/
structure RdO (gm gs gr : Nat) (w : World) : Prop where
  max : ∃ m, w.cell? ⟨gm, 0, none⟩ = some (.int .i64 m)
  syn : ∃ v, w.cell? ⟨gs, 0, none⟩ = some v ∧ (v = .nilIface ∨ ∃ te pe, v = .iface te pe)
  rng : ∃ v, w.cell? ⟨gr, 0, none⟩ = some v ∧ (v = .nilIface ∨ ∃ te pe, v = .iface te pe)
theorem cell_below {w w' : World} {g : Nat} {v : Value} (hb : Below w.heap.size w w') (h : w.cell? ⟨g, 0, none⟩ = some v) : w'.cell? ⟨g, 0, none⟩ = some v :=
  (hb.cell (p := ⟨g, 0, none⟩) (World.block_lt_of_cell? _ _ h)).trans h
theorem RdO.below {a b c w w'} (h : RdO a b c w) (hb : Below w.heap.size w w') : RdO a b c w' :=
  ⟨h.max.imp fun _ h => cell_below hb h, h.syn.imp fun _ h => ⟨cell_below hb h.1, h.2⟩, h.rng.imp fun _ h => ⟨cell_below hb h.1, h.2⟩⟩
theorem RdO.keep {a b c w0 m w} (h : RdO a b c w0) (hh : Holds w0.heap.size w0 m w) : RdO a b c w := h.below hh.below
/-- An error: nil, or something. -/
def errV (b : Bool) (t : TypeId) (v : Value) : Value := if b then .nilIface else .iface t v
theorem errV_eq (b : Bool) (t : TypeId) (v : Value) {T : TypeId} {P : Program} {w : World} (h : P.isIface T = true) : (Op.equal T (errV b t v) .nilIface).run P w = .ok b w := by
  cases b
  · exact run_equalIn_iface_nil w 9999 T h t v
  · exact run_equalIn_nil_nil_at w 9999 T h
theorem fr_neq_err {T x c T' b t v ms} (ho : o.op = .binOp .neq T x (.const c) T') (hx : ev env x = some (errV b t v)) (hy : ev env (.const c) = some .nilIface) (hT : C.P.underlying T = some (.interface ms)) : Free C o env m (.bool (!b)) := by
  intro a w hr _
  have hi : C.P.isIface T = true := by simp [Program.isIface, hT]
  have h : (binOp .neq T (errV b t v) .nilIface).run C.P w = .ok (.bool (!b)) w := by
    have e : binOp .neq T (errV b t v) .nilIface = (do pure (.bool (!(← Op.equal T (errV b t v) .nilIface)))) := by cases b <;> rfl
    rw [e]
    simp only [Sem.run_bind, errV_eq b t v hi, Result.andThen_ok, Sem.run_pure]
  have hg : (eqGuard .neq T x (.const c) (errV b t v) .nilIface).run C.P w = .ok () w := by
    cases b
    · show (eqGuard .neq T x (.const c) (.iface t v) .nilIface).run C.P w = _
      rw [eqGuard_at_iface]; rfl
    · show (eqGuard .neq T x (.const c) .nilIface .nilIface).run C.P w = _
      rw [eqGuard_nil_constR]; rfl
  simp only [execOp, ho, hr.ev hx, hr.ev hy, Sem.run_bind, hg, Result.andThen_ok, h]; rfl
/-- The pieces that the library's Split lays are a row of ours. -/
theorem splitB_pieces (c : UInt8) (t : List UInt8) : (Lib.splitB (mkB [c]) 0 (Lib.countB (mkB t) (mkB [c])) (mkB t)).map (·.data.toList) = W.splitA c [] t := by
  rw [Lib.splitB_data]
  exact W.split_eq c t
theorem split_row {w : World} {T : TypeId} (c : UInt8) (t : List UInt8) (hl : t.length ≤ 281474976710656) :
    (Value.slice (some ⟨w.heap.size, 0, none⟩) (Lib.countB (mkB t) (mkB [c]) + 1) (Lib.countB (mkB t) (mkB [c]) + 1) = Value.slice (some ⟨w.heap.size, 0, none⟩) (W.splitA c [] t).length (W.splitA c [] t).length) ∧
    Ent.holds w.heap.size (w.alloc (.cells ((Lib.splitB (mkB [c]) 0 (Lib.countB (mkB t) (mkB [c])) (mkB t)).map Value.string).toArray T)) (.row (.slice (some ⟨w.heap.size, 0, none⟩) (W.splitA c [] t).length (W.splitA c [] t).length) T 1 (W.splitA c [] t).length ((W.splitA c [] t).flatMap eSt)) := by
  have hp := splitB_pieces c t
  have hlen : Lib.countB (mkB t) (mkB [c]) + 1 = (W.splitA c [] t).length := by
    rw [← hp, List.length_map, Lib.splitB_all (mkB [c]) (by show 1 ≤ 1; decide) 0 _ (mkB t) rfl]
  have hlt := Lib.countB_le (mkB [c]) (by show 1 ≤ 1; decide) (mkB t).size (mkB t) (Nat.le_refl _)
  have hsz : (mkB t).size = t.length := by simp [mkB, ByteArray.size]
  have hcells : (Lib.splitB (mkB [c]) 0 (Lib.countB (mkB t) (mkB [c])) (mkB t)).map Value.string = (W.splitA c [] t).flatMap eSt := by
    rw [← hp]
    generalize Lib.splitB (mkB [c]) 0 (Lib.countB (mkB t) (mkB [c])) (mkB t) = bs
    induction bs with
    | nil => rfl
    | cons b r ih => rw [List.map_cons, ih]; rfl
  refine ⟨by rw [hlen], ?_, .inr ⟨w.heap.size, _, ((Lib.splitB (mkB [c]) 0 (Lib.countB (mkB t) (mkB [c])) (mkB t)).map Value.string).toArray, rfl, Nat.le_refl _, ?_, Nat.le_refl _, ?_, ?_, ?_⟩⟩
  · rw [flat_len eSt_len, Nat.mul_one]
  · show (w.heap.push _)[w.heap.size]? = _
    simp
  · rw [← hlen]; unfold maxLen; omega
  · rw [List.size_toArray, hcells, flat_len eSt_len]
  · rw [hcells, Nat.mul_one]
    exact List.take_of_length_le (by rw [List.toList_toArray, flat_len eSt_len]; omega)
theorem below_alloc (w : World) (o : Obj) : Below w.heap.size w (w.alloc o) := ⟨rfl, rfl, rfl, by show w.heap.size ≤ (w.heap.push o).size; rw [Array.size_push]; omega, fun j hj => by
  show (w.heap.push o)[j]? = _
  rw [Array.getElem?_push, if_neg (by omega)]⟩
end Go.Sx
namespace Go
variable {H : Type} {enc : TypeId × Value → H}
/-- What is laid and the world's shape, both handed on. -/
theorem handed_and_shaped {a : Assume} {C : Checked} {os : Os} {f : FuncId} {fn : Func} {s : ChangeSpec} {conds : List PathCond} {apart fresh handsOn again : Bool} {X : World → Array Value → Prop}
    (hX : ∀ (w w' : World) (args : Array Value), w.heap = w'.heap → X w args → X w' args)
    (own : ownKnob C.prog.godebug = none) (started : os.Started) (noInit : C.prog.inits.idxOf? f = none) (hfn : C.prog.funcs[f]? = some fn)
    (witness : ∃ (w : World) (tape : Tape) (i : Input), w.os = os ∧ (w.forCall tape i).Shaped C.prog ∧ i.vars = [] ∧ Input.okWide C.prog (w.forCall tape i) .any w.heap.size f i ∧
      ((s.pre enc C.prog fn conds apart (w.forCall tape i).memory i.args ∧ X (w.forCall tape i).memory i.args) ∧ sizedMet enc C.prog fn (OpenSpec.ofChange s) apart (w.forCall tape i).memory i.args) ∧ a.holds C.prog (lone (Frame.enter C.prog f i.args .normal) [] (w.forCall tape i)))
    (contract : ∀ (W : World) (base : Nat) (args : Array Value) (ds gs : List (DataW H)) (before : List MemPlace),
      (∀ (j : Nat) t v, fn.params[j]? = some t → args[j]? = some v → Value.okWide C.prog W .any base t v) →
      DataW.Whole enc C.prog fn.params.toList s.vars apart W args.toList ds gs before →
      conds.all (PathCond.test C.prog ⟨fn.params.toList, ds, s.plain.varTypes C.prog, gs⟩) = true →
      (DataW.weightsEach C.prog (fn.params.toList ++ s.plain.varTypes C.prog) (ds ++ gs)).all (· ≤ reachBytes) = true → X W args → W.ShapedOpen C.prog →
      a.holds C.prog (lone (Frame.enter C.prog f args .normal) [] W) →
      Calls C.prog f args W fun e W' => ∃ v, e = .returned v ∧ s.post enc C.prog fn apart fresh handsOn again W args v W') :
    ReturnsInHanded a C os f .any (fun w args => (s.pre enc C.prog fn conds apart w args ∧ X w args) ∧ sizedMet enc C.prog fn (OpenSpec.ofChange s) apart w args) (s.post enc C.prog fn apart fresh handsOn again) := by
  refine returnsInHanded_of_calls own started noInit witness ?_
  intro w tape i _ hsh _ hok hpre hholds
  obtain ⟨_, _, _, fn', hfn', _, _, _, _, hval⟩ := hok
  have e : fn' = fn := Option.some.inj (hfn'.symm.trans hfn)
  subst e
  obtain ⟨⟨⟨ds, gs, before, hw, hc⟩, hx⟩, hz⟩ := hpre
  have hw' := DataW.Whole.of_heap (w' := w.forCall tape i) (by rfl) hw
  refine (contract (w.forCall tape i) w.heap.size i.args ds gs before hval hw' hc (hz.weights hw) (hX _ _ _ (by rfl) hx) hsh hholds).mono fun e W' ⟨v, he, hp⟩ => ?_
  subst he
  exact ChangeSpec.post_blind hp
end Go

/- What the readers of digits carry on. -/
set_option linter.unusedVariables false
set_option linter.unusedSimpArgs false
namespace Go.Sx
open Go Go.RowKit
variable {C : Cx} {env env' : Env} {m m' : List Ent} {o : Oper} {K : Env → List Ent → Prop}
theorem fr_sub64J {T x y T' p q} (j : Nat) (ho : o.op = .binOp .sub T x y T') (hx : ev env x = some (.int .i64 p)) (hy : ev env y = some (.int .i64 q)) (h : p - q = (j : Int)) (hj : j ≤ 4611686018427387904) : Free C o env m (.int .i64 (j : Int)) := by
  have := fr_sub64 (C := C) (m := m) ho hx hy (by omega)
  rwa [h] at this
theorem set_put {α : Type} {f : α → List Value} {sz : Nat} (hf : ∀ x, (f x).length = sz) (xs : List α) (k : Nat) (y : α) (h : k < xs.length) {i : Nat} (hi : i = k * sz) {v : List Value} (hv : v = f y) : put (xs.flatMap f) i v = (xs.set k y).flatMap f := by
  subst hi hv
  exact flat_put hf xs k y h
end Go.Sx
namespace Go.W
open Go Go.Sx
/-! ### ParseUint at seven bits -/
def PUint (t : List UInt8) (n : Int) (b : Bool) : Prop := (0 ≤ n ∧ n ≤ 127) ∧ (b = true → U7 t n) ∧ (b = false → ∀ u, ¬ U7 t u)
end Go.W
namespace Go.W
open Go Go.Sx
theorem pum_bd : ∀ (l : List UInt8) (a u : Nat), a ≤ 127 → Lib.parseUintM 127 a l = .ok u → u ≤ 127
  | [], a, u, ha, h => by
    injection h with h
    omega
  | c :: r, a, u, ha, h => by
    unfold Lib.parseUintM at h
    split at h
    · split at h
      · cases h
      · split at h
        · cases h
        · exact pum_bd r _ u (by omega) h
    · cases h
theorem puint_ok {t : List UInt8} {u : Nat} (h : Lib.parseUintB 7 t = .ok u) : PUint t u true := by
  have hb : u ≤ 127 := by
    unfold Lib.parseUintB at h
    split at h
    · cases h
    · exact pum_bd t 0 u (by decide) h
  refine ⟨⟨by omega, by omega⟩, fun _ => ⟨by omega, by omega, by rw [Int.toNat_natCast]; exact h⟩, ?_⟩
  intro e; exact absurd e (by simp)
theorem puint_no {t : List UInt8} {n : Int} (hn : 0 ≤ n ∧ n ≤ 127) (h : ∀ u, Lib.parseUintB 7 t ≠ .ok u) : PUint t n false := by
  refine ⟨hn, ?_, fun _ u hu => h _ hu.2.2⟩
  intro e; exact absurd e (by simp)
end Go.W

/- Photos read from their texts: a photo is read iff the text is its own. -/
set_option linter.unusedVariables false
set_option linter.unusedSimpArgs false
namespace Go.W
open Go Go.Sx
theorem dgI_mem {m : VMk} {x : Int} : x ∈ digI m ↔ 0 ≤ x ∧ x < 128 ∧ hasM m x.toNat = true := by
  refine ⟨digI_has, fun ⟨h0, h1, h2⟩ => ?_⟩
  unfold digI digM
  exact List.mem_map.2 ⟨x.toNat, List.mem_filter.2 ⟨by simp; omega, h2⟩, by omega⟩
theorem dgI_up (m : VMk) : (digI m).Pairwise (· < ·) := by
  unfold digI digM
  refine List.Pairwise.map _ (fun a b h => ?_) ((List.pairwise_lt_range (n := 128)).filter _)
  exact_mod_cast h
theorem dgI_inj {m n : VMk} (hm : OkMk m) (hn : OkMk n) (h : digI m = digI n) : m = n := has_ext hm hn fun d hd => by
  have e : ∀ k : VMk, hasM k d = decide ((d : Int) ∈ digI k) := fun k => by
    cases hh : hasM k d
    · symm
      rw [decide_eq_false_iff_not, dgI_mem]
      rintro ⟨_, _, h2⟩
      rw [Int.toNat_natCast, hh] at h2
      cases h2
    · symm
      rw [decide_eq_true_iff, dgI_mem]
      exact ⟨by omega, by omega, by rw [Int.toNat_natCast]; exact hh⟩
  rw [e m, e n, h]
/-- A wheel's marks that a photo may have: some, and below the base. -/
structure VW (b : Int) (m : VMk) : Prop where
  ok : OkMk m
  some_ : ∃ d, d < 128 ∧ hasM m d = true
  lt : ∀ d, d < 128 → hasM m d = true → (d : Int) < b
/-- No such marks have this text. -/
def NoW (b : Int) (t : List UInt8) : Prop := ∀ m, VW b m → wheelT m b ≠ t
theorem VW.ne {b : Int} {m : VMk} (h : VW b m) : digI m ≠ [] := by
  obtain ⟨d, hd, hh⟩ := h.some_
  intro e
  have : (d : Int) ∈ digI m := dgI_mem.2 ⟨by omega, by omega, by rw [Int.toNat_natCast]; exact hh⟩
  rw [e] at this
  simp at this
theorem marks_parts {m : VMk} (h : digI m ≠ []) : splitA 124 [] (marksT m 128) = (digI m).map Lib.itoa := by
  unfold marksT
  rw [digP_all]
  refine split_join _ (by simpa using h) fun x hx => ?_
  obtain ⟨n, hn, rfl⟩ := List.mem_map.1 hx
  have h0 := (digI_has hn).1
  intro hm
  have := (itoa_ok _ n rfl h0).1.2.1 124 hm
  exact absurd this.2 (by decide)
theorem marks_ne {m : VMk} (h : digI m ≠ []) : marksT m 128 ≠ [63] := fun e => by
  have h1 := marks_parts h
  rw [e] at h1
  have h2 : splitA 124 [] [63] = [[63]] := by decide
  rw [h2] at h1
  have h3 : ([63] : List UInt8) ∈ (digI m).map Lib.itoa := by rw [← h1]; simp
  obtain ⟨n, hn, e⟩ := List.mem_map.1 h3
  have h4 := (itoa_ok _ n rfl (digI_has hn).1).1.2.1 63 (by rw [e]; simp)
  exact absurd h4.2 (by decide)
/-- What a word that is not the question mark tells of the marks it stands for. -/
theorem wheel_parts {b : Int} {m : VMk} {t : List UInt8} (h : VW b m) (hw : wheelT m b = t) (ht : t ≠ [63]) : splitA 124 [] t = (digI m).map Lib.itoa ∧ m.l ≠ (fullM b.toNat).l := by
  unfold wheelT at hw
  split at hw
  · exact absurd hw.symm ht
  · rename_i hf
    rw [← hw, marks_parts h.ne]
    exact ⟨rfl, hf⟩
theorem wheel_q {b : Int} {m : VMk} (h : VW b m) (hw : wheelT m b = [63]) : m = fullM b.toNat := by
  unfold wheelT at hw
  split at hw
  · rename_i hf; exact mk_inj hf
  · exact absurd hw (marks_ne h.ne)
/-! ### As the specification reads a wheel -/
structure WhS where
  k : Nat
  m : VMk
  last : Int
/-! ### As the program reads a wheel -/
def RdI (b : Int) (t : List UInt8) (x : VMk × Bool) : Prop := OkMk x.1 ∧ (x.2 = true → t ≠ [] ∧ ∀ m, VW b m → wheelT m b = t → x.1 = m) ∧ (x.2 = false → NoW b t)
def MkI (t : List UInt8) (k : Nat) (m : VMk) : Prop := OkMk m ∧ (∀ d, d < 128 → (hasM m d = true ↔ ∃ j, j < k ∧ U7 ((splitA 124 [] t).getD j []) (d : Int))) ∧ ∀ j, j < k → (splitA 124 [] t).getD j [] ≠ []
theorem mkI_0 (t : List UInt8) : MkI t 0 zMk := ⟨okZ, fun d hd => by rw [has_z]; simp, fun j hj => by omega⟩
theorem U7_ne {t : List UInt8} {u : Int} (h : U7 t u) : t ≠ [] := fun e => by
  subst e
  have := h.2.2
  simp [Lib.parseUintB] at this
theorem mkI_s {t : List UInt8} {k : Nat} {m : VMk} {u : Int} (h : MkI t k m) (hu : U7 ((splitA 124 [] t).getD k []) u) : MkI t (k + 1) (putM m u.toNat) := by
  obtain ⟨a1, a2, a3⟩ := h
  have hu1 := hu.1
  have hu2 := hu.2.1
  refine ⟨putM_ok a1 (by omega), fun d hd => ?_, fun j hj => ?_⟩
  · rw [has_put (by omega) hd, Bool.or_eq_true, decide_eq_true_iff, a2 d hd]
    constructor
    · rintro (h | ⟨j, hj, h⟩)
      · refine ⟨k, by omega, ?_⟩
        have e : (d : Int) = u := by omega
        rw [e]; exact hu
      · exact ⟨j, by omega, h⟩
    · rintro ⟨j, hj, h⟩
      by_cases hjk : j = k
      · subst hjk
        have := U7_one h hu
        left; omega
      · exact .inr ⟨j, by omega, h⟩
  · by_cases hjk : j = k
    · subst hjk; exact U7_ne hu
    · exact a3 j (by omega)
theorem itoa_U7 {n : Int} (h : 0 ≤ n) (h1 : n ≤ 127) : U7 (Lib.itoa n) n := by
  have := dgT_U7 (b := 0) h h1
  unfold dgT at this
  rwa [if_neg (by omega)] at this
theorem rdI_q {b : Int} (hb : 2 ≤ b ∧ b ≤ 100) {t : List UInt8} (ht : t = [63]) : RdI b t (fullM b.toNat, true) := by
  subst ht
  refine ⟨fullM_ok (by omega), fun _ => ⟨by simp, fun m hm hw => (wheel_q hm hw).symm⟩, ?_⟩
  intro e; exact absurd e (by simp)
theorem rdI_no {b : Int} {t : List UInt8} {k : Nat} (hb : 2 ≤ b ∧ b ≤ 100) (ht : ¬ t = [63]) (hk : k < (splitA 124 [] t).length) (h : ∀ u, ¬ U7 ((splitA 124 [] t).getD k []) u) : RdI b t (zMk, false) := by
  refine ⟨okZ, ?_, fun _ m hm hw => ?_⟩
  · intro e; exact absurd e (by simp)
  · obtain ⟨hp, _⟩ := wheel_parts hm hw ht
    rw [hp, List.length_map] at hk
    have hg : (splitA 124 [] t).getD k [] = Lib.itoa ((digI m).getD k 0) := by
      rw [hp]; simp [List.getD, hk]
    have hmem : (digI m).getD k 0 ∈ digI m := by rw [List.getD, List.getElem?_eq_getElem hk]; exact List.getElem_mem hk
    have hd := digI_has hmem
    exact h _ (by rw [hg]; exact itoa_U7 hd.1 (by omega))
theorem rdI_end {b : Int} {t : List UInt8} {k : Nat} {m : VMk} (ht : ¬ t = [63]) (hk : k = (splitA 124 [] t).length) (h : MkI t k m) : RdI b t (m, true) := by
  obtain ⟨a1, a2, a3⟩ := h
  have h1 := splitA_pos 124 t
  refine ⟨a1, fun _ => ⟨fun e => ?_, fun n hn hw => ?_⟩, ?_⟩
  · subst e
    exact a3 0 (by omega) rfl
  · obtain ⟨hp, _⟩ := wheel_parts hn hw ht
    refine has_ext a1 hn.ok fun d hd => ?_
    have e : hasM m d = true ↔ hasM n d = true := by
      rw [a2 d hd]
      constructor
      · rintro ⟨j, hj, hu⟩
        rw [hk, hp, List.length_map] at hj
        have hg : (splitA 124 [] t).getD j [] = Lib.itoa ((digI n).getD j 0) := by
          rw [hp]; simp [List.getD, hj]
        have hmem : (digI n).getD j 0 ∈ digI n := by rw [List.getD, List.getElem?_eq_getElem hj]; exact List.getElem_mem hj
        have hd2 := digI_has hmem
        rw [hg] at hu
        have := U7_one hu (itoa_U7 hd2.1 (by omega))
        rw [← this, Int.toNat_natCast] at hd2
        exact hd2.2.2
      · intro hh
        have hmem : (d : Int) ∈ digI n := dgI_mem.2 ⟨by omega, by omega, by rw [Int.toNat_natCast]; exact hh⟩
        obtain ⟨j, hj, e⟩ := List.getElem_of_mem hmem
        refine ⟨j, by rw [hk, hp, List.length_map]; exact hj, ?_⟩
        have hg : (splitA 124 [] t).getD j [] = Lib.itoa (d : Int) := by
          rw [hp, ← e]; simp [List.getD, hj]
        rw [hg]
        exact itoa_U7 (by omega) (by omega)
    cases h1 : hasM m d <;> cases h2 : hasM n d <;> simp_all
  · intro e; exact absurd e (by simp)
end Go.W

/- Photos read from their texts, all wheels. -/
set_option linter.unusedVariables false
set_option linter.unusedSimpArgs false
namespace Go.W
open Go Go.Sx
theorem has_subT {m n : VMk} (hm : OkMk m) (hn : OkMk n) (h : ∀ d, d < 128 → hasM m d = true → hasM n d = true) : subM m n = true := by
  unfold subM
  rw [decide_eq_true_iff]
  have key : ∀ {x y : Int}, (0 ≤ x ∧ x < 18446744073709551616) → (0 ≤ y ∧ y < 18446744073709551616) → (∀ i, i < 64 → bitB x i = true → bitB y i = true) → bits .andNot .u64 x y = 0 := by
    intro x y hx hy hb
    obtain ⟨a, rfl⟩ := Int.eq_ofNat_of_zero_le hx.1
    obtain ⟨b, rfl⟩ := Int.eq_ofNat_of_zero_le hy.1
    show IntKind.u64.wrap ((BitVec.ofInt IntKind.u64.bits (a : Int) &&& ~~~BitVec.ofInt IntKind.u64.bits (b : Int)).toNat : Int) = 0
    have hz : (BitVec.ofInt IntKind.u64.bits (a : Int) &&& ~~~BitVec.ofInt IntKind.u64.bits (b : Int)) = 0#_ := by
      simp only [BitVec.ofInt_natCast]
      refine BitVec.eq_of_getLsbD_eq fun i hi => ?_
      simp only [BitVec.getLsbD_and, BitVec.getLsbD_not, BitVec.getLsbD_ofNat, hi, decide_true, Bool.true_and, BitVec.getLsbD_zero]
      have h1 := hb i hi
      unfold bitB at h1
      rw [Int.toNat_natCast, Int.toNat_natCast] at h1
      cases h2 : a.testBit i
      · simp
      · rw [h1 h2]; simp
    rw [hz]; rfl
  exact ⟨key hm.1 hn.1 fun i hi hb => by have := h i (by omega); rw [hasM_lo hi, hasM_lo hi] at this; exact this hb, key hm.2 hn.2 fun i hi hb => by have := h (64 + i) (by omega); rw [hasM_hi hi, hasM_hi hi] at this; exact this hb⟩
theorem wheel_inj {b : Int} {m n : VMk} (hm : VW b m) (hn : VW b n) (h : wheelT m b = wheelT n b) : m = n := by
  by_cases hq : wheelT n b = [63]
  · rw [wheel_q hm (h.trans hq), wheel_q hn hq]
  · have h1 := (wheel_parts hm h hq).1
    have h2 := (wheel_parts hn rfl hq).1
    rw [h1] at h2
    refine dgI_inj hm.ok hn.ok ?_
    apply List.ext_getElem
    · have := congrArg List.length h2; simpa using this
    · intro i a1 a2
      have h3 := congrArg (fun l => l[i]?) h2
      simp only [List.getElem?_map, List.getElem?_eq_getElem a1, List.getElem?_eq_getElem a2, Option.map_some, Option.some.injEq] at h3
      have b1 := digI_has (m := m) (List.getElem_mem a1)
      have b2 := digI_has (m := n) (List.getElem_mem a2)
      exact itoa_inj (by omega) (by omega) h3
theorem join_no {c d : UInt8} (hd : c ≠ d) : ∀ xs : List (List UInt8), (∀ x ∈ xs, c ∉ x) → c ∉ Lib.join xs [d]
  | [], _ => by simp [Lib.join, List.intercalate]
  | [x], h => by rw [Lib.join_one]; exact h x (by simp)
  | x :: y :: r, h => by
    rw [join_cons2, List.mem_append, List.mem_append, not_or, not_or]
    exact ⟨⟨h x (by simp), by simpa using hd⟩, join_no hd (y :: r) fun z hz => h z (List.mem_cons_of_mem _ hz)⟩
theorem wheel_no {b : Int} {m : VMk} : (58 : UInt8) ∉ wheelT m b := by
  unfold wheelT
  split
  · simp
  · unfold marksT
    rw [digP_all]
    refine join_no (by decide) _ fun x hx => ?_
    obtain ⟨n, hn, rfl⟩ := List.mem_map.1 hx
    intro hm
    have := (itoa_ok _ n rfl (digI_has hn).1).1.2.1 58 hm
    exact absurd this.2 (by decide)
theorem ph_parts {s : List Int} {l : List VMk} (hs : Stk s) : splitA 58 [] (phT s l) = partsF (wpart s l) s.length := by
  unfold phT
  refine split_join _ (by intro e; have h1 := congrArg List.length e; rw [partsF_len] at h1; have h2 := hs.len1; rw [List.length_nil] at h1; omega) fun x hx => ?_
  obtain ⟨i, hi, rfl⟩ := List.mem_map.1 hx
  exact wheel_no
def NoPh (s : List Int) (t : List UInt8) : Prop := ∀ p : VPh, OkPh p → validPh s p = true → phT s p.l ≠ t
theorem ph_VW {s : List Int} {p : VPh} (hp : OkPh p) (hv : validPh s p = true) {j : Nat} (hj : j < s.length) : VW (s.getD j 0) (p.l.getD j zMk) := by
  obtain ⟨_, hS, hP⟩ := vph hp hv
  have h8 := hS.len8
  exact ⟨hp j (by omega), hP.some_ j hj, hP.lt j hj⟩
theorem ph_word {s : List Int} {t : List UInt8} {p : VPh} (hp : OkPh p) (hv : validPh s p = true) (ht : phT s p.l = t) {j : Nat} (hj : j < s.length) : (splitA 58 [] t).getD (s.length - 1 - j) [] = wheelT (p.l.getD j zMk) (s.getD j 0) := by
  obtain ⟨_, hS, hP⟩ := vph hp hv
  rw [← ht, ph_parts hS, parts_getD _ (by omega)]
  unfold wpart
  rw [show s.length - 1 - (s.length - 1 - j) = j by omega]
theorem nph_len {s : List Int} {t : List UInt8} (hs : Stk s) (h : (splitA 58 [] t).length ≠ s.length) : NoPh s t := fun p hp hv ht => by
  rw [← ht, ph_parts hs, partsF_len] at h
  exact h rfl
theorem nph_w {s : List Int} {t : List UInt8} {j : Nat} (hj : j < s.length) (h : NoW (s.getD j 0) ((splitA 58 [] t).getD (s.length - 1 - j) [])) : NoPh s t := fun p hp hv ht =>
  h _ (ph_VW hp hv hj) (ph_word hp hv ht hj).symm
def zer8 : List VMk := [zMk, zMk, zMk, zMk, zMk, zMk, zMk, zMk]
theorem zer8_get {j : Nat} (h : j < 8) : zer8.getD j zMk = zMk := by
  rcases j with _ | _ | _ | _ | _ | _ | _ | _ | j <;> first | rfl | omega
structure PhS where
  k : Nat
  l : List VMk
def OkL (l : List VMk) : Prop := ∀ i, i < 8 → OkMk (l.getD i zMk)
theorem okL_0 : OkL zer8 := fun i hi => by rw [zer8_get hi]; exact okZ
theorem setL {l : List VMk} (h8 : l.length = 8) {k : Nat} (hk : k < 8) (m : VMk) (j : Nat) : (l.set k m).getD j zMk = if j = k then m else l.getD j zMk := by
  by_cases e : j = k
  · subst e; rw [if_pos rfl]; simp [List.getD, h8, hk]
  · rw [if_neg e]; simp [List.getD, List.getElem?_set, Ne.symm e]
theorem okL_s {l : List VMk} (h8 : l.length = 8) {k : Nat} (hk : k < 8) {m : VMk} (h : OkL l) (hm : OkMk m) : OkL (l.set k m) := fun i hi => by
  rw [setL h8 hk]
  split
  · exact hm
  · exact h i hi
def PhU (s : List Int) (t : List UInt8) (l : List VMk) (k : Nat) : Prop := ∀ j, j < 8 → (s.length - k ≤ j → j < s.length → (splitA 58 [] t).getD (s.length - 1 - j) [] ≠ [] ∧ ∀ m, VW (s.getD j 0) m → wheelT m (s.getD j 0) = (splitA 58 [] t).getD (s.length - 1 - j) [] → l.getD j zMk = m) ∧ ((j < s.length - k ∨ s.length ≤ j) → l.getD j zMk = zMk)
theorem phU_0 (s : List Int) (t : List UInt8) : PhU s t zer8 0 := fun j hj => ⟨fun h => by omega, fun _ => zer8_get hj⟩
theorem phU_s {s : List Int} {t : List UInt8} {l : List VMk} {k q : Nat} {x : VMk × Bool} (h8 : l.length = 8) (hs : s.length ≤ 8) (hk : k < s.length) (hq : q = s.length - 1 - k) (h : PhU s t l k) (hx : RdI (s.getD q 0) ((splitA 58 [] t).getD k []) x) (hb : x.2 = true) : PhU s t (l.set q x.1) (k + 1) := fun j hj => by
  subst hq
  rw [setL h8 (by omega)]
  split
  · rename_i e
    subst e
    refine ⟨fun _ _ => ?_, fun h => by omega⟩
    rw [show s.length - 1 - (s.length - 1 - k) = k by omega]
    exact hx.2.1 hb
  · exact ⟨fun a b => (h j hj).1 (by omega) b, fun a => (h j hj).2 (by omega)⟩
theorem nph_end {s : List Int} {t : List UInt8} {l : List VMk} (h8 : l.length = 8) (h : PhU s t l s.length) (hn : ¬ phTx s (phot l) = t) : NoPh s t := fun p hp hv ht => by
  obtain ⟨hvs, hS, hP⟩ := vph hp hv
  have hs8 := hS.len8
  have e : phot l = p := by
    apply ph_inj
    rw [phot_l h8]
    apply List.ext_getElem (by rw [h8, ph_len])
    intro j h1 h2
    have hj : j < 8 := by omega
    have key : l.getD j zMk = p.l.getD j zMk := by
      by_cases hjs : j < s.length
      · exact ((h j hj).1 (by omega) hjs).2 _ (ph_VW hp hv hjs) (ph_word hp hv ht hjs).symm
      · rw [(h j hj).2 (.inr (by omega)), hP.hi j (by omega) hj]
    rw [List.getD, List.getD, List.getElem?_eq_getElem h1, List.getElem?_eq_getElem h2] at key
    exact key
  rw [e, phTx_t hv] at hn
  exact hn ht
def RdPh (s : List Int) (t : List UInt8) (x : VPh × Int) : Prop := OkPh x.1 ∧ ((validStack s = false ∧ x = (zPh, 1)) ∨ (validStack s = true ∧ ((x.2 = 0 ∧ validPh s x.1 = true ∧ phT s x.1.l = t) ∨ (x.2 = 5 ∧ x.1 = zPh ∧ NoPh s t))))
theorem okZPh : OkPh zPh := fun i hi => by
  have : zPh.l.getD i zMk = zMk := zer8_get hi
  rw [this]; exact okZ
theorem rdPh_v {s : List Int} {t : List UInt8} (h : validStack s = false) : RdPh s t (zPh, 1) := ⟨okZPh, .inl ⟨h, rfl⟩⟩
theorem rdPh_no {s : List Int} {t : List UInt8} (h : validStack s = true) (h1 : NoPh s t) : RdPh s t (zPh, 5) := ⟨okZPh, .inr ⟨h, .inr ⟨rfl, rfl, h1⟩⟩⟩
theorem okPhot {l : List VMk} (h8 : l.length = 8) (h : OkL l) : OkPh (phot l) := fun i hi => by rw [phot_l h8]; exact h i hi
theorem rdPh_i {s : List Int} {t : List UInt8} {l : List VMk} (h : validStack s = true) (h8 : l.length = 8) (hok : OkL l) (hl : (splitA 58 [] t).length = s.length) (hu : PhU s t l s.length) (ht : phTx s (phot l) = t) : RdPh s t (phot l, 0) := by
  refine ⟨okPhot h8 hok, .inr ⟨h, .inl ⟨rfl, ?_⟩⟩⟩
  cases hv : validPh s (phot l)
  · exfalso
    rw [phTx_f hv] at ht
    subst ht
    have hs := stk h
    have h1 := hs.len1
    have hl : ([[]] : List (List UInt8)).length = s.length := hl
    simp only [List.length_cons, List.length_nil] at hl
    have h2 := ((hu 0 (by omega)).1 (by omega) (by omega)).1
    rw [show s.length - 1 - 0 = 0 by omega] at h2
    exact h2 rfl
  · exact ⟨rfl, by rw [← ht]; exact (phTx_t hv).symm⟩
theorem rdPh_n {s : List Int} {t : List UInt8} {l : List VMk} (h : validStack s = true) (h8 : l.length = 8) (hu : PhU s t l s.length) (ht : ¬ phTx s (phot l) = t) : RdPh s t (zPh, 5) := rdPh_no h (nph_end h8 hu ht)
theorem ph_one {s : List Int} {p q : VPh} (hp : OkPh p) (hq : OkPh q) (h1 : validPh s p = true) (h2 : validPh s q = true) (h : phT s p.l = phT s q.l) : p = q := by
  obtain ⟨hvs, hS, hP⟩ := vph hp h1
  obtain ⟨_, _, hQ⟩ := vph hq h2
  apply ph_inj
  apply List.ext_getElem (by rw [ph_len, ph_len])
  intro j a1 a2
  have hj : j < 8 := a1
  have key : p.l.getD j zMk = q.l.getD j zMk := by
    by_cases hjs : j < s.length
    · have b1 := ph_word hp h1 h hjs
      have b2 := ph_word hq h2 rfl hjs
      exact wheel_inj (ph_VW hp h1 hjs) (ph_VW hq h2 hjs) (b1.symm.trans b2)
    · rw [hP.hi j (by omega) hj, hQ.hi j (by omega) hj]
  rw [List.getD, List.getD, List.getElem?_eq_getElem a1, List.getElem?_eq_getElem a2] at key
  exact key
end Go.W

/- The texts of a ticket and of a log. -/
set_option linter.unusedVariables false
namespace Go.W
open Go Go.Sx
end Go.W

/- Tickets read from their texts: a ticket is read iff the text is its own. -/
set_option linter.unusedVariables false
set_option linter.unusedSimpArgs false
namespace Go.W
open Go Go.Sx
theorem val_inj {s l l' : List Int} (hs : Stk s) (h : DigOk s l) (h' : DigOk s l') (hn : s.length ≤ l.length) (hn' : s.length ≤ l'.length) : ∀ j k, k + j = s.length → val (s.drop k) (l.drop k) = val (s.drop k) (l'.drop k) → ∀ i, k ≤ i → i < s.length → l.getD i 0 = l'.getD i 0
  | 0, k, hk, _, i, h1, h2 => by omega
  | j + 1, k, hk, hv, i, h1, h2 => by
    have hb := hs.bases k (by omega)
    have a1 := h k (by omega)
    have a2 := h' k (by omega)
    rw [val_drop (s := s) (l := l) (k := k) (by omega) (by omega), val_drop (s := s) (l := l') (k := k) (by omega) (by omega)] at hv
    have key : l.getD k 0 = l'.getD k 0 ∧ val (s.drop (k + 1)) (l.drop (k + 1)) = val (s.drop (k + 1)) (l'.drop (k + 1)) := by
      generalize val (s.drop (k + 1)) (l.drop (k + 1)) = x at hv ⊢
      generalize val (s.drop (k + 1)) (l'.drop (k + 1)) = y at hv ⊢
      generalize l.getD k 0 = p at *
      generalize l'.getD k 0 = q at *
      generalize s.getD k 0 = b at *
      have e1 : (p + b * x) % b = p := by rw [Int.add_mul_emod_self_left, Int.emod_eq_of_lt a1.1 a1.2]
      have e2 : (q + b * y) % b = q := by rw [Int.add_mul_emod_self_left, Int.emod_eq_of_lt a2.1 a2.2]
      have hpq : p = q := by rw [hv, e2] at e1; exact e1.symm
      refine ⟨hpq, ?_⟩
      subst hpq
      have h3 : b * x = b * y := by omega
      exact Int.eq_of_mul_eq_mul_left (by omega) h3
    by_cases hik : i = k
    · subst hik; exact key.1
    · exact val_inj hs h h' hn hn' j (k + 1) (by omega) key.2 i (by omega) h2
/-- Digits are those of their value. -/
theorem dig_val {s : List Int} {d : Dig} (hs : Stk s) (hn : Nums 255 d.l) (hv : validDig s d.l = true) : dig (digs s (val s d.l)) = d := by
  have h8 := hs.len8
  have hd := digOk h8 hn hv
  have hb := val_lt hs hd (by rw [dig_len]; omega)
  have e := val_of' hs hb.1 hb.2
  apply dig_inj
  rw [dig_l (digs_len _ _)]
  apply List.ext_getElem (by rw [digs_len, dig_len])
  intro i h1 h2
  have hi : i < 8 := h2
  have key : (digs s (val s d.l)).getD i 0 = d.l.getD i 0 := by
    by_cases his : i < s.length
    · refine val_inj hs (digs_ok hs) hd (by rw [digs_len]; omega) (by rw [dig_len]; omega) s.length 0 (by omega) ?_ i (Nat.zero_le _) his
      simpa using e
    · rw [digs_at hi, if_neg his]
      unfold validDig at hv
      rw [List.all_eq_true] at hv
      have := hv i (List.mem_range.2 hi)
      unfold goodAt at this
      rw [if_neg his, decide_eq_true_iff] at this
      exact this.symm
  rw [List.getD, List.getD, List.getElem?_eq_getElem h1, List.getElem?_eq_getElem h2] at key
  exact key
/-! ### Tickets -/
end Go.W

/- All values in a photo, rising; the next one; what lies below. -/
set_option linter.unusedVariables false
set_option linter.unusedSimpArgs false
namespace Go.W
open Go Go.Sx
/-! all values: those that are shown, rising -/
def shR : List Int → List VMk → Int → Prop
  | [], _, _ => True
  | b :: s, l, v => hasM (l.getD 0 zMk) (v % b).toNat = true ∧ shR s (l.drop 1) (v / b)
def valR : List Int → List VMk → List Int
  | [], _ => [0]
  | b :: s, l => stepV b (digI (l.getD 0 zMk)) (valR s (l.drop 1))
theorem drop_at (l : List VMk) (k j : Nat) : (l.drop k).getD j zMk = l.getD (k + j) zMk := by simp [List.getD, List.getElem?_drop]
theorem valR_eq {s : List Int} {l : List VMk} : ∀ t, t ≤ s.length → valW s l t = valR (s.drop (s.length - t)) (l.drop (s.length - t))
  | 0, _ => by rw [Nat.sub_zero, List.drop_length]; rfl
  | t + 1, h => by
    have ih := valR_eq (s := s) (l := l) t (by omega)
    rw [valW, ih, drop_cons (s := s) (k := s.length - (t + 1)) (by omega), valR, List.drop_drop, drop_at]
    rw [show s.length - (t + 1) + 1 = s.length - t by omega, show s.length - 1 - t = s.length - (t + 1) by omega]
    rfl
theorem vals_R (s : List Int) (p : VPh) : valsP s p = valR s p.l := by
  unfold valsP
  rw [valR_eq s.length (Nat.le_refl _), Nat.sub_self]; rfl
theorem dAt_s {b : Int} {s : List Int} {v : Int} {k : Nat} (hb : 0 ≤ b) : dAt (b :: s) v (k + 1) = dAt s (v / b) k := by
  show v / (b * prod (s.take k)) % s.getD k 0 = v / b / prod (s.take k) % s.getD k 0
  rw [Int.ediv_ediv_of_nonneg hb]
theorem sh_R : ∀ {s : List Int} {l : List VMk} {v : Int}, Bases s → ((∀ j, j < s.length → hasM (l.getD j zMk) (dAt s v j).toNat = true) ↔ shR s l v)
  | [], _, _, _ => ⟨fun _ => trivial, fun _ j hj => by simp at hj⟩
  | b :: s, l, v, h => by
    have hb := h.head
    have ih := sh_R (s := s) (l := l.drop 1) (v := v / b) h.tail
    have e0 : dAt (b :: s) v 0 = v % b := by show v / 1 % b = v % b; rw [Int.ediv_one]
    constructor
    · intro hall
      refine ⟨by have := hall 0 (by simp); rwa [e0] at this, ih.1 fun j hj => ?_⟩
      have := hall (j + 1) (by simp; omega)
      rw [dAt_s (by omega)] at this
      rw [drop_at, Nat.add_comm]; exact this
    · rintro ⟨h0, h1⟩ j hj
      match j, hj with
      | 0, _ => rw [e0]; exact h0
      | j + 1, hj =>
        have := ih.2 h1 j (by simpa using hj)
        rw [drop_at, Nat.add_comm] at this
        rw [dAt_s (by omega)]; exact this
theorem memG {m : VMk} {x : Int} : x ∈ digI m ↔ 0 ≤ x ∧ x < 128 ∧ hasM m x.toNat = true := dgI_mem
theorem div_mod_of {b x y : Int} (hy : 0 ≤ y ∧ y < b) : (x * b + y) % b = y ∧ (x * b + y) / b = x := by
  have e : x * b + y = y + b * x := by rw [Int.mul_comm, Int.add_comm]
  rw [e]
  exact ⟨by rw [Int.add_mul_emod_self_left, Int.emod_eq_of_lt hy.1 hy.2], by rw [Int.add_mul_ediv_left _ _ (by omega), Int.ediv_eq_zero_of_lt hy.1 hy.2, Int.zero_add]⟩
def LtM (s : List Int) (l : List VMk) : Prop := ∀ j, j < s.length → ∀ d, d < 128 → hasM (l.getD j zMk) d = true → (d : Int) < s.getD j 0
theorem LtM.tail {b : Int} {s : List Int} {l : List VMk} (h : LtM (b :: s) l) : LtM s (l.drop 1) := fun j hj d hd hh => by
  rw [drop_at, Nat.add_comm] at hh
  exact h (j + 1) (by simp; omega) d hd hh
theorem mem_R : ∀ {s : List Int} {l : List VMk} {x : Int}, Bases s → LtM s l → (x ∈ valR s l ↔ (0 ≤ x ∧ x < prod s) ∧ shR s l x)
  | [], _, x, _, _ => by
    show x ∈ [0] ↔ (0 ≤ x ∧ x < 1) ∧ True
    simp; omega
  | b :: s, l, x, h, hL => by
    have hb := h.head
    have hp := prod_pos h.tail
    have hlt : ∀ y, y ∈ digI (l.getD 0 zMk) → 0 ≤ y ∧ y < b := fun y hy => by
      have h1 := memG.1 hy
      have h2 := hL 0 (by simp) y.toNat (by omega) h1.2.2
      have h3 : (b :: s : List Int).getD 0 0 = b := rfl
      omega
    rw [valR]
    unfold stepV oneL
    simp only [List.mem_flatMap, List.mem_map]
    constructor
    · rintro ⟨u, hu, y, hy, rfl⟩
      have h1 := (mem_R h.tail hL.tail).1 hu
      have h2 := hlt y hy
      obtain ⟨e1, e2⟩ := div_mod_of (x := u) h2
      have h3 : 0 ≤ u * b := Int.mul_nonneg h1.1.1 (by omega)
      have h4 : (u + 1) * b ≤ prod s * b := Int.mul_le_mul_of_nonneg_right (by omega) (by omega)
      rw [Int.add_mul, Int.mul_comm (prod s) b] at h4
      refine ⟨⟨by omega, by show _ < b * prod s; omega⟩, ?_, ?_⟩
      · rw [e1]; exact (memG.1 hy).2.2
      · rw [e2]; exact h1.2
    · rintro ⟨⟨h0, h1⟩, h2, h3⟩
      have hm0 := Int.emod_nonneg x (show b ≠ 0 by omega)
      have hm1 := Int.emod_lt_of_pos x (show 0 < b by omega)
      have hd : x / b < prod s := Int.ediv_lt_of_lt_mul (by omega) (by rw [Int.mul_comm]; exact h1)
      refine ⟨x / b, (mem_R h.tail hL.tail).2 ⟨⟨Int.ediv_nonneg h0 (by omega), hd⟩, h3⟩, x % b, memG.2 ⟨hm0, by omega, h2⟩, ?_⟩
      have := Int.emod_add_mul_ediv x b
      rw [Int.mul_comm] at this; omega
theorem step_upG {b : Int} {ds out : List Int} (hd : ds.Pairwise (· < ·)) (ho : out.Pairwise (· < ·)) (h : ∀ x, x ∈ ds → 0 ≤ x ∧ x < b) : (stepV b ds out).Pairwise (· < ·) := by
  unfold stepV
  rw [List.pairwise_flatMap]
  refine ⟨fun u _ => ?_, ho.imp fun {a c} hab => fun x hx y hy => ?_⟩
  · unfold oneL
    exact List.Pairwise.map _ (fun p q hpq => by show u * b + p < u * b + q; omega) hd
  · unfold oneL at hx hy
    obtain ⟨p, hp, rfl⟩ := List.mem_map.1 hx
    obtain ⟨q, hq, rfl⟩ := List.mem_map.1 hy
    have h1 := h p hp
    have h2 := h q hq
    have h3 : (a + 1) * b ≤ c * b := Int.mul_le_mul_of_nonneg_right (by omega) (by omega)
    rw [Int.add_mul] at h3
    omega
theorem up_R : ∀ {s : List Int} {l : List VMk}, LtM s l → (valR s l).Pairwise (· < ·)
  | [], _, _ => List.pairwise_singleton _ _
  | b :: s, l, h => by
    rw [valR]
    exact step_upG (dgI_up _) (up_R h.tail) fun x hx => by
      have h1 := memG.1 hx
      have h2 := h 0 (by simp) x.toNat (by omega) h1.2.2
      have h3 : (b :: s : List Int).getD 0 0 = b := rfl
      omega
theorem shows_iff {s : List Int} {l : List VMk} {v : Int} (h8 : s.length ≤ 8) : showsM s l (digs s v) = true ↔ ∀ j, j < s.length → hasM (l.getD j zMk) (dAt s v j).toNat = true := by
  unfold showsM
  rw [List.all_eq_true]
  constructor
  · intro h j hj; have := h j (by simpa using hj); rwa [digs_lo h8 hj] at this
  · intro h j hj; have hj : j < s.length := by simpa using hj
    rw [digs_lo h8 hj]; exact h j hj
theorem vals_iff {s : List Int} {p : VPh} {v : Int} (hs : Stk s) (hP : PhOk s p.l) : v ∈ valsP s p ↔ (0 ≤ v ∧ v < prod s) ∧ showsM s p.l (digs s v) = true := by
  rw [vals_R, mem_R hs.bases hP.lt, shows_iff hs.len8, sh_R hs.bases]
theorem vals_up {s : List Int} {p : VPh} (hP : PhOk s p.l) : (valsP s p).Pairwise (· < ·) := by rw [vals_R]; exact up_R hP.lt
theorem up_lt {l : List Int} (h : l.Pairwise (· < ·)) {i j : Nat} (hij : i < j) (hj : j < l.length) : l.getD i 0 < l.getD j 0 := by
  have := List.pairwise_iff_getElem.1 h i j (by omega) hj hij
  simpa [List.getD, hj, show i < l.length by omega] using this
theorem memA {l : List Int} {x : Int} (h : x ∈ l) : ∃ k, k < l.length ∧ l.getD k 0 = x := by
  obtain ⟨k, hk, rfl⟩ := List.getElem_of_mem h
  exact ⟨k, hk, by simp [List.getD, hk]⟩
theorem cho_pos {s : List Int} {p : VPh} (hs : Stk s) (hP : PhOk s p.l) : 0 < (valsP s p).length := by
  have h1 := valsP_len s p
  have h2 := (cho_le hP hs (i := s.length) (Nat.le_refl _)).1
  omega
/-! which of two values is less -/
def qAt (s : List Int) (v : Int) (k : Nat) : Int := v / prod (s.take k)
theorem q_step {s : List Int} {v : Int} {k : Nat} (hb : Bases s) (hk : k < s.length) : qAt s v k = qAt s v (k + 1) * s.getD k 0 + dAt s v k := by
  unfold qAt dAt
  rw [← div_prod hb hk]
  have := Int.emod_add_mul_ediv (v / prod (s.take k)) (s.getD k 0)
  rw [Int.mul_comm] at this; omega
theorem q_end {s : List Int} {v : Int} (h : 0 ≤ v ∧ v < prod s) : qAt s v s.length = 0 := by
  unfold qAt; rw [List.take_length]; exact Int.ediv_eq_zero_of_lt h.1 h.2
theorem q_same {s : List Int} {u w : Int} (hb : Bases s) (hu : 0 ≤ u ∧ u < prod s) (hw : 0 ≤ w ∧ w < prod s) : ∀ t, t ≤ s.length → (∀ j, s.length - t ≤ j → j < s.length → dAt s u j = dAt s w j) → qAt s u (s.length - t) = qAt s w (s.length - t)
  | 0, _, _ => by rw [Nat.sub_zero, q_end hu, q_end hw]
  | t + 1, ht, h => by
    have ih := q_same hb hu hw t (by omega) fun j h1 h2 => h j (by omega) h2
    rw [q_step (k := s.length - (t + 1)) hb (by omega), q_step (v := w) (k := s.length - (t + 1)) hb (by omega), h _ (Nat.le_refl _) (by omega), show s.length - (t + 1) + 1 = s.length - t by omega, ih]
theorem q_lt {s : List Int} {u w : Int} {k : Nat} (hb : Bases s) (hu : 0 ≤ u ∧ u < prod s) (hw : 0 ≤ w ∧ w < prod s) (hk : k < s.length) (h : dAt s u k < dAt s w k) (he : ∀ j, k < j → j < s.length → dAt s u j = dAt s w j) : u < w := by
  have h1 := q_same hb hu hw (s.length - (k + 1)) (by omega) fun j h1 h2 => he j (by omega) h2
  rw [show s.length - (s.length - (k + 1)) = k + 1 by omega] at h1
  have h2 : qAt s u k < qAt s w k := by rw [q_step hb hk, q_step (v := w) hb hk, h1]; omega
  rcases Int.lt_or_le u w with h3 | h3
  · exact h3
  · have h4 : w / prod (s.take k) ≤ u / prod (s.take k) := Int.ediv_le_ediv (by have := prod_pos (hb.take k); omega) h3
    unfold qAt at h2; omega
theorem q_first {s : List Int} {u w : Int} : ∀ t, t ≤ s.length → (∀ j, s.length - t ≤ j → j < s.length → dAt s u j = dAt s w j) ∨ ∃ k, s.length - t ≤ k ∧ k < s.length ∧ dAt s u k ≠ dAt s w k ∧ ∀ j, k < j → j < s.length → dAt s u j = dAt s w j
  | 0, _ => .inl fun j h1 h2 => by omega
  | t + 1, ht => by
    rcases q_first (s := s) (u := u) (w := w) t (by omega) with h | ⟨k, h1, h2, h3, h4⟩
    · by_cases e : dAt s u (s.length - (t + 1)) = dAt s w (s.length - (t + 1))
      · refine .inl fun j h1 h2 => ?_
        rcases Nat.eq_or_lt_of_le h1 with h3 | h3
        · rw [← h3]; exact e
        · exact h j (by omega) h2
      · exact .inr ⟨_, Nat.le_refl _, by omega, e, fun j h1 h2 => h j (by omega) h2⟩
    · exact .inr ⟨k, by omega, h2, h3, h4⟩
theorem lt_q {s : List Int} {u w : Int} (hb : Bases s) (hu : 0 ≤ u ∧ u < prod s) (hw : 0 ≤ w ∧ w < prod s) (h : u < w) : ∃ k, k < s.length ∧ dAt s u k < dAt s w k ∧ ∀ j, k < j → j < s.length → dAt s u j = dAt s w j := by
  rcases q_first (s := s) (u := u) (w := w) s.length (Nat.le_refl _) with h1 | ⟨k, _, h2, h3, h4⟩
  · have := q_same hb hu hw s.length (Nat.le_refl _) h1
    rw [Nat.sub_self] at this
    unfold qAt at this
    rw [List.take_zero] at this
    have e : ∀ x : Int, x / prod [] = x := fun x => by show x / 1 = x; exact Int.ediv_one x
    rw [e, e] at this; omega
  · rcases Int.lt_or_le (dAt s u k) (dAt s w k) with h5 | h5
    · exact ⟨k, h2, h5, h4⟩
    · have := q_lt hb hw hu h2 (by omega) fun j h6 h7 => (h4 j h6 h7).symm
      omega
/-! the next one -/
theorem from_min {m : VMk} {a e : Nat} (h1 : a ≤ e) (h2 : e < 128) (h : hasM m e = true) : 0 ≤ fromM m a ∧ fromM m a ≤ (e : Int) ∧ (a : Int) ≤ fromM m a ∧ hasM m (fromM m a).toNat = true := by
  rcases from_cases m a with h3 | ⟨d, h3, h4, h5, h6⟩
  · rw [h3.2 e h1 h2] at h; cases h
  · rw [h3, Int.toNat_natCast]
    refine ⟨by omega, ?_, by omega, h6⟩
    unfold fromM at h3
    cases h7 : (List.range 128).find? (fun e => decide (a ≤ e) && hasM m e) with
    | none => rw [h7] at h3; simp at h3
    | some q =>
      rw [h7] at h3
      rw [List.find?_range_eq_some] at h7
      have h8 := h7.2.2
      rcases Nat.lt_or_ge e d with h9 | h9
      · have h10 := h8 e (by have : (q : Int) = d := h3; omega)
        rw [decide_eq_true h1, h] at h10; exact absurd h10 (by decide)
      · omega
structure NextOk (s : List Int) (l : List VMk) (u : Int) (x : Int × Bool) : Prop where
  yes : x.2 = true → (0 ≤ x.1 ∧ x.1 < prod s) ∧ showsM s l (digs s x.1) = true ∧ u ≤ x.1 ∧ ∀ w, 0 ≤ w ∧ w < prod s → showsM s l (digs s w) = true → u ≤ w → x.1 ≤ w
  no : x.2 = false → ∀ w, 0 ≤ w ∧ w < prod s → showsM s l (digs s w) = true → ¬ u ≤ w
theorem digs_val {s l : List Int} (hs : Stk s) (h8 : l.length = 8) (hn : Nums 255 l) (hv : validDig s l = true) : digs s (val s l) = l := by
  have h := dig_val (d := dig l) hs (by rw [dig_l h8]; exact hn) (by rw [dig_l h8]; exact hv)
  have h2 : (dig (digs s (val s (dig l).l))).l = (dig l).l := congrArg Dig.l h
  rw [dig_l (digs_len _ _), dig_l h8] at h2
  exact h2
theorem cand_of {s : List Int} {l : List VMk} {u w : Int} {k : Nat} (hs : Stk s) (hk : k < s.length) (hw : ∀ j, j < s.length → hasM (l.getD j zMk) (dAt s w j).toNat = true) (h : dAt s u k < dAt s w k) (he : ∀ j, k < j → j < s.length → dAt s u j = dAt s w j) : cand s.length l (digs s u) k = true := by
  have h8 := hs.len8
  have hb := dAt_bd (v := w) hs.bases hk
  have hb2 := dAt_bd (v := u) hs.bases hk
  have hb3 := hs.bases k hk
  refine cand_y (up_t fun j h1 h2 => ?_) ?_
  · rw [digs_lo h8 h2, he j h1 h2]; exact hw j h2
  · rw [digs_lo h8 hk]
    exact (from_min (m := l.getD k zMk) (a := (dAt s u k).toNat + 1) (e := (dAt s w k).toNat) (by omega) (by omega) (hw k hk)).1
theorem next_ok {s : List Int} {l : List VMk} {u : Int} (hs : Stk s) (hP : PhOk s l) (hu : 0 ≤ u ∧ u < prod s) : NextOk s l u (nextV s l (digs s u)) := by
  have h8 := hs.len8
  by_cases hsh : showsM s l (digs s u) = true
  · rw [nx_s hsh, val_of' hs hu.1 hu.2]
    exact ⟨fun _ => ⟨hu, hsh, Int.le_refl _, fun w _ _ h => h⟩, fun h => nomatch h⟩
  · have hshf : showsM s l (digs s u) = false := by simpa using hsh
    have hD := digs_ok (v := u) hs
    have hne : ∀ w, 0 ≤ w ∧ w < prod s → showsM s l (digs s w) = true → u ≤ w → ∃ k, k < s.length ∧ dAt s u k < dAt s w k ∧ ∀ j, k < j → j < s.length → dAt s u j = dAt s w j := fun w hw hsw huw => by
      refine lt_q hs.bases hu hw ?_
      rcases Int.lt_or_eq_of_le huw with h | h
      · exact h
      · subst h; exact absurd hsw hsh
    cases hf : (List.range s.length).find? (cand s.length l (digs s u)) with
    | none =>
      have e : nextV s l (digs s u) = (0, false) := by unfold nextV; rw [if_neg hsh, hf]
      rw [e]
      refine ⟨fun h => (by cases h), fun _ w hw hsw huw => ?_⟩
      obtain ⟨k, hk, h1, h2⟩ := hne w hw hsw huw
      rw [List.find?_eq_none] at hf
      exact hf k (by simpa using hk) (cand_of hs hk ((shows_iff h8).1 hsw) h1 h2)
    | some i =>
      have e : nextV s l (digs s u) = (val s (nextD l (digs s u) i), true) := by unfold nextV; rw [if_neg hsh, hf]
      rw [List.find?_range_eq_some] at hf
      obtain ⟨hc, hi, hall⟩ := hf
      have hi : i < s.length := by simpa using hi
      have hc2 : upA s.length l (digs s u) i = true ∧ 0 ≤ fromM (l.getD i zMk) (((digs s u).getD i 0).toNat + 1) := by
        unfold cand at hc; rw [Bool.and_eq_true, decide_eq_true_iff] at hc; exact hc
      obtain ⟨hv, hn⟩ := nextD_valid hs hP hD (digs_len s u) (digs_valid hs) hi hc2.2
      have hDn := digOk h8 (l := nextD l (digs s u) i) hn hv
      have hw0 := val_lt hs hDn (by rw [nextD_len]; omega)
      have hdg := digs_val hs nextD_len hn hv
      have hnd : ∀ j, j < s.length → dAt s (val s (nextD l (digs s u) i)) j = if j < i then fromM (l.getD j zMk) 0 else if j = i then fromM (l.getD i zMk) ((dAt s u i).toNat + 1) else dAt s u j := fun j hj => by
        rw [← digs_lo h8 hj, hdg]
        unfold nextD
        rw [leastD_at (by omega), ← digs_lo (v := u) h8 hi]
        split
        · rfl
        · split
          · next h =>
            subst h
            simp only [List.getD]
            rw [List.getElem?_set_self (by rw [digs_len]; omega)]; rfl
          · next h => rw [← digs_lo (v := u) h8 hj]; simp [List.getD, List.getElem?_set, show ¬ i = j by omega]
      rw [digs_lo h8 hi] at hc2
      rw [e]
      have hfc : 0 ≤ fromM (l.getD i zMk) ((dAt s u i).toNat + 1) ∧ dAt s u i < fromM (l.getD i zMk) ((dAt s u i).toNat + 1) ∧ hasM (l.getD i zMk) (fromM (l.getD i zMk) ((dAt s u i).toNat + 1)).toNat = true := by
        have hb2 := dAt_bd (v := u) hs.bases hi
        rcases from_cases (l.getD i zMk) ((dAt s u i).toNat + 1) with h3 | ⟨d, h3, h4, h5, h6⟩
        · omega
        · rw [h3, Int.toNat_natCast]; exact ⟨by omega, by omega, h6⟩
      refine ⟨fun _ => ⟨hw0, ?_, ?_, ?_⟩, fun h => (by cases h)⟩
      · rw [shows_iff h8]
        intro j hj
        rw [hnd j hj]
        split
        · exact (from_some (hP.some_ j hj)).2
        · split
          · next h => subst h; exact hfc.2.2
          · next h1 h2 =>
            have h3 := hc2.1
            unfold upA at h3
            rw [List.all_eq_true] at h3
            have := h3 j (by simpa using hj)
            rw [decide_eq_false (by omega), Bool.false_or, digs_lo h8 hj] at this
            exact this
      · refine Int.le_of_lt (q_lt hs.bases hu hw0 hi ?_ fun j h1 h2 => ?_)
        · rw [hnd i hi, if_neg (by omega), if_pos rfl]; exact hfc.2.1
        · rw [hnd j h2, if_neg (by omega), if_neg (by omega)]
      · intro w hw hsw huw
        obtain ⟨k, hk, h1, h2⟩ := hne w hw hsw huw
        have hsw := (shows_iff h8).1 hsw
        have hck := cand_of hs hk hsw h1 h2
        have hik : i ≤ k := by
          rcases Nat.lt_or_ge k i with h3 | h3
          · have := hall k h3; rw [hck] at this; cases this
          · exact h3
        show val s (nextD l (digs s u) i) ≤ w
        rcases Int.lt_or_le w (val s (nextD l (digs s u) i)) with hlt | hle
        · exfalso
          obtain ⟨q, hq, h3, h4⟩ := lt_q hs.bases hw hw0 hlt
          rw [hnd q hq] at h3
          have hwb := dAt_bd (v := w) hs.bases hq
          have hqb := hs.bases q hq
          rcases Nat.lt_or_ge q i with h5 | h5
          · rw [if_pos h5] at h3
            have := from_min (m := l.getD q zMk) (a := 0) (e := (dAt s w q).toNat) (by omega) (by omega) (hsw q hq)
            omega
          · rw [if_neg (by omega)] at h3
            by_cases h6 : q = i
            · rw [if_pos h6] at h3
              subst h6
              rcases Nat.eq_or_lt_of_le hik with h7 | h7
              · subst h7
                have hub := dAt_bd (v := u) hs.bases hq
                have := from_min (m := l.getD q zMk) (a := (dAt s u q).toNat + 1) (e := (dAt s w q).toNat) (by omega) (by omega) (hsw q hq)
                omega
              · have h8 := h4 k h7 hk
                rw [hnd k hk, if_neg (by omega), if_neg (by omega)] at h8
                omega
            · rw [if_neg h6] at h3
              rcases Nat.lt_or_ge k q with h7 | h7
              · have := h2 q h7 hq; omega
              · rcases Nat.eq_or_lt_of_le h7 with h8 | h8
                · subst h8; omega
                · have h9 := h4 k h8 hk
                  rw [hnd k hk, if_neg (by omega), if_neg (by omega)] at h9
                  omega
        · exact hle
end Go.W

/- Counts of a photo's values; its least one, the next ones; photos that meet and join. -/
set_option linter.unusedVariables false
set_option linter.unusedSimpArgs false
namespace Go.W
open Go Go.Sx
/-! counts -/
theorem less_0 (m : VMk) : lessM m 0 = 0 := rfl
theorem bel_zero {l : List VMk} {d : List Int} : ∀ (i : Nat) (n : Int), (∀ j, j < i → d.getD j 0 = 0) → belV l d i n = n
  | 0, n, _ => rfl
  | i + 1, n, h => by
    have ih := fun n => bel_zero (l := l) (d := d) i n fun j hj => h j (by omega)
    rw [belV, h i (by omega), Int.toNat_zero, less_0, Int.zero_mul, Int.add_zero, ih]
    split <;> rfl
theorem less_top {m : VMk} {b : Nat} (h : ∀ d, d < 128 → hasM m d = true → d < b) : ∀ k, b + k ≤ 128 → lessM m (b + k) = lessM m b
  | 0, _ => rfl
  | k + 1, hk => by
    rw [← Nat.add_assoc, less_succ, less_top h k (by omega), if_neg (fun hh => by have := h (b + k) (by omega) hh; omega), Int.add_zero]
theorem less_all {m : VMk} {b : Nat} (hb : b ≤ 128) (h : ∀ d, d < 128 → hasM m d = true → d < b) : lessM m b = cntM m := by
  rw [← cnt_dig, ← less_top h (128 - b) (by omega), show b + (128 - b) = 128 by omega]; rfl
def shownTo (l : List VMk) (d : List Int) (i : Nat) : Bool := (List.range i).all fun j => hasM (l.getD j zMk) (d.getD j 0).toNat
theorem shownTo_s (l : List VMk) (d : List Int) (i : Nat) : shownTo l d (i + 1) = (shownTo l d i && hasM (l.getD i zMk) (d.getD i 0).toNat) := by
  unfold shownTo; rw [List.range_succ, List.all_append]; simp
theorem bel_top {s : List Int} {l : List VMk} {d : List Int} (hs : Stk s) (hP : PhOk s l) (h : ∀ j, j < s.length → d.getD j 0 = s.getD j 0 - 1) : ∀ (i : Nat) (n : Int), i ≤ s.length → belV l d i n + (if shownTo l d i = true then 1 else 0) = n + choV l i
  | 0, n, _ => by simp [belV, shownTo, choV]
  | i + 1, n, hi => by
    have ih := fun n => bel_top hs hP h i n (by omega)
    have hb := hs.bases i (by omega)
    have hd := h i (by omega)
    have hl := less_all (m := l.getD i zMk) (b := (s.getD i 0).toNat) (by omega) (fun d hd hh => by have := hP.lt i (by omega) d hd hh; omega)
    rw [show (s.getD i 0).toNat = (d.getD i 0).toNat + 1 by omega, less_succ] at hl
    rw [choV, belV, shownTo_s]
    by_cases hh : hasM (l.getD i zMk) (d.getD i 0).toNat = true
    · rw [if_pos hh] at hl ⊢
      rw [hh, Bool.and_true, ih, ← hl, Int.mul_add, Int.mul_one, Int.mul_comm (choV l i)]; omega
    · rw [if_neg hh] at hl ⊢
      have hh2 : hasM (l.getD i zMk) (d.getD i 0).toNat = false := by simpa using hh
      rw [hh2, Bool.and_false, if_neg Bool.false_ne_true, ← hl, Int.add_zero, Int.add_zero, Int.mul_comm (choV l i)]
theorem dAt_top {s : List Int} {k : Nat} (hb : Bases s) (hk : k < s.length) : dAt s (prod s - 1) k = s.getD k 0 - 1 := by
  have h1 := prod_pos (hb.take k)
  have h2 := prod_pos (hb.drop (k + 1))
  have h3 := hb k hk
  have e := prod_split s k
  rw [prod_drop hk] at e
  unfold dAt
  rw [e]
  generalize prod (s.take k) = P at *
  generalize prod (s.drop (k + 1)) = D at *
  generalize s.getD k 0 = b at *
  have e1 : P * (b * D) - 1 = (P - 1) + P * (b * D - 1) := by rw [Int.mul_sub, Int.mul_one]; omega
  rw [e1, Int.add_mul_ediv_left _ _ (by omega), Int.ediv_eq_zero_of_lt (by omega) (by omega), Int.zero_add]
  have e2 : b * D - 1 = (b - 1) + b * (D - 1) := by rw [Int.mul_sub, Int.mul_one]; omega
  rw [e2, Int.add_mul_emod_self_left, Int.emod_eq_of_lt (by omega) (by omega)]
theorem dAt_zero {s : List Int} {k : Nat} : dAt s 0 k = 0 := by unfold dAt; rw [Int.zero_ediv, Int.zero_emod]
/-- What the law asks of the counts. -/
structure CinL (s : List Int) (p : VPh) (v : Int) : Prop where
  all : (cinV s p 0 (size s - 1)).1 = choV p.l s.length
  all2 : (cinV s p 0 (size s - 1)).2 = 0
  lo : (cinV s p 0 v).2 = 0
  hi : (cinV s p v (size s - 1)).2 = 0
  sum : (cinV s p 0 v).1 + (cinV s p v (size s - 1)).1 = choV p.l s.length + 1
  bd1 : 0 ≤ (cinV s p 0 v).1 ∧ (cinV s p 0 v).1 ≤ 1000000000000000
  bd2 : -1000000000000000 ≤ (cinV s p v (size s - 1)).1 ∧ (cinV s p v (size s - 1)).1 ≤ 1000000000000000
theorem cinl {s : List Int} {p : VPh} {v : Int} (hp : OkPh p) (hv : validPh s p = true) (h0 : 0 ≤ v ∧ v < size s) (hsh : showsM s p.l (digs s v) = true) : CinL s p v := by
  obtain ⟨_, hS, hP⟩ := vph hp hv
  have hz := hS.size_
  have h8 := hS.len8
  have ht := bel_top hS hP (d := digs s (size s - 1)) (fun j hj => by rw [digs_lo h8 hj, hz]; exact dAt_top hS.bases hj) s.length 0 (Nat.le_refl _)
  have hb0 := bel_zero (l := p.l) (d := digs s 0) s.length 0 (fun j hj => by rw [digs_lo h8 hj, dAt_zero])
  have hcv := cho_le hP hS (i := s.length) (Nat.le_refl _)
  have hbv := bel_bd hP hS (digs_ok (v := v) hS) s.length 0 (Nat.le_refl _)
  have hbt := bel_bd hP hS (digs_ok (v := size s - 1) hS) s.length 0 (Nat.le_refl _)
  have e : showsM s p.l (digs s (size s - 1)) = shownTo p.l (digs s (size s - 1)) s.length := rfl
  rw [← e] at ht
  have hv' : ¬ validPh s p = false := by rw [hv]; decide
  have A : cinV s p 0 (size s - 1) = (choV p.l s.length, 0) := by
    unfold cinV
    rw [if_neg hv', if_neg (fun h9 => h9 ⟨by omega, by omega⟩), if_neg (by omega), hb0]
    have : belV p.l (digs s (size s - 1)) s.length 0 - 0 + (if showsM s p.l (digs s (size s - 1)) = true then 1 else 0) = choV p.l s.length := by omega
    rw [this]
  have B : cinV s p 0 v = (belV p.l (digs s v) s.length 0 + 1, 0) := by
    unfold cinV
    rw [if_neg hv', if_neg (fun h9 => h9 ⟨by omega, by omega⟩), if_neg (by omega), hb0, if_pos hsh, Int.sub_zero]
  have D : cinV s p v (size s - 1) = (choV p.l s.length - belV p.l (digs s v) s.length 0, 0) := by
    unfold cinV
    rw [if_neg hv', if_neg (fun h9 => h9 ⟨by omega, by omega⟩), if_neg (by omega)]
    have : belV p.l (digs s (size s - 1)) s.length 0 - belV p.l (digs s v) s.length 0 + (if showsM s p.l (digs s (size s - 1)) = true then 1 else 0) = choV p.l s.length - belV p.l (digs s v) s.length 0 := by omega
    rw [this]
  refine ⟨by rw [A], by rw [A], by rw [B], by rw [D], ?_, ?_, ?_⟩
  · rw [B, D]; show belV p.l (digs s v) s.length 0 + 1 + (choV p.l s.length - belV p.l (digs s v) s.length 0) = _; omega
  · rw [B]; show 0 ≤ belV p.l (digs s v) s.length 0 + 1 ∧ belV p.l (digs s v) s.length 0 + 1 ≤ _; omega
  · rw [D]; show -1000000000000000 ≤ choV p.l s.length - belV p.l (digs s v) s.length 0 ∧ choV p.l s.length - belV p.l (digs s v) s.length 0 ≤ _; omega
/-! the least one, the next ones -/
theorem tail_at0 (d : List Int) (j : Nat) : d.tail.getD j 0 = d.getD (j + 1) 0 := by cases d <;> rfl
theorem fst_R : ∀ {s : List Int} {l : List VMk} {d : List Int}, (∀ j, j < s.length → ∃ e, e < 128 ∧ hasM (l.getD j zMk) e = true) → (∀ j, j < s.length → d.getD j 0 = fromM (l.getD j zMk) 0) → ∃ r, valR s l = val s d :: r
  | [], l, d, _, _ => ⟨[], rfl⟩
  | b :: s, l, d, h, hd => by
    obtain ⟨r, hr⟩ := fst_R (s := s) (l := l.drop 1) (d := d.tail) (fun j hj => by rw [drop_at, Nat.add_comm]; exact h (j + 1) (by simp; omega)) (fun j hj => by rw [drop_at, Nat.add_comm, tail_at0]; exact hd (j + 1) (by simp; omega))
    obtain ⟨h1, h2⟩ := dig_fst (h 0 (by simp))
    cases hg : digI (l.getD 0 zMk) with
    | nil => rw [hg] at h1; simp at h1
    | cons f fs =>
      rw [hg] at h2
      have h3 : d.headD 0 = f := by
        have h4 := hd 0 (by simp)
        have h5 : d.getD 0 0 = d.headD 0 := by cases d <;> rfl
        rw [← h5, h4, ← h2]; rfl
      refine ⟨fs.map (fun n => val s d.tail * b + n) ++ r.flatMap (oneL b (f :: fs)), ?_⟩
      rw [valR, hr, hg]
      unfold stepV
      rw [List.flatMap_cons]
      have h6 : val (b :: s) d = val s d.tail * b + f := by show d.headD 0 + b * val s d.tail = _; rw [h3, Int.mul_comm, Int.add_comm]
      rw [h6]; rfl
theorem least_fst {s : List Int} {p : VPh} {d : List Int} (hs : Stk s) (hP : PhOk s p.l) : val s (leastD p.l d s.length) = (valsP s p).getD 0 0 := by
  have h8 := hs.len8
  obtain ⟨r, hr⟩ := fst_R (s := s) (l := p.l) (d := leastD p.l d s.length) hP.some_ (fun j hj => by rw [leastD_at (by omega), if_pos hj])
  rw [vals_R, hr]; rfl
/-- What the law asks of the values in a photo. -/
structure ValL (s : List Int) (p : VPh) : Prop where
  pos : 0 < (valsP s p).length
  bd : ∀ i, i < (valsP s p).length → 0 ≤ (valsP s p).getD i 0 ∧ (valsP s p).getD i 0 < size s
  nxt : ∀ i, i + 1 < (valsP s p).length → (ninV s p ((valsP s p).getD i 0 + 1)).1 = (valsP s p).getD (i + 1) 0 ∧ (ninV s p ((valsP s p).getD i 0 + 1)).2 = 0
  lst : ∀ i, i + 1 = (valsP s p).length → (valsP s p).getD i 0 ≠ size s - 1 → (ninV s p ((valsP s p).getD i 0 + 1)).2 = 6
theorem vall {s : List Int} {p : VPh} (hp : OkPh p) (hv : validPh s p = true) : ValL s p := by
  obtain ⟨_, hS, hP⟩ := vph hp hv
  have hz := hS.size_
  have hbd : ∀ i, i < (valsP s p).length → (0 ≤ (valsP s p).getD i 0 ∧ (valsP s p).getD i 0 < prod s) ∧ showsM s p.l (digs s ((valsP s p).getD i 0)) = true := fun i hi => (vals_iff hS hP).1 (getD_mem 0 hi)
  have hup := vals_up (s := s) (p := p) hP
  refine ⟨cho_pos hS hP, fun i hi => by have := (hbd i hi).1; omega, fun i hi => ?_, fun i hi hne => ?_⟩
  · have h1 := hbd i (by omega)
    have h2 := hbd (i + 1) hi
    have h3 := up_lt hup (i := i) (j := i + 1) (by omega) hi
    have hN := next_ok (l := p.l) hS hP (u := (valsP s p).getD i 0 + 1) ⟨by omega, by omega⟩
    cases hb : (nextV s p.l (digs s ((valsP s p).getD i 0 + 1))).2 with
    | false => exact absurd (by omega) (hN.no hb _ h2.1 h2.2)
    | true =>
      obtain ⟨y1, y2, y3, y4⟩ := hN.yes hb
      have e := ni_y (s := s) (p := p) (v := (valsP s p).getD i 0 + 1) hv ⟨by omega, by omega⟩ (by rw [dig_l (digs_len _ _)]; exact hb)
      rw [dig_l (digs_len _ _)] at e
      rw [e]
      refine ⟨?_, rfl⟩
      show (nextV s p.l (digs s ((valsP s p).getD i 0 + 1))).1 = _
      obtain ⟨k, hk, hke⟩ := memA ((vals_iff hS hP).2 ⟨y1, y2⟩)
      have h5 := y4 _ h2.1 h2.2 (by omega)
      have h6 : i < k := by
        rcases Nat.lt_or_ge i k with h7 | h7
        · exact h7
        · rcases Nat.eq_or_lt_of_le h7 with h8 | h8
          · subst h8; omega
          · have := up_lt hup h8 (by omega); omega
      rcases Nat.eq_or_lt_of_le h6 with h7 | h7
      · have e9 : i + 1 = k := h7
        rw [← hke, ← e9]
      · have := up_lt hup (i := i + 1) (j := k) h7 hk; omega
  · have h1 := hbd i (by omega)
    have hN := next_ok (l := p.l) hS hP (u := (valsP s p).getD i 0 + 1) ⟨by omega, by omega⟩
    cases hb : (nextV s p.l (digs s ((valsP s p).getD i 0 + 1))).2 with
    | false =>
      have e := ni_n (s := s) (p := p) (v := (valsP s p).getD i 0 + 1) hv ⟨by omega, by omega⟩ (by rw [dig_l (digs_len _ _)]; exact hb)
      rw [e]
    | true =>
      obtain ⟨y1, y2, y3, _⟩ := hN.yes hb
      obtain ⟨k, hk, hke⟩ := memA ((vals_iff hS hP).2 ⟨y1, y2⟩)
      exfalso
      rcases Nat.eq_or_lt_of_le (show k ≤ i by omega) with h8 | h8
      · subst h8; omega
      · have := up_lt hup h8 (by omega); omega
end Go.W

/- Photos that meet and join; photos of digits, blank ones; a photo back from its text. -/
set_option linter.unusedVariables false
set_option linter.unusedSimpArgs false
namespace Go.W
open Go Go.Sx
theorem or_nat {a b : Nat} (ha : a < 2 ^ 64) (hb : b < 2 ^ 64) : bits .or .u64 (a : Int) (b : Int) = ((a ||| b : Nat) : Int) := (bits_nat .u64 64 (Nat.le_refl _) wrap_u64n a b ha hb).2
def R64 (x : Int) : Prop := 0 ≤ x ∧ x < 18446744073709551616
theorem bit_and {x y : Int} (hx : R64 x) (hy : R64 y) : R64 (bits .and .u64 x y) ∧ ∀ i, bitB (bits .and .u64 x y) i = (bitB x i && bitB y i) := by
  obtain ⟨a, rfl⟩ := Int.eq_ofNat_of_zero_le hx.1
  obtain ⟨b, rfl⟩ := Int.eq_ofNat_of_zero_le hy.1
  have ha := hx.2
  have hb := hy.2
  rw [and_nat (by omega) (by omega)]
  have hl : a &&& b < 2 ^ 64 := Nat.and_lt_two_pow _ (by omega)
  refine ⟨⟨by omega, by omega⟩, fun i => ?_⟩
  unfold bitB
  rw [Int.toNat_natCast, Int.toNat_natCast, Int.toNat_natCast, Nat.testBit_and]
theorem bit_or {x y : Int} (hx : R64 x) (hy : R64 y) : R64 (bits .or .u64 x y) ∧ ∀ i, bitB (bits .or .u64 x y) i = (bitB x i || bitB y i) := by
  obtain ⟨a, rfl⟩ := Int.eq_ofNat_of_zero_le hx.1
  obtain ⟨b, rfl⟩ := Int.eq_ofNat_of_zero_le hy.1
  have ha := hx.2
  have hb := hy.2
  rw [or_nat (by omega) (by omega)]
  have hl : a ||| b < 2 ^ 64 := Nat.or_lt_two_pow (by omega) (by omega)
  refine ⟨⟨by omega, by omega⟩, fun i => ?_⟩
  unfold bitB
  rw [Int.toNat_natCast, Int.toNat_natCast, Int.toNat_natCast, Nat.testBit_or]
def mtM (a b : VMk) : VMk := ⟨bits .and .u64 a.lo b.lo, bits .and .u64 a.hi b.hi⟩
def jnM (a b : VMk) : VMk := ⟨bits .or .u64 a.lo b.lo, bits .or .u64 a.hi b.hi⟩
/-- A way to make marks of two, bit by bit. -/
structure MixOk (f : VMk → VMk → VMk) (g : Bool → Bool → Bool) : Prop where
  ok : ∀ {a b}, OkMk a → OkMk b → OkMk (f a b)
  has : ∀ {a b d}, OkMk a → OkMk b → d < 128 → hasM (f a b) d = g (hasM a d) (hasM b d)
  zero : f zMk zMk = zMk
theorem and_ok : MixOk mtM Bool.and := by
  refine ⟨fun {a b} ha hb => ⟨(bit_and ha.1 hb.1).1, (bit_and ha.2 hb.2).1⟩, fun {a b d} ha hb hd => ?_, rfl⟩
  rcases lo_or_hi hd with h | ⟨e, h, rfl⟩
  · rw [hasM_lo h, hasM_lo h, hasM_lo h]; exact (bit_and ha.1 hb.1).2 d
  · rw [hasM_hi h, hasM_hi h, hasM_hi h]; exact (bit_and ha.2 hb.2).2 e
theorem or_ok : MixOk jnM Bool.or := by
  refine ⟨fun {a b} ha hb => ⟨(bit_or ha.1 hb.1).1, (bit_or ha.2 hb.2).1⟩, fun {a b d} ha hb hd => ?_, rfl⟩
  rcases lo_or_hi hd with h | ⟨e, h, rfl⟩
  · rw [hasM_lo h, hasM_lo h, hasM_lo h]; exact (bit_or ha.1 hb.1).2 d
  · rw [hasM_hi h, hasM_hi h, hasM_hi h]; exact (bit_or ha.2 hb.2).2 e
def mixL (f : VMk → VMk → VMk) (l m : List VMk) (k : Nat) : List VMk := (List.range 8).map fun i => if i < k then f (l.getD i zMk) (m.getD i zMk) else l.getD i zMk
theorem mixL_len (f : VMk → VMk → VMk) (l m : List VMk) (k : Nat) : (mixL f l m k).length = 8 := by simp [mixL]
theorem mixL_at {f : VMk → VMk → VMk} {l m : List VMk} {k i : Nat} (h : i < 8) : (mixL f l m k).getD i zMk = if i < k then f (l.getD i zMk) (m.getD i zMk) else l.getD i zMk := by simp [mixL, List.getD, h]
theorem ext8 {l m : List VMk} (h1 : l.length = 8) (h2 : m.length = 8) (h : ∀ i, i < 8 → l.getD i zMk = m.getD i zMk) : l = m := by
  refine List.ext_getElem (by rw [h1, h2]) fun j a b => ?_
  have := h j (by omega)
  simpa [List.getD, a, b] using this
theorem mixL_s {f : VMk → VMk → VMk} {l m : List VMk} {k : Nat} (h : k < 8) : (mixL f l m k).set k (f (l.getD k zMk) (m.getD k zMk)) = mixL f l m (k + 1) := by
  refine ext8 (by rw [List.length_set, mixL_len]) (mixL_len ..) fun i hi => ?_
  rw [set_getM (by rw [mixL_len]; exact h), mixL_at hi, mixL_at hi]
  split
  · next e => subst e; rw [if_pos (by omega)]
  · split
    · rw [if_pos (by omega)]
    · rw [if_neg (by omega)]
theorem mixL_put {f : VMk → VMk → VMk} {l m : List VMk} {k q : Nat} {v : List Value} (h : k < 8) (hq : q = k * 2) (hv : v = encMk (f (l.getD k zMk) (m.getD k zMk))) : put ((mixL f l m k).flatMap encMk) q v = (mixL f l m (k + 1)).flatMap encMk := by
  rw [bl_put (by rw [mixL_len]; exact h) hq hv, mixL_s h]
def mixP (f : VMk → VMk → VMk) (p q : VPh) : VPh := phot (mixL f p.l q.l 8)
theorem mixP_at {f : VMk → VMk → VMk} {p q : VPh} {i : Nat} (h : i < 8) : (mixP f p q).l.getD i zMk = f (p.l.getD i zMk) (q.l.getD i zMk) := by
  unfold mixP; rw [phot_l (mixL_len ..), mixL_at h, if_pos h]
theorem mix_same {s : List Int} {f : VMk → VMk → VMk} {g : Bool → Bool → Bool} {p q : VPh} (hf : MixOk f g) (h8 : s.length ≤ 8) (hP : PhOk s p.l) (hQ : PhOk s q.l) : phot (mixL f p.l q.l s.length) = mixP f p q := by
  unfold mixP
  congr 1
  refine ext8 (mixL_len ..) (mixL_len ..) fun i hi => ?_
  rw [mixL_at hi, mixL_at hi, if_pos hi]
  split
  · rfl
  · rw [hP.hi i (by omega) hi, hQ.hi i (by omega) hi, hf.zero]
theorem mixP_ok {f : VMk → VMk → VMk} {g : Bool → Bool → Bool} {p q : VPh} (hf : MixOk f g) (hp : OkPh p) (hq : OkPh q) : OkPh (mixP f p q) := fun i hi => by rw [mixP_at hi]; exact hf.ok (hp i hi) (hq i hi)
theorem mixP_okn {f : VMk → VMk → VMk} {g : Bool → Bool → Bool} {p q : VPh} (hf : MixOk f g) (hp : OkPh p) (hq : OkPh q) (k : Nat) : OkPh (phot (mixL f p.l q.l k)) := fun i hi => by
  rw [phot_l (mixL_len ..), mixL_at hi]
  split
  · exact hf.ok (hp i hi) (hq i hi)
  · exact hp i hi
/-- A photo is valid where it has some mark in each wheel, and none but those of the wheel. -/
theorem ph_valid {s : List Int} {p : VPh} (hs : Stk s) (hp : OkPh p) (h : PhOk s p.l) : photoOk s p.l = true := by
  have h8 := hs.len8
  refine (po_all (k := 8) (by omega) fun i hi => ?_).symm
  rcases Nat.lt_or_ge i s.length with h1 | h1
  · obtain ⟨d, hd, hh⟩ := h.some_ i h1
    have hb := hs.bases i h1
    refine pa_4s h1 (decide_eq_false fun e => ?_) (has_subT (hp i hi) (fullM_ok (by omega)) fun d hd hh => ?_)
    · have : p.l.getD i zMk = zMk := mk_inj e
      rw [this, has_z] at hh; cases hh
    · rw [has_full (by omega) hd]; exact decide_eq_true (by have := h.lt i h1 d hd hh; omega)
  · refine pa_6 (by omega) ?_
    rw [h.hi i h1 hi]; rfl
theorem meet_ph {s : List Int} {p q : VPh} {v : Int} (hs : Stk s) (hp : OkPh p) (hq : OkPh q) (hP : PhOk s p.l) (hQ : PhOk s q.l) (h1 : showsM s p.l (digs s v) = true) (h2 : showsM s q.l (digs s v) = true) : PhOk s (mixP mtM p q).l := by
  have h8 := hs.len8
  refine ⟨fun i hi => ?_, fun i hi d hd hh => ?_, fun i hi hi8 => ?_⟩
  · have a := (shows_iff h8).1 h1 i hi
    have b := (shows_iff h8).1 h2 i hi
    have hb := dAt_bd (v := v) hs.bases hi
    have hb3 := hs.bases i hi
    refine ⟨(dAt s v i).toNat, by omega, ?_⟩
    rw [mixP_at (by omega), and_ok.has (hp i (by omega)) (hq i (by omega)) (by omega), a, b]; rfl
  · rw [mixP_at (by omega), and_ok.has (hp i (by omega)) (hq i (by omega)) hd] at hh
    have hh : (hasM (p.l.getD i zMk) d && hasM (q.l.getD i zMk) d) = true := hh
    rw [Bool.and_eq_true] at hh
    exact hP.lt i hi d hd hh.1
  · rw [mixP_at hi8, hP.hi i hi hi8, hQ.hi i hi hi8]; rfl
/-! a photo's digit -/
/-! photos of digits, blank photos, one digit more -/
def ofP (s a : List Int) : VPh := phot (putW s a zPh.l s.length)
theorem ofP_at {s a : List Int} {i : Nat} (hi : i < 8) : (ofP s a).l.getD i zMk = if i < s.length then putM zMk (a.getD i 0).toNat else zMk := by
  unfold ofP
  rw [phot_l (by rw [putW_len]; rfl)]
  rcases Nat.lt_or_ge i s.length with h | h
  · rw [if_pos h]
    rcases Nat.le_total s.length 8 with h9 | h9
    · rw [putW_get (l := zPh.l) s.length h9, if_pos h, zPh_get]
    · have e : ∀ w, 8 ≤ w → putW s a zPh.l w = putW s a zPh.l 8 := by
        intro w hw
        induction w with
        | zero => omega
        | succ w ih =>
          rcases Nat.eq_or_lt_of_le hw with h1 | h1
          · rw [← h1]
          · rw [putW, putD, ih (by omega)]
            refine List.set_eq_of_length_le ?_
            rw [putW_len]; show 8 ≤ w; omega
      rw [e _ h9, putW_get (l := zPh.l) 8 (Nat.le_refl 8), if_pos hi, zPh_get]
  · rw [if_neg (by omega)]
    rw [putW_get (l := zPh.l) s.length (by show s.length ≤ 8; omega), if_neg (by omega), zPh_get]
theorem ofP_ok {s a : List Int} (hs : Stk s) (ha : DigOk s a) : OkPh (ofP s a) := fun i hi => by
  rw [ofP_at hi]
  split
  · next h => have := ha i h; have := hs.bases i h; exact putM_ok okZ (by omega)
  · exact okZ
theorem ofP_has {s a : List Int} {i d : Nat} (hs : Stk s) (ha : DigOk s a) (hi : i < s.length) (hd : d < 128) : hasM ((ofP s a).l.getD i zMk) d = decide ((a.getD i 0).toNat = d) := by
  have := hs.len8
  have h1 := ha i hi
  have h2 := hs.bases i hi
  rw [ofP_at (by omega), if_pos hi, has_put (by omega) hd, has_z, Bool.or_false]
theorem ofP_ph {s a : List Int} (hs : Stk s) (ha : DigOk s a) : PhOk s (ofP s a).l := by
  have h8 := hs.len8
  refine ⟨fun i hi => ?_, fun i hi d hd hh => ?_, fun i hi hi8 => by rw [ofP_at hi8, if_neg (by omega)]⟩
  · have h1 := ha i hi; have h2 := hs.bases i hi
    exact ⟨(a.getD i 0).toNat, by omega, by rw [ofP_has hs ha hi (by omega)]; exact decide_eq_true rfl⟩
  · rw [ofP_has hs ha hi hd, decide_eq_true_iff] at hh
    have h1 := ha i hi; omega
def blankL (s : List Int) (k : Nat) : List VMk := (List.range 8).map fun i => if i < k then fullM (s.getD i 0).toNat else zMk
theorem blankL_len (s : List Int) (k : Nat) : (blankL s k).length = 8 := by simp [blankL]
theorem blankL_at {s : List Int} {k i : Nat} (h : i < 8) : (blankL s k).getD i zMk = if i < k then fullM (s.getD i 0).toNat else zMk := by simp [blankL, List.getD, h]
theorem blankL_put {s : List Int} {k q : Nat} {v : List Value} (h : k < 8) (hq : q = k * 2) (hv : v = encMk (fullM (s.getD k 0).toNat)) : put ((blankL s k).flatMap encMk) q v = (blankL s (k + 1)).flatMap encMk := by
  rw [bl_put (by rw [blankL_len]; exact h) hq hv]
  congr 1
  refine ext8 (by rw [List.length_set, blankL_len]) (blankL_len ..) fun i hi => ?_
  rw [set_getM (by rw [blankL_len]; exact h), blankL_at hi, blankL_at hi]
  split
  · next e => subst e; rw [if_pos (by omega)]
  · split
    · rw [if_pos (by omega)]
    · rw [if_neg (by omega)]
def blankP (s : List Int) : VPh := phot (blankL s s.length)
theorem blankP_at {s : List Int} {i : Nat} (h : i < 8) : (blankP s).l.getD i zMk = if i < s.length then fullM (s.getD i 0).toNat else zMk := by
  unfold blankP; rw [phot_l (blankL_len ..), blankL_at h]
theorem blankP_ok {s : List Int} (hs : Stk s) : OkPh (blankP s) := fun i hi => by
  rw [blankP_at hi]
  split
  · next h => have := hs.bases i h; exact fullM_ok (by omega)
  · exact okZ
theorem blankP_has {s : List Int} {i d : Nat} (hs : Stk s) (hi : i < s.length) (hd : d < 128) : hasM ((blankP s).l.getD i zMk) d = decide (d < (s.getD i 0).toNat) := by
  have := hs.len8
  have h2 := hs.bases i hi
  rw [blankP_at (by omega), if_pos hi, has_full (by omega) hd]
theorem blankP_ph {s : List Int} (hs : Stk s) : PhOk s (blankP s).l := by
  have h8 := hs.len8
  refine ⟨fun i hi => ?_, fun i hi d hd hh => ?_, fun i hi hi8 => by rw [blankP_at hi8, if_neg (by omega)]⟩
  · have h2 := hs.bases i hi
    exact ⟨0, by decide, by rw [blankP_has hs hi (by decide)]; exact decide_eq_true (by omega)⟩
  · rw [blankP_has hs hi hd, decide_eq_true_iff] at hh; omega
theorem ph_ext {p q : VPh} (hp : OkPh p) (hq : OkPh q) (h : ∀ i, i < 8 → ∀ d, d < 128 → hasM (p.l.getD i zMk) d = hasM (q.l.getD i zMk) d) : p = q :=
  ph_inj (ext8 (ph_len p) (ph_len q) fun i hi => has_ext (hp i hi) (hq i hi) (h i hi))
theorem own_meets {s a : List Int} {p : VPh} (hs : Stk s) (ha : DigOk s a) (hp : OkPh p) (hP : PhOk s p.l) (h : ∀ i, i < s.length → hasM (p.l.getD i zMk) (a.getD i 0).toNat = true) : mixP mtM (ofP s a) p = ofP s a := by
  refine ph_ext (mixP_ok and_ok (ofP_ok hs ha) hp) (ofP_ok hs ha) fun i hi d hd => ?_
  rw [mixP_at hi, and_ok.has (ofP_ok hs ha i hi) (hp i hi) hd]
  rcases Nat.lt_or_ge i s.length with h1 | h1
  · rw [ofP_has hs ha h1 hd]
    by_cases e : (a.getD i 0).toNat = d
    · rw [decide_eq_true e, ← e, h i h1]; rfl
    · rw [decide_eq_false e]; rfl
  · rw [ofP_at hi, if_neg (by omega), has_z]; rfl
theorem blank_joins {s : List Int} {p : VPh} (hs : Stk s) (hp : OkPh p) (hP : PhOk s p.l) : mixP jnM (blankP s) p = blankP s := by
  refine ph_ext (mixP_ok or_ok (blankP_ok hs) hp) (blankP_ok hs) fun i hi d hd => ?_
  rw [mixP_at hi, or_ok.has (blankP_ok hs i hi) (hp i hi) hd]
  rcases Nat.lt_or_ge i s.length with h1 | h1
  · rw [blankP_has hs h1 hd]
    cases hh : hasM (p.l.getD i zMk) d with
    | false => exact Bool.or_false _
    | true => have := hP.lt i h1 d hd hh; rw [decide_eq_true (by omega)]; rfl
  · rw [blankP_at hi, if_neg (by omega), hP.hi i h1 hi, has_z]; rfl
def withP (p : VPh) (w d : Nat) : VPh := phot (p.l.set w (putM (p.l.getD w zMk) d))
theorem withP_at {p : VPh} {w d i : Nat} (hw : w < 8) : (withP p w d).l.getD i zMk = if w = i then putM (p.l.getD w zMk) d else p.l.getD i zMk := by
  unfold withP; rw [phot_l (by rw [List.length_set]; rfl), set_getM (by rw [ph_len]; exact hw)]
theorem withP_ok {p : VPh} {w d : Nat} (hp : OkPh p) (hw : w < 8) (hd : d < 128) : OkPh (withP p w d) := fun i hi => by
  rw [withP_at hw]
  split
  · exact putM_ok (hp w hw) hd
  · exact hp i hi
theorem withP_ph {s : List Int} {p : VPh} {w d : Nat} (hs : Stk s) (hP : PhOk s p.l) (hw : w < s.length) (hd : (d : Int) < s.getD w 0) : PhOk s (withP p w d).l := by
  have h8 := hs.len8
  have hb := hs.bases w hw
  refine ⟨fun i hi => ?_, fun i hi e he hh => ?_, fun i hi hi8 => by rw [withP_at (by omega), if_neg (by omega)]; exact hP.hi i hi hi8⟩
  · obtain ⟨e, he, hh⟩ := hP.some_ i hi
    refine ⟨e, he, ?_⟩
    rw [withP_at (by omega)]
    split
    · next h => subst h; rw [has_put (by omega) he, hh, Bool.or_true]
    · exact hh
  · rw [withP_at (by omega)] at hh
    split at hh
    · next h =>
      subst h
      rw [has_put (by omega) he, Bool.or_eq_true, decide_eq_true_iff] at hh
      rcases hh with h1 | h1
      · omega
      · exact hP.lt w hi e he h1
    · exact hP.lt i hi e he hh
/-! a photo back from its text -/
theorem rdPh_back {s : List Int} {p : VPh} {x : VPh × Int} (hp : OkPh p) (hv : validPh s p = true) (hx : RdPh s (phTx s p) x) : x.1 = p ∧ x.2 = 0 := by
  obtain ⟨hvs, _, _⟩ := vph hp hv
  rw [phTx_t hv] at hx
  obtain ⟨ho, h | ⟨_, h⟩⟩ := hx
  · rw [h.1] at hvs; cases hvs
  · rcases h with ⟨h1, h2, h3⟩ | ⟨h1, h2, h3⟩
    · exact ⟨ph_one ho hp h2 hv h3, h1⟩
    · exact absurd rfl (h3 p hp hv)
theorem valid_of {s : List Int} {p : VPh} (h : validStack s = true) (hp : OkPh p) (hP : PhOk s p.l) : validPh s p = true := by
  unfold validPh; rw [h, ph_valid (Go.W.stk h) hp hP]; rfl
theorem zDig_at0 (i : Nat) : zDig.l.getD i 0 = 0 := by
  match i with
  | 0 | 1 | 2 | 3 | 4 | 5 | 6 | 7 => rfl
  | n + 8 => rfl
theorem dig_fine {s l : List Int} (h8 : s.length ≤ 8) (hb : Bases s) (hl : l.length = 8) (hd : DigOk s l) (hz : ∀ j, s.length ≤ j → j < 8 → l.getD j 0 = 0) : validDig s l = true ∧ Nums 255 l := by
  constructor
  · unfold validDig
    rw [List.all_eq_true]
    intro j hj
    unfold goodAt
    split
    · next h1 => rw [decide_eq_true_iff]; exact (hd j h1).2
    · next h1 => rw [decide_eq_true_iff]; exact hz j (by omega) (by simpa using hj)
  · intro x hx
    obtain ⟨j, hj, rfl⟩ := List.getElem_of_mem hx
    have e : l[j] = l.getD j 0 := by simp [List.getD, hj]
    rw [hl] at hj
    rcases Nat.lt_or_ge j s.length with h1 | h1
    · have h2 := hd j h1
      have h3 := hb j h1
      rw [e]; omega
    · rw [e, hz j h1 hj]; decide
/-! the values of a photo, one behind the other -/
def atL (s : List Int) (p : VPh) (L : List Int) : Nat → Int × Int
  | 0 => ((valsP s p).getD 0 0, 0)
  | k + 1 => ninV s p (L.getD k 0 + 1)
theorem vin_eq {s : List Int} {p : VPh} (hv : validPh s p = true) {k : Nat} (hk : k < (vinV s p).1.length) : (vinV s p).1 = valsP s p := by
  by_cases h : 400 < choV p.l s.length
  · rw [vi_3 hv h] at hk; simp at hk
  · rw [vi_0 hv h]
theorem vin_code {s : List Int} {p : VPh} (hv : validPh s p = true) : decide ((vinV s p).2 = 0) = decide (choV p.l s.length ≤ 400) := by
  by_cases h : 400 < choV p.l s.length
  · rw [vi_3 hv h]; exact decide_eq_decide.2 ⟨fun e => (by cases e), fun e => by omega⟩
  · rw [vi_0 hv h]; exact decide_eq_decide.2 ⟨fun _ => by omega, fun _ => rfl⟩
structure AtL (s : List Int) (p : VPh) (k : Nat) : Prop where
  at_ : (atL s p (vinV s p).1 k).1 = (vinV s p).1.getD k 0
  code : (atL s p (vinV s p).1 k).2 = 0
  bd : 0 ≤ (vinV s p).1.getD k 0 ∧ (vinV s p).1.getD k 0 < size s
  flag : ¬ (vinV s p).1.getD k 0 = size s - 1 → decide ((ninV s p ((vinV s p).1.getD k 0 + 1)).2 = 0) = decide ((k : Int) + 1 < ((vinV s p).1.length : Int))
theorem atl {s : List Int} {p : VPh} (hp : OkPh p) (hv : validPh s p = true) {k : Nat} (hk : k < (vinV s p).1.length) : AtL s p k := by
  have hL := vall hp hv
  have e := vin_eq hv hk
  rw [e] at hk
  refine ⟨?_, ?_, by rw [e]; exact hL.bd k hk, fun hne => ?_⟩
  · rw [e]
    cases k with
    | zero => rfl
    | succ k => exact (hL.nxt k hk).1
  · rw [e]
    cases k with
    | zero => rfl
    | succ k => exact (hL.nxt k hk).2
  · rw [e] at hne ⊢
    refine decide_eq_decide.2 ?_
    rcases Nat.lt_or_ge (k + 1) (valsP s p).length with h | h
    · rw [(hL.nxt k h).2]; exact ⟨fun _ => by omega, fun _ => rfl⟩
    · rw [hL.lst k (by omega) hne]
      exact ⟨fun h6 => (by cases h6), fun h6 => by omega⟩
end Go.W

/- What these functions of the program hand back, each proved by walking its operations. -/
set_option linter.unusedVariables false
set_option linter.unusedSimpArgs false
set_option maxRecDepth 4000
namespace Go.Proofs.YtdgfalhfmboalaaGreatDoor
open Go Go.Sx Go.RowKit Go.W Go.Proofs
attribute [local irreducible] Ex ExL ExD Op1 Free RetQ MutQ Reads CellO SegO LoadsAs
theorem e_73 : Enters Tryz.prog 73 := Enters.of Tryz.func73 rfl
theorem c_l00Min (a b : Int) : Ret Tryz.prog 73 [.int .i64 a, .int .i64 b] (fun w => True) (fun x : Unit => .int .i64 (min a b)) (fun x => []) (fun x => True) := by
  refine Ret.of e_73 Tryz.func73 rfl Tryz.ntmps73 rfl rfl (fun w hpre => ?_)
  refine Ex.regSeq (ExL.pures 1 rfl ?_)
  refine ExL.nil ?_
  refine Ex.seq ?_
  refine Ex.regSeq (ExL.pures 2 rfl ?_)
  refine ExL.lss rfl rfl rfl rfl rfl rfl (fun h1 => ?_) (fun h1 => ?_)
  · refine ExL.nil ?_
    refine Ex.cond_t rfl ?_
    refine Ex.regSeq (ExL.pures 2 rfl ?_)
    refine ExL.nil ?_
    refine Ex.ret ?_
    refine RetQ.mk () rfl (.tmp rfl .nil) (tI (by omega)) [] (rfl) rfl (trivial)
  · refine ExL.nil ?_
    refine Ex.cond_f rfl ?_
    refine Ex.skip ?_
    refine Ex.regSeq (ExL.pures 2 rfl ?_)
    refine ExL.nil ?_
    refine Ex.ret ?_
    refine RetQ.mk () rfl (.tmp rfl .nil) (tI (by omega)) [] (rfl) rfl (trivial)
theorem e_40 : Enters Tryz.prog 40 := Enters.of Tryz.func40 rfl
theorem c_l00In (a b c : Int) : Ret Tryz.prog 40 [.int .i64 a, .int .i64 b, .int .i64 c] (fun w => True) (fun x : Unit => .bool (decide (b ≤ a ∧ a ≤ c))) (fun x => []) (fun x => True) := by
  refine Ret.of e_40 Tryz.func40 rfl Tryz.ntmps40 rfl rfl (fun w hpre => ?_)
  refine Ex.regSeq (ExL.pures 1 rfl ?_)
  refine ExL.nil ?_
  refine Ex.regSeq (ExL.pures 2 rfl ?_)
  refine ExL.geq rfl rfl rfl rfl rfl rfl (fun h1 => ?_) (fun h1 => ?_)
  · refine ExL.pures 3 rfl ?_
    refine ExL.leq rfl rfl rfl rfl rfl rfl (fun h2 => ?_) (fun h2 => ?_)
    · refine ExL.pures 2 rfl ?_
      refine ExL.nil ?_
      refine Ex.ret ?_
      refine RetQ.mk () rfl (.tmp rfl .nil) (tB (by simp; omega)) [] (rfl) rfl (trivial)
    · refine ExL.pures 2 rfl ?_
      refine ExL.nil ?_
      refine Ex.ret ?_
      refine RetQ.mk () rfl (.tmp rfl .nil) (tB (by simp; omega)) [] (rfl) rfl (trivial)
  · refine ExL.pures 6 rfl ?_
    refine ExL.nil ?_
    refine Ex.ret ?_
    refine RetQ.mk () rfl (.tmp rfl .nil) (tB (by simp; omega)) [] (rfl) rfl (trivial)
theorem e_65 : Enters Tryz.prog 65 := Enters.of Tryz.func65 rfl
theorem c_within (a b c : Int) : Ret Tryz.prog 65 [.int .i64 a, .int .i64 b, .int .i64 c] (fun w => True) (fun x : Unit => .bool (decide (b ≤ a ∧ a ≤ c))) (fun x => []) (fun x => True) := by
  refine Ret.of e_65 Tryz.func65 rfl Tryz.ntmps65 rfl rfl (fun w hpre => ?_)
  refine Ex.regSeq (ExL.pures 1 rfl ?_)
  refine ExL.nil ?_
  refine Ex.regSeq (ExL.pures 2 rfl ?_)
  refine ExL.leq rfl rfl rfl rfl rfl rfl (fun h1 => ?_) (fun h1 => ?_)
  · refine ExL.pures 3 rfl ?_
    refine ExL.leq rfl rfl rfl rfl rfl rfl (fun h2 => ?_) (fun h2 => ?_)
    · refine ExL.pures 2 rfl ?_
      refine ExL.nil ?_
      refine Ex.ret ?_
      refine RetQ.mk () rfl (.tmp rfl .nil) (tB (by simp; omega)) [] (rfl) rfl (trivial)
    · refine ExL.pures 2 rfl ?_
      refine ExL.nil ?_
      refine Ex.ret ?_
      refine RetQ.mk () rfl (.tmp rfl .nil) (tB (by simp; omega)) [] (rfl) rfl (trivial)
  · refine ExL.pures 6 rfl ?_
    refine ExL.nil ?_
    refine Ex.ret ?_
    refine RetQ.mk () rfl (.tmp rfl .nil) (tB (by simp; omega)) [] (rfl) rfl (trivial)
theorem e_35 : Enters Tryz.prog 35 := Enters.of Tryz.func35 rfl
theorem c_l01Size (s : List Int) (hu : Nums 255 s) (As : Option Addr) (cs : Nat) (hl : s.length ≤ maxLen) : Ret Tryz.prog 35 [.slice As s.length cs] (fun w => Rd w As (s.flatMap (eI .u8))) (fun x : Unit => .int .i64 (size s)) (fun x => []) (fun x => True) := by
  refine Ret.of e_35 Tryz.func35 rfl Tryz.ntmps35 rfl rfl (fun w hpre => ?_)
  unfold maxLen at hl
  have hs := hpre.base
  refine Ex.regSeq (ExL.pures 1 rfl ?_)
  refine ExL.nil ?_
  refine Ex.regSeq (ExL.pures 1 rfl ?_)
  refine ExL.nil ?_
  refine Ex.seq ?_
  refine Ex.regSeq (ExL.pures 1 rfl ?_)
  refine ExL.nil ?_
  refine Ex.block ?_
  refine Ex.loopK (X := Nat) (fun k => [(3, .int .i64 (size (s.take k))), (4, .int .i64 k)]) (fun k => []) (fun k => k ≤ s.length) (fun k => s.length - k) 0 [(0, _), (2, _)] [] 0 [] ⟨rfl, rfl, trivial⟩ ⟨rfl, rfl, trivial⟩ (rfl) rfl (Nat.zero_le _) (fun k hI => ?_)
  have hI : k ≤ s.length := hI
  have hb := size_bd hu k
  have hm := size_mul hu k
  have hx := hu.at_ (by omega) k
  refine Ex.seq ?_
  refine Ex.regSeq (ExL.pures 3 rfl ?_)
  refine ExL.lss rfl rfl rfl rfl rfl rfl (fun h1 => ?_) (fun h1 => ?_)
  · refine ExL.nil ?_
    refine Ex.cond_t rfl ?_
    refine Ex.skip ?_
    refine Ex.seq ?_
    refine Ex.block ?_
    refine Ex.region (ExL.pures 3 rfl ?_)
    refine ExL.free (fr_indexAddrF (Reads.old hs) (eI_len .u8) rfl rfl rfl rfl rfl rfl (by omega)) rfl rfl rfl ?_
    refine ExL.free (fr_load rfl rfl rfl rfl (by first | exact cellN (Reads.old hs) (eI_len .u8) 0 0 rfl (by omega) rfl | exact cellF (Reads.old hs) (eI_len .u8) 0 0 rfl (by omega) rfl)) rfl rfl rfl ?_
    refine ExL.free (by first | exact fr_conv64 rfl rfl rfl rfl (by omega) | exact fr_conv rfl rfl rfl rfl) rfl rfl rfl ?_
    refine ExL.free (by first | exact fr_mul64 rfl rfl rfl (by omega) | exact fr_mul rfl rfl rfl) rfl rfl rfl ?_
    refine ExL.op rfl (op_ret rfl rfl rfl (c_l00Min _ _) (fun _ _ => trivial) rfl rfl (fun x2 hx2 => ?_))
    refine ExL.pures 1 rfl ?_
    refine ExL.nil ?_
    refine Ex.region (ExL.pures 1 rfl ?_)
    refine ExL.free (by first | exact fr_add64 rfl rfl rfl (by omega) | exact fr_add rfl rfl rfl) rfl rfl rfl ?_
    refine ExL.pures 1 rfl ?_
    refine ExL.nil ?_
    refine Hand.mk (k + 1) 0 [] ⟨agI (size_snoc s k (by omega)).symm, rfl, trivial⟩ ⟨rfl, rfl, trivial⟩ (rfl) rfl (by omega) (by omega)
  · refine ExL.nil ?_
    refine Ex.cond_f rfl ?_
    refine Ex.exit ?_
    refine Ex.regSeq (ExL.pures 2 rfl ?_)
    refine ExL.nil ?_
    refine Ex.ret ?_
    refine RetQ.mk () rfl (.tmp rfl .nil) (tI (by rw [List.take_of_length_le (by omega)])) [] (rfl) rfl (trivial)
theorem e_80 : Enters Tryz.prog 80 := Enters.of Tryz.func80 rfl
theorem c_size (s : List Int) (hu : Nums 255 s) (As : Option Addr) (cs : Nat) (hl : s.length ≤ maxLen) : Ret Tryz.prog 80 [.slice As s.length cs] (fun w => Rd w As (s.flatMap (eI .u8))) (fun x : Unit => .int .i64 (size s)) (fun x => []) (fun x => True) := by
  refine Ret.of e_80 Tryz.func80 rfl Tryz.ntmps80 rfl rfl (fun w hpre => ?_)
  unfold maxLen at hl
  have hs := hpre.base
  refine Ex.regSeq (ExL.pures 1 rfl ?_)
  refine ExL.nil ?_
  refine Ex.regSeq (ExL.pures 1 rfl ?_)
  refine ExL.nil ?_
  refine Ex.seq ?_
  refine Ex.regSeq (ExL.pures 3 rfl ?_)
  refine ExL.nil ?_
  refine Ex.block ?_
  refine Ex.loopK (X := Nat) (fun k => [(3, .int .i64 (size (s.take k))), (8, .int .i64 k)]) (fun k => []) (fun k => k ≤ s.length) (fun k => s.length - k) 0 [(2, _), (6, _), (7, _)] [] 0 [] ⟨rfl, rfl, trivial⟩ ⟨rfl, rfl, rfl, trivial⟩ (rfl) rfl (Nat.zero_le _) (fun k hI => ?_)
  have hI : k ≤ s.length := hI
  have hb := size_bd hu k
  have hm := size_mul hu k
  have hx := hu.at_ (by omega) k
  refine Ex.regSeq (ExL.pures 0 rfl ?_)
  refine ExL.lss rfl rfl rfl rfl rfl rfl (fun h1 => ?_) (fun h1 => ?_)
  · refine ExL.nil ?_
    refine Ex.seq ?_
    refine Ex.cond_t rfl ?_
    refine Ex.skip ?_
    refine Ex.seq ?_
    refine Ex.block ?_
    refine Ex.regSeq (ExL.pures 0 rfl ?_)
    refine ExL.free (fr_indexAddrF (Reads.old hs) (eI_len .u8) rfl rfl rfl rfl rfl rfl (by omega)) rfl rfl rfl ?_
    refine ExL.free (fr_load rfl rfl rfl rfl (by first | exact cellN (Reads.old hs) (eI_len .u8) 0 0 rfl (by omega) rfl | exact cellF (Reads.old hs) (eI_len .u8) 0 0 rfl (by omega) rfl)) rfl rfl rfl ?_
    refine ExL.pures 1 rfl ?_
    refine ExL.nil ?_
    refine Ex.region (ExL.pures 2 rfl ?_)
    refine ExL.free (by first | exact fr_conv64 rfl rfl rfl rfl (by omega) | exact fr_conv rfl rfl rfl rfl) rfl rfl rfl ?_
    refine ExL.free (by first | exact fr_mul64 rfl rfl rfl (by omega) | exact fr_mul rfl rfl rfl) rfl rfl rfl ?_
    refine ExL.free (fr_min rfl rfl rfl) rfl rfl rfl ?_
    refine ExL.pures 1 rfl ?_
    refine ExL.nil ?_
    refine Ex.region (ExL.pures 0 rfl ?_)
    refine ExL.free (by first | exact fr_add64 rfl rfl rfl (by omega) | exact fr_add rfl rfl rfl) rfl rfl rfl ?_
    refine ExL.pures 1 rfl ?_
    refine ExL.nil ?_
    refine Hand.mk (k + 1) 0 [] ⟨agI (size_snoc s k (by omega)).symm, rfl, trivial⟩ ⟨rfl, rfl, rfl, trivial⟩ (rfl) rfl (by omega) (by omega)
  · refine ExL.nil ?_
    refine Ex.seq ?_
    refine Ex.cond_f rfl ?_
    refine Ex.exit ?_
    refine Ex.regSeq (ExL.pures 2 rfl ?_)
    refine ExL.nil ?_
    refine Ex.ret ?_
    refine RetQ.mk () rfl (.tmp rfl .nil) (tI (by rw [List.take_of_length_le (by omega)])) [] (rfl) rfl (trivial)
theorem e_77 : Enters Tryz.prog 77 := Enters.of Tryz.func77 rfl
theorem c_wheels (s : List Int) (As : Option Addr) (cs : Nat) : Ret Tryz.prog 77 [.slice As s.length cs] (fun w => True) (fun x : Unit => .int .i64 s.length) (fun x => []) (fun x => True) := by
  refine Ret.of e_77 Tryz.func77 rfl Tryz.ntmps77 rfl rfl (fun w hpre => ?_)
  refine Ex.regSeq (ExL.pures 1 rfl ?_)
  refine ExL.nil ?_
  refine Ex.regSeq (ExL.pures 3 rfl ?_)
  refine ExL.nil ?_
  refine Ex.ret ?_
  refine RetQ.mk () rfl (.tmp rfl .nil) (rfl) [] (rfl) rfl (trivial)
theorem e_39 : Enters Tryz.prog 39 := Enters.of Tryz.func39 rfl
theorem c_l01Ok (s : List Int) (hu : Nums 255 s) (As : Option Addr) (cs : Nat) (hl : s.length ≤ maxLen) : Ret Tryz.prog 39 [.slice As s.length cs] (fun w => Rd w As (s.flatMap (eI .u8))) (fun x : Unit => .bool (validStack s)) (fun x => []) (fun x => True) := by
  refine Ret.of e_39 Tryz.func39 rfl Tryz.ntmps39 rfl rfl (fun w hpre => ?_)
  unfold maxLen at hl
  have hs := hpre.base
  refine Ex.regSeq (ExL.pures 1 rfl ?_)
  refine ExL.nil ?_
  refine Ex.seq ?_
  refine Ex.regSeq (ExL.pures 2 rfl ?_)
  refine ExL.op rfl (op_ret rfl rfl rfl (c_l00In _ _ _) (fun _ _ => trivial) rfl rfl (fun x1 hx1 => ?_))
  refine ExL.pures 1 rfl ?_
  refine ExL.nil ?_
  refine Ex.cond rfl (fun hb2 => ?_) (fun hb2 => ?_)
  · replace hb2 := nd_t hb2
    refine Ex.regSeq (ExL.pures 1 rfl ?_)
    refine ExL.nil ?_
    refine Ex.ret ?_
    refine RetQ.mk () rfl (.tmp rfl .nil) (tB (by first | exact vs_len (by assumption) | exact vs_base (k := k) (by omega) (by omega) | (have hkl : k = s.length := (by omega); subst hkl; first | exact vs_yes (by assumption) hall (by omega) | exact vs_size (by omega)))) [] (rfl) rfl (trivial)
  · replace hb2 := nd_f hb2
    refine Ex.skip ?_
    refine Ex.seq ?_
    refine Ex.regSeq (ExL.pures 1 rfl ?_)
    refine ExL.nil ?_
    refine Ex.block ?_
    refine Ex.loopK (X := Nat) (fun k => [(3, .int .i64 k)]) (fun k => []) (fun k => k ≤ s.length ∧ ∀ i, i < k → 2 ≤ s.getD i 0 ∧ s.getD i 0 ≤ 100) (fun k => s.length - k) 0 [(0, _)] [] 0 [] ⟨rfl, trivial⟩ ⟨rfl, trivial⟩ (rfl) rfl ⟨Nat.zero_le _, fun i hi => by omega⟩ (fun k hI => ?_)
    have hI : k ≤ s.length ∧ ∀ i, i < k → 2 ≤ s.getD i 0 ∧ s.getD i 0 ≤ 100 := hI
    obtain ⟨hk, hall⟩ := hI
    refine Ex.seq ?_
    refine Ex.regSeq (ExL.pures 3 rfl ?_)
    refine ExL.lss rfl rfl rfl rfl rfl rfl (fun h3 => ?_) (fun h3 => ?_)
    · refine ExL.nil ?_
      refine Ex.cond_t rfl ?_
      refine Ex.skip ?_
      refine Ex.seq ?_
      refine Ex.block ?_
      refine Ex.regSeq (ExL.pures 2 rfl ?_)
      refine ExL.free (fr_indexAddrF (Reads.old hs) (eI_len .u8) rfl rfl rfl rfl rfl rfl (by omega)) rfl rfl rfl ?_
      refine ExL.free (fr_load rfl rfl rfl rfl (by first | exact cellN (Reads.old hs) (eI_len .u8) 0 0 rfl (by omega) rfl | exact cellF (Reads.old hs) (eI_len .u8) 0 0 rfl (by omega) rfl)) rfl rfl rfl ?_
      refine ExL.lss rfl rfl rfl rfl rfl rfl (fun h4 => ?_) (fun h4 => ?_)
      · refine ExL.pures 7 rfl ?_
        refine ExL.nil ?_
        refine Ex.cond_t rfl ?_
        refine Ex.regSeq (ExL.pures 1 rfl ?_)
        refine ExL.nil ?_
        refine Ex.ret ?_
        refine RetQ.mk () rfl (.tmp rfl .nil) (tB (by first | exact vs_len (by assumption) | exact vs_base (k := k) (by omega) (by omega) | (have hkl : k = s.length := (by omega); subst hkl; first | exact vs_yes (by assumption) hall (by omega) | exact vs_size (by omega)))) [] (rfl) rfl (trivial)
      · refine ExL.pures 3 rfl ?_
        refine ExL.free (fr_indexAddrF (Reads.old hs) (eI_len .u8) rfl rfl rfl rfl rfl rfl (by omega)) rfl rfl rfl ?_
        refine ExL.free (fr_load rfl rfl rfl rfl (by first | exact cellN (Reads.old hs) (eI_len .u8) 0 0 rfl (by omega) rfl | exact cellF (Reads.old hs) (eI_len .u8) 0 0 rfl (by omega) rfl)) rfl rfl rfl ?_
        refine ExL.gtr rfl rfl rfl rfl rfl rfl (fun h5 => ?_) (fun h5 => ?_)
        · refine ExL.pures 1 rfl ?_
          refine ExL.nil ?_
          refine Ex.cond_t rfl ?_
          refine Ex.regSeq (ExL.pures 1 rfl ?_)
          refine ExL.nil ?_
          refine Ex.ret ?_
          refine RetQ.mk () rfl (.tmp rfl .nil) (tB (by first | exact vs_len (by assumption) | exact vs_base (k := k) (by omega) (by omega) | (have hkl : k = s.length := (by omega); subst hkl; first | exact vs_yes (by assumption) hall (by omega) | exact vs_size (by omega)))) [] (rfl) rfl (trivial)
        · refine ExL.pures 1 rfl ?_
          refine ExL.nil ?_
          refine Ex.cond_f rfl ?_
          refine Ex.skip ?_
          refine Ex.region (ExL.pures 1 rfl ?_)
          refine ExL.free (by first | exact fr_add64 rfl rfl rfl (by omega) | exact fr_add rfl rfl rfl) rfl rfl rfl ?_
          refine ExL.pures 1 rfl ?_
          refine ExL.nil ?_
          refine Hand.mk (k + 1) 0 [] ⟨rfl, trivial⟩ ⟨rfl, trivial⟩ (rfl) rfl (⟨by omega, all_snoc hall (by omega)⟩) (by omega)
    · refine ExL.nil ?_
      refine Ex.cond_f rfl ?_
      refine Ex.exit ?_
      refine Ex.regSeq (ExL.pures 1 rfl ?_)
      refine ExL.op rfl (op_ret rfl rfl rfl (c_l01Size _ (by assumption) _ _ (by first | assumption | omega | (unfold maxLen; omega))) (Reads.get (Reads.old hs)) rfl rfl (fun x6 hx6 => ?_))
      refine ExL.leq rfl rfl rfl rfl rfl rfl (fun h7 => ?_) (fun h7 => ?_)
      · refine ExL.pures 1 rfl ?_
        refine ExL.nil ?_
        refine Ex.ret ?_
        refine RetQ.mk () rfl (.tmp rfl .nil) (tB (by first | exact vs_len (by assumption) | exact vs_base (k := k) (by omega) (by omega) | (have hkl : k = s.length := (by omega); subst hkl; first | exact vs_yes (by assumption) hall (by omega) | exact vs_size (by omega)))) [] (rfl) rfl (trivial)
      · refine ExL.pures 1 rfl ?_
        refine ExL.nil ?_
        refine Ex.ret ?_
        refine RetQ.mk () rfl (.tmp rfl .nil) (tB (by first | exact vs_len (by assumption) | exact vs_base (k := k) (by omega) (by omega) | (have hkl : k = s.length := (by omega); subst hkl; first | exact vs_yes (by assumption) hall (by omega) | exact vs_size (by omega)))) [] (rfl) rfl (trivial)
end Go.Proofs.YtdgfalhfmboalaaGreatDoor

/- What these functions of the program hand back, each proved by walking its operations. -/
set_option linter.unusedVariables false
set_option linter.unusedSimpArgs false
set_option maxRecDepth 4000
namespace Go.Proofs.YtdgfalhfmboalaaGreatDoor
open Go Go.Sx Go.RowKit Go.W Go.Proofs
attribute [local irreducible] Ex ExL ExD Op1 Free RetQ MutQ Reads CellO SegO LoadsAs
end Go.Proofs.YtdgfalhfmboalaaGreatDoor

/- What these functions of the program hand back, each proved by walking its operations. -/
set_option linter.unusedVariables false
set_option linter.unusedSimpArgs false
set_option maxRecDepth 4000
namespace Go.Proofs.YtdgfalhfmboalaaGreatDoor
open Go Go.Sx Go.RowKit Go.W Go.Proofs
attribute [local irreducible] Ex ExL ExD Op1 Free RetQ MutQ Reads CellO SegO LoadsAs
end Go.Proofs.YtdgfalhfmboalaaGreatDoor

/- What these functions of the program hand back, each proved by walking its operations. -/
set_option linter.unusedVariables false
set_option linter.unusedSimpArgs false
set_option maxRecDepth 4000
namespace Go.Proofs.YtdgfalhfmboalaaGreatDoor
open Go Go.Sx Go.RowKit Go.W Go.Proofs
attribute [local irreducible] Ex ExL ExD Op1 Free RetQ MutQ Reads CellO SegO LoadsAs
end Go.Proofs.YtdgfalhfmboalaaGreatDoor

/- What these functions of the program hand back, each proved by walking its operations. -/
set_option linter.unusedVariables false
set_option linter.unusedSimpArgs false
set_option maxRecDepth 4000
namespace Go.Proofs.YtdgfalhfmboalaaGreatDoor
open Go Go.Sx Go.RowKit Go.W Go.Proofs
attribute [local irreducible] Ex ExL ExD Op1 Free RetQ MutQ Reads CellO SegO LoadsAs
theorem e_95 : Enters Tryz.prog 95 := Enters.of Tryz.func95 rfl
theorem c_slIndexFunc (s : List Int) (hu : ∀ x, x ∈ s → 0 ≤ x ∧ x ≤ 255) (As : Option Addr) (cs : Nat) (hls : s.length ≤ maxLen) (g : FuncId) (cap : List Value) (Pr : World → Prop) (hPr : ∀ w w', Pr w → Below w.heap.size w w' → Pr w') (p : Int → Bool) (hp : ∀ x : Int, 0 ≤ x ∧ x ≤ 255 → Ret Tryz.prog g ([.int .u8 x] ++ cap) Pr (fun _ : Unit => .bool (p x)) (fun _ => []) (fun _ => True)) : Ret Tryz.prog 95 [.slice As s.length cs, .func (.func g) #[] cap.toArray] (fun w => Rd w As (s.flatMap (eI .u8)) ∧ Pr w) (fun x : Unit => .int .i64 (idxF p s)) (fun x => []) (fun x => True) := by
  refine Ret.of e_95 Tryz.func95 rfl Tryz.ntmps95 rfl rfl (fun w hpre => ?_)
  have hs := hpre.1.base
  have hm0 : maxLen = 9223372036854775807 := rfl
  refine Ex.regSeq (ExL.pures 1 rfl ?_)
  refine ExL.nil ?_
  refine Ex.seq ?_
  refine Ex.regSeq (ExL.pures 3 rfl ?_)
  refine ExL.nil ?_
  refine Ex.block ?_
  refine Ex.loopK (X := Nat) (fun k => [(8, .int .i64 k)]) (fun k => []) (fun k => k ≤ s.length ∧ ∀ i, i < k → p (s.getD i 0) = false) (fun k => s.length - k) 0 [(0, _), (1, _), (7, _)] [] 0 [] ⟨rfl, trivial⟩ ⟨rfl, rfl, rfl, trivial⟩ (rfl) rfl ⟨Nat.zero_le _, fun i hi => by omega⟩ (fun k hI => ?_)
  have hI : k ≤ s.length ∧ ∀ i, i < k → p (s.getD i 0) = false := hI
  obtain ⟨hk, hall⟩ := hI
  refine Ex.regSeq (ExL.pures 0 rfl ?_)
  refine ExL.lss rfl rfl rfl rfl rfl rfl (fun h1 => ?_) (fun h1 => ?_)
  · refine ExL.nil ?_
    refine Ex.seq ?_
    refine Ex.cond_t rfl ?_
    refine Ex.skip ?_
    refine Ex.seq ?_
    refine Ex.block ?_
    have hk2 : k < s.length := by omega
    refine Ex.regSeq (ExL.pures 2 rfl ?_)
    refine ExL.nil ?_
    refine Ex.regSeq (ExL.pures 3 rfl ?_)
    refine ExL.free (fr_indexAddrF (Reads.old hs) (eI_len .u8) rfl rfl rfl rfl rfl rfl (by omega)) rfl rfl rfl ?_
    refine ExL.free (fr_load rfl rfl rfl rfl (by first | exact cellN (Reads.old hs) (eI_len .u8) 0 0 rfl (by omega) rfl | exact cellF (Reads.old hs) (eI_len .u8) 0 0 rfl (by omega) rfl)) rfl rfl rfl ?_
    refine ExL.op rfl (op_ret rfl rfl rfl (hp _ (hu _ (getD_mem _ hk2))) (fun w' hw => hPr _ _ hpre.2 hw.below) rfl rfl (fun x2 hx2 => ?_))
    refine ExL.nil ?_
    refine Ex.cond rfl (fun hb3 => ?_) (fun hb3 => ?_)
    · refine Ex.regSeq (ExL.pures 2 rfl ?_)
      refine ExL.nil ?_
      refine Ex.ret ?_
      refine RetQ.mk () rfl (.tmp rfl .nil) (tI (by first | exact (idx_hit (by omega) hall (by assumption)).symm | exact (idx_none (by omega) hall).symm)) [] (rfl) rfl (trivial)
    · refine Ex.skip ?_
      refine Ex.region (ExL.pures 0 rfl ?_)
      refine ExL.free (by first | exact fr_add64 rfl rfl rfl (by omega) | exact fr_add rfl rfl rfl) rfl rfl rfl ?_
      refine ExL.pures 1 rfl ?_
      refine ExL.nil ?_
      refine Hand.mk (k + 1) 0 [] ⟨rfl, trivial⟩ ⟨rfl, rfl, rfl, trivial⟩ (rfl) rfl (⟨by omega, all_snoc hall (by assumption)⟩) (by omega)
  · refine ExL.nil ?_
    refine Ex.seq ?_
    refine Ex.cond_f rfl ?_
    refine Ex.exit ?_
    refine Ex.regSeq (ExL.pures 1 rfl ?_)
    refine ExL.nil ?_
    refine Ex.ret ?_
    refine RetQ.mk () rfl (.tmp rfl .nil) (tI (by first | exact (idx_hit (by omega) hall (by assumption)).symm | exact (idx_none (by omega) hall).symm)) [] (rfl) rfl (trivial)
theorem e_78 : Enters Tryz.prog 78 := Enters.of Tryz.func78 rfl
theorem c_slContainsFunc (s : List Int) (hu : ∀ x, x ∈ s → 0 ≤ x ∧ x ≤ 255) (As : Option Addr) (cs : Nat) (hls : s.length ≤ maxLen) (g : FuncId) (cap : List Value) (Pr : World → Prop) (hPr : ∀ w w', Pr w → Below w.heap.size w w' → Pr w') (p : Int → Bool) (hp : ∀ x : Int, 0 ≤ x ∧ x ≤ 255 → Ret Tryz.prog g ([.int .u8 x] ++ cap) Pr (fun _ : Unit => .bool (p x)) (fun _ => []) (fun _ => True)) : Ret Tryz.prog 78 [.slice As s.length cs, .func (.func g) #[] cap.toArray] (fun w => Rd w As (s.flatMap (eI .u8)) ∧ Pr w) (fun x : Unit => .bool (s.any p)) (fun x => []) (fun x => True) := by
  refine Ret.of e_78 Tryz.func78 rfl Tryz.ntmps78 rfl rfl (fun w hpre => ?_)
  have hs := hpre.1.base
  have hm0 : maxLen = 9223372036854775807 := rfl
  refine Ex.regSeq (ExL.pures 1 rfl ?_)
  refine ExL.nil ?_
  refine Ex.regSeq (ExL.pures 2 rfl ?_)
  refine ExL.op rfl (op_ret rfl rfl rfl (c_slIndexFunc s hu _ _ (by omega) g cap Pr hPr p hp) (fun w' hw => ⟨Reads.get (Reads.old hs) w' hw, hPr _ _ hpre.2 hw.below⟩) rfl rfl (fun x1 hx1 => ?_))
  refine ExL.geq rfl rfl rfl rfl rfl rfl (fun h2 => ?_) (fun h2 => ?_)
  · refine ExL.pures 1 rfl ?_
    refine ExL.nil ?_
    refine Ex.ret ?_
    refine RetQ.mk () rfl (.tmp rfl .nil) (tB (by rw [any_idx]; first | exact dec_t (by omega) | exact dec_f (by omega) | rfl)) [] (rfl) rfl (trivial)
  · refine ExL.pures 1 rfl ?_
    refine ExL.nil ?_
    refine Ex.ret ?_
    refine RetQ.mk () rfl (.tmp rfl .nil) (tB (by rw [any_idx]; first | exact dec_t (by omega) | exact dec_f (by omega) | rfl)) [] (rfl) rfl (trivial)
theorem e_79 : Enters Tryz.prog 79 := Enters.of Tryz.func79 rfl
theorem c_vs1 (y : Int) : Ret Tryz.prog 79 [.int .u8 y] (fun w => True) (fun x : Unit => .bool (decide (y < 2 ∨ 100 < y))) (fun x => []) (fun x => True) := by
  refine Ret.of e_79 Tryz.func79 rfl Tryz.ntmps79 rfl rfl (fun w hpre => ?_)
  refine Ex.regSeq (ExL.pures 1 rfl ?_)
  refine ExL.nil ?_
  refine Ex.regSeq (ExL.pures 1 rfl ?_)
  refine ExL.lss rfl rfl rfl rfl rfl rfl (fun h1 => ?_) (fun h1 => ?_)
  · refine ExL.pures 5 rfl ?_
    refine ExL.nil ?_
    refine Ex.ret ?_
    refine RetQ.mk () rfl (.tmp rfl .nil) (tB (by first | exact dec_t (by omega) | exact dec_f (by omega) | (exact decide_eq_decide.2 (by omega)))) [] (rfl) rfl (trivial)
  · refine ExL.pures 2 rfl ?_
    refine ExL.gtr rfl rfl rfl rfl rfl rfl (fun h2 => ?_) (fun h2 => ?_)
    · refine ExL.pures 2 rfl ?_
      refine ExL.nil ?_
      refine Ex.ret ?_
      refine RetQ.mk () rfl (.tmp rfl .nil) (tB (by first | exact dec_t (by omega) | exact dec_f (by omega) | (exact decide_eq_decide.2 (by omega)))) [] (rfl) rfl (trivial)
    · refine ExL.pures 2 rfl ?_
      refine ExL.nil ?_
      refine Ex.ret ?_
      refine RetQ.mk () rfl (.tmp rfl .nil) (tB (by first | exact dec_t (by omega) | exact dec_f (by omega) | (exact decide_eq_decide.2 (by omega)))) [] (rfl) rfl (trivial)
theorem e_41 : Enters Tryz.prog 41 := Enters.of Tryz.func41 rfl
theorem c_ValidStack (s : List Int) (hu : Nums 255 s) (As : Option Addr) (cs : Nat) (hl : s.length ≤ maxLen) : Ret Tryz.prog 41 [.slice As s.length cs] (fun w => Rd w As (s.flatMap (eI .u8))) (fun x : Unit => .bool (validStack s)) (fun x => []) (fun x => True) := by
  refine Ret.of e_41 Tryz.func41 rfl Tryz.ntmps41 rfl rfl (fun w hpre => ?_)
  have hs := hpre.base
  have hm0 : maxLen = 9223372036854775807 := rfl
  refine Ex.regSeq (ExL.pures 1 rfl ?_)
  refine ExL.nil ?_
  refine Ex.regSeq (ExL.pures 1 rfl ?_)
  refine ExL.op rfl (op_ret rfl rfl rfl (c_wheels _ _ _) (fun _ _ => trivial) rfl rfl (fun x1 hx1 => ?_))
  refine ExL.op rfl (op_ret rfl rfl rfl (c_within _ _ _) (fun _ _ => trivial) rfl rfl (fun x2 hx2 => ?_))
  refine ExL.pures 1 rfl ?_
  refine ExL.bool (d := 7) rfl (fun hb3 => ?_) (fun hb3 => ?_)
  · replace hb3 := of_decide_eq_true hb3
    refine ExL.pures 1 rfl ?_
    refine ExL.op rfl (op_ret rfl rfl rfl (c_slContainsFunc s hu _ _ (by omega) 79 [] (fun _ => True) (fun _ _ _ _ => trivial) (fun x => decide (x < 2 ∨ 100 < x)) (fun x _ => c_vs1 x)) (fun w' hw => ⟨Reads.get (Reads.old hs) w' hw, trivial⟩) rfl rfl (fun x4 hx4 => ?_))
    refine ExL.pures 3 rfl ?_
    refine ExL.nil ?_
    refine Ex.regSeq (ExL.pures 2 rfl ?_)
    refine ExL.bool (d := 13) rfl (fun hb5 => ?_) (fun hb5 => ?_)
    · replace hb5 := nb_t hb5
      refine ExL.pures 1 rfl ?_
      refine ExL.op rfl (op_ret rfl rfl rfl (c_size _ (by assumption) _ _ (by first | assumption | omega | (unfold maxLen; omega))) (Reads.get (Reads.old hs)) rfl rfl (fun x6 hx6 => ?_))
      refine ExL.leq rfl rfl rfl rfl rfl rfl (fun h7 => ?_) (fun h7 => ?_)
      · refine ExL.pures 2 rfl ?_
        refine ExL.nil ?_
        refine Ex.ret ?_
        refine RetQ.mk () rfl (.tmp rfl .nil) (tB (by first | exact vs_len (by assumption) | exact vs_any (by assumption) | exact vs_size (by assumption) | exact vs_yes2 (by assumption) (by assumption) (by assumption))) [] (rfl) rfl (trivial)
      · refine ExL.pures 2 rfl ?_
        refine ExL.nil ?_
        refine Ex.ret ?_
        refine RetQ.mk () rfl (.tmp rfl .nil) (tB (by first | exact vs_len (by assumption) | exact vs_any (by assumption) | exact vs_size (by assumption) | exact vs_yes2 (by assumption) (by assumption) (by assumption))) [] (rfl) rfl (trivial)
    · replace hb5 := nb_f hb5
      refine ExL.pures 5 rfl ?_
      refine ExL.nil ?_
      refine Ex.ret ?_
      refine RetQ.mk () rfl (.tmp rfl .nil) (tB (by first | exact vs_len (by assumption) | exact vs_any (by assumption) | exact vs_size (by assumption) | exact vs_yes2 (by assumption) (by assumption) (by assumption))) [] (rfl) rfl (trivial)
  · replace hb3 := of_decide_eq_false hb3
    refine ExL.pures 5 rfl ?_
    refine ExL.nil ?_
    refine Ex.regSeq (ExL.pures 7 rfl ?_)
    refine ExL.nil ?_
    refine Ex.ret ?_
    refine RetQ.mk () rfl (.tmp rfl .nil) (tB (by first | exact vs_len (by assumption) | exact vs_any (by assumption) | exact vs_size (by assumption) | exact vs_yes2 (by assumption) (by assumption) (by assumption))) [] (rfl) rfl (trivial)
theorem e_49 : Enters Tryz.prog 49 := Enters.of Tryz.func49 rfl
theorem c_iValidDigits (s : List Int) (hu : Nums 255 s) (As : Option Addr) (cs : Nat) (hls : s.length ≤ maxLen) (a : Dig) (ha : Nums 255 a.l) : Ret Tryz.prog 49 [.slice As s.length cs, .agg (encD a).toArray] (fun w => Rd w As (s.flatMap (eI .u8))) (fun x : Unit => .bool (validStack s && validDig s a.l)) (fun x => []) (fun x => True) := by
  refine Ret.of e_49 Tryz.func49 rfl Tryz.ntmps49 rfl rfl (fun w hpre => ?_)
  have hs := hpre.base
  have hm0 : maxLen = 9223372036854775807 := rfl
  refine Ex.regSeq (ExL.pures 0 rfl ?_)
  refine ExL.op rfl (op_box rfl rfl rfl rfl rfl (fun b1 => ?_))
  refine ExL.pures 1 rfl ?_
  refine ExL.nil ?_
  refine Ex.seq ?_
  refine Ex.regSeq (ExL.pures 1 rfl ?_)
  refine ExL.op rfl (op_ret rfl rfl rfl (c_ValidStack _ (by assumption) _ _ (by first | assumption | omega | (unfold maxLen; omega))) (Reads.get (Reads.old hs)) rfl rfl (fun x2 hx2 => ?_))
  refine ExL.pures 1 rfl ?_
  refine ExL.nil ?_
  refine Ex.cond rfl (fun hb3 => ?_) (fun hb3 => ?_)
  · replace hb3 := nb_t hb3
    refine Ex.regSeq (ExL.pures 1 rfl ?_)
    refine ExL.nil ?_
    refine Ex.ret ?_
    refine RetQ.mk () rfl (.tmp rfl .nil) (tB (by first | (rw [(by assumption : validStack s = false)]; rfl) | (rw [(by assumption : validStack s = true), Bool.true_and]; first | exact good_all (by omega) hall | exact bad_lo (k := k) (by omega) (by omega) (by assumption) | exact bad_hi (k := k) (by omega) (by omega) (by omega)))) [] (rfl) rfl (trivial)
  · replace hb3 := nb_f hb3
    refine Ex.skip ?_
    refine Ex.seq ?_
    refine Ex.regSeq (ExL.pures 0 rfl ?_)
    refine ExL.free (fr_loadN rfl rfl rfl rfl rfl (SegO.whole (i := 0) rfl)) rfl rfl rfl ?_
    refine ExL.pures 1 rfl ?_
    refine ExL.nil ?_
    refine Ex.block ?_
    refine Ex.loopK (X := Nat) (fun k => [(11, .int .i64 k)]) (fun k => []) (fun k => k ≤ 8 ∧ ∀ i, i < k → goodAt s a.l i = true) (fun k => 8 - k) 0 [(0, _), (10, _)] [] 1 [] ⟨rfl, trivial⟩ ⟨rfl, rfl, trivial⟩ (rfl) rfl ⟨Nat.zero_le _, fun i hi => by omega⟩ (fun k hI => ?_)
    have hI : k ≤ 8 ∧ ∀ i, i < k → goodAt s a.l i = true := hI
    obtain ⟨hk, hall⟩ := hI
    have hb := ha.at_ (by omega) k
    refine Ex.regSeq (ExL.pures 0 rfl ?_)
    refine ExL.lss rfl rfl rfl rfl rfl rfl (fun h4 => ?_) (fun h4 => ?_)
    · refine ExL.nil ?_
      refine Ex.seq ?_
      refine Ex.cond_t rfl ?_
      refine Ex.skip ?_
      refine Ex.seq ?_
      refine Ex.block ?_
      refine Ex.regSeq (ExL.pures 1 rfl ?_)
      refine ExL.free (fr_index (sz := 1) rfl rfl rfl rfl rfl rfl rfl (by omega) (idxG (eI_len .u8) 0 rfl (by rw [dig_len]; omega) rfl)) rfl rfl rfl ?_
      refine ExL.pures 2 rfl ?_
      refine ExL.nil ?_
      refine Ex.regSeq (ExL.pures 3 rfl ?_)
      refine ExL.lss rfl rfl rfl rfl rfl rfl (fun h5 => ?_) (fun h5 => ?_)
      · refine ExL.pures 4 rfl ?_
        refine ExL.free (fr_indexAddrF (Reads.old hs) (eI_len .u8) rfl rfl rfl rfl rfl rfl (by omega)) rfl rfl rfl ?_
        refine ExL.free (fr_load rfl rfl rfl rfl (by first | exact cellN (Reads.old hs) (eI_len .u8) 0 0 rfl (by omega) rfl | exact cellF (Reads.old hs) (eI_len .u8) 0 0 rfl (by omega) rfl)) rfl rfl rfl ?_
        refine ExL.geq rfl rfl rfl rfl rfl rfl (fun h6 => ?_) (fun h6 => ?_)
        · refine ExL.pures 11 rfl ?_
          refine ExL.nil ?_
          refine Ex.cond_t rfl ?_
          refine Ex.regSeq (ExL.pures 1 rfl ?_)
          refine ExL.nil ?_
          refine Ex.ret ?_
          refine RetQ.mk () rfl (.tmp rfl .nil) (tB (by first | (rw [(by assumption : validStack s = false)]; rfl) | (rw [(by assumption : validStack s = true), Bool.true_and]; first | exact good_all (by omega) hall | exact bad_lo (k := k) (by omega) (by omega) (by assumption) | exact bad_hi (k := k) (by omega) (by omega) (by omega)))) [] (rfl) rfl (trivial)
        · refine ExL.pures 5 rfl ?_
          refine ExL.geq rfl rfl rfl rfl rfl rfl (fun h7 => ?_) (fun h7 => ?_)
          · refine ExL.pures 2 rfl ?_
            refine ExL.gtr rfl rfl rfl rfl rfl rfl (fun h8 => ?_) (fun h8 => ?_)
            · refine ExL.pures 2 rfl ?_
              refine ExL.nil ?_
              refine Ex.cond_t rfl ?_
              refine Ex.regSeq (ExL.pures 1 rfl ?_)
              refine ExL.nil ?_
              refine Ex.ret ?_
              refine RetQ.mk () rfl (.tmp rfl .nil) (tB (by first | (rw [(by assumption : validStack s = false)]; rfl) | (rw [(by assumption : validStack s = true), Bool.true_and]; first | exact good_all (by omega) hall | exact bad_lo (k := k) (by omega) (by omega) (by assumption) | exact bad_hi (k := k) (by omega) (by omega) (by omega)))) [] (rfl) rfl (trivial)
            · refine ExL.pures 2 rfl ?_
              refine ExL.nil ?_
              refine Ex.cond_f rfl ?_
              refine Ex.skip ?_
              refine Ex.region (ExL.pures 0 rfl ?_)
              refine ExL.free (by first | exact fr_add64 rfl rfl rfl (by omega) | exact fr_add rfl rfl rfl) rfl rfl rfl ?_
              refine ExL.pures 1 rfl ?_
              refine ExL.nil ?_
              refine Hand.mk (k + 1) 0 [] ⟨rfl, trivial⟩ ⟨rfl, rfl, trivial⟩ (rfl) rfl (⟨by omega, all_snoc hall (by first | exact good_lo (by omega) (by first | assumption | omega) | exact good_hi (by omega) (by omega))⟩) (by omega)
          · refine ExL.pures 5 rfl ?_
            refine ExL.nil ?_
            refine Ex.cond_f rfl ?_
            refine Ex.skip ?_
            refine Ex.region (ExL.pures 0 rfl ?_)
            refine ExL.free (by first | exact fr_add64 rfl rfl rfl (by omega) | exact fr_add rfl rfl rfl) rfl rfl rfl ?_
            refine ExL.pures 1 rfl ?_
            refine ExL.nil ?_
            refine Hand.mk (k + 1) 0 [] ⟨rfl, trivial⟩ ⟨rfl, rfl, trivial⟩ (rfl) rfl (⟨by omega, all_snoc hall (by first | exact good_lo (by omega) (by first | assumption | omega) | exact good_hi (by omega) (by omega))⟩) (by omega)
      · refine ExL.pures 12 rfl ?_
        refine ExL.geq rfl rfl rfl rfl rfl rfl (fun h9 => ?_) (fun h9 => ?_)
        · refine ExL.pures 2 rfl ?_
          refine ExL.gtr rfl rfl rfl rfl rfl rfl (fun h10 => ?_) (fun h10 => ?_)
          · refine ExL.pures 2 rfl ?_
            refine ExL.nil ?_
            refine Ex.cond_t rfl ?_
            refine Ex.regSeq (ExL.pures 1 rfl ?_)
            refine ExL.nil ?_
            refine Ex.ret ?_
            refine RetQ.mk () rfl (.tmp rfl .nil) (tB (by first | (rw [(by assumption : validStack s = false)]; rfl) | (rw [(by assumption : validStack s = true), Bool.true_and]; first | exact good_all (by omega) hall | exact bad_lo (k := k) (by omega) (by omega) (by assumption) | exact bad_hi (k := k) (by omega) (by omega) (by omega)))) [] (rfl) rfl (trivial)
          · refine ExL.pures 2 rfl ?_
            refine ExL.nil ?_
            refine Ex.cond_f rfl ?_
            refine Ex.skip ?_
            refine Ex.region (ExL.pures 0 rfl ?_)
            refine ExL.free (by first | exact fr_add64 rfl rfl rfl (by omega) | exact fr_add rfl rfl rfl) rfl rfl rfl ?_
            refine ExL.pures 1 rfl ?_
            refine ExL.nil ?_
            refine Hand.mk (k + 1) 0 [] ⟨rfl, trivial⟩ ⟨rfl, rfl, trivial⟩ (rfl) rfl (⟨by omega, all_snoc hall (by first | exact good_lo (by omega) (by first | assumption | omega) | exact good_hi (by omega) (by omega))⟩) (by omega)
        · refine ExL.pures 5 rfl ?_
          refine ExL.nil ?_
          refine Ex.cond_f rfl ?_
          refine Ex.skip ?_
          refine Ex.region (ExL.pures 0 rfl ?_)
          refine ExL.free (by first | exact fr_add64 rfl rfl rfl (by omega) | exact fr_add rfl rfl rfl) rfl rfl rfl ?_
          refine ExL.pures 1 rfl ?_
          refine ExL.nil ?_
          refine Hand.mk (k + 1) 0 [] ⟨rfl, trivial⟩ ⟨rfl, rfl, trivial⟩ (rfl) rfl (⟨by omega, all_snoc hall (by first | exact good_lo (by omega) (by first | assumption | omega) | exact good_hi (by omega) (by omega))⟩) (by omega)
    · refine ExL.nil ?_
      refine Ex.seq ?_
      refine Ex.cond_f rfl ?_
      refine Ex.exit ?_
      refine Ex.regSeq (ExL.pures 1 rfl ?_)
      refine ExL.nil ?_
      refine Ex.ret ?_
      refine RetQ.mk () rfl (.tmp rfl .nil) (tB (by first | (rw [(by assumption : validStack s = false)]; rfl) | (rw [(by assumption : validStack s = true), Bool.true_and]; first | exact good_all (by omega) hall | exact bad_lo (k := k) (by omega) (by omega) (by assumption) | exact bad_hi (k := k) (by omega) (by omega) (by omega)))) [] (rfl) rfl (trivial)
end Go.Proofs.YtdgfalhfmboalaaGreatDoor

/- What these functions of the program hand back, each proved by walking its operations. -/
set_option linter.unusedVariables false
set_option linter.unusedSimpArgs false
set_option maxRecDepth 4000
namespace Go.Proofs.YtdgfalhfmboalaaGreatDoor
open Go Go.Sx Go.RowKit Go.W Go.Proofs
attribute [local irreducible] Ex ExL ExD Op1 Free RetQ MutQ Reads CellO SegO LoadsAs
theorem e_83 : Enters Tryz.prog 83 := Enters.of Tryz.func83 rfl
theorem c_back1 (s : List Int) (As : Option Addr) (cs : Nat) (hls : s.length ≤ maxLen) (b base : Nat) (w0 : World) (hs : RdB base w0 As (s.flatMap (eI .u8))) : Iter Tryz.prog 83 [.pointer (some ⟨b, 0, none⟩)] base w0 (.blk b [.slice As s.length cs] 24) s.length (fun k => [.int .i64 ((s.length - 1 - k : Nat) : Int), .int .u8 (s.getD (s.length - 1 - k) 0)]) := by
  refine Iter.of e_83 Tryz.func83 rfl Tryz.ntmps83 rfl rfl (fun w1 l Mf hW hY => ?_)
  have hs := hs.keep hW
  have hm0 : maxLen = 9223372036854775807 := rfl
  refine Ex.regSeq (ExL.pures 0 rfl ?_)
  refine ExL.free (fr_load rfl rfl rfl rfl (CellO.blk (i := 0) rfl rfl)) rfl rfl rfl ?_
  refine ExL.pures 1 rfl ?_
  refine ExL.free (fr_sub64 rfl rfl rfl (by omega)) rfl rfl rfl ?_
  refine ExL.pures 1 rfl ?_
  refine ExL.nil ?_
  refine Ex.block ?_
  refine Ex.loopK (X := Nat) (fun k => [(3, .int .i64 ((s.length : Int) - 1 - k))]) (fun k => .blk b [.slice As s.length cs] 24 :: Mf k) (fun k => k ≤ s.length) (fun k => s.length - k) 0 [(0, _), (1, _)] [] 1 [0] ⟨agI (by simp), trivial⟩ ⟨rfl, rfl, trivial⟩ pick_box rfl (Nat.zero_le _) (fun k hI => ?_)
  refine Ex.seq ?_
  refine Ex.regSeq (ExL.pures 1 rfl ?_)
  refine ExL.geq rfl rfl rfl rfl rfl rfl (fun h1 => ?_) (fun h1 => ?_)
  · have hk : k < s.length := by omega
    have hj : (s.length : Int) - 1 - k = ((s.length - 1 - k : Nat) : Int) := by omega
    rw [hj]
    refine ExL.nil ?_
    refine Ex.cond_t rfl ?_
    refine Ex.skip ?_
    refine Ex.seq ?_
    refine Ex.block ?_
    refine Ex.regSeq (ExL.pures 2 rfl ?_)
    refine ExL.free (fr_load rfl rfl rfl rfl (CellO.blk (i := 0) rfl rfl)) rfl rfl rfl ?_
    refine ExL.pures 1 rfl ?_
    refine ExL.free (fr_indexAddrF (Reads.old hs) (eI_len .u8) rfl rfl rfl rfl rfl rfl (by omega)) rfl rfl rfl ?_
    refine ExL.free (fr_load rfl rfl rfl rfl (cellN (Reads.old hs) (eI_len .u8) 0 0 rfl (by omega) rfl)) rfl rfl rfl ?_
    refine ExL.yield rfl rfl rfl rfl rfl rfl (fun w hw => hY k w hk (by simpa using hw)) ?_
    refine ExL.pures 1 rfl ?_
    refine ExL.nil ?_
    refine Ex.cond_f rfl ?_
    refine Ex.skip ?_
    refine Ex.region (ExL.pures 1 rfl ?_)
    refine ExL.free (fr_sub64 rfl rfl rfl (by omega)) rfl rfl rfl ?_
    refine ExL.pures 1 rfl ?_
    refine ExL.nil ?_
    exact Hand.mk (k + 1) 1 [0] ⟨agI (by omega), trivial⟩ ⟨rfl, rfl, trivial⟩ pick_box rfl (by omega) (by omega)
  · refine ExL.nil ?_
    refine Ex.cond_f rfl ?_
    refine Ex.exit ?_
    obtain rfl : k = s.length := (by omega)
    exact ⟨rfl, by simp⟩
theorem e_44 : Enters Tryz.prog 44 := Enters.of Tryz.func44 rfl
theorem c_Back (s : List Int) (As : Option Addr) (cs : Nat) : Ret Tryz.prog 44 [.slice As s.length cs] (fun w => True) (fun x : Nat => .func (.func 83) #[] (List.toArray [.pointer (some ⟨x, 0, none⟩)])) (fun x => [.blk x [.slice As s.length cs] 24]) (fun x => True) := by
  refine Ret.of e_44 Tryz.func44 rfl Tryz.ntmps44 rfl rfl (fun w hpre => ?_)
  refine Ex.regSeq (ExL.pures 0 rfl ?_)
  refine ExL.op rfl (op_box rfl rfl rfl rfl rfl (fun b1 => ?_))
  refine ExL.pures 1 rfl ?_
  refine ExL.nil ?_
  refine Ex.regSeq (ExL.pures 0 rfl ?_)
  refine ExL.free (fr_makeFunc rfl rfl rfl) rfl rfl rfl ?_
  refine ExL.pures 1 rfl ?_
  refine ExL.nil ?_
  refine Ex.ret ?_
  refine RetQ.mk _ rfl (.tmp rfl .nil) (rfl) [0] (rfl) rfl (trivial)
theorem e_61 : Enters Tryz.prog 61 := Enters.of Tryz.func61 rfl
theorem c_value (s : List Int) (hv : validStack s = true) (As : Option Addr) (cs : Nat) (a : Dig) (ha : Nums 255 a.l) (hd : validDig s a.l = true) : Ret Tryz.prog 61 [.slice As s.length cs, .agg (encD a).toArray] (fun w => Rd w As (s.flatMap (eI .u8))) (fun x : Unit => .int .i64 (val s a.l)) (fun x => []) (fun x => True) := by
  refine Ret.of e_61 Tryz.func61 rfl Tryz.ntmps61 rfl rfl (fun w hpre => ?_)
  have hs := hpre.base
  have hS := stk hv
  have h8 := hS.len8
  have hD := digOk h8 ha hd
  have hn : s.length ≤ a.l.length := by rw [dig_len]; omega
  have hm0 : maxLen = 9223372036854775807 := rfl
  refine Ex.regSeq (ExL.pures 0 rfl ?_)
  refine ExL.op rfl (op_box rfl rfl rfl rfl rfl (fun b1 => ?_))
  refine ExL.pures 1 rfl ?_
  refine ExL.nil ?_
  refine Ex.regSeq (ExL.pures 0 rfl ?_)
  refine ExL.op rfl (op_alloc rfl rfl rfl rfl rfl (fun b2 => ?_))
  refine ExL.op rfl (op_storeC (i := 0) rfl rfl rfl rfl rfl rfl rfl rfl rfl rfl ?_)
  refine ExL.nil ?_
  refine ExT.seq ?_
  refine ExT.reg (ExL.pures 1 rfl ?_)
  refine ExL.op rfl (op_ret rfl rfl rfl (c_Back s _ _) (fun _ _ => trivial) rfl rfl (fun x3 hx3 => ?_))
  refine ExL.nil ?_
  refine Ex.rangeK (N := s.length) (encs := fun k => [.int .i64 ((s.length - 1 - k : Nat) : Int), .int .u8 (s.getD (s.length - 1 - k) 0)]) (fun k => [(6, .int .i64 ((s.length - 1 - k : Nat) : Int)), (7, .int .u8 (s.getD (s.length - 1 - k) 0))]) (fun k => [.blk b2 [.int .i64 (val (s.drop (s.length - k)) (a.l.drop (s.length - k)))] 2]) [(3, _), (5, _)] [_] 3 [0, 1, 2] rfl (c_back1 s As cs (by have := hS.len8; omega) _ _ _ hs) (fun _ => rfl) rfl rfl rfl (by rw [val_end (k := s.length - 0) (by omega)]; rfl) rfl ⟨rfl, rfl, trivial⟩ (fun l k W hk hW => ?_) (fun l k W hk hW => ?_) (fun D W hW => ?_)
  · have hs := hs.keep hW
    refine Ex.regSeq (ExL.pures 1 rfl ?_)
    refine ExL.nil ?_
    refine Ex.region (ExL.pures 1 rfl ?_)
    refine ExL.nil ?_
    exact ⟨rfl, ⟨rfl, rfl, rfl, rfl, trivial⟩, rfl⟩
  · have hs := hs.keep hW
    obtain ⟨j, hj, hj1, hj2⟩ : ∃ j, s.length - 1 - k = j ∧ s.length - k = j + 1 ∧ s.length - (k + 1) = j := ⟨_, rfl, by omega, by omega⟩
    have hjs : j < s.length := by omega
    have hst := val_step hS hD hn hjs
    have hb := hS.bases j hjs
    rw [hj, hj1, hj2]
    refine Ex.block ?_
    refine Ex.drawM rfl ?_
    refine ExD.take (i := 0) rfl (by kernel_rfl) (fr_load rfl rfl rfl rfl (CellO.blk (i := 1) rfl rfl)) ((List.Sublist.refl _)) rfl rfl rfl ?_
    refine ExD.take (i := 1) rfl (by kernel_rfl) (pureVal_ok rfl) ((List.Sublist.refl _)) rfl rfl rfl ?_
    refine ExD.take (i := 2) rfl (by kernel_rfl) (by first | exact fr_conv64 rfl rfl rfl rfl (by omega) | exact fr_conv rfl rfl rfl rfl) ((List.Sublist.refl _)) rfl rfl rfl ?_
    refine ExD.take (i := 3) rfl (by kernel_rfl) (by first | exact fr_mul64 rfl rfl rfl (by omega) | exact fr_mul rfl rfl rfl) ((List.Sublist.refl _)) rfl rfl rfl ?_
    refine ExD.take (i := 4) rfl (by kernel_rfl) (pureVal_ok rfl) ((List.Sublist.refl _)) rfl rfl rfl ?_
    refine ExD.take (i := 5) rfl (by kernel_rfl) (fr_indexAddr_b (sz := 1) rfl rfl rfl rfl rfl (by omega)) ((List.Sublist.refl _)) rfl rfl rfl ?_
    refine ExD.take (i := 6) rfl (by kernel_rfl) (fr_load rfl rfl rfl rfl (CellO.blk (i := 2) rfl (blkG (eI_len .u8) 0 rfl (by rw [dig_len]; omega) rfl))) ((List.Sublist.refl _)) rfl rfl rfl ?_
    refine ExD.take (i := 7) rfl (by kernel_rfl) (by first | exact fr_conv64 rfl rfl rfl rfl (by omega) | exact fr_conv rfl rfl rfl rfl) ((List.Sublist.refl _)) rfl rfl rfl ?_
    refine ExD.take (i := 8) rfl (by kernel_rfl) (by first | exact fr_add64 rfl rfl rfl (by omega) | exact fr_add rfl rfl rfl) ((List.Sublist.refl _)) rfl rfl rfl ?_
    refine ExD.last (i := 9) rfl (by kernel_rfl) (by kernel_rfl) rfl (op_storeC (i := 1) rfl rfl rfl rfl rfl rfl rfl rfl rfl rfl ?_)
    refine ExD.done (by kernel_rfl) ?_
    exact ⟨rfl, 3, [0, 1, 2], (by rw [hst.1]; rfl), rfl⟩
  · have hs := hs.keep hW
    rw [Nat.sub_self, List.drop_zero, List.drop_zero]
    refine Ex.regSeq (ExL.pures 0 rfl ?_)
    refine ExL.free (fr_load rfl rfl rfl rfl (CellO.blk (i := 1) rfl rfl)) rfl rfl rfl ?_
    refine ExL.pures 1 rfl ?_
    refine ExL.nil ?_
    refine Ex.ret ?_
    refine ⟨rfl, ?_⟩
    refine RetQ.mk () rfl (.tmp rfl .nil) (rfl) [] (rfl) rfl (trivial)
theorem e_57 : Enters Tryz.prog 57 := Enters.of Tryz.func57 rfl
theorem c_digits (s : List Int) (hv : validStack s = true) (As : Option Addr) (cs : Nat) (v : Int) (hv0 : 0 ≤ v ∧ v ≤ 9000000000000000000) : Ret Tryz.prog 57 [.slice As s.length cs, .int .i64 v] (fun w => Rd w As (s.flatMap (eI .u8))) (fun x : Unit => .agg (encD (dig (digs s v))).toArray) (fun x => []) (fun x => True) := by
  refine Ret.of e_57 Tryz.func57 rfl Tryz.ntmps57 rfl rfl (fun w hpre => ?_)
  have hs := hpre.base
  have hS := stk hv
  have h8 := hS.len8
  have hm0 : maxLen = 9223372036854775807 := rfl
  refine Ex.regSeq (ExL.pures 0 rfl ?_)
  refine ExL.op rfl (op_alloc rfl rfl rfl rfl rfl (fun b1 => ?_))
  refine ExL.nil ?_
  refine Ex.regSeq (ExL.pures 0 rfl ?_)
  refine ExL.free (fr_build rfl rfl rfl rfl) rfl rfl rfl ?_
  refine ExL.op rfl (op_alloc rfl rfl rfl rfl rfl (fun b2 => ?_))
  refine ExL.op rfl (op_storeC (i := 0) rfl rfl rfl rfl rfl rfl rfl rfl rfl rfl ?_)
  refine ExL.nil ?_
  refine Ex.seq ?_
  refine Ex.regSeq (ExL.pures 3 rfl ?_)
  refine ExL.nil ?_
  refine Ex.block ?_
  refine Ex.loopK (X := Nat) (fun k => [(1, .int .i64 (v / prod (s.take k))), (11, .int .i64 k)]) (fun k => [.blk b2 ((Sx.part 0 (digs s v) k).flatMap (eI .u8)) 34]) (fun k => k ≤ s.length) (fun k => s.length - k) 0 [(4, _), (5, _), (9, _), (10, _)] [_] 2 [0, 1] ⟨agI (by simp [prod]), rfl, trivial⟩ ⟨rfl, rfl, rfl, rfl, trivial⟩ (pkB (by rw [part_zero, digs_len]; rfl)) rfl (Nat.zero_le _) (fun k hI => ?_)
  have hI : k ≤ s.length := hI
  refine Ex.regSeq (ExL.pures 0 rfl ?_)
  refine ExL.lss rfl rfl rfl rfl rfl rfl (fun h3 => ?_) (fun h3 => ?_)
  · refine ExL.nil ?_
    refine Ex.seq ?_
    refine Ex.cond_t rfl ?_
    refine Ex.skip ?_
    refine Ex.seq ?_
    refine Ex.block ?_
    have hk : k < s.length := by omega
    have hb := hS.bases k hk
    have hx : 0 ≤ v / prod (s.take k) % s.getD k 0 ∧ v / prod (s.take k) % s.getD k 0 < s.getD k 0 := dAt_bd hS.bases hk
    have hp := prod_pos (hS.bases.take k)
    have hd0 := Int.ediv_nonneg hv0.1 (show 0 ≤ prod (s.take k) by omega)
    have hd1 := Int.ediv_le_self (prod (s.take k)) hv0.1
    refine Ex.regSeq (ExL.pures 1 rfl ?_)
    refine ExL.free (fr_indexAddrF (Reads.old hs) (eI_len .u8) rfl rfl rfl rfl rfl rfl (by omega)) rfl rfl rfl ?_
    refine ExL.free (fr_load rfl rfl rfl rfl (by first | exact cellN (Reads.old hs) (eI_len .u8) 0 0 rfl (by omega) rfl | exact cellF (Reads.old hs) (eI_len .u8) 0 0 rfl (by omega) rfl)) rfl rfl rfl ?_
    refine ExL.pures 2 rfl ?_
    refine ExL.nil ?_
    refine Ex.regSeq (ExL.pures 3 rfl ?_)
    refine ExL.free (by first | exact fr_conv64 rfl rfl rfl rfl (by omega) | exact fr_conv rfl rfl rfl rfl) rfl rfl rfl ?_
    refine ExL.free (by first | exact fr_remP rfl rfl rfl (by omega) | exact fr_rem rfl rfl rfl (by omega)) rfl rfl rfl ?_
    refine ExL.free (by first | exact fr_conv_u8 rfl rfl rfl rfl (by omega) | exact fr_conv rfl rfl rfl rfl) rfl rfl rfl ?_
    refine ExL.free (fr_indexAddr_b (sz := 1) rfl rfl rfl rfl rfl (by omega)) rfl rfl rfl ?_
    refine ExL.op rfl (op_store (i := 0) rfl rfl rfl rfl rfl rfl rfl rfl (room (eI_len .u8) (k := k) (part_lt (by rw [digs_len]; omega) (by rw [digs_len]; omega)) (by simp) rfl) rfl ?_)
    refine ExL.nil ?_
    refine Ex.region (ExL.pures 2 rfl ?_)
    refine ExL.free (by first | exact fr_conv64 rfl rfl rfl rfl (by omega) | exact fr_conv rfl rfl rfl rfl) rfl rfl rfl ?_
    refine ExL.free (by first | exact fr_quo64 rfl rfl rfl (by omega) | exact fr_quo rfl rfl rfl (by omega)) rfl rfl rfl ?_
    refine ExL.pures 1 rfl ?_
    refine ExL.nil ?_
    refine Ex.region (ExL.pures 0 rfl ?_)
    refine ExL.free (by first | exact fr_add64 rfl rfl rfl (by omega) | exact fr_add rfl rfl rfl) rfl rfl rfl ?_
    refine ExL.pures 1 rfl ?_
    refine ExL.nil ?_
    refine Hand.mk (k + 1) 2 [0, 1] ⟨agI (div_prod hS.bases hk), rfl, trivial⟩ ⟨rfl, rfl, rfl, rfl, trivial⟩ (pkB (part_put (eI_len .u8) 0 0 (digs s v) k (by rw [digs_len]; omega) (by simp) (congrArg (eI .u8) (digs_lo h8 hk).symm))) rfl (by omega) (by omega)
  · refine ExL.nil ?_
    refine Ex.seq ?_
    refine Ex.cond_f rfl ?_
    refine Ex.exit ?_
    obtain rfl : k = s.length := (by omega)
    rw [digs_part h8, ← encD_dig (digs_len s v)]
    refine Ex.regSeq (ExL.pures 0 rfl ?_)
    refine ExL.free (fr_loadN rfl rfl rfl rfl rfl (SegO.whole (i := 0) rfl)) rfl rfl rfl ?_
    refine ExL.op rfl (op_storeC (i := 1) rfl rfl rfl rfl rfl rfl rfl rfl rfl rfl ?_)
    refine ExL.nil ?_
    refine Ex.ret ?_
    refine RetQ.mk () rfl (.cell rfl (.many rfl rfl rfl (SegO.whole (i := 1) rfl)) .nil) (rfl) [] (rfl) rfl (trivial)
theorem e_38 : Enters Tryz.prog 38 := Enters.of Tryz.func38 rfl
theorem c_l01Of (s : List Int) (hv : validStack s = true) (As : Option Addr) (cs : Nat) (v : Int) (hv0 : 0 ≤ v ∧ v ≤ 9000000000000000000) : Ret Tryz.prog 38 [.slice As s.length cs, .int .i64 v] (fun w => Rd w As (s.flatMap (eI .u8))) (fun x : Unit => .agg (encD (dig (digs s v))).toArray) (fun x => []) (fun x => True) := by
  refine Ret.of e_38 Tryz.func38 rfl Tryz.ntmps38 rfl rfl (fun w hpre => ?_)
  have hs := hpre.base
  have hS := stk hv
  have h8 := hS.len8
  have hm0 : maxLen = 9223372036854775807 := rfl
  refine Ex.regSeq (ExL.pures 0 rfl ?_)
  refine ExL.op rfl (op_alloc rfl rfl rfl rfl rfl (fun b1 => ?_))
  refine ExL.nil ?_
  refine Ex.regSeq (ExL.pures 0 rfl ?_)
  refine ExL.free (fr_build rfl rfl rfl rfl) rfl rfl rfl ?_
  refine ExL.op rfl (op_alloc rfl rfl rfl rfl rfl (fun b2 => ?_))
  refine ExL.op rfl (op_storeC (i := 0) rfl rfl rfl rfl rfl rfl rfl rfl rfl rfl ?_)
  refine ExL.nil ?_
  refine Ex.seq ?_
  refine Ex.regSeq (ExL.pures 1 rfl ?_)
  refine ExL.nil ?_
  refine Ex.block ?_
  refine Ex.loopK (X := Nat) (fun k => [(1, .int .i64 (v / prod (s.take k))), (6, .int .i64 k)]) (fun k => [.blk b2 ((Sx.part 0 (digs s v) k).flatMap (eI .u8)) 34]) (fun k => k ≤ s.length) (fun k => s.length - k) 0 [(0, _), (4, _), (5, _)] [_] 2 [0, 1] ⟨agI (by simp [prod]), rfl, trivial⟩ ⟨rfl, rfl, rfl, trivial⟩ (pkB (by rw [part_zero, digs_len]; rfl)) rfl (Nat.zero_le _) (fun k hI => ?_)
  have hI : k ≤ s.length := hI
  refine Ex.seq ?_
  refine Ex.regSeq (ExL.pures 3 rfl ?_)
  refine ExL.lss rfl rfl rfl rfl rfl rfl (fun h3 => ?_) (fun h3 => ?_)
  · refine ExL.nil ?_
    refine Ex.cond_t rfl ?_
    refine Ex.skip ?_
    refine Ex.seq ?_
    refine Ex.block ?_
    have hk : k < s.length := by omega
    have hb := hS.bases k hk
    have hx : 0 ≤ v / prod (s.take k) % s.getD k 0 ∧ v / prod (s.take k) % s.getD k 0 < s.getD k 0 := dAt_bd hS.bases hk
    have hp := prod_pos (hS.bases.take k)
    have hd0 := Int.ediv_nonneg hv0.1 (show 0 ≤ prod (s.take k) by omega)
    have hd1 := Int.ediv_le_self (prod (s.take k)) hv0.1
    refine Ex.regSeq (ExL.pures 4 rfl ?_)
    refine ExL.free (fr_indexAddrF (Reads.old hs) (eI_len .u8) rfl rfl rfl rfl rfl rfl (by omega)) rfl rfl rfl ?_
    refine ExL.free (fr_load rfl rfl rfl rfl (by first | exact cellN (Reads.old hs) (eI_len .u8) 0 0 rfl (by omega) rfl | exact cellF (Reads.old hs) (eI_len .u8) 0 0 rfl (by omega) rfl)) rfl rfl rfl ?_
    refine ExL.free (by first | exact fr_conv64 rfl rfl rfl rfl (by omega) | exact fr_conv rfl rfl rfl rfl) rfl rfl rfl ?_
    refine ExL.free (by first | exact fr_remP rfl rfl rfl (by omega) | exact fr_rem rfl rfl rfl (by omega)) rfl rfl rfl ?_
    refine ExL.free (by first | exact fr_conv_u8 rfl rfl rfl rfl (by omega) | exact fr_conv rfl rfl rfl rfl) rfl rfl rfl ?_
    refine ExL.free (fr_indexAddr_b (sz := 1) rfl rfl rfl rfl rfl (by omega)) rfl rfl rfl ?_
    refine ExL.op rfl (op_store (i := 0) rfl rfl rfl rfl rfl rfl rfl rfl (room (eI_len .u8) (k := k) (part_lt (by rw [digs_len]; omega) (by rw [digs_len]; omega)) (by simp) rfl) rfl ?_)
    refine ExL.nil ?_
    refine Ex.region (ExL.pures 3 rfl ?_)
    refine ExL.free (fr_indexAddrF (Reads.old hs) (eI_len .u8) rfl rfl rfl rfl rfl rfl (by omega)) rfl rfl rfl ?_
    refine ExL.free (fr_load rfl rfl rfl rfl (by first | exact cellN (Reads.old hs) (eI_len .u8) 0 0 rfl (by omega) rfl | exact cellF (Reads.old hs) (eI_len .u8) 0 0 rfl (by omega) rfl)) rfl rfl rfl ?_
    refine ExL.free (by first | exact fr_conv64 rfl rfl rfl rfl (by omega) | exact fr_conv rfl rfl rfl rfl) rfl rfl rfl ?_
    refine ExL.free (by first | exact fr_quo64 rfl rfl rfl (by omega) | exact fr_quo rfl rfl rfl (by omega)) rfl rfl rfl ?_
    refine ExL.pures 1 rfl ?_
    refine ExL.nil ?_
    refine Ex.region (ExL.pures 1 rfl ?_)
    refine ExL.free (by first | exact fr_add64 rfl rfl rfl (by omega) | exact fr_add rfl rfl rfl) rfl rfl rfl ?_
    refine ExL.pures 1 rfl ?_
    refine ExL.nil ?_
    refine Hand.mk (k + 1) 2 [0, 1] ⟨agI (div_prod hS.bases hk), rfl, trivial⟩ ⟨rfl, rfl, rfl, trivial⟩ (pkB (part_put (eI_len .u8) 0 0 (digs s v) k (by rw [digs_len]; omega) (by simp) (congrArg (eI .u8) (digs_lo h8 hk).symm))) rfl (by omega) (by omega)
  · refine ExL.nil ?_
    refine Ex.cond_f rfl ?_
    refine Ex.exit ?_
    obtain rfl : k = s.length := (by omega)
    rw [digs_part h8, ← encD_dig (digs_len s v)]
    refine Ex.regSeq (ExL.pures 0 rfl ?_)
    refine ExL.free (fr_loadN rfl rfl rfl rfl rfl (SegO.whole (i := 0) rfl)) rfl rfl rfl ?_
    refine ExL.op rfl (op_storeC (i := 1) rfl rfl rfl rfl rfl rfl rfl rfl rfl rfl ?_)
    refine ExL.nil ?_
    refine Ex.ret ?_
    refine RetQ.mk () rfl (.cell rfl (.many rfl rfl rfl (SegO.whole (i := 1) rfl)) .nil) (rfl) [] (rfl) rfl (trivial)
theorem e_55 : Enters Tryz.prog 55 := Enters.of Tryz.func55 rfl
theorem c_hasValue (s : List Int) (hu : Nums 255 s) (As : Option Addr) (cs : Nat) (hl : s.length ≤ maxLen) (v : Int) : Ret Tryz.prog 55 [.slice As s.length cs, .int .i64 v] (fun w => Rd w As (s.flatMap (eI .u8))) (fun x : Unit => .bool (decide (0 ≤ v ∧ v ≤ size s - 1))) (fun x => []) (fun x => True) := by
  refine Ret.of e_55 Tryz.func55 rfl Tryz.ntmps55 rfl rfl (fun w hpre => ?_)
  have hs := hpre.base
  have hz := size_bd hu s.length
  rw [List.take_length] at hz
  refine Ex.regSeq (ExL.pures 1 rfl ?_)
  refine ExL.nil ?_
  refine Ex.regSeq (ExL.pures 2 rfl ?_)
  refine ExL.op rfl (op_ret rfl rfl rfl (c_size _ (by assumption) _ _ (by first | assumption | omega | (unfold maxLen; omega))) (Reads.get (Reads.old hs)) rfl rfl (fun x1 hx1 => ?_))
  refine ExL.free (by first | exact fr_sub64 rfl rfl rfl (by omega) | exact fr_sub rfl rfl rfl) rfl rfl rfl ?_
  refine ExL.op rfl (op_ret rfl rfl rfl (c_within _ _ _) (fun _ _ => trivial) rfl rfl (fun x2 hx2 => ?_))
  refine ExL.pures 1 rfl ?_
  refine ExL.nil ?_
  refine Ex.ret ?_
  refine RetQ.mk () rfl (.tmp rfl .nil) (rfl) [] (rfl) rfl (trivial)
end Go.Proofs.YtdgfalhfmboalaaGreatDoor

/- What these functions of the program hand back, each proved by walking its operations. -/
set_option linter.unusedVariables false
set_option linter.unusedSimpArgs false
set_option maxRecDepth 4000
namespace Go.Proofs.YtdgfalhfmboalaaGreatDoor
open Go Go.Sx Go.RowKit Go.W Go.Proofs
attribute [local irreducible] Ex ExL ExD Op1 Free RetQ MutQ Reads CellO SegO LoadsAs
theorem e_66 : Enters Tryz.prog 66 := Enters.of Tryz.func66 rfl
theorem c_has (m : VMk) (hm : OkMk m) (d : Int) (hd : 0 ≤ d ∧ d ≤ 127) : Ret Tryz.prog 66 [.agg (encMk m).toArray, .int .i64 d] (fun w => True) (fun x : Unit => .bool (hasM m d.toNat)) (fun x => []) (fun x => True) := by
  refine Ret.of e_66 Tryz.func66 rfl Tryz.ntmps66 rfl rfl (fun w hpre => ?_)
  obtain ⟨d, rfl⟩ := Int.eq_ofNat_of_zero_le hd.1
  refine Ex.regSeq (ExL.pures 0 rfl ?_)
  refine ExL.op rfl (op_box rfl rfl rfl rfl rfl (fun b1 => ?_))
  refine ExL.pures 1 rfl ?_
  refine ExL.nil ?_
  refine Ex.regSeq (ExL.pures 1 rfl ?_)
  refine ExL.free (fr_quoW ((d / 64 : Nat) : Int) rfl rfl rfl (by omega) (quo64 (by omega))) rfl rfl rfl ?_
  refine ExL.free (fr_indexAddr_b (sz := 1) rfl rfl rfl rfl rfl (by omega)) rfl rfl rfl ?_
  refine ExL.free (fr_load rfl rfl rfl rfl (CellO.blk (i := 0) rfl (blkG (eI_len .u64) 0 rfl (by rw [mk_len]; omega) rfl))) rfl rfl rfl ?_
  refine ExL.pures 1 rfl ?_
  refine ExL.free (by first | exact fr_remP rfl rfl rfl (by omega) | exact fr_rem rfl rfl rfl (by omega)) rfl rfl rfl ?_
  refine ExL.free (fr_shr rfl rfl rfl (by omega)) rfl rfl rfl ?_
  refine ExL.free (by first | exact fr_and255 rfl rfl rfl (by omega) | exact fr_bits rfl rfl rfl (by simp)) rfl rfl rfl ?_
  refine ExL.free (fr_eql rfl rfl rfl) rfl rfl rfl ?_
  refine ExL.pures 1 rfl ?_
  refine ExL.nil ?_
  refine Ex.ret ?_
  refine RetQ.mk () rfl (.tmp rfl .nil) (tB (by first | exact has_dec hm (by omega) | (exfalso; omega))) [] (rfl) rfl (trivial)
theorem e_90 : Enters Tryz.prog 90 := Enters.of Tryz.func90 rfl
theorem c_l05Has (m : VMk) (hm : OkMk m) (d : Int) (hd : 0 ≤ d ∧ d ≤ 127) : Ret Tryz.prog 90 [.agg (encMk m).toArray, .int .i64 d] (fun w => True) (fun x : Unit => .bool (hasM m d.toNat)) (fun x => []) (fun x => True) := by
  refine Ret.of e_90 Tryz.func90 rfl Tryz.ntmps90 rfl rfl (fun w hpre => ?_)
  obtain ⟨d, rfl⟩ := Int.eq_ofNat_of_zero_le hd.1
  refine Ex.regSeq (ExL.pures 0 rfl ?_)
  refine ExL.op rfl (op_box rfl rfl rfl rfl rfl (fun b1 => ?_))
  refine ExL.pures 1 rfl ?_
  refine ExL.nil ?_
  refine Ex.regSeq (ExL.pures 1 rfl ?_)
  refine ExL.op rfl (op_ret rfl rfl rfl (c_l00In _ _ _) (fun _ _ => trivial) rfl rfl (fun x2 hx2 => ?_))
  refine ExL.pures 1 rfl ?_
  refine ExL.bool (d := 7) rfl (fun hb3 => ?_) (fun hb3 => ?_)
  · replace hb3 := of_decide_eq_true hb3
    refine ExL.pures 1 rfl ?_
    refine ExL.free (fr_quoW ((d / 64 : Nat) : Int) rfl rfl rfl (by omega) (quo64 (by omega))) rfl rfl rfl ?_
    refine ExL.free (fr_indexAddr_b (sz := 1) rfl rfl rfl rfl rfl (by omega)) rfl rfl rfl ?_
    refine ExL.free (fr_load rfl rfl rfl rfl (CellO.blk (i := 0) rfl (blkG (eI_len .u64) 0 rfl (by rw [mk_len]; omega) rfl))) rfl rfl rfl ?_
    refine ExL.pures 1 rfl ?_
    refine ExL.free (by first | exact fr_remP rfl rfl rfl (by omega) | exact fr_rem rfl rfl rfl (by omega)) rfl rfl rfl ?_
    refine ExL.free (by first | exact fr_conv_u64 rfl rfl rfl rfl (by omega) | exact fr_conv rfl rfl rfl rfl) rfl rfl rfl ?_
    refine ExL.free (fr_shr rfl rfl rfl (by omega)) rfl rfl rfl ?_
    refine ExL.free (by first | exact fr_and255 rfl rfl rfl (by omega) | exact fr_bits rfl rfl rfl (by simp)) rfl rfl rfl ?_
    refine ExL.free (fr_eql rfl rfl rfl) rfl rfl rfl ?_
    refine ExL.pures 2 rfl ?_
    refine ExL.nil ?_
    refine Ex.ret ?_
    refine RetQ.mk () rfl (.tmp rfl .nil) (tB (by first | exact has_dec hm (by omega) | (exfalso; omega))) [] (rfl) rfl (trivial)
  · replace hb3 := of_decide_eq_false hb3
    refine ExL.pures 12 rfl ?_
    refine ExL.nil ?_
    refine Ex.ret ?_
    refine RetQ.mk () rfl (.tmp rfl .nil) (tB (by first | exact has_dec hm (by omega) | (exfalso; omega))) [] (rfl) rfl (trivial)
theorem e_71 : Enters Tryz.prog 71 := Enters.of Tryz.func71 rfl
theorem c_l05Put (m : VMk) (hm : OkMk m) (d : Int) (hd : 0 ≤ d ∧ d ≤ 127) : Ret Tryz.prog 71 [.agg (encMk m).toArray, .int .i64 d] (fun w => True) (fun x : Unit => .agg (encMk (putM m d.toNat)).toArray) (fun x => []) (fun x => True) := by
  refine Ret.of e_71 Tryz.func71 rfl Tryz.ntmps71 rfl rfl (fun w hpre => ?_)
  obtain ⟨d, rfl⟩ := Int.eq_ofNat_of_zero_le hd.1
  refine Ex.regSeq (ExL.pures 0 rfl ?_)
  refine ExL.op rfl (op_box rfl rfl rfl rfl rfl (fun b1 => ?_))
  refine ExL.op rfl (op_alloc rfl rfl rfl rfl rfl (fun b2 => ?_))
  refine ExL.nil ?_
  refine Ex.regSeq (ExL.pures 1 rfl ?_)
  refine ExL.free (fr_quoW ((d / 64 : Nat) : Int) rfl rfl rfl (by omega) (quo64 (by omega))) rfl rfl rfl ?_
  refine ExL.free (fr_indexAddr_b (sz := 1) rfl rfl rfl rfl rfl (by omega)) rfl rfl rfl ?_
  refine ExL.free (fr_load rfl rfl rfl rfl (CellO.blk (i := 1) rfl (blkG (eI_len .u64) 0 rfl (by rw [mk_len]; omega) rfl))) rfl rfl rfl ?_
  refine ExL.pures 1 rfl ?_
  refine ExL.free (by first | exact fr_remP rfl rfl rfl (by omega) | exact fr_rem rfl rfl rfl (by omega)) rfl rfl rfl ?_
  refine ExL.free (by first | exact fr_conv_u64 rfl rfl rfl rfl (by omega) | exact fr_conv rfl rfl rfl rfl) rfl rfl rfl ?_
  refine ExL.free (fr_shl rfl rfl rfl (by omega)) rfl rfl rfl ?_
  refine ExL.free (by first | exact fr_and255 rfl rfl rfl (by omega) | exact fr_bits rfl rfl rfl (by simp)) rfl rfl rfl ?_
  refine ExL.free (fr_indexAddr_b (sz := 1) rfl rfl rfl rfl rfl (by omega)) rfl rfl rfl ?_
  refine ExL.op rfl (op_store (i := 1) rfl rfl rfl rfl rfl rfl rfl rfl (room (eI_len .u64) (k := (↑(d / 64) : Int).toNat) (by rw [mk_len]; omega) (by simp) rfl) rfl ?_)
  refine ExL.nil ?_
  rw [put_walk hm (by omega)]
  refine Ex.regSeq (ExL.pures 0 rfl ?_)
  refine ExL.free (fr_loadN rfl rfl rfl rfl rfl (SegO.whole (i := 1) rfl)) rfl rfl rfl ?_
  refine ExL.op rfl (op_storeC (i := 0) rfl rfl rfl rfl rfl rfl rfl rfl rfl rfl ?_)
  refine ExL.nil ?_
  refine Ex.ret ?_
  refine RetQ.mk () rfl (.cell rfl (.many rfl rfl rfl (SegO.whole (i := 0) rfl)) .nil) (rfl) [] (rfl) rfl (trivial)
theorem e_67 : Enters Tryz.prog 67 := Enters.of Tryz.func67 rfl
theorem c_with (m : VMk) (hm : OkMk m) (d : Int) (hd : 0 ≤ d ∧ d ≤ 127) : Ret Tryz.prog 67 [.agg (encMk m).toArray, .int .i64 d, .bool true] (fun w => True) (fun x : Unit => .agg (encMk (putM m d.toNat)).toArray) (fun x => []) (fun x => True) := by
  refine Ret.of e_67 Tryz.func67 rfl Tryz.ntmps67 rfl rfl (fun w hpre => ?_)
  obtain ⟨d, rfl⟩ := Int.eq_ofNat_of_zero_le hd.1
  refine Ex.regSeq (ExL.pures 0 rfl ?_)
  refine ExL.op rfl (op_box rfl rfl rfl rfl rfl (fun b1 => ?_))
  refine ExL.op rfl (op_alloc rfl rfl rfl rfl rfl (fun b2 => ?_))
  refine ExL.nil ?_
  refine Ex.regSeq (ExL.pures 1 rfl ?_)
  refine ExL.free (by first | exact fr_remP rfl rfl rfl (by omega) | exact fr_rem rfl rfl rfl (by omega)) rfl rfl rfl ?_
  refine ExL.free (fr_shl rfl rfl rfl (by omega)) rfl rfl rfl ?_
  refine ExL.pures 1 rfl ?_
  refine ExL.nil ?_
  refine Ex.seq ?_
  refine Ex.regSeq (ExL.pures 1 rfl ?_)
  refine ExL.nil ?_
  refine Ex.cond_t rfl ?_
  refine Ex.region (ExL.pures 1 rfl ?_)
  refine ExL.free (fr_quoW ((d / 64 : Nat) : Int) rfl rfl rfl (by omega) (quo64 (by omega))) rfl rfl rfl ?_
  refine ExL.free (fr_indexAddr_b (sz := 1) rfl rfl rfl rfl rfl (by omega)) rfl rfl rfl ?_
  refine ExL.free (fr_load rfl rfl rfl rfl (CellO.blk (i := 1) rfl (blkG (eI_len .u64) 0 rfl (by rw [mk_len]; omega) rfl))) rfl rfl rfl ?_
  refine ExL.pures 1 rfl ?_
  refine ExL.free (by first | exact fr_and255 rfl rfl rfl (by omega) | exact fr_bits rfl rfl rfl (by simp)) rfl rfl rfl ?_
  refine ExL.free (fr_indexAddr_b (sz := 1) rfl rfl rfl rfl rfl (by omega)) rfl rfl rfl ?_
  refine ExL.op rfl (op_store (i := 1) rfl rfl rfl rfl rfl rfl rfl rfl (room (eI_len .u64) (k := (↑(d / 64) : Int).toNat) (by rw [mk_len]; omega) (by simp) rfl) rfl ?_)
  refine ExL.nil ?_
  rw [put_walk hm (by omega)]
  refine Ex.regSeq (ExL.pures 0 rfl ?_)
  refine ExL.free (fr_loadN rfl rfl rfl rfl rfl (SegO.whole (i := 1) rfl)) rfl rfl rfl ?_
  refine ExL.op rfl (op_storeC (i := 0) rfl rfl rfl rfl rfl rfl rfl rfl rfl rfl ?_)
  refine ExL.nil ?_
  refine Ex.ret ?_
  refine RetQ.mk () rfl (.cell rfl (.many rfl rfl rfl (SegO.whole (i := 0) rfl)) .nil) (rfl) [] (rfl) rfl (trivial)
theorem e_68 : Enters Tryz.prog 68 := Enters.of Tryz.func68 rfl
theorem c_below (b : Int) (hb : 0 ≤ b ∧ b ≤ 128) : Ret Tryz.prog 68 [.int .i64 b] (fun w => True) (fun x : Unit => .agg (encMk (fullM b.toNat)).toArray) (fun x => []) (fun x => True) := by
  refine Ret.of e_68 Tryz.func68 rfl Tryz.ntmps68 rfl rfl (fun w hpre => ?_)
  refine Ex.regSeq (ExL.pures 0 rfl ?_)
  refine ExL.op rfl (op_alloc rfl rfl rfl rfl rfl (fun b1 => ?_))
  refine ExL.nil ?_
  refine Ex.regSeq (ExL.pures 0 rfl ?_)
  refine ExL.free (fr_build rfl rfl rfl rfl) rfl rfl rfl ?_
  refine ExL.op rfl (op_alloc rfl rfl rfl rfl rfl (fun b2 => ?_))
  refine ExL.op rfl (op_storeC (i := 0) rfl rfl rfl rfl rfl rfl rfl rfl rfl rfl ?_)
  refine ExL.nil ?_
  refine Ex.seq ?_
  refine Ex.regSeq (ExL.pures 2 rfl ?_)
  refine ExL.nil ?_
  refine Ex.block ?_
  refine Ex.loopK (X := Nat) (fun k => [(7, .int .i64 k)]) (fun k => [.blk b2 (encMk (fullM k)) 29]) (fun k => (k : Int) ≤ b) (fun k => b.toNat - k) 0 [(2, _), (3, _), (6, _)] [_] 2 [0, 1] ⟨rfl, trivial⟩ ⟨rfl, rfl, rfl, trivial⟩ (rfl) rfl (by omega) (fun k hI => ?_)
  have hI : (k : Int) ≤ b := hI
  have hbk := hb
  refine Ex.regSeq (ExL.pures 0 rfl ?_)
  refine ExL.lss rfl rfl rfl rfl rfl rfl (fun h3 => ?_) (fun h3 => ?_)
  · refine ExL.nil ?_
    refine Ex.seq ?_
    refine Ex.cond_t rfl ?_
    refine Ex.skip ?_
    refine Ex.seq ?_
    refine Ex.block ?_
    refine Ex.regSeq (ExL.pures 2 rfl ?_)
    refine ExL.nil ?_
    refine Ex.region (ExL.pures 0 rfl ?_)
    refine ExL.free (fr_loadN rfl rfl rfl rfl rfl (SegO.whole (i := 0) rfl)) rfl rfl rfl ?_
    refine ExL.pures 1 rfl ?_
    refine ExL.op rfl (op_ret rfl rfl rfl (c_with (fullM k) (fullM_ok (by omega)) _ (by omega)) (fun _ _ => trivial) rfl rfl (fun x4 hx4 => ?_))
    refine ExL.op rfl (op_storeC (i := 0) rfl rfl rfl rfl rfl rfl rfl rfl rfl rfl ?_)
    refine ExL.nil ?_
    refine Ex.region (ExL.pures 0 rfl ?_)
    refine ExL.free (by first | exact fr_add64 rfl rfl rfl (by omega) | exact fr_add rfl rfl rfl) rfl rfl rfl ?_
    refine ExL.pures 1 rfl ?_
    refine ExL.nil ?_
    refine Hand.mk (k + 1) 2 [0, 1] ⟨rfl, trivial⟩ ⟨rfl, rfl, rfl, trivial⟩ (rfl) rfl (by omega) (by omega)
  · refine ExL.nil ?_
    refine Ex.seq ?_
    refine Ex.cond_f rfl ?_
    refine Ex.exit ?_
    obtain rfl : b = (k : Int) := (by omega)
    refine Ex.regSeq (ExL.pures 0 rfl ?_)
    refine ExL.free (fr_loadN rfl rfl rfl rfl rfl (SegO.whole (i := 0) rfl)) rfl rfl rfl ?_
    refine ExL.op rfl (op_storeC (i := 1) rfl rfl rfl rfl rfl rfl rfl rfl rfl rfl ?_)
    refine ExL.nil ?_
    refine Ex.ret ?_
    refine RetQ.mk () rfl (.cell rfl (.many rfl rfl rfl (SegO.whole (i := 1) rfl)) .nil) (rfl) [] (rfl) rfl (trivial)
theorem e_76 : Enters Tryz.prog 76 := Enters.of Tryz.func76 rfl
theorem c_l05Full (b : Int) (hb : 0 ≤ b ∧ b ≤ 128) : Ret Tryz.prog 76 [.int .u8 b] (fun w => True) (fun x : Unit => .agg (encMk (fullM b.toNat)).toArray) (fun x => []) (fun x => True) := by
  refine Ret.of e_76 Tryz.func76 rfl Tryz.ntmps76 rfl rfl (fun w hpre => ?_)
  refine Ex.regSeq (ExL.pures 0 rfl ?_)
  refine ExL.op rfl (op_alloc rfl rfl rfl rfl rfl (fun b1 => ?_))
  refine ExL.nil ?_
  refine Ex.regSeq (ExL.pures 0 rfl ?_)
  refine ExL.free (fr_build rfl rfl rfl rfl) rfl rfl rfl ?_
  refine ExL.op rfl (op_alloc rfl rfl rfl rfl rfl (fun b2 => ?_))
  refine ExL.op rfl (op_storeC (i := 0) rfl rfl rfl rfl rfl rfl rfl rfl rfl rfl ?_)
  refine ExL.nil ?_
  refine Ex.seq ?_
  refine Ex.regSeq (ExL.pures 1 rfl ?_)
  refine ExL.nil ?_
  refine Ex.block ?_
  refine Ex.loopK (X := Nat) (fun k => [(4, .int .i64 k)]) (fun k => [.blk b2 (encMk (fullM k)) 29]) (fun k => (k : Int) ≤ b) (fun k => b.toNat - k) 0 [(0, _), (2, _), (3, _)] [_] 2 [0, 1] ⟨rfl, trivial⟩ ⟨rfl, rfl, rfl, trivial⟩ (rfl) rfl (by omega) (fun k hI => ?_)
  have hI : (k : Int) ≤ b := hI
  have hbk := hb
  refine Ex.seq ?_
  refine Ex.regSeq (ExL.pures 2 rfl ?_)
  refine ExL.free (by first | exact fr_conv64 rfl rfl rfl rfl (by omega) | exact fr_conv rfl rfl rfl rfl) rfl rfl rfl ?_
  refine ExL.lss rfl rfl rfl rfl rfl rfl (fun h3 => ?_) (fun h3 => ?_)
  · refine ExL.nil ?_
    refine Ex.cond_t rfl ?_
    refine Ex.skip ?_
    refine Ex.seq ?_
    refine Ex.block ?_
    refine Ex.region (ExL.pures 0 rfl ?_)
    refine ExL.free (fr_loadN rfl rfl rfl rfl rfl (SegO.whole (i := 0) rfl)) rfl rfl rfl ?_
    refine ExL.pures 1 rfl ?_
    refine ExL.op rfl (op_ret rfl rfl rfl (c_l05Put (fullM k) (fullM_ok (by omega)) _ (by omega)) (fun _ _ => trivial) rfl rfl (fun x4 hx4 => ?_))
    refine ExL.op rfl (op_storeC (i := 0) rfl rfl rfl rfl rfl rfl rfl rfl rfl rfl ?_)
    refine ExL.nil ?_
    refine Ex.region (ExL.pures 1 rfl ?_)
    refine ExL.free (by first | exact fr_add64 rfl rfl rfl (by omega) | exact fr_add rfl rfl rfl) rfl rfl rfl ?_
    refine ExL.pures 1 rfl ?_
    refine ExL.nil ?_
    refine Hand.mk (k + 1) 2 [0, 1] ⟨rfl, trivial⟩ ⟨rfl, rfl, rfl, trivial⟩ (rfl) rfl (by omega) (by omega)
  · refine ExL.nil ?_
    refine Ex.cond_f rfl ?_
    refine Ex.exit ?_
    obtain rfl : b = (k : Int) := (by omega)
    refine Ex.regSeq (ExL.pures 0 rfl ?_)
    refine ExL.free (fr_loadN rfl rfl rfl rfl rfl (SegO.whole (i := 0) rfl)) rfl rfl rfl ?_
    refine ExL.op rfl (op_storeC (i := 1) rfl rfl rfl rfl rfl rfl rfl rfl rfl rfl ?_)
    refine ExL.nil ?_
    refine Ex.ret ?_
    refine RetQ.mk () rfl (.cell rfl (.many rfl rfl rfl (SegO.whole (i := 1) rfl)) .nil) (rfl) [] (rfl) rfl (trivial)
theorem e_93 : Enters Tryz.prog 93 := Enters.of Tryz.func93 rfl
theorem c_l05Within (m n : VMk) : Ret Tryz.prog 93 [.agg (encMk m).toArray, .agg (encMk n).toArray] (fun w => True) (fun x : Unit => .bool (subM m n)) (fun x => []) (fun x => True) := by
  refine Ret.of e_93 Tryz.func93 rfl Tryz.ntmps93 rfl rfl (fun w hpre => ?_)
  refine Ex.regSeq (ExL.pures 0 rfl ?_)
  refine ExL.op rfl (op_box rfl rfl rfl rfl rfl (fun b1 => ?_))
  refine ExL.op rfl (op_box rfl rfl rfl rfl rfl (fun b2 => ?_))
  refine ExL.pures 1 rfl ?_
  refine ExL.nil ?_
  refine Ex.regSeq (ExL.pures 0 rfl ?_)
  refine ExL.free (fr_indexAddr_b (sz := 1) rfl rfl rfl rfl rfl (by omega)) rfl rfl rfl ?_
  refine ExL.free (fr_load rfl rfl rfl rfl (CellO.blk (i := 1) rfl rfl)) rfl rfl rfl ?_
  refine ExL.free (fr_indexAddr_b (sz := 1) rfl rfl rfl rfl rfl (by omega)) rfl rfl rfl ?_
  refine ExL.free (fr_load rfl rfl rfl rfl (CellO.blk (i := 0) rfl rfl)) rfl rfl rfl ?_
  refine ExL.free (by first | exact fr_and255 rfl rfl rfl (by omega) | exact fr_bits rfl rfl rfl (by simp)) rfl rfl rfl ?_
  refine ExL.eql rfl rfl rfl rfl rfl rfl (fun h3 => ?_) (fun h3 => ?_)
  · refine ExL.pures 1 rfl ?_
    refine ExL.free (fr_indexAddr_b (sz := 1) rfl rfl rfl rfl rfl (by omega)) rfl rfl rfl ?_
    refine ExL.free (fr_load rfl rfl rfl rfl (CellO.blk (i := 1) rfl rfl)) rfl rfl rfl ?_
    refine ExL.free (fr_indexAddr_b (sz := 1) rfl rfl rfl rfl rfl (by omega)) rfl rfl rfl ?_
    refine ExL.free (fr_load rfl rfl rfl rfl (CellO.blk (i := 0) rfl rfl)) rfl rfl rfl ?_
    refine ExL.free (by first | exact fr_and255 rfl rfl rfl (by omega) | exact fr_bits rfl rfl rfl (by simp)) rfl rfl rfl ?_
    refine ExL.eql rfl rfl rfl rfl rfl rfl (fun h4 => ?_) (fun h4 => ?_)
    · refine ExL.pures 2 rfl ?_
      refine ExL.nil ?_
      refine Ex.ret ?_
      refine RetQ.mk () rfl (.tmp rfl .nil) (tB (by rw [sub_dec]; first | (rw [dec_f (by assumption)]; done) | simp_all)) [] (rfl) rfl (trivial)
    · refine ExL.pures 2 rfl ?_
      refine ExL.nil ?_
      refine Ex.ret ?_
      refine RetQ.mk () rfl (.tmp rfl .nil) (tB (by rw [sub_dec]; first | (rw [dec_f (by assumption)]; done) | simp_all)) [] (rfl) rfl (trivial)
  · refine ExL.pures 9 rfl ?_
    refine ExL.nil ?_
    refine Ex.ret ?_
    refine RetQ.mk () rfl (.tmp rfl .nil) (tB (by rw [sub_dec]; first | (rw [dec_f (by assumption)]; done) | simp_all)) [] (rfl) rfl (trivial)
end Go.Proofs.YtdgfalhfmboalaaGreatDoor

/- What these functions of the program hand back, each proved by walking its operations. -/
set_option linter.unusedVariables false
set_option linter.unusedSimpArgs false
set_option maxRecDepth 4000
namespace Go.Proofs.YtdgfalhfmboalaaGreatDoor
open Go Go.Sx Go.RowKit Go.W Go.Proofs
attribute [local irreducible] Ex ExL ExD Op1 Free RetQ MutQ Reads CellO SegO LoadsAs
theorem e_54 : Enters Tryz.prog 54 := Enters.of Tryz.func54 rfl
theorem c_photoOK (s : List Int) (hv : validStack s = true) (As : Option Addr) (cs : Nat) (p : VPh) (hp : OkPh p) : Ret Tryz.prog 54 [.slice As s.length cs, .agg (encPh p).toArray] (fun w => Rd w As (s.flatMap (eI .u8))) (fun x : Unit => .bool (photoOk s p.l)) (fun x => []) (fun x => True) := by
  refine Ret.of e_54 Tryz.func54 rfl Tryz.ntmps54 rfl rfl (fun w hpre => ?_)
  have hs := hpre.base
  have hS := stk hv
  have h8 := hS.len8
  have hm0 : maxLen = 9223372036854775807 := rfl
  refine Ex.regSeq (ExL.pures 0 rfl ?_)
  refine ExL.op rfl (op_box rfl rfl rfl rfl rfl (fun b1 => ?_))
  refine ExL.pures 1 rfl ?_
  refine ExL.nil ?_
  refine Ex.seq ?_
  refine Ex.regSeq (ExL.pures 0 rfl ?_)
  refine ExL.free (fr_loadN rfl rfl rfl rfl rfl (SegO.whole (i := 0) rfl)) rfl rfl rfl ?_
  refine ExL.pures 1 rfl ?_
  refine ExL.nil ?_
  refine Ex.block ?_
  refine Ex.loopK (X := Nat) (fun k => [(9, .int .i64 k)]) (fun k => []) (fun k => k ≤ 8 ∧ ∀ i, i < k → phAt s p.l i = true) (fun k => 8 - k) 0 [(0, _), (8, _)] [] 1 [] ⟨rfl, trivial⟩ ⟨rfl, rfl, trivial⟩ (rfl) rfl ⟨Nat.zero_le _, fun i hi => by omega⟩ (fun k hI => ?_)
  have hI : k ≤ 8 ∧ ∀ i, i < k → phAt s p.l i = true := hI
  obtain ⟨hk, hall⟩ := hI
  refine Ex.regSeq (ExL.pures 0 rfl ?_)
  refine ExL.lss rfl rfl rfl rfl rfl rfl (fun h2 => ?_) (fun h2 => ?_)
  · refine ExL.nil ?_
    refine Ex.seq ?_
    refine Ex.cond_t rfl ?_
    refine Ex.skip ?_
    refine Ex.seq ?_
    refine Ex.block ?_
    refine Ex.regSeq (ExL.pures 1 rfl ?_)
    refine ExL.free (fr_indexG encMk_len zMk rfl rfl rfl rfl rfl rfl rfl rfl (by rw [ph_len]; omega)) rfl rfl rfl ?_
    refine ExL.op rfl (op_alloc rfl rfl rfl rfl rfl (fun b3 => ?_))
    refine ExL.pures 1 rfl ?_
    refine ExL.op rfl (op_storeC (i := 0) rfl rfl rfl rfl rfl rfl rfl rfl rfl rfl ?_)
    refine ExL.nil ?_
    refine Ex.seq ?_
    refine Ex.regSeq (ExL.pures 3 rfl ?_)
    refine ExL.geq rfl rfl rfl rfl rfl rfl (fun h4 => ?_) (fun h4 => ?_)
    · refine ExL.nil ?_
      refine Ex.cond_t rfl ?_
      refine Ex.seq ?_
      refine Ex.regSeq (ExL.pures 0 rfl ?_)
      refine ExL.free (fr_loadN rfl rfl rfl rfl rfl (SegO.whole (i := 0) rfl)) rfl rfl rfl ?_
      refine ExL.free (fr_build rfl rfl rfl rfl) rfl rfl rfl ?_
      refine ExL.free (fr_neq_ints (p.l.getD k zMk).l [0, 0] rfl rfl rfl rfl rfl rfl rfl rfl rfl rfl) rfl rfl rfl ?_
      refine ExL.nil ?_
      refine Ex.cond rfl (fun hb5 => ?_) (fun hb5 => ?_)
      · refine Ex.regSeq (ExL.pures 1 rfl ?_)
        refine ExL.nil ?_
        refine Ex.ret ?_
        refine RetQ.mk () rfl (.tmp rfl .nil) (tB (by first | exact po_all (by omega) hall | exact po_no (k := k) (by omega) (by first | exact pa_1 (by omega) (by assumption) | exact pa_2 (by omega) (by assumption) | exact pa_3 (by omega) (by assumption) | exact pa_5 (by omega) (by assumption) | exact pa_2s (by omega) (by assumption)))) [] (rfl) rfl (trivial)
      · refine Ex.skip ?_
        refine Ex.exit ?_
        refine Ex.region (ExL.pures 0 rfl ?_)
        refine ExL.free (by first | exact fr_add64 rfl rfl rfl (by omega) | exact fr_add rfl rfl rfl) rfl rfl rfl ?_
        refine ExL.pures 1 rfl ?_
        refine ExL.nil ?_
        refine Hand.mk (k + 1) 1 [] ⟨rfl, trivial⟩ ⟨rfl, rfl, trivial⟩ (rfl) rfl (⟨by omega, all_snoc hall (by first | exact pa_6 (by omega) (by assumption) | exact pa_4 (by omega) (by assumption) (by omega) (by omega) | exact pa_4s (by omega) (by assumption) (by assumption))⟩) (by omega)
    · refine ExL.nil ?_
      refine Ex.cond_f rfl ?_
      refine Ex.skip ?_
      have hbk := hS.bases k (by omega)
      refine Ex.regSeq (ExL.pures 2 rfl ?_)
      refine ExL.free (fr_indexAddrF (Reads.old hs) (eI_len .u8) rfl rfl rfl rfl rfl rfl (by omega)) rfl rfl rfl ?_
      refine ExL.free (fr_load rfl rfl rfl rfl (by first | exact cellN (Reads.old hs) (eI_len .u8) 0 0 rfl (by omega) rfl | exact cellF (Reads.old hs) (eI_len .u8) 0 0 rfl (by omega) rfl)) rfl rfl rfl ?_
      refine ExL.free (by first | exact fr_conv64 rfl rfl rfl rfl (by omega) | exact fr_conv rfl rfl rfl rfl) rfl rfl rfl ?_
      refine ExL.op rfl (op_ret rfl rfl rfl (c_below (s.getD k 0) (by omega)) (fun _ _ => trivial) rfl rfl (fun x6 hx6 => ?_))
      refine ExL.op rfl (op_alloc rfl rfl rfl rfl rfl (fun b7 => ?_))
      refine ExL.op rfl (op_storeC (i := 0) rfl rfl rfl rfl rfl rfl rfl rfl rfl rfl ?_)
      refine ExL.nil ?_
      refine Ex.regSeq (ExL.pures 0 rfl ?_)
      refine ExL.free (fr_loadN rfl rfl rfl rfl rfl (SegO.whole (i := 1) rfl)) rfl rfl rfl ?_
      refine ExL.free (fr_build rfl rfl rfl rfl) rfl rfl rfl ?_
      refine ExL.free (fr_eql_ints (p.l.getD k zMk).l [0, 0] rfl rfl rfl rfl rfl rfl rfl rfl rfl rfl) rfl rfl rfl ?_
      refine ExL.pures 1 rfl ?_
      refine ExL.bool (d := 29) rfl (fun hb8 => ?_) (fun hb8 => ?_)
      · refine ExL.pures 15 rfl ?_
        refine ExL.nil ?_
        refine Ex.cond_t rfl ?_
        refine Ex.regSeq (ExL.pures 1 rfl ?_)
        refine ExL.nil ?_
        refine Ex.ret ?_
        refine RetQ.mk () rfl (.tmp rfl .nil) (tB (by first | exact po_all (by omega) hall | exact po_no (k := k) (by omega) (by first | exact pa_1 (by omega) (by assumption) | exact pa_2 (by omega) (by assumption) | exact pa_3 (by omega) (by assumption) | exact pa_5 (by omega) (by assumption) | exact pa_2s (by omega) (by assumption)))) [] (rfl) rfl (trivial)
      · refine ExL.free (fr_indexAddr_b (sz := 1) rfl rfl rfl rfl rfl (by omega)) rfl rfl rfl ?_
        refine ExL.free (fr_load rfl rfl rfl rfl (CellO.blk (i := 1) rfl rfl)) rfl rfl rfl ?_
        refine ExL.free (fr_indexAddr_b (sz := 1) rfl rfl rfl rfl rfl (by omega)) rfl rfl rfl ?_
        refine ExL.free (fr_load rfl rfl rfl rfl (CellO.blk (i := 0) rfl rfl)) rfl rfl rfl ?_
        refine ExL.free (by first | exact fr_and255 rfl rfl rfl (by omega) | exact fr_bits rfl rfl rfl (by simp)) rfl rfl rfl ?_
        refine ExL.neq rfl rfl rfl rfl rfl rfl (fun h9 => ?_) (fun h9 => ?_)
        · refine ExL.pures 9 rfl ?_
          refine ExL.nil ?_
          refine Ex.cond_t rfl ?_
          refine Ex.regSeq (ExL.pures 1 rfl ?_)
          refine ExL.nil ?_
          refine Ex.ret ?_
          refine RetQ.mk () rfl (.tmp rfl .nil) (tB (by first | exact po_all (by omega) hall | exact po_no (k := k) (by omega) (by first | exact pa_1 (by omega) (by assumption) | exact pa_2 (by omega) (by assumption) | exact pa_3 (by omega) (by assumption) | exact pa_5 (by omega) (by assumption) | exact pa_2s (by omega) (by assumption)))) [] (rfl) rfl (trivial)
        · refine ExL.pures 2 rfl ?_
          refine ExL.free (fr_indexAddr_b (sz := 1) rfl rfl rfl rfl rfl (by omega)) rfl rfl rfl ?_
          refine ExL.free (fr_load rfl rfl rfl rfl (CellO.blk (i := 1) rfl rfl)) rfl rfl rfl ?_
          refine ExL.free (fr_indexAddr_b (sz := 1) rfl rfl rfl rfl rfl (by omega)) rfl rfl rfl ?_
          refine ExL.free (fr_load rfl rfl rfl rfl (CellO.blk (i := 0) rfl rfl)) rfl rfl rfl ?_
          refine ExL.free (by first | exact fr_and255 rfl rfl rfl (by omega) | exact fr_bits rfl rfl rfl (by simp)) rfl rfl rfl ?_
          refine ExL.neq rfl rfl rfl rfl rfl rfl (fun h10 => ?_) (fun h10 => ?_)
          · refine ExL.pures 1 rfl ?_
            refine ExL.nil ?_
            refine Ex.cond_t rfl ?_
            refine Ex.regSeq (ExL.pures 1 rfl ?_)
            refine ExL.nil ?_
            refine Ex.ret ?_
            refine RetQ.mk () rfl (.tmp rfl .nil) (tB (by first | exact po_all (by omega) hall | exact po_no (k := k) (by omega) (by first | exact pa_1 (by omega) (by assumption) | exact pa_2 (by omega) (by assumption) | exact pa_3 (by omega) (by assumption) | exact pa_5 (by omega) (by assumption) | exact pa_2s (by omega) (by assumption)))) [] (rfl) rfl (trivial)
          · refine ExL.pures 1 rfl ?_
            refine ExL.nil ?_
            refine Ex.cond_f rfl ?_
            refine Ex.skip ?_
            refine Ex.region (ExL.pures 0 rfl ?_)
            refine ExL.free (by first | exact fr_add64 rfl rfl rfl (by omega) | exact fr_add rfl rfl rfl) rfl rfl rfl ?_
            refine ExL.pures 1 rfl ?_
            refine ExL.nil ?_
            refine Hand.mk (k + 1) 2 [] ⟨rfl, trivial⟩ ⟨rfl, rfl, trivial⟩ (rfl) rfl (⟨by omega, all_snoc hall (by first | exact pa_6 (by omega) (by assumption) | exact pa_4 (by omega) (by assumption) (by omega) (by omega) | exact pa_4s (by omega) (by assumption) (by assumption))⟩) (by omega)
  · refine ExL.nil ?_
    refine Ex.seq ?_
    refine Ex.cond_f rfl ?_
    refine Ex.exit ?_
    refine Ex.regSeq (ExL.pures 1 rfl ?_)
    refine ExL.nil ?_
    refine Ex.ret ?_
    refine RetQ.mk () rfl (.tmp rfl .nil) (tB (by first | exact po_all (by omega) hall | exact po_no (k := k) (by omega) (by first | exact pa_1 (by omega) (by assumption) | exact pa_2 (by omega) (by assumption) | exact pa_3 (by omega) (by assumption) | exact pa_5 (by omega) (by assumption) | exact pa_2s (by omega) (by assumption)))) [] (rfl) rfl (trivial)
theorem e_64 : Enters Tryz.prog 64 := Enters.of Tryz.func64 rfl
theorem c_l05Ok (s : List Int) (hv : validStack s = true) (As : Option Addr) (cs : Nat) (p : VPh) (hp : OkPh p) (b q : Nat) : Ret Tryz.prog 64 [.slice As s.length cs, .pointer (some ⟨b, q, none⟩)] (fun w => Rd w As (s.flatMap (eI .u8)) ∧ Rd w (some ⟨b, q, none⟩) (encPh p)) (fun x : Unit => .bool (photoOk s p.l)) (fun x => []) (fun x => True) := by
  refine Ret.of e_64 Tryz.func64 rfl Tryz.ntmps64 rfl rfl (fun w hpre => ?_)
  have hpt := hpre.2.base
  have hs := hpre.1.base
  have hS := stk hv
  have h8 := hS.len8
  have hm0 : maxLen = 9223372036854775807 := rfl
  refine Ex.regSeq (ExL.pures 1 rfl ?_)
  refine ExL.nil ?_
  refine Ex.seq ?_
  refine Ex.regSeq (ExL.pures 1 rfl ?_)
  refine ExL.nil ?_
  refine Ex.block ?_
  refine Ex.loopK (X := Nat) (fun k => [(5, .int .i64 k)]) (fun k => []) (fun k => k ≤ 8 ∧ ∀ i, i < k → phAt s p.l i = true) (fun k => 8 - k) 0 [(0, _), (1, _)] [] 0 [] ⟨rfl, trivial⟩ ⟨rfl, rfl, trivial⟩ (rfl) rfl ⟨Nat.zero_le _, fun i hi => by omega⟩ (fun k hI => ?_)
  have hI : k ≤ 8 ∧ ∀ i, i < k → phAt s p.l i = true := hI
  obtain ⟨hk, hall⟩ := hI
  refine Ex.seq ?_
  refine Ex.regSeq (ExL.pures 1 rfl ?_)
  refine ExL.lss rfl rfl rfl rfl rfl rfl (fun h1 => ?_) (fun h1 => ?_)
  · refine ExL.nil ?_
    refine Ex.cond_t rfl ?_
    refine Ex.skip ?_
    refine Ex.seq ?_
    refine Ex.block ?_
    refine Ex.seq ?_
    refine Ex.regSeq (ExL.pures 3 rfl ?_)
    refine ExL.geq rfl rfl rfl rfl rfl rfl (fun h2 => ?_) (fun h2 => ?_)
    · refine ExL.nil ?_
      refine Ex.cond_t rfl ?_
      refine Ex.seq ?_
      refine Ex.regSeq (ExL.pures 3 rfl ?_)
      refine ExL.free (fr_indexAddr_b (sz := 2) rfl rfl rfl rfl rfl (by omega)) rfl rfl rfl ?_
      refine ExL.free (fr_loadN rfl rfl rfl rfl rfl (segOld (Reads.old hpt) encMk_len zMk rfl (by rw [ph_len]; omega))) rfl rfl rfl ?_
      refine ExL.free (fr_build rfl rfl rfl rfl) rfl rfl rfl ?_
      refine ExL.free (fr_neq_ints (p.l.getD k zMk).l [0, 0] rfl rfl rfl rfl rfl rfl rfl rfl rfl rfl) rfl rfl rfl ?_
      refine ExL.nil ?_
      refine Ex.cond rfl (fun hb3 => ?_) (fun hb3 => ?_)
      · refine Ex.regSeq (ExL.pures 1 rfl ?_)
        refine ExL.nil ?_
        refine Ex.ret ?_
        refine RetQ.mk () rfl (.tmp rfl .nil) (tB (by first | exact po_all (by omega) hall | exact po_no (k := k) (by omega) (by first | exact pa_1 (by omega) (by assumption) | exact pa_2 (by omega) (by assumption) | exact pa_3 (by omega) (by assumption) | exact pa_5 (by omega) (by assumption) | exact pa_2s (by omega) (by assumption)))) [] (rfl) rfl (trivial)
      · refine Ex.skip ?_
        refine Ex.exit ?_
        refine Ex.region (ExL.pures 1 rfl ?_)
        refine ExL.free (by first | exact fr_add64 rfl rfl rfl (by omega) | exact fr_add rfl rfl rfl) rfl rfl rfl ?_
        refine ExL.pures 1 rfl ?_
        refine ExL.nil ?_
        refine Hand.mk (k + 1) 0 [] ⟨rfl, trivial⟩ ⟨rfl, rfl, trivial⟩ (rfl) rfl (⟨by omega, all_snoc hall (by first | exact pa_6 (by omega) (by assumption) | exact pa_4 (by omega) (by assumption) (by omega) (by omega) | exact pa_4s (by omega) (by assumption) (by assumption))⟩) (by omega)
    · refine ExL.nil ?_
      refine Ex.cond_f rfl ?_
      refine Ex.skip ?_
      have hbk := hS.bases k (by omega)
      refine Ex.drawSeqM rfl ?_
      refine ExD.take (i := 0) rfl (by kernel_rfl) (pureVal_ok rfl) ((List.Sublist.refl _)) rfl rfl rfl ?_
      refine ExD.take (i := 1) rfl (by kernel_rfl) (pureVal_ok rfl) ((List.Sublist.refl _)) rfl rfl rfl ?_
      refine ExD.take (i := 2) rfl (by kernel_rfl) (pureVal_ok rfl) ((List.Sublist.refl _)) rfl rfl rfl ?_
      refine ExD.take (i := 3) rfl (by kernel_rfl) (fr_indexAddr_b (sz := 2) rfl rfl rfl rfl rfl (by omega)) ((List.Sublist.refl _)) rfl rfl rfl ?_
      refine ExD.take (i := 4) rfl (by kernel_rfl) (fr_loadN rfl rfl rfl rfl rfl (segOld (Reads.old hpt) encMk_len zMk rfl (by rw [ph_len]; omega))) ((List.Sublist.refl _)) rfl rfl rfl ?_
      refine ExD.take (i := 5) rfl (by kernel_rfl) (fr_build rfl rfl rfl rfl) ((List.Sublist.refl _)) rfl rfl rfl ?_
      refine ExD.take (i := 6) rfl (by kernel_rfl) (fr_eql_ints (p.l.getD k zMk).l [0, 0] rfl rfl rfl rfl rfl rfl rfl rfl rfl rfl) ((List.Sublist.refl _)) rfl rfl rfl ?_
      refine ExD.take (i := 7) rfl (by kernel_rfl) (pureVal_ok rfl) ((List.Sublist.refl _)) rfl rfl rfl ?_
      refine ExD.bool (d := 28) rfl (fun hb4 => ?_) (fun hb4 => ?_)
      · refine ExD.pass (i := 8) rfl (by kernel_rfl) ((List.Sublist.refl _)) rfl rfl rfl ?_
        refine ExD.pass (i := 9) rfl (by kernel_rfl) ((List.Sublist.refl _)) rfl rfl rfl ?_
        refine ExD.pass (i := 10) rfl (by kernel_rfl) ((List.Sublist.refl _)) rfl rfl rfl ?_
        refine ExD.pass (i := 11) rfl (by kernel_rfl) ((List.Sublist.refl _)) rfl rfl rfl ?_
        refine ExD.pass (i := 12) rfl (by kernel_rfl) ((List.Sublist.refl _)) rfl rfl rfl ?_
        refine ExD.pass (i := 13) rfl (by kernel_rfl) ((List.Sublist.refl _)) rfl rfl rfl ?_
        refine ExD.pass (i := 14) rfl (by kernel_rfl) ((List.Sublist.refl _)) rfl rfl rfl ?_
        refine ExD.pass (i := 15) rfl (by kernel_rfl) ((List.Sublist.refl _)) rfl rfl rfl ?_
        refine ExD.pass (i := 16) rfl (by kernel_rfl) ((List.Sublist.refl _)) rfl rfl rfl ?_
        refine ExD.pass (i := 17) rfl (by kernel_rfl) ((List.Sublist.refl _)) rfl rfl rfl ?_
        refine ExD.pass (i := 18) rfl (by kernel_rfl) ((List.Sublist.refl _)) rfl rfl rfl ?_
        refine ExD.pass (i := 19) rfl (by kernel_rfl) ((List.Sublist.refl _)) rfl rfl rfl ?_
        refine ExD.take (i := 20) rfl (by kernel_rfl) (pureVal_ok rfl) ((List.Sublist.refl _)) rfl rfl rfl ?_
        refine ExD.done (by kernel_rfl) ?_
        refine Ex.cond_t rfl ?_
        refine Ex.regSeq (ExL.pures 1 rfl ?_)
        refine ExL.nil ?_
        refine Ex.ret ?_
        refine RetQ.mk () rfl (.tmp rfl .nil) (tB (by first | exact po_all (by omega) hall | exact po_no (k := k) (by omega) (by first | exact pa_1 (by omega) (by assumption) | exact pa_2 (by omega) (by assumption) | exact pa_3 (by omega) (by assumption) | exact pa_5 (by omega) (by assumption) | exact pa_2s (by omega) (by assumption)))) [] (rfl) rfl (trivial)
      · refine ExD.take (i := 8) rfl (by kernel_rfl) (pureVal_ok rfl) ((List.Sublist.refl _)) rfl rfl rfl ?_
        refine ExD.take (i := 9) rfl (by kernel_rfl) (pureVal_ok rfl) ((List.Sublist.refl _)) rfl rfl rfl ?_
        refine ExD.take (i := 10) rfl (by kernel_rfl) (pureVal_ok rfl) ((List.Sublist.refl _)) rfl rfl rfl ?_
        refine ExD.take (i := 11) rfl (by kernel_rfl) (fr_indexAddr_b (sz := 2) rfl rfl rfl rfl rfl (by omega)) ((List.Sublist.refl _)) rfl rfl rfl ?_
        refine ExD.take (i := 12) rfl (by kernel_rfl) (fr_loadN rfl rfl rfl rfl rfl (segOld (Reads.old hpt) encMk_len zMk rfl (by rw [ph_len]; omega))) ((List.Sublist.refl _)) rfl rfl rfl ?_
        refine ExD.take (i := 13) rfl (by kernel_rfl) (pureVal_ok rfl) ((List.Sublist.refl _)) rfl rfl rfl ?_
        refine ExD.take (i := 14) rfl (by kernel_rfl) (pureVal_ok rfl) ((List.Sublist.refl _)) rfl rfl rfl ?_
        refine ExD.take (i := 15) rfl (by kernel_rfl) (fr_indexAddrF (Reads.old hs) (eI_len .u8) rfl rfl rfl rfl rfl rfl (by omega)) ((List.Sublist.refl _)) rfl rfl rfl ?_
        refine ExD.take (i := 16) rfl (by kernel_rfl) (fr_load rfl rfl rfl rfl (by first | exact cellN (Reads.old hs) (eI_len .u8) 0 0 rfl (by omega) rfl | exact cellF (Reads.old hs) (eI_len .u8) 0 0 rfl (by omega) rfl)) ((List.Sublist.refl _)) rfl rfl rfl ?_
        refine ExD.op (i := 17) rfl (by kernel_rfl) rfl (op_ret rfl rfl rfl (c_l05Full (s.getD k 0) (by omega)) (fun _ _ => trivial) rfl rfl (fun x5 hx5 => ⟨(List.Sublist.refl _), ?_⟩))
        refine ExD.op (i := 18) rfl (by kernel_rfl) rfl (op_ret rfl rfl rfl (c_l05Within (p.l.getD k zMk) (fullM ((s.getD k 0)).toNat)) (fun _ _ => trivial) rfl rfl (fun x6 hx6 => ⟨(List.Sublist.refl _), ?_⟩))
        refine ExD.take (i := 19) rfl (by kernel_rfl) (pureVal_ok rfl) ((List.Sublist.refl _)) rfl rfl rfl ?_
        refine ExD.take (i := 20) rfl (by kernel_rfl) (pureVal_ok rfl) ((List.Sublist.refl _)) rfl rfl rfl ?_
        refine ExD.done (by kernel_rfl) ?_
        refine Ex.cond rfl (fun hb7 => ?_) (fun hb7 => ?_)
        · replace hb7 := nb_t hb7
          refine Ex.regSeq (ExL.pures 1 rfl ?_)
          refine ExL.nil ?_
          refine Ex.ret ?_
          refine RetQ.mk () rfl (.tmp rfl .nil) (tB (by first | exact po_all (by omega) hall | exact po_no (k := k) (by omega) (by first | exact pa_1 (by omega) (by assumption) | exact pa_2 (by omega) (by assumption) | exact pa_3 (by omega) (by assumption) | exact pa_5 (by omega) (by assumption) | exact pa_2s (by omega) (by assumption)))) [] (rfl) rfl (trivial)
        · replace hb7 := nb_f hb7
          refine Ex.skip ?_
          refine Ex.region (ExL.pures 1 rfl ?_)
          refine ExL.free (by first | exact fr_add64 rfl rfl rfl (by omega) | exact fr_add rfl rfl rfl) rfl rfl rfl ?_
          refine ExL.pures 1 rfl ?_
          refine ExL.nil ?_
          refine Hand.mk (k + 1) 0 [] ⟨rfl, trivial⟩ ⟨rfl, rfl, trivial⟩ (rfl) rfl (⟨by omega, all_snoc hall (by first | exact pa_6 (by omega) (by assumption) | exact pa_4 (by omega) (by assumption) (by omega) (by omega) | exact pa_4s (by omega) (by assumption) (by assumption))⟩) (by omega)
  · refine ExL.nil ?_
    refine Ex.cond_f rfl ?_
    refine Ex.exit ?_
    refine Ex.regSeq (ExL.pures 1 rfl ?_)
    refine ExL.nil ?_
    refine Ex.ret ?_
    refine RetQ.mk () rfl (.tmp rfl .nil) (tB (by first | exact po_all (by omega) hall | exact po_no (k := k) (by omega) (by first | exact pa_1 (by omega) (by assumption) | exact pa_2 (by omega) (by assumption) | exact pa_3 (by omega) (by assumption) | exact pa_5 (by omega) (by assumption) | exact pa_2s (by omega) (by assumption)))) [] (rfl) rfl (trivial)
theorem e_52 : Enters Tryz.prog 52 := Enters.of Tryz.func52 rfl
theorem c_sValidPhoto (s : List Int) (hu : Nums 255 s) (As : Option Addr) (cs : Nat) (hls : s.length ≤ maxLen) (p : VPh) (hp : OkPh p) : Ret Tryz.prog 52 [.slice As s.length cs, .agg (encPh p).toArray] (fun w => Rd w As (s.flatMap (eI .u8))) (fun x : Unit => .bool (validPh s p)) (fun x => []) (fun x => True) := by
  refine Ret.of e_52 Tryz.func52 rfl Tryz.ntmps52 rfl rfl (fun w hpre => ?_)
  have hs := hpre.base
  have hm0 : maxLen = 9223372036854775807 := rfl
  refine Ex.regSeq (ExL.pures 0 rfl ?_)
  refine ExL.op rfl (op_box rfl rfl rfl rfl rfl (fun b1 => ?_))
  refine ExL.pures 1 rfl ?_
  refine ExL.nil ?_
  refine Ex.regSeq (ExL.pures 1 rfl ?_)
  refine ExL.op rfl (op_ret rfl rfl rfl (c_l01Ok _ (by assumption) _ _ (by first | assumption | omega | (unfold maxLen; omega))) (Reads.get (Reads.old hs)) rfl rfl (fun x2 hx2 => ?_))
  refine ExL.pures 1 rfl ?_
  refine ExL.bool (d := 7) rfl (fun hb3 => ?_) (fun hb3 => ?_)
  · refine ExL.pures 1 rfl ?_
    refine ExL.op rfl (op_ret rfl rfl rfl (c_l05Ok s (by first | assumption | simp_all) _ _ p hp _ _) (fun w hw => ⟨Reads.get (Reads.old hs) w hw, Reads.get (Reads.blk (i := 0) rfl) w hw⟩) rfl rfl (fun x4 hx4 => ?_))
    refine ExL.pures 2 rfl ?_
    refine ExL.nil ?_
    refine Ex.ret ?_
    refine RetQ.mk () rfl (.tmp rfl .nil) (tB (by unfold validPh; simp_all)) [] (rfl) rfl (trivial)
  · refine ExL.pures 4 rfl ?_
    refine ExL.nil ?_
    refine Ex.ret ?_
    refine RetQ.mk () rfl (.tmp rfl .nil) (tB (by unfold validPh; simp_all)) [] (rfl) rfl (trivial)
theorem e_15 : Enters Tryz.prog 15 := Enters.of Tryz.func15 rfl
theorem c_iValidPhoto (s : List Int) (hu : Nums 255 s) (As : Option Addr) (cs : Nat) (hls : s.length ≤ maxLen) (p : VPh) (hp : OkPh p) : Ret Tryz.prog 15 [.slice As s.length cs, .agg (encPh p).toArray] (fun w => Rd w As (s.flatMap (eI .u8))) (fun x : Unit => .bool (validPh s p)) (fun x => []) (fun x => True) := by
  refine Ret.of e_15 Tryz.func15 rfl Tryz.ntmps15 rfl rfl (fun w hpre => ?_)
  have hs := hpre.base
  have hm0 : maxLen = 9223372036854775807 := rfl
  refine Ex.regSeq (ExL.pures 0 rfl ?_)
  refine ExL.op rfl (op_box rfl rfl rfl rfl rfl (fun b1 => ?_))
  refine ExL.pures 1 rfl ?_
  refine ExL.nil ?_
  refine Ex.regSeq (ExL.pures 1 rfl ?_)
  refine ExL.op rfl (op_ret rfl rfl rfl (c_ValidStack _ (by assumption) _ _ (by first | assumption | omega | (unfold maxLen; omega))) (Reads.get (Reads.old hs)) rfl rfl (fun x2 hx2 => ?_))
  refine ExL.pures 1 rfl ?_
  refine ExL.bool (d := 7) rfl (fun hb3 => ?_) (fun hb3 => ?_)
  · refine ExL.pures 1 rfl ?_
    refine ExL.free (fr_loadN rfl rfl rfl rfl rfl (SegO.whole (i := 0) rfl)) rfl rfl rfl ?_
    refine ExL.op rfl (op_ret rfl rfl rfl (c_photoOK s (by first | assumption | simp_all) _ _ p hp) (Reads.get (Reads.old hs)) rfl rfl (fun x4 hx4 => ?_))
    refine ExL.pures 2 rfl ?_
    refine ExL.nil ?_
    refine Ex.ret ?_
    refine RetQ.mk () rfl (.tmp rfl .nil) (tB (by unfold validPh; simp_all)) [] (rfl) rfl (trivial)
  · refine ExL.pures 5 rfl ?_
    refine ExL.nil ?_
    refine Ex.ret ?_
    refine RetQ.mk () rfl (.tmp rfl .nil) (tB (by unfold validPh; simp_all)) [] (rfl) rfl (trivial)
theorem e_50 : Enters Tryz.prog 50 := Enters.of Tryz.func50 rfl
theorem c_showsP (s : List Int) (hv : validStack s = true) (As : Option Addr) (cs : Nat) (p : VPh) (hp : OkPh p) (a : Dig) (ha : Nums 255 a.l) (hd : validDig s a.l = true) : Ret Tryz.prog 50 [.slice As s.length cs, .agg (encPh p).toArray, .agg (encD a).toArray] (fun w => Rd w As (s.flatMap (eI .u8))) (fun x : Unit => .bool (showsM s p.l a.l)) (fun x => []) (fun x => True) := by
  refine Ret.of e_50 Tryz.func50 rfl Tryz.ntmps50 rfl rfl (fun w hpre => ?_)
  have hs := hpre.base
  have hS := stk hv
  have h8 := hS.len8
  have hm0 : maxLen = 9223372036854775807 := rfl
  have hD := digOk h8 ha hd
  refine Ex.regSeq (ExL.pures 0 rfl ?_)
  refine ExL.op rfl (op_box rfl rfl rfl rfl rfl (fun b1 => ?_))
  refine ExL.op rfl (op_box rfl rfl rfl rfl rfl (fun b2 => ?_))
  refine ExL.pures 1 rfl ?_
  refine ExL.nil ?_
  refine Ex.seq ?_
  refine Ex.regSeq (ExL.pures 3 rfl ?_)
  refine ExL.nil ?_
  refine Ex.block ?_
  refine Ex.loopK (X := Nat) (fun k => [(10, .int .i64 k)]) (fun k => []) (fun k => k ≤ s.length ∧ ∀ i, i < k → hasM (p.l.getD i zMk) (a.l.getD i 0).toNat = true) (fun k => s.length - k) 0 [(4, _), (5, _), (9, _)] [_, _] 2 [0, 1] ⟨rfl, trivial⟩ ⟨rfl, rfl, rfl, trivial⟩ (rfl) rfl ⟨Nat.zero_le _, fun i hi => by omega⟩ (fun k hI => ?_)
  have hI : k ≤ s.length ∧ ∀ i, i < k → hasM (p.l.getD i zMk) (a.l.getD i 0).toNat = true := hI
  obtain ⟨hk, hall⟩ := hI
  refine Ex.regSeq (ExL.pures 0 rfl ?_)
  refine ExL.lss rfl rfl rfl rfl rfl rfl (fun h3 => ?_) (fun h3 => ?_)
  · refine ExL.nil ?_
    refine Ex.seq ?_
    refine Ex.cond_t rfl ?_
    refine Ex.skip ?_
    refine Ex.seq ?_
    refine Ex.block ?_
    have hkl : k < s.length := by omega
    have hdk := hD k hkl
    have hbk := hS.bases k hkl
    refine Ex.regSeq (ExL.pures 2 rfl ?_)
    refine ExL.nil ?_
    refine Ex.drawSeqM rfl ?_
    refine ExD.take (i := 0) rfl (by kernel_rfl) (pureVal_ok rfl) ((List.Sublist.refl _)) rfl rfl rfl ?_
    refine ExD.take (i := 1) rfl (by kernel_rfl) (fr_indexAddr_b (sz := 2) rfl rfl rfl rfl rfl (by omega)) ((List.Sublist.refl _)) rfl rfl rfl ?_
    refine ExD.take (i := 2) rfl (by kernel_rfl) (fr_loadN rfl rfl rfl rfl rfl (segB (i := 1) rfl encMk_len zMk (by rw [ph_len]; omega))) ((List.Sublist.refl _)) rfl rfl rfl ?_
    refine ExD.take (i := 3) rfl (by kernel_rfl) (pureVal_ok rfl) ((List.Sublist.refl _)) rfl rfl rfl ?_
    refine ExD.take (i := 4) rfl (by kernel_rfl) (fr_indexAddr_b (sz := 1) rfl rfl rfl rfl rfl (by omega)) ((List.Sublist.refl _)) rfl rfl rfl ?_
    refine ExD.take (i := 5) rfl (by kernel_rfl) (fr_load rfl rfl rfl rfl (CellO.blk (i := 0) rfl (blkG (eI_len .u8) 0 rfl (by rw [dig_len]; omega) rfl))) ((List.Sublist.refl _)) rfl rfl rfl ?_
    refine ExD.take (i := 6) rfl (by kernel_rfl) (by first | exact fr_conv64 rfl rfl rfl rfl (by omega) | exact fr_conv rfl rfl rfl rfl) ((List.Sublist.refl _)) rfl rfl rfl ?_
    refine ExD.op (i := 7) rfl (by kernel_rfl) rfl (op_ret rfl rfl rfl (c_has (p.l.getD k zMk) (hp k (by omega)) (a.l.getD k 0) (by omega)) (fun _ _ => trivial) rfl rfl (fun x4 hx4 => ⟨(List.Sublist.refl _), ?_⟩))
    refine ExD.take (i := 8) rfl (by kernel_rfl) (pureVal_ok rfl) ((List.Sublist.refl _)) rfl rfl rfl ?_
    refine ExD.done (by kernel_rfl) ?_
    refine Ex.cond rfl (fun hb5 => ?_) (fun hb5 => ?_)
    · replace hb5 := nb_t hb5
      refine Ex.regSeq (ExL.pures 1 rfl ?_)
      refine ExL.nil ?_
      refine Ex.ret ?_
      refine RetQ.mk () rfl (.tmp rfl .nil) (tB (by first | exact sm_all (by omega) hall | exact sm_no (k := k) (by omega) (by assumption))) [] (rfl) rfl (trivial)
    · replace hb5 := nb_f hb5
      refine Ex.skip ?_
      refine Ex.region (ExL.pures 0 rfl ?_)
      refine ExL.free (by first | exact fr_add64 rfl rfl rfl (by omega) | exact fr_add rfl rfl rfl) rfl rfl rfl ?_
      refine ExL.pures 1 rfl ?_
      refine ExL.nil ?_
      refine Hand.mk (k + 1) 2 [0, 1] ⟨rfl, trivial⟩ ⟨rfl, rfl, rfl, trivial⟩ (rfl) rfl (⟨by omega, all_snoc hall (by assumption)⟩) (by omega)
  · refine ExL.nil ?_
    refine Ex.seq ?_
    refine Ex.cond_f rfl ?_
    refine Ex.exit ?_
    refine Ex.regSeq (ExL.pures 1 rfl ?_)
    refine ExL.nil ?_
    refine Ex.ret ?_
    refine RetQ.mk () rfl (.tmp rfl .nil) (tB (by first | exact sm_all (by omega) hall | exact sm_no (k := k) (by omega) (by assumption))) [] (rfl) rfl (trivial)
theorem e_11 : Enters Tryz.prog 11 := Enters.of Tryz.func11 rfl
theorem c_iShows (s : List Int) (hu : Nums 255 s) (As : Option Addr) (cs : Nat) (hls : s.length ≤ maxLen) (p : VPh) (hp : OkPh p) (a : Dig) (ha : Nums 255 a.l) : Ret Tryz.prog 11 [.slice As s.length cs, .agg (encPh p).toArray, .agg (encD a).toArray] (fun w => Rd w As (s.flatMap (eI .u8))) (fun x : Unit => .tuple #[.bool (shV s p a).1, .int .i64 (shV s p a).2]) (fun x => []) (fun x => True) := by
  refine Ret.of e_11 Tryz.func11 rfl Tryz.ntmps11 rfl rfl (fun w hpre => ?_)
  have hs := hpre.base
  have hm0 : maxLen = 9223372036854775807 := rfl
  refine Ex.regSeq (ExL.pures 0 rfl ?_)
  refine ExL.op rfl (op_box rfl rfl rfl rfl rfl (fun b1 => ?_))
  refine ExL.op rfl (op_box rfl rfl rfl rfl rfl (fun b2 => ?_))
  refine ExL.pures 2 rfl ?_
  refine ExL.nil ?_
  refine Ex.seq ?_
  refine Ex.regSeq (ExL.pures 1 rfl ?_)
  refine ExL.free (fr_loadN rfl rfl rfl rfl rfl (SegO.whole (i := 1) rfl)) rfl rfl rfl ?_
  refine ExL.op rfl (op_ret rfl rfl rfl (c_iValidPhoto s (by assumption) _ _ (by omega) p hp) (Reads.get (Reads.old hs)) rfl rfl (fun x3 hx3 => ?_))
  refine ExL.pures 2 rfl ?_
  refine ExL.bool (d := 12) rfl (fun hb4 => ?_) (fun hb4 => ?_)
  · replace hb4 := nb_t hb4
    refine ExL.pures 5 rfl ?_
    refine ExL.nil ?_
    refine Ex.cond_t rfl ?_
    refine Ex.regSeq (ExL.pures 2 rfl ?_)
    refine ExL.nil ?_
    refine Ex.ret ?_
    refine RetQ.mk () rfl (.tmp rfl (.tmp rfl .nil)) (t2 (vB (by first | (rw [sh_1 (by assumption)]; first | done | rfl) | (rw [sh_2 (by assumption)]; first | done | rfl) | (rw [sh_0 (by assumption) (by assumption)]; first | done | rfl))) (vI (by first | (rw [sh_1 (by assumption)]; first | done | rfl) | (rw [sh_2 (by assumption)]; first | done | rfl) | (rw [sh_0 (by assumption) (by assumption)]; first | done | rfl)))) [] (rfl) rfl (trivial)
  · replace hb4 := nb_f hb4
    refine ExL.pures 1 rfl ?_
    refine ExL.free (fr_loadN rfl rfl rfl rfl rfl (SegO.whole (i := 0) rfl)) rfl rfl rfl ?_
    refine ExL.op rfl (op_ret rfl rfl rfl (c_iValidDigits s (by assumption) _ _ (by omega) a (by assumption)) (Reads.get (Reads.old hs)) rfl rfl (fun x5 hx5 => ?_))
    refine ExL.pures 2 rfl ?_
    refine ExL.nil ?_
    refine Ex.cond rfl (fun hb6 => ?_) (fun hb6 => ?_)
    · replace hb6 := nb_t hb6
      refine Ex.regSeq (ExL.pures 2 rfl ?_)
      refine ExL.nil ?_
      refine Ex.ret ?_
      refine RetQ.mk () rfl (.tmp rfl (.tmp rfl .nil)) (t2 (vB (by first | (rw [sh_1 (by assumption)]; first | done | rfl) | (rw [sh_2 (by assumption)]; first | done | rfl) | (rw [sh_0 (by assumption) (by assumption)]; first | done | rfl))) (vI (by first | (rw [sh_1 (by assumption)]; first | done | rfl) | (rw [sh_2 (by assumption)]; first | done | rfl) | (rw [sh_0 (by assumption) (by assumption)]; first | done | rfl)))) [] (rfl) rfl (trivial)
    · replace hb6 := nb_f hb6
      refine Ex.skip ?_
      refine Ex.regSeq (ExL.pures 1 rfl ?_)
      refine ExL.free (fr_loadN rfl rfl rfl rfl rfl (SegO.whole (i := 1) rfl)) rfl rfl rfl ?_
      refine ExL.free (fr_loadN rfl rfl rfl rfl rfl (SegO.whole (i := 0) rfl)) rfl rfl rfl ?_
      refine ExL.op rfl (op_ret rfl rfl rfl (c_showsP s (by first | assumption | simp_all) _ _ p hp a (by assumption) (by first | assumption | simp_all)) (Reads.get (Reads.old hs)) rfl rfl (fun x7 hx7 => ?_))
      refine ExL.pures 2 rfl ?_
      refine ExL.nil ?_
      refine Ex.ret ?_
      refine RetQ.mk () rfl (.tmp rfl (.tmp rfl .nil)) (t2 (vB (by first | (rw [sh_1 (by assumption)]; first | done | rfl) | (rw [sh_2 (by assumption)]; first | done | rfl) | (rw [sh_0 (by assumption) (by assumption)]; first | done | rfl))) (vI (by first | (rw [sh_1 (by assumption)]; first | done | rfl) | (rw [sh_2 (by assumption)]; first | done | rfl) | (rw [sh_0 (by assumption) (by assumption)]; first | done | rfl)))) [] (rfl) rfl (trivial)
end Go.Proofs.YtdgfalhfmboalaaGreatDoor

/- What these functions of the program hand back, each proved by walking its operations. -/
set_option linter.unusedVariables false
set_option linter.unusedSimpArgs false
set_option maxRecDepth 4000
namespace Go.Proofs.YtdgfalhfmboalaaGreatDoor
open Go Go.Sx Go.RowKit Go.W Go.Proofs
attribute [local irreducible] Ex ExL ExD Op1 Free RetQ MutQ Reads CellO SegO LoadsAs
theorem e_84 : Enters Tryz.prog 84 := Enters.of Tryz.func84 rfl
theorem c_ones (v : Int) (hx : 0 ≤ v ∧ v < 18446744073709551616) : Ret Tryz.prog 84 [.int .u64 v] (fun w => True) (fun x : Unit => .int .i64 (popI v)) (fun x => []) (fun x => True) := by
  refine Ret.of e_84 Tryz.func84 rfl Tryz.ntmps84 rfl rfl (fun w hpre => ?_)
  refine Ex.regSeq (ExL.pures 1 rfl ?_)
  refine ExL.nil ?_
  refine Ex.regSeq (ExL.pures 1 rfl ?_)
  refine ExL.free (fr_shr rfl rfl rfl (by omega)) rfl rfl rfl ?_
  refine ExL.free (by first | exact fr_and255 rfl rfl rfl (by omega) | exact fr_bits rfl rfl rfl (by simp)) rfl rfl rfl ?_
  refine ExL.pures 1 rfl ?_
  refine ExL.free (by first | exact fr_and255 rfl rfl rfl (by omega) | exact fr_bits rfl rfl rfl (by simp)) rfl rfl rfl ?_
  refine ExL.free (fr_add rfl rfl rfl) rfl rfl rfl ?_
  refine ExL.pures 1 rfl ?_
  refine ExL.nil ?_
  obtain ⟨a, ha⟩ : ∃ z, IntKind.u64.wrap (bits .and .u64 (v / 2 ^ min (1 : Int).toNat IntKind.u64.bits) 6148914691236517205 + bits .and .u64 v 6148914691236517205) = z := ⟨_, rfl⟩
  rw [ha]
  refine Ex.regSeq (ExL.pures 1 rfl ?_)
  refine ExL.free (fr_shr rfl rfl rfl (by omega)) rfl rfl rfl ?_
  refine ExL.free (by first | exact fr_and255 rfl rfl rfl (by omega) | exact fr_bits rfl rfl rfl (by simp)) rfl rfl rfl ?_
  refine ExL.pures 1 rfl ?_
  refine ExL.free (by first | exact fr_and255 rfl rfl rfl (by omega) | exact fr_bits rfl rfl rfl (by simp)) rfl rfl rfl ?_
  refine ExL.free (fr_add rfl rfl rfl) rfl rfl rfl ?_
  refine ExL.pures 1 rfl ?_
  refine ExL.nil ?_
  obtain ⟨b, hb⟩ : ∃ z, IntKind.u64.wrap (bits .and .u64 (a / 2 ^ min (2 : Int).toNat IntKind.u64.bits) 3689348814741910323 + bits .and .u64 a 3689348814741910323) = z := ⟨_, rfl⟩
  rw [hb]
  refine Ex.regSeq (ExL.pures 1 rfl ?_)
  refine ExL.free (fr_shr rfl rfl rfl (by omega)) rfl rfl rfl ?_
  refine ExL.pures 1 rfl ?_
  refine ExL.free (fr_add rfl rfl rfl) rfl rfl rfl ?_
  refine ExL.free (by first | exact fr_and255 rfl rfl rfl (by omega) | exact fr_bits rfl rfl rfl (by simp)) rfl rfl rfl ?_
  refine ExL.pures 1 rfl ?_
  refine ExL.nil ?_
  obtain ⟨c, hc⟩ : ∃ z, bits .and .u64 (IntKind.u64.wrap (b / 2 ^ min (4 : Int).toNat IntKind.u64.bits + b)) 1085102592571150095 = z := ⟨_, rfl⟩
  rw [hc]
  refine Ex.regSeq (ExL.pures 2 rfl ?_)
  refine ExL.free (fr_shr rfl rfl rfl (by omega)) rfl rfl rfl ?_
  refine ExL.free (fr_add rfl rfl rfl) rfl rfl rfl ?_
  refine ExL.pures 1 rfl ?_
  refine ExL.nil ?_
  obtain ⟨d, hd⟩ : ∃ z, IntKind.u64.wrap (c + c / 2 ^ min (8 : Int).toNat IntKind.u64.bits) = z := ⟨_, rfl⟩
  rw [hd]
  refine Ex.regSeq (ExL.pures 2 rfl ?_)
  refine ExL.free (fr_shr rfl rfl rfl (by omega)) rfl rfl rfl ?_
  refine ExL.free (fr_add rfl rfl rfl) rfl rfl rfl ?_
  refine ExL.pures 1 rfl ?_
  refine ExL.nil ?_
  obtain ⟨e, he⟩ : ∃ z, IntKind.u64.wrap (d + d / 2 ^ min (16 : Int).toNat IntKind.u64.bits) = z := ⟨_, rfl⟩
  rw [he]
  refine Ex.regSeq (ExL.pures 2 rfl ?_)
  refine ExL.free (fr_shr rfl rfl rfl (by omega)) rfl rfl rfl ?_
  refine ExL.free (fr_add rfl rfl rfl) rfl rfl rfl ?_
  refine ExL.pures 1 rfl ?_
  refine ExL.nil ?_
  obtain ⟨f, hf⟩ : ∃ z, IntKind.u64.wrap (e + e / 2 ^ min (32 : Int).toNat IntKind.u64.bits) = z := ⟨_, rfl⟩
  rw [hf]
  have hq := ones64' hx ha hb hc hd he hf
  have hq0 := hq.1
  have hq1 := hq.2.1
  refine Ex.regSeq (ExL.pures 1 rfl ?_)
  refine ExL.free (by first | exact fr_conv64 rfl rfl rfl rfl (by omega) | exact fr_conv rfl rfl rfl rfl) rfl rfl rfl ?_
  refine ExL.free (by first | exact fr_and255 rfl rfl rfl (by omega) | exact fr_bits rfl rfl rfl (by simp)) rfl rfl rfl ?_
  refine ExL.pures 1 rfl ?_
  refine ExL.nil ?_
  refine Ex.ret ?_
  refine RetQ.mk () rfl (.tmp rfl .nil) (tI (by obtain ⟨q0, q1, q2⟩ := ones64' hx ha hb hc hd he hf; rw [and127 ⟨q0, q1⟩, q2])) [] (rfl) rfl (trivial)
theorem e_45 : Enters Tryz.prog 45 := Enters.of Tryz.func45 rfl
theorem c_count (m : VMk) (hm : OkMk m) : Ret Tryz.prog 45 [.agg (encMk m).toArray] (fun w => True) (fun x : Unit => .int .i64 (cntM m)) (fun x => []) (fun x => True) := by
  refine Ret.of e_45 Tryz.func45 rfl Tryz.ntmps45 rfl rfl (fun w hpre => ?_)
  have hb0 := popI_bd m.lo
  have hb1 := popI_bd m.hi
  refine Ex.regSeq (ExL.pures 0 rfl ?_)
  refine ExL.op rfl (op_box rfl rfl rfl rfl rfl (fun b1 => ?_))
  refine ExL.pures 1 rfl ?_
  refine ExL.nil ?_
  refine Ex.drawSeqM rfl ?_
  refine ExD.take (i := 0) rfl (by kernel_rfl) (fr_indexAddr_b (sz := 1) rfl rfl rfl rfl rfl (by omega)) ((List.Sublist.refl _)) rfl rfl rfl ?_
  refine ExD.take (i := 1) rfl (by kernel_rfl) (fr_load rfl rfl rfl rfl (CellO.blk (i := 0) rfl rfl)) ((List.Sublist.refl _)) rfl rfl rfl ?_
  refine ExD.take (i := 3) rfl (by kernel_rfl) (fr_indexAddr_b (sz := 1) rfl rfl rfl rfl rfl (by omega)) ((List.Sublist.refl _)) rfl rfl rfl ?_
  refine ExD.take (i := 4) rfl (by kernel_rfl) (fr_load rfl rfl rfl rfl (CellO.blk (i := 0) rfl rfl)) ((List.Sublist.refl _)) rfl rfl rfl ?_
  refine ExD.op (i := 2) rfl (by kernel_rfl) rfl (op_ret rfl rfl rfl (c_ones m.lo (hm.1)) (fun _ _ => trivial) rfl rfl (fun x2 hx2 => ⟨(List.Sublist.refl _), ?_⟩))
  refine ExD.op (i := 5) rfl (by kernel_rfl) rfl (op_ret rfl rfl rfl (c_ones m.hi (hm.2)) (fun _ _ => trivial) rfl rfl (fun x3 hx3 => ⟨(List.Sublist.refl _), ?_⟩))
  refine ExD.take (i := 6) rfl (by kernel_rfl) (by first | exact fr_add64 rfl rfl rfl (by omega) | exact fr_add rfl rfl rfl) ((List.Sublist.refl _)) rfl rfl rfl ?_
  refine ExD.take (i := 7) rfl (by kernel_rfl) (pureVal_ok rfl) ((List.Sublist.refl _)) rfl rfl rfl ?_
  refine ExD.done (by kernel_rfl) ?_
  refine Ex.ret ?_
  refine RetQ.mk () rfl (.tmp rfl .nil) (rfl) [] (rfl) rfl (trivial)
theorem e_89 : Enters Tryz.prog 89 := Enters.of Tryz.func89 rfl
theorem c_l05Count (m : VMk) (hm : OkMk m) : Ret Tryz.prog 89 [.agg (encMk m).toArray] (fun w => True) (fun x : Unit => .int .i64 (cntM m)) (fun x => []) (fun x => True) := by
  refine Ret.of e_89 Tryz.func89 rfl Tryz.ntmps89 rfl rfl (fun w hpre => ?_)
  refine Ex.regSeq (ExL.pures 0 rfl ?_)
  refine ExL.op rfl (op_box rfl rfl rfl rfl rfl (fun b1 => ?_))
  refine ExL.pures 1 rfl ?_
  refine ExL.nil ?_
  refine Ex.regSeq (ExL.pures 1 rfl ?_)
  refine ExL.nil ?_
  refine Ex.seq ?_
  refine Ex.regSeq (ExL.pures 1 rfl ?_)
  refine ExL.nil ?_
  refine Ex.block ?_
  refine Ex.loopK (X := Nat) (fun i => [(3, .int .i64 (cumM m i)), (4, .int .i64 i)]) (fun i => []) (fun i => i ≤ 2) (fun i => 2 - i) 0 [(1, _), (2, _)] [_] 1 [0] ⟨rfl, rfl, trivial⟩ ⟨rfl, rfl, trivial⟩ (rfl) rfl (by omega) (fun i hI => ?_)
  have hI : i ≤ 2 := hI
  have hcb := cumM_bd m i
  have hxi := hm.at_ i
  refine Ex.seq ?_
  refine Ex.regSeq (ExL.pures 1 rfl ?_)
  refine ExL.lss rfl rfl rfl rfl rfl rfl (fun h2 => ?_) (fun h2 => ?_)
  · refine ExL.nil ?_
    refine Ex.cond_t rfl ?_
    refine Ex.skip ?_
    refine Ex.seq ?_
    refine Ex.block ?_
    refine Ex.regSeq (ExL.pures 1 rfl ?_)
    refine ExL.free (fr_indexAddr_b (sz := 1) rfl rfl rfl rfl rfl (by omega)) rfl rfl rfl ?_
    refine ExL.free (fr_load rfl rfl rfl rfl (CellO.blk (i := 0) rfl (blkG (eI_len .u64) 0 rfl (by rw [mk_len]; omega) rfl))) rfl rfl rfl ?_
    refine ExL.pures 1 rfl ?_
    refine ExL.nil ?_
    refine Ex.block ?_
    refine Ex.loopK (X := Nat) (fun k => [(3, .int .i64 (cumM m i + popJ (m.l.getD i 0) k)), (5, .int .u64 (m.l.getD i 0 / 2 ^ k))]) (fun k => []) (fun k => k ≤ 64) (fun k => 64 - k) 0 [(1, _), (2, _), (4, _)] [_] 1 [0] ⟨agI (by rw [popJ_0, Int.add_zero]), agI (by simp), trivial⟩ ⟨rfl, rfl, rfl, trivial⟩ (rfl) rfl (Nat.zero_le _) (fun k hI => ?_)
    have hI : k ≤ 64 := hI
    have hbd := pop_bd (k := k) hxi
    have hpj := popJ_bd (m.l.getD i 0) k
    have hb1 := bits_one hbd
    refine Ex.seq ?_
    refine Ex.regSeq (ExL.pures 1 rfl ?_)
    refine ExL.neq rfl rfl rfl rfl rfl rfl (fun h3 => ?_) (fun h3 => ?_)
    · refine ExL.nil ?_
      refine Ex.cond_t rfl ?_
      refine Ex.skip ?_
      refine Ex.seq ?_
      refine Ex.block ?_
      have hk64 := pop_lt (k := k) hxi (by omega)
      refine Ex.region (ExL.pures 2 rfl ?_)
      refine ExL.free (by first | exact fr_and255 rfl rfl rfl (by omega) | exact fr_bits rfl rfl rfl (by simp)) rfl rfl rfl ?_
      refine ExL.free (by first | exact fr_conv64 rfl rfl rfl rfl (by omega) | exact fr_conv rfl rfl rfl rfl) rfl rfl rfl ?_
      refine ExL.free (by first | exact fr_add64 rfl rfl rfl (by omega) | exact fr_add rfl rfl rfl) rfl rfl rfl ?_
      refine ExL.pures 1 rfl ?_
      refine ExL.nil ?_
      refine Ex.region (ExL.pures 1 rfl ?_)
      refine ExL.free (fr_shr rfl rfl rfl (by omega)) rfl rfl rfl ?_
      refine ExL.pures 1 rfl ?_
      refine ExL.nil ?_
      refine Hand.mk (k + 1) 1 [0] ⟨agI (by rw [popJ_s hxi.1, ← bits_one hbd]; omega), agI pop_div, trivial⟩ ⟨rfl, rfl, rfl, trivial⟩ (rfl) rfl (by omega) (by omega)
    · refine ExL.nil ?_
      refine Ex.cond_f rfl ?_
      refine Ex.exit ?_
      have hfin := popJ_end (k := k) hxi.1 hI (by omega)
      rw [hfin]
      refine Ex.region (ExL.pures 1 rfl ?_)
      refine ExL.free (by first | exact fr_add64 rfl rfl rfl (by omega) | exact fr_add rfl rfl rfl) rfl rfl rfl ?_
      refine ExL.pures 1 rfl ?_
      refine ExL.nil ?_
      refine Hand.mk (i + 1) 1 [0] ⟨rfl, rfl, trivial⟩ ⟨rfl, rfl, trivial⟩ (rfl) rfl (by omega) (by omega)
  · refine ExL.nil ?_
    refine Ex.cond_f rfl ?_
    refine Ex.exit ?_
    first | (obtain rfl : i = 2 := (by omega)) | skip
    refine Ex.regSeq (ExL.pures 2 rfl ?_)
    refine ExL.nil ?_
    refine Ex.ret ?_
    refine RetQ.mk () rfl (.tmp rfl .nil) (tI (cumM_2 m)) [] (rfl) rfl (trivial)
theorem e_53 : Enters Tryz.prog 53 := Enters.of Tryz.func53 rfl
theorem c_l05Choices (s : List Int) (hS : Stk s) (p : VPh) (hP : PhOk s p.l) (hp : OkPh p) (b q : Nat) (n : Nat) (hn : n ≤ s.length) : Ret Tryz.prog 53 [.pointer (some ⟨b, q, none⟩), .int .i64 n] (fun w => Rd w (some ⟨b, q, none⟩) (encPh p)) (fun x : Unit => .int .i64 (choV p.l n)) (fun x => []) (fun x => True) := by
  refine Ret.of e_53 Tryz.func53 rfl Tryz.ntmps53 rfl rfl (fun w hpre => ?_)
  have hpt := hpre.base
  have hpl := ph_len p
  have h8 := hS.len8
  have hm0 : maxLen = 9223372036854775807 := rfl
  refine Ex.regSeq (ExL.pures 1 rfl ?_)
  refine ExL.nil ?_
  refine Ex.regSeq (ExL.pures 1 rfl ?_)
  refine ExL.nil ?_
  refine Ex.seq ?_
  refine Ex.regSeq (ExL.pures 1 rfl ?_)
  refine ExL.nil ?_
  refine Ex.block ?_
  refine Ex.loopK (X := Nat) (fun k => [(5, .int .i64 (choV p.l k)), (6, .int .i64 k)]) (fun k => []) (fun k => k ≤ n) (fun k => n - k) 0 [(0, _), (1, _), (4, _)] [] 0 [] ⟨rfl, rfl, trivial⟩ ⟨rfl, rfl, rfl, trivial⟩ (rfl) rfl (Nat.zero_le _) (fun k hI => ?_)
  have hI : k ≤ n := hI
  have hcl := cho_le hP hS (i := k) (by omega)
  refine Ex.seq ?_
  refine Ex.regSeq (ExL.pures 2 rfl ?_)
  refine ExL.lss rfl rfl rfl rfl rfl rfl (fun h1 => ?_) (fun h1 => ?_)
  · refine ExL.nil ?_
    refine Ex.cond_t rfl ?_
    refine Ex.skip ?_
    refine Ex.seq ?_
    refine Ex.block ?_
    have hkn : k < n := by omega
    have hcb := cntM_bd (p.l.getD k zMk)
    have hcm := cho_le hP hS (i := k + 1) (by omega)
    rw [choV] at hcm
    refine Ex.region (ExL.pures 4 rfl ?_)
    refine ExL.free (fr_indexAddr_b (sz := 2) rfl rfl rfl rfl rfl (by omega)) rfl rfl rfl ?_
    refine ExL.free (fr_loadN rfl rfl rfl rfl rfl (segOld (Reads.old hpt) encMk_len zMk rfl (by rw [ph_len]; omega))) rfl rfl rfl ?_
    refine ExL.op rfl (op_ret rfl rfl rfl (c_l05Count (p.l.getD k zMk) (hp k (by omega))) (fun _ _ => trivial) rfl rfl (fun x2 hx2 => ?_))
    refine ExL.free (by first | exact fr_mul64 rfl rfl rfl (by omega) | exact fr_mul rfl rfl rfl) rfl rfl rfl ?_
    refine ExL.pures 1 rfl ?_
    refine ExL.nil ?_
    refine Ex.region (ExL.pures 1 rfl ?_)
    refine ExL.free (by first | exact fr_add64 rfl rfl rfl (by omega) | exact fr_add rfl rfl rfl) rfl rfl rfl ?_
    refine ExL.pures 1 rfl ?_
    refine ExL.nil ?_
    refine Hand.mk (k + 1) 0 [] ⟨rfl, rfl, trivial⟩ ⟨rfl, rfl, rfl, trivial⟩ (rfl) rfl (by omega) (by omega)
  · refine ExL.nil ?_
    refine Ex.cond_f rfl ?_
    refine Ex.exit ?_
    obtain rfl : k = n := (by omega)
    refine Ex.regSeq (ExL.pures 2 rfl ?_)
    refine ExL.nil ?_
    refine Ex.ret ?_
    refine RetQ.mk () rfl (.tmp rfl .nil) (rfl) [] (rfl) rfl (trivial)
theorem e_51 : Enters Tryz.prog 51 := Enters.of Tryz.func51 rfl
theorem c_choices (s : List Int) (hS : Stk s) (p : VPh) (hP : PhOk s p.l) (hp : OkPh p) (b q : Nat) (n : Nat) (hn : n ≤ s.length) : Ret Tryz.prog 51 [.pointer (some ⟨b, q, none⟩), .int .i64 n] (fun w => Rd w (some ⟨b, q, none⟩) (encPh p)) (fun x : Unit => .int .i64 (choV p.l n)) (fun x => []) (fun x => True) := by
  refine Ret.of e_51 Tryz.func51 rfl Tryz.ntmps51 rfl rfl (fun w hpre => ?_)
  have hpt := hpre.base
  have hpl := ph_len p
  have h8 := hS.len8
  have hm0 : maxLen = 9223372036854775807 := rfl
  refine Ex.regSeq (ExL.pures 1 rfl ?_)
  refine ExL.nil ?_
  refine Ex.regSeq (ExL.pures 1 rfl ?_)
  refine ExL.nil ?_
  refine Ex.seq ?_
  refine Ex.regSeq (ExL.pures 3 rfl ?_)
  refine ExL.free (fr_sliceArr_h (sz := 2) n rfl rfl rfl rfl rfl rfl rfl (by omega)) rfl rfl rfl ?_
  refine ExL.pures 2 rfl ?_
  refine ExL.nil ?_
  refine Ex.block ?_
  refine Ex.loopK (X := Nat) (fun k => [(5, .int .i64 (choV p.l k)), (13, .int .i64 k)]) (fun k => []) (fun k => k ≤ n) (fun k => n - k) 0 [(4, _), (11, _), (12, _)] [] 0 [] ⟨rfl, rfl, trivial⟩ ⟨rfl, rfl, rfl, trivial⟩ (rfl) rfl (Nat.zero_le _) (fun k hI => ?_)
  have hI : k ≤ n := hI
  have hcl := cho_le hP hS (i := k) (by omega)
  refine Ex.regSeq (ExL.pures 0 rfl ?_)
  refine ExL.lss rfl rfl rfl rfl rfl rfl (fun h1 => ?_) (fun h1 => ?_)
  · refine ExL.nil ?_
    refine Ex.seq ?_
    refine Ex.cond_t rfl ?_
    refine Ex.skip ?_
    refine Ex.seq ?_
    refine Ex.block ?_
    have hkn : k < n := by omega
    have hcb := cntM_bd (p.l.getD k zMk)
    have hcm := cho_le hP hS (i := k + 1) (by omega)
    rw [choV] at hcm
    refine Ex.regSeq (ExL.pures 0 rfl ?_)
    refine ExL.free (fr_indexAddr (sz := 2) rfl rfl rfl rfl rfl rfl (by omega)) rfl rfl rfl ?_
    refine ExL.free (fr_loadN rfl rfl rfl rfl rfl (by first | exact segN (Reads.old hpt) encMk_len rfl zMk (by omega) | exact segF (Reads.old hpt) encMk_len rfl zMk (by omega))) rfl rfl rfl ?_
    refine ExL.op rfl (op_alloc rfl rfl rfl rfl rfl (fun b2 => ?_))
    refine ExL.op rfl (op_storeC (i := 0) rfl rfl rfl rfl rfl rfl rfl rfl rfl rfl ?_)
    refine ExL.nil ?_
    refine Ex.region (ExL.pures 1 rfl ?_)
    refine ExL.free (fr_loadN rfl rfl rfl rfl rfl (SegO.whole (i := 0) rfl)) rfl rfl rfl ?_
    refine ExL.op rfl (op_ret rfl rfl rfl (c_count (p.l.getD k zMk) (hp k (by omega))) (fun _ _ => trivial) rfl rfl (fun x3 hx3 => ?_))
    refine ExL.free (by first | exact fr_mul64 rfl rfl rfl (by omega) | exact fr_mul rfl rfl rfl) rfl rfl rfl ?_
    refine ExL.pures 1 rfl ?_
    refine ExL.nil ?_
    refine Ex.region (ExL.pures 0 rfl ?_)
    refine ExL.free (by first | exact fr_add64 rfl rfl rfl (by omega) | exact fr_add rfl rfl rfl) rfl rfl rfl ?_
    refine ExL.pures 1 rfl ?_
    refine ExL.nil ?_
    refine Hand.mk (k + 1) 1 [] ⟨rfl, rfl, trivial⟩ ⟨rfl, rfl, rfl, trivial⟩ (rfl) rfl (by omega) (by omega)
  · refine ExL.nil ?_
    refine Ex.seq ?_
    refine Ex.cond_f rfl ?_
    refine Ex.exit ?_
    obtain rfl : k = n := (by omega)
    refine Ex.regSeq (ExL.pures 2 rfl ?_)
    refine ExL.nil ?_
    refine Ex.ret ?_
    refine RetQ.mk () rfl (.tmp rfl .nil) (rfl) [] (rfl) rfl (trivial)
theorem e_46 : Enters Tryz.prog 46 := Enters.of Tryz.func46 rfl
theorem c_digitsM (m : VMk) (hm : OkMk m) : Ret Tryz.prog 46 [.agg (encMk m).toArray] (fun w => True) (fun x : Option Addr × Nat => .slice x.1 (digI m).length x.2) (fun x => [.row (.slice x.1 (digI m).length x.2) 3 1 (digI m).length ((digI m).flatMap (eI .i64))]) (fun x => True) := by
  refine Ret.of e_46 Tryz.func46 rfl Tryz.ntmps46 rfl rfl (fun w hpre => ?_)
  have hm0 : maxLen = 9223372036854775807 := rfl
  refine Ex.regSeq (ExL.pures 0 rfl ?_)
  refine ExL.op rfl (op_box rfl rfl rfl rfl rfl (fun b1 => ?_))
  refine ExL.pures 1 rfl ?_
  refine ExL.nil ?_
  refine Ex.regSeq (ExL.pures 0 rfl ?_)
  refine ExL.op rfl (op_buildSlice (sz := 1) rfl rfl rfl rfl rfl rfl rfl rfl (by decide) rfl rfl rfl (fun r2 => ?_))
  refine ExL.pures 1 rfl ?_
  refine ExL.nil ?_
  refine Ex.seq ?_
  refine Ex.regSeq (ExL.pures 1 rfl ?_)
  refine ExL.nil ?_
  refine Ex.block ?_
  refine Ex.loopA (fun k A c => [(3, .slice A (digP m k).length c), (6, .int .i64 k)]) (fun k A c => [.row (.slice A (digP m k).length c) 3 1 (digP m k).length ((digP m k).flatMap (eI .i64))]) (fun k => k ≤ 128) (fun k => 128 - k) 0 ((some ⟨r2, 0, none⟩)) (0) [(1, _), (2, _)] [_] 2 [0, 1] ⟨rfl, rfl, trivial⟩ ⟨rfl, rfl, trivial⟩ (rfl) rfl (by omega) (fun k A c hI => ?_)
  have hI : k ≤ 128 := hI
  have hdl := digP_len m k
  refine Ex.regSeq (ExL.pures 0 rfl ?_)
  refine ExL.lss rfl rfl rfl rfl rfl rfl (fun h3 => ?_) (fun h3 => ?_)
  · refine ExL.nil ?_
    refine Ex.seq ?_
    refine Ex.cond_t rfl ?_
    refine Ex.skip ?_
    refine Ex.seq ?_
    refine Ex.block ?_
    refine Ex.regSeq (ExL.pures 2 rfl ?_)
    refine ExL.nil ?_
    refine Ex.regSeq (ExL.pures 0 rfl ?_)
    refine ExL.free (fr_loadN rfl rfl rfl rfl rfl (SegO.whole (i := 1) rfl)) rfl rfl rfl ?_
    refine ExL.pures 1 rfl ?_
    refine ExL.op rfl (op_ret rfl rfl rfl (c_has m hm _ (by omega)) (fun _ _ => trivial) rfl rfl (fun x4 hx4 => ?_))
    refine ExL.nil ?_
    refine Ex.cond rfl (fun hb5 => ?_) (fun hb5 => ?_)
    · refine Ex.region (ExL.pures 2 rfl ?_)
      refine ExL.op rfl (op_buildSlice (sz := 1) rfl rfl rfl rfl rfl rfl rfl rfl (by decide) rfl rfl rfl (fun r6 => ?_))
      refine ExL.op rfl (op_append (sz := 1) (bytes := 8) (i := 1) rfl rfl rfl rfl (Reads.row (i := 0) rfl) rfl (fun e => nomatch e) rfl rfl rfl rfl (by constructor <;> first | omega | (unfold maxLen; omega)) rfl rfl (fun A7 cA7 => ?_))
      refine ExL.pures 1 rfl ?_
      refine ExL.nil ?_
      refine Ex.region (ExL.pures 0 rfl ?_)
      refine ExL.free (by first | exact fr_add64 rfl rfl rfl (by omega) | exact fr_add rfl rfl rfl) rfl rfl rfl ?_
      refine ExL.pures 1 rfl ?_
      refine ExL.nil ?_
      refine HandA.of (k + 1) (A7) (cA7) 3 [1, 2] ⟨(by first | (rw [digP_n (by assumption)]; first | done | rfl) | (rw [digP_y (by assumption), List.length_append]; rfl)), rfl, trivial⟩ ⟨rfl, rfl, trivial⟩ (by first | (rw [digP_n (by assumption)]; first | done | rfl) | (rw [digP_y (by assumption), List.length_append, List.flatMap_append]; rfl)) rfl (by omega) (by omega)
    · refine Ex.skip ?_
      refine Ex.region (ExL.pures 0 rfl ?_)
      refine ExL.free (by first | exact fr_add64 rfl rfl rfl (by omega) | exact fr_add rfl rfl rfl) rfl rfl rfl ?_
      refine ExL.pures 1 rfl ?_
      refine ExL.nil ?_
      refine HandA.of (k + 1) (A) (c) 2 [0, 1] ⟨(by first | (rw [digP_n (by assumption)]; first | done | rfl) | (rw [digP_y (by assumption), List.length_append]; rfl)), rfl, trivial⟩ ⟨rfl, rfl, trivial⟩ (by first | (rw [digP_n (by assumption)]; first | done | rfl) | (rw [digP_y (by assumption), List.length_append, List.flatMap_append]; rfl)) rfl (by omega) (by omega)
  · refine ExL.nil ?_
    refine Ex.seq ?_
    refine Ex.cond_f rfl ?_
    refine Ex.exit ?_
    obtain rfl : k = 128 := (by omega)
    refine Ex.regSeq (ExL.pures 2 rfl ?_)
    refine ExL.nil ?_
    refine Ex.ret ?_
    refine RetQ.mk (A, c) rfl (.tmp rfl .nil) (rfl) [0] (rfl) rfl (trivial)
theorem e_56 : Enters Tryz.prog 56 := Enters.of Tryz.func56 rfl
theorem c_countIn (s : List Int) (hv : validStack s = true) (As : Option Addr) (cs : Nat) (p : VPh) (hp : OkPh p) (a : Dig) (ha : Nums 255 a.l) (hd : validDig s a.l = true) (hP : PhOk s p.l) : Ret Tryz.prog 56 [.slice As s.length cs, .agg (encPh p).toArray, .agg (encD a).toArray] (fun w => Rd w As (s.flatMap (eI .u8))) (fun x : Unit => .int .i64 (belV p.l a.l s.length 0)) (fun x => []) (fun x => True) := by
  refine Ret.of e_56 Tryz.func56 rfl Tryz.ntmps56 rfl rfl (fun w hpre => ?_)
  have hs := hpre.base
  have hS := stk hv
  have h8 := hS.len8
  have hm0 : maxLen = 9223372036854775807 := rfl
  have hD := digOk h8 ha hd
  refine Ex.regSeq (ExL.pures 0 rfl ?_)
  refine ExL.op rfl (op_box rfl rfl rfl rfl rfl (fun b1 => ?_))
  refine ExL.op rfl (op_box rfl rfl rfl rfl rfl (fun b2 => ?_))
  refine ExL.pures 1 rfl ?_
  refine ExL.nil ?_
  refine Ex.regSeq (ExL.pures 1 rfl ?_)
  refine ExL.nil ?_
  refine Ex.seq ?_
  refine Ex.regSeq (ExL.pures 2 rfl ?_)
  refine ExL.free (by first | exact fr_sub64 rfl rfl rfl (by omega) | exact fr_sub rfl rfl rfl) rfl rfl rfl ?_
  refine ExL.pures 1 rfl ?_
  refine ExL.nil ?_
  refine Ex.block ?_
  refine Ex.loopK (X := Nat) (fun k => [(7, .int .i64 (accU p.l a.l (s.length - k) k)), (8, .int .i64 ((k : Int) - 1))]) (fun k => []) (fun k => k ≤ s.length ∧ belV p.l a.l s.length 0 = belV p.l a.l k (accU p.l a.l (s.length - k) k)) (fun k => k) s.length [(4, _), (5, _), (6, _)] [_, _] 2 [0, 1] ⟨agI (by rw [Nat.sub_self]; rfl), rfl, trivial⟩ ⟨rfl, rfl, rfl, trivial⟩ (rfl) rfl ⟨Nat.le_refl _, by rw [Nat.sub_self]; rfl⟩ (fun k hI => ?_)
  have hI : k ≤ s.length ∧ belV p.l a.l s.length 0 = belV p.l a.l k (accU p.l a.l (s.length - k) k) := hI
  obtain ⟨hk, hinv⟩ := hI
  refine Ex.seq ?_
  refine Ex.regSeq (ExL.pures 1 rfl ?_)
  refine ExL.geq rfl rfl rfl rfl rfl rfl (fun h3 => ?_) (fun h3 => ?_)
  · refine ExL.nil ?_
    refine Ex.cond_t rfl ?_
    refine Ex.skip ?_
    refine Ex.seq ?_
    refine Ex.block ?_
    have hab := acc_bd hP hS hD (s.length - k) k (by omega)
    obtain ⟨j, rfl⟩ : ∃ j, k = j + 1 := ⟨k - 1, by omega⟩
    have hjs : j < s.length := by omega
    have hdj := hD j hjs
    have hbj := hS.bases j hjs
    have htb := bel_term hP hS hD hjs
    rw [show ((j + 1 : Nat) : Int) - 1 = (j : Int) by omega]
    refine Ex.regSeq (ExL.pures 1 rfl ?_)
    refine ExL.nil ?_
    refine Ex.seq ?_
    refine Ex.regSeq (ExL.pures 1 rfl ?_)
    refine ExL.free (fr_indexAddr_b (sz := 2) rfl rfl rfl rfl rfl (by omega)) rfl rfl rfl ?_
    refine ExL.free (fr_loadN rfl rfl rfl rfl rfl (segB (i := 1) rfl encMk_len zMk (by rw [ph_len]; omega))) rfl rfl rfl ?_
    refine ExL.op rfl (op_ret rfl rfl rfl (c_digitsM (p.l.getD j zMk) (hp j (by omega))) (fun _ _ => trivial) rfl rfl (fun x4 hx4 => ?_))
    refine ExL.pures 2 rfl ?_
    refine ExL.nil ?_
    refine Ex.block ?_
    have hdl := digI_len' (p.l.getD j zMk)
    refine Ex.loopK (X := Nat) (fun r => [(9, .int .i64 (lessD (digI (p.l.getD j zMk)) (a.l.getD j 0) r)), (24, .int .i64 r)]) (fun r => []) (fun r => r ≤ (digI (p.l.getD j zMk)).length) (fun r => (digI (p.l.getD j zMk)).length - r) 0 [(4, _), (5, _), (6, _), (7, _), (8, _), (22, _), (23, _)] [_, _, _] 3 [0, 1, 2] ⟨rfl, rfl, trivial⟩ ⟨rfl, rfl, rfl, rfl, rfl, rfl, rfl, trivial⟩ (rfl) rfl (Nat.zero_le _) (fun r hI => ?_)
    have hI : r ≤ (digI (p.l.getD j zMk)).length := hI
    have hlb := lessD_bd (digI (p.l.getD j zMk)) (a.l.getD j 0) r
    refine Ex.regSeq (ExL.pures 0 rfl ?_)
    refine ExL.lss rfl rfl rfl rfl rfl rfl (fun h5 => ?_) (fun h5 => ?_)
    · refine ExL.nil ?_
      refine Ex.seq ?_
      refine Ex.cond_t rfl ?_
      refine Ex.skip ?_
      refine Ex.seq ?_
      refine Ex.block ?_
      refine Ex.regSeq (ExL.pures 0 rfl ?_)
      refine ExL.free (fr_indexAddrR (sz := 1) 0 rfl rfl rfl rfl rfl rfl (by omega)) rfl rfl rfl ?_
      refine ExL.free (fr_load rfl rfl rfl rfl (by first | exact cellN (Reads.row (i := 0) rfl) (eI_len .i64) 0 0 rfl (by omega) rfl | exact cellF (Reads.row (i := 0) rfl) (eI_len .i64) 0 0 rfl (by omega) rfl)) rfl rfl rfl ?_
      refine ExL.pures 1 rfl ?_
      refine ExL.nil ?_
      refine Ex.regSeq (ExL.pures 2 rfl ?_)
      refine ExL.free (fr_indexAddr_b (sz := 1) rfl rfl rfl rfl rfl (by omega)) rfl rfl rfl ?_
      refine ExL.free (fr_load rfl rfl rfl rfl (CellO.blk (i := 1) rfl (blkG (eI_len .u8) 0 rfl (by rw [dig_len]; omega) rfl))) rfl rfl rfl ?_
      refine ExL.free (by first | exact fr_conv64 rfl rfl rfl rfl (by omega) | exact fr_conv rfl rfl rfl rfl) rfl rfl rfl ?_
      refine ExL.lss rfl rfl rfl rfl rfl rfl (fun h6 => ?_) (fun h6 => ?_)
      · refine ExL.nil ?_
        refine Ex.cond_t rfl ?_
        refine Ex.region (ExL.pures 1 rfl ?_)
        refine ExL.free (by first | exact fr_add64 rfl rfl rfl (by omega) | exact fr_add rfl rfl rfl) rfl rfl rfl ?_
        refine ExL.pures 1 rfl ?_
        refine ExL.nil ?_
        refine Ex.region (ExL.pures 0 rfl ?_)
        refine ExL.free (by first | exact fr_add64 rfl rfl rfl (by omega) | exact fr_add rfl rfl rfl) rfl rfl rfl ?_
        refine ExL.pures 1 rfl ?_
        refine ExL.nil ?_
        refine Hand.mk (r + 1) 3 [0, 1, 2] ⟨agI (by first | (rw [lessD_y (by assumption)]) | (rw [lessD_n (by assumption)])), rfl, trivial⟩ ⟨rfl, rfl, rfl, rfl, rfl, rfl, rfl, trivial⟩ (rfl) rfl (by omega) (by omega)
      · refine ExL.nil ?_
        refine Ex.cond_f rfl ?_
        refine Ex.skip ?_
        refine Ex.region (ExL.pures 0 rfl ?_)
        refine ExL.free (by first | exact fr_add64 rfl rfl rfl (by omega) | exact fr_add rfl rfl rfl) rfl rfl rfl ?_
        refine ExL.pures 1 rfl ?_
        refine ExL.nil ?_
        refine Hand.mk (r + 1) 3 [0, 1, 2] ⟨agI (by first | (rw [lessD_y (by assumption)]) | (rw [lessD_n (by assumption)])), rfl, trivial⟩ ⟨rfl, rfl, rfl, rfl, rfl, rfl, rfl, trivial⟩ (rfl) rfl (by omega) (by omega)
    · refine ExL.nil ?_
      refine Ex.seq ?_
      refine Ex.cond_f rfl ?_
      refine Ex.exit ?_
      obtain rfl : r = (digI (p.l.getD j zMk)).length := (by omega)
      rw [less_end (by omega)]
      refine Ex.regSeq (ExL.pures 3 rfl ?_)
      refine ExL.op rfl (op_ret rfl rfl rfl (c_choices s (by first | assumption | exact stk (by assumption)) p (by assumption) hp _ _ j (by omega)) (Reads.get (Reads.blk (i := 2) rfl)) rfl rfl (fun x7 hx7 => ?_))
      refine ExL.free (by first | exact fr_mul64 rfl rfl rfl (by omega) | exact fr_mul rfl rfl rfl) rfl rfl rfl ?_
      refine ExL.free (by first | exact fr_add64 rfl rfl rfl (by omega) | exact fr_add rfl rfl rfl) rfl rfl rfl ?_
      refine ExL.pures 1 rfl ?_
      refine ExL.nil ?_
      refine Ex.drawSeqM rfl ?_
      refine ExD.take (i := 0) rfl (by kernel_rfl) (pureVal_ok rfl) ((List.Sublist.refl _)) rfl rfl rfl ?_
      refine ExD.take (i := 1) rfl (by kernel_rfl) (fr_indexAddr_b (sz := 2) rfl rfl rfl rfl rfl (by omega)) ((List.Sublist.refl _)) rfl rfl rfl ?_
      refine ExD.take (i := 2) rfl (by kernel_rfl) (fr_loadN rfl rfl rfl rfl rfl (segB (i := 2) rfl encMk_len zMk (by rw [ph_len]; omega))) ((List.Sublist.refl _)) rfl rfl rfl ?_
      refine ExD.take (i := 3) rfl (by kernel_rfl) (pureVal_ok rfl) ((List.Sublist.refl _)) rfl rfl rfl ?_
      refine ExD.take (i := 4) rfl (by kernel_rfl) (fr_indexAddr_b (sz := 1) rfl rfl rfl rfl rfl (by omega)) ((List.Sublist.refl _)) rfl rfl rfl ?_
      refine ExD.take (i := 5) rfl (by kernel_rfl) (fr_load rfl rfl rfl rfl (CellO.blk (i := 1) rfl (blkG (eI_len .u8) 0 rfl (by rw [dig_len]; omega) rfl))) ((List.Sublist.refl _)) rfl rfl rfl ?_
      refine ExD.take (i := 6) rfl (by kernel_rfl) (by first | exact fr_conv64 rfl rfl rfl rfl (by omega) | exact fr_conv rfl rfl rfl rfl) ((List.Sublist.refl _)) rfl rfl rfl ?_
      refine ExD.op (i := 7) rfl (by kernel_rfl) rfl (op_ret rfl rfl rfl (c_has (p.l.getD j zMk) (hp j (by omega)) (a.l.getD j 0) (by omega)) (fun _ _ => trivial) rfl rfl (fun x8 hx8 => ⟨(List.Sublist.refl _), ?_⟩))
      refine ExD.take (i := 8) rfl (by kernel_rfl) (pureVal_ok rfl) ((List.Sublist.refl _)) rfl rfl rfl ?_
      refine ExD.done (by kernel_rfl) ?_
      refine Ex.cond rfl (fun hb9 => ?_) (fun hb9 => ?_)
      · replace hb9 := nb_t hb9
        refine Ex.exit ?_
        first | (obtain rfl : k = 0 := (by omega)) | skip
        refine Ex.regSeq (ExL.pures 2 rfl ?_)
        refine ExL.nil ?_
        refine Ex.ret ?_
        refine RetQ.mk () rfl (.tmp rfl .nil) (tI (by first | exact (bel_end (by assumption)) | exact bel_stop hinv (by assumption))) [] (rfl) rfl (trivial)
      · replace hb9 := nb_f hb9
        refine Ex.skip ?_
        refine Ex.region (ExL.pures 1 rfl ?_)
        refine ExL.free (by first | exact fr_sub64 rfl rfl rfl (by omega) | exact fr_sub rfl rfl rfl) rfl rfl rfl ?_
        refine ExL.pures 1 rfl ?_
        refine ExL.nil ?_
        refine Hand.mk (j) 3 [1, 2] ⟨agI (by rw [acc_s hjs]), agI (by omega), trivial⟩ ⟨rfl, rfl, rfl, trivial⟩ (rfl) rfl (⟨by omega, bel_step hjs hinv (by assumption)⟩) (Nat.lt_succ_self _)
  · refine ExL.nil ?_
    refine Ex.cond_f rfl ?_
    refine Ex.exit ?_
    first | (obtain rfl : k = 0 := (by omega)) | skip
    refine Ex.regSeq (ExL.pures 2 rfl ?_)
    refine ExL.nil ?_
    refine Ex.ret ?_
    refine RetQ.mk () rfl (.tmp rfl .nil) (tI (by first | exact (bel_end (by assumption)) | exact bel_stop hinv (by assumption))) [] (rfl) rfl (trivial)
end Go.Proofs.YtdgfalhfmboalaaGreatDoor

/- What these functions of the program hand back, each proved by walking its operations. -/
set_option linter.unusedVariables false
set_option linter.unusedSimpArgs false
set_option maxRecDepth 4000
namespace Go.Proofs.YtdgfalhfmboalaaGreatDoor
open Go Go.Sx Go.RowKit Go.W Go.Proofs
attribute [local irreducible] Ex ExL ExD Op1 Free RetQ MutQ Reads CellO SegO LoadsAs
theorem e_105 : Enters Tryz.prog 105 := Enters.of Tryz.func105 rfl
theorem c_GrowU (n : Nat) (hn : n ≤ 1000000) : Ret Tryz.prog 105 [.slice none 0 0, .int .i64 n] (fun w => True) (fun x : Option Addr × Nat => .slice x.1 0 x.2) (fun x => [.row (.slice x.1 0 x.2) 5 1 0 []]) (fun x => True) := by
  refine Ret.of e_105 Tryz.func105 rfl Tryz.ntmps105 rfl rfl (fun w hpre => ?_)
  have hm0 : maxLen = 9223372036854775807 := rfl
  refine Ex.regSeq (ExL.pures 1 rfl ?_)
  refine ExL.nil ?_
  refine Ex.seq ?_
  refine Ex.regSeq (ExL.pures 1 rfl ?_)
  refine ExL.free (fr_lss_f rfl rfl rfl (by omega)) rfl rfl rfl ?_
  refine ExL.nil ?_
  refine Ex.cond_f rfl ?_
  refine Ex.skip ?_
  refine Ex.seq ?_
  refine Ex.regSeq (ExL.pures 2 rfl ?_)
  refine ExL.free (fr_cap rfl rfl rfl) rfl rfl rfl ?_
  refine ExL.pures 2 rfl ?_
  refine ExL.free (by first | exact fr_sub64 rfl rfl rfl (by omega) | exact fr_sub rfl rfl rfl) rfl rfl rfl ?_
  refine ExL.free (Free.val (n : Int) (fr_sub64 rfl rfl rfl (by omega)) (by omega)) rfl rfl rfl ?_
  refine ExL.pures 1 rfl ?_
  refine ExL.nil ?_
  refine Ex.regSeq (ExL.pures 1 rfl ?_)
  refine ExL.gtr rfl rfl rfl rfl rfl rfl (fun h1 => ?_) (fun h1 => ?_)
  · refine ExL.nil ?_
    refine Ex.cond_t rfl ?_
    refine Ex.region (ExL.pures 2 rfl ?_)
    refine ExL.free (fr_cap rfl rfl rfl) rfl rfl rfl ?_
    refine ExL.free (fr_slice_h (sz := 1) 0 rfl rfl rfl rfl rfl rfl (by omega)) rfl rfl rfl ?_
    refine ExL.pures 1 rfl ?_
    refine ExL.op rfl (op_appendZ (sz := 1) (bytes := 1) rfl rfl rfl rfl rfl rfl rfl (by omega) (by constructor <;> first | omega | (unfold maxLen; omega)) rfl rfl (fun r2 cr2 => ?_))
    refine ExL.pures 2 rfl ?_
    refine ExL.free (fr_slice_h (sz := 1) 0 rfl rfl rfl rfl rfl rfl (by omega)) rfl rfl rfl ?_
    refine ExL.pures 1 rfl ?_
    refine ExL.nil ?_
    refine Ex.regSeq (ExL.pures 2 rfl ?_)
    refine ExL.nil ?_
    refine Ex.ret ?_
    refine RetQ.mk ((some ⟨r2, 0, none⟩), cr2) rfl (.tmp rfl .nil) (rfl) [0] (rfl) rfl (trivial)
  · refine ExL.nil ?_
    refine Ex.cond_f rfl ?_
    refine Ex.skip ?_
    refine Ex.regSeq (ExL.pures 2 rfl ?_)
    refine ExL.nil ?_
    refine Ex.nilRow 5 1 ?_
    refine Ex.ret ?_
    refine RetQ.mk (none, 0) rfl (.tmp rfl .nil) (rfl) [0] (rfl) rfl (trivial)
theorem e_104 : Enters Tryz.prog 104 := Enters.of Tryz.func104 rfl
theorem c_GrowM (n : Nat) (hn : n ≤ 1000000) : Ret Tryz.prog 104 [.slice none 0 0, .int .i64 n] (fun w => True) (fun x : Option Addr × Nat => .slice x.1 0 x.2) (fun x => [.row (.slice x.1 0 x.2) 29 2 0 []]) (fun x => True) := by
  refine Ret.of e_104 Tryz.func104 rfl Tryz.ntmps104 rfl rfl (fun w hpre => ?_)
  have hm0 : maxLen = 9223372036854775807 := rfl
  refine Ex.regSeq (ExL.pures 1 rfl ?_)
  refine ExL.nil ?_
  refine Ex.seq ?_
  refine Ex.regSeq (ExL.pures 1 rfl ?_)
  refine ExL.free (fr_lss_f rfl rfl rfl (by omega)) rfl rfl rfl ?_
  refine ExL.nil ?_
  refine Ex.cond_f rfl ?_
  refine Ex.skip ?_
  refine Ex.seq ?_
  refine Ex.regSeq (ExL.pures 2 rfl ?_)
  refine ExL.free (fr_cap rfl rfl rfl) rfl rfl rfl ?_
  refine ExL.pures 2 rfl ?_
  refine ExL.free (by first | exact fr_sub64 rfl rfl rfl (by omega) | exact fr_sub rfl rfl rfl) rfl rfl rfl ?_
  refine ExL.free (Free.val (n : Int) (fr_sub64 rfl rfl rfl (by omega)) (by omega)) rfl rfl rfl ?_
  refine ExL.pures 1 rfl ?_
  refine ExL.nil ?_
  refine Ex.regSeq (ExL.pures 1 rfl ?_)
  refine ExL.gtr rfl rfl rfl rfl rfl rfl (fun h1 => ?_) (fun h1 => ?_)
  · refine ExL.nil ?_
    refine Ex.cond_t rfl ?_
    refine Ex.region (ExL.pures 2 rfl ?_)
    refine ExL.free (fr_cap rfl rfl rfl) rfl rfl rfl ?_
    refine ExL.free (fr_slice_h (sz := 2) 0 rfl rfl rfl rfl rfl rfl (by omega)) rfl rfl rfl ?_
    refine ExL.pures 1 rfl ?_
    refine ExL.op rfl (op_appendZ (sz := 2) (bytes := 16) rfl rfl rfl rfl rfl rfl rfl (by omega) (by constructor <;> first | omega | (unfold maxLen; omega)) rfl rfl (fun r2 cr2 => ?_))
    refine ExL.pures 2 rfl ?_
    refine ExL.free (fr_slice_h (sz := 2) 0 rfl rfl rfl rfl rfl rfl (by omega)) rfl rfl rfl ?_
    refine ExL.pures 1 rfl ?_
    refine ExL.nil ?_
    refine Ex.regSeq (ExL.pures 2 rfl ?_)
    refine ExL.nil ?_
    refine Ex.ret ?_
    refine RetQ.mk ((some ⟨r2, 0, none⟩), cr2) rfl (.tmp rfl .nil) (rfl) [0] (rfl) rfl (trivial)
  · refine ExL.nil ?_
    refine Ex.cond_f rfl ?_
    refine Ex.skip ?_
    refine Ex.regSeq (ExL.pures 2 rfl ?_)
    refine ExL.nil ?_
    refine Ex.nilRow 29 2 ?_
    refine Ex.ret ?_
    refine RetQ.mk (none, 0) rfl (.tmp rfl .nil) (rfl) [0] (rfl) rfl (trivial)
theorem e_92 : Enters Tryz.prog 92 := Enters.of Tryz.func92 rfl
theorem c_ConcatU (K : List (VX Int)) (AK : Option Addr) (cK : Nat) (hT : (catX K K.length).length ≤ 1000000) (hL : K.length ≤ 1000000) (hN : ∀ k, k < K.length → (K.getD k zX).A = none → (K.getD k zX).xs.length = 0 ∧ (K.getD k zX).c = 0) : Ret Tryz.prog 92 [.slice AK K.length cK] (fun w => Rd w AK (K.flatMap encX) ∧ ∀ k, k < K.length → Rd w (K.getD k zX).A ((K.getD k zX).xs.flatMap (eI .u8))) (fun x : Option Addr × Nat => .slice x.1 (catX K K.length).length x.2) (fun x => [.row (.slice x.1 (catX K K.length).length x.2) 5 1 (catX K K.length).length ((catX K K.length).flatMap (eI .u8))]) (fun x => True) := by
  refine Ret.of e_92 Tryz.func92 rfl Tryz.ntmps92 rfl rfl (fun w hpre => ?_)
  have hKr := hpre.1.base
  have hKi := fun k hk => (hpre.2 k hk).base
  have hm0 : maxLen = 9223372036854775807 := rfl
  refine Ex.regSeq (ExL.pures 1 rfl ?_)
  refine ExL.nil ?_
  refine Ex.regSeq (ExL.pures 1 rfl ?_)
  refine ExL.nil ?_
  refine Ex.seq ?_
  refine Ex.regSeq (ExL.pures 3 rfl ?_)
  refine ExL.nil ?_
  refine Ex.block ?_
  refine Ex.loopK (X := Nat) (fun k => [(3, .int .i64 (catX K k).length), (11, .int .i64 k)]) (fun k => []) (fun k => k ≤ K.length) (fun k => K.length - k) 0 [(0, _), (2, _), (9, _), (10, _)] [] 0 [] ⟨rfl, rfl, trivial⟩ ⟨rfl, rfl, rfl, rfl, trivial⟩ (rfl) rfl (Nat.zero_le _) (fun k hI => ?_)
  have hI : k ≤ K.length := hI
  have hcm := catX_mono hI
  refine Ex.regSeq (ExL.pures 0 rfl ?_)
  refine ExL.lss rfl rfl rfl rfl rfl rfl (fun h1 => ?_) (fun h1 => ?_)
  · refine ExL.nil ?_
    refine Ex.seq ?_
    refine Ex.cond_t rfl ?_
    refine Ex.skip ?_
    refine Ex.seq ?_
    refine Ex.block ?_
    have hkk : k < K.length := by omega
    have hcs := catX_sl hkk
    have hcm1 := catX_mono (K := K) (k := k + 1) (by omega)
    refine Ex.regSeq (ExL.pures 0 rfl ?_)
    refine ExL.free (fr_indexAddrF (Reads.old hKr) encX_len rfl rfl rfl rfl rfl rfl (by omega)) rfl rfl rfl ?_
    refine ExL.free (fr_load rfl rfl rfl rfl (by first | exact cellN (Reads.old hKr) encX_len zX 0 rfl (by omega) rfl | exact cellF (Reads.old hKr) encX_len zX 0 rfl (by omega) rfl)) rfl rfl rfl ?_
    refine ExL.pures 1 rfl ?_
    refine ExL.nil ?_
    refine Ex.regSeq (ExL.pures 3 rfl ?_)
    refine ExL.free (by first | exact fr_add64 rfl rfl rfl (by omega) | exact fr_add rfl rfl rfl) rfl rfl rfl ?_
    refine ExL.pures 1 rfl ?_
    refine ExL.nil ?_
    refine Ex.regSeq (ExL.pures 1 rfl ?_)
    refine ExL.free (fr_lss_f rfl rfl rfl (by omega)) rfl rfl rfl ?_
    refine ExL.nil ?_
    refine Ex.cond_f rfl ?_
    refine Ex.skip ?_
    refine Ex.region (ExL.pures 0 rfl ?_)
    refine ExL.free (by first | exact fr_add64 rfl rfl rfl (by omega) | exact fr_add rfl rfl rfl) rfl rfl rfl ?_
    refine ExL.pures 1 rfl ?_
    refine ExL.nil ?_
    refine Hand.mk (k + 1) 0 [] ⟨agI (by rw [hcs]; omega), rfl, trivial⟩ ⟨rfl, rfl, rfl, rfl, trivial⟩ (rfl) rfl (by omega) (by omega)
  · refine ExL.nil ?_
    refine Ex.seq ?_
    refine Ex.cond_f rfl ?_
    refine Ex.exit ?_
    obtain rfl : k = K.length := (by omega)
    refine Ex.regSeq (ExL.pures 1 rfl ?_)
    refine ExL.op rfl (op_ret rfl rfl rfl (c_GrowU (catX K K.length).length (by omega)) (fun _ _ => trivial) rfl rfl (fun x2 hx2 => ?_))
    refine ExL.pures 1 rfl ?_
    refine ExL.nil ?_
    refine Ex.seq ?_
    refine Ex.regSeq (ExL.pures 3 rfl ?_)
    refine ExL.nil ?_
    refine Ex.block ?_
    refine Ex.loopA (fun k A c => [(6, .slice A (catX K k).length c), (27, .int .i64 k)]) (fun k A c => [.row (.slice A (catX K k).length c) 5 1 (catX K k).length ((catX K k).flatMap (eI .u8))]) (fun k => k ≤ K.length) (fun k => K.length - k) 0 (x2.1) (x2.2) [(2, _), (25, _), (26, _)] [] 1 [0] ⟨rfl, rfl, trivial⟩ ⟨rfl, rfl, rfl, trivial⟩ (by first | rfl | (rw [catX_0]; rfl)) rfl (Nat.zero_le _) (fun k A c hI => ?_)
    have hI : k ≤ K.length := hI
    have hcm := catX_mono hI
    refine Ex.regSeq (ExL.pures 0 rfl ?_)
    refine ExL.lss rfl rfl rfl rfl rfl rfl (fun h3 => ?_) (fun h3 => ?_)
    · refine ExL.nil ?_
      refine Ex.seq ?_
      refine Ex.cond_t rfl ?_
      refine Ex.skip ?_
      refine Ex.seq ?_
      refine Ex.block ?_
      have hkk : k < K.length := by omega
      have hcs := catX_sl hkk
      have hcm1 := catX_mono (K := K) (k := k + 1) (by omega)
      refine Ex.regSeq (ExL.pures 0 rfl ?_)
      refine ExL.free (fr_indexAddrF (Reads.old hKr) encX_len rfl rfl rfl rfl rfl rfl (by omega)) rfl rfl rfl ?_
      refine ExL.free (fr_load rfl rfl rfl rfl (by first | exact cellN (Reads.old hKr) encX_len zX 0 rfl (by omega) rfl | exact cellF (Reads.old hKr) encX_len zX 0 rfl (by omega) rfl)) rfl rfl rfl ?_
      refine ExL.pures 1 rfl ?_
      refine ExL.nil ?_
      refine Ex.region (ExL.pures 2 rfl ?_)
      refine ExL.op rfl (op_append (sz := 1) (bytes := 1) (i := 0) rfl rfl rfl rfl (Reads.old (hKi k (by omega))) (flat_len (eI_len .u8) _) (fun e => hN k (by omega) e) (all_flat (fun _ => rfl) _) rfl rfl rfl (by constructor <;> first | omega | (unfold maxLen; omega)) rfl rfl (fun A4 cA4 => ?_))
      refine ExL.pures 1 rfl ?_
      refine ExL.nil ?_
      refine Ex.region (ExL.pures 0 rfl ?_)
      refine ExL.free (by first | exact fr_add64 rfl rfl rfl (by omega) | exact fr_add rfl rfl rfl) rfl rfl rfl ?_
      refine ExL.pures 1 rfl ?_
      refine ExL.nil ?_
      refine HandA.of (k + 1) (A4) (cA4) 1 [0] ⟨(by rw [hcs]; rfl), rfl, trivial⟩ ⟨rfl, rfl, rfl, trivial⟩ (by rw [hcs, catX_s hkk, List.flatMap_append]; rfl) rfl (by omega) (by omega)
    · refine ExL.nil ?_
      refine Ex.seq ?_
      refine Ex.cond_f rfl ?_
      refine Ex.exit ?_
      obtain rfl : k = K.length := (by omega)
      refine Ex.regSeq (ExL.pures 2 rfl ?_)
      refine ExL.nil ?_
      refine Ex.ret ?_
      refine RetQ.mk (A, c) rfl (.tmp rfl .nil) (rfl) [0] (rfl) rfl (trivial)
theorem e_91 : Enters Tryz.prog 91 := Enters.of Tryz.func91 rfl
theorem c_ConcatM (K : List (VX VMk)) (AK : Option Addr) (cK : Nat) (hT : (catX K K.length).length ≤ 1000000) (hL : K.length ≤ 1000000) (hN : ∀ k, k < K.length → (K.getD k zX).A = none → (K.getD k zX).xs.length = 0 ∧ (K.getD k zX).c = 0) : Ret Tryz.prog 91 [.slice AK K.length cK] (fun w => Rd w AK (K.flatMap encX) ∧ ∀ k, k < K.length → Rd w (K.getD k zX).A ((K.getD k zX).xs.flatMap encMk)) (fun x : Option Addr × Nat => .slice x.1 (catX K K.length).length x.2) (fun x => [.row (.slice x.1 (catX K K.length).length x.2) 29 2 (catX K K.length).length ((catX K K.length).flatMap encMk)]) (fun x => True) := by
  refine Ret.of e_91 Tryz.func91 rfl Tryz.ntmps91 rfl rfl (fun w hpre => ?_)
  have hKr := hpre.1.base
  have hKi := fun k hk => (hpre.2 k hk).base
  have hm0 : maxLen = 9223372036854775807 := rfl
  refine Ex.regSeq (ExL.pures 1 rfl ?_)
  refine ExL.nil ?_
  refine Ex.regSeq (ExL.pures 1 rfl ?_)
  refine ExL.nil ?_
  refine Ex.seq ?_
  refine Ex.regSeq (ExL.pures 3 rfl ?_)
  refine ExL.nil ?_
  refine Ex.block ?_
  refine Ex.loopK (X := Nat) (fun k => [(3, .int .i64 (catX K k).length), (11, .int .i64 k)]) (fun k => []) (fun k => k ≤ K.length) (fun k => K.length - k) 0 [(0, _), (2, _), (9, _), (10, _)] [] 0 [] ⟨rfl, rfl, trivial⟩ ⟨rfl, rfl, rfl, rfl, trivial⟩ (rfl) rfl (Nat.zero_le _) (fun k hI => ?_)
  have hI : k ≤ K.length := hI
  have hcm := catX_mono hI
  refine Ex.regSeq (ExL.pures 0 rfl ?_)
  refine ExL.lss rfl rfl rfl rfl rfl rfl (fun h1 => ?_) (fun h1 => ?_)
  · refine ExL.nil ?_
    refine Ex.seq ?_
    refine Ex.cond_t rfl ?_
    refine Ex.skip ?_
    refine Ex.seq ?_
    refine Ex.block ?_
    have hkk : k < K.length := by omega
    have hcs := catX_sl hkk
    have hcm1 := catX_mono (K := K) (k := k + 1) (by omega)
    refine Ex.regSeq (ExL.pures 0 rfl ?_)
    refine ExL.free (fr_indexAddrF (Reads.old hKr) encX_len rfl rfl rfl rfl rfl rfl (by omega)) rfl rfl rfl ?_
    refine ExL.free (fr_load rfl rfl rfl rfl (by first | exact cellN (Reads.old hKr) encX_len zX 0 rfl (by omega) rfl | exact cellF (Reads.old hKr) encX_len zX 0 rfl (by omega) rfl)) rfl rfl rfl ?_
    refine ExL.pures 1 rfl ?_
    refine ExL.nil ?_
    refine Ex.regSeq (ExL.pures 3 rfl ?_)
    refine ExL.free (by first | exact fr_add64 rfl rfl rfl (by omega) | exact fr_add rfl rfl rfl) rfl rfl rfl ?_
    refine ExL.pures 1 rfl ?_
    refine ExL.nil ?_
    refine Ex.regSeq (ExL.pures 1 rfl ?_)
    refine ExL.free (fr_lss_f rfl rfl rfl (by omega)) rfl rfl rfl ?_
    refine ExL.nil ?_
    refine Ex.cond_f rfl ?_
    refine Ex.skip ?_
    refine Ex.region (ExL.pures 0 rfl ?_)
    refine ExL.free (by first | exact fr_add64 rfl rfl rfl (by omega) | exact fr_add rfl rfl rfl) rfl rfl rfl ?_
    refine ExL.pures 1 rfl ?_
    refine ExL.nil ?_
    refine Hand.mk (k + 1) 0 [] ⟨agI (by rw [hcs]; omega), rfl, trivial⟩ ⟨rfl, rfl, rfl, rfl, trivial⟩ (rfl) rfl (by omega) (by omega)
  · refine ExL.nil ?_
    refine Ex.seq ?_
    refine Ex.cond_f rfl ?_
    refine Ex.exit ?_
    obtain rfl : k = K.length := (by omega)
    refine Ex.regSeq (ExL.pures 1 rfl ?_)
    refine ExL.op rfl (op_ret rfl rfl rfl (c_GrowM (catX K K.length).length (by omega)) (fun _ _ => trivial) rfl rfl (fun x2 hx2 => ?_))
    refine ExL.pures 1 rfl ?_
    refine ExL.nil ?_
    refine Ex.seq ?_
    refine Ex.regSeq (ExL.pures 3 rfl ?_)
    refine ExL.nil ?_
    refine Ex.block ?_
    refine Ex.loopA (fun k A c => [(6, .slice A (catX K k).length c), (27, .int .i64 k)]) (fun k A c => [.row (.slice A (catX K k).length c) 29 2 (catX K k).length ((catX K k).flatMap encMk)]) (fun k => k ≤ K.length) (fun k => K.length - k) 0 (x2.1) (x2.2) [(2, _), (25, _), (26, _)] [] 1 [0] ⟨rfl, rfl, trivial⟩ ⟨rfl, rfl, rfl, trivial⟩ (by first | rfl | (rw [catX_0]; rfl)) rfl (Nat.zero_le _) (fun k A c hI => ?_)
    have hI : k ≤ K.length := hI
    have hcm := catX_mono hI
    refine Ex.regSeq (ExL.pures 0 rfl ?_)
    refine ExL.lss rfl rfl rfl rfl rfl rfl (fun h3 => ?_) (fun h3 => ?_)
    · refine ExL.nil ?_
      refine Ex.seq ?_
      refine Ex.cond_t rfl ?_
      refine Ex.skip ?_
      refine Ex.seq ?_
      refine Ex.block ?_
      have hkk : k < K.length := by omega
      have hcs := catX_sl hkk
      have hcm1 := catX_mono (K := K) (k := k + 1) (by omega)
      refine Ex.regSeq (ExL.pures 0 rfl ?_)
      refine ExL.free (fr_indexAddrF (Reads.old hKr) encX_len rfl rfl rfl rfl rfl rfl (by omega)) rfl rfl rfl ?_
      refine ExL.free (fr_load rfl rfl rfl rfl (by first | exact cellN (Reads.old hKr) encX_len zX 0 rfl (by omega) rfl | exact cellF (Reads.old hKr) encX_len zX 0 rfl (by omega) rfl)) rfl rfl rfl ?_
      refine ExL.pures 1 rfl ?_
      refine ExL.nil ?_
      refine Ex.region (ExL.pures 2 rfl ?_)
      refine ExL.op rfl (op_append (sz := 2) (bytes := 16) (i := 0) rfl rfl rfl rfl (Reads.old (hKi k (by omega))) (flat_len encMk_len _) (fun e => hN k (by omega) e) (all_flat (fun _ => rfl) _) rfl rfl rfl (by constructor <;> first | omega | (unfold maxLen; omega)) rfl rfl (fun A4 cA4 => ?_))
      refine ExL.pures 1 rfl ?_
      refine ExL.nil ?_
      refine Ex.region (ExL.pures 0 rfl ?_)
      refine ExL.free (by first | exact fr_add64 rfl rfl rfl (by omega) | exact fr_add rfl rfl rfl) rfl rfl rfl ?_
      refine ExL.pures 1 rfl ?_
      refine ExL.nil ?_
      refine HandA.of (k + 1) (A4) (cA4) 1 [0] ⟨(by rw [hcs]; rfl), rfl, trivial⟩ ⟨rfl, rfl, rfl, trivial⟩ (by rw [hcs, catX_s hkk, List.flatMap_append]; rfl) rfl (by omega) (by omega)
    · refine ExL.nil ?_
      refine Ex.seq ?_
      refine Ex.cond_f rfl ?_
      refine Ex.exit ?_
      obtain rfl : k = K.length := (by omega)
      refine Ex.regSeq (ExL.pures 2 rfl ?_)
      refine ExL.nil ?_
      refine Ex.ret ?_
      refine RetQ.mk (A, c) rfl (.tmp rfl .nil) (rfl) [0] (rfl) rfl (trivial)
end Go.Proofs.YtdgfalhfmboalaaGreatDoor
