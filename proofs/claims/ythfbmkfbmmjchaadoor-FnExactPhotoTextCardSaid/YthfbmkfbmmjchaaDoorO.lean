/- Arguments, opened by their types. -/
import Derived.Test.YthfbmkfbmmjchaaDoorSh
import Derived.Test.YthfbmkfbmmjchaaDoorM32
import Derived.Test.YthfbmkfbmmjchaaDoorM11
import Derived.Test.YthfbmkfbmmjchaaDoorM2
import Derived.Test.YthfbmkfbmmjchaaDoorProg
namespace Go.Proofs.YthfbmkfbmmjchaaDoor
open Go Go.Sx Go.W Go.RowKit
set_option maxRecDepth 100000
theorem o_Stack {W : World} {cs : List Value} (h : Cl Tryd.prog W 29 cs) : ∃ (A : Option Addr) (c : Nat) (s : List Int), cs = [.slice A s.length c] ∧ s.length ≤ maxLen ∧ (Nums 255 s) ∧ Rd W A (s.flatMap (eI .u8)) := by
  obtain ⟨A, n, c, e, hn, els, hlen, hall, hr⟩ := h.slice rfl (of_decide_eq_true (by kernel_rfl))
  obtain ⟨s, e2, l2, p2⟩ := each (f := eI .u8) (p := fun k => 0 ≤ k ∧ k ≤ 255) (fun x hx => by obtain ⟨k, e, w⟩ := ((hall x hx).2).int rfl; exact ⟨k, e, bounds_u8 w⟩)
  rw [e2] at hr
  obtain rfl : n = s.length := by omega
  exact ⟨A, c, s, e, hn, p2, hr⟩
theorem o_Digits {W : World} {cs : List Value} (h : Cl Tryd.prog W 42 cs) : ∃ a : Dig, cs = encD a ∧ Nums 255 a.l := by
  obtain ⟨hl, hf⟩ := h.array rfl
  have hl' : cs.length = 8 := hl
  match cs, hl' with
  | [c0, c1, c2, c3, c4, c5, c6, c7], _ =>
    obtain ⟨x0, e0, w0⟩ := Cl.int (cs := [c0]) rfl (hf 0 (by omega))
    have f0 : [c0] = [.int .u8 x0] := e0
    have b0 := bounds_u8 w0
    obtain ⟨x1, e1, w1⟩ := Cl.int (cs := [c1]) rfl (hf 1 (by omega))
    have f1 : [c1] = [.int .u8 x1] := e1
    have b1 := bounds_u8 w1
    obtain ⟨x2, e2, w2⟩ := Cl.int (cs := [c2]) rfl (hf 2 (by omega))
    have f2 : [c2] = [.int .u8 x2] := e2
    have b2 := bounds_u8 w2
    obtain ⟨x3, e3, w3⟩ := Cl.int (cs := [c3]) rfl (hf 3 (by omega))
    have f3 : [c3] = [.int .u8 x3] := e3
    have b3 := bounds_u8 w3
    obtain ⟨x4, e4, w4⟩ := Cl.int (cs := [c4]) rfl (hf 4 (by omega))
    have f4 : [c4] = [.int .u8 x4] := e4
    have b4 := bounds_u8 w4
    obtain ⟨x5, e5, w5⟩ := Cl.int (cs := [c5]) rfl (hf 5 (by omega))
    have f5 : [c5] = [.int .u8 x5] := e5
    have b5 := bounds_u8 w5
    obtain ⟨x6, e6, w6⟩ := Cl.int (cs := [c6]) rfl (hf 6 (by omega))
    have f6 : [c6] = [.int .u8 x6] := e6
    have b6 := bounds_u8 w6
    obtain ⟨x7, e7, w7⟩ := Cl.int (cs := [c7]) rfl (hf 7 (by omega))
    have f7 : [c7] = [.int .u8 x7] := e7
    have b7 := bounds_u8 w7
    cases f0; cases f1; cases f2; cases f3; cases f4; cases f5; cases f6; cases f7
    refine ⟨⟨x0, x1, x2, x3, x4, x5, x6, x7⟩, rfl, fun x hx => ?_⟩
    simp only [Dig.l, List.mem_cons, List.not_mem_nil, or_false] at hx
    rcases hx with rfl | rfl | rfl | rfl | rfl | rfl | rfl | rfl <;> assumption
theorem o_Marks {W : World} {cs : List Value} (h : Cl Tryd.prog W 31 cs) : ∃ a : VMk, cs = encMk a ∧ OkMk a := by
  obtain ⟨hl, hf⟩ := h.array rfl
  have hl' : cs.length = 2 := hl
  match cs, hl' with
  | [c0, c1], _ =>
    obtain ⟨x0, e0, w0⟩ := Cl.int (cs := [c0]) rfl (hf 0 (by omega))
    have f0 : [c0] = [.int .u64 x0] := e0
    have b0 := bounds_u64 w0
    obtain ⟨x1, e1, w1⟩ := Cl.int (cs := [c1]) rfl (hf 1 (by omega))
    have f1 : [c1] = [.int .u64 x1] := e1
    have b1 := bounds_u64 w1
    cases f0; cases f1
    exact ⟨⟨x0, x1⟩, rfl, ⟨b0.1, Int.lt_add_one_of_le b0.2⟩, b1.1, Int.lt_add_one_of_le b1.2⟩
theorem o_Photo {W : World} {cs : List Value} (h : Cl Tryd.prog W 32 cs) : ∃ a : VPh, cs = encPh a ∧ OkPh a := by
  obtain ⟨hl, hf⟩ := h.array rfl
  have hl' : cs.length = 16 := hl
  match cs, hl' with
  | [c0, c1, c2, c3, c4, c5, c6, c7, c8, c9, c10, c11, c12, c13, c14, c15], _ =>
    obtain ⟨x0, e0, b0⟩ := o_Marks (cs := [c0, c1]) (hf 0 (by omega))
    have f0 : [c0, c1] = [.int .u64 x0.lo, .int .u64 x0.hi] := e0
    obtain ⟨x1, e1, b1⟩ := o_Marks (cs := [c2, c3]) (hf 1 (by omega))
    have f1 : [c2, c3] = [.int .u64 x1.lo, .int .u64 x1.hi] := e1
    obtain ⟨x2, e2, b2⟩ := o_Marks (cs := [c4, c5]) (hf 2 (by omega))
    have f2 : [c4, c5] = [.int .u64 x2.lo, .int .u64 x2.hi] := e2
    obtain ⟨x3, e3, b3⟩ := o_Marks (cs := [c6, c7]) (hf 3 (by omega))
    have f3 : [c6, c7] = [.int .u64 x3.lo, .int .u64 x3.hi] := e3
    obtain ⟨x4, e4, b4⟩ := o_Marks (cs := [c8, c9]) (hf 4 (by omega))
    have f4 : [c8, c9] = [.int .u64 x4.lo, .int .u64 x4.hi] := e4
    obtain ⟨x5, e5, b5⟩ := o_Marks (cs := [c10, c11]) (hf 5 (by omega))
    have f5 : [c10, c11] = [.int .u64 x5.lo, .int .u64 x5.hi] := e5
    obtain ⟨x6, e6, b6⟩ := o_Marks (cs := [c12, c13]) (hf 6 (by omega))
    have f6 : [c12, c13] = [.int .u64 x6.lo, .int .u64 x6.hi] := e6
    obtain ⟨x7, e7, b7⟩ := o_Marks (cs := [c14, c15]) (hf 7 (by omega))
    have f7 : [c14, c15] = [.int .u64 x7.lo, .int .u64 x7.hi] := e7
    cases f0; cases f1; cases f2; cases f3; cases f4; cases f5; cases f6; cases f7
    refine ⟨⟨x0, x1, x2, x3, x4, x5, x6, x7⟩, rfl, fun i hi => ?_⟩
    match i, hi with
    | 0, _ => exact b0
    | 1, _ => exact b1
    | 2, _ => exact b2
    | 3, _ => exact b3
    | 4, _ => exact b4
    | 5, _ => exact b5
    | 6, _ => exact b6
    | 7, _ => exact b7
theorem o_Act {W : World} {cs : List Value} (h : Cl Tryd.prog W 67 cs) : ∃ a : VAct, cs = encA a ∧ OkAct a := by
  obtain ⟨hl, hf⟩ := h.struct rfl
  have hl' : cs.length = 2 := hl
  match cs, hl' with
  | [c0, c1], _ =>
    obtain ⟨x0, e0, w0⟩ := Cl.int (cs := [c0]) rfl (hf _ (.head _))
    have b0 := bounds_i8 w0
    have f0 : [c0] = [.int .i8 x0] := e0
    obtain ⟨x1, e1, w1⟩ := Cl.int (cs := [c1]) rfl (hf _ (.tail _ (.head _)))
    have b1 := bounds_i64 w1
    have f1 : [c1] = [.int .i64 x1] := e1
    cases f0; cases f1
    exact ⟨⟨x0, x1⟩, rfl, b0, b1⟩
theorem o_Ticket {W : World} {cs : List Value} (h : Cl Tryd.prog W 49 cs) : ∃ t : VTic, cs = encT t ∧ OkTic t := by
  obtain ⟨hl, hf⟩ := h.struct rfl
  have hl' : cs.length = 10 := hl
  match cs, hl' with
  | [c0, c1, c2, c3, c4, c5, c6, c7, c8, c9], _ =>
    obtain ⟨x0, e0, w0⟩ := Cl.int (cs := [c0]) rfl (hf _ (.head _))
    have b0 := bounds_i64 w0
    have f0 : [c0] = [.int .i64 x0] := e0
    obtain ⟨x1, e1, b1⟩ := o_Digits (cs := [c1, c2, c3, c4, c5, c6, c7, c8]) (hf _ (.tail _ (.head _)))
    have f1 : [c1, c2, c3, c4, c5, c6, c7, c8] = [.int .u8 x1.d0, .int .u8 x1.d1, .int .u8 x1.d2, .int .u8 x1.d3, .int .u8 x1.d4, .int .u8 x1.d5, .int .u8 x1.d6, .int .u8 x1.d7] := e1
    obtain ⟨x2, e2, w2⟩ := Cl.int (cs := [c9]) rfl (hf _ (.tail _ (.tail _ (.head _))))
    have b2 := bounds_u16 w2
    have f2 : [c9] = [.int .u16 x2] := e2
    cases f0; cases f1; cases f2
    exact ⟨⟨x0, x1, x2⟩, rfl, b0, b1, b2⟩
theorem o_Reading {W : World} {cs : List Value} (h : Cl Tryd.prog W 103 cs) : ∃ a : VP, cs = encP a ∧ OkP a := by
  obtain ⟨hl, hf⟩ := h.struct rfl
  have hl' : cs.length = 2 := hl
  match cs, hl' with
  | [c0, c1], _ =>
    obtain ⟨x0, e0, w0⟩ := Cl.int (cs := [c0]) rfl (hf _ (.head _))
    have b0 := bounds_i64 w0
    have f0 : [c0] = [.int .i64 x0] := e0
    obtain ⟨x1, e1, w1⟩ := Cl.int (cs := [c1]) rfl (hf _ (.tail _ (.head _)))
    have b1 := bounds_i64 w1
    have f1 : [c1] = [.int .i64 x1] := e1
    cases f0; cases f1
    exact ⟨⟨x0, x1⟩, rfl, b0, b1⟩
theorem o_ReadingS {W : World} {cs : List Value} (h : Cl Tryd.prog W 55 cs) : ∃ (A : Option Addr) (c : Nat) (s : List VP), cs = [.slice A s.length c] ∧ s.length ≤ maxLen ∧ (∀ k ∈ s, OkP k) ∧ Rd W A (s.flatMap (encP)) := by
  obtain ⟨A, n, c, e, hn, els, hlen, hall, hr⟩ := h.slice rfl (of_decide_eq_true (by kernel_rfl))
  obtain ⟨s, e2, l2, p2⟩ := each (f := encP) (p := fun k => OkP k) (fun x hx => by obtain ⟨k, e, w⟩ := o_Reading (hall x hx).2; exact ⟨k, e, w⟩)
  rw [e2] at hr
  obtain rfl : n = s.length := by omega
  exact ⟨A, c, s, e, hn, p2, hr⟩
theorem o_ActS {W : World} {cs : List Value} (h : Cl Tryd.prog W 22 cs) : ∃ (A : Option Addr) (c : Nat) (s : List VAct), cs = [.slice A s.length c] ∧ s.length ≤ maxLen ∧ (∀ k ∈ s, OkAct k) ∧ Rd W A (s.flatMap (encA)) := by
  obtain ⟨A, n, c, e, hn, els, hlen, hall, hr⟩ := h.slice rfl (of_decide_eq_true (by kernel_rfl))
  obtain ⟨s, e2, l2, p2⟩ := each (f := encA) (p := fun k => OkAct k) (fun x hx => by obtain ⟨k, e, w⟩ := o_Act (hall x hx).2; exact ⟨k, e, w⟩)
  rw [e2] at hr
  obtain rfl : n = s.length := by omega
  exact ⟨A, c, s, e, hn, p2, hr⟩
end Go.Proofs.YthfbmkfbmmjchaaDoor
