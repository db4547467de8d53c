/- Arguments, opened by their types. -/
import Derived.Test.YtlbmdndkaikchaaDoorSh
import Derived.Test.YtlbmdndkaikchaaDoorM11
import Derived.Test.YtlbmdndkaikchaaDoorProg
namespace Go.Proofs.YtlbmdndkaikchaaDoor
open Go Go.Sx Go.W Go.RowKit
set_option maxRecDepth 100000
theorem o_Stack {W : World} {cs : List Value} (h : Cl Tryd.prog W 35 cs) : ∃ (A : Option Addr) (c : Nat) (s : List Int), cs = [.slice A s.length c] ∧ s.length ≤ maxLen ∧ (Nums 255 s) ∧ Rd W A (s.flatMap (eI .u8)) := by
  obtain ⟨A, n, c, e, hn, els, hlen, hall, hr⟩ := h.slice rfl (of_decide_eq_true (by kernel_rfl))
  obtain ⟨s, e2, l2, p2⟩ := each (f := eI .u8) (p := fun k => 0 ≤ k ∧ k ≤ 255) (fun x hx => by obtain ⟨k, e, w⟩ := ((hall x hx).2).int rfl; exact ⟨k, e, bounds_u8 w⟩)
  rw [e2] at hr
  obtain rfl : n = s.length := by omega
  exact ⟨A, c, s, e, hn, p2, hr⟩
theorem o_Total {W : World} {cs : List Value} (h : Cl Tryd.prog W 33 cs) : ∃ a : VP, cs = encP a ∧ OkP a := by
  obtain ⟨hl, hf⟩ := h.struct rfl
  have hl' : cs.length = 2 := hl
  match cs, hl' with
  | [c0, c1], _ =>
    obtain ⟨x0, e0, w0⟩ := Cl.int (cs := [c0]) rfl (hf _ (.head _))
    have b0 := bounds_i64 w0
    have f0 : [c0] = [.int .i64 x0] := e0
    obtain ⟨x1, e1, w1⟩ := Cl.int (cs := [c1]) rfl (hf _ (.tail _ (.head _)))
    have b1 := bounds_i64 w1
    have f1 : [c1] = [.int .i64 x1] := e1
    cases f0; cases f1
    exact ⟨⟨x0, x1⟩, rfl, b0, b1⟩
theorem o_TotalS {W : World} {cs : List Value} (h : Cl Tryd.prog W 22 cs) : ∃ (A : Option Addr) (c : Nat) (s : List VP), cs = [.slice A s.length c] ∧ s.length ≤ maxLen ∧ (∀ k ∈ s, OkP k) ∧ Rd W A (s.flatMap (encP)) := by
  obtain ⟨A, n, c, e, hn, els, hlen, hall, hr⟩ := h.slice rfl (of_decide_eq_true (by kernel_rfl))
  obtain ⟨s, e2, l2, p2⟩ := each (f := encP) (p := fun k => OkP k) (fun x hx => by obtain ⟨k, e, w⟩ := o_Total (hall x hx).2; exact ⟨k, e, w⟩)
  rw [e2] at hr
  obtain rfl : n = s.length := by omega
  exact ⟨A, c, s, e, hn, p2, hr⟩
end Go.Proofs.YtlbmdndkaikchaaDoor
