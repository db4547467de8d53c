/- Arguments, opened by their types. -/
import Derived.Test.YtjopackngkfdhaaSh
import Derived.Test.YtjopackngkfdhaaM1
import Derived.Test.YtjopackngkfdhaaProg
namespace Go.Proofs.Ytjopackngkfdhaa
open Go Go.Sx Go.W Go.RowKit
set_option maxRecDepth 100000
theorem o_Act {W : World} {cs : List Value} (h : Cl Try.prog W 24 cs) : ∃ a : VAct, cs = encA a ∧ -128 ≤ a.kind ∧ a.kind ≤ 127 ∧ -9223372036854775808 ≤ a.n ∧ a.n ≤ 9223372036854775807 := by
  obtain ⟨hl, hf⟩ := h.struct rfl
  have hl' : cs.length = 2 := hl
  match cs, hl' with
  | [c0, c1], _ =>
    obtain ⟨k, e0, w0⟩ := (hf _ (.head _)).int rfl
    obtain ⟨n, e1, w1⟩ := (hf _ (.tail _ (.head _))).int rfl
    have e0' : [c0] = [.int .i8 k] := e0
    have e1' : [c1] = [.int .i64 n] := e1
    cases e0'; cases e1'
    have b0 := bounds_i8 w0
    have b1 := bounds_i64 w1
    exact ⟨⟨k, n⟩, rfl, b0.1, b0.2, b1.1, b1.2⟩
end Go.Proofs.Ytjopackngkfdhaa
