/-
  No cell of these rows narrows 'for every input' (looked for: loops, veiled, ifaces, maps, wideKeys, modest, calm, conditions, laid).
  DERIVED. THE GIVEN ROWS OF THIS SEAT. 8 by the template 'for every input the law returns true; each argument reads behind the call as it read before'; 0 by the template 'total and deterministic' (their statements: YtepahnikcojepaaTotals.lean).
  GIVEN WITH THE SEED: the statements are not yours to turn. If you find one false, say at which input.
  Laid BY PROGRAM, IN A SANDBOX (cutbox-rows.mjs): the forced cells as the released guide's own fill.sh prints them over the translation e5bedb3a1b76f73b… (all of the seat's roots in one cut). By AI agents, Wed Nov 11 2026. No macro, syntax, notation, axiom, sorry.
-/
import Derived.Test.YtepahnikcojepaaChecked
import GoSem.Claim
import GoSem.ClaimJoined
import GoSem.ClaimMapViews
import Derived.JoinedTies
import Derived.KernelRfl
namespace Go.Proofs.Ytepahnikcojepaa
/- THE CELL 'sum', in the pinned program and in every row, IS THE sha256 OF THE DUMP (.gsa) THAT YtepahnikcojepaaProg.lean LOADS. Nothing in Lean hashes anything: it is a label: what it is worth is what the hold of that sum in a sandbox is worth. -/
noncomputable def Try.pinned : Pinned := { name := "ytepahnikcojepaa", sum := "e5bedb3a1b76f73b21c56183031f1d4448c88bc3344b217cb2134cb4f176b945", checked := Try.checked }
namespace Rows
def none {H : Type} : Left H := { results := [], args := [] }

/-- 'laws.FnExactBestShift': WHATEVER THE INPUT: true; the input reads as it did. -/
def fnExactBestShiftSpec : ChangeSpec := { name := "fnExactBestShift", fn := fun _ => fun
  | [d1, d2] => { results := [.lit (.bool true)], args := [d1, d2] }
  | _ => none }
def fnExactBestShiftRow : OpenClaim := { program := "ytepahnikcojepaa", sum := "e5bedb3a1b76f73b21c56183031f1d4448c88bc3344b217cb2134cb4f176b945", func := "loop.example/g01278/laws.FnExactBestShift", spec := "fnExactBestShift", apart := false }
def FnExactBestShiftSaid : Prop := fnExactBestShiftRow.holds Try.pinned (OpenSpec.ofChange fnExactBestShiftSpec)

/-- ITS FALSE NEIGHBOUR: 'it returns false'. Refute it at one input. -/
def fnExactBestShiftWrong : ChangeSpec := { name := "fnExactBestShift", fn := fun _ => fun
  | [d1, d2] => { results := [.lit (.bool false)], args := [d1, d2] }
  | _ => none }
def FnExactBestShiftWrongFalsely : Prop := fnExactBestShiftRow.holds Try.pinned (OpenSpec.ofChange fnExactBestShiftWrong)

/-- 'laws.FnExactTotalsFrom': WHATEVER THE INPUT: true; the input reads as it did. -/
def fnExactTotalsFromSpec : ChangeSpec := { name := "fnExactTotalsFrom", fn := fun _ => fun
  | [d1, d2] => { results := [.lit (.bool true)], args := [d1, d2] }
  | _ => none }
def fnExactTotalsFromRow : OpenClaim := { program := "ytepahnikcojepaa", sum := "e5bedb3a1b76f73b21c56183031f1d4448c88bc3344b217cb2134cb4f176b945", func := "loop.example/g01278/laws.FnExactTotalsFrom", spec := "fnExactTotalsFrom", unfollowed := true, recurses := true, apart := false }
def FnExactTotalsFromSaid : Prop := fnExactTotalsFromRow.holds Try.pinned (OpenSpec.ofChange fnExactTotalsFromSpec)

/-- ITS FALSE NEIGHBOUR: 'it returns false'. Refute it at one input. -/
def fnExactTotalsFromWrong : ChangeSpec := { name := "fnExactTotalsFrom", fn := fun _ => fun
  | [d1, d2] => { results := [.lit (.bool false)], args := [d1, d2] }
  | _ => none }
def FnExactTotalsFromWrongFalsely : Prop := fnExactTotalsFromRow.holds Try.pinned (OpenSpec.ofChange fnExactTotalsFromWrong)

/-- 'laws.FnExactLeaksIn': WHATEVER THE INPUT: true; the input reads as it did. -/
def fnExactLeaksInSpec : ChangeSpec := { name := "fnExactLeaksIn", fn := fun _ => fun
  | [d1, d2, d3] => { results := [.lit (.bool true)], args := [d1, d2, d3] }
  | _ => none }
def fnExactLeaksInRow : OpenClaim := { program := "ytepahnikcojepaa", sum := "e5bedb3a1b76f73b21c56183031f1d4448c88bc3344b217cb2134cb4f176b945", func := "loop.example/g01278/laws.FnExactLeaksIn", spec := "fnExactLeaksIn", unfollowed := true, recurses := true, apart := false }
def FnExactLeaksInSaid : Prop := fnExactLeaksInRow.holds Try.pinned (OpenSpec.ofChange fnExactLeaksInSpec)

/-- ITS FALSE NEIGHBOUR: 'it returns false'. Refute it at one input. -/
def fnExactLeaksInWrong : ChangeSpec := { name := "fnExactLeaksIn", fn := fun _ => fun
  | [d1, d2, d3] => { results := [.lit (.bool false)], args := [d1, d2, d3] }
  | _ => none }
def FnExactLeaksInWrongFalsely : Prop := fnExactLeaksInRow.holds Try.pinned (OpenSpec.ofChange fnExactLeaksInWrong)

/-- 'laws.FnExactMergeTotals': WHATEVER THE INPUT: true; the input reads as it did. -/
def fnExactMergeTotalsSpec : ChangeSpec := { name := "fnExactMergeTotals", fn := fun _ => fun
  | [d1, d2] => { results := [.lit (.bool true)], args := [d1, d2] }
  | _ => none }
def fnExactMergeTotalsRow : OpenClaim := { program := "ytepahnikcojepaa", sum := "e5bedb3a1b76f73b21c56183031f1d4448c88bc3344b217cb2134cb4f176b945", func := "loop.example/g01278/laws.FnExactMergeTotals", spec := "fnExactMergeTotals", unfollowed := true, recurses := true, apart := false }
def FnExactMergeTotalsSaid : Prop := fnExactMergeTotalsRow.holds Try.pinned (OpenSpec.ofChange fnExactMergeTotalsSpec)

/-- ITS FALSE NEIGHBOUR: 'it returns false'. Refute it at one input. -/
def fnExactMergeTotalsWrong : ChangeSpec := { name := "fnExactMergeTotals", fn := fun _ => fun
  | [d1, d2] => { results := [.lit (.bool false)], args := [d1, d2] }
  | _ => none }
def FnExactMergeTotalsWrongFalsely : Prop := fnExactMergeTotalsRow.holds Try.pinned (OpenSpec.ofChange fnExactMergeTotalsWrong)

/-- 'laws.FnExactCostWithout': WHATEVER THE INPUT: true; the input reads as it did. -/
def fnExactCostWithoutSpec : ChangeSpec := { name := "fnExactCostWithout", fn := fun _ => fun
  | [d1, d2, d3, d4] => { results := [.lit (.bool true)], args := [d1, d2, d3, d4] }
  | _ => none }
def fnExactCostWithoutRow : OpenClaim := { program := "ytepahnikcojepaa", sum := "e5bedb3a1b76f73b21c56183031f1d4448c88bc3344b217cb2134cb4f176b945", func := "loop.example/g01278/laws.FnExactCostWithout", spec := "fnExactCostWithout", unfollowed := true, recurses := true, apart := false }
def FnExactCostWithoutSaid : Prop := fnExactCostWithoutRow.holds Try.pinned (OpenSpec.ofChange fnExactCostWithoutSpec)

/-- ITS FALSE NEIGHBOUR: 'it returns false'. Refute it at one input. -/
def fnExactCostWithoutWrong : ChangeSpec := { name := "fnExactCostWithout", fn := fun _ => fun
  | [d1, d2, d3, d4] => { results := [.lit (.bool false)], args := [d1, d2, d3, d4] }
  | _ => none }
def FnExactCostWithoutWrongFalsely : Prop := fnExactCostWithoutRow.holds Try.pinned (OpenSpec.ofChange fnExactCostWithoutWrong)

/-- 'laws.FnDrifts': WHATEVER THE INPUT: true; the input reads as it did. -/
def fnDriftsSpec : ChangeSpec := { name := "fnDrifts", fn := fun _ => fun
  | [d1, d2] => { results := [.lit (.bool true)], args := [d1, d2] }
  | _ => none }
def fnDriftsRow : OpenClaim := { program := "ytepahnikcojepaa", sum := "e5bedb3a1b76f73b21c56183031f1d4448c88bc3344b217cb2134cb4f176b945", func := "loop.example/g01278/laws.FnDrifts", spec := "fnDrifts", unfollowed := true, recurses := true, apart := false }
def FnDriftsSaid : Prop := fnDriftsRow.holds Try.pinned (OpenSpec.ofChange fnDriftsSpec)

/-- ITS FALSE NEIGHBOUR: 'it returns false'. Refute it at one input. -/
def fnDriftsWrong : ChangeSpec := { name := "fnDrifts", fn := fun _ => fun
  | [d1, d2] => { results := [.lit (.bool false)], args := [d1, d2] }
  | _ => none }
def FnDriftsWrongFalsely : Prop := fnDriftsRow.holds Try.pinned (OpenSpec.ofChange fnDriftsWrong)

/-- 'laws.FnExactBestStory': WHATEVER THE INPUT: true; the input reads as it did. -/
def fnExactBestStorySpec : ChangeSpec := { name := "fnExactBestStory", fn := fun _ => fun
  | [d1, d2, d3] => { results := [.lit (.bool true)], args := [d1, d2, d3] }
  | _ => none }
def fnExactBestStoryRow : OpenClaim := { program := "ytepahnikcojepaa", sum := "e5bedb3a1b76f73b21c56183031f1d4448c88bc3344b217cb2134cb4f176b945", func := "loop.example/g01278/laws.FnExactBestStory", spec := "fnExactBestStory", unfollowed := true, recurses := true, apart := false }
def FnExactBestStorySaid : Prop := fnExactBestStoryRow.holds Try.pinned (OpenSpec.ofChange fnExactBestStorySpec)

/-- ITS FALSE NEIGHBOUR: 'it returns false'. Refute it at one input. -/
def fnExactBestStoryWrong : ChangeSpec := { name := "fnExactBestStory", fn := fun _ => fun
  | [d1, d2, d3] => { results := [.lit (.bool false)], args := [d1, d2, d3] }
  | _ => none }
def FnExactBestStoryWrongFalsely : Prop := fnExactBestStoryRow.holds Try.pinned (OpenSpec.ofChange fnExactBestStoryWrong)

/-- 'laws.FnExactSureMisreads': WHATEVER THE INPUT: true; the input reads as it did. -/
def fnExactSureMisreadsSpec : ChangeSpec := { name := "fnExactSureMisreads", fn := fun _ => fun
  | [d1, d2, d3] => { results := [.lit (.bool true)], args := [d1, d2, d3] }
  | _ => none }
def fnExactSureMisreadsRow : OpenClaim := { program := "ytepahnikcojepaa", sum := "e5bedb3a1b76f73b21c56183031f1d4448c88bc3344b217cb2134cb4f176b945", func := "loop.example/g01278/laws.FnExactSureMisreads", spec := "fnExactSureMisreads", unfollowed := true, recurses := true, apart := false }
def FnExactSureMisreadsSaid : Prop := fnExactSureMisreadsRow.holds Try.pinned (OpenSpec.ofChange fnExactSureMisreadsSpec)

/-- ITS FALSE NEIGHBOUR: 'it returns false'. Refute it at one input. -/
def fnExactSureMisreadsWrong : ChangeSpec := { name := "fnExactSureMisreads", fn := fun _ => fun
  | [d1, d2, d3] => { results := [.lit (.bool false)], args := [d1, d2, d3] }
  | _ => none }
def FnExactSureMisreadsWrongFalsely : Prop := fnExactSureMisreadsRow.holds Try.pinned (OpenSpec.ofChange fnExactSureMisreadsWrong)

/- THE SECOND FORM. 'bulk': how many values and letters a reading holds, each counted each time it is reached (what is shared counts as often as it is met; a slice's spare places count too). A statement '..UptoSaid' is the law's where the arguments, and the package variables that the reading takes, are together of bulk at most 1048576: NARROWER than '..Said'. Prove '..Said' where nothing that the law and all that it calls make is longer than what came in: it says more and counts as full. Else prove '..UptoSaid'. A law counts once. -/
mutual
def uptoBulk {H : Type} : DataW H → Nat
  | .lit (.string bytes) => bytes.length + 1
  | .lit _ => 1
  | .nil => 1
  | .ptr d => uptoBulk d + 1
  | .slice elems spare => uptoBulkAll elems + uptoBulkAll spare + 1
  | .agg parts => uptoBulkAll parts + 1
  | .iface _ d => uptoBulk d + 1
  | .map entries => uptoBulkEntries entries + 1
  | .held _ => 1
def uptoBulkAll {H : Type} : List (DataW H) → Nat
  | [] => 0
  | d :: r => uptoBulk d + uptoBulkAll r
def uptoBulkEntries {H : Type} : List (Lit × DataW H) → Nat
  | [] => 0
  | x :: r => uptoBulkEntry x + uptoBulkEntries r
def uptoBulkEntry {H : Type} : Lit × DataW H → Nat
  | (.string bytes, d) => bytes.length + uptoBulk d + 1
  | (_, d) => uptoBulk d + 1
 end
def uptoSmall : (H : Type) → List (DataW H) → Bool := fun _ ds => decide (uptoBulkAll ds ≤ 1048576)
def OpenSpec.upto (s : _root_.Go.ChangeSpec) : _root_.Go.OpenSpec := { _root_.Go.OpenSpec.ofChange s with cond := some uptoSmall }

/-- 'laws.FnExactBestShift', WHERE WHAT IT READS IS OF BULK AT MOST 1048576: true; the input reads as it did. -/
def fnExactBestShiftUptoRow : OpenClaim := { program := "ytepahnikcojepaa", sum := "e5bedb3a1b76f73b21c56183031f1d4448c88bc3344b217cb2134cb4f176b945", func := "loop.example/g01278/laws.FnExactBestShift", spec := "fnExactBestShift", apart := false, narrowed := true }
def FnExactBestShiftUptoSaid : Prop := fnExactBestShiftUptoRow.holds Try.pinned (OpenSpec.upto fnExactBestShiftSpec)

/-- 'laws.FnExactTotalsFrom', WHERE WHAT IT READS IS OF BULK AT MOST 1048576: true; the input reads as it did. -/
def fnExactTotalsFromUptoRow : OpenClaim := { program := "ytepahnikcojepaa", sum := "e5bedb3a1b76f73b21c56183031f1d4448c88bc3344b217cb2134cb4f176b945", func := "loop.example/g01278/laws.FnExactTotalsFrom", spec := "fnExactTotalsFrom", unfollowed := true, recurses := true, apart := false, narrowed := true }
def FnExactTotalsFromUptoSaid : Prop := fnExactTotalsFromUptoRow.holds Try.pinned (OpenSpec.upto fnExactTotalsFromSpec)

/-- 'laws.FnExactLeaksIn', WHERE WHAT IT READS IS OF BULK AT MOST 1048576: true; the input reads as it did. -/
def fnExactLeaksInUptoRow : OpenClaim := { program := "ytepahnikcojepaa", sum := "e5bedb3a1b76f73b21c56183031f1d4448c88bc3344b217cb2134cb4f176b945", func := "loop.example/g01278/laws.FnExactLeaksIn", spec := "fnExactLeaksIn", unfollowed := true, recurses := true, apart := false, narrowed := true }
def FnExactLeaksInUptoSaid : Prop := fnExactLeaksInUptoRow.holds Try.pinned (OpenSpec.upto fnExactLeaksInSpec)

/-- 'laws.FnExactMergeTotals', WHERE WHAT IT READS IS OF BULK AT MOST 1048576: true; the input reads as it did. -/
def fnExactMergeTotalsUptoRow : OpenClaim := { program := "ytepahnikcojepaa", sum := "e5bedb3a1b76f73b21c56183031f1d4448c88bc3344b217cb2134cb4f176b945", func := "loop.example/g01278/laws.FnExactMergeTotals", spec := "fnExactMergeTotals", unfollowed := true, recurses := true, apart := false, narrowed := true }
def FnExactMergeTotalsUptoSaid : Prop := fnExactMergeTotalsUptoRow.holds Try.pinned (OpenSpec.upto fnExactMergeTotalsSpec)

/-- 'laws.FnExactCostWithout', WHERE WHAT IT READS IS OF BULK AT MOST 1048576: true; the input reads as it did. -/
def fnExactCostWithoutUptoRow : OpenClaim := { program := "ytepahnikcojepaa", sum := "e5bedb3a1b76f73b21c56183031f1d4448c88bc3344b217cb2134cb4f176b945", func := "loop.example/g01278/laws.FnExactCostWithout", spec := "fnExactCostWithout", unfollowed := true, recurses := true, apart := false, narrowed := true }
def FnExactCostWithoutUptoSaid : Prop := fnExactCostWithoutUptoRow.holds Try.pinned (OpenSpec.upto fnExactCostWithoutSpec)

/-- 'laws.FnDrifts', WHERE WHAT IT READS IS OF BULK AT MOST 1048576: true; the input reads as it did. -/
def fnDriftsUptoRow : OpenClaim := { program := "ytepahnikcojepaa", sum := "e5bedb3a1b76f73b21c56183031f1d4448c88bc3344b217cb2134cb4f176b945", func := "loop.example/g01278/laws.FnDrifts", spec := "fnDrifts", unfollowed := true, recurses := true, apart := false, narrowed := true }
def FnDriftsUptoSaid : Prop := fnDriftsUptoRow.holds Try.pinned (OpenSpec.upto fnDriftsSpec)

/-- 'laws.FnExactBestStory', WHERE WHAT IT READS IS OF BULK AT MOST 1048576: true; the input reads as it did. -/
def fnExactBestStoryUptoRow : OpenClaim := { program := "ytepahnikcojepaa", sum := "e5bedb3a1b76f73b21c56183031f1d4448c88bc3344b217cb2134cb4f176b945", func := "loop.example/g01278/laws.FnExactBestStory", spec := "fnExactBestStory", unfollowed := true, recurses := true, apart := false, narrowed := true }
def FnExactBestStoryUptoSaid : Prop := fnExactBestStoryUptoRow.holds Try.pinned (OpenSpec.upto fnExactBestStorySpec)

/-- 'laws.FnExactSureMisreads', WHERE WHAT IT READS IS OF BULK AT MOST 1048576: true; the input reads as it did. -/
def fnExactSureMisreadsUptoRow : OpenClaim := { program := "ytepahnikcojepaa", sum := "e5bedb3a1b76f73b21c56183031f1d4448c88bc3344b217cb2134cb4f176b945", func := "loop.example/g01278/laws.FnExactSureMisreads", spec := "fnExactSureMisreads", unfollowed := true, recurses := true, apart := false, narrowed := true }
def FnExactSureMisreadsUptoSaid : Prop := fnExactSureMisreadsUptoRow.holds Try.pinned (OpenSpec.upto fnExactSureMisreadsSpec)

end Rows
end Go.Proofs.Ytepahnikcojepaa
