/-
  No cell of these rows narrows 'for every input' (looked for: loops, veiled, ifaces, maps, wideKeys, modest, calm, conditions, laid).
  DERIVED. THE GIVEN ROWS OF THIS SEAT. 10 by the template 'for every input the law returns true; each argument reads behind the call as it read before'; 0 by the template 'total and deterministic' (their statements: YtplljnddhkleaaaTotals.lean).
  GIVEN WITH THE SEED: the statements are not yours to turn. If you find one false, say at which input.
  Laid BY PROGRAM, IN A SANDBOX (cutbox-rows.mjs): the forced cells as the released guide's own fill.sh prints them over the translation 52588071fede34cb… (all of the seat's roots in one cut). By AI agents, Wed Nov 11 2026. No macro, syntax, notation, axiom, sorry.
-/
import Derived.Test.YtplljnddhkleaaaChecked
import GoSem.Claim
import GoSem.ClaimJoined
import GoSem.ClaimMapViews
import Derived.JoinedTies
import Derived.KernelRfl
namespace Go.Proofs.Ytplljnddhkleaaa
/- THE CELL 'sum', in the pinned program and in every row, IS THE sha256 OF THE DUMP (.gsa) THAT YtplljnddhkleaaaProg.lean LOADS. Nothing in Lean hashes anything: it is a label: what it is worth is what the hold of that sum in a sandbox is worth. -/
noncomputable def Try.pinned : Pinned := { name := "ytplljnddhkleaaa", sum := "52588071fede34cb441184b565c47437aea9e49b081c635019954bf05f8fb35f", checked := Try.checked }
namespace Rows
def none {H : Type} : Left H := { results := [], args := [] }

/-- 'laws.FnExactShows': WHATEVER THE INPUT: true; the input reads as it did. -/
def fnExactShowsSpec : ChangeSpec := { name := "fnExactShows", fn := fun _ => fun
  | [d1, d2, d3] => { results := [.lit (.bool true)], args := [d1, d2, d3] }
  | _ => none }
def fnExactShowsRow : OpenClaim := { program := "ytplljnddhkleaaa", sum := "52588071fede34cb441184b565c47437aea9e49b081c635019954bf05f8fb35f", func := "loop.example/g01278/laws.FnExactShows", spec := "fnExactShows", unfollowed := true, recurses := true, apart := false }
def FnExactShowsSaid : Prop := fnExactShowsRow.holds Try.pinned (OpenSpec.ofChange fnExactShowsSpec)

/-- ITS FALSE NEIGHBOUR: 'it returns false'. Refute it at one input. -/
def fnExactShowsWrong : ChangeSpec := { name := "fnExactShows", fn := fun _ => fun
  | [d1, d2, d3] => { results := [.lit (.bool false)], args := [d1, d2, d3] }
  | _ => none }
def FnExactShowsWrongFalsely : Prop := fnExactShowsRow.holds Try.pinned (OpenSpec.ofChange fnExactShowsWrong)

/-- 'laws.FnExactValuesIn': WHATEVER THE INPUT: true; the input reads as it did. -/
def fnExactValuesInSpec : ChangeSpec := { name := "fnExactValuesIn", fn := fun _ => fun
  | [d1, d2] => { results := [.lit (.bool true)], args := [d1, d2] }
  | _ => none }
def fnExactValuesInRow : OpenClaim := { program := "ytplljnddhkleaaa", sum := "52588071fede34cb441184b565c47437aea9e49b081c635019954bf05f8fb35f", func := "loop.example/g01278/laws.FnExactValuesIn", spec := "fnExactValuesIn", unfollowed := true, recurses := true, apart := false }
def FnExactValuesInSaid : Prop := fnExactValuesInRow.holds Try.pinned (OpenSpec.ofChange fnExactValuesInSpec)

/-- ITS FALSE NEIGHBOUR: 'it returns false'. Refute it at one input. -/
def fnExactValuesInWrong : ChangeSpec := { name := "fnExactValuesIn", fn := fun _ => fun
  | [d1, d2] => { results := [.lit (.bool false)], args := [d1, d2] }
  | _ => none }
def FnExactValuesInWrongFalsely : Prop := fnExactValuesInRow.holds Try.pinned (OpenSpec.ofChange fnExactValuesInWrong)

/-- 'laws.FnExactCountIn': WHATEVER THE INPUT: true; the input reads as it did. -/
def fnExactCountInSpec : ChangeSpec := { name := "fnExactCountIn", fn := fun _ => fun
  | [d1, d2, d3, d4] => { results := [.lit (.bool true)], args := [d1, d2, d3, d4] }
  | _ => none }
def fnExactCountInRow : OpenClaim := { program := "ytplljnddhkleaaa", sum := "52588071fede34cb441184b565c47437aea9e49b081c635019954bf05f8fb35f", func := "loop.example/g01278/laws.FnExactCountIn", spec := "fnExactCountIn", unfollowed := true, recurses := true, apart := false }
def FnExactCountInSaid : Prop := fnExactCountInRow.holds Try.pinned (OpenSpec.ofChange fnExactCountInSpec)

/-- ITS FALSE NEIGHBOUR: 'it returns false'. Refute it at one input. -/
def fnExactCountInWrong : ChangeSpec := { name := "fnExactCountIn", fn := fun _ => fun
  | [d1, d2, d3, d4] => { results := [.lit (.bool false)], args := [d1, d2, d3, d4] }
  | _ => none }
def FnExactCountInWrongFalsely : Prop := fnExactCountInRow.holds Try.pinned (OpenSpec.ofChange fnExactCountInWrong)

/-- 'laws.FnExactNextIn': WHATEVER THE INPUT: true; the input reads as it did. -/
def fnExactNextInSpec : ChangeSpec := { name := "fnExactNextIn", fn := fun _ => fun
  | [d1, d2, d3] => { results := [.lit (.bool true)], args := [d1, d2, d3] }
  | _ => none }
def fnExactNextInRow : OpenClaim := { program := "ytplljnddhkleaaa", sum := "52588071fede34cb441184b565c47437aea9e49b081c635019954bf05f8fb35f", func := "loop.example/g01278/laws.FnExactNextIn", spec := "fnExactNextIn", unfollowed := true, recurses := true, apart := false }
def FnExactNextInSaid : Prop := fnExactNextInRow.holds Try.pinned (OpenSpec.ofChange fnExactNextInSpec)

/-- ITS FALSE NEIGHBOUR: 'it returns false'. Refute it at one input. -/
def fnExactNextInWrong : ChangeSpec := { name := "fnExactNextIn", fn := fun _ => fun
  | [d1, d2, d3] => { results := [.lit (.bool false)], args := [d1, d2, d3] }
  | _ => none }
def FnExactNextInWrongFalsely : Prop := fnExactNextInRow.holds Try.pinned (OpenSpec.ofChange fnExactNextInWrong)

/-- 'laws.FnExactWaysThrough': WHATEVER THE INPUT: true; the input reads as it did. -/
def fnExactWaysThroughSpec : ChangeSpec := { name := "fnExactWaysThrough", fn := fun _ => fun
  | [d1, d2, d3, d4] => { results := [.lit (.bool true)], args := [d1, d2, d3, d4] }
  | _ => none }
def fnExactWaysThroughRow : OpenClaim := { program := "ytplljnddhkleaaa", sum := "52588071fede34cb441184b565c47437aea9e49b081c635019954bf05f8fb35f", func := "loop.example/g01278/laws.FnExactWaysThrough", spec := "fnExactWaysThrough", unfollowed := true, recurses := true, apart := false }
def FnExactWaysThroughSaid : Prop := fnExactWaysThroughRow.holds Try.pinned (OpenSpec.ofChange fnExactWaysThroughSpec)

/-- ITS FALSE NEIGHBOUR: 'it returns false'. Refute it at one input. -/
def fnExactWaysThroughWrong : ChangeSpec := { name := "fnExactWaysThrough", fn := fun _ => fun
  | [d1, d2, d3, d4] => { results := [.lit (.bool false)], args := [d1, d2, d3, d4] }
  | _ => none }
def FnExactWaysThroughWrongFalsely : Prop := fnExactWaysThroughRow.holds Try.pinned (OpenSpec.ofChange fnExactWaysThroughWrong)

/-- 'laws.FnExactCheckWay': WHATEVER THE INPUT: true; the input reads as it did. -/
def fnExactCheckWaySpec : ChangeSpec := { name := "fnExactCheckWay", fn := fun _ => fun
  | [d1, d2, d3, d4, d5] => { results := [.lit (.bool true)], args := [d1, d2, d3, d4, d5] }
  | _ => none }
def fnExactCheckWayRow : OpenClaim := { program := "ytplljnddhkleaaa", sum := "52588071fede34cb441184b565c47437aea9e49b081c635019954bf05f8fb35f", func := "loop.example/g01278/laws.FnExactCheckWay", spec := "fnExactCheckWay", unfollowed := true, recurses := true, apart := false }
def FnExactCheckWaySaid : Prop := fnExactCheckWayRow.holds Try.pinned (OpenSpec.ofChange fnExactCheckWaySpec)

/-- ITS FALSE NEIGHBOUR: 'it returns false'. Refute it at one input. -/
def fnExactCheckWayWrong : ChangeSpec := { name := "fnExactCheckWay", fn := fun _ => fun
  | [d1, d2, d3, d4, d5] => { results := [.lit (.bool false)], args := [d1, d2, d3, d4, d5] }
  | _ => none }
def FnExactCheckWayWrongFalsely : Prop := fnExactCheckWayRow.holds Try.pinned (OpenSpec.ofChange fnExactCheckWayWrong)

/-- 'laws.FnExactFirstStuck': WHATEVER THE INPUT: true; the input reads as it did. -/
def fnExactFirstStuckSpec : ChangeSpec := { name := "fnExactFirstStuck", fn := fun _ => fun
  | [d1, d2, d3, d4] => { results := [.lit (.bool true)], args := [d1, d2, d3, d4] }
  | _ => none }
def fnExactFirstStuckRow : OpenClaim := { program := "ytplljnddhkleaaa", sum := "52588071fede34cb441184b565c47437aea9e49b081c635019954bf05f8fb35f", func := "loop.example/g01278/laws.FnExactFirstStuck", spec := "fnExactFirstStuck", unfollowed := true, recurses := true, apart := false }
def FnExactFirstStuckSaid : Prop := fnExactFirstStuckRow.holds Try.pinned (OpenSpec.ofChange fnExactFirstStuckSpec)

/-- ITS FALSE NEIGHBOUR: 'it returns false'. Refute it at one input. -/
def fnExactFirstStuckWrong : ChangeSpec := { name := "fnExactFirstStuck", fn := fun _ => fun
  | [d1, d2, d3, d4] => { results := [.lit (.bool false)], args := [d1, d2, d3, d4] }
  | _ => none }
def FnExactFirstStuckWrongFalsely : Prop := fnExactFirstStuckRow.holds Try.pinned (OpenSpec.ofChange fnExactFirstStuckWrong)

/-- 'laws.FnExactLikeliestWay': WHATEVER THE INPUT: true; the input reads as it did. -/
def fnExactLikeliestWaySpec : ChangeSpec := { name := "fnExactLikeliestWay", fn := fun _ => fun
  | [d1, d2, d3, d4, d5] => { results := [.lit (.bool true)], args := [d1, d2, d3, d4, d5] }
  | _ => none }
def fnExactLikeliestWayRow : OpenClaim := { program := "ytplljnddhkleaaa", sum := "52588071fede34cb441184b565c47437aea9e49b081c635019954bf05f8fb35f", func := "loop.example/g01278/laws.FnExactLikeliestWay", spec := "fnExactLikeliestWay", unfollowed := true, recurses := true, apart := false }
def FnExactLikeliestWaySaid : Prop := fnExactLikeliestWayRow.holds Try.pinned (OpenSpec.ofChange fnExactLikeliestWaySpec)

/-- ITS FALSE NEIGHBOUR: 'it returns false'. Refute it at one input. -/
def fnExactLikeliestWayWrong : ChangeSpec := { name := "fnExactLikeliestWay", fn := fun _ => fun
  | [d1, d2, d3, d4, d5] => { results := [.lit (.bool false)], args := [d1, d2, d3, d4, d5] }
  | _ => none }
def FnExactLikeliestWayWrongFalsely : Prop := fnExactLikeliestWayRow.holds Try.pinned (OpenSpec.ofChange fnExactLikeliestWayWrong)

/-- 'laws.FnExactSurePhotos': WHATEVER THE INPUT: true; the input reads as it did. -/
def fnExactSurePhotosSpec : ChangeSpec := { name := "fnExactSurePhotos", fn := fun _ => fun
  | [d1, d2, d3, d4] => { results := [.lit (.bool true)], args := [d1, d2, d3, d4] }
  | _ => none }
def fnExactSurePhotosRow : OpenClaim := { program := "ytplljnddhkleaaa", sum := "52588071fede34cb441184b565c47437aea9e49b081c635019954bf05f8fb35f", func := "loop.example/g01278/laws.FnExactSurePhotos", spec := "fnExactSurePhotos", unfollowed := true, recurses := true, apart := false }
def FnExactSurePhotosSaid : Prop := fnExactSurePhotosRow.holds Try.pinned (OpenSpec.ofChange fnExactSurePhotosSpec)

/-- ITS FALSE NEIGHBOUR: 'it returns false'. Refute it at one input. -/
def fnExactSurePhotosWrong : ChangeSpec := { name := "fnExactSurePhotos", fn := fun _ => fun
  | [d1, d2, d3, d4] => { results := [.lit (.bool false)], args := [d1, d2, d3, d4] }
  | _ => none }
def FnExactSurePhotosWrongFalsely : Prop := fnExactSurePhotosRow.holds Try.pinned (OpenSpec.ofChange fnExactSurePhotosWrong)

/-- 'laws.FnWays': WHATEVER THE INPUT: true; the input reads as it did. -/
def fnWaysSpec : ChangeSpec := { name := "fnWays", fn := fun _ => fun
  | [d1, d2] => { results := [.lit (.bool true)], args := [d1, d2] }
  | _ => none }
def fnWaysRow : OpenClaim := { program := "ytplljnddhkleaaa", sum := "52588071fede34cb441184b565c47437aea9e49b081c635019954bf05f8fb35f", func := "loop.example/g01278/laws.FnWays", spec := "fnWays", unfollowed := true, recurses := true, apart := false }
def FnWaysSaid : Prop := fnWaysRow.holds Try.pinned (OpenSpec.ofChange fnWaysSpec)

/-- ITS FALSE NEIGHBOUR: 'it returns false'. Refute it at one input. -/
def fnWaysWrong : ChangeSpec := { name := "fnWays", fn := fun _ => fun
  | [d1, d2] => { results := [.lit (.bool false)], args := [d1, d2] }
  | _ => none }
def FnWaysWrongFalsely : Prop := fnWaysRow.holds Try.pinned (OpenSpec.ofChange fnWaysWrong)

/- THE SECOND FORM. 'bulk': how many values and letters a reading holds, each counted each time it is reached (what is shared counts as often as it is met; a slice's spare places count too). A statement '..UptoSaid' is the law's where the arguments, and the package variables that the reading takes, are together of bulk at most 1048576: NARROWER than '..Said'. Prove '..Said' where nothing that the law and all that it calls make is longer than what came in: it says more and counts as full. Else prove '..UptoSaid'. A law counts once. -/
mutual
def uptoBulk {H : Type} : DataW H → Nat
  | .lit (.string bytes) => bytes.length + 1
  | .lit _ => 1
  | .nil => 1
  | .ptr d => uptoBulk d + 1
  | .slice elems spare => uptoBulkAll elems + uptoBulkAll spare + 1
  | .agg parts => uptoBulkAll parts + 1
  | .iface _ d => uptoBulk d + 1
  | .map entries => uptoBulkEntries entries + 1
  | .held _ => 1
def uptoBulkAll {H : Type} : List (DataW H) → Nat
  | [] => 0
  | d :: r => uptoBulk d + uptoBulkAll r
def uptoBulkEntries {H : Type} : List (Lit × DataW H) → Nat
  | [] => 0
  | x :: r => uptoBulkEntry x + uptoBulkEntries r
def uptoBulkEntry {H : Type} : Lit × DataW H → Nat
  | (.string bytes, d) => bytes.length + uptoBulk d + 1
  | (_, d) => uptoBulk d + 1
 end
def uptoSmall : (H : Type) → List (DataW H) → Bool := fun _ ds => decide (uptoBulkAll ds ≤ 1048576)
def OpenSpec.upto (s : _root_.Go.ChangeSpec) : _root_.Go.OpenSpec := { _root_.Go.OpenSpec.ofChange s with cond := some uptoSmall }

/-- 'laws.FnExactShows', WHERE WHAT IT READS IS OF BULK AT MOST 1048576: true; the input reads as it did. -/
def fnExactShowsUptoRow : OpenClaim := { program := "ytplljnddhkleaaa", sum := "52588071fede34cb441184b565c47437aea9e49b081c635019954bf05f8fb35f", func := "loop.example/g01278/laws.FnExactShows", spec := "fnExactShows", unfollowed := true, recurses := true, apart := false, narrowed := true }
def FnExactShowsUptoSaid : Prop := fnExactShowsUptoRow.holds Try.pinned (OpenSpec.upto fnExactShowsSpec)

/-- 'laws.FnExactValuesIn', WHERE WHAT IT READS IS OF BULK AT MOST 1048576: true; the input reads as it did. -/
def fnExactValuesInUptoRow : OpenClaim := { program := "ytplljnddhkleaaa", sum := "52588071fede34cb441184b565c47437aea9e49b081c635019954bf05f8fb35f", func := "loop.example/g01278/laws.FnExactValuesIn", spec := "fnExactValuesIn", unfollowed := true, recurses := true, apart := false, narrowed := true }
def FnExactValuesInUptoSaid : Prop := fnExactValuesInUptoRow.holds Try.pinned (OpenSpec.upto fnExactValuesInSpec)

/-- 'laws.FnExactCountIn', WHERE WHAT IT READS IS OF BULK AT MOST 1048576: true; the input reads as it did. -/
def fnExactCountInUptoRow : OpenClaim := { program := "ytplljnddhkleaaa", sum := "52588071fede34cb441184b565c47437aea9e49b081c635019954bf05f8fb35f", func := "loop.example/g01278/laws.FnExactCountIn", spec := "fnExactCountIn", unfollowed := true, recurses := true, apart := false, narrowed := true }
def FnExactCountInUptoSaid : Prop := fnExactCountInUptoRow.holds Try.pinned (OpenSpec.upto fnExactCountInSpec)

/-- 'laws.FnExactNextIn', WHERE WHAT IT READS IS OF BULK AT MOST 1048576: true; the input reads as it did. -/
def fnExactNextInUptoRow : OpenClaim := { program := "ytplljnddhkleaaa", sum := "52588071fede34cb441184b565c47437aea9e49b081c635019954bf05f8fb35f", func := "loop.example/g01278/laws.FnExactNextIn", spec := "fnExactNextIn", unfollowed := true, recurses := true, apart := false, narrowed := true }
def FnExactNextInUptoSaid : Prop := fnExactNextInUptoRow.holds Try.pinned (OpenSpec.upto fnExactNextInSpec)

/-- 'laws.FnExactWaysThrough', WHERE WHAT IT READS IS OF BULK AT MOST 1048576: true; the input reads as it did. -/
def fnExactWaysThroughUptoRow : OpenClaim := { program := "ytplljnddhkleaaa", sum := "52588071fede34cb441184b565c47437aea9e49b081c635019954bf05f8fb35f", func := "loop.example/g01278/laws.FnExactWaysThrough", spec := "fnExactWaysThrough", unfollowed := true, recurses := true, apart := false, narrowed := true }
def FnExactWaysThroughUptoSaid : Prop := fnExactWaysThroughUptoRow.holds Try.pinned (OpenSpec.upto fnExactWaysThroughSpec)

/-- 'laws.FnExactCheckWay', WHERE WHAT IT READS IS OF BULK AT MOST 1048576: true; the input reads as it did. -/
def fnExactCheckWayUptoRow : OpenClaim := { program := "ytplljnddhkleaaa", sum := "52588071fede34cb441184b565c47437aea9e49b081c635019954bf05f8fb35f", func := "loop.example/g01278/laws.FnExactCheckWay", spec := "fnExactCheckWay", unfollowed := true, recurses := true, apart := false, narrowed := true }
def FnExactCheckWayUptoSaid : Prop := fnExactCheckWayUptoRow.holds Try.pinned (OpenSpec.upto fnExactCheckWaySpec)

/-- 'laws.FnExactFirstStuck', WHERE WHAT IT READS IS OF BULK AT MOST 1048576: true; the input reads as it did. -/
def fnExactFirstStuckUptoRow : OpenClaim := { program := "ytplljnddhkleaaa", sum := "52588071fede34cb441184b565c47437aea9e49b081c635019954bf05f8fb35f", func := "loop.example/g01278/laws.FnExactFirstStuck", spec := "fnExactFirstStuck", unfollowed := true, recurses := true, apart := false, narrowed := true }
def FnExactFirstStuckUptoSaid : Prop := fnExactFirstStuckUptoRow.holds Try.pinned (OpenSpec.upto fnExactFirstStuckSpec)

/-- 'laws.FnExactLikeliestWay', WHERE WHAT IT READS IS OF BULK AT MOST 1048576: true; the input reads as it did. -/
def fnExactLikeliestWayUptoRow : OpenClaim := { program := "ytplljnddhkleaaa", sum := "52588071fede34cb441184b565c47437aea9e49b081c635019954bf05f8fb35f", func := "loop.example/g01278/laws.FnExactLikeliestWay", spec := "fnExactLikeliestWay", unfollowed := true, recurses := true, apart := false, narrowed := true }
def FnExactLikeliestWayUptoSaid : Prop := fnExactLikeliestWayUptoRow.holds Try.pinned (OpenSpec.upto fnExactLikeliestWaySpec)

/-- 'laws.FnExactSurePhotos', WHERE WHAT IT READS IS OF BULK AT MOST 1048576: true; the input reads as it did. -/
def fnExactSurePhotosUptoRow : OpenClaim := { program := "ytplljnddhkleaaa", sum := "52588071fede34cb441184b565c47437aea9e49b081c635019954bf05f8fb35f", func := "loop.example/g01278/laws.FnExactSurePhotos", spec := "fnExactSurePhotos", unfollowed := true, recurses := true, apart := false, narrowed := true }
def FnExactSurePhotosUptoSaid : Prop := fnExactSurePhotosUptoRow.holds Try.pinned (OpenSpec.upto fnExactSurePhotosSpec)

/-- 'laws.FnWays', WHERE WHAT IT READS IS OF BULK AT MOST 1048576: true; the input reads as it did. -/
def fnWaysUptoRow : OpenClaim := { program := "ytplljnddhkleaaa", sum := "52588071fede34cb441184b565c47437aea9e49b081c635019954bf05f8fb35f", func := "loop.example/g01278/laws.FnWays", spec := "fnWays", unfollowed := true, recurses := true, apart := false, narrowed := true }
def FnWaysUptoSaid : Prop := fnWaysUptoRow.holds Try.pinned (OpenSpec.upto fnWaysSpec)

end Rows
end Go.Proofs.Ytplljnddhkleaaa
