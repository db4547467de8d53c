/-
  No cell of these rows narrows 'for every input' (looked for: loops, veiled, ifaces, maps, wideKeys, modest, calm, conditions, laid).
  DERIVED. THE GIVEN ROWS OF THIS SEAT. 18 by the template 'for every input the law returns true; each argument reads behind the call as it read before'; 0 by the template 'total and deterministic' (their statements: YtjopackngkfdhaaTotals.lean).
  GIVEN WITH THE SEED: the statements are not yours to turn. If you find one false, say at which input.
  Laid BY PROGRAM, IN A SANDBOX (cutbox-rows.mjs): the forced cells as the released guide's own fill.sh prints them over the translation 59800f57a60214dc… (all of the seat's roots in one cut). By AI agents, Wed Nov 11 2026. No macro, syntax, notation, axiom, sorry.
-/
import Derived.Test.YtjopackngkfdhaaChecked
import GoSem.Claim
import GoSem.ClaimJoined
import GoSem.ClaimMapViews
import Derived.JoinedTies
import Derived.KernelRfl
namespace Go.Proofs.Ytjopackngkfdhaa
/- THE CELL 'sum', in the pinned program and in every row, IS THE sha256 OF THE DUMP (.gsa) THAT YtjopackngkfdhaaProg.lean LOADS. Nothing in Lean hashes anything: it is a label: what it is worth is what the hold of that sum in a sandbox is worth. -/
noncomputable def Try.pinned : Pinned := { name := "ytjopackngkfdhaa", sum := "59800f57a60214dc2703add7d67cff787235f2773c65175a5768843e1fed6b8e", checked := Try.checked }
namespace Rows
def none {H : Type} : Left H := { results := [], args := [] }

/-- 'laws.FnExactValidAct': WHATEVER THE INPUT: true; the input reads as it did. -/
def fnExactValidActSpec : ChangeSpec := { name := "fnExactValidAct", fn := fun _ => fun
  | [d] => { results := [.lit (.bool true)], args := [d] }
  | _ => none }
def fnExactValidActRow : OpenClaim := { program := "ytjopackngkfdhaa", sum := "59800f57a60214dc2703add7d67cff787235f2773c65175a5768843e1fed6b8e", func := "loop.example/g01278/laws.FnExactValidAct", spec := "fnExactValidAct", apart := false }
def FnExactValidActSaid : Prop := fnExactValidActRow.holds Try.pinned (OpenSpec.ofChange fnExactValidActSpec)

/-- ITS FALSE NEIGHBOUR: 'it returns false'. Refute it at one input. -/
def fnExactValidActWrong : ChangeSpec := { name := "fnExactValidAct", fn := fun _ => fun
  | [d] => { results := [.lit (.bool false)], args := [d] }
  | _ => none }
def FnExactValidActWrongFalsely : Prop := fnExactValidActRow.holds Try.pinned (OpenSpec.ofChange fnExactValidActWrong)

/-- 'laws.FnExactSameDevice': WHATEVER THE INPUT: true; the input reads as it did. -/
def fnExactSameDeviceSpec : ChangeSpec := { name := "fnExactSameDevice", fn := fun _ => fun
  | [d1, d2] => { results := [.lit (.bool true)], args := [d1, d2] }
  | _ => none }
def fnExactSameDeviceRow : OpenClaim := { program := "ytjopackngkfdhaa", sum := "59800f57a60214dc2703add7d67cff787235f2773c65175a5768843e1fed6b8e", func := "loop.example/g01278/laws.FnExactSameDevice", spec := "fnExactSameDevice", apart := false }
def FnExactSameDeviceSaid : Prop := fnExactSameDeviceRow.holds Try.pinned (OpenSpec.ofChange fnExactSameDeviceSpec)

/-- ITS FALSE NEIGHBOUR: 'it returns false'. Refute it at one input. -/
def fnExactSameDeviceWrong : ChangeSpec := { name := "fnExactSameDevice", fn := fun _ => fun
  | [d1, d2] => { results := [.lit (.bool false)], args := [d1, d2] }
  | _ => none }
def FnExactSameDeviceWrongFalsely : Prop := fnExactSameDeviceRow.holds Try.pinned (OpenSpec.ofChange fnExactSameDeviceWrong)

/-- 'laws.FnExactCheckOf': WHATEVER THE INPUT: true; the input reads as it did. -/
def fnExactCheckOfSpec : ChangeSpec := { name := "fnExactCheckOf", fn := fun _ => fun
  | [d1, d2, d3] => { results := [.lit (.bool true)], args := [d1, d2, d3] }
  | _ => none }
def fnExactCheckOfRow : OpenClaim := { program := "ytjopackngkfdhaa", sum := "59800f57a60214dc2703add7d67cff787235f2773c65175a5768843e1fed6b8e", func := "loop.example/g01278/laws.FnExactCheckOf", spec := "fnExactCheckOf", unfollowed := true, recurses := true, apart := false }
def FnExactCheckOfSaid : Prop := fnExactCheckOfRow.holds Try.pinned (OpenSpec.ofChange fnExactCheckOfSpec)

/-- ITS FALSE NEIGHBOUR: 'it returns false'. Refute it at one input. -/
def fnExactCheckOfWrong : ChangeSpec := { name := "fnExactCheckOf", fn := fun _ => fun
  | [d1, d2, d3] => { results := [.lit (.bool false)], args := [d1, d2, d3] }
  | _ => none }
def FnExactCheckOfWrongFalsely : Prop := fnExactCheckOfRow.holds Try.pinned (OpenSpec.ofChange fnExactCheckOfWrong)

/-- 'laws.FnExactIsGenuine': WHATEVER THE INPUT: true; the input reads as it did. -/
def fnExactIsGenuineSpec : ChangeSpec := { name := "fnExactIsGenuine", fn := fun _ => fun
  | [d1, d2] => { results := [.lit (.bool true)], args := [d1, d2] }
  | _ => none }
def fnExactIsGenuineRow : OpenClaim := { program := "ytjopackngkfdhaa", sum := "59800f57a60214dc2703add7d67cff787235f2773c65175a5768843e1fed6b8e", func := "loop.example/g01278/laws.FnExactIsGenuine", spec := "fnExactIsGenuine", unfollowed := true, recurses := true, apart := false }
def FnExactIsGenuineSaid : Prop := fnExactIsGenuineRow.holds Try.pinned (OpenSpec.ofChange fnExactIsGenuineSpec)

/-- ITS FALSE NEIGHBOUR: 'it returns false'. Refute it at one input. -/
def fnExactIsGenuineWrong : ChangeSpec := { name := "fnExactIsGenuine", fn := fun _ => fun
  | [d1, d2] => { results := [.lit (.bool false)], args := [d1, d2] }
  | _ => none }
def FnExactIsGenuineWrongFalsely : Prop := fnExactIsGenuineRow.holds Try.pinned (OpenSpec.ofChange fnExactIsGenuineWrong)

/-- 'laws.FnExactNewDevice': WHATEVER THE INPUT: true; the input reads as it did. -/
def fnExactNewDeviceSpec : ChangeSpec := { name := "fnExactNewDevice", fn := fun _ => fun
  | [d] => { results := [.lit (.bool true)], args := [d] }
  | _ => none }
def fnExactNewDeviceRow : OpenClaim := { program := "ytjopackngkfdhaa", sum := "59800f57a60214dc2703add7d67cff787235f2773c65175a5768843e1fed6b8e", func := "loop.example/g01278/laws.FnExactNewDevice", spec := "fnExactNewDevice", unfollowed := true, recurses := true, apart := false }
def FnExactNewDeviceSaid : Prop := fnExactNewDeviceRow.holds Try.pinned (OpenSpec.ofChange fnExactNewDeviceSpec)

/-- ITS FALSE NEIGHBOUR: 'it returns false'. Refute it at one input. -/
def fnExactNewDeviceWrong : ChangeSpec := { name := "fnExactNewDevice", fn := fun _ => fun
  | [d] => { results := [.lit (.bool false)], args := [d] }
  | _ => none }
def FnExactNewDeviceWrongFalsely : Prop := fnExactNewDeviceRow.holds Try.pinned (OpenSpec.ofChange fnExactNewDeviceWrong)

/-- 'laws.FnExactShortActs': WHATEVER THE INPUT: true; the input reads as it did. -/
def fnExactShortActsSpec : ChangeSpec := { name := "fnExactShortActs", fn := fun _ => fun
  | [d] => { results := [.lit (.bool true)], args := [d] }
  | _ => none }
def fnExactShortActsRow : OpenClaim := { program := "ytjopackngkfdhaa", sum := "59800f57a60214dc2703add7d67cff787235f2773c65175a5768843e1fed6b8e", func := "loop.example/g01278/laws.FnExactShortActs", spec := "fnExactShortActs", unfollowed := true, recurses := true, apart := false }
def FnExactShortActsSaid : Prop := fnExactShortActsRow.holds Try.pinned (OpenSpec.ofChange fnExactShortActsSpec)

/-- ITS FALSE NEIGHBOUR: 'it returns false'. Refute it at one input. -/
def fnExactShortActsWrong : ChangeSpec := { name := "fnExactShortActs", fn := fun _ => fun
  | [d] => { results := [.lit (.bool false)], args := [d] }
  | _ => none }
def FnExactShortActsWrongFalsely : Prop := fnExactShortActsRow.holds Try.pinned (OpenSpec.ofChange fnExactShortActsWrong)

/-- 'laws.FnExactValidDevice': WHATEVER THE INPUT: true; the input reads as it did. -/
def fnExactValidDeviceSpec : ChangeSpec := { name := "fnExactValidDevice", fn := fun _ => fun
  | [d] => { results := [.lit (.bool true)], args := [d] }
  | _ => none }
def fnExactValidDeviceRow : OpenClaim := { program := "ytjopackngkfdhaa", sum := "59800f57a60214dc2703add7d67cff787235f2773c65175a5768843e1fed6b8e", func := "loop.example/g01278/laws.FnExactValidDevice", spec := "fnExactValidDevice", unfollowed := true, recurses := true, apart := false }
def FnExactValidDeviceSaid : Prop := fnExactValidDeviceRow.holds Try.pinned (OpenSpec.ofChange fnExactValidDeviceSpec)

/-- ITS FALSE NEIGHBOUR: 'it returns false'. Refute it at one input. -/
def fnExactValidDeviceWrong : ChangeSpec := { name := "fnExactValidDevice", fn := fun _ => fun
  | [d] => { results := [.lit (.bool false)], args := [d] }
  | _ => none }
def FnExactValidDeviceWrongFalsely : Prop := fnExactValidDeviceRow.holds Try.pinned (OpenSpec.ofChange fnExactValidDeviceWrong)

/-- 'laws.FnExactFirstForged': WHATEVER THE INPUT: true; the input reads as it did. -/
def fnExactFirstForgedSpec : ChangeSpec := { name := "fnExactFirstForged", fn := fun _ => fun
  | [d1, d2] => { results := [.lit (.bool true)], args := [d1, d2] }
  | _ => none }
def fnExactFirstForgedRow : OpenClaim := { program := "ytjopackngkfdhaa", sum := "59800f57a60214dc2703add7d67cff787235f2773c65175a5768843e1fed6b8e", func := "loop.example/g01278/laws.FnExactFirstForged", spec := "fnExactFirstForged", unfollowed := true, recurses := true, apart := false }
def FnExactFirstForgedSaid : Prop := fnExactFirstForgedRow.holds Try.pinned (OpenSpec.ofChange fnExactFirstForgedSpec)

/-- ITS FALSE NEIGHBOUR: 'it returns false'. Refute it at one input. -/
def fnExactFirstForgedWrong : ChangeSpec := { name := "fnExactFirstForged", fn := fun _ => fun
  | [d1, d2] => { results := [.lit (.bool false)], args := [d1, d2] }
  | _ => none }
def FnExactFirstForgedWrongFalsely : Prop := fnExactFirstForgedRow.holds Try.pinned (OpenSpec.ofChange fnExactFirstForgedWrong)

/-- 'laws.FnExactPulsesUntilStop': WHATEVER THE INPUT: true; the input reads as it did. -/
def fnExactPulsesUntilStopSpec : ChangeSpec := { name := "fnExactPulsesUntilStop", fn := fun _ => fun
  | [d] => { results := [.lit (.bool true)], args := [d] }
  | _ => none }
def fnExactPulsesUntilStopRow : OpenClaim := { program := "ytjopackngkfdhaa", sum := "59800f57a60214dc2703add7d67cff787235f2773c65175a5768843e1fed6b8e", func := "loop.example/g01278/laws.FnExactPulsesUntilStop", spec := "fnExactPulsesUntilStop", unfollowed := true, recurses := true, apart := false }
def FnExactPulsesUntilStopSaid : Prop := fnExactPulsesUntilStopRow.holds Try.pinned (OpenSpec.ofChange fnExactPulsesUntilStopSpec)

/-- ITS FALSE NEIGHBOUR: 'it returns false'. Refute it at one input. -/
def fnExactPulsesUntilStopWrong : ChangeSpec := { name := "fnExactPulsesUntilStop", fn := fun _ => fun
  | [d] => { results := [.lit (.bool false)], args := [d] }
  | _ => none }
def FnExactPulsesUntilStopWrongFalsely : Prop := fnExactPulsesUntilStopRow.holds Try.pinned (OpenSpec.ofChange fnExactPulsesUntilStopWrong)

/-- 'laws.FnExactBatchActs': WHATEVER THE INPUT: true; the input reads as it did. -/
def fnExactBatchActsSpec : ChangeSpec := { name := "fnExactBatchActs", fn := fun _ => fun
  | [d1, d2, d3] => { results := [.lit (.bool true)], args := [d1, d2, d3] }
  | _ => none }
def fnExactBatchActsRow : OpenClaim := { program := "ytjopackngkfdhaa", sum := "59800f57a60214dc2703add7d67cff787235f2773c65175a5768843e1fed6b8e", func := "loop.example/g01278/laws.FnExactBatchActs", spec := "fnExactBatchActs", unfollowed := true, recurses := true, apart := false }
def FnExactBatchActsSaid : Prop := fnExactBatchActsRow.holds Try.pinned (OpenSpec.ofChange fnExactBatchActsSpec)

/-- ITS FALSE NEIGHBOUR: 'it returns false'. Refute it at one input. -/
def fnExactBatchActsWrong : ChangeSpec := { name := "fnExactBatchActs", fn := fun _ => fun
  | [d1, d2, d3] => { results := [.lit (.bool false)], args := [d1, d2, d3] }
  | _ => none }
def FnExactBatchActsWrongFalsely : Prop := fnExactBatchActsRow.holds Try.pinned (OpenSpec.ofChange fnExactBatchActsWrong)

/-- 'laws.FnExactMissingNumbers': WHATEVER THE INPUT: true; the input reads as it did. -/
def fnExactMissingNumbersSpec : ChangeSpec := { name := "fnExactMissingNumbers", fn := fun _ => fun
  | [d1, d2] => { results := [.lit (.bool true)], args := [d1, d2] }
  | _ => none }
def fnExactMissingNumbersRow : OpenClaim := { program := "ytjopackngkfdhaa", sum := "59800f57a60214dc2703add7d67cff787235f2773c65175a5768843e1fed6b8e", func := "loop.example/g01278/laws.FnExactMissingNumbers", spec := "fnExactMissingNumbers", unfollowed := true, recurses := true, apart := false }
def FnExactMissingNumbersSaid : Prop := fnExactMissingNumbersRow.holds Try.pinned (OpenSpec.ofChange fnExactMissingNumbersSpec)

/-- ITS FALSE NEIGHBOUR: 'it returns false'. Refute it at one input. -/
def fnExactMissingNumbersWrong : ChangeSpec := { name := "fnExactMissingNumbers", fn := fun _ => fun
  | [d1, d2] => { results := [.lit (.bool false)], args := [d1, d2] }
  | _ => none }
def FnExactMissingNumbersWrongFalsely : Prop := fnExactMissingNumbersRow.holds Try.pinned (OpenSpec.ofChange fnExactMissingNumbersWrong)

/-- 'laws.FnExactDoAct': WHATEVER THE INPUT: true; the input reads as it did. -/
def fnExactDoActSpec : ChangeSpec := { name := "fnExactDoAct", fn := fun _ => fun
  | [d1, d2] => { results := [.lit (.bool true)], args := [d1, d2] }
  | _ => none }
def fnExactDoActRow : OpenClaim := { program := "ytjopackngkfdhaa", sum := "59800f57a60214dc2703add7d67cff787235f2773c65175a5768843e1fed6b8e", func := "loop.example/g01278/laws.FnExactDoAct", spec := "fnExactDoAct", unfollowed := true, recurses := true, apart := false }
def FnExactDoActSaid : Prop := fnExactDoActRow.holds Try.pinned (OpenSpec.ofChange fnExactDoActSpec)

/-- ITS FALSE NEIGHBOUR: 'it returns false'. Refute it at one input. -/
def fnExactDoActWrong : ChangeSpec := { name := "fnExactDoAct", fn := fun _ => fun
  | [d1, d2] => { results := [.lit (.bool false)], args := [d1, d2] }
  | _ => none }
def FnExactDoActWrongFalsely : Prop := fnExactDoActRow.holds Try.pinned (OpenSpec.ofChange fnExactDoActWrong)

/-- 'laws.FnExactFirstWrong': WHATEVER THE INPUT: true; the input reads as it did. -/
def fnExactFirstWrongSpec : ChangeSpec := { name := "fnExactFirstWrong", fn := fun _ => fun
  | [d1, d2] => { results := [.lit (.bool true)], args := [d1, d2] }
  | _ => none }
def fnExactFirstWrongRow : OpenClaim := { program := "ytjopackngkfdhaa", sum := "59800f57a60214dc2703add7d67cff787235f2773c65175a5768843e1fed6b8e", func := "loop.example/g01278/laws.FnExactFirstWrong", spec := "fnExactFirstWrong", unfollowed := true, recurses := true, apart := false }
def FnExactFirstWrongSaid : Prop := fnExactFirstWrongRow.holds Try.pinned (OpenSpec.ofChange fnExactFirstWrongSpec)

/-- ITS FALSE NEIGHBOUR: 'it returns false'. Refute it at one input. -/
def fnExactFirstWrongWrong : ChangeSpec := { name := "fnExactFirstWrong", fn := fun _ => fun
  | [d1, d2] => { results := [.lit (.bool false)], args := [d1, d2] }
  | _ => none }
def FnExactFirstWrongWrongFalsely : Prop := fnExactFirstWrongRow.holds Try.pinned (OpenSpec.ofChange fnExactFirstWrongWrong)

/-- 'laws.FnExactPrintTicket': WHATEVER THE INPUT: true; the input reads as it did. -/
def fnExactPrintTicketSpec : ChangeSpec := { name := "fnExactPrintTicket", fn := fun _ => fun
  | [d] => { results := [.lit (.bool true)], args := [d] }
  | _ => none }
def fnExactPrintTicketRow : OpenClaim := { program := "ytjopackngkfdhaa", sum := "59800f57a60214dc2703add7d67cff787235f2773c65175a5768843e1fed6b8e", func := "loop.example/g01278/laws.FnExactPrintTicket", spec := "fnExactPrintTicket", unfollowed := true, recurses := true, apart := false }
def FnExactPrintTicketSaid : Prop := fnExactPrintTicketRow.holds Try.pinned (OpenSpec.ofChange fnExactPrintTicketSpec)

/-- ITS FALSE NEIGHBOUR: 'it returns false'. Refute it at one input. -/
def fnExactPrintTicketWrong : ChangeSpec := { name := "fnExactPrintTicket", fn := fun _ => fun
  | [d] => { results := [.lit (.bool false)], args := [d] }
  | _ => none }
def FnExactPrintTicketWrongFalsely : Prop := fnExactPrintTicketRow.holds Try.pinned (OpenSpec.ofChange fnExactPrintTicketWrong)

/-- 'laws.FnExactDoActs': WHATEVER THE INPUT: true; the input reads as it did. -/
def fnExactDoActsSpec : ChangeSpec := { name := "fnExactDoActs", fn := fun _ => fun
  | [d1, d2] => { results := [.lit (.bool true)], args := [d1, d2] }
  | _ => none }
def fnExactDoActsRow : OpenClaim := { program := "ytjopackngkfdhaa", sum := "59800f57a60214dc2703add7d67cff787235f2773c65175a5768843e1fed6b8e", func := "loop.example/g01278/laws.FnExactDoActs", spec := "fnExactDoActs", unfollowed := true, recurses := true, apart := false }
def FnExactDoActsSaid : Prop := fnExactDoActsRow.holds Try.pinned (OpenSpec.ofChange fnExactDoActsSpec)

/-- ITS FALSE NEIGHBOUR: 'it returns false'. Refute it at one input. -/
def fnExactDoActsWrong : ChangeSpec := { name := "fnExactDoActs", fn := fun _ => fun
  | [d1, d2] => { results := [.lit (.bool false)], args := [d1, d2] }
  | _ => none }
def FnExactDoActsWrongFalsely : Prop := fnExactDoActsRow.holds Try.pinned (OpenSpec.ofChange fnExactDoActsWrong)

/-- 'laws.FnJournals': WHATEVER THE INPUT: true; the input reads as it did. -/
def fnJournalsSpec : ChangeSpec := { name := "fnJournals", fn := fun _ => fun
  | [d1, d2] => { results := [.lit (.bool true)], args := [d1, d2] }
  | _ => none }
def fnJournalsRow : OpenClaim := { program := "ytjopackngkfdhaa", sum := "59800f57a60214dc2703add7d67cff787235f2773c65175a5768843e1fed6b8e", func := "loop.example/g01278/laws.FnJournals", spec := "fnJournals", unfollowed := true, recurses := true, apart := false }
def FnJournalsSaid : Prop := fnJournalsRow.holds Try.pinned (OpenSpec.ofChange fnJournalsSpec)

/-- ITS FALSE NEIGHBOUR: 'it returns false'. Refute it at one input. -/
def fnJournalsWrong : ChangeSpec := { name := "fnJournals", fn := fun _ => fun
  | [d1, d2] => { results := [.lit (.bool false)], args := [d1, d2] }
  | _ => none }
def FnJournalsWrongFalsely : Prop := fnJournalsRow.holds Try.pinned (OpenSpec.ofChange fnJournalsWrong)

/-- 'laws.FnExactTicketsOf': WHATEVER THE INPUT: true; the input reads as it did. -/
def fnExactTicketsOfSpec : ChangeSpec := { name := "fnExactTicketsOf", fn := fun _ => fun
  | [d1, d2] => { results := [.lit (.bool true)], args := [d1, d2] }
  | _ => none }
def fnExactTicketsOfRow : OpenClaim := { program := "ytjopackngkfdhaa", sum := "59800f57a60214dc2703add7d67cff787235f2773c65175a5768843e1fed6b8e", func := "loop.example/g01278/laws.FnExactTicketsOf", spec := "fnExactTicketsOf", unfollowed := true, recurses := true, apart := false }
def FnExactTicketsOfSaid : Prop := fnExactTicketsOfRow.holds Try.pinned (OpenSpec.ofChange fnExactTicketsOfSpec)

/-- ITS FALSE NEIGHBOUR: 'it returns false'. Refute it at one input. -/
def fnExactTicketsOfWrong : ChangeSpec := { name := "fnExactTicketsOf", fn := fun _ => fun
  | [d1, d2] => { results := [.lit (.bool false)], args := [d1, d2] }
  | _ => none }
def FnExactTicketsOfWrongFalsely : Prop := fnExactTicketsOfRow.holds Try.pinned (OpenSpec.ofChange fnExactTicketsOfWrong)

/-- 'laws.FnExactJournalOf': WHATEVER THE INPUT: true; the input reads as it did. -/
def fnExactJournalOfSpec : ChangeSpec := { name := "fnExactJournalOf", fn := fun _ => fun
  | [d1, d2] => { results := [.lit (.bool true)], args := [d1, d2] }
  | _ => none }
def fnExactJournalOfRow : OpenClaim := { program := "ytjopackngkfdhaa", sum := "59800f57a60214dc2703add7d67cff787235f2773c65175a5768843e1fed6b8e", func := "loop.example/g01278/laws.FnExactJournalOf", spec := "fnExactJournalOf", unfollowed := true, recurses := true, apart := false }
def FnExactJournalOfSaid : Prop := fnExactJournalOfRow.holds Try.pinned (OpenSpec.ofChange fnExactJournalOfSpec)

/-- ITS FALSE NEIGHBOUR: 'it returns false'. Refute it at one input. -/
def fnExactJournalOfWrong : ChangeSpec := { name := "fnExactJournalOf", fn := fun _ => fun
  | [d1, d2] => { results := [.lit (.bool false)], args := [d1, d2] }
  | _ => none }
def FnExactJournalOfWrongFalsely : Prop := fnExactJournalOfRow.holds Try.pinned (OpenSpec.ofChange fnExactJournalOfWrong)

/- THE SECOND FORM. 'bulk': how many values and letters a reading holds, each counted each time it is reached (what is shared counts as often as it is met; a slice's spare places count too). A statement '..UptoSaid' is the law's where the arguments, and the package variables that the reading takes, are together of bulk at most 1048576: NARROWER than '..Said'. Prove '..Said' where nothing that the law and all that it calls make is longer than what came in: it says more and counts as full. Else prove '..UptoSaid'. A law counts once. -/
mutual
def uptoBulk {H : Type} : DataW H → Nat
  | .lit (.string bytes) => bytes.length + 1
  | .lit _ => 1
  | .nil => 1
  | .ptr d => uptoBulk d + 1
  | .slice elems spare => uptoBulkAll elems + uptoBulkAll spare + 1
  | .agg parts => uptoBulkAll parts + 1
  | .iface _ d => uptoBulk d + 1
  | .map entries => uptoBulkEntries entries + 1
  | .held _ => 1
def uptoBulkAll {H : Type} : List (DataW H) → Nat
  | [] => 0
  | d :: r => uptoBulk d + uptoBulkAll r
def uptoBulkEntries {H : Type} : List (Lit × DataW H) → Nat
  | [] => 0
  | x :: r => uptoBulkEntry x + uptoBulkEntries r
def uptoBulkEntry {H : Type} : Lit × DataW H → Nat
  | (.string bytes, d) => bytes.length + uptoBulk d + 1
  | (_, d) => uptoBulk d + 1
 end
def uptoSmall : (H : Type) → List (DataW H) → Bool := fun _ ds => decide (uptoBulkAll ds ≤ 1048576)
def OpenSpec.upto (s : _root_.Go.ChangeSpec) : _root_.Go.OpenSpec := { _root_.Go.OpenSpec.ofChange s with cond := some uptoSmall }

/-- 'laws.FnExactValidAct', WHERE WHAT IT READS IS OF BULK AT MOST 1048576: true; the input reads as it did. -/
def fnExactValidActUptoRow : OpenClaim := { program := "ytjopackngkfdhaa", sum := "59800f57a60214dc2703add7d67cff787235f2773c65175a5768843e1fed6b8e", func := "loop.example/g01278/laws.FnExactValidAct", spec := "fnExactValidAct", apart := false, narrowed := true }
def FnExactValidActUptoSaid : Prop := fnExactValidActUptoRow.holds Try.pinned (OpenSpec.upto fnExactValidActSpec)

/-- 'laws.FnExactSameDevice', WHERE WHAT IT READS IS OF BULK AT MOST 1048576: true; the input reads as it did. -/
def fnExactSameDeviceUptoRow : OpenClaim := { program := "ytjopackngkfdhaa", sum := "59800f57a60214dc2703add7d67cff787235f2773c65175a5768843e1fed6b8e", func := "loop.example/g01278/laws.FnExactSameDevice", spec := "fnExactSameDevice", apart := false, narrowed := true }
def FnExactSameDeviceUptoSaid : Prop := fnExactSameDeviceUptoRow.holds Try.pinned (OpenSpec.upto fnExactSameDeviceSpec)

/-- 'laws.FnExactCheckOf', WHERE WHAT IT READS IS OF BULK AT MOST 1048576: true; the input reads as it did. -/
def fnExactCheckOfUptoRow : OpenClaim := { program := "ytjopackngkfdhaa", sum := "59800f57a60214dc2703add7d67cff787235f2773c65175a5768843e1fed6b8e", func := "loop.example/g01278/laws.FnExactCheckOf", spec := "fnExactCheckOf", unfollowed := true, recurses := true, apart := false, narrowed := true }
def FnExactCheckOfUptoSaid : Prop := fnExactCheckOfUptoRow.holds Try.pinned (OpenSpec.upto fnExactCheckOfSpec)

/-- 'laws.FnExactIsGenuine', WHERE WHAT IT READS IS OF BULK AT MOST 1048576: true; the input reads as it did. -/
def fnExactIsGenuineUptoRow : OpenClaim := { program := "ytjopackngkfdhaa", sum := "59800f57a60214dc2703add7d67cff787235f2773c65175a5768843e1fed6b8e", func := "loop.example/g01278/laws.FnExactIsGenuine", spec := "fnExactIsGenuine", unfollowed := true, recurses := true, apart := false, narrowed := true }
def FnExactIsGenuineUptoSaid : Prop := fnExactIsGenuineUptoRow.holds Try.pinned (OpenSpec.upto fnExactIsGenuineSpec)

/-- 'laws.FnExactNewDevice', WHERE WHAT IT READS IS OF BULK AT MOST 1048576: true; the input reads as it did. -/
def fnExactNewDeviceUptoRow : OpenClaim := { program := "ytjopackngkfdhaa", sum := "59800f57a60214dc2703add7d67cff787235f2773c65175a5768843e1fed6b8e", func := "loop.example/g01278/laws.FnExactNewDevice", spec := "fnExactNewDevice", unfollowed := true, recurses := true, apart := false, narrowed := true }
def FnExactNewDeviceUptoSaid : Prop := fnExactNewDeviceUptoRow.holds Try.pinned (OpenSpec.upto fnExactNewDeviceSpec)

/-- 'laws.FnExactShortActs', WHERE WHAT IT READS IS OF BULK AT MOST 1048576: true; the input reads as it did. -/
def fnExactShortActsUptoRow : OpenClaim := { program := "ytjopackngkfdhaa", sum := "59800f57a60214dc2703add7d67cff787235f2773c65175a5768843e1fed6b8e", func := "loop.example/g01278/laws.FnExactShortActs", spec := "fnExactShortActs", unfollowed := true, recurses := true, apart := false, narrowed := true }
def FnExactShortActsUptoSaid : Prop := fnExactShortActsUptoRow.holds Try.pinned (OpenSpec.upto fnExactShortActsSpec)

/-- 'laws.FnExactValidDevice', WHERE WHAT IT READS IS OF BULK AT MOST 1048576: true; the input reads as it did. -/
def fnExactValidDeviceUptoRow : OpenClaim := { program := "ytjopackngkfdhaa", sum := "59800f57a60214dc2703add7d67cff787235f2773c65175a5768843e1fed6b8e", func := "loop.example/g01278/laws.FnExactValidDevice", spec := "fnExactValidDevice", unfollowed := true, recurses := true, apart := false, narrowed := true }
def FnExactValidDeviceUptoSaid : Prop := fnExactValidDeviceUptoRow.holds Try.pinned (OpenSpec.upto fnExactValidDeviceSpec)

/-- 'laws.FnExactFirstForged', WHERE WHAT IT READS IS OF BULK AT MOST 1048576: true; the input reads as it did. -/
def fnExactFirstForgedUptoRow : OpenClaim := { program := "ytjopackngkfdhaa", sum := "59800f57a60214dc2703add7d67cff787235f2773c65175a5768843e1fed6b8e", func := "loop.example/g01278/laws.FnExactFirstForged", spec := "fnExactFirstForged", unfollowed := true, recurses := true, apart := false, narrowed := true }
def FnExactFirstForgedUptoSaid : Prop := fnExactFirstForgedUptoRow.holds Try.pinned (OpenSpec.upto fnExactFirstForgedSpec)

/-- 'laws.FnExactPulsesUntilStop', WHERE WHAT IT READS IS OF BULK AT MOST 1048576: true; the input reads as it did. -/
def fnExactPulsesUntilStopUptoRow : OpenClaim := { program := "ytjopackngkfdhaa", sum := "59800f57a60214dc2703add7d67cff787235f2773c65175a5768843e1fed6b8e", func := "loop.example/g01278/laws.FnExactPulsesUntilStop", spec := "fnExactPulsesUntilStop", unfollowed := true, recurses := true, apart := false, narrowed := true }
def FnExactPulsesUntilStopUptoSaid : Prop := fnExactPulsesUntilStopUptoRow.holds Try.pinned (OpenSpec.upto fnExactPulsesUntilStopSpec)

/-- 'laws.FnExactBatchActs', WHERE WHAT IT READS IS OF BULK AT MOST 1048576: true; the input reads as it did. -/
def fnExactBatchActsUptoRow : OpenClaim := { program := "ytjopackngkfdhaa", sum := "59800f57a60214dc2703add7d67cff787235f2773c65175a5768843e1fed6b8e", func := "loop.example/g01278/laws.FnExactBatchActs", spec := "fnExactBatchActs", unfollowed := true, recurses := true, apart := false, narrowed := true }
def FnExactBatchActsUptoSaid : Prop := fnExactBatchActsUptoRow.holds Try.pinned (OpenSpec.upto fnExactBatchActsSpec)

/-- 'laws.FnExactMissingNumbers', WHERE WHAT IT READS IS OF BULK AT MOST 1048576: true; the input reads as it did. -/
def fnExactMissingNumbersUptoRow : OpenClaim := { program := "ytjopackngkfdhaa", sum := "59800f57a60214dc2703add7d67cff787235f2773c65175a5768843e1fed6b8e", func := "loop.example/g01278/laws.FnExactMissingNumbers", spec := "fnExactMissingNumbers", unfollowed := true, recurses := true, apart := false, narrowed := true }
def FnExactMissingNumbersUptoSaid : Prop := fnExactMissingNumbersUptoRow.holds Try.pinned (OpenSpec.upto fnExactMissingNumbersSpec)

/-- 'laws.FnExactDoAct', WHERE WHAT IT READS IS OF BULK AT MOST 1048576: true; the input reads as it did. -/
def fnExactDoActUptoRow : OpenClaim := { program := "ytjopackngkfdhaa", sum := "59800f57a60214dc2703add7d67cff787235f2773c65175a5768843e1fed6b8e", func := "loop.example/g01278/laws.FnExactDoAct", spec := "fnExactDoAct", unfollowed := true, recurses := true, apart := false, narrowed := true }
def FnExactDoActUptoSaid : Prop := fnExactDoActUptoRow.holds Try.pinned (OpenSpec.upto fnExactDoActSpec)

/-- 'laws.FnExactFirstWrong', WHERE WHAT IT READS IS OF BULK AT MOST 1048576: true; the input reads as it did. -/
def fnExactFirstWrongUptoRow : OpenClaim := { program := "ytjopackngkfdhaa", sum := "59800f57a60214dc2703add7d67cff787235f2773c65175a5768843e1fed6b8e", func := "loop.example/g01278/laws.FnExactFirstWrong", spec := "fnExactFirstWrong", unfollowed := true, recurses := true, apart := false, narrowed := true }
def FnExactFirstWrongUptoSaid : Prop := fnExactFirstWrongUptoRow.holds Try.pinned (OpenSpec.upto fnExactFirstWrongSpec)

/-- 'laws.FnExactPrintTicket', WHERE WHAT IT READS IS OF BULK AT MOST 1048576: true; the input reads as it did. -/
def fnExactPrintTicketUptoRow : OpenClaim := { program := "ytjopackngkfdhaa", sum := "59800f57a60214dc2703add7d67cff787235f2773c65175a5768843e1fed6b8e", func := "loop.example/g01278/laws.FnExactPrintTicket", spec := "fnExactPrintTicket", unfollowed := true, recurses := true, apart := false, narrowed := true }
def FnExactPrintTicketUptoSaid : Prop := fnExactPrintTicketUptoRow.holds Try.pinned (OpenSpec.upto fnExactPrintTicketSpec)

/-- 'laws.FnExactDoActs', WHERE WHAT IT READS IS OF BULK AT MOST 1048576: true; the input reads as it did. -/
def fnExactDoActsUptoRow : OpenClaim := { program := "ytjopackngkfdhaa", sum := "59800f57a60214dc2703add7d67cff787235f2773c65175a5768843e1fed6b8e", func := "loop.example/g01278/laws.FnExactDoActs", spec := "fnExactDoActs", unfollowed := true, recurses := true, apart := false, narrowed := true }
def FnExactDoActsUptoSaid : Prop := fnExactDoActsUptoRow.holds Try.pinned (OpenSpec.upto fnExactDoActsSpec)

/-- 'laws.FnJournals', WHERE WHAT IT READS IS OF BULK AT MOST 1048576: true; the input reads as it did. -/
def fnJournalsUptoRow : OpenClaim := { program := "ytjopackngkfdhaa", sum := "59800f57a60214dc2703add7d67cff787235f2773c65175a5768843e1fed6b8e", func := "loop.example/g01278/laws.FnJournals", spec := "fnJournals", unfollowed := true, recurses := true, apart := false, narrowed := true }
def FnJournalsUptoSaid : Prop := fnJournalsUptoRow.holds Try.pinned (OpenSpec.upto fnJournalsSpec)

/-- 'laws.FnExactTicketsOf', WHERE WHAT IT READS IS OF BULK AT MOST 1048576: true; the input reads as it did. -/
def fnExactTicketsOfUptoRow : OpenClaim := { program := "ytjopackngkfdhaa", sum := "59800f57a60214dc2703add7d67cff787235f2773c65175a5768843e1fed6b8e", func := "loop.example/g01278/laws.FnExactTicketsOf", spec := "fnExactTicketsOf", unfollowed := true, recurses := true, apart := false, narrowed := true }
def FnExactTicketsOfUptoSaid : Prop := fnExactTicketsOfUptoRow.holds Try.pinned (OpenSpec.upto fnExactTicketsOfSpec)

/-- 'laws.FnExactJournalOf', WHERE WHAT IT READS IS OF BULK AT MOST 1048576: true; the input reads as it did. -/
def fnExactJournalOfUptoRow : OpenClaim := { program := "ytjopackngkfdhaa", sum := "59800f57a60214dc2703add7d67cff787235f2773c65175a5768843e1fed6b8e", func := "loop.example/g01278/laws.FnExactJournalOf", spec := "fnExactJournalOf", unfollowed := true, recurses := true, apart := false, narrowed := true }
def FnExactJournalOfUptoSaid : Prop := fnExactJournalOfUptoRow.holds Try.pinned (OpenSpec.upto fnExactJournalOfSpec)

end Rows
end Go.Proofs.Ytjopackngkfdhaa
