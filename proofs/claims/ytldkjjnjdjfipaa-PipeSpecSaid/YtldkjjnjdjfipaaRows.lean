/-
  No cell of these rows narrows 'for every input' (looked for: loops, veiled, ifaces, maps, wideKeys, modest, calm, conditions, laid).
  DERIVED. THE GIVEN ROWS OF THIS SEAT. 39 by the template 'for every input the law returns true; each argument reads behind the call as it read before'; 0 by the template 'total and deterministic' (their statements: YtldkjjnjdjfipaaTotals.lean).
  GIVEN WITH THE SEED: the statements are not yours to turn. If you find one false, say at which input.
  Laid BY PROGRAM, IN A SANDBOX (cutbox-rows.mjs): the forced cells as the released guide's own fill.sh prints them over the translation e88864d0f0288857… (all of the seat's roots in one cut). By AI agents, Wed Nov 11 2026. No macro, syntax, notation, axiom, sorry.
-/
import Derived.Test.YtldkjjnjdjfipaaChecked
import GoSem.Claim
import GoSem.ClaimJoined
import GoSem.ClaimMapViews
import Derived.JoinedTies
import Derived.KernelRfl
namespace Go.Proofs.Ytldkjjnjdjfipaa
/- THE CELL 'sum', in the pinned program and in every row, IS THE sha256 OF THE DUMP (.gsa) THAT YtldkjjnjdjfipaaProg.lean LOADS. Nothing in Lean hashes anything: it is a label: what it is worth is what the hold of that sum in a sandbox is worth. -/
noncomputable def Try.pinned : Pinned := { name := "ytldkjjnjdjfipaa", sum := "e88864d0f0288857196dd3dbc8fb10e66f6693826ae69caffd9b6d977642c877", checked := Try.checked }
namespace Rows
def none {H : Type} : Left H := { results := [], args := [] }

/-- 'dominolaw09.RecordTotal': WHATEVER THE INPUT: true; the input reads as it did. -/
def recordTotalSpec : ChangeSpec := { name := "recordTotal", fn := fun _ => fun
  | [d1, d2] => { results := [.lit (.bool true)], args := [d1, d2] }
  | _ => none }
def recordTotalRow : OpenClaim := { program := "ytldkjjnjdjfipaa", sum := "e88864d0f0288857196dd3dbc8fb10e66f6693826ae69caffd9b6d977642c877", func := "domino/dominolaw09.RecordTotal", spec := "recordTotal", plainKeys := false, apart := false }
def RecordTotalSaid : Prop := recordTotalRow.holds Try.pinned (OpenSpec.ofChange recordTotalSpec)

/-- ITS FALSE NEIGHBOUR: 'it returns false'. Refute it at one input. -/
def recordTotalWrong : ChangeSpec := { name := "recordTotal", fn := fun _ => fun
  | [d1, d2] => { results := [.lit (.bool false)], args := [d1, d2] }
  | _ => none }
def RecordTotalWrongFalsely : Prop := recordTotalRow.holds Try.pinned (OpenSpec.ofChange recordTotalWrong)

/-- 'dominolaw09.RecordOrder': WHATEVER THE INPUT: true; the input reads as it did. -/
def recordOrderSpec : ChangeSpec := { name := "recordOrder", fn := fun _ => fun
  | [d1, d2, d3, d4] => { results := [.lit (.bool true)], args := [d1, d2, d3, d4] }
  | _ => none }
def recordOrderRow : OpenClaim := { program := "ytldkjjnjdjfipaa", sum := "e88864d0f0288857196dd3dbc8fb10e66f6693826ae69caffd9b6d977642c877", func := "domino/dominolaw09.RecordOrder", spec := "recordOrder", unfollowed := true, recurses := true, plainKeys := false, apart := false }
def RecordOrderSaid : Prop := recordOrderRow.holds Try.pinned (OpenSpec.ofChange recordOrderSpec)

/-- ITS FALSE NEIGHBOUR: 'it returns false'. Refute it at one input. -/
def recordOrderWrong : ChangeSpec := { name := "recordOrder", fn := fun _ => fun
  | [d1, d2, d3, d4] => { results := [.lit (.bool false)], args := [d1, d2, d3, d4] }
  | _ => none }
def RecordOrderWrongFalsely : Prop := recordOrderRow.holds Try.pinned (OpenSpec.ofChange recordOrderWrong)

/-- 'dominolaw09.RecordDead': WHATEVER THE INPUT: true; the input reads as it did. -/
def recordDeadSpec : ChangeSpec := { name := "recordDead", fn := fun _ => fun
  | [d] => { results := [.lit (.bool true)], args := [d] }
  | _ => none }
def recordDeadRow : OpenClaim := { program := "ytldkjjnjdjfipaa", sum := "e88864d0f0288857196dd3dbc8fb10e66f6693826ae69caffd9b6d977642c877", func := "domino/dominolaw09.RecordDead", spec := "recordDead", unfollowed := true, recurses := true, plainKeys := false, apart := false }
def RecordDeadSaid : Prop := recordDeadRow.holds Try.pinned (OpenSpec.ofChange recordDeadSpec)

/-- ITS FALSE NEIGHBOUR: 'it returns false'. Refute it at one input. -/
def recordDeadWrong : ChangeSpec := { name := "recordDead", fn := fun _ => fun
  | [d] => { results := [.lit (.bool false)], args := [d] }
  | _ => none }
def RecordDeadWrongFalsely : Prop := recordDeadRow.holds Try.pinned (OpenSpec.ofChange recordDeadWrong)

/-- 'dominolaw13.BitonicPadded': WHATEVER THE INPUT: true; the input reads as it did. -/
def bitonicPaddedSpec : ChangeSpec := { name := "bitonicPadded", fn := fun _ => fun
  | [d] => { results := [.lit (.bool true)], args := [d] }
  | _ => none }
def bitonicPaddedRow : OpenClaim := { program := "ytldkjjnjdjfipaa", sum := "e88864d0f0288857196dd3dbc8fb10e66f6693826ae69caffd9b6d977642c877", func := "domino/dominolaw13.BitonicPadded", spec := "bitonicPadded", plainKeys := false, apart := false }
def BitonicPaddedSaid : Prop := bitonicPaddedRow.holds Try.pinned (OpenSpec.ofChange bitonicPaddedSpec)

/-- ITS FALSE NEIGHBOUR: 'it returns false'. Refute it at one input. -/
def bitonicPaddedWrong : ChangeSpec := { name := "bitonicPadded", fn := fun _ => fun
  | [d] => { results := [.lit (.bool false)], args := [d] }
  | _ => none }
def BitonicPaddedWrongFalsely : Prop := bitonicPaddedRow.holds Try.pinned (OpenSpec.ofChange bitonicPaddedWrong)

/-- 'dominolaw13.BitonicRounds': WHATEVER THE INPUT: true; the input reads as it did. -/
def bitonicRoundsSpec : ChangeSpec := { name := "bitonicRounds", fn := fun _ => fun
  | [d1, d2, d3, d4] => { results := [.lit (.bool true)], args := [d1, d2, d3, d4] }
  | _ => none }
def bitonicRoundsRow : OpenClaim := { program := "ytldkjjnjdjfipaa", sum := "e88864d0f0288857196dd3dbc8fb10e66f6693826ae69caffd9b6d977642c877", func := "domino/dominolaw13.BitonicRounds", spec := "bitonicRounds", unfollowed := true, recurses := true, plainKeys := false, apart := false }
def BitonicRoundsSaid : Prop := bitonicRoundsRow.holds Try.pinned (OpenSpec.ofChange bitonicRoundsSpec)

/-- ITS FALSE NEIGHBOUR: 'it returns false'. Refute it at one input. -/
def bitonicRoundsWrong : ChangeSpec := { name := "bitonicRounds", fn := fun _ => fun
  | [d1, d2, d3, d4] => { results := [.lit (.bool false)], args := [d1, d2, d3, d4] }
  | _ => none }
def BitonicRoundsWrongFalsely : Prop := bitonicRoundsRow.holds Try.pinned (OpenSpec.ofChange bitonicRoundsWrong)

/-- 'dominolaw13.BitonicSorts': WHATEVER THE INPUT: true; the input reads as it did. -/
def bitonicSortsSpec : ChangeSpec := { name := "bitonicSorts", fn := fun _ => fun
  | [d1, d2] => { results := [.lit (.bool true)], args := [d1, d2] }
  | _ => none }
def bitonicSortsRow : OpenClaim := { program := "ytldkjjnjdjfipaa", sum := "e88864d0f0288857196dd3dbc8fb10e66f6693826ae69caffd9b6d977642c877", func := "domino/dominolaw13.BitonicSorts", spec := "bitonicSorts", unfollowed := true, recurses := true, plainKeys := false, apart := false }
def BitonicSortsSaid : Prop := bitonicSortsRow.holds Try.pinned (OpenSpec.ofChange bitonicSortsSpec)

/-- ITS FALSE NEIGHBOUR: 'it returns false'. Refute it at one input. -/
def bitonicSortsWrong : ChangeSpec := { name := "bitonicSorts", fn := fun _ => fun
  | [d1, d2] => { results := [.lit (.bool false)], args := [d1, d2] }
  | _ => none }
def BitonicSortsWrongFalsely : Prop := bitonicSortsRow.holds Try.pinned (OpenSpec.ofChange bitonicSortsWrong)

/-- 'dominolaw13.BitonicOnce': WHATEVER THE INPUT: true; the input reads as it did. -/
def bitonicOnceSpec : ChangeSpec := { name := "bitonicOnce", fn := fun _ => fun
  | [d1, d2] => { results := [.lit (.bool true)], args := [d1, d2] }
  | _ => none }
def bitonicOnceRow : OpenClaim := { program := "ytldkjjnjdjfipaa", sum := "e88864d0f0288857196dd3dbc8fb10e66f6693826ae69caffd9b6d977642c877", func := "domino/dominolaw13.BitonicOnce", spec := "bitonicOnce", unfollowed := true, recurses := true, plainKeys := false, apart := false }
def BitonicOnceSaid : Prop := bitonicOnceRow.holds Try.pinned (OpenSpec.ofChange bitonicOnceSpec)

/-- ITS FALSE NEIGHBOUR: 'it returns false'. Refute it at one input. -/
def bitonicOnceWrong : ChangeSpec := { name := "bitonicOnce", fn := fun _ => fun
  | [d1, d2] => { results := [.lit (.bool false)], args := [d1, d2] }
  | _ => none }
def BitonicOnceWrongFalsely : Prop := bitonicOnceRow.holds Try.pinned (OpenSpec.ofChange bitonicOnceWrong)

/-- 'dominolaw13.BitonicWays': WHATEVER THE INPUT: true; the input reads as it did. -/
def bitonicWaysSpec : ChangeSpec := { name := "bitonicWays", fn := fun _ => fun
  | [d1, d2] => { results := [.lit (.bool true)], args := [d1, d2] }
  | _ => none }
def bitonicWaysRow : OpenClaim := { program := "ytldkjjnjdjfipaa", sum := "e88864d0f0288857196dd3dbc8fb10e66f6693826ae69caffd9b6d977642c877", func := "domino/dominolaw13.BitonicWays", spec := "bitonicWays", unfollowed := true, recurses := true, plainKeys := false, apart := false }
def BitonicWaysSaid : Prop := bitonicWaysRow.holds Try.pinned (OpenSpec.ofChange bitonicWaysSpec)

/-- ITS FALSE NEIGHBOUR: 'it returns false'. Refute it at one input. -/
def bitonicWaysWrong : ChangeSpec := { name := "bitonicWays", fn := fun _ => fun
  | [d1, d2] => { results := [.lit (.bool false)], args := [d1, d2] }
  | _ => none }
def BitonicWaysWrongFalsely : Prop := bitonicWaysRow.holds Try.pinned (OpenSpec.ofChange bitonicWaysWrong)

/-- 'dominolaw17.ShapeCounts': WHATEVER THE INPUT: true; the input reads as it did. -/
def shapeCountsSpec : ChangeSpec := { name := "shapeCounts", fn := fun _ => fun
  | [d] => { results := [.lit (.bool true)], args := [d] }
  | _ => none }
def shapeCountsRow : OpenClaim := { program := "ytldkjjnjdjfipaa", sum := "e88864d0f0288857196dd3dbc8fb10e66f6693826ae69caffd9b6d977642c877", func := "domino/dominolaw17.ShapeCounts", spec := "shapeCounts", plainKeys := false, apart := false }
def ShapeCountsSaid : Prop := shapeCountsRow.holds Try.pinned (OpenSpec.ofChange shapeCountsSpec)

/-- ITS FALSE NEIGHBOUR: 'it returns false'. Refute it at one input. -/
def shapeCountsWrong : ChangeSpec := { name := "shapeCounts", fn := fun _ => fun
  | [d] => { results := [.lit (.bool false)], args := [d] }
  | _ => none }
def ShapeCountsWrongFalsely : Prop := shapeCountsRow.holds Try.pinned (OpenSpec.ofChange shapeCountsWrong)

/-- 'dominolaw09.RecordPacks': WHATEVER THE INPUT: true; the input reads as it did. -/
def recordPacksSpec : ChangeSpec := { name := "recordPacks", fn := fun _ => fun
  | [d1, d2] => { results := [.lit (.bool true)], args := [d1, d2] }
  | _ => none }
def recordPacksRow : OpenClaim := { program := "ytldkjjnjdjfipaa", sum := "e88864d0f0288857196dd3dbc8fb10e66f6693826ae69caffd9b6d977642c877", func := "domino/dominolaw09.RecordPacks", spec := "recordPacks", unfollowed := true, recurses := true, plainKeys := false, apart := false }
def RecordPacksSaid : Prop := recordPacksRow.holds Try.pinned (OpenSpec.ofChange recordPacksSpec)

/-- ITS FALSE NEIGHBOUR: 'it returns false'. Refute it at one input. -/
def recordPacksWrong : ChangeSpec := { name := "recordPacks", fn := fun _ => fun
  | [d1, d2] => { results := [.lit (.bool false)], args := [d1, d2] }
  | _ => none }
def RecordPacksWrongFalsely : Prop := recordPacksRow.holds Try.pinned (OpenSpec.ofChange recordPacksWrong)

/-- 'dominolaw09.RecordBack': WHATEVER THE INPUT: true; the input reads as it did. -/
def recordBackSpec : ChangeSpec := { name := "recordBack", fn := fun _ => fun
  | [d1, d2] => { results := [.lit (.bool true)], args := [d1, d2] }
  | _ => none }
def recordBackRow : OpenClaim := { program := "ytldkjjnjdjfipaa", sum := "e88864d0f0288857196dd3dbc8fb10e66f6693826ae69caffd9b6d977642c877", func := "domino/dominolaw09.RecordBack", spec := "recordBack", unfollowed := true, recurses := true, plainKeys := false, apart := false }
def RecordBackSaid : Prop := recordBackRow.holds Try.pinned (OpenSpec.ofChange recordBackSpec)

/-- ITS FALSE NEIGHBOUR: 'it returns false'. Refute it at one input. -/
def recordBackWrong : ChangeSpec := { name := "recordBack", fn := fun _ => fun
  | [d1, d2] => { results := [.lit (.bool false)], args := [d1, d2] }
  | _ => none }
def RecordBackWrongFalsely : Prop := recordBackRow.holds Try.pinned (OpenSpec.ofChange recordBackWrong)

/-- 'dominolaw14.MergeHalves': WHATEVER THE INPUT: true; the input reads as it did. -/
def mergeHalvesSpec : ChangeSpec := { name := "mergeHalves", fn := fun _ => fun
  | [d1, d2, d3] => { results := [.lit (.bool true)], args := [d1, d2, d3] }
  | _ => none }
def mergeHalvesRow : OpenClaim := { program := "ytldkjjnjdjfipaa", sum := "e88864d0f0288857196dd3dbc8fb10e66f6693826ae69caffd9b6d977642c877", func := "domino/dominolaw14.MergeHalves", spec := "mergeHalves", unfollowed := true, recurses := true, plainKeys := false, apart := false }
def MergeHalvesSaid : Prop := mergeHalvesRow.holds Try.pinned (OpenSpec.ofChange mergeHalvesSpec)

/-- ITS FALSE NEIGHBOUR: 'it returns false'. Refute it at one input. -/
def mergeHalvesWrong : ChangeSpec := { name := "mergeHalves", fn := fun _ => fun
  | [d1, d2, d3] => { results := [.lit (.bool false)], args := [d1, d2, d3] }
  | _ => none }
def MergeHalvesWrongFalsely : Prop := mergeHalvesRow.holds Try.pinned (OpenSpec.ofChange mergeHalvesWrong)

/-- 'dominolaw14.MergeStable': WHATEVER THE INPUT: true; the input reads as it did. -/
def mergeStableSpec : ChangeSpec := { name := "mergeStable", fn := fun _ => fun
  | [d] => { results := [.lit (.bool true)], args := [d] }
  | _ => none }
def mergeStableRow : OpenClaim := { program := "ytldkjjnjdjfipaa", sum := "e88864d0f0288857196dd3dbc8fb10e66f6693826ae69caffd9b6d977642c877", func := "domino/dominolaw14.MergeStable", spec := "mergeStable", unfollowed := true, recurses := true, plainKeys := false, apart := false }
def MergeStableSaid : Prop := mergeStableRow.holds Try.pinned (OpenSpec.ofChange mergeStableSpec)

/-- ITS FALSE NEIGHBOUR: 'it returns false'. Refute it at one input. -/
def mergeStableWrong : ChangeSpec := { name := "mergeStable", fn := fun _ => fun
  | [d] => { results := [.lit (.bool false)], args := [d] }
  | _ => none }
def MergeStableWrongFalsely : Prop := mergeStableRow.holds Try.pinned (OpenSpec.ofChange mergeStableWrong)

/-- 'dominolaw14.MergeSorts': WHATEVER THE INPUT: true; the input reads as it did. -/
def mergeSortsSpec : ChangeSpec := { name := "mergeSorts", fn := fun _ => fun
  | [d1, d2, d3] => { results := [.lit (.bool true)], args := [d1, d2, d3] }
  | _ => none }
def mergeSortsRow : OpenClaim := { program := "ytldkjjnjdjfipaa", sum := "e88864d0f0288857196dd3dbc8fb10e66f6693826ae69caffd9b6d977642c877", func := "domino/dominolaw14.MergeSorts", spec := "mergeSorts", unfollowed := true, recurses := true, plainKeys := false, apart := false }
def MergeSortsSaid : Prop := mergeSortsRow.holds Try.pinned (OpenSpec.ofChange mergeSortsSpec)

/-- ITS FALSE NEIGHBOUR: 'it returns false'. Refute it at one input. -/
def mergeSortsWrong : ChangeSpec := { name := "mergeSorts", fn := fun _ => fun
  | [d1, d2, d3] => { results := [.lit (.bool false)], args := [d1, d2, d3] }
  | _ => none }
def MergeSortsWrongFalsely : Prop := mergeSortsRow.holds Try.pinned (OpenSpec.ofChange mergeSortsWrong)

/-- 'dominolaw14.MergeKeeps': WHATEVER THE INPUT: true; the input reads as it did. -/
def mergeKeepsSpec : ChangeSpec := { name := "mergeKeeps", fn := fun _ => fun
  | [d1, d2] => { results := [.lit (.bool true)], args := [d1, d2] }
  | _ => none }
def mergeKeepsRow : OpenClaim := { program := "ytldkjjnjdjfipaa", sum := "e88864d0f0288857196dd3dbc8fb10e66f6693826ae69caffd9b6d977642c877", func := "domino/dominolaw14.MergeKeeps", spec := "mergeKeeps", unfollowed := true, recurses := true, plainKeys := false, apart := false }
def MergeKeepsSaid : Prop := mergeKeepsRow.holds Try.pinned (OpenSpec.ofChange mergeKeepsSpec)

/-- ITS FALSE NEIGHBOUR: 'it returns false'. Refute it at one input. -/
def mergeKeepsWrong : ChangeSpec := { name := "mergeKeeps", fn := fun _ => fun
  | [d1, d2] => { results := [.lit (.bool false)], args := [d1, d2] }
  | _ => none }
def MergeKeepsWrongFalsely : Prop := mergeKeepsRow.holds Try.pinned (OpenSpec.ofChange mergeKeepsWrong)

/-- 'dominolaw14.MergeNetwork': WHATEVER THE INPUT: true; the input reads as it did. -/
def mergeNetworkSpec : ChangeSpec := { name := "mergeNetwork", fn := fun _ => fun
  | [d1, d2, d3, d4] => { results := [.lit (.bool true)], args := [d1, d2, d3, d4] }
  | _ => none }
def mergeNetworkRow : OpenClaim := { program := "ytldkjjnjdjfipaa", sum := "e88864d0f0288857196dd3dbc8fb10e66f6693826ae69caffd9b6d977642c877", func := "domino/dominolaw14.MergeNetwork", spec := "mergeNetwork", unfollowed := true, recurses := true, plainKeys := false, apart := false }
def MergeNetworkSaid : Prop := mergeNetworkRow.holds Try.pinned (OpenSpec.ofChange mergeNetworkSpec)

/-- ITS FALSE NEIGHBOUR: 'it returns false'. Refute it at one input. -/
def mergeNetworkWrong : ChangeSpec := { name := "mergeNetwork", fn := fun _ => fun
  | [d1, d2, d3, d4] => { results := [.lit (.bool false)], args := [d1, d2, d3, d4] }
  | _ => none }
def MergeNetworkWrongFalsely : Prop := mergeNetworkRow.holds Try.pinned (OpenSpec.ofChange mergeNetworkWrong)

/-- 'dominolaw11.VmSlots': WHATEVER THE INPUT: true; the input reads as it did. -/
def vmSlotsSpec : ChangeSpec := { name := "vmSlots", fn := fun _ => fun
  | [d1, d2, d3, d4] => { results := [.lit (.bool true)], args := [d1, d2, d3, d4] }
  | _ => none }
def vmSlotsRow : OpenClaim := { program := "ytldkjjnjdjfipaa", sum := "e88864d0f0288857196dd3dbc8fb10e66f6693826ae69caffd9b6d977642c877", func := "domino/dominolaw11.VmSlots", spec := "vmSlots", unfollowed := true, recurses := true, plainKeys := false, apart := false }
def VmSlotsSaid : Prop := vmSlotsRow.holds Try.pinned (OpenSpec.ofChange vmSlotsSpec)

/-- ITS FALSE NEIGHBOUR: 'it returns false'. Refute it at one input. -/
def vmSlotsWrong : ChangeSpec := { name := "vmSlots", fn := fun _ => fun
  | [d1, d2, d3, d4] => { results := [.lit (.bool false)], args := [d1, d2, d3, d4] }
  | _ => none }
def VmSlotsWrongFalsely : Prop := vmSlotsRow.holds Try.pinned (OpenSpec.ofChange vmSlotsWrong)

/-- 'dominolaw11.VmLines': WHATEVER THE INPUT: true; the input reads as it did. -/
def vmLinesSpec : ChangeSpec := { name := "vmLines", fn := fun _ => fun
  | [d1, d2, d3, d4] => { results := [.lit (.bool true)], args := [d1, d2, d3, d4] }
  | _ => none }
def vmLinesRow : OpenClaim := { program := "ytldkjjnjdjfipaa", sum := "e88864d0f0288857196dd3dbc8fb10e66f6693826ae69caffd9b6d977642c877", func := "domino/dominolaw11.VmLines", spec := "vmLines", unfollowed := true, recurses := true, plainKeys := false, apart := false }
def VmLinesSaid : Prop := vmLinesRow.holds Try.pinned (OpenSpec.ofChange vmLinesSpec)

/-- ITS FALSE NEIGHBOUR: 'it returns false'. Refute it at one input. -/
def vmLinesWrong : ChangeSpec := { name := "vmLines", fn := fun _ => fun
  | [d1, d2, d3, d4] => { results := [.lit (.bool false)], args := [d1, d2, d3, d4] }
  | _ => none }
def VmLinesWrongFalsely : Prop := vmLinesRow.holds Try.pinned (OpenSpec.ofChange vmLinesWrong)

/-- 'dominolaw11.VmPure': WHATEVER THE INPUT: true; the input reads as it did. -/
def vmPureSpec : ChangeSpec := { name := "vmPure", fn := fun _ => fun
  | [d1, d2, d3] => { results := [.lit (.bool true)], args := [d1, d2, d3] }
  | _ => none }
def vmPureRow : OpenClaim := { program := "ytldkjjnjdjfipaa", sum := "e88864d0f0288857196dd3dbc8fb10e66f6693826ae69caffd9b6d977642c877", func := "domino/dominolaw11.VmPure", spec := "vmPure", unfollowed := true, recurses := true, plainKeys := false, apart := false }
def VmPureSaid : Prop := vmPureRow.holds Try.pinned (OpenSpec.ofChange vmPureSpec)

/-- ITS FALSE NEIGHBOUR: 'it returns false'. Refute it at one input. -/
def vmPureWrong : ChangeSpec := { name := "vmPure", fn := fun _ => fun
  | [d1, d2, d3] => { results := [.lit (.bool false)], args := [d1, d2, d3] }
  | _ => none }
def VmPureWrongFalsely : Prop := vmPureRow.holds Try.pinned (OpenSpec.ofChange vmPureWrong)

/-- 'dominolaw11.VmOps': WHATEVER THE INPUT: true; the input reads as it did. -/
def vmOpsSpec : ChangeSpec := { name := "vmOps", fn := fun _ => fun
  | [d1, d2, d3, d4, d5] => { results := [.lit (.bool true)], args := [d1, d2, d3, d4, d5] }
  | _ => none }
def vmOpsRow : OpenClaim := { program := "ytldkjjnjdjfipaa", sum := "e88864d0f0288857196dd3dbc8fb10e66f6693826ae69caffd9b6d977642c877", func := "domino/dominolaw11.VmOps", spec := "vmOps", unfollowed := true, recurses := true, plainKeys := false, apart := false }
def VmOpsSaid : Prop := vmOpsRow.holds Try.pinned (OpenSpec.ofChange vmOpsSpec)

/-- ITS FALSE NEIGHBOUR: 'it returns false'. Refute it at one input. -/
def vmOpsWrong : ChangeSpec := { name := "vmOps", fn := fun _ => fun
  | [d1, d2, d3, d4, d5] => { results := [.lit (.bool false)], args := [d1, d2, d3, d4, d5] }
  | _ => none }
def VmOpsWrongFalsely : Prop := vmOpsRow.holds Try.pinned (OpenSpec.ofChange vmOpsWrong)

/-- 'dominolaw11.VmBad': WHATEVER THE INPUT: true; the input reads as it did. -/
def vmBadSpec : ChangeSpec := { name := "vmBad", fn := fun _ => fun
  | [d1, d2, d3, d4] => { results := [.lit (.bool true)], args := [d1, d2, d3, d4] }
  | _ => none }
def vmBadRow : OpenClaim := { program := "ytldkjjnjdjfipaa", sum := "e88864d0f0288857196dd3dbc8fb10e66f6693826ae69caffd9b6d977642c877", func := "domino/dominolaw11.VmBad", spec := "vmBad", unfollowed := true, recurses := true, plainKeys := false, apart := false }
def VmBadSaid : Prop := vmBadRow.holds Try.pinned (OpenSpec.ofChange vmBadSpec)

/-- ITS FALSE NEIGHBOUR: 'it returns false'. Refute it at one input. -/
def vmBadWrong : ChangeSpec := { name := "vmBad", fn := fun _ => fun
  | [d1, d2, d3, d4] => { results := [.lit (.bool false)], args := [d1, d2, d3, d4] }
  | _ => none }
def VmBadWrongFalsely : Prop := vmBadRow.holds Try.pinned (OpenSpec.ofChange vmBadWrong)

/-- 'dominolaw15.ChainSteps': WHATEVER THE INPUT: true; the input reads as it did. -/
def chainStepsSpec : ChangeSpec := { name := "chainSteps", fn := fun _ => fun
  | [d1, d2, d3] => { results := [.lit (.bool true)], args := [d1, d2, d3] }
  | _ => none }
def chainStepsRow : OpenClaim := { program := "ytldkjjnjdjfipaa", sum := "e88864d0f0288857196dd3dbc8fb10e66f6693826ae69caffd9b6d977642c877", func := "domino/dominolaw15.ChainSteps", spec := "chainSteps", unfollowed := true, recurses := true, plainKeys := false, apart := false }
def ChainStepsSaid : Prop := chainStepsRow.holds Try.pinned (OpenSpec.ofChange chainStepsSpec)

/-- ITS FALSE NEIGHBOUR: 'it returns false'. Refute it at one input. -/
def chainStepsWrong : ChangeSpec := { name := "chainSteps", fn := fun _ => fun
  | [d1, d2, d3] => { results := [.lit (.bool false)], args := [d1, d2, d3] }
  | _ => none }
def ChainStepsWrongFalsely : Prop := chainStepsRow.holds Try.pinned (OpenSpec.ofChange chainStepsWrong)

/-- 'dominolaw15.ChainCuts': WHATEVER THE INPUT: true; the input reads as it did. -/
def chainCutsSpec : ChangeSpec := { name := "chainCuts", fn := fun _ => fun
  | [d1, d2, d3] => { results := [.lit (.bool true)], args := [d1, d2, d3] }
  | _ => none }
def chainCutsRow : OpenClaim := { program := "ytldkjjnjdjfipaa", sum := "e88864d0f0288857196dd3dbc8fb10e66f6693826ae69caffd9b6d977642c877", func := "domino/dominolaw15.ChainCuts", spec := "chainCuts", unfollowed := true, recurses := true, plainKeys := false, apart := false }
def ChainCutsSaid : Prop := chainCutsRow.holds Try.pinned (OpenSpec.ofChange chainCutsSpec)

/-- ITS FALSE NEIGHBOUR: 'it returns false'. Refute it at one input. -/
def chainCutsWrong : ChangeSpec := { name := "chainCuts", fn := fun _ => fun
  | [d1, d2, d3] => { results := [.lit (.bool false)], args := [d1, d2, d3] }
  | _ => none }
def ChainCutsWrongFalsely : Prop := chainCutsRow.holds Try.pinned (OpenSpec.ofChange chainCutsWrong)

/-- 'dominolaw15.ChainSums': WHATEVER THE INPUT: true; the input reads as it did. -/
def chainSumsSpec : ChangeSpec := { name := "chainSums", fn := fun _ => fun
  | [d] => { results := [.lit (.bool true)], args := [d] }
  | _ => none }
def chainSumsRow : OpenClaim := { program := "ytldkjjnjdjfipaa", sum := "e88864d0f0288857196dd3dbc8fb10e66f6693826ae69caffd9b6d977642c877", func := "domino/dominolaw15.ChainSums", spec := "chainSums", unfollowed := true, recurses := true, plainKeys := false, apart := false }
def ChainSumsSaid : Prop := chainSumsRow.holds Try.pinned (OpenSpec.ofChange chainSumsSpec)

/-- ITS FALSE NEIGHBOUR: 'it returns false'. Refute it at one input. -/
def chainSumsWrong : ChangeSpec := { name := "chainSums", fn := fun _ => fun
  | [d] => { results := [.lit (.bool false)], args := [d] }
  | _ => none }
def ChainSumsWrongFalsely : Prop := chainSumsRow.holds Try.pinned (OpenSpec.ofChange chainSumsWrong)

/-- 'dominolaw15.ChainPlaces': WHATEVER THE INPUT: true; the input reads as it did. -/
def chainPlacesSpec : ChangeSpec := { name := "chainPlaces", fn := fun _ => fun
  | [d1, d2, d3, d4] => { results := [.lit (.bool true)], args := [d1, d2, d3, d4] }
  | _ => none }
def chainPlacesRow : OpenClaim := { program := "ytldkjjnjdjfipaa", sum := "e88864d0f0288857196dd3dbc8fb10e66f6693826ae69caffd9b6d977642c877", func := "domino/dominolaw15.ChainPlaces", spec := "chainPlaces", unfollowed := true, recurses := true, plainKeys := false, apart := false }
def ChainPlacesSaid : Prop := chainPlacesRow.holds Try.pinned (OpenSpec.ofChange chainPlacesSpec)

/-- ITS FALSE NEIGHBOUR: 'it returns false'. Refute it at one input. -/
def chainPlacesWrong : ChangeSpec := { name := "chainPlaces", fn := fun _ => fun
  | [d1, d2, d3, d4] => { results := [.lit (.bool false)], args := [d1, d2, d3, d4] }
  | _ => none }
def ChainPlacesWrongFalsely : Prop := chainPlacesRow.holds Try.pinned (OpenSpec.ofChange chainPlacesWrong)

/-- 'dominolaw15.ChainOne': WHATEVER THE INPUT: true; the input reads as it did. -/
def chainOneSpec : ChangeSpec := { name := "chainOne", fn := fun _ => fun
  | [d1, d2, d3, d4, d5] => { results := [.lit (.bool true)], args := [d1, d2, d3, d4, d5] }
  | _ => none }
def chainOneRow : OpenClaim := { program := "ytldkjjnjdjfipaa", sum := "e88864d0f0288857196dd3dbc8fb10e66f6693826ae69caffd9b6d977642c877", func := "domino/dominolaw15.ChainOne", spec := "chainOne", unfollowed := true, recurses := true, plainKeys := false, apart := false }
def ChainOneSaid : Prop := chainOneRow.holds Try.pinned (OpenSpec.ofChange chainOneSpec)

/-- ITS FALSE NEIGHBOUR: 'it returns false'. Refute it at one input. -/
def chainOneWrong : ChangeSpec := { name := "chainOne", fn := fun _ => fun
  | [d1, d2, d3, d4, d5] => { results := [.lit (.bool false)], args := [d1, d2, d3, d4, d5] }
  | _ => none }
def ChainOneWrongFalsely : Prop := chainOneRow.holds Try.pinned (OpenSpec.ofChange chainOneWrong)

/-- 'dominolaw17.ShapeTasks': WHATEVER THE INPUT: true; the input reads as it did. -/
def shapeTasksSpec : ChangeSpec := { name := "shapeTasks", fn := fun _ => fun
  | [d1, d2] => { results := [.lit (.bool true)], args := [d1, d2] }
  | _ => none }
def shapeTasksRow : OpenClaim := { program := "ytldkjjnjdjfipaa", sum := "e88864d0f0288857196dd3dbc8fb10e66f6693826ae69caffd9b6d977642c877", func := "domino/dominolaw17.ShapeTasks", spec := "shapeTasks", unfollowed := true, recurses := true, plainKeys := false, apart := false }
def ShapeTasksSaid : Prop := shapeTasksRow.holds Try.pinned (OpenSpec.ofChange shapeTasksSpec)

/-- ITS FALSE NEIGHBOUR: 'it returns false'. Refute it at one input. -/
def shapeTasksWrong : ChangeSpec := { name := "shapeTasks", fn := fun _ => fun
  | [d1, d2] => { results := [.lit (.bool false)], args := [d1, d2] }
  | _ => none }
def ShapeTasksWrongFalsely : Prop := shapeTasksRow.holds Try.pinned (OpenSpec.ofChange shapeTasksWrong)

/-- 'dominolaw17.ShapePublic': WHATEVER THE INPUT: true; the input reads as it did. -/
def shapePublicSpec : ChangeSpec := { name := "shapePublic", fn := fun _ => fun
  | [d1, d2] => { results := [.lit (.bool true)], args := [d1, d2] }
  | _ => none }
def shapePublicRow : OpenClaim := { program := "ytldkjjnjdjfipaa", sum := "e88864d0f0288857196dd3dbc8fb10e66f6693826ae69caffd9b6d977642c877", func := "domino/dominolaw17.ShapePublic", spec := "shapePublic", unfollowed := true, recurses := true, plainKeys := false, apart := false }
def ShapePublicSaid : Prop := shapePublicRow.holds Try.pinned (OpenSpec.ofChange shapePublicSpec)

/-- ITS FALSE NEIGHBOUR: 'it returns false'. Refute it at one input. -/
def shapePublicWrong : ChangeSpec := { name := "shapePublic", fn := fun _ => fun
  | [d1, d2] => { results := [.lit (.bool false)], args := [d1, d2] }
  | _ => none }
def ShapePublicWrongFalsely : Prop := shapePublicRow.holds Try.pinned (OpenSpec.ofChange shapePublicWrong)

/-- 'dominolaw19.WireOrder': WHATEVER THE INPUT: true; the input reads as it did. -/
def wireOrderSpec : ChangeSpec := { name := "wireOrder", fn := fun _ => fun
  | [d1, d2] => { results := [.lit (.bool true)], args := [d1, d2] }
  | _ => none }
def wireOrderRow : OpenClaim := { program := "ytldkjjnjdjfipaa", sum := "e88864d0f0288857196dd3dbc8fb10e66f6693826ae69caffd9b6d977642c877", func := "domino/dominolaw19.WireOrder", spec := "wireOrder", unfollowed := true, recurses := true, plainKeys := false, apart := false }
def WireOrderSaid : Prop := wireOrderRow.holds Try.pinned (OpenSpec.ofChange wireOrderSpec)

/-- ITS FALSE NEIGHBOUR: 'it returns false'. Refute it at one input. -/
def wireOrderWrong : ChangeSpec := { name := "wireOrder", fn := fun _ => fun
  | [d1, d2] => { results := [.lit (.bool false)], args := [d1, d2] }
  | _ => none }
def WireOrderWrongFalsely : Prop := wireOrderRow.holds Try.pinned (OpenSpec.ofChange wireOrderWrong)

/-- 'dominolaw19.WireCounts': WHATEVER THE INPUT: true; the input reads as it did. -/
def wireCountsSpec : ChangeSpec := { name := "wireCounts", fn := fun _ => fun
  | [d] => { results := [.lit (.bool true)], args := [d] }
  | _ => none }
def wireCountsRow : OpenClaim := { program := "ytldkjjnjdjfipaa", sum := "e88864d0f0288857196dd3dbc8fb10e66f6693826ae69caffd9b6d977642c877", func := "domino/dominolaw19.WireCounts", spec := "wireCounts", unfollowed := true, recurses := true, plainKeys := false, apart := false }
def WireCountsSaid : Prop := wireCountsRow.holds Try.pinned (OpenSpec.ofChange wireCountsSpec)

/-- ITS FALSE NEIGHBOUR: 'it returns false'. Refute it at one input. -/
def wireCountsWrong : ChangeSpec := { name := "wireCounts", fn := fun _ => fun
  | [d] => { results := [.lit (.bool false)], args := [d] }
  | _ => none }
def WireCountsWrongFalsely : Prop := wireCountsRow.holds Try.pinned (OpenSpec.ofChange wireCountsWrong)

/-- 'dominolaw19.WirePlays': WHATEVER THE INPUT: true; the input reads as it did. -/
def wirePlaysSpec : ChangeSpec := { name := "wirePlays", fn := fun _ => fun
  | [d] => { results := [.lit (.bool true)], args := [d] }
  | _ => none }
def wirePlaysRow : OpenClaim := { program := "ytldkjjnjdjfipaa", sum := "e88864d0f0288857196dd3dbc8fb10e66f6693826ae69caffd9b6d977642c877", func := "domino/dominolaw19.WirePlays", spec := "wirePlays", unfollowed := true, recurses := true, plainKeys := false, apart := false }
def WirePlaysSaid : Prop := wirePlaysRow.holds Try.pinned (OpenSpec.ofChange wirePlaysSpec)

/-- ITS FALSE NEIGHBOUR: 'it returns false'. Refute it at one input. -/
def wirePlaysWrong : ChangeSpec := { name := "wirePlays", fn := fun _ => fun
  | [d] => { results := [.lit (.bool false)], args := [d] }
  | _ => none }
def WirePlaysWrongFalsely : Prop := wirePlaysRow.holds Try.pinned (OpenSpec.ofChange wirePlaysWrong)

/-- 'dominolaw19.WireNil': WHATEVER THE INPUT: true; the input reads as it did. -/
def wireNilSpec : ChangeSpec := { name := "wireNil", fn := fun _ => fun
  | [d1, d2] => { results := [.lit (.bool true)], args := [d1, d2] }
  | _ => none }
def wireNilRow : OpenClaim := { program := "ytldkjjnjdjfipaa", sum := "e88864d0f0288857196dd3dbc8fb10e66f6693826ae69caffd9b6d977642c877", func := "domino/dominolaw19.WireNil", spec := "wireNil", unfollowed := true, recurses := true, plainKeys := false, apart := false }
def WireNilSaid : Prop := wireNilRow.holds Try.pinned (OpenSpec.ofChange wireNilSpec)

/-- ITS FALSE NEIGHBOUR: 'it returns false'. Refute it at one input. -/
def wireNilWrong : ChangeSpec := { name := "wireNil", fn := fun _ => fun
  | [d1, d2] => { results := [.lit (.bool false)], args := [d1, d2] }
  | _ => none }
def WireNilWrongFalsely : Prop := wireNilRow.holds Try.pinned (OpenSpec.ofChange wireNilWrong)

/-- 'dominolaw17.ShapeSpots': WHATEVER THE INPUT: true; the input reads as it did. -/
def shapeSpotsSpec : ChangeSpec := { name := "shapeSpots", fn := fun _ => fun
  | [d1, d2, d3, d4] => { results := [.lit (.bool true)], args := [d1, d2, d3, d4] }
  | _ => none }
def shapeSpotsRow : OpenClaim := { program := "ytldkjjnjdjfipaa", sum := "e88864d0f0288857196dd3dbc8fb10e66f6693826ae69caffd9b6d977642c877", func := "domino/dominolaw17.ShapeSpots", spec := "shapeSpots", unfollowed := true, recurses := true, plainKeys := false, apart := false }
def ShapeSpotsSaid : Prop := shapeSpotsRow.holds Try.pinned (OpenSpec.ofChange shapeSpotsSpec)

/-- ITS FALSE NEIGHBOUR: 'it returns false'. Refute it at one input. -/
def shapeSpotsWrong : ChangeSpec := { name := "shapeSpots", fn := fun _ => fun
  | [d1, d2, d3, d4] => { results := [.lit (.bool false)], args := [d1, d2, d3, d4] }
  | _ => none }
def ShapeSpotsWrongFalsely : Prop := shapeSpotsRow.holds Try.pinned (OpenSpec.ofChange shapeSpotsWrong)

/-- 'dominolaw17.ShapeOrder': WHATEVER THE INPUT: true; the input reads as it did. -/
def shapeOrderSpec : ChangeSpec := { name := "shapeOrder", fn := fun _ => fun
  | [d] => { results := [.lit (.bool true)], args := [d] }
  | _ => none }
def shapeOrderRow : OpenClaim := { program := "ytldkjjnjdjfipaa", sum := "e88864d0f0288857196dd3dbc8fb10e66f6693826ae69caffd9b6d977642c877", func := "domino/dominolaw17.ShapeOrder", spec := "shapeOrder", plainKeys := false, apart := false }
def ShapeOrderSaid : Prop := shapeOrderRow.holds Try.pinned (OpenSpec.ofChange shapeOrderSpec)

/-- ITS FALSE NEIGHBOUR: 'it returns false'. Refute it at one input. -/
def shapeOrderWrong : ChangeSpec := { name := "shapeOrder", fn := fun _ => fun
  | [d] => { results := [.lit (.bool false)], args := [d] }
  | _ => none }
def ShapeOrderWrongFalsely : Prop := shapeOrderRow.holds Try.pinned (OpenSpec.ofChange shapeOrderWrong)

/-- 'dominolaw16.PipeShape': WHATEVER THE INPUT: true; the input reads as it did. -/
def pipeShapeSpec : ChangeSpec := { name := "pipeShape", fn := fun _ => fun
  | [d1, d2] => { results := [.lit (.bool true)], args := [d1, d2] }
  | _ => none }
def pipeShapeRow : OpenClaim := { program := "ytldkjjnjdjfipaa", sum := "e88864d0f0288857196dd3dbc8fb10e66f6693826ae69caffd9b6d977642c877", func := "domino/dominolaw16.PipeShape", spec := "pipeShape", unfollowed := true, recurses := true, plainKeys := false, apart := false }
def PipeShapeSaid : Prop := pipeShapeRow.holds Try.pinned (OpenSpec.ofChange pipeShapeSpec)

/-- ITS FALSE NEIGHBOUR: 'it returns false'. Refute it at one input. -/
def pipeShapeWrong : ChangeSpec := { name := "pipeShape", fn := fun _ => fun
  | [d1, d2] => { results := [.lit (.bool false)], args := [d1, d2] }
  | _ => none }
def PipeShapeWrongFalsely : Prop := pipeShapeRow.holds Try.pinned (OpenSpec.ofChange pipeShapeWrong)

/-- 'dominolaw16.PipeSpec': WHATEVER THE INPUT: true; the input reads as it did. -/
def pipeSpecSpec : ChangeSpec := { name := "pipeSpec", fn := fun _ => fun
  | [d] => { results := [.lit (.bool true)], args := [d] }
  | _ => none }
def pipeSpecRow : OpenClaim := { program := "ytldkjjnjdjfipaa", sum := "e88864d0f0288857196dd3dbc8fb10e66f6693826ae69caffd9b6d977642c877", func := "domino/dominolaw16.PipeSpec", spec := "pipeSpec", unfollowed := true, recurses := true, plainKeys := false, apart := false }
def PipeSpecSaid : Prop := pipeSpecRow.holds Try.pinned (OpenSpec.ofChange pipeSpecSpec)

/-- ITS FALSE NEIGHBOUR: 'it returns false'. Refute it at one input. -/
def pipeSpecWrong : ChangeSpec := { name := "pipeSpec", fn := fun _ => fun
  | [d] => { results := [.lit (.bool false)], args := [d] }
  | _ => none }
def PipeSpecWrongFalsely : Prop := pipeSpecRow.holds Try.pinned (OpenSpec.ofChange pipeSpecWrong)

/-- 'dominolaw16.PipeOrder': WHATEVER THE INPUT: true; the input reads as it did. -/
def pipeOrderSpec : ChangeSpec := { name := "pipeOrder", fn := fun _ => fun
  | [d1, d2, d3] => { results := [.lit (.bool true)], args := [d1, d2, d3] }
  | _ => none }
def pipeOrderRow : OpenClaim := { program := "ytldkjjnjdjfipaa", sum := "e88864d0f0288857196dd3dbc8fb10e66f6693826ae69caffd9b6d977642c877", func := "domino/dominolaw16.PipeOrder", spec := "pipeOrder", unfollowed := true, recurses := true, plainKeys := false, apart := false }
def PipeOrderSaid : Prop := pipeOrderRow.holds Try.pinned (OpenSpec.ofChange pipeOrderSpec)

/-- ITS FALSE NEIGHBOUR: 'it returns false'. Refute it at one input. -/
def pipeOrderWrong : ChangeSpec := { name := "pipeOrder", fn := fun _ => fun
  | [d1, d2, d3] => { results := [.lit (.bool false)], args := [d1, d2, d3] }
  | _ => none }
def PipeOrderWrongFalsely : Prop := pipeOrderRow.holds Try.pinned (OpenSpec.ofChange pipeOrderWrong)

/-- 'dominolaw16.PipeSizes': WHATEVER THE INPUT: true; the input reads as it did. -/
def pipeSizesSpec : ChangeSpec := { name := "pipeSizes", fn := fun _ => fun
  | [d1, d2] => { results := [.lit (.bool true)], args := [d1, d2] }
  | _ => none }
def pipeSizesRow : OpenClaim := { program := "ytldkjjnjdjfipaa", sum := "e88864d0f0288857196dd3dbc8fb10e66f6693826ae69caffd9b6d977642c877", func := "domino/dominolaw16.PipeSizes", spec := "pipeSizes", unfollowed := true, recurses := true, plainKeys := false, apart := false }
def PipeSizesSaid : Prop := pipeSizesRow.holds Try.pinned (OpenSpec.ofChange pipeSizesSpec)

/-- ITS FALSE NEIGHBOUR: 'it returns false'. Refute it at one input. -/
def pipeSizesWrong : ChangeSpec := { name := "pipeSizes", fn := fun _ => fun
  | [d1, d2] => { results := [.lit (.bool false)], args := [d1, d2] }
  | _ => none }
def PipeSizesWrongFalsely : Prop := pipeSizesRow.holds Try.pinned (OpenSpec.ofChange pipeSizesWrong)

/-- 'dominolaw16.PipeNone': WHATEVER THE INPUT: true; the input reads as it did. -/
def pipeNoneSpec : ChangeSpec := { name := "pipeNone", fn := fun _ => fun
  | [d1, d2] => { results := [.lit (.bool true)], args := [d1, d2] }
  | _ => none }
def pipeNoneRow : OpenClaim := { program := "ytldkjjnjdjfipaa", sum := "e88864d0f0288857196dd3dbc8fb10e66f6693826ae69caffd9b6d977642c877", func := "domino/dominolaw16.PipeNone", spec := "pipeNone", unfollowed := true, recurses := true, plainKeys := false, apart := false }
def PipeNoneSaid : Prop := pipeNoneRow.holds Try.pinned (OpenSpec.ofChange pipeNoneSpec)

/-- ITS FALSE NEIGHBOUR: 'it returns false'. Refute it at one input. -/
def pipeNoneWrong : ChangeSpec := { name := "pipeNone", fn := fun _ => fun
  | [d1, d2] => { results := [.lit (.bool false)], args := [d1, d2] }
  | _ => none }
def PipeNoneWrongFalsely : Prop := pipeNoneRow.holds Try.pinned (OpenSpec.ofChange pipeNoneWrong)

/- THE SECOND FORM. 'bulk': how many values and letters a reading holds, each counted each time it is reached (what is shared counts as often as it is met; a slice's spare places count too). A statement '..UptoSaid' is the law's where the arguments, and the package variables that the reading takes, are together of bulk at most 1048576: NARROWER than '..Said'. Prove '..Said' where nothing that the law and all that it calls make is longer than what came in: it says more and counts as full. Else prove '..UptoSaid'. A law counts once. -/
mutual
def uptoBulk {H : Type} : DataW H → Nat
  | .lit (.string bytes) => bytes.length + 1
  | .lit _ => 1
  | .nil => 1
  | .ptr d => uptoBulk d + 1
  | .slice elems spare => uptoBulkAll elems + uptoBulkAll spare + 1
  | .agg parts => uptoBulkAll parts + 1
  | .iface _ d => uptoBulk d + 1
  | .map entries => uptoBulkEntries entries + 1
  | .held _ => 1
def uptoBulkAll {H : Type} : List (DataW H) → Nat
  | [] => 0
  | d :: r => uptoBulk d + uptoBulkAll r
def uptoBulkEntries {H : Type} : List (Lit × DataW H) → Nat
  | [] => 0
  | x :: r => uptoBulkEntry x + uptoBulkEntries r
def uptoBulkEntry {H : Type} : Lit × DataW H → Nat
  | (.string bytes, d) => bytes.length + uptoBulk d + 1
  | (_, d) => uptoBulk d + 1
 end
def uptoSmall : (H : Type) → List (DataW H) → Bool := fun _ ds => decide (uptoBulkAll ds ≤ 1048576)
def OpenSpec.upto (s : _root_.Go.ChangeSpec) : _root_.Go.OpenSpec := { _root_.Go.OpenSpec.ofChange s with cond := some uptoSmall }

/-- 'dominolaw09.RecordTotal', WHERE WHAT IT READS IS OF BULK AT MOST 1048576: true; the input reads as it did. -/
def recordTotalUptoRow : OpenClaim := { program := "ytldkjjnjdjfipaa", sum := "e88864d0f0288857196dd3dbc8fb10e66f6693826ae69caffd9b6d977642c877", func := "domino/dominolaw09.RecordTotal", spec := "recordTotal", plainKeys := false, apart := false, narrowed := true }
def RecordTotalUptoSaid : Prop := recordTotalUptoRow.holds Try.pinned (OpenSpec.upto recordTotalSpec)

/-- 'dominolaw09.RecordOrder', WHERE WHAT IT READS IS OF BULK AT MOST 1048576: true; the input reads as it did. -/
def recordOrderUptoRow : OpenClaim := { program := "ytldkjjnjdjfipaa", sum := "e88864d0f0288857196dd3dbc8fb10e66f6693826ae69caffd9b6d977642c877", func := "domino/dominolaw09.RecordOrder", spec := "recordOrder", unfollowed := true, recurses := true, plainKeys := false, apart := false, narrowed := true }
def RecordOrderUptoSaid : Prop := recordOrderUptoRow.holds Try.pinned (OpenSpec.upto recordOrderSpec)

/-- 'dominolaw09.RecordDead', WHERE WHAT IT READS IS OF BULK AT MOST 1048576: true; the input reads as it did. -/
def recordDeadUptoRow : OpenClaim := { program := "ytldkjjnjdjfipaa", sum := "e88864d0f0288857196dd3dbc8fb10e66f6693826ae69caffd9b6d977642c877", func := "domino/dominolaw09.RecordDead", spec := "recordDead", unfollowed := true, recurses := true, plainKeys := false, apart := false, narrowed := true }
def RecordDeadUptoSaid : Prop := recordDeadUptoRow.holds Try.pinned (OpenSpec.upto recordDeadSpec)

/-- 'dominolaw13.BitonicPadded', WHERE WHAT IT READS IS OF BULK AT MOST 1048576: true; the input reads as it did. -/
def bitonicPaddedUptoRow : OpenClaim := { program := "ytldkjjnjdjfipaa", sum := "e88864d0f0288857196dd3dbc8fb10e66f6693826ae69caffd9b6d977642c877", func := "domino/dominolaw13.BitonicPadded", spec := "bitonicPadded", plainKeys := false, apart := false, narrowed := true }
def BitonicPaddedUptoSaid : Prop := bitonicPaddedUptoRow.holds Try.pinned (OpenSpec.upto bitonicPaddedSpec)

/-- 'dominolaw13.BitonicRounds', WHERE WHAT IT READS IS OF BULK AT MOST 1048576: true; the input reads as it did. -/
def bitonicRoundsUptoRow : OpenClaim := { program := "ytldkjjnjdjfipaa", sum := "e88864d0f0288857196dd3dbc8fb10e66f6693826ae69caffd9b6d977642c877", func := "domino/dominolaw13.BitonicRounds", spec := "bitonicRounds", unfollowed := true, recurses := true, plainKeys := false, apart := false, narrowed := true }
def BitonicRoundsUptoSaid : Prop := bitonicRoundsUptoRow.holds Try.pinned (OpenSpec.upto bitonicRoundsSpec)

/-- 'dominolaw13.BitonicSorts', WHERE WHAT IT READS IS OF BULK AT MOST 1048576: true; the input reads as it did. -/
def bitonicSortsUptoRow : OpenClaim := { program := "ytldkjjnjdjfipaa", sum := "e88864d0f0288857196dd3dbc8fb10e66f6693826ae69caffd9b6d977642c877", func := "domino/dominolaw13.BitonicSorts", spec := "bitonicSorts", unfollowed := true, recurses := true, plainKeys := false, apart := false, narrowed := true }
def BitonicSortsUptoSaid : Prop := bitonicSortsUptoRow.holds Try.pinned (OpenSpec.upto bitonicSortsSpec)

/-- 'dominolaw13.BitonicOnce', WHERE WHAT IT READS IS OF BULK AT MOST 1048576: true; the input reads as it did. -/
def bitonicOnceUptoRow : OpenClaim := { program := "ytldkjjnjdjfipaa", sum := "e88864d0f0288857196dd3dbc8fb10e66f6693826ae69caffd9b6d977642c877", func := "domino/dominolaw13.BitonicOnce", spec := "bitonicOnce", unfollowed := true, recurses := true, plainKeys := false, apart := false, narrowed := true }
def BitonicOnceUptoSaid : Prop := bitonicOnceUptoRow.holds Try.pinned (OpenSpec.upto bitonicOnceSpec)

/-- 'dominolaw13.BitonicWays', WHERE WHAT IT READS IS OF BULK AT MOST 1048576: true; the input reads as it did. -/
def bitonicWaysUptoRow : OpenClaim := { program := "ytldkjjnjdjfipaa", sum := "e88864d0f0288857196dd3dbc8fb10e66f6693826ae69caffd9b6d977642c877", func := "domino/dominolaw13.BitonicWays", spec := "bitonicWays", unfollowed := true, recurses := true, plainKeys := false, apart := false, narrowed := true }
def BitonicWaysUptoSaid : Prop := bitonicWaysUptoRow.holds Try.pinned (OpenSpec.upto bitonicWaysSpec)

/-- 'dominolaw17.ShapeCounts', WHERE WHAT IT READS IS OF BULK AT MOST 1048576: true; the input reads as it did. -/
def shapeCountsUptoRow : OpenClaim := { program := "ytldkjjnjdjfipaa", sum := "e88864d0f0288857196dd3dbc8fb10e66f6693826ae69caffd9b6d977642c877", func := "domino/dominolaw17.ShapeCounts", spec := "shapeCounts", plainKeys := false, apart := false, narrowed := true }
def ShapeCountsUptoSaid : Prop := shapeCountsUptoRow.holds Try.pinned (OpenSpec.upto shapeCountsSpec)

/-- 'dominolaw09.RecordPacks', WHERE WHAT IT READS IS OF BULK AT MOST 1048576: true; the input reads as it did. -/
def recordPacksUptoRow : OpenClaim := { program := "ytldkjjnjdjfipaa", sum := "e88864d0f0288857196dd3dbc8fb10e66f6693826ae69caffd9b6d977642c877", func := "domino/dominolaw09.RecordPacks", spec := "recordPacks", unfollowed := true, recurses := true, plainKeys := false, apart := false, narrowed := true }
def RecordPacksUptoSaid : Prop := recordPacksUptoRow.holds Try.pinned (OpenSpec.upto recordPacksSpec)

/-- 'dominolaw09.RecordBack', WHERE WHAT IT READS IS OF BULK AT MOST 1048576: true; the input reads as it did. -/
def recordBackUptoRow : OpenClaim := { program := "ytldkjjnjdjfipaa", sum := "e88864d0f0288857196dd3dbc8fb10e66f6693826ae69caffd9b6d977642c877", func := "domino/dominolaw09.RecordBack", spec := "recordBack", unfollowed := true, recurses := true, plainKeys := false, apart := false, narrowed := true }
def RecordBackUptoSaid : Prop := recordBackUptoRow.holds Try.pinned (OpenSpec.upto recordBackSpec)

/-- 'dominolaw14.MergeHalves', WHERE WHAT IT READS IS OF BULK AT MOST 1048576: true; the input reads as it did. -/
def mergeHalvesUptoRow : OpenClaim := { program := "ytldkjjnjdjfipaa", sum := "e88864d0f0288857196dd3dbc8fb10e66f6693826ae69caffd9b6d977642c877", func := "domino/dominolaw14.MergeHalves", spec := "mergeHalves", unfollowed := true, recurses := true, plainKeys := false, apart := false, narrowed := true }
def MergeHalvesUptoSaid : Prop := mergeHalvesUptoRow.holds Try.pinned (OpenSpec.upto mergeHalvesSpec)

/-- 'dominolaw14.MergeStable', WHERE WHAT IT READS IS OF BULK AT MOST 1048576: true; the input reads as it did. -/
def mergeStableUptoRow : OpenClaim := { program := "ytldkjjnjdjfipaa", sum := "e88864d0f0288857196dd3dbc8fb10e66f6693826ae69caffd9b6d977642c877", func := "domino/dominolaw14.MergeStable", spec := "mergeStable", unfollowed := true, recurses := true, plainKeys := false, apart := false, narrowed := true }
def MergeStableUptoSaid : Prop := mergeStableUptoRow.holds Try.pinned (OpenSpec.upto mergeStableSpec)

/-- 'dominolaw14.MergeSorts', WHERE WHAT IT READS IS OF BULK AT MOST 1048576: true; the input reads as it did. -/
def mergeSortsUptoRow : OpenClaim := { program := "ytldkjjnjdjfipaa", sum := "e88864d0f0288857196dd3dbc8fb10e66f6693826ae69caffd9b6d977642c877", func := "domino/dominolaw14.MergeSorts", spec := "mergeSorts", unfollowed := true, recurses := true, plainKeys := false, apart := false, narrowed := true }
def MergeSortsUptoSaid : Prop := mergeSortsUptoRow.holds Try.pinned (OpenSpec.upto mergeSortsSpec)

/-- 'dominolaw14.MergeKeeps', WHERE WHAT IT READS IS OF BULK AT MOST 1048576: true; the input reads as it did. -/
def mergeKeepsUptoRow : OpenClaim := { program := "ytldkjjnjdjfipaa", sum := "e88864d0f0288857196dd3dbc8fb10e66f6693826ae69caffd9b6d977642c877", func := "domino/dominolaw14.MergeKeeps", spec := "mergeKeeps", unfollowed := true, recurses := true, plainKeys := false, apart := false, narrowed := true }
def MergeKeepsUptoSaid : Prop := mergeKeepsUptoRow.holds Try.pinned (OpenSpec.upto mergeKeepsSpec)

/-- 'dominolaw14.MergeNetwork', WHERE WHAT IT READS IS OF BULK AT MOST 1048576: true; the input reads as it did. -/
def mergeNetworkUptoRow : OpenClaim := { program := "ytldkjjnjdjfipaa", sum := "e88864d0f0288857196dd3dbc8fb10e66f6693826ae69caffd9b6d977642c877", func := "domino/dominolaw14.MergeNetwork", spec := "mergeNetwork", unfollowed := true, recurses := true, plainKeys := false, apart := false, narrowed := true }
def MergeNetworkUptoSaid : Prop := mergeNetworkUptoRow.holds Try.pinned (OpenSpec.upto mergeNetworkSpec)

/-- 'dominolaw11.VmSlots', WHERE WHAT IT READS IS OF BULK AT MOST 1048576: true; the input reads as it did. -/
def vmSlotsUptoRow : OpenClaim := { program := "ytldkjjnjdjfipaa", sum := "e88864d0f0288857196dd3dbc8fb10e66f6693826ae69caffd9b6d977642c877", func := "domino/dominolaw11.VmSlots", spec := "vmSlots", unfollowed := true, recurses := true, plainKeys := false, apart := false, narrowed := true }
def VmSlotsUptoSaid : Prop := vmSlotsUptoRow.holds Try.pinned (OpenSpec.upto vmSlotsSpec)

/-- 'dominolaw11.VmLines', WHERE WHAT IT READS IS OF BULK AT MOST 1048576: true; the input reads as it did. -/
def vmLinesUptoRow : OpenClaim := { program := "ytldkjjnjdjfipaa", sum := "e88864d0f0288857196dd3dbc8fb10e66f6693826ae69caffd9b6d977642c877", func := "domino/dominolaw11.VmLines", spec := "vmLines", unfollowed := true, recurses := true, plainKeys := false, apart := false, narrowed := true }
def VmLinesUptoSaid : Prop := vmLinesUptoRow.holds Try.pinned (OpenSpec.upto vmLinesSpec)

/-- 'dominolaw11.VmPure', WHERE WHAT IT READS IS OF BULK AT MOST 1048576: true; the input reads as it did. -/
def vmPureUptoRow : OpenClaim := { program := "ytldkjjnjdjfipaa", sum := "e88864d0f0288857196dd3dbc8fb10e66f6693826ae69caffd9b6d977642c877", func := "domino/dominolaw11.VmPure", spec := "vmPure", unfollowed := true, recurses := true, plainKeys := false, apart := false, narrowed := true }
def VmPureUptoSaid : Prop := vmPureUptoRow.holds Try.pinned (OpenSpec.upto vmPureSpec)

/-- 'dominolaw11.VmOps', WHERE WHAT IT READS IS OF BULK AT MOST 1048576: true; the input reads as it did. -/
def vmOpsUptoRow : OpenClaim := { program := "ytldkjjnjdjfipaa", sum := "e88864d0f0288857196dd3dbc8fb10e66f6693826ae69caffd9b6d977642c877", func := "domino/dominolaw11.VmOps", spec := "vmOps", unfollowed := true, recurses := true, plainKeys := false, apart := false, narrowed := true }
def VmOpsUptoSaid : Prop := vmOpsUptoRow.holds Try.pinned (OpenSpec.upto vmOpsSpec)

/-- 'dominolaw11.VmBad', WHERE WHAT IT READS IS OF BULK AT MOST 1048576: true; the input reads as it did. -/
def vmBadUptoRow : OpenClaim := { program := "ytldkjjnjdjfipaa", sum := "e88864d0f0288857196dd3dbc8fb10e66f6693826ae69caffd9b6d977642c877", func := "domino/dominolaw11.VmBad", spec := "vmBad", unfollowed := true, recurses := true, plainKeys := false, apart := false, narrowed := true }
def VmBadUptoSaid : Prop := vmBadUptoRow.holds Try.pinned (OpenSpec.upto vmBadSpec)

/-- 'dominolaw15.ChainSteps', WHERE WHAT IT READS IS OF BULK AT MOST 1048576: true; the input reads as it did. -/
def chainStepsUptoRow : OpenClaim := { program := "ytldkjjnjdjfipaa", sum := "e88864d0f0288857196dd3dbc8fb10e66f6693826ae69caffd9b6d977642c877", func := "domino/dominolaw15.ChainSteps", spec := "chainSteps", unfollowed := true, recurses := true, plainKeys := false, apart := false, narrowed := true }
def ChainStepsUptoSaid : Prop := chainStepsUptoRow.holds Try.pinned (OpenSpec.upto chainStepsSpec)

/-- 'dominolaw15.ChainCuts', WHERE WHAT IT READS IS OF BULK AT MOST 1048576: true; the input reads as it did. -/
def chainCutsUptoRow : OpenClaim := { program := "ytldkjjnjdjfipaa", sum := "e88864d0f0288857196dd3dbc8fb10e66f6693826ae69caffd9b6d977642c877", func := "domino/dominolaw15.ChainCuts", spec := "chainCuts", unfollowed := true, recurses := true, plainKeys := false, apart := false, narrowed := true }
def ChainCutsUptoSaid : Prop := chainCutsUptoRow.holds Try.pinned (OpenSpec.upto chainCutsSpec)

/-- 'dominolaw15.ChainSums', WHERE WHAT IT READS IS OF BULK AT MOST 1048576: true; the input reads as it did. -/
def chainSumsUptoRow : OpenClaim := { program := "ytldkjjnjdjfipaa", sum := "e88864d0f0288857196dd3dbc8fb10e66f6693826ae69caffd9b6d977642c877", func := "domino/dominolaw15.ChainSums", spec := "chainSums", unfollowed := true, recurses := true, plainKeys := false, apart := false, narrowed := true }
def ChainSumsUptoSaid : Prop := chainSumsUptoRow.holds Try.pinned (OpenSpec.upto chainSumsSpec)

/-- 'dominolaw15.ChainPlaces', WHERE WHAT IT READS IS OF BULK AT MOST 1048576: true; the input reads as it did. -/
def chainPlacesUptoRow : OpenClaim := { program := "ytldkjjnjdjfipaa", sum := "e88864d0f0288857196dd3dbc8fb10e66f6693826ae69caffd9b6d977642c877", func := "domino/dominolaw15.ChainPlaces", spec := "chainPlaces", unfollowed := true, recurses := true, plainKeys := false, apart := false, narrowed := true }
def ChainPlacesUptoSaid : Prop := chainPlacesUptoRow.holds Try.pinned (OpenSpec.upto chainPlacesSpec)

/-- 'dominolaw15.ChainOne', WHERE WHAT IT READS IS OF BULK AT MOST 1048576: true; the input reads as it did. -/
def chainOneUptoRow : OpenClaim := { program := "ytldkjjnjdjfipaa", sum := "e88864d0f0288857196dd3dbc8fb10e66f6693826ae69caffd9b6d977642c877", func := "domino/dominolaw15.ChainOne", spec := "chainOne", unfollowed := true, recurses := true, plainKeys := false, apart := false, narrowed := true }
def ChainOneUptoSaid : Prop := chainOneUptoRow.holds Try.pinned (OpenSpec.upto chainOneSpec)

/-- 'dominolaw17.ShapeTasks', WHERE WHAT IT READS IS OF BULK AT MOST 1048576: true; the input reads as it did. -/
def shapeTasksUptoRow : OpenClaim := { program := "ytldkjjnjdjfipaa", sum := "e88864d0f0288857196dd3dbc8fb10e66f6693826ae69caffd9b6d977642c877", func := "domino/dominolaw17.ShapeTasks", spec := "shapeTasks", unfollowed := true, recurses := true, plainKeys := false, apart := false, narrowed := true }
def ShapeTasksUptoSaid : Prop := shapeTasksUptoRow.holds Try.pinned (OpenSpec.upto shapeTasksSpec)

/-- 'dominolaw17.ShapePublic', WHERE WHAT IT READS IS OF BULK AT MOST 1048576: true; the input reads as it did. -/
def shapePublicUptoRow : OpenClaim := { program := "ytldkjjnjdjfipaa", sum := "e88864d0f0288857196dd3dbc8fb10e66f6693826ae69caffd9b6d977642c877", func := "domino/dominolaw17.ShapePublic", spec := "shapePublic", unfollowed := true, recurses := true, plainKeys := false, apart := false, narrowed := true }
def ShapePublicUptoSaid : Prop := shapePublicUptoRow.holds Try.pinned (OpenSpec.upto shapePublicSpec)

/-- 'dominolaw19.WireOrder', WHERE WHAT IT READS IS OF BULK AT MOST 1048576: true; the input reads as it did. -/
def wireOrderUptoRow : OpenClaim := { program := "ytldkjjnjdjfipaa", sum := "e88864d0f0288857196dd3dbc8fb10e66f6693826ae69caffd9b6d977642c877", func := "domino/dominolaw19.WireOrder", spec := "wireOrder", unfollowed := true, recurses := true, plainKeys := false, apart := false, narrowed := true }
def WireOrderUptoSaid : Prop := wireOrderUptoRow.holds Try.pinned (OpenSpec.upto wireOrderSpec)

/-- 'dominolaw19.WireCounts', WHERE WHAT IT READS IS OF BULK AT MOST 1048576: true; the input reads as it did. -/
def wireCountsUptoRow : OpenClaim := { program := "ytldkjjnjdjfipaa", sum := "e88864d0f0288857196dd3dbc8fb10e66f6693826ae69caffd9b6d977642c877", func := "domino/dominolaw19.WireCounts", spec := "wireCounts", unfollowed := true, recurses := true, plainKeys := false, apart := false, narrowed := true }
def WireCountsUptoSaid : Prop := wireCountsUptoRow.holds Try.pinned (OpenSpec.upto wireCountsSpec)

/-- 'dominolaw19.WirePlays', WHERE WHAT IT READS IS OF BULK AT MOST 1048576: true; the input reads as it did. -/
def wirePlaysUptoRow : OpenClaim := { program := "ytldkjjnjdjfipaa", sum := "e88864d0f0288857196dd3dbc8fb10e66f6693826ae69caffd9b6d977642c877", func := "domino/dominolaw19.WirePlays", spec := "wirePlays", unfollowed := true, recurses := true, plainKeys := false, apart := false, narrowed := true }
def WirePlaysUptoSaid : Prop := wirePlaysUptoRow.holds Try.pinned (OpenSpec.upto wirePlaysSpec)

/-- 'dominolaw19.WireNil', WHERE WHAT IT READS IS OF BULK AT MOST 1048576: true; the input reads as it did. -/
def wireNilUptoRow : OpenClaim := { program := "ytldkjjnjdjfipaa", sum := "e88864d0f0288857196dd3dbc8fb10e66f6693826ae69caffd9b6d977642c877", func := "domino/dominolaw19.WireNil", spec := "wireNil", unfollowed := true, recurses := true, plainKeys := false, apart := false, narrowed := true }
def WireNilUptoSaid : Prop := wireNilUptoRow.holds Try.pinned (OpenSpec.upto wireNilSpec)

/-- 'dominolaw17.ShapeSpots', WHERE WHAT IT READS IS OF BULK AT MOST 1048576: true; the input reads as it did. -/
def shapeSpotsUptoRow : OpenClaim := { program := "ytldkjjnjdjfipaa", sum := "e88864d0f0288857196dd3dbc8fb10e66f6693826ae69caffd9b6d977642c877", func := "domino/dominolaw17.ShapeSpots", spec := "shapeSpots", unfollowed := true, recurses := true, plainKeys := false, apart := false, narrowed := true }
def ShapeSpotsUptoSaid : Prop := shapeSpotsUptoRow.holds Try.pinned (OpenSpec.upto shapeSpotsSpec)

/-- 'dominolaw17.ShapeOrder', WHERE WHAT IT READS IS OF BULK AT MOST 1048576: true; the input reads as it did. -/
def shapeOrderUptoRow : OpenClaim := { program := "ytldkjjnjdjfipaa", sum := "e88864d0f0288857196dd3dbc8fb10e66f6693826ae69caffd9b6d977642c877", func := "domino/dominolaw17.ShapeOrder", spec := "shapeOrder", plainKeys := false, apart := false, narrowed := true }
def ShapeOrderUptoSaid : Prop := shapeOrderUptoRow.holds Try.pinned (OpenSpec.upto shapeOrderSpec)

/-- 'dominolaw16.PipeShape', WHERE WHAT IT READS IS OF BULK AT MOST 1048576: true; the input reads as it did. -/
def pipeShapeUptoRow : OpenClaim := { program := "ytldkjjnjdjfipaa", sum := "e88864d0f0288857196dd3dbc8fb10e66f6693826ae69caffd9b6d977642c877", func := "domino/dominolaw16.PipeShape", spec := "pipeShape", unfollowed := true, recurses := true, plainKeys := false, apart := false, narrowed := true }
def PipeShapeUptoSaid : Prop := pipeShapeUptoRow.holds Try.pinned (OpenSpec.upto pipeShapeSpec)

/-- 'dominolaw16.PipeSpec', WHERE WHAT IT READS IS OF BULK AT MOST 1048576: true; the input reads as it did. -/
def pipeSpecUptoRow : OpenClaim := { program := "ytldkjjnjdjfipaa", sum := "e88864d0f0288857196dd3dbc8fb10e66f6693826ae69caffd9b6d977642c877", func := "domino/dominolaw16.PipeSpec", spec := "pipeSpec", unfollowed := true, recurses := true, plainKeys := false, apart := false, narrowed := true }
def PipeSpecUptoSaid : Prop := pipeSpecUptoRow.holds Try.pinned (OpenSpec.upto pipeSpecSpec)

/-- 'dominolaw16.PipeOrder', WHERE WHAT IT READS IS OF BULK AT MOST 1048576: true; the input reads as it did. -/
def pipeOrderUptoRow : OpenClaim := { program := "ytldkjjnjdjfipaa", sum := "e88864d0f0288857196dd3dbc8fb10e66f6693826ae69caffd9b6d977642c877", func := "domino/dominolaw16.PipeOrder", spec := "pipeOrder", unfollowed := true, recurses := true, plainKeys := false, apart := false, narrowed := true }
def PipeOrderUptoSaid : Prop := pipeOrderUptoRow.holds Try.pinned (OpenSpec.upto pipeOrderSpec)

/-- 'dominolaw16.PipeSizes', WHERE WHAT IT READS IS OF BULK AT MOST 1048576: true; the input reads as it did. -/
def pipeSizesUptoRow : OpenClaim := { program := "ytldkjjnjdjfipaa", sum := "e88864d0f0288857196dd3dbc8fb10e66f6693826ae69caffd9b6d977642c877", func := "domino/dominolaw16.PipeSizes", spec := "pipeSizes", unfollowed := true, recurses := true, plainKeys := false, apart := false, narrowed := true }
def PipeSizesUptoSaid : Prop := pipeSizesUptoRow.holds Try.pinned (OpenSpec.upto pipeSizesSpec)

/-- 'dominolaw16.PipeNone', WHERE WHAT IT READS IS OF BULK AT MOST 1048576: true; the input reads as it did. -/
def pipeNoneUptoRow : OpenClaim := { program := "ytldkjjnjdjfipaa", sum := "e88864d0f0288857196dd3dbc8fb10e66f6693826ae69caffd9b6d977642c877", func := "domino/dominolaw16.PipeNone", spec := "pipeNone", unfollowed := true, recurses := true, plainKeys := false, apart := false, narrowed := true }
def PipeNoneUptoSaid : Prop := pipeNoneUptoRow.holds Try.pinned (OpenSpec.upto pipeNoneSpec)

end Rows
end Go.Proofs.Ytldkjjnjdjfipaa
