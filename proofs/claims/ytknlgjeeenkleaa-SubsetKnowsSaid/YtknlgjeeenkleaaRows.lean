/-
  No cell of these rows narrows 'for every input' (looked for: loops, veiled, ifaces, maps, wideKeys, modest, calm, conditions, laid).
  DERIVED. THE GIVEN ROWS OF THIS SEAT. 22 by the template 'for every input the law returns true; each argument reads behind the call as it read before'; 0 by the template 'total and deterministic' (their statements: YtknlgjeeenkleaaTotals.lean).
  GIVEN WITH THE SEED: the statements are not yours to turn. If you find one false, say at which input.
  Laid BY PROGRAM, IN A SANDBOX (cutbox-rows.mjs): the forced cells as the released guide's own fill.sh prints them over the translation 9da71aa3fd76f907… (all of the seat's roots in one cut). By AI agents, Wed Nov 11 2026. No macro, syntax, notation, axiom, sorry.
-/
import Derived.Test.YtknlgjeeenkleaaChecked
import GoSem.Claim
import GoSem.ClaimJoined
import GoSem.ClaimMapViews
import Derived.JoinedTies
import Derived.KernelRfl
namespace Go.Proofs.Ytknlgjeeenkleaa
/- THE CELL 'sum', in the pinned program and in every row, IS THE sha256 OF THE DUMP (.gsa) THAT YtknlgjeeenkleaaProg.lean LOADS. Nothing in Lean hashes anything: it is a label: what it is worth is what the hold of that sum in a sandbox is worth. -/
noncomputable def Try.pinned : Pinned := { name := "ytknlgjeeenkleaa", sum := "9da71aa3fd76f907f879f3de7bde121b50ed241f1b5cb3ee82d41b0a6e77a614", checked := Try.checked }
namespace Rows
def none {H : Type} : Left H := { results := [], args := [] }

/-- 'breakwaterlaw30.BoundsPuts': WHATEVER THE INPUT: true; the input reads as it did. -/
def boundsPutsSpec : ChangeSpec := { name := "boundsPuts", fn := fun _ => fun
  | [d] => { results := [.lit (.bool true)], args := [d] }
  | _ => none }
def boundsPutsRow : OpenClaim := { program := "ytknlgjeeenkleaa", sum := "9da71aa3fd76f907f879f3de7bde121b50ed241f1b5cb3ee82d41b0a6e77a614", func := "breakwater/breakwaterlaw30.BoundsPuts", spec := "boundsPuts", apart := false }
def BoundsPutsSaid : Prop := boundsPutsRow.holds Try.pinned (OpenSpec.ofChange boundsPutsSpec)

/-- ITS FALSE NEIGHBOUR: 'it returns false'. Refute it at one input. -/
def boundsPutsWrong : ChangeSpec := { name := "boundsPuts", fn := fun _ => fun
  | [d] => { results := [.lit (.bool false)], args := [d] }
  | _ => none }
def BoundsPutsWrongFalsely : Prop := boundsPutsRow.holds Try.pinned (OpenSpec.ofChange boundsPutsWrong)

/-- 'breakwaterlaw30.BoundsReads': WHATEVER THE INPUT: true; the input reads as it did. -/
def boundsReadsSpec : ChangeSpec := { name := "boundsReads", fn := fun _ => fun
  | [d] => { results := [.lit (.bool true)], args := [d] }
  | _ => none }
def boundsReadsRow : OpenClaim := { program := "ytknlgjeeenkleaa", sum := "9da71aa3fd76f907f879f3de7bde121b50ed241f1b5cb3ee82d41b0a6e77a614", func := "breakwater/breakwaterlaw30.BoundsReads", spec := "boundsReads", apart := false }
def BoundsReadsSaid : Prop := boundsReadsRow.holds Try.pinned (OpenSpec.ofChange boundsReadsSpec)

/-- ITS FALSE NEIGHBOUR: 'it returns false'. Refute it at one input. -/
def boundsReadsWrong : ChangeSpec := { name := "boundsReads", fn := fun _ => fun
  | [d] => { results := [.lit (.bool false)], args := [d] }
  | _ => none }
def BoundsReadsWrongFalsely : Prop := boundsReadsRow.holds Try.pinned (OpenSpec.ofChange boundsReadsWrong)

/-- 'breakwaterlaw30.BoundsBack': WHATEVER THE INPUT: true; the input reads as it did. -/
def boundsBackSpec : ChangeSpec := { name := "boundsBack", fn := fun _ => fun
  | [d1, d2] => { results := [.lit (.bool true)], args := [d1, d2] }
  | _ => none }
def boundsBackRow : OpenClaim := { program := "ytknlgjeeenkleaa", sum := "9da71aa3fd76f907f879f3de7bde121b50ed241f1b5cb3ee82d41b0a6e77a614", func := "breakwater/breakwaterlaw30.BoundsBack", spec := "boundsBack", apart := false }
def BoundsBackSaid : Prop := boundsBackRow.holds Try.pinned (OpenSpec.ofChange boundsBackSpec)

/-- ITS FALSE NEIGHBOUR: 'it returns false'. Refute it at one input. -/
def boundsBackWrong : ChangeSpec := { name := "boundsBack", fn := fun _ => fun
  | [d1, d2] => { results := [.lit (.bool false)], args := [d1, d2] }
  | _ => none }
def BoundsBackWrongFalsely : Prop := boundsBackRow.holds Try.pinned (OpenSpec.ofChange boundsBackWrong)

/-- 'breakwaterlaw31.DiskLooks': WHATEVER THE INPUT: true; the input reads as it did. -/
def diskLooksSpec : ChangeSpec := { name := "diskLooks", fn := fun _ => fun
  | [d1, d2, d3] => { results := [.lit (.bool true)], args := [d1, d2, d3] }
  | _ => none }
def diskLooksRow : OpenClaim := { program := "ytknlgjeeenkleaa", sum := "9da71aa3fd76f907f879f3de7bde121b50ed241f1b5cb3ee82d41b0a6e77a614", func := "breakwater/breakwaterlaw31.DiskLooks", spec := "diskLooks", unfollowed := true, recurses := true, apart := false }
def DiskLooksSaid : Prop := diskLooksRow.holds Try.pinned (OpenSpec.ofChange diskLooksSpec)

/-- ITS FALSE NEIGHBOUR: 'it returns false'. Refute it at one input. -/
def diskLooksWrong : ChangeSpec := { name := "diskLooks", fn := fun _ => fun
  | [d1, d2, d3] => { results := [.lit (.bool false)], args := [d1, d2, d3] }
  | _ => none }
def DiskLooksWrongFalsely : Prop := diskLooksRow.holds Try.pinned (OpenSpec.ofChange diskLooksWrong)

/-- 'breakwaterlaw31.DiskReads': WHATEVER THE INPUT: true; the input reads as it did. -/
def diskReadsSpec : ChangeSpec := { name := "diskReads", fn := fun _ => fun
  | [d1, d2, d3] => { results := [.lit (.bool true)], args := [d1, d2, d3] }
  | _ => none }
def diskReadsRow : OpenClaim := { program := "ytknlgjeeenkleaa", sum := "9da71aa3fd76f907f879f3de7bde121b50ed241f1b5cb3ee82d41b0a6e77a614", func := "breakwater/breakwaterlaw31.DiskReads", spec := "diskReads", unfollowed := true, recurses := true, apart := false }
def DiskReadsSaid : Prop := diskReadsRow.holds Try.pinned (OpenSpec.ofChange diskReadsSpec)

/-- ITS FALSE NEIGHBOUR: 'it returns false'. Refute it at one input. -/
def diskReadsWrong : ChangeSpec := { name := "diskReads", fn := fun _ => fun
  | [d1, d2, d3] => { results := [.lit (.bool false)], args := [d1, d2, d3] }
  | _ => none }
def DiskReadsWrongFalsely : Prop := diskReadsRow.holds Try.pinned (OpenSpec.ofChange diskReadsWrong)

/-- 'breakwaterlaw32.SubsetLooks': WHATEVER THE INPUT: true; the input reads as it did. -/
def subsetLooksSpec : ChangeSpec := { name := "subsetLooks", fn := fun _ => fun
  | [d1, d2] => { results := [.lit (.bool true)], args := [d1, d2] }
  | _ => none }
def subsetLooksRow : OpenClaim := { program := "ytknlgjeeenkleaa", sum := "9da71aa3fd76f907f879f3de7bde121b50ed241f1b5cb3ee82d41b0a6e77a614", func := "breakwater/breakwaterlaw32.SubsetLooks", spec := "subsetLooks", unfollowed := true, recurses := true, apart := false }
def SubsetLooksSaid : Prop := subsetLooksRow.holds Try.pinned (OpenSpec.ofChange subsetLooksSpec)

/-- ITS FALSE NEIGHBOUR: 'it returns false'. Refute it at one input. -/
def subsetLooksWrong : ChangeSpec := { name := "subsetLooks", fn := fun _ => fun
  | [d1, d2] => { results := [.lit (.bool false)], args := [d1, d2] }
  | _ => none }
def SubsetLooksWrongFalsely : Prop := subsetLooksRow.holds Try.pinned (OpenSpec.ofChange subsetLooksWrong)

/-- 'breakwaterlaw32.SubsetKnows': WHATEVER THE INPUT: true; the input reads as it did. -/
def subsetKnowsSpec : ChangeSpec := { name := "subsetKnows", fn := fun _ => fun
  | [d1, d2] => { results := [.lit (.bool true)], args := [d1, d2] }
  | _ => none }
def subsetKnowsRow : OpenClaim := { program := "ytknlgjeeenkleaa", sum := "9da71aa3fd76f907f879f3de7bde121b50ed241f1b5cb3ee82d41b0a6e77a614", func := "breakwater/breakwaterlaw32.SubsetKnows", spec := "subsetKnows", unfollowed := true, recurses := true, apart := false }
def SubsetKnowsSaid : Prop := subsetKnowsRow.holds Try.pinned (OpenSpec.ofChange subsetKnowsSpec)

/-- ITS FALSE NEIGHBOUR: 'it returns false'. Refute it at one input. -/
def subsetKnowsWrong : ChangeSpec := { name := "subsetKnows", fn := fun _ => fun
  | [d1, d2] => { results := [.lit (.bool false)], args := [d1, d2] }
  | _ => none }
def SubsetKnowsWrongFalsely : Prop := subsetKnowsRow.holds Try.pinned (OpenSpec.ofChange subsetKnowsWrong)

/-- 'breakwaterlaw27.ImagePuts': WHATEVER THE INPUT: true; the input reads as it did. -/
def imagePutsSpec : ChangeSpec := { name := "imagePuts", fn := fun _ => fun
  | [d1, d2] => { results := [.lit (.bool true)], args := [d1, d2] }
  | _ => none }
def imagePutsRow : OpenClaim := { program := "ytknlgjeeenkleaa", sum := "9da71aa3fd76f907f879f3de7bde121b50ed241f1b5cb3ee82d41b0a6e77a614", func := "breakwater/breakwaterlaw27.ImagePuts", spec := "imagePuts", apart := false }
def ImagePutsSaid : Prop := imagePutsRow.holds Try.pinned (OpenSpec.ofChange imagePutsSpec)

/-- ITS FALSE NEIGHBOUR: 'it returns false'. Refute it at one input. -/
def imagePutsWrong : ChangeSpec := { name := "imagePuts", fn := fun _ => fun
  | [d1, d2] => { results := [.lit (.bool false)], args := [d1, d2] }
  | _ => none }
def ImagePutsWrongFalsely : Prop := imagePutsRow.holds Try.pinned (OpenSpec.ofChange imagePutsWrong)

/-- 'breakwaterlaw27.ImageReads': WHATEVER THE INPUT: true; the input reads as it did. -/
def imageReadsSpec : ChangeSpec := { name := "imageReads", fn := fun _ => fun
  | [d] => { results := [.lit (.bool true)], args := [d] }
  | _ => none }
def imageReadsRow : OpenClaim := { program := "ytknlgjeeenkleaa", sum := "9da71aa3fd76f907f879f3de7bde121b50ed241f1b5cb3ee82d41b0a6e77a614", func := "breakwater/breakwaterlaw27.ImageReads", spec := "imageReads", apart := false }
def ImageReadsSaid : Prop := imageReadsRow.holds Try.pinned (OpenSpec.ofChange imageReadsSpec)

/-- ITS FALSE NEIGHBOUR: 'it returns false'. Refute it at one input. -/
def imageReadsWrong : ChangeSpec := { name := "imageReads", fn := fun _ => fun
  | [d] => { results := [.lit (.bool false)], args := [d] }
  | _ => none }
def ImageReadsWrongFalsely : Prop := imageReadsRow.holds Try.pinned (OpenSpec.ofChange imageReadsWrong)

/-- 'breakwaterlaw27.ImageBack': WHATEVER THE INPUT: true; the input reads as it did. -/
def imageBackSpec : ChangeSpec := { name := "imageBack", fn := fun _ => fun
  | [d1, d2] => { results := [.lit (.bool true)], args := [d1, d2] }
  | _ => none }
def imageBackRow : OpenClaim := { program := "ytknlgjeeenkleaa", sum := "9da71aa3fd76f907f879f3de7bde121b50ed241f1b5cb3ee82d41b0a6e77a614", func := "breakwater/breakwaterlaw27.ImageBack", spec := "imageBack", apart := false }
def ImageBackSaid : Prop := imageBackRow.holds Try.pinned (OpenSpec.ofChange imageBackSpec)

/-- ITS FALSE NEIGHBOUR: 'it returns false'. Refute it at one input. -/
def imageBackWrong : ChangeSpec := { name := "imageBack", fn := fun _ => fun
  | [d1, d2] => { results := [.lit (.bool false)], args := [d1, d2] }
  | _ => none }
def ImageBackWrongFalsely : Prop := imageBackRow.holds Try.pinned (OpenSpec.ofChange imageBackWrong)

/-- 'breakwaterlaw26.IsaNames': WHATEVER THE INPUT: true; the input reads as it did. -/
def isaNamesSpec : ChangeSpec := { name := "isaNames", fn := fun _ => fun
  | [d] => { results := [.lit (.bool true)], args := [d] }
  | _ => none }
def isaNamesRow : OpenClaim := { program := "ytknlgjeeenkleaa", sum := "9da71aa3fd76f907f879f3de7bde121b50ed241f1b5cb3ee82d41b0a6e77a614", func := "breakwater/breakwaterlaw26.IsaNames", spec := "isaNames", inPlace := ["internal/bytealg.IndexByteString", "internal/bytealg.IndexString"], named := ["internal/bytealg.MaxLen"], apart := false }
def IsaNamesSaid : Prop := isaNamesRow.holds Try.pinned (OpenSpec.ofChange isaNamesSpec)

/-- ITS FALSE NEIGHBOUR: 'it returns false'. Refute it at one input. -/
def isaNamesWrong : ChangeSpec := { name := "isaNames", fn := fun _ => fun
  | [d] => { results := [.lit (.bool false)], args := [d] }
  | _ => none }
def IsaNamesWrongFalsely : Prop := isaNamesRow.holds Try.pinned (OpenSpec.ofChange isaNamesWrong)

/-- 'breakwaterlaw26.IsaChecks': WHATEVER THE INPUT: true; the input reads as it did. -/
def isaChecksSpec : ChangeSpec := { name := "isaChecks", fn := fun _ => fun
  | [d1, d2, d3] => { results := [.lit (.bool true)], args := [d1, d2, d3] }
  | _ => none }
def isaChecksRow : OpenClaim := { program := "ytknlgjeeenkleaa", sum := "9da71aa3fd76f907f879f3de7bde121b50ed241f1b5cb3ee82d41b0a6e77a614", func := "breakwater/breakwaterlaw26.IsaChecks", spec := "isaChecks", inPlace := ["internal/bytealg.IndexByteString", "internal/bytealg.IndexString"], named := ["internal/bytealg.MaxLen"], apart := false }
def IsaChecksSaid : Prop := isaChecksRow.holds Try.pinned (OpenSpec.ofChange isaChecksSpec)

/-- ITS FALSE NEIGHBOUR: 'it returns false'. Refute it at one input. -/
def isaChecksWrong : ChangeSpec := { name := "isaChecks", fn := fun _ => fun
  | [d1, d2, d3] => { results := [.lit (.bool false)], args := [d1, d2, d3] }
  | _ => none }
def IsaChecksWrongFalsely : Prop := isaChecksRow.holds Try.pinned (OpenSpec.ofChange isaChecksWrong)

/-- 'breakwaterlaw26.IsaLonger': WHATEVER THE INPUT: true; the input reads as it did. -/
def isaLongerSpec : ChangeSpec := { name := "isaLonger", fn := fun _ => fun
  | [d1, d2, d3] => { results := [.lit (.bool true)], args := [d1, d2, d3] }
  | _ => none }
def isaLongerRow : OpenClaim := { program := "ytknlgjeeenkleaa", sum := "9da71aa3fd76f907f879f3de7bde121b50ed241f1b5cb3ee82d41b0a6e77a614", func := "breakwater/breakwaterlaw26.IsaLonger", spec := "isaLonger", inPlace := ["internal/bytealg.IndexByteString", "internal/bytealg.IndexString"], named := ["internal/bytealg.MaxLen"], apart := false }
def IsaLongerSaid : Prop := isaLongerRow.holds Try.pinned (OpenSpec.ofChange isaLongerSpec)

/-- ITS FALSE NEIGHBOUR: 'it returns false'. Refute it at one input. -/
def isaLongerWrong : ChangeSpec := { name := "isaLonger", fn := fun _ => fun
  | [d1, d2, d3] => { results := [.lit (.bool false)], args := [d1, d2, d3] }
  | _ => none }
def IsaLongerWrongFalsely : Prop := isaLongerRow.holds Try.pinned (OpenSpec.ofChange isaLongerWrong)

/-- 'breakwaterlaw01.WordCuts': WHATEVER THE INPUT: true; the input reads as it did. -/
def wordCutsSpec : ChangeSpec := { name := "wordCuts", fn := fun _ => fun
  | [d1, d2] => { results := [.lit (.bool true)], args := [d1, d2] }
  | _ => none }
def wordCutsRow : OpenClaim := { program := "ytknlgjeeenkleaa", sum := "9da71aa3fd76f907f879f3de7bde121b50ed241f1b5cb3ee82d41b0a6e77a614", func := "breakwater/breakwaterlaw01.WordCuts", spec := "wordCuts", apart := false }
def WordCutsSaid : Prop := wordCutsRow.holds Try.pinned (OpenSpec.ofChange wordCutsSpec)

/-- ITS FALSE NEIGHBOUR: 'it returns false'. Refute it at one input. -/
def wordCutsWrong : ChangeSpec := { name := "wordCuts", fn := fun _ => fun
  | [d1, d2] => { results := [.lit (.bool false)], args := [d1, d2] }
  | _ => none }
def WordCutsWrongFalsely : Prop := wordCutsRow.holds Try.pinned (OpenSpec.ofChange wordCutsWrong)

/-- 'breakwaterlaw01.WordBinary': WHATEVER THE INPUT: true; the input reads as it did. -/
def wordBinarySpec : ChangeSpec := { name := "wordBinary", fn := fun _ => fun
  | [d1, d2, d3] => { results := [.lit (.bool true)], args := [d1, d2, d3] }
  | _ => none }
def wordBinaryRow : OpenClaim := { program := "ytknlgjeeenkleaa", sum := "9da71aa3fd76f907f879f3de7bde121b50ed241f1b5cb3ee82d41b0a6e77a614", func := "breakwater/breakwaterlaw01.WordBinary", spec := "wordBinary", apart := false }
def WordBinarySaid : Prop := wordBinaryRow.holds Try.pinned (OpenSpec.ofChange wordBinarySpec)

/-- ITS FALSE NEIGHBOUR: 'it returns false'. Refute it at one input. -/
def wordBinaryWrong : ChangeSpec := { name := "wordBinary", fn := fun _ => fun
  | [d1, d2, d3] => { results := [.lit (.bool false)], args := [d1, d2, d3] }
  | _ => none }
def WordBinaryWrongFalsely : Prop := wordBinaryRow.holds Try.pinned (OpenSpec.ofChange wordBinaryWrong)

/-- 'breakwaterlaw01.WordUnary': WHATEVER THE INPUT: true; the input reads as it did. -/
def wordUnarySpec : ChangeSpec := { name := "wordUnary", fn := fun _ => fun
  | [d1, d2, d3] => { results := [.lit (.bool true)], args := [d1, d2, d3] }
  | _ => none }
def wordUnaryRow : OpenClaim := { program := "ytknlgjeeenkleaa", sum := "9da71aa3fd76f907f879f3de7bde121b50ed241f1b5cb3ee82d41b0a6e77a614", func := "breakwater/breakwaterlaw01.WordUnary", spec := "wordUnary", apart := false }
def WordUnarySaid : Prop := wordUnaryRow.holds Try.pinned (OpenSpec.ofChange wordUnarySpec)

/-- ITS FALSE NEIGHBOUR: 'it returns false'. Refute it at one input. -/
def wordUnaryWrong : ChangeSpec := { name := "wordUnary", fn := fun _ => fun
  | [d1, d2, d3] => { results := [.lit (.bool false)], args := [d1, d2, d3] }
  | _ => none }
def WordUnaryWrongFalsely : Prop := wordUnaryRow.holds Try.pinned (OpenSpec.ofChange wordUnaryWrong)

/-- 'breakwaterlaw01.WordRings': WHATEVER THE INPUT: true; the input reads as it did. -/
def wordRingsSpec : ChangeSpec := { name := "wordRings", fn := fun _ => fun
  | [d1, d2, d3] => { results := [.lit (.bool true)], args := [d1, d2, d3] }
  | _ => none }
def wordRingsRow : OpenClaim := { program := "ytknlgjeeenkleaa", sum := "9da71aa3fd76f907f879f3de7bde121b50ed241f1b5cb3ee82d41b0a6e77a614", func := "breakwater/breakwaterlaw01.WordRings", spec := "wordRings", apart := false }
def WordRingsSaid : Prop := wordRingsRow.holds Try.pinned (OpenSpec.ofChange wordRingsSpec)

/-- ITS FALSE NEIGHBOUR: 'it returns false'. Refute it at one input. -/
def wordRingsWrong : ChangeSpec := { name := "wordRings", fn := fun _ => fun
  | [d1, d2, d3] => { results := [.lit (.bool false)], args := [d1, d2, d3] }
  | _ => none }
def WordRingsWrongFalsely : Prop := wordRingsRow.holds Try.pinned (OpenSpec.ofChange wordRingsWrong)

/-- 'breakwaterlaw01.WordDivides': WHATEVER THE INPUT: true; the input reads as it did. -/
def wordDividesSpec : ChangeSpec := { name := "wordDivides", fn := fun _ => fun
  | [d1, d2] => { results := [.lit (.bool true)], args := [d1, d2] }
  | _ => none }
def wordDividesRow : OpenClaim := { program := "ytknlgjeeenkleaa", sum := "9da71aa3fd76f907f879f3de7bde121b50ed241f1b5cb3ee82d41b0a6e77a614", func := "breakwater/breakwaterlaw01.WordDivides", spec := "wordDivides", apart := false }
def WordDividesSaid : Prop := wordDividesRow.holds Try.pinned (OpenSpec.ofChange wordDividesSpec)

/-- ITS FALSE NEIGHBOUR: 'it returns false'. Refute it at one input. -/
def wordDividesWrong : ChangeSpec := { name := "wordDivides", fn := fun _ => fun
  | [d1, d2] => { results := [.lit (.bool false)], args := [d1, d2] }
  | _ => none }
def WordDividesWrongFalsely : Prop := wordDividesRow.holds Try.pinned (OpenSpec.ofChange wordDividesWrong)

/-- 'breakwaterlaw01.WordMoves': WHATEVER THE INPUT: true; the input reads as it did. -/
def wordMovesSpec : ChangeSpec := { name := "wordMoves", fn := fun _ => fun
  | [d1, d2, d3] => { results := [.lit (.bool true)], args := [d1, d2, d3] }
  | _ => none }
def wordMovesRow : OpenClaim := { program := "ytknlgjeeenkleaa", sum := "9da71aa3fd76f907f879f3de7bde121b50ed241f1b5cb3ee82d41b0a6e77a614", func := "breakwater/breakwaterlaw01.WordMoves", spec := "wordMoves", apart := false }
def WordMovesSaid : Prop := wordMovesRow.holds Try.pinned (OpenSpec.ofChange wordMovesSpec)

/-- ITS FALSE NEIGHBOUR: 'it returns false'. Refute it at one input. -/
def wordMovesWrong : ChangeSpec := { name := "wordMoves", fn := fun _ => fun
  | [d1, d2, d3] => { results := [.lit (.bool false)], args := [d1, d2, d3] }
  | _ => none }
def WordMovesWrongFalsely : Prop := wordMovesRow.holds Try.pinned (OpenSpec.ofChange wordMovesWrong)

/-- 'breakwaterlaw04.CnfLooks': WHATEVER THE INPUT: true; the input reads as it did. -/
def cnfLooksSpec : ChangeSpec := { name := "cnfLooks", fn := fun _ => fun
  | [d1, d2, d3] => { results := [.lit (.bool true)], args := [d1, d2, d3] }
  | _ => none }
def cnfLooksRow : OpenClaim := { program := "ytknlgjeeenkleaa", sum := "9da71aa3fd76f907f879f3de7bde121b50ed241f1b5cb3ee82d41b0a6e77a614", func := "breakwater/breakwaterlaw04.CnfLooks", spec := "cnfLooks", unfollowed := true, recurses := true, apart := false }
def CnfLooksSaid : Prop := cnfLooksRow.holds Try.pinned (OpenSpec.ofChange cnfLooksSpec)

/-- ITS FALSE NEIGHBOUR: 'it returns false'. Refute it at one input. -/
def cnfLooksWrong : ChangeSpec := { name := "cnfLooks", fn := fun _ => fun
  | [d1, d2, d3] => { results := [.lit (.bool false)], args := [d1, d2, d3] }
  | _ => none }
def CnfLooksWrongFalsely : Prop := cnfLooksRow.holds Try.pinned (OpenSpec.ofChange cnfLooksWrong)

/-- 'breakwaterlaw04.CnfCounts': WHATEVER THE INPUT: true; the input reads as it did. -/
def cnfCountsSpec : ChangeSpec := { name := "cnfCounts", fn := fun _ => fun
  | [d1, d2] => { results := [.lit (.bool true)], args := [d1, d2] }
  | _ => none }
def cnfCountsRow : OpenClaim := { program := "ytknlgjeeenkleaa", sum := "9da71aa3fd76f907f879f3de7bde121b50ed241f1b5cb3ee82d41b0a6e77a614", func := "breakwater/breakwaterlaw04.CnfCounts", spec := "cnfCounts", unfollowed := true, recurses := true, apart := false }
def CnfCountsSaid : Prop := cnfCountsRow.holds Try.pinned (OpenSpec.ofChange cnfCountsSpec)

/-- ITS FALSE NEIGHBOUR: 'it returns false'. Refute it at one input. -/
def cnfCountsWrong : ChangeSpec := { name := "cnfCounts", fn := fun _ => fun
  | [d1, d2] => { results := [.lit (.bool false)], args := [d1, d2] }
  | _ => none }
def CnfCountsWrongFalsely : Prop := cnfCountsRow.holds Try.pinned (OpenSpec.ofChange cnfCountsWrong)

/-- 'breakwaterlaw04.CnfParts': WHATEVER THE INPUT: true; the input reads as it did. -/
def cnfPartsSpec : ChangeSpec := { name := "cnfParts", fn := fun _ => fun
  | [d1, d2, d3] => { results := [.lit (.bool true)], args := [d1, d2, d3] }
  | _ => none }
def cnfPartsRow : OpenClaim := { program := "ytknlgjeeenkleaa", sum := "9da71aa3fd76f907f879f3de7bde121b50ed241f1b5cb3ee82d41b0a6e77a614", func := "breakwater/breakwaterlaw04.CnfParts", spec := "cnfParts", unfollowed := true, recurses := true, apart := false }
def CnfPartsSaid : Prop := cnfPartsRow.holds Try.pinned (OpenSpec.ofChange cnfPartsSpec)

/-- ITS FALSE NEIGHBOUR: 'it returns false'. Refute it at one input. -/
def cnfPartsWrong : ChangeSpec := { name := "cnfParts", fn := fun _ => fun
  | [d1, d2, d3] => { results := [.lit (.bool false)], args := [d1, d2, d3] }
  | _ => none }
def CnfPartsWrongFalsely : Prop := cnfPartsRow.holds Try.pinned (OpenSpec.ofChange cnfPartsWrong)

/- THE SECOND FORM. 'bulk': how many values and letters a reading holds, each counted each time it is reached (what is shared counts as often as it is met; a slice's spare places count too). A statement '..UptoSaid' is the law's where the arguments, and the package variables that the reading takes, are together of bulk at most 1048576: NARROWER than '..Said'. Prove '..Said' where nothing that the law and all that it calls make is longer than what came in: it says more and counts as full. Else prove '..UptoSaid'. A law counts once. -/
mutual
def uptoBulk {H : Type} : DataW H → Nat
  | .lit (.string bytes) => bytes.length + 1
  | .lit _ => 1
  | .nil => 1
  | .ptr d => uptoBulk d + 1
  | .slice elems spare => uptoBulkAll elems + uptoBulkAll spare + 1
  | .agg parts => uptoBulkAll parts + 1
  | .iface _ d => uptoBulk d + 1
  | .map entries => uptoBulkEntries entries + 1
  | .held _ => 1
def uptoBulkAll {H : Type} : List (DataW H) → Nat
  | [] => 0
  | d :: r => uptoBulk d + uptoBulkAll r
def uptoBulkEntries {H : Type} : List (Lit × DataW H) → Nat
  | [] => 0
  | x :: r => uptoBulkEntry x + uptoBulkEntries r
def uptoBulkEntry {H : Type} : Lit × DataW H → Nat
  | (.string bytes, d) => bytes.length + uptoBulk d + 1
  | (_, d) => uptoBulk d + 1
 end
def uptoSmall : (H : Type) → List (DataW H) → Bool := fun _ ds => decide (uptoBulkAll ds ≤ 1048576)
def OpenSpec.upto (s : _root_.Go.ChangeSpec) : _root_.Go.OpenSpec := { _root_.Go.OpenSpec.ofChange s with cond := some uptoSmall }

/-- 'breakwaterlaw30.BoundsPuts', WHERE WHAT IT READS IS OF BULK AT MOST 1048576: true; the input reads as it did. -/
def boundsPutsUptoRow : OpenClaim := { program := "ytknlgjeeenkleaa", sum := "9da71aa3fd76f907f879f3de7bde121b50ed241f1b5cb3ee82d41b0a6e77a614", func := "breakwater/breakwaterlaw30.BoundsPuts", spec := "boundsPuts", apart := false, narrowed := true }
def BoundsPutsUptoSaid : Prop := boundsPutsUptoRow.holds Try.pinned (OpenSpec.upto boundsPutsSpec)

/-- 'breakwaterlaw30.BoundsReads', WHERE WHAT IT READS IS OF BULK AT MOST 1048576: true; the input reads as it did. -/
def boundsReadsUptoRow : OpenClaim := { program := "ytknlgjeeenkleaa", sum := "9da71aa3fd76f907f879f3de7bde121b50ed241f1b5cb3ee82d41b0a6e77a614", func := "breakwater/breakwaterlaw30.BoundsReads", spec := "boundsReads", apart := false, narrowed := true }
def BoundsReadsUptoSaid : Prop := boundsReadsUptoRow.holds Try.pinned (OpenSpec.upto boundsReadsSpec)

/-- 'breakwaterlaw30.BoundsBack', WHERE WHAT IT READS IS OF BULK AT MOST 1048576: true; the input reads as it did. -/
def boundsBackUptoRow : OpenClaim := { program := "ytknlgjeeenkleaa", sum := "9da71aa3fd76f907f879f3de7bde121b50ed241f1b5cb3ee82d41b0a6e77a614", func := "breakwater/breakwaterlaw30.BoundsBack", spec := "boundsBack", apart := false, narrowed := true }
def BoundsBackUptoSaid : Prop := boundsBackUptoRow.holds Try.pinned (OpenSpec.upto boundsBackSpec)

/-- 'breakwaterlaw31.DiskLooks', WHERE WHAT IT READS IS OF BULK AT MOST 1048576: true; the input reads as it did. -/
def diskLooksUptoRow : OpenClaim := { program := "ytknlgjeeenkleaa", sum := "9da71aa3fd76f907f879f3de7bde121b50ed241f1b5cb3ee82d41b0a6e77a614", func := "breakwater/breakwaterlaw31.DiskLooks", spec := "diskLooks", unfollowed := true, recurses := true, apart := false, narrowed := true }
def DiskLooksUptoSaid : Prop := diskLooksUptoRow.holds Try.pinned (OpenSpec.upto diskLooksSpec)

/-- 'breakwaterlaw31.DiskReads', WHERE WHAT IT READS IS OF BULK AT MOST 1048576: true; the input reads as it did. -/
def diskReadsUptoRow : OpenClaim := { program := "ytknlgjeeenkleaa", sum := "9da71aa3fd76f907f879f3de7bde121b50ed241f1b5cb3ee82d41b0a6e77a614", func := "breakwater/breakwaterlaw31.DiskReads", spec := "diskReads", unfollowed := true, recurses := true, apart := false, narrowed := true }
def DiskReadsUptoSaid : Prop := diskReadsUptoRow.holds Try.pinned (OpenSpec.upto diskReadsSpec)

/-- 'breakwaterlaw32.SubsetLooks', WHERE WHAT IT READS IS OF BULK AT MOST 1048576: true; the input reads as it did. -/
def subsetLooksUptoRow : OpenClaim := { program := "ytknlgjeeenkleaa", sum := "9da71aa3fd76f907f879f3de7bde121b50ed241f1b5cb3ee82d41b0a6e77a614", func := "breakwater/breakwaterlaw32.SubsetLooks", spec := "subsetLooks", unfollowed := true, recurses := true, apart := false, narrowed := true }
def SubsetLooksUptoSaid : Prop := subsetLooksUptoRow.holds Try.pinned (OpenSpec.upto subsetLooksSpec)

/-- 'breakwaterlaw32.SubsetKnows', WHERE WHAT IT READS IS OF BULK AT MOST 1048576: true; the input reads as it did. -/
def subsetKnowsUptoRow : OpenClaim := { program := "ytknlgjeeenkleaa", sum := "9da71aa3fd76f907f879f3de7bde121b50ed241f1b5cb3ee82d41b0a6e77a614", func := "breakwater/breakwaterlaw32.SubsetKnows", spec := "subsetKnows", unfollowed := true, recurses := true, apart := false, narrowed := true }
def SubsetKnowsUptoSaid : Prop := subsetKnowsUptoRow.holds Try.pinned (OpenSpec.upto subsetKnowsSpec)

/-- 'breakwaterlaw27.ImagePuts', WHERE WHAT IT READS IS OF BULK AT MOST 1048576: true; the input reads as it did. -/
def imagePutsUptoRow : OpenClaim := { program := "ytknlgjeeenkleaa", sum := "9da71aa3fd76f907f879f3de7bde121b50ed241f1b5cb3ee82d41b0a6e77a614", func := "breakwater/breakwaterlaw27.ImagePuts", spec := "imagePuts", apart := false, narrowed := true }
def ImagePutsUptoSaid : Prop := imagePutsUptoRow.holds Try.pinned (OpenSpec.upto imagePutsSpec)

/-- 'breakwaterlaw27.ImageReads', WHERE WHAT IT READS IS OF BULK AT MOST 1048576: true; the input reads as it did. -/
def imageReadsUptoRow : OpenClaim := { program := "ytknlgjeeenkleaa", sum := "9da71aa3fd76f907f879f3de7bde121b50ed241f1b5cb3ee82d41b0a6e77a614", func := "breakwater/breakwaterlaw27.ImageReads", spec := "imageReads", apart := false, narrowed := true }
def ImageReadsUptoSaid : Prop := imageReadsUptoRow.holds Try.pinned (OpenSpec.upto imageReadsSpec)

/-- 'breakwaterlaw27.ImageBack', WHERE WHAT IT READS IS OF BULK AT MOST 1048576: true; the input reads as it did. -/
def imageBackUptoRow : OpenClaim := { program := "ytknlgjeeenkleaa", sum := "9da71aa3fd76f907f879f3de7bde121b50ed241f1b5cb3ee82d41b0a6e77a614", func := "breakwater/breakwaterlaw27.ImageBack", spec := "imageBack", apart := false, narrowed := true }
def ImageBackUptoSaid : Prop := imageBackUptoRow.holds Try.pinned (OpenSpec.upto imageBackSpec)

/-- 'breakwaterlaw26.IsaNames', WHERE WHAT IT READS IS OF BULK AT MOST 1048576: true; the input reads as it did. -/
def isaNamesUptoRow : OpenClaim := { program := "ytknlgjeeenkleaa", sum := "9da71aa3fd76f907f879f3de7bde121b50ed241f1b5cb3ee82d41b0a6e77a614", func := "breakwater/breakwaterlaw26.IsaNames", spec := "isaNames", inPlace := ["internal/bytealg.IndexByteString", "internal/bytealg.IndexString"], named := ["internal/bytealg.MaxLen"], apart := false, narrowed := true }
def IsaNamesUptoSaid : Prop := isaNamesUptoRow.holds Try.pinned (OpenSpec.upto isaNamesSpec)

/-- 'breakwaterlaw26.IsaChecks', WHERE WHAT IT READS IS OF BULK AT MOST 1048576: true; the input reads as it did. -/
def isaChecksUptoRow : OpenClaim := { program := "ytknlgjeeenkleaa", sum := "9da71aa3fd76f907f879f3de7bde121b50ed241f1b5cb3ee82d41b0a6e77a614", func := "breakwater/breakwaterlaw26.IsaChecks", spec := "isaChecks", inPlace := ["internal/bytealg.IndexByteString", "internal/bytealg.IndexString"], named := ["internal/bytealg.MaxLen"], apart := false, narrowed := true }
def IsaChecksUptoSaid : Prop := isaChecksUptoRow.holds Try.pinned (OpenSpec.upto isaChecksSpec)

/-- 'breakwaterlaw26.IsaLonger', WHERE WHAT IT READS IS OF BULK AT MOST 1048576: true; the input reads as it did. -/
def isaLongerUptoRow : OpenClaim := { program := "ytknlgjeeenkleaa", sum := "9da71aa3fd76f907f879f3de7bde121b50ed241f1b5cb3ee82d41b0a6e77a614", func := "breakwater/breakwaterlaw26.IsaLonger", spec := "isaLonger", inPlace := ["internal/bytealg.IndexByteString", "internal/bytealg.IndexString"], named := ["internal/bytealg.MaxLen"], apart := false, narrowed := true }
def IsaLongerUptoSaid : Prop := isaLongerUptoRow.holds Try.pinned (OpenSpec.upto isaLongerSpec)

/-- 'breakwaterlaw01.WordCuts', WHERE WHAT IT READS IS OF BULK AT MOST 1048576: true; the input reads as it did. -/
def wordCutsUptoRow : OpenClaim := { program := "ytknlgjeeenkleaa", sum := "9da71aa3fd76f907f879f3de7bde121b50ed241f1b5cb3ee82d41b0a6e77a614", func := "breakwater/breakwaterlaw01.WordCuts", spec := "wordCuts", apart := false, narrowed := true }
def WordCutsUptoSaid : Prop := wordCutsUptoRow.holds Try.pinned (OpenSpec.upto wordCutsSpec)

/-- 'breakwaterlaw01.WordBinary', WHERE WHAT IT READS IS OF BULK AT MOST 1048576: true; the input reads as it did. -/
def wordBinaryUptoRow : OpenClaim := { program := "ytknlgjeeenkleaa", sum := "9da71aa3fd76f907f879f3de7bde121b50ed241f1b5cb3ee82d41b0a6e77a614", func := "breakwater/breakwaterlaw01.WordBinary", spec := "wordBinary", apart := false, narrowed := true }
def WordBinaryUptoSaid : Prop := wordBinaryUptoRow.holds Try.pinned (OpenSpec.upto wordBinarySpec)

/-- 'breakwaterlaw01.WordUnary', WHERE WHAT IT READS IS OF BULK AT MOST 1048576: true; the input reads as it did. -/
def wordUnaryUptoRow : OpenClaim := { program := "ytknlgjeeenkleaa", sum := "9da71aa3fd76f907f879f3de7bde121b50ed241f1b5cb3ee82d41b0a6e77a614", func := "breakwater/breakwaterlaw01.WordUnary", spec := "wordUnary", apart := false, narrowed := true }
def WordUnaryUptoSaid : Prop := wordUnaryUptoRow.holds Try.pinned (OpenSpec.upto wordUnarySpec)

/-- 'breakwaterlaw01.WordRings', WHERE WHAT IT READS IS OF BULK AT MOST 1048576: true; the input reads as it did. -/
def wordRingsUptoRow : OpenClaim := { program := "ytknlgjeeenkleaa", sum := "9da71aa3fd76f907f879f3de7bde121b50ed241f1b5cb3ee82d41b0a6e77a614", func := "breakwater/breakwaterlaw01.WordRings", spec := "wordRings", apart := false, narrowed := true }
def WordRingsUptoSaid : Prop := wordRingsUptoRow.holds Try.pinned (OpenSpec.upto wordRingsSpec)

/-- 'breakwaterlaw01.WordDivides', WHERE WHAT IT READS IS OF BULK AT MOST 1048576: true; the input reads as it did. -/
def wordDividesUptoRow : OpenClaim := { program := "ytknlgjeeenkleaa", sum := "9da71aa3fd76f907f879f3de7bde121b50ed241f1b5cb3ee82d41b0a6e77a614", func := "breakwater/breakwaterlaw01.WordDivides", spec := "wordDivides", apart := false, narrowed := true }
def WordDividesUptoSaid : Prop := wordDividesUptoRow.holds Try.pinned (OpenSpec.upto wordDividesSpec)

/-- 'breakwaterlaw01.WordMoves', WHERE WHAT IT READS IS OF BULK AT MOST 1048576: true; the input reads as it did. -/
def wordMovesUptoRow : OpenClaim := { program := "ytknlgjeeenkleaa", sum := "9da71aa3fd76f907f879f3de7bde121b50ed241f1b5cb3ee82d41b0a6e77a614", func := "breakwater/breakwaterlaw01.WordMoves", spec := "wordMoves", apart := false, narrowed := true }
def WordMovesUptoSaid : Prop := wordMovesUptoRow.holds Try.pinned (OpenSpec.upto wordMovesSpec)

/-- 'breakwaterlaw04.CnfLooks', WHERE WHAT IT READS IS OF BULK AT MOST 1048576: true; the input reads as it did. -/
def cnfLooksUptoRow : OpenClaim := { program := "ytknlgjeeenkleaa", sum := "9da71aa3fd76f907f879f3de7bde121b50ed241f1b5cb3ee82d41b0a6e77a614", func := "breakwater/breakwaterlaw04.CnfLooks", spec := "cnfLooks", unfollowed := true, recurses := true, apart := false, narrowed := true }
def CnfLooksUptoSaid : Prop := cnfLooksUptoRow.holds Try.pinned (OpenSpec.upto cnfLooksSpec)

/-- 'breakwaterlaw04.CnfCounts', WHERE WHAT IT READS IS OF BULK AT MOST 1048576: true; the input reads as it did. -/
def cnfCountsUptoRow : OpenClaim := { program := "ytknlgjeeenkleaa", sum := "9da71aa3fd76f907f879f3de7bde121b50ed241f1b5cb3ee82d41b0a6e77a614", func := "breakwater/breakwaterlaw04.CnfCounts", spec := "cnfCounts", unfollowed := true, recurses := true, apart := false, narrowed := true }
def CnfCountsUptoSaid : Prop := cnfCountsUptoRow.holds Try.pinned (OpenSpec.upto cnfCountsSpec)

/-- 'breakwaterlaw04.CnfParts', WHERE WHAT IT READS IS OF BULK AT MOST 1048576: true; the input reads as it did. -/
def cnfPartsUptoRow : OpenClaim := { program := "ytknlgjeeenkleaa", sum := "9da71aa3fd76f907f879f3de7bde121b50ed241f1b5cb3ee82d41b0a6e77a614", func := "breakwater/breakwaterlaw04.CnfParts", spec := "cnfParts", unfollowed := true, recurses := true, apart := false, narrowed := true }
def CnfPartsUptoSaid : Prop := cnfPartsUptoRow.holds Try.pinned (OpenSpec.upto cnfPartsSpec)

end Rows
end Go.Proofs.Ytknlgjeeenkleaa
