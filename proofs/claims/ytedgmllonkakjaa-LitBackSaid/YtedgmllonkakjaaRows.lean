/-
  No cell of these rows narrows 'for every input' (looked for: loops, veiled, ifaces, maps, wideKeys, modest, calm, conditions, laid).
  DERIVED. THE GIVEN ROWS OF THIS SEAT. 15 by the template 'for every input the law returns true; each argument reads behind the call as it read before'; 0 by the template 'total and deterministic' (their statements: YtedgmllonkakjaaTotals.lean).
  GIVEN WITH THE SEED: the statements are not yours to turn. If you find one false, say at which input.
  Laid BY PROGRAM, IN A SANDBOX (cutbox-rows.mjs): the forced cells as the released guide's own fill.sh prints them over the translation 2aa953b42e896840… (all of the seat's roots in one cut). By AI agents, Wed Nov 11 2026. No macro, syntax, notation, axiom, sorry.
-/
import Derived.Test.YtedgmllonkakjaaChecked
import GoSem.Claim
import GoSem.ClaimJoined
import GoSem.ClaimMapViews
import Derived.JoinedTies
import Derived.KernelRfl
namespace Go.Proofs.Ytedgmllonkakjaa
/- THE CELL 'sum', in the pinned program and in every row, IS THE sha256 OF THE DUMP (.gsa) THAT YtedgmllonkakjaaProg.lean LOADS. Nothing in Lean hashes anything: it is a label: what it is worth is what the hold of that sum in a sandbox is worth. -/
noncomputable def Try.pinned : Pinned := { name := "ytedgmllonkakjaa", sum := "2aa953b42e8968400ddd50b5b712e67a2fe1ce9321c213ccffeafa9bd7dc49e9", checked := Try.checked }
namespace Rows
def none {H : Type} : Left H := { results := [], args := [] }

/-- 'breakwaterlaw01.WordCuts': WHATEVER THE INPUT: true; the input reads as it did. -/
def wordCutsSpec : ChangeSpec := { name := "wordCuts", fn := fun _ => fun
  | [d1, d2] => { results := [.lit (.bool true)], args := [d1, d2] }
  | _ => none }
def wordCutsRow : OpenClaim := { program := "ytedgmllonkakjaa", sum := "2aa953b42e8968400ddd50b5b712e67a2fe1ce9321c213ccffeafa9bd7dc49e9", func := "breakwater/breakwaterlaw01.WordCuts", spec := "wordCuts", apart := false }
def WordCutsSaid : Prop := wordCutsRow.holds Try.pinned (OpenSpec.ofChange wordCutsSpec)

/-- ITS FALSE NEIGHBOUR: 'it returns false'. Refute it at one input. -/
def wordCutsWrong : ChangeSpec := { name := "wordCuts", fn := fun _ => fun
  | [d1, d2] => { results := [.lit (.bool false)], args := [d1, d2] }
  | _ => none }
def WordCutsWrongFalsely : Prop := wordCutsRow.holds Try.pinned (OpenSpec.ofChange wordCutsWrong)

/-- 'breakwaterlaw01.WordBinary': WHATEVER THE INPUT: true; the input reads as it did. -/
def wordBinarySpec : ChangeSpec := { name := "wordBinary", fn := fun _ => fun
  | [d1, d2, d3] => { results := [.lit (.bool true)], args := [d1, d2, d3] }
  | _ => none }
def wordBinaryRow : OpenClaim := { program := "ytedgmllonkakjaa", sum := "2aa953b42e8968400ddd50b5b712e67a2fe1ce9321c213ccffeafa9bd7dc49e9", func := "breakwater/breakwaterlaw01.WordBinary", spec := "wordBinary", apart := false }
def WordBinarySaid : Prop := wordBinaryRow.holds Try.pinned (OpenSpec.ofChange wordBinarySpec)

/-- ITS FALSE NEIGHBOUR: 'it returns false'. Refute it at one input. -/
def wordBinaryWrong : ChangeSpec := { name := "wordBinary", fn := fun _ => fun
  | [d1, d2, d3] => { results := [.lit (.bool false)], args := [d1, d2, d3] }
  | _ => none }
def WordBinaryWrongFalsely : Prop := wordBinaryRow.holds Try.pinned (OpenSpec.ofChange wordBinaryWrong)

/-- 'breakwaterlaw01.WordUnary': WHATEVER THE INPUT: true; the input reads as it did. -/
def wordUnarySpec : ChangeSpec := { name := "wordUnary", fn := fun _ => fun
  | [d1, d2, d3] => { results := [.lit (.bool true)], args := [d1, d2, d3] }
  | _ => none }
def wordUnaryRow : OpenClaim := { program := "ytedgmllonkakjaa", sum := "2aa953b42e8968400ddd50b5b712e67a2fe1ce9321c213ccffeafa9bd7dc49e9", func := "breakwater/breakwaterlaw01.WordUnary", spec := "wordUnary", apart := false }
def WordUnarySaid : Prop := wordUnaryRow.holds Try.pinned (OpenSpec.ofChange wordUnarySpec)

/-- ITS FALSE NEIGHBOUR: 'it returns false'. Refute it at one input. -/
def wordUnaryWrong : ChangeSpec := { name := "wordUnary", fn := fun _ => fun
  | [d1, d2, d3] => { results := [.lit (.bool false)], args := [d1, d2, d3] }
  | _ => none }
def WordUnaryWrongFalsely : Prop := wordUnaryRow.holds Try.pinned (OpenSpec.ofChange wordUnaryWrong)

/-- 'breakwaterlaw01.WordRings': WHATEVER THE INPUT: true; the input reads as it did. -/
def wordRingsSpec : ChangeSpec := { name := "wordRings", fn := fun _ => fun
  | [d1, d2, d3] => { results := [.lit (.bool true)], args := [d1, d2, d3] }
  | _ => none }
def wordRingsRow : OpenClaim := { program := "ytedgmllonkakjaa", sum := "2aa953b42e8968400ddd50b5b712e67a2fe1ce9321c213ccffeafa9bd7dc49e9", func := "breakwater/breakwaterlaw01.WordRings", spec := "wordRings", apart := false }
def WordRingsSaid : Prop := wordRingsRow.holds Try.pinned (OpenSpec.ofChange wordRingsSpec)

/-- ITS FALSE NEIGHBOUR: 'it returns false'. Refute it at one input. -/
def wordRingsWrong : ChangeSpec := { name := "wordRings", fn := fun _ => fun
  | [d1, d2, d3] => { results := [.lit (.bool false)], args := [d1, d2, d3] }
  | _ => none }
def WordRingsWrongFalsely : Prop := wordRingsRow.holds Try.pinned (OpenSpec.ofChange wordRingsWrong)

/-- 'breakwaterlaw01.WordDivides': WHATEVER THE INPUT: true; the input reads as it did. -/
def wordDividesSpec : ChangeSpec := { name := "wordDivides", fn := fun _ => fun
  | [d1, d2] => { results := [.lit (.bool true)], args := [d1, d2] }
  | _ => none }
def wordDividesRow : OpenClaim := { program := "ytedgmllonkakjaa", sum := "2aa953b42e8968400ddd50b5b712e67a2fe1ce9321c213ccffeafa9bd7dc49e9", func := "breakwater/breakwaterlaw01.WordDivides", spec := "wordDivides", apart := false }
def WordDividesSaid : Prop := wordDividesRow.holds Try.pinned (OpenSpec.ofChange wordDividesSpec)

/-- ITS FALSE NEIGHBOUR: 'it returns false'. Refute it at one input. -/
def wordDividesWrong : ChangeSpec := { name := "wordDivides", fn := fun _ => fun
  | [d1, d2] => { results := [.lit (.bool false)], args := [d1, d2] }
  | _ => none }
def WordDividesWrongFalsely : Prop := wordDividesRow.holds Try.pinned (OpenSpec.ofChange wordDividesWrong)

/-- 'breakwaterlaw01.WordMoves': WHATEVER THE INPUT: true; the input reads as it did. -/
def wordMovesSpec : ChangeSpec := { name := "wordMoves", fn := fun _ => fun
  | [d1, d2, d3] => { results := [.lit (.bool true)], args := [d1, d2, d3] }
  | _ => none }
def wordMovesRow : OpenClaim := { program := "ytedgmllonkakjaa", sum := "2aa953b42e8968400ddd50b5b712e67a2fe1ce9321c213ccffeafa9bd7dc49e9", func := "breakwater/breakwaterlaw01.WordMoves", spec := "wordMoves", apart := false }
def WordMovesSaid : Prop := wordMovesRow.holds Try.pinned (OpenSpec.ofChange wordMovesSpec)

/-- ITS FALSE NEIGHBOUR: 'it returns false'. Refute it at one input. -/
def wordMovesWrong : ChangeSpec := { name := "wordMoves", fn := fun _ => fun
  | [d1, d2, d3] => { results := [.lit (.bool false)], args := [d1, d2, d3] }
  | _ => none }
def WordMovesWrongFalsely : Prop := wordMovesRow.holds Try.pinned (OpenSpec.ofChange wordMovesWrong)

/-- 'breakwaterlaw02.LitMakes': WHATEVER THE INPUT: true; the input reads as it did. -/
def litMakesSpec : ChangeSpec := { name := "litMakes", fn := fun _ => fun
  | [d1, d2, d3] => { results := [.lit (.bool true)], args := [d1, d2, d3] }
  | _ => none }
def litMakesRow : OpenClaim := { program := "ytedgmllonkakjaa", sum := "2aa953b42e8968400ddd50b5b712e67a2fe1ce9321c213ccffeafa9bd7dc49e9", func := "breakwater/breakwaterlaw02.LitMakes", spec := "litMakes", apart := false }
def LitMakesSaid : Prop := litMakesRow.holds Try.pinned (OpenSpec.ofChange litMakesSpec)

/-- ITS FALSE NEIGHBOUR: 'it returns false'. Refute it at one input. -/
def litMakesWrong : ChangeSpec := { name := "litMakes", fn := fun _ => fun
  | [d1, d2, d3] => { results := [.lit (.bool false)], args := [d1, d2, d3] }
  | _ => none }
def LitMakesWrongFalsely : Prop := litMakesRow.holds Try.pinned (OpenSpec.ofChange litMakesWrong)

/-- 'breakwaterlaw02.LitLooks': WHATEVER THE INPUT: true; the input reads as it did. -/
def litLooksSpec : ChangeSpec := { name := "litLooks", fn := fun _ => fun
  | [d1, d2] => { results := [.lit (.bool true)], args := [d1, d2] }
  | _ => none }
def litLooksRow : OpenClaim := { program := "ytedgmllonkakjaa", sum := "2aa953b42e8968400ddd50b5b712e67a2fe1ce9321c213ccffeafa9bd7dc49e9", func := "breakwater/breakwaterlaw02.LitLooks", spec := "litLooks", apart := false }
def LitLooksSaid : Prop := litLooksRow.holds Try.pinned (OpenSpec.ofChange litLooksSpec)

/-- ITS FALSE NEIGHBOUR: 'it returns false'. Refute it at one input. -/
def litLooksWrong : ChangeSpec := { name := "litLooks", fn := fun _ => fun
  | [d1, d2] => { results := [.lit (.bool false)], args := [d1, d2] }
  | _ => none }
def LitLooksWrongFalsely : Prop := litLooksRow.holds Try.pinned (OpenSpec.ofChange litLooksWrong)

/-- 'breakwaterlaw02.LitBack': WHATEVER THE INPUT: true; the input reads as it did. -/
def litBackSpec : ChangeSpec := { name := "litBack", fn := fun _ => fun
  | [d1, d2, d3] => { results := [.lit (.bool true)], args := [d1, d2, d3] }
  | _ => none }
def litBackRow : OpenClaim := { program := "ytedgmllonkakjaa", sum := "2aa953b42e8968400ddd50b5b712e67a2fe1ce9321c213ccffeafa9bd7dc49e9", func := "breakwater/breakwaterlaw02.LitBack", spec := "litBack", apart := false }
def LitBackSaid : Prop := litBackRow.holds Try.pinned (OpenSpec.ofChange litBackSpec)

/-- ITS FALSE NEIGHBOUR: 'it returns false'. Refute it at one input. -/
def litBackWrong : ChangeSpec := { name := "litBack", fn := fun _ => fun
  | [d1, d2, d3] => { results := [.lit (.bool false)], args := [d1, d2, d3] }
  | _ => none }
def LitBackWrongFalsely : Prop := litBackRow.holds Try.pinned (OpenSpec.ofChange litBackWrong)

/-- 'breakwaterlaw04.CnfLooks': WHATEVER THE INPUT: true; the input reads as it did. -/
def cnfLooksSpec : ChangeSpec := { name := "cnfLooks", fn := fun _ => fun
  | [d1, d2, d3] => { results := [.lit (.bool true)], args := [d1, d2, d3] }
  | _ => none }
def cnfLooksRow : OpenClaim := { program := "ytedgmllonkakjaa", sum := "2aa953b42e8968400ddd50b5b712e67a2fe1ce9321c213ccffeafa9bd7dc49e9", func := "breakwater/breakwaterlaw04.CnfLooks", spec := "cnfLooks", unfollowed := true, recurses := true, apart := false }
def CnfLooksSaid : Prop := cnfLooksRow.holds Try.pinned (OpenSpec.ofChange cnfLooksSpec)

/-- ITS FALSE NEIGHBOUR: 'it returns false'. Refute it at one input. -/
def cnfLooksWrong : ChangeSpec := { name := "cnfLooks", fn := fun _ => fun
  | [d1, d2, d3] => { results := [.lit (.bool false)], args := [d1, d2, d3] }
  | _ => none }
def CnfLooksWrongFalsely : Prop := cnfLooksRow.holds Try.pinned (OpenSpec.ofChange cnfLooksWrong)

/-- 'breakwaterlaw04.CnfCounts': WHATEVER THE INPUT: true; the input reads as it did. -/
def cnfCountsSpec : ChangeSpec := { name := "cnfCounts", fn := fun _ => fun
  | [d1, d2] => { results := [.lit (.bool true)], args := [d1, d2] }
  | _ => none }
def cnfCountsRow : OpenClaim := { program := "ytedgmllonkakjaa", sum := "2aa953b42e8968400ddd50b5b712e67a2fe1ce9321c213ccffeafa9bd7dc49e9", func := "breakwater/breakwaterlaw04.CnfCounts", spec := "cnfCounts", unfollowed := true, recurses := true, apart := false }
def CnfCountsSaid : Prop := cnfCountsRow.holds Try.pinned (OpenSpec.ofChange cnfCountsSpec)

/-- ITS FALSE NEIGHBOUR: 'it returns false'. Refute it at one input. -/
def cnfCountsWrong : ChangeSpec := { name := "cnfCounts", fn := fun _ => fun
  | [d1, d2] => { results := [.lit (.bool false)], args := [d1, d2] }
  | _ => none }
def CnfCountsWrongFalsely : Prop := cnfCountsRow.holds Try.pinned (OpenSpec.ofChange cnfCountsWrong)

/-- 'breakwaterlaw04.CnfParts': WHATEVER THE INPUT: true; the input reads as it did. -/
def cnfPartsSpec : ChangeSpec := { name := "cnfParts", fn := fun _ => fun
  | [d1, d2, d3] => { results := [.lit (.bool true)], args := [d1, d2, d3] }
  | _ => none }
def cnfPartsRow : OpenClaim := { program := "ytedgmllonkakjaa", sum := "2aa953b42e8968400ddd50b5b712e67a2fe1ce9321c213ccffeafa9bd7dc49e9", func := "breakwater/breakwaterlaw04.CnfParts", spec := "cnfParts", unfollowed := true, recurses := true, apart := false }
def CnfPartsSaid : Prop := cnfPartsRow.holds Try.pinned (OpenSpec.ofChange cnfPartsSpec)

/-- ITS FALSE NEIGHBOUR: 'it returns false'. Refute it at one input. -/
def cnfPartsWrong : ChangeSpec := { name := "cnfParts", fn := fun _ => fun
  | [d1, d2, d3] => { results := [.lit (.bool false)], args := [d1, d2, d3] }
  | _ => none }
def CnfPartsWrongFalsely : Prop := cnfPartsRow.holds Try.pinned (OpenSpec.ofChange cnfPartsWrong)

/-- 'breakwaterlaw44.FlowLooks': WHATEVER THE INPUT: true; the input reads as it did. -/
def flowLooksSpec : ChangeSpec := { name := "flowLooks", fn := fun _ => fun
  | [d1, d2] => { results := [.lit (.bool true)], args := [d1, d2] }
  | _ => none }
def flowLooksRow : OpenClaim := { program := "ytedgmllonkakjaa", sum := "2aa953b42e8968400ddd50b5b712e67a2fe1ce9321c213ccffeafa9bd7dc49e9", func := "breakwater/breakwaterlaw44.FlowLooks", spec := "flowLooks", inPlace := ["internal/bytealg.IndexByteString", "internal/bytealg.IndexString"], unfollowed := true, recurses := true, named := ["internal/bytealg.MaxLen"], apart := false }
def FlowLooksSaid : Prop := flowLooksRow.holds Try.pinned (OpenSpec.ofChange flowLooksSpec)

/-- ITS FALSE NEIGHBOUR: 'it returns false'. Refute it at one input. -/
def flowLooksWrong : ChangeSpec := { name := "flowLooks", fn := fun _ => fun
  | [d1, d2] => { results := [.lit (.bool false)], args := [d1, d2] }
  | _ => none }
def FlowLooksWrongFalsely : Prop := flowLooksRow.holds Try.pinned (OpenSpec.ofChange flowLooksWrong)

/-- 'breakwaterlaw44.FlowRuns': WHATEVER THE INPUT: true; the input reads as it did. -/
def flowRunsSpec : ChangeSpec := { name := "flowRuns", fn := fun _ => fun
  | [d] => { results := [.lit (.bool true)], args := [d] }
  | _ => none }
def flowRunsRow : OpenClaim := { program := "ytedgmllonkakjaa", sum := "2aa953b42e8968400ddd50b5b712e67a2fe1ce9321c213ccffeafa9bd7dc49e9", func := "breakwater/breakwaterlaw44.FlowRuns", spec := "flowRuns", inPlace := ["internal/bytealg.IndexByteString", "internal/bytealg.IndexString"], unfollowed := true, recurses := true, named := ["internal/bytealg.MaxLen"], apart := false }
def FlowRunsSaid : Prop := flowRunsRow.holds Try.pinned (OpenSpec.ofChange flowRunsSpec)

/-- ITS FALSE NEIGHBOUR: 'it returns false'. Refute it at one input. -/
def flowRunsWrong : ChangeSpec := { name := "flowRuns", fn := fun _ => fun
  | [d] => { results := [.lit (.bool false)], args := [d] }
  | _ => none }
def FlowRunsWrongFalsely : Prop := flowRunsRow.holds Try.pinned (OpenSpec.ofChange flowRunsWrong)

/-- 'breakwaterlaw44.FlowBlocks': WHATEVER THE INPUT: true; the input reads as it did. -/
def flowBlocksSpec : ChangeSpec := { name := "flowBlocks", fn := fun _ => fun
  | [d] => { results := [.lit (.bool true)], args := [d] }
  | _ => none }
def flowBlocksRow : OpenClaim := { program := "ytedgmllonkakjaa", sum := "2aa953b42e8968400ddd50b5b712e67a2fe1ce9321c213ccffeafa9bd7dc49e9", func := "breakwater/breakwaterlaw44.FlowBlocks", spec := "flowBlocks", inPlace := ["internal/bytealg.IndexByteString", "internal/bytealg.IndexString"], unfollowed := true, recurses := true, named := ["internal/bytealg.MaxLen"], apart := false }
def FlowBlocksSaid : Prop := flowBlocksRow.holds Try.pinned (OpenSpec.ofChange flowBlocksSpec)

/-- ITS FALSE NEIGHBOUR: 'it returns false'. Refute it at one input. -/
def flowBlocksWrong : ChangeSpec := { name := "flowBlocks", fn := fun _ => fun
  | [d] => { results := [.lit (.bool false)], args := [d] }
  | _ => none }
def FlowBlocksWrongFalsely : Prop := flowBlocksRow.holds Try.pinned (OpenSpec.ofChange flowBlocksWrong)

/- THE SECOND FORM. 'bulk': how many values and letters a reading holds, each counted each time it is reached (what is shared counts as often as it is met; a slice's spare places count too). A statement '..UptoSaid' is the law's where the arguments, and the package variables that the reading takes, are together of bulk at most 1048576: NARROWER than '..Said'. Prove '..Said' where nothing that the law and all that it calls make is longer than what came in: it says more and counts as full. Else prove '..UptoSaid'. A law counts once. -/
mutual
def uptoBulk {H : Type} : DataW H → Nat
  | .lit (.string bytes) => bytes.length + 1
  | .lit _ => 1
  | .nil => 1
  | .ptr d => uptoBulk d + 1
  | .slice elems spare => uptoBulkAll elems + uptoBulkAll spare + 1
  | .agg parts => uptoBulkAll parts + 1
  | .iface _ d => uptoBulk d + 1
  | .map entries => uptoBulkEntries entries + 1
  | .held _ => 1
def uptoBulkAll {H : Type} : List (DataW H) → Nat
  | [] => 0
  | d :: r => uptoBulk d + uptoBulkAll r
def uptoBulkEntries {H : Type} : List (Lit × DataW H) → Nat
  | [] => 0
  | x :: r => uptoBulkEntry x + uptoBulkEntries r
def uptoBulkEntry {H : Type} : Lit × DataW H → Nat
  | (.string bytes, d) => bytes.length + uptoBulk d + 1
  | (_, d) => uptoBulk d + 1
 end
def uptoSmall : (H : Type) → List (DataW H) → Bool := fun _ ds => decide (uptoBulkAll ds ≤ 1048576)
def OpenSpec.upto (s : _root_.Go.ChangeSpec) : _root_.Go.OpenSpec := { _root_.Go.OpenSpec.ofChange s with cond := some uptoSmall }

/-- 'breakwaterlaw01.WordCuts', WHERE WHAT IT READS IS OF BULK AT MOST 1048576: true; the input reads as it did. -/
def wordCutsUptoRow : OpenClaim := { program := "ytedgmllonkakjaa", sum := "2aa953b42e8968400ddd50b5b712e67a2fe1ce9321c213ccffeafa9bd7dc49e9", func := "breakwater/breakwaterlaw01.WordCuts", spec := "wordCuts", apart := false, narrowed := true }
def WordCutsUptoSaid : Prop := wordCutsUptoRow.holds Try.pinned (OpenSpec.upto wordCutsSpec)

/-- 'breakwaterlaw01.WordBinary', WHERE WHAT IT READS IS OF BULK AT MOST 1048576: true; the input reads as it did. -/
def wordBinaryUptoRow : OpenClaim := { program := "ytedgmllonkakjaa", sum := "2aa953b42e8968400ddd50b5b712e67a2fe1ce9321c213ccffeafa9bd7dc49e9", func := "breakwater/breakwaterlaw01.WordBinary", spec := "wordBinary", apart := false, narrowed := true }
def WordBinaryUptoSaid : Prop := wordBinaryUptoRow.holds Try.pinned (OpenSpec.upto wordBinarySpec)

/-- 'breakwaterlaw01.WordUnary', WHERE WHAT IT READS IS OF BULK AT MOST 1048576: true; the input reads as it did. -/
def wordUnaryUptoRow : OpenClaim := { program := "ytedgmllonkakjaa", sum := "2aa953b42e8968400ddd50b5b712e67a2fe1ce9321c213ccffeafa9bd7dc49e9", func := "breakwater/breakwaterlaw01.WordUnary", spec := "wordUnary", apart := false, narrowed := true }
def WordUnaryUptoSaid : Prop := wordUnaryUptoRow.holds Try.pinned (OpenSpec.upto wordUnarySpec)

/-- 'breakwaterlaw01.WordRings', WHERE WHAT IT READS IS OF BULK AT MOST 1048576: true; the input reads as it did. -/
def wordRingsUptoRow : OpenClaim := { program := "ytedgmllonkakjaa", sum := "2aa953b42e8968400ddd50b5b712e67a2fe1ce9321c213ccffeafa9bd7dc49e9", func := "breakwater/breakwaterlaw01.WordRings", spec := "wordRings", apart := false, narrowed := true }
def WordRingsUptoSaid : Prop := wordRingsUptoRow.holds Try.pinned (OpenSpec.upto wordRingsSpec)

/-- 'breakwaterlaw01.WordDivides', WHERE WHAT IT READS IS OF BULK AT MOST 1048576: true; the input reads as it did. -/
def wordDividesUptoRow : OpenClaim := { program := "ytedgmllonkakjaa", sum := "2aa953b42e8968400ddd50b5b712e67a2fe1ce9321c213ccffeafa9bd7dc49e9", func := "breakwater/breakwaterlaw01.WordDivides", spec := "wordDivides", apart := false, narrowed := true }
def WordDividesUptoSaid : Prop := wordDividesUptoRow.holds Try.pinned (OpenSpec.upto wordDividesSpec)

/-- 'breakwaterlaw01.WordMoves', WHERE WHAT IT READS IS OF BULK AT MOST 1048576: true; the input reads as it did. -/
def wordMovesUptoRow : OpenClaim := { program := "ytedgmllonkakjaa", sum := "2aa953b42e8968400ddd50b5b712e67a2fe1ce9321c213ccffeafa9bd7dc49e9", func := "breakwater/breakwaterlaw01.WordMoves", spec := "wordMoves", apart := false, narrowed := true }
def WordMovesUptoSaid : Prop := wordMovesUptoRow.holds Try.pinned (OpenSpec.upto wordMovesSpec)

/-- 'breakwaterlaw02.LitMakes', WHERE WHAT IT READS IS OF BULK AT MOST 1048576: true; the input reads as it did. -/
def litMakesUptoRow : OpenClaim := { program := "ytedgmllonkakjaa", sum := "2aa953b42e8968400ddd50b5b712e67a2fe1ce9321c213ccffeafa9bd7dc49e9", func := "breakwater/breakwaterlaw02.LitMakes", spec := "litMakes", apart := false, narrowed := true }
def LitMakesUptoSaid : Prop := litMakesUptoRow.holds Try.pinned (OpenSpec.upto litMakesSpec)

/-- 'breakwaterlaw02.LitLooks', WHERE WHAT IT READS IS OF BULK AT MOST 1048576: true; the input reads as it did. -/
def litLooksUptoRow : OpenClaim := { program := "ytedgmllonkakjaa", sum := "2aa953b42e8968400ddd50b5b712e67a2fe1ce9321c213ccffeafa9bd7dc49e9", func := "breakwater/breakwaterlaw02.LitLooks", spec := "litLooks", apart := false, narrowed := true }
def LitLooksUptoSaid : Prop := litLooksUptoRow.holds Try.pinned (OpenSpec.upto litLooksSpec)

/-- 'breakwaterlaw02.LitBack', WHERE WHAT IT READS IS OF BULK AT MOST 1048576: true; the input reads as it did. -/
def litBackUptoRow : OpenClaim := { program := "ytedgmllonkakjaa", sum := "2aa953b42e8968400ddd50b5b712e67a2fe1ce9321c213ccffeafa9bd7dc49e9", func := "breakwater/breakwaterlaw02.LitBack", spec := "litBack", apart := false, narrowed := true }
def LitBackUptoSaid : Prop := litBackUptoRow.holds Try.pinned (OpenSpec.upto litBackSpec)

/-- 'breakwaterlaw04.CnfLooks', WHERE WHAT IT READS IS OF BULK AT MOST 1048576: true; the input reads as it did. -/
def cnfLooksUptoRow : OpenClaim := { program := "ytedgmllonkakjaa", sum := "2aa953b42e8968400ddd50b5b712e67a2fe1ce9321c213ccffeafa9bd7dc49e9", func := "breakwater/breakwaterlaw04.CnfLooks", spec := "cnfLooks", unfollowed := true, recurses := true, apart := false, narrowed := true }
def CnfLooksUptoSaid : Prop := cnfLooksUptoRow.holds Try.pinned (OpenSpec.upto cnfLooksSpec)

/-- 'breakwaterlaw04.CnfCounts', WHERE WHAT IT READS IS OF BULK AT MOST 1048576: true; the input reads as it did. -/
def cnfCountsUptoRow : OpenClaim := { program := "ytedgmllonkakjaa", sum := "2aa953b42e8968400ddd50b5b712e67a2fe1ce9321c213ccffeafa9bd7dc49e9", func := "breakwater/breakwaterlaw04.CnfCounts", spec := "cnfCounts", unfollowed := true, recurses := true, apart := false, narrowed := true }
def CnfCountsUptoSaid : Prop := cnfCountsUptoRow.holds Try.pinned (OpenSpec.upto cnfCountsSpec)

/-- 'breakwaterlaw04.CnfParts', WHERE WHAT IT READS IS OF BULK AT MOST 1048576: true; the input reads as it did. -/
def cnfPartsUptoRow : OpenClaim := { program := "ytedgmllonkakjaa", sum := "2aa953b42e8968400ddd50b5b712e67a2fe1ce9321c213ccffeafa9bd7dc49e9", func := "breakwater/breakwaterlaw04.CnfParts", spec := "cnfParts", unfollowed := true, recurses := true, apart := false, narrowed := true }
def CnfPartsUptoSaid : Prop := cnfPartsUptoRow.holds Try.pinned (OpenSpec.upto cnfPartsSpec)

/-- 'breakwaterlaw44.FlowLooks', WHERE WHAT IT READS IS OF BULK AT MOST 1048576: true; the input reads as it did. -/
def flowLooksUptoRow : OpenClaim := { program := "ytedgmllonkakjaa", sum := "2aa953b42e8968400ddd50b5b712e67a2fe1ce9321c213ccffeafa9bd7dc49e9", func := "breakwater/breakwaterlaw44.FlowLooks", spec := "flowLooks", inPlace := ["internal/bytealg.IndexByteString", "internal/bytealg.IndexString"], unfollowed := true, recurses := true, named := ["internal/bytealg.MaxLen"], apart := false, narrowed := true }
def FlowLooksUptoSaid : Prop := flowLooksUptoRow.holds Try.pinned (OpenSpec.upto flowLooksSpec)

/-- 'breakwaterlaw44.FlowRuns', WHERE WHAT IT READS IS OF BULK AT MOST 1048576: true; the input reads as it did. -/
def flowRunsUptoRow : OpenClaim := { program := "ytedgmllonkakjaa", sum := "2aa953b42e8968400ddd50b5b712e67a2fe1ce9321c213ccffeafa9bd7dc49e9", func := "breakwater/breakwaterlaw44.FlowRuns", spec := "flowRuns", inPlace := ["internal/bytealg.IndexByteString", "internal/bytealg.IndexString"], unfollowed := true, recurses := true, named := ["internal/bytealg.MaxLen"], apart := false, narrowed := true }
def FlowRunsUptoSaid : Prop := flowRunsUptoRow.holds Try.pinned (OpenSpec.upto flowRunsSpec)

/-- 'breakwaterlaw44.FlowBlocks', WHERE WHAT IT READS IS OF BULK AT MOST 1048576: true; the input reads as it did. -/
def flowBlocksUptoRow : OpenClaim := { program := "ytedgmllonkakjaa", sum := "2aa953b42e8968400ddd50b5b712e67a2fe1ce9321c213ccffeafa9bd7dc49e9", func := "breakwater/breakwaterlaw44.FlowBlocks", spec := "flowBlocks", inPlace := ["internal/bytealg.IndexByteString", "internal/bytealg.IndexString"], unfollowed := true, recurses := true, named := ["internal/bytealg.MaxLen"], apart := false, narrowed := true }
def FlowBlocksUptoSaid : Prop := flowBlocksUptoRow.holds Try.pinned (OpenSpec.upto flowBlocksSpec)

end Rows
end Go.Proofs.Ytedgmllonkakjaa
