/-
  No cell of these rows narrows 'for every input' (looked for: loops, veiled, ifaces, maps, wideKeys, modest, calm, conditions, laid).
  DERIVED. THE GIVEN ROWS OF THIS SEAT. 10 by the template 'for every input the law returns true; each argument reads behind the call as it read before'; 0 by the template 'total and deterministic' (their statements: YtlgfbiepbneihaaTotals.lean).
  GIVEN WITH THE SEED: the statements are not yours to turn. If you find one false, say at which input.
  Laid BY PROGRAM, IN A SANDBOX (cutbox-rows.mjs): the forced cells as the released guide's own fill.sh prints them over the translation 35864f957a1b35c7… (all of the seat's roots in one cut). By AI agents, Wed Nov 11 2026. No macro, syntax, notation, axiom, sorry.
-/
import Derived.Test.YtlgfbiepbneihaaChecked
import GoSem.Claim
import GoSem.ClaimJoined
import GoSem.ClaimMapViews
import Derived.JoinedTies
import Derived.KernelRfl
namespace Go.Proofs.Ytlgfbiepbneihaa
/- THE CELL 'sum', in the pinned program and in every row, IS THE sha256 OF THE DUMP (.gsa) THAT YtlgfbiepbneihaaProg.lean LOADS. Nothing in Lean hashes anything: it is a label: what it is worth is what the hold of that sum in a sandbox is worth. -/
noncomputable def Try.pinned : Pinned := { name := "ytlgfbiepbneihaa", sum := "35864f957a1b35c785c899a1c8de59dce7aaa767095398c286c3159ace1e6c93", checked := Try.checked }
namespace Rows
def none {H : Type} : Left H := { results := [], args := [] }

/-- 'breakwaterlaw44.FlowLooks': WHATEVER THE INPUT: true; the input reads as it did. -/
def flowLooksSpec : ChangeSpec := { name := "flowLooks", fn := fun _ => fun
  | [d1, d2] => { results := [.lit (.bool true)], args := [d1, d2] }
  | _ => none }
def flowLooksRow : OpenClaim := { program := "ytlgfbiepbneihaa", sum := "35864f957a1b35c785c899a1c8de59dce7aaa767095398c286c3159ace1e6c93", func := "breakwater/breakwaterlaw44.FlowLooks", spec := "flowLooks", inPlace := ["internal/bytealg.IndexByteString", "internal/bytealg.IndexString"], unfollowed := true, recurses := true, named := ["internal/bytealg.MaxLen"], apart := false }
def FlowLooksSaid : Prop := flowLooksRow.holds Try.pinned (OpenSpec.ofChange flowLooksSpec)

/-- ITS FALSE NEIGHBOUR: 'it returns false'. Refute it at one input. -/
def flowLooksWrong : ChangeSpec := { name := "flowLooks", fn := fun _ => fun
  | [d1, d2] => { results := [.lit (.bool false)], args := [d1, d2] }
  | _ => none }
def FlowLooksWrongFalsely : Prop := flowLooksRow.holds Try.pinned (OpenSpec.ofChange flowLooksWrong)

/-- 'breakwaterlaw44.FlowRuns': WHATEVER THE INPUT: true; the input reads as it did. -/
def flowRunsSpec : ChangeSpec := { name := "flowRuns", fn := fun _ => fun
  | [d] => { results := [.lit (.bool true)], args := [d] }
  | _ => none }
def flowRunsRow : OpenClaim := { program := "ytlgfbiepbneihaa", sum := "35864f957a1b35c785c899a1c8de59dce7aaa767095398c286c3159ace1e6c93", func := "breakwater/breakwaterlaw44.FlowRuns", spec := "flowRuns", inPlace := ["internal/bytealg.IndexByteString", "internal/bytealg.IndexString"], unfollowed := true, recurses := true, named := ["internal/bytealg.MaxLen"], apart := false }
def FlowRunsSaid : Prop := flowRunsRow.holds Try.pinned (OpenSpec.ofChange flowRunsSpec)

/-- ITS FALSE NEIGHBOUR: 'it returns false'. Refute it at one input. -/
def flowRunsWrong : ChangeSpec := { name := "flowRuns", fn := fun _ => fun
  | [d] => { results := [.lit (.bool false)], args := [d] }
  | _ => none }
def FlowRunsWrongFalsely : Prop := flowRunsRow.holds Try.pinned (OpenSpec.ofChange flowRunsWrong)

/-- 'breakwaterlaw44.FlowBlocks': WHATEVER THE INPUT: true; the input reads as it did. -/
def flowBlocksSpec : ChangeSpec := { name := "flowBlocks", fn := fun _ => fun
  | [d] => { results := [.lit (.bool true)], args := [d] }
  | _ => none }
def flowBlocksRow : OpenClaim := { program := "ytlgfbiepbneihaa", sum := "35864f957a1b35c785c899a1c8de59dce7aaa767095398c286c3159ace1e6c93", func := "breakwater/breakwaterlaw44.FlowBlocks", spec := "flowBlocks", inPlace := ["internal/bytealg.IndexByteString", "internal/bytealg.IndexString"], unfollowed := true, recurses := true, named := ["internal/bytealg.MaxLen"], apart := false }
def FlowBlocksSaid : Prop := flowBlocksRow.holds Try.pinned (OpenSpec.ofChange flowBlocksSpec)

/-- ITS FALSE NEIGHBOUR: 'it returns false'. Refute it at one input. -/
def flowBlocksWrong : ChangeSpec := { name := "flowBlocks", fn := fun _ => fun
  | [d] => { results := [.lit (.bool false)], args := [d] }
  | _ => none }
def FlowBlocksWrongFalsely : Prop := flowBlocksRow.holds Try.pinned (OpenSpec.ofChange flowBlocksWrong)

/-- 'breakwaterlaw45.LiveLooks': WHATEVER THE INPUT: true; the input reads as it did. -/
def liveLooksSpec : ChangeSpec := { name := "liveLooks", fn := fun _ => fun
  | [d] => { results := [.lit (.bool true)], args := [d] }
  | _ => none }
def liveLooksRow : OpenClaim := { program := "ytlgfbiepbneihaa", sum := "35864f957a1b35c785c899a1c8de59dce7aaa767095398c286c3159ace1e6c93", func := "breakwater/breakwaterlaw45.LiveLooks", spec := "liveLooks", inPlace := ["internal/bytealg.IndexByteString", "internal/bytealg.IndexString"], unfollowed := true, recurses := true, named := ["internal/bytealg.MaxLen"], apart := false }
def LiveLooksSaid : Prop := liveLooksRow.holds Try.pinned (OpenSpec.ofChange liveLooksSpec)

/-- ITS FALSE NEIGHBOUR: 'it returns false'. Refute it at one input. -/
def liveLooksWrong : ChangeSpec := { name := "liveLooks", fn := fun _ => fun
  | [d] => { results := [.lit (.bool false)], args := [d] }
  | _ => none }
def LiveLooksWrongFalsely : Prop := liveLooksRow.holds Try.pinned (OpenSpec.ofChange liveLooksWrong)

/-- 'breakwaterlaw45.LiveMeans': WHATEVER THE INPUT: true; the input reads as it did. -/
def liveMeansSpec : ChangeSpec := { name := "liveMeans", fn := fun _ => fun
  | [d1, d2] => { results := [.lit (.bool true)], args := [d1, d2] }
  | _ => none }
def liveMeansRow : OpenClaim := { program := "ytlgfbiepbneihaa", sum := "35864f957a1b35c785c899a1c8de59dce7aaa767095398c286c3159ace1e6c93", func := "breakwater/breakwaterlaw45.LiveMeans", spec := "liveMeans", inPlace := ["internal/bytealg.IndexByteString", "internal/bytealg.IndexString"], unfollowed := true, recurses := true, named := ["internal/bytealg.MaxLen"], apart := false }
def LiveMeansSaid : Prop := liveMeansRow.holds Try.pinned (OpenSpec.ofChange liveMeansSpec)

/-- ITS FALSE NEIGHBOUR: 'it returns false'. Refute it at one input. -/
def liveMeansWrong : ChangeSpec := { name := "liveMeans", fn := fun _ => fun
  | [d1, d2] => { results := [.lit (.bool false)], args := [d1, d2] }
  | _ => none }
def LiveMeansWrongFalsely : Prop := liveMeansRow.holds Try.pinned (OpenSpec.ofChange liveMeansWrong)

/-- 'breakwaterlaw46.ConstsKnows': WHATEVER THE INPUT: true; the input reads as it did. -/
def constsKnowsSpec : ChangeSpec := { name := "constsKnows", fn := fun _ => fun
  | [d] => { results := [.lit (.bool true)], args := [d] }
  | _ => none }
def constsKnowsRow : OpenClaim := { program := "ytlgfbiepbneihaa", sum := "35864f957a1b35c785c899a1c8de59dce7aaa767095398c286c3159ace1e6c93", func := "breakwater/breakwaterlaw46.ConstsKnows", spec := "constsKnows", inPlace := ["internal/bytealg.IndexByteString", "internal/bytealg.IndexString"], named := ["internal/bytealg.MaxLen"], apart := false }
def ConstsKnowsSaid : Prop := constsKnowsRow.holds Try.pinned (OpenSpec.ofChange constsKnowsSpec)

/-- ITS FALSE NEIGHBOUR: 'it returns false'. Refute it at one input. -/
def constsKnowsWrong : ChangeSpec := { name := "constsKnows", fn := fun _ => fun
  | [d] => { results := [.lit (.bool false)], args := [d] }
  | _ => none }
def ConstsKnowsWrongFalsely : Prop := constsKnowsRow.holds Try.pinned (OpenSpec.ofChange constsKnowsWrong)

/-- 'breakwaterlaw46.ConstsMeans': WHATEVER THE INPUT: true; the input reads as it did. -/
def constsMeansSpec : ChangeSpec := { name := "constsMeans", fn := fun _ => fun
  | [d] => { results := [.lit (.bool true)], args := [d] }
  | _ => none }
def constsMeansRow : OpenClaim := { program := "ytlgfbiepbneihaa", sum := "35864f957a1b35c785c899a1c8de59dce7aaa767095398c286c3159ace1e6c93", func := "breakwater/breakwaterlaw46.ConstsMeans", spec := "constsMeans", inPlace := ["internal/bytealg.IndexByteString", "internal/bytealg.IndexString"], named := ["internal/bytealg.MaxLen"], apart := false }
def ConstsMeansSaid : Prop := constsMeansRow.holds Try.pinned (OpenSpec.ofChange constsMeansSpec)

/-- ITS FALSE NEIGHBOUR: 'it returns false'. Refute it at one input. -/
def constsMeansWrong : ChangeSpec := { name := "constsMeans", fn := fun _ => fun
  | [d] => { results := [.lit (.bool false)], args := [d] }
  | _ => none }
def ConstsMeansWrongFalsely : Prop := constsMeansRow.holds Try.pinned (OpenSpec.ofChange constsMeansWrong)

/-- 'breakwaterlaw33.VmSteps': WHATEVER THE INPUT: true; the input reads as it did. -/
def vmStepsSpec : ChangeSpec := { name := "vmSteps", fn := fun _ => fun
  | [d1, d2, d3] => { results := [.lit (.bool true)], args := [d1, d2, d3] }
  | _ => none }
def vmStepsRow : OpenClaim := { program := "ytlgfbiepbneihaa", sum := "35864f957a1b35c785c899a1c8de59dce7aaa767095398c286c3159ace1e6c93", func := "breakwater/breakwaterlaw33.VmSteps", spec := "vmSteps", inPlace := ["internal/bytealg.IndexByteString", "internal/bytealg.IndexString"], unfollowed := true, recurses := true, named := ["internal/bytealg.MaxLen"], apart := false }
def VmStepsSaid : Prop := vmStepsRow.holds Try.pinned (OpenSpec.ofChange vmStepsSpec)

/-- ITS FALSE NEIGHBOUR: 'it returns false'. Refute it at one input. -/
def vmStepsWrong : ChangeSpec := { name := "vmSteps", fn := fun _ => fun
  | [d1, d2, d3] => { results := [.lit (.bool false)], args := [d1, d2, d3] }
  | _ => none }
def VmStepsWrongFalsely : Prop := vmStepsRow.holds Try.pinned (OpenSpec.ofChange vmStepsWrong)

/-- 'breakwaterlaw33.VmRuns': WHATEVER THE INPUT: true; the input reads as it did. -/
def vmRunsSpec : ChangeSpec := { name := "vmRuns", fn := fun _ => fun
  | [d] => { results := [.lit (.bool true)], args := [d] }
  | _ => none }
def vmRunsRow : OpenClaim := { program := "ytlgfbiepbneihaa", sum := "35864f957a1b35c785c899a1c8de59dce7aaa767095398c286c3159ace1e6c93", func := "breakwater/breakwaterlaw33.VmRuns", spec := "vmRuns", inPlace := ["internal/bytealg.IndexByteString", "internal/bytealg.IndexString"], unfollowed := true, recurses := true, named := ["internal/bytealg.MaxLen"], apart := false }
def VmRunsSaid : Prop := vmRunsRow.holds Try.pinned (OpenSpec.ofChange vmRunsSpec)

/-- ITS FALSE NEIGHBOUR: 'it returns false'. Refute it at one input. -/
def vmRunsWrong : ChangeSpec := { name := "vmRuns", fn := fun _ => fun
  | [d] => { results := [.lit (.bool false)], args := [d] }
  | _ => none }
def VmRunsWrongFalsely : Prop := vmRunsRow.holds Try.pinned (OpenSpec.ofChange vmRunsWrong)

/-- 'breakwaterlaw33.VmParts': WHATEVER THE INPUT: true; the input reads as it did. -/
def vmPartsSpec : ChangeSpec := { name := "vmParts", fn := fun _ => fun
  | [d1, d2] => { results := [.lit (.bool true)], args := [d1, d2] }
  | _ => none }
def vmPartsRow : OpenClaim := { program := "ytlgfbiepbneihaa", sum := "35864f957a1b35c785c899a1c8de59dce7aaa767095398c286c3159ace1e6c93", func := "breakwater/breakwaterlaw33.VmParts", spec := "vmParts", inPlace := ["internal/bytealg.IndexByteString", "internal/bytealg.IndexString"], unfollowed := true, recurses := true, named := ["internal/bytealg.MaxLen"], apart := false }
def VmPartsSaid : Prop := vmPartsRow.holds Try.pinned (OpenSpec.ofChange vmPartsSpec)

/-- ITS FALSE NEIGHBOUR: 'it returns false'. Refute it at one input. -/
def vmPartsWrong : ChangeSpec := { name := "vmParts", fn := fun _ => fun
  | [d1, d2] => { results := [.lit (.bool false)], args := [d1, d2] }
  | _ => none }
def VmPartsWrongFalsely : Prop := vmPartsRow.holds Try.pinned (OpenSpec.ofChange vmPartsWrong)

/- THE SECOND FORM. 'bulk': how many values and letters a reading holds, each counted each time it is reached (what is shared counts as often as it is met; a slice's spare places count too). A statement '..UptoSaid' is the law's where the arguments, and the package variables that the reading takes, are together of bulk at most 1048576: NARROWER than '..Said'. Prove '..Said' where nothing that the law and all that it calls make is longer than what came in: it says more and counts as full. Else prove '..UptoSaid'. A law counts once. -/
mutual
def uptoBulk {H : Type} : DataW H → Nat
  | .lit (.string bytes) => bytes.length + 1
  | .lit _ => 1
  | .nil => 1
  | .ptr d => uptoBulk d + 1
  | .slice elems spare => uptoBulkAll elems + uptoBulkAll spare + 1
  | .agg parts => uptoBulkAll parts + 1
  | .iface _ d => uptoBulk d + 1
  | .map entries => uptoBulkEntries entries + 1
  | .held _ => 1
def uptoBulkAll {H : Type} : List (DataW H) → Nat
  | [] => 0
  | d :: r => uptoBulk d + uptoBulkAll r
def uptoBulkEntries {H : Type} : List (Lit × DataW H) → Nat
  | [] => 0
  | x :: r => uptoBulkEntry x + uptoBulkEntries r
def uptoBulkEntry {H : Type} : Lit × DataW H → Nat
  | (.string bytes, d) => bytes.length + uptoBulk d + 1
  | (_, d) => uptoBulk d + 1
 end
def uptoSmall : (H : Type) → List (DataW H) → Bool := fun _ ds => decide (uptoBulkAll ds ≤ 1048576)
def OpenSpec.upto (s : _root_.Go.ChangeSpec) : _root_.Go.OpenSpec := { _root_.Go.OpenSpec.ofChange s with cond := some uptoSmall }

/-- 'breakwaterlaw44.FlowLooks', WHERE WHAT IT READS IS OF BULK AT MOST 1048576: true; the input reads as it did. -/
def flowLooksUptoRow : OpenClaim := { program := "ytlgfbiepbneihaa", sum := "35864f957a1b35c785c899a1c8de59dce7aaa767095398c286c3159ace1e6c93", func := "breakwater/breakwaterlaw44.FlowLooks", spec := "flowLooks", inPlace := ["internal/bytealg.IndexByteString", "internal/bytealg.IndexString"], unfollowed := true, recurses := true, named := ["internal/bytealg.MaxLen"], apart := false, narrowed := true }
def FlowLooksUptoSaid : Prop := flowLooksUptoRow.holds Try.pinned (OpenSpec.upto flowLooksSpec)

/-- 'breakwaterlaw44.FlowRuns', WHERE WHAT IT READS IS OF BULK AT MOST 1048576: true; the input reads as it did. -/
def flowRunsUptoRow : OpenClaim := { program := "ytlgfbiepbneihaa", sum := "35864f957a1b35c785c899a1c8de59dce7aaa767095398c286c3159ace1e6c93", func := "breakwater/breakwaterlaw44.FlowRuns", spec := "flowRuns", inPlace := ["internal/bytealg.IndexByteString", "internal/bytealg.IndexString"], unfollowed := true, recurses := true, named := ["internal/bytealg.MaxLen"], apart := false, narrowed := true }
def FlowRunsUptoSaid : Prop := flowRunsUptoRow.holds Try.pinned (OpenSpec.upto flowRunsSpec)

/-- 'breakwaterlaw44.FlowBlocks', WHERE WHAT IT READS IS OF BULK AT MOST 1048576: true; the input reads as it did. -/
def flowBlocksUptoRow : OpenClaim := { program := "ytlgfbiepbneihaa", sum := "35864f957a1b35c785c899a1c8de59dce7aaa767095398c286c3159ace1e6c93", func := "breakwater/breakwaterlaw44.FlowBlocks", spec := "flowBlocks", inPlace := ["internal/bytealg.IndexByteString", "internal/bytealg.IndexString"], unfollowed := true, recurses := true, named := ["internal/bytealg.MaxLen"], apart := false, narrowed := true }
def FlowBlocksUptoSaid : Prop := flowBlocksUptoRow.holds Try.pinned (OpenSpec.upto flowBlocksSpec)

/-- 'breakwaterlaw45.LiveLooks', WHERE WHAT IT READS IS OF BULK AT MOST 1048576: true; the input reads as it did. -/
def liveLooksUptoRow : OpenClaim := { program := "ytlgfbiepbneihaa", sum := "35864f957a1b35c785c899a1c8de59dce7aaa767095398c286c3159ace1e6c93", func := "breakwater/breakwaterlaw45.LiveLooks", spec := "liveLooks", inPlace := ["internal/bytealg.IndexByteString", "internal/bytealg.IndexString"], unfollowed := true, recurses := true, named := ["internal/bytealg.MaxLen"], apart := false, narrowed := true }
def LiveLooksUptoSaid : Prop := liveLooksUptoRow.holds Try.pinned (OpenSpec.upto liveLooksSpec)

/-- 'breakwaterlaw45.LiveMeans', WHERE WHAT IT READS IS OF BULK AT MOST 1048576: true; the input reads as it did. -/
def liveMeansUptoRow : OpenClaim := { program := "ytlgfbiepbneihaa", sum := "35864f957a1b35c785c899a1c8de59dce7aaa767095398c286c3159ace1e6c93", func := "breakwater/breakwaterlaw45.LiveMeans", spec := "liveMeans", inPlace := ["internal/bytealg.IndexByteString", "internal/bytealg.IndexString"], unfollowed := true, recurses := true, named := ["internal/bytealg.MaxLen"], apart := false, narrowed := true }
def LiveMeansUptoSaid : Prop := liveMeansUptoRow.holds Try.pinned (OpenSpec.upto liveMeansSpec)

/-- 'breakwaterlaw46.ConstsKnows', WHERE WHAT IT READS IS OF BULK AT MOST 1048576: true; the input reads as it did. -/
def constsKnowsUptoRow : OpenClaim := { program := "ytlgfbiepbneihaa", sum := "35864f957a1b35c785c899a1c8de59dce7aaa767095398c286c3159ace1e6c93", func := "breakwater/breakwaterlaw46.ConstsKnows", spec := "constsKnows", inPlace := ["internal/bytealg.IndexByteString", "internal/bytealg.IndexString"], named := ["internal/bytealg.MaxLen"], apart := false, narrowed := true }
def ConstsKnowsUptoSaid : Prop := constsKnowsUptoRow.holds Try.pinned (OpenSpec.upto constsKnowsSpec)

/-- 'breakwaterlaw46.ConstsMeans', WHERE WHAT IT READS IS OF BULK AT MOST 1048576: true; the input reads as it did. -/
def constsMeansUptoRow : OpenClaim := { program := "ytlgfbiepbneihaa", sum := "35864f957a1b35c785c899a1c8de59dce7aaa767095398c286c3159ace1e6c93", func := "breakwater/breakwaterlaw46.ConstsMeans", spec := "constsMeans", inPlace := ["internal/bytealg.IndexByteString", "internal/bytealg.IndexString"], named := ["internal/bytealg.MaxLen"], apart := false, narrowed := true }
def ConstsMeansUptoSaid : Prop := constsMeansUptoRow.holds Try.pinned (OpenSpec.upto constsMeansSpec)

/-- 'breakwaterlaw33.VmSteps', WHERE WHAT IT READS IS OF BULK AT MOST 1048576: true; the input reads as it did. -/
def vmStepsUptoRow : OpenClaim := { program := "ytlgfbiepbneihaa", sum := "35864f957a1b35c785c899a1c8de59dce7aaa767095398c286c3159ace1e6c93", func := "breakwater/breakwaterlaw33.VmSteps", spec := "vmSteps", inPlace := ["internal/bytealg.IndexByteString", "internal/bytealg.IndexString"], unfollowed := true, recurses := true, named := ["internal/bytealg.MaxLen"], apart := false, narrowed := true }
def VmStepsUptoSaid : Prop := vmStepsUptoRow.holds Try.pinned (OpenSpec.upto vmStepsSpec)

/-- 'breakwaterlaw33.VmRuns', WHERE WHAT IT READS IS OF BULK AT MOST 1048576: true; the input reads as it did. -/
def vmRunsUptoRow : OpenClaim := { program := "ytlgfbiepbneihaa", sum := "35864f957a1b35c785c899a1c8de59dce7aaa767095398c286c3159ace1e6c93", func := "breakwater/breakwaterlaw33.VmRuns", spec := "vmRuns", inPlace := ["internal/bytealg.IndexByteString", "internal/bytealg.IndexString"], unfollowed := true, recurses := true, named := ["internal/bytealg.MaxLen"], apart := false, narrowed := true }
def VmRunsUptoSaid : Prop := vmRunsUptoRow.holds Try.pinned (OpenSpec.upto vmRunsSpec)

/-- 'breakwaterlaw33.VmParts', WHERE WHAT IT READS IS OF BULK AT MOST 1048576: true; the input reads as it did. -/
def vmPartsUptoRow : OpenClaim := { program := "ytlgfbiepbneihaa", sum := "35864f957a1b35c785c899a1c8de59dce7aaa767095398c286c3159ace1e6c93", func := "breakwater/breakwaterlaw33.VmParts", spec := "vmParts", inPlace := ["internal/bytealg.IndexByteString", "internal/bytealg.IndexString"], unfollowed := true, recurses := true, named := ["internal/bytealg.MaxLen"], apart := false, narrowed := true }
def VmPartsUptoSaid : Prop := vmPartsUptoRow.holds Try.pinned (OpenSpec.upto vmPartsSpec)

end Rows
end Go.Proofs.Ytlgfbiepbneihaa
