/- Registers that an instruction reads, and sets. -/
import Derived.Test.YtlgfbiepbneihaaLvG
namespace Go.Ab.Try
open Go.Proofs Go.Ab
set_option linter.unusedVariables false
set_option linter.unusedSimpArgs false
set_option linter.unnecessarySimpa false
set_option maxRecDepth 100000
attribute [go_sem] bR
end Go.Ab.Try
