/- The reference's machine: a run; sameness; which are few. -/
import Derived.Test.YtlgfbiepbneihaaVmF
namespace Go.Ab.Try
open Go.Proofs Go.Ab
set_option linter.unusedVariables false
set_option linter.unusedSimpArgs false
set_option linter.unnecessarySimpa false
set_option maxRecDepth 100000
end Go.Ab.Try
