/- Registers that play a part: the example; lengths; registers that play none. -/
import Derived.Test.YtlgfbiepbneihaaLX
import Derived.Test.YtlgfbiepbneihaaVC
namespace Go.Ab.Try
open Go.Proofs Go.Ab
set_option linter.unusedVariables false
set_option linter.unusedSimpArgs false
set_option linter.unnecessarySimpa false
end Go.Ab.Try
