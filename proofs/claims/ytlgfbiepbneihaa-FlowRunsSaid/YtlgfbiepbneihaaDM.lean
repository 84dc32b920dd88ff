/- Devices as inputs. -/
import Derived.Test.YtlgfbiepbneihaaDkG
import Derived.Test.YtlgfbiepbneihaaKD
namespace Go.Ab.Try
open Go.Proofs Go.Ab Go.RowKit
set_option linter.unusedVariables false
set_option linter.unusedSimpArgs false
set_option linter.unnecessarySimpa false
end Go.Ab.Try
