/- A move leans on nothing in memory: it may come up amid what turns there. -/
import Derived.Test.YtlgfbiepbneihaaDE
namespace Go.Ab
open Go.RowKit
set_option linter.unusedVariables false
set_option linter.unusedSimpArgs false
set_option linter.unnecessarySimpa false
section
variable {P : Program} {z : Ini} {ops : List Oper} {i : Nat} {l : List Oper} {s : RS} {o : Oper}
end
end Go.Ab
