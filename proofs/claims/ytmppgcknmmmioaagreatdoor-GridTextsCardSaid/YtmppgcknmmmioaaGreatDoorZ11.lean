/- The chapter's examples: ponds. -/
import Derived.Test.YtmppgcknmmmioaaGreatDoorZ10
set_option linter.unusedSimpArgs false
set_option linter.unusedVariables false
set_option linter.unusedSectionVars false
set_option maxRecDepth 100000
namespace Go.Ab.Grid
open Go Go.Ab
theorem mPonds_run : mPonds.check AP K1 300 40 297 = true := by kernel_rfl
end Go.Ab.Grid
