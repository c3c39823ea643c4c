/- The chapter's examples hold. -/
import Derived.Test.YtmppgcknmmmioaaGreatDoorZ10
set_option linter.unusedSimpArgs false
set_option linter.unusedVariables false
set_option linter.unusedSectionVars false
set_option maxRecDepth 100000
namespace Go.Ab.Grid
open Go Go.Ab
def mWorks : Memo := ⟨[], [], .bool true, none⟩
theorem mWorks_run : mWorks.check AP K2 300 40 289 = true := by kernel_rfl
end Go.Ab.Grid
