/- The chapter's examples: the bounds, number 2. -/
import Derived.Test.YtmmpjfknmdlpoaaZ10
set_option linter.unusedSimpArgs false
set_option linter.unusedVariables false
set_option linter.unusedSectionVars false
set_option maxRecDepth 100000
namespace Go.Ab.Wave
open Go Go.Ab
def bounds2 : List Value := [I 0, I 0, I 127, I 257, I 127, I 257, I 19, I 41, I 15963, I 15964, I 127, I 257, I 127, I 257, I 19, I 41, I 116926, I 116928, I 321, I 644, I 321, I 644, I 317, I 638, I 216926, I 1099511627776, I 0, I 334, I 300, I 634, I 0, I 573]
def mSpread2 : Memo := ⟨[rowFour, rowStart], [grd, sp 0 0, .agg ⟨[I 1024, I 1024, I 100, I 100, I 10, I 30]⟩, .slice (some ⟨1, 0, some 5⟩) 1 1], .slice (some ⟨2, 0, some 8⟩) 4 4, some bounds2⟩
theorem mSpread2_run : mSpread2.check E.AP K2 300 40 45 = true := by kernel_rfl
theorem mSpread2_ok : mSpread2.Ok E 45 := Memo.ok_of_check K2_ok (isFn 45 (by kernel_rfl)) (by kernel_rfl) mSpread2_run
end Go.Ab.Wave
