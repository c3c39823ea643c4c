/- The chapter's examples: the bounds, number 3. -/
import Derived.Test.YtmmpjfknmdlpoaaZ10
set_option linter.unusedSimpArgs false
set_option linter.unusedVariables false
set_option linter.unusedSectionVars false
set_option maxRecDepth 100000
namespace Go.Ab.Wave
open Go Go.Ab
def bounds3 : List Value := [I 1099511627776, I 1099511627776, I 0, I 0, I 0, I 0, I 0, I 0, I 1099511627776, I 1099511627776, I 0, I 0, I 0, I 0, I 0, I 0, I 1099511627776, I 1099511627776, I 0, I 0, I 0, I 0, I 0, I 0, I 1099511627776, I 1099511627776, I 0, I 0, I 300, I 300, I 0, I 0]
def mSpread3 : Memo := ⟨[rowFour], [grd, sp 0 0, .agg ⟨[I 1024, I 1024, I 100, I 100, I 10, I 30]⟩, .slice none 0 0], .slice (some ⟨1, 0, some 8⟩) 4 4, some bounds3⟩
theorem mSpread3_run : mSpread3.check E.AP K2 300 40 45 = true := by kernel_rfl
theorem mSpread3_ok : mSpread3.Ok E 45 := Memo.ok_of_check K2_ok (isFn 45 (by kernel_rfl)) (by kernel_rfl) mSpread3_run
end Go.Ab.Wave
