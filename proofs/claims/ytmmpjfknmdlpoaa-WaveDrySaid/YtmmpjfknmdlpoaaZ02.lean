/- The program's functions in abstract form: made by a program of ours. -/
import Derived.Test.YtmmpjfknmdlpoaaZ01
set_option linter.unusedSimpArgs false
set_option linter.unusedVariables false
set_option linter.unusedSectionVars false
set_option maxRecDepth 100000
namespace Go.Ab.Wave
open Go.Ab

/-- tidewall/wave.newSheet -/
def F60 : AFunc :=
 .fn 39 [.tmp 10]
 (.seq
 (.ops [
⟨some 5, none, [], .box (.t 0)⟩,
⟨some 6, none, [], .box (.t 1)⟩,
⟨some 7, none, [], .box (.t 2)⟩,
⟨some 8, none, [], .box (.t 3)⟩,
⟨some 10, none, [], .move (.k (.pointer none))⟩])
 (.seq
 (.ops [
⟨some 13, none, [], .fieldAddr (.t 6) 3⟩,
⟨some 14, none, [], .load (.t 13) none⟩,
⟨some 15, none, [], .len (.t 14)⟩,
⟨some 11, none, [], .move (.t 15)⟩])
 (.seq
 (.ops [
⟨some 16, none, [], .load (.t 5) (some 4)⟩,
⟨some 17, none, [], .load (.t 6) (some 4)⟩,
⟨some 18, none, [], .load (.t 7) (some 2)⟩,
⟨some 19, none, [], .load (.t 8) (some 6)⟩,
⟨some 20, none, [], .slit 1 1 [.int .i64 0] [(0, .k (.int .i64 1099511627776))]⟩,
⟨some 21, none, [], .move (.t 11)⟩,
⟨some 22, none, [], .call (.k (.func (.func 83) ⟨[]⟩ ⟨[]⟩)) [.t 20, .t 21] true⟩,
⟨some 23, none, [], .move (.t 11)⟩,
⟨some 24, none, [], .makeS (.t 23) (.t 23) 1 8 [.int .i64 0]⟩,
⟨some 25, none, [], .slit 1 1 [.int .i64 0] [(0, .k (.int .i64 (-1099511627776)))]⟩,
⟨some 26, none, [], .move (.t 11)⟩,
⟨some 27, none, [], .call (.k (.func (.func 83) ⟨[]⟩ ⟨[]⟩)) [.t 25, .t 26] true⟩,
⟨some 28, none, [], .slit 1 1 [.int .i64 0] [(0, .k (.int .i64 (-1099511627776)))]⟩,
⟨some 29, none, [], .move (.t 11)⟩,
⟨some 30, none, [], .call (.k (.func (.func 83) ⟨[]⟩ ⟨[]⟩)) [.t 28, .t 29] true⟩,
⟨some 31, none, [], .build [.nilFunc, .nilFunc, .nilFunc, .bool false, .int .i64 0, .int .i64 0, .int .i64 0, .slice none 0 0, .int .i64 0, .int .i64 0, .int .i64 0, .int .i64 0, .int .i64 0, .int .i64 0, .int .i64 0, .int .i64 0, .slice none 0 0, .slice none 0 0, .slice none 0 0, .slice none 0 0] [(0, 4, .t 16), (4, 4, .t 17), (8, 2, .t 18), (10, 6, .t 19), (16, 1, .t 22), (17, 1, .t 24), (18, 1, .t 27), (19, 1, .t 30)]⟩,
⟨some 32, none, [], .box (.t 31)⟩,
⟨some 12, none, [], .move (.t 32)⟩])
 (.seq
 (.ops [
⟨some 33, none, [], .move (.t 12)⟩,
⟨some 34, none, [], .move (.t 4)⟩,
⟨some 35, none, [], .call (.k (.func (.func 84) ⟨[]⟩ ⟨[]⟩)) [.t 33, .t 34] false⟩])
 (.seq
 (.ops [
⟨some 36, none, [], .move (.t 12)⟩,
⟨some 37, none, [], .call (.k (.func (.func 85) ⟨[]⟩ ⟨[]⟩)) [.t 36] false⟩])
 (.seq
 (.ops [
⟨some 38, none, [], .move (.t 12)⟩,
⟨some 10, none, [], .move (.t 38)⟩])
 .ret))))))

/-- tidewall/wave.below -/
def F61 : AFunc :=
 .fn 2 [.cell 0 (some 4)]
 (.seq
 (.ops [
⟨some 0, none, [], .alloc [.nilFunc, .nilFunc, .nilFunc, .bool false]⟩])
 (.seq
 (.ops [
⟨some 1, none, [], .build [.nilFunc, .nilFunc, .nilFunc, .bool false] [(0, 1, .k (.func (.func 65) ⟨[]⟩ ⟨[]⟩)), (1, 1, .k (.func (.func 86) ⟨[]⟩ ⟨[]⟩)), (2, 1, .k (.func (.func 67) ⟨[]⟩ ⟨[]⟩)), (3, 1, .k (.bool false))]⟩,
⟨none, none, [], .store (.t 0) (.t 1) 4⟩])
 .ret))

/-- tidewall/wave.above -/
def F62 : AFunc :=
 .fn 2 [.cell 0 (some 4)]
 (.seq
 (.ops [
⟨some 0, none, [], .alloc [.nilFunc, .nilFunc, .nilFunc, .bool false]⟩])
 (.seq
 (.ops [
⟨some 1, none, [], .build [.nilFunc, .nilFunc, .nilFunc, .bool false] [(0, 1, .k (.func (.func 67) ⟨[]⟩ ⟨[]⟩)), (1, 1, .k (.func (.func 68) ⟨[]⟩ ⟨[]⟩)), (2, 1, .k (.func (.func 65) ⟨[]⟩ ⟨[]⟩)), (3, 1, .k (.bool true))]⟩,
⟨none, none, [], .store (.t 0) (.t 1) 4⟩])
 .ret))

/-- (*tidewall/wave.sheet).isSea -/
def F63 : AFunc :=
 .fn 9 [.tmp 4]
 (.seq
 (.ops [
⟨some 4, none, [], .move (.k (.bool false))⟩])
 (.seq
 (.ops [
⟨some 5, none, [], .move (.t 0)⟩,
⟨some 6, none, [], .move (.t 1)⟩,
⟨some 7, none, [], .call (.k (.func (.func 87) ⟨[]⟩ ⟨[]⟩)) [.t 5, .t 6] false⟩,
⟨some 8, none, [], .bin .geq (.t 7) (.k (.int .i64 1))⟩,
⟨some 4, none, [], .move (.t 8)⟩])
 .ret))

/-- (*tidewall/wave.sheet).rise -/
def F64 : AFunc :=
 .fn 36 [.tmp 4]
 (.seq
 (.ops [
⟨some 4, none, [], .move (.k (.int .i64 0))⟩])
 (.seq
 (.ops [
⟨some 6, none, [], .move (.t 0)⟩,
⟨some 7, none, [], .move (.t 1)⟩,
⟨some 8, none, [], .call (.k (.func (.func 66) ⟨[]⟩ ⟨[]⟩)) [.t 6, .t 7] false⟩,
⟨some 5, none, [], .move (.t 8)⟩])
 (.seq
 (.seq
 (.ops [
⟨some 9, none, [], .move (.t 0)⟩,
⟨some 10, none, [], .nilCheck (.t 9)⟩,
⟨some 11, none, [], .fieldAddr (.t 10) 0⟩,
⟨some 12, none, [], .fieldAddr (.t 11) 3⟩,
⟨some 13, none, [], .load (.t 12) none⟩])
 (.cond (.t 13)
 (.ops [
⟨some 14, none, [], .move (.t 5)⟩,
⟨some 15, none, [], .max [.k (.int .i64 1), .t 14]⟩,
⟨some 5, none, [], .move (.t 15)⟩])
 .skip))
 (.seq
 (.ops [
⟨some 16, none, [], .move (.t 0)⟩,
⟨some 17, none, [], .nilCheck (.t 16)⟩,
⟨some 18, none, [], .fieldAddr (.t 17) 0⟩,
⟨some 19, none, [], .fieldAddr (.t 18) 1⟩,
⟨some 20, none, [], .load (.t 19) none⟩,
⟨some 21, none, [], .move (.t 0)⟩,
⟨some 22, none, [], .nilCheck (.t 21)⟩,
⟨some 23, none, [], .fieldAddr (.t 22) 17⟩,
⟨some 24, none, [], .load (.t 23) none⟩,
⟨some 25, none, [], .move (.t 1)⟩,
⟨some 26, none, [], .idxS (.t 24) (.t 25) 1⟩,
⟨some 27, none, [], .load (.t 26) none⟩,
⟨some 28, none, [], .move (.t 0)⟩,
⟨some 29, none, [], .nilCheck (.t 28)⟩,
⟨some 30, none, [], .fieldAddr (.t 29) 0⟩,
⟨some 31, none, [], .fieldAddr (.t 30) 2⟩,
⟨some 32, none, [], .load (.t 31) none⟩,
⟨some 33, none, [], .move (.t 5)⟩,
⟨some 34, none, [], .call (.k (.func (.func 88) ⟨[]⟩ ⟨[]⟩)) [.t 32, .t 33] true⟩,
⟨some 35, none, [], .call (.t 20) [.t 27, .t 34] false⟩,
⟨some 4, none, [], .move (.t 35)⟩])
 .ret))))

/-- tidewall/wave.root -/
def F65 : AFunc :=
 .fn 25 [.tmp 2]
 (.seq
 (.ops [
⟨some 2, none, [], .move (.k (.int .i64 0))⟩])
 (.seq
 (.ops [
⟨some 4, none, [], .move (.t 0)⟩,
⟨some 5, none, [], .toF64 (.t 4)⟩,
⟨some 6, none, [], .call (.k (.func (.func 89) ⟨[]⟩ ⟨[]⟩)) [.t 5] false⟩,
⟨some 7, none, [], .toInt .i64 (.t 6)⟩,
⟨some 3, none, [], .move (.t 7)⟩])
 (.seq
 (.block 0
 (.loop
 (.seq
 (.seq
 (.ops [
⟨some 8, none, [], .move (.t 3)⟩,
⟨some 9, none, [], .move (.t 3)⟩,
⟨some 10, none, [], .bin .mul (.t 8) (.t 9)⟩,
⟨some 11, none, [], .move (.t 0)⟩,
⟨some 12, none, [], .bin .gtr (.t 10) (.t 11)⟩])
 (.cond (.t 12)
 .skip
 (.exit 0)))
 (.block 1
 (.ops [
⟨some 13, none, [], .move (.t 3)⟩,
⟨some 14, none, [], .bin .sub (.t 13) (.k (.int .i64 1))⟩,
⟨some 3, none, [], .move (.t 14)⟩])))))
 (.seq
 (.block 2
 (.loop
 (.seq
 (.seq
 (.ops [
⟨some 15, none, [], .move (.t 3)⟩,
⟨some 16, none, [], .bin .add (.t 15) (.k (.int .i64 1))⟩,
⟨some 17, none, [], .move (.t 3)⟩,
⟨some 18, none, [], .bin .add (.t 17) (.k (.int .i64 1))⟩,
⟨some 19, none, [], .bin .mul (.t 16) (.t 18)⟩,
⟨some 20, none, [], .move (.t 0)⟩,
⟨some 21, none, [], .bin .leq (.t 19) (.t 20)⟩])
 (.cond (.t 21)
 .skip
 (.exit 2)))
 (.block 3
 (.ops [
⟨some 22, none, [], .move (.t 3)⟩,
⟨some 23, none, [], .bin .add (.t 22) (.k (.int .i64 1))⟩,
⟨some 3, none, [], .move (.t 23)⟩])))))
 (.seq
 (.ops [
⟨some 24, none, [], .move (.t 3)⟩,
⟨some 2, none, [], .move (.t 24)⟩])
 .ret)))))

/-- (*tidewall/wave.sheet).least -/
def F66 : AFunc :=
 .fn 28 [.tmp 4]
 (.seq
 (.ops [
⟨some 4, none, [], .move (.k (.int .i64 0))⟩])
 (.seq
 (.ops [
⟨some 5, none, [], .move (.t 0)⟩,
⟨some 6, none, [], .nilCheck (.t 5)⟩,
⟨some 7, none, [], .fieldAddr (.t 6) 0⟩,
⟨some 8, none, [], .load (.t 7) (some 4)⟩,
⟨some 9, none, [], .move (.t 0)⟩,
⟨some 10, none, [], .nilCheck (.t 9)⟩,
⟨some 11, none, [], .fieldAddr (.t 10) 8⟩,
⟨some 12, none, [], .load (.t 11) (some 2)⟩,
⟨some 13, none, [], .call (.k (.func (.func 90) ⟨[]⟩ ⟨[]⟩)) [.t 8, .t 12] true⟩,
⟨some 14, none, [], .move (.t 0)⟩,
⟨some 15, none, [], .nilCheck (.t 14)⟩,
⟨some 16, none, [], .fieldAddr (.t 15) 0⟩,
⟨some 17, none, [], .load (.t 16) (some 4)⟩,
⟨some 18, none, [], .move (.t 0)⟩,
⟨some 19, none, [], .nilCheck (.t 18)⟩,
⟨some 20, none, [], .fieldAddr (.t 19) 4⟩,
⟨some 21, none, [], .fieldAddr (.t 20) 3⟩,
⟨some 22, none, [], .load (.t 21) none⟩,
⟨some 23, none, [], .move (.t 1)⟩,
⟨some 24, none, [], .idxS (.t 22) (.t 23) 2⟩,
⟨some 25, none, [], .load (.t 24) (some 2)⟩,
⟨some 26, none, [], .call (.k (.func (.func 91) ⟨[]⟩ ⟨[]⟩)) [.t 17, .t 25] false⟩,
⟨some 27, none, [], .bin .sub (.t 13) (.t 26)⟩,
⟨some 4, none, [], .move (.t 27)⟩])
 .ret))

/-- tidewall/wave.rootUp -/
def F67 : AFunc :=
 .fn 9 [.tmp 2]
 (.seq
 (.ops [
⟨some 2, none, [], .move (.k (.int .i64 0))⟩])
 (.seq
 (.seq
 (.ops [
⟨some 3, none, [], .move (.t 0)⟩,
⟨some 4, none, [], .bin .eql (.t 3) (.k (.int .i64 0))⟩])
 (.cond (.t 4)
 (.seq
 (.ops [
⟨some 2, none, [], .move (.k (.int .i64 0))⟩])
 .ret)
 .skip))
 (.seq
 (.ops [
⟨some 5, none, [], .move (.t 0)⟩,
⟨some 6, none, [], .bin .sub (.t 5) (.k (.int .i64 1))⟩,
⟨some 7, none, [], .call (.k (.func (.func 65) ⟨[]⟩ ⟨[]⟩)) [.t 6] false⟩,
⟨some 8, none, [], .bin .add (.t 7) (.k (.int .i64 1))⟩,
⟨some 2, none, [], .move (.t 8)⟩])
 .ret)))

/-- tidewall/wave.up -/
def F68 : AFunc :=
 .fn 11 [.tmp 4]
 (.seq
 (.ops [
⟨some 4, none, [], .move (.k (.int .i64 0))⟩])
 (.seq
 (.ops [
⟨some 5, none, [], .move (.t 0)⟩,
⟨some 6, none, [], .move (.t 1)⟩,
⟨some 7, none, [], .bin .add (.t 5) (.t 6)⟩,
⟨some 8, none, [], .bin .sub (.t 7) (.k (.int .i64 1))⟩,
⟨some 9, none, [], .move (.t 1)⟩,
⟨some 10, none, [], .bin .quo (.t 8) (.t 9)⟩,
⟨some 4, none, [], .move (.t 10)⟩])
 .ret))

/-- (*tidewall/tidewallref05.work).can -/
def F69 : AFunc :=
 .fn 14 [.tmp 4]
 (.seq
 (.ops [
⟨some 4, none, [], .move (.k (.bool false))⟩])
 (.seq
 (.ops [
⟨some 5, none, [], .move (.t 0)⟩,
⟨some 6, none, [], .nilCheck (.t 5)⟩,
⟨some 7, none, [], .fieldAddr (.t 6) 12⟩,
⟨some 8, none, [], .load (.t 7) none⟩,
⟨some 9, none, [], .move (.t 1)⟩,
⟨some 10, none, [], .idxS (.t 8) (.t 9) 2⟩,
⟨some 11, none, [], .fieldAddr (.t 10) 1⟩,
⟨some 12, none, [], .load (.t 11) none⟩,
⟨some 13, none, [], .bin .geq (.t 12) (.k (.int .i64 1))⟩,
⟨some 4, none, [], .move (.t 13)⟩])
 .ret))

/-- tidewall/tidewallref05.fourthUp -/
def F70 : AFunc :=
 .fn 7 [.tmp 2]
 (.seq
 (.ops [
⟨some 2, none, [], .move (.k (.int .i64 0))⟩])
 (.seq
 (.ops [
⟨some 3, none, [], .move (.t 0)⟩,
⟨some 4, none, [], .bin .shl (.t 3) (.k (.int .u64 40))⟩,
⟨some 5, none, [], .call (.k (.func (.func 80) ⟨[]⟩ ⟨[]⟩)) [.t 4] false⟩,
⟨some 6, none, [], .call (.k (.func (.func 80) ⟨[]⟩ ⟨[]⟩)) [.t 5] false⟩,
⟨some 2, none, [], .move (.t 6)⟩])
 .ret))

/-- (*tidewall/tidewallref05.work).sure -/
def F71 : AFunc :=
 .fn 14 [.tmp 4]
 (.seq
 (.ops [
⟨some 4, none, [], .move (.k (.bool false))⟩])
 (.seq
 (.ops [
⟨some 5, none, [], .move (.t 0)⟩,
⟨some 6, none, [], .nilCheck (.t 5)⟩,
⟨some 7, none, [], .fieldAddr (.t 6) 12⟩,
⟨some 8, none, [], .load (.t 7) none⟩,
⟨some 9, none, [], .move (.t 1)⟩,
⟨some 10, none, [], .idxS (.t 8) (.t 9) 2⟩,
⟨some 11, none, [], .fieldAddr (.t 10) 0⟩,
⟨some 12, none, [], .load (.t 11) none⟩,
⟨some 13, none, [], .bin .geq (.t 12) (.k (.int .i64 1))⟩,
⟨some 4, none, [], .move (.t 13)⟩])
 .ret))

/-- tidewall/tidewallref05.fourth -/
def F72 : AFunc :=
 .fn 7 [.tmp 2]
 (.seq
 (.ops [
⟨some 2, none, [], .move (.k (.int .i64 0))⟩])
 (.seq
 (.ops [
⟨some 3, none, [], .move (.t 0)⟩,
⟨some 4, none, [], .bin .shl (.t 3) (.k (.int .u64 40))⟩,
⟨some 5, none, [], .call (.k (.func (.func 78) ⟨[]⟩ ⟨[]⟩)) [.t 4] false⟩,
⟨some 6, none, [], .call (.k (.func (.func 78) ⟨[]⟩ ⟨[]⟩)) [.t 5] false⟩,
⟨some 2, none, [], .move (.t 6)⟩])
 .ret))

/-- tidewall/tidewallref01.Neighbors -/
def F73 : AFunc :=
 .fn 55 [.tmp 4]
 (.seq
 (.ops [
⟨some 2, none, [], .box (.t 0)⟩,
⟨some 4, none, [], .move (.k (.slice none 0 0))⟩])
 (.seq
 (.ops [
⟨some 5, none, [], .move (.k (.slice none 0 0))⟩])
 (.seq
 (.ops [
⟨some 8, none, [], .move (.t 1)⟩,
⟨some 9, none, [], .fieldAddr (.t 2) 0⟩,
⟨some 10, none, [], .load (.t 9) none⟩,
⟨some 11, none, [], .bin .rem (.t 8) (.t 10)⟩,
⟨some 12, none, [], .move (.t 1)⟩,
⟨some 13, none, [], .fieldAddr (.t 2) 0⟩,
⟨some 14, none, [], .load (.t 13) none⟩,
⟨some 15, none, [], .bin .quo (.t 12) (.t 14)⟩,
⟨some 6, none, [], .move (.t 11)⟩,
⟨some 7, none, [], .move (.t 15)⟩])
 (.seq
 (.seq
 (.ops [
⟨some 16, none, [], .move (.t 6)⟩,
⟨some 17, none, [], .bin .add (.t 16) (.k (.int .i64 1))⟩,
⟨some 18, none, [], .fieldAddr (.t 2) 0⟩,
⟨some 19, none, [], .load (.t 18) none⟩,
⟨some 20, none, [], .bin .lss (.t 17) (.t 19)⟩])
 (.cond (.t 20)
 (.ops [
⟨some 21, none, [], .move (.t 5)⟩,
⟨some 22, none, [], .move (.t 1)⟩,
⟨some 23, none, [], .bin .add (.t 22) (.k (.int .i64 1))⟩,
⟨some 24, none, [], .slit 1 1 [.int .i64 0] [(0, .t 23)]⟩,
⟨some 25, none, [], .append (.t 21) (.t 24) 1 8⟩,
⟨some 5, none, [], .move (.t 25)⟩])
 .skip))
 (.seq
 (.seq
 (.ops [
⟨some 26, none, [], .move (.t 7)⟩,
⟨some 27, none, [], .bin .add (.t 26) (.k (.int .i64 1))⟩,
⟨some 28, none, [], .fieldAddr (.t 2) 1⟩,
⟨some 29, none, [], .load (.t 28) none⟩,
⟨some 30, none, [], .bin .lss (.t 27) (.t 29)⟩])
 (.cond (.t 30)
 (.ops [
⟨some 31, none, [], .move (.t 5)⟩,
⟨some 32, none, [], .move (.t 1)⟩,
⟨some 33, none, [], .fieldAddr (.t 2) 0⟩,
⟨some 34, none, [], .load (.t 33) none⟩,
⟨some 35, none, [], .bin .add (.t 32) (.t 34)⟩,
⟨some 36, none, [], .slit 1 1 [.int .i64 0] [(0, .t 35)]⟩,
⟨some 37, none, [], .append (.t 31) (.t 36) 1 8⟩,
⟨some 5, none, [], .move (.t 37)⟩])
 .skip))
 (.seq
 (.seq
 (.ops [
⟨some 38, none, [], .move (.t 6)⟩,
⟨some 39, none, [], .bin .gtr (.t 38) (.k (.int .i64 0))⟩])
 (.cond (.t 39)
 (.ops [
⟨some 40, none, [], .move (.t 5)⟩,
⟨some 41, none, [], .move (.t 1)⟩,
⟨some 42, none, [], .bin .sub (.t 41) (.k (.int .i64 1))⟩,
⟨some 43, none, [], .slit 1 1 [.int .i64 0] [(0, .t 42)]⟩,
⟨some 44, none, [], .append (.t 40) (.t 43) 1 8⟩,
⟨some 5, none, [], .move (.t 44)⟩])
 .skip))
 (.seq
 (.seq
 (.ops [
⟨some 45, none, [], .move (.t 7)⟩,
⟨some 46, none, [], .bin .gtr (.t 45) (.k (.int .i64 0))⟩])
 (.cond (.t 46)
 (.ops [
⟨some 47, none, [], .move (.t 5)⟩,
⟨some 48, none, [], .move (.t 1)⟩,
⟨some 49, none, [], .fieldAddr (.t 2) 0⟩,
⟨some 50, none, [], .load (.t 49) none⟩,
⟨some 51, none, [], .bin .sub (.t 48) (.t 50)⟩,
⟨some 52, none, [], .slit 1 1 [.int .i64 0] [(0, .t 51)]⟩,
⟨some 53, none, [], .append (.t 47) (.t 52) 1 8⟩,
⟨some 5, none, [], .move (.t 53)⟩])
 .skip))
 (.seq
 (.ops [
⟨some 54, none, [], .move (.t 5)⟩,
⟨some 4, none, [], .move (.t 54)⟩])
 .ret))))))))

/-- (*tidewall/tidewallref05.work).pass -/
def F74 : AFunc :=
 .fn 264 [.tmp 6]
 (.seq
 (.ops [
⟨some 6, none, [], .move (.k (.bool false))⟩])
 (.seq
 (.ops [
⟨some 12, none, [], .move (.t 0)⟩,
⟨some 13, none, [], .nilCheck (.t 12)⟩,
⟨some 14, none, [], .fieldAddr (.t 13) 13⟩,
⟨some 15, none, [], .load (.t 14) none⟩,
⟨some 16, none, [], .move (.t 2)⟩,
⟨some 17, none, [], .idxS (.t 15) (.t 16) 1⟩,
⟨some 18, none, [], .load (.t 17) none⟩,
⟨some 19, none, [], .move (.t 0)⟩,
⟨some 20, none, [], .nilCheck (.t 19)⟩,
⟨some 21, none, [], .fieldAddr (.t 20) 14⟩,
⟨some 22, none, [], .load (.t 21) none⟩,
⟨some 23, none, [], .move (.t 2)⟩,
⟨some 24, none, [], .idxS (.t 22) (.t 23) 1⟩,
⟨some 25, none, [], .load (.t 24) none⟩,
⟨some 26, none, [], .move (.t 0)⟩,
⟨some 27, none, [], .nilCheck (.t 26)⟩,
⟨some 28, none, [], .fieldAddr (.t 27) 15⟩,
⟨some 29, none, [], .load (.t 28) none⟩,
⟨some 30, none, [], .move (.t 2)⟩,
⟨some 31, none, [], .idxS (.t 29) (.t 30) 1⟩,
⟨some 32, none, [], .load (.t 31) none⟩,
⟨some 33, none, [], .move (.t 0)⟩,
⟨some 34, none, [], .nilCheck (.t 33)⟩,
⟨some 35, none, [], .fieldAddr (.t 34) 16⟩,
⟨some 36, none, [], .load (.t 35) none⟩,
⟨some 37, none, [], .move (.t 2)⟩,
⟨some 38, none, [], .idxS (.t 36) (.t 37) 1⟩,
⟨some 39, none, [], .load (.t 38) none⟩,
⟨some 40, none, [], .build [.int .i64 0, .int .i64 0, .int .i64 0, .int .i64 0] [(0, 1, .t 18), (1, 1, .t 25), (2, 1, .t 32), (3, 1, .t 39)]⟩,
⟨some 7, none, [], .alloc [.int .i64 0, .int .i64 0, .int .i64 0, .int .i64 0]⟩,
⟨none, none, [], .store (.t 7) (.t 40) 4⟩])
 (.seq
 (.seq
 (.ops [
⟨some 41, none, [], .move (.t 0)⟩,
⟨some 42, none, [], .move (.t 1)⟩,
⟨some 43, none, [], .call (.k (.func (.func 69) ⟨[]⟩ ⟨[]⟩)) [.t 41, .t 42] false⟩,
⟨some 44, none, [], .move (.t 43)⟩,
⟨some 45, (some (44, true)), [], .move (.t 0)⟩,
⟨some 46, (some (44, true)), [], .move (.t 2)⟩,
⟨some 47, (some (44, true)), [], .call (.k (.func (.func 69) ⟨[]⟩ ⟨[]⟩)) [.t 45, .t 46] false⟩,
⟨some 48, none, [], .pick (.t 44) (.t 47) (.k (.bool false))⟩,
⟨some 49, none, [], .move (.t 48)⟩,
⟨some 50, (some (49, true)), [], .move (.t 0)⟩,
⟨some 51, (some (49, true)), [], .nilCheck (.t 50)⟩,
⟨some 52, (some (49, true)), [], .fieldAddr (.t 51) 13⟩,
⟨some 53, (some (49, true)), [], .load (.t 52) none⟩,
⟨some 54, (some (49, true)), [], .move (.t 1)⟩,
⟨some 55, (some (49, true)), [], .idxS (.t 53) (.t 54) 1⟩,
⟨some 56, (some (49, true)), [], .load (.t 55) none⟩,
⟨some 57, (some (49, true)), [], .bin .lss (.t 56) (.k (.int .i64 1099511627776))⟩,
⟨some 58, none, [], .pick (.t 49) (.t 57) (.k (.bool false))⟩])
 (.cond (.t 58)
 (.seq
 (.ops [
⟨some 60, none, [], .move (.t 0)⟩,
⟨some 61, none, [], .nilCheck (.t 60)⟩,
⟨some 62, none, [], .fieldAddr (.t 61) 0⟩,
⟨some 63, none, [], .fieldAddr (.t 62) 2⟩,
⟨some 64, none, [], .load (.t 63) none⟩,
⟨some 65, none, [], .move (.t 0)⟩,
⟨some 66, none, [], .nilCheck (.t 65)⟩,
⟨some 67, none, [], .fieldAddr (.t 66) 12⟩,
⟨some 68, none, [], .load (.t 67) none⟩,
⟨some 69, none, [], .move (.t 1)⟩,
⟨some 70, none, [], .idxS (.t 68) (.t 69) 2⟩,
⟨some 71, none, [], .fieldAddr (.t 70) 1⟩,
⟨some 72, none, [], .load (.t 71) none⟩,
⟨some 73, none, [], .move (.t 0)⟩,
⟨some 74, none, [], .nilCheck (.t 73)⟩,
⟨some 75, none, [], .fieldAddr (.t 74) 12⟩,
⟨some 76, none, [], .load (.t 75) none⟩,
⟨some 77, none, [], .move (.t 2)⟩,
⟨some 78, none, [], .idxS (.t 76) (.t 77) 2⟩,
⟨some 79, none, [], .fieldAddr (.t 78) 1⟩,
⟨some 80, none, [], .load (.t 79) none⟩,
⟨some 81, none, [], .min [.t 72, .t 80]⟩,
⟨some 82, none, [], .call (.k (.func (.func 92) ⟨[]⟩ ⟨[]⟩)) [.t 64, .t 81] false⟩,
⟨some 59, none, [], .move (.t 82)⟩,
⟨some 83, none, [], .extract (.t 59) 0⟩,
⟨some 84, none, [], .extract (.t 59) 1⟩,
⟨some 8, none, [], .move (.t 83)⟩,
⟨some 9, none, [], .move (.t 84)⟩])
 (.seq
 (.ops [
⟨some 85, none, [], .move (.t 0)⟩,
⟨some 86, none, [], .nilCheck (.t 85)⟩,
⟨some 87, none, [], .fieldAddr (.t 86) 13⟩,
⟨some 88, none, [], .load (.t 87) none⟩,
⟨some 89, none, [], .move (.t 2)⟩,
⟨some 90, none, [], .move (.t 0)⟩,
⟨some 91, none, [], .nilCheck (.t 90)⟩,
⟨some 92, none, [], .fieldAddr (.t 91) 13⟩,
⟨some 93, none, [], .load (.t 92) none⟩,
⟨some 94, none, [], .move (.t 2)⟩,
⟨some 95, none, [], .idxS (.t 93) (.t 94) 1⟩,
⟨some 96, none, [], .load (.t 95) none⟩,
⟨some 97, none, [], .move (.t 0)⟩,
⟨some 98, none, [], .nilCheck (.t 97)⟩,
⟨some 99, none, [], .fieldAddr (.t 98) 13⟩,
⟨some 100, none, [], .load (.t 99) none⟩,
⟨some 101, none, [], .move (.t 1)⟩,
⟨some 102, none, [], .idxS (.t 100) (.t 101) 1⟩,
⟨some 103, none, [], .load (.t 102) none⟩,
⟨some 104, none, [], .move (.t 8)⟩,
⟨some 105, none, [], .bin .add (.t 103) (.t 104)⟩,
⟨some 106, none, [], .min [.t 96, .t 105]⟩,
⟨some 107, none, [], .idxS (.t 88) (.t 89) 1⟩,
⟨none, none, [], .store (.t 107) (.t 106) 1⟩])
 (.ops [
⟨some 108, none, [], .move (.t 0)⟩,
⟨some 109, none, [], .nilCheck (.t 108)⟩,
⟨some 110, none, [], .fieldAddr (.t 109) 16⟩,
⟨some 111, none, [], .load (.t 110) none⟩,
⟨some 112, none, [], .move (.t 2)⟩,
⟨some 113, none, [], .move (.t 0)⟩,
⟨some 114, none, [], .nilCheck (.t 113)⟩,
⟨some 115, none, [], .fieldAddr (.t 114) 16⟩,
⟨some 116, none, [], .load (.t 115) none⟩,
⟨some 117, none, [], .move (.t 2)⟩,
⟨some 118, none, [], .idxS (.t 116) (.t 117) 1⟩,
⟨some 119, none, [], .load (.t 118) none⟩,
⟨some 120, none, [], .move (.t 0)⟩,
⟨some 121, none, [], .nilCheck (.t 120)⟩,
⟨some 122, none, [], .fieldAddr (.t 121) 16⟩,
⟨some 123, none, [], .load (.t 122) none⟩,
⟨some 124, none, [], .move (.t 1)⟩,
⟨some 125, none, [], .idxS (.t 123) (.t 124) 1⟩,
⟨some 126, none, [], .load (.t 125) none⟩,
⟨some 127, none, [], .move (.t 0)⟩,
⟨some 128, none, [], .nilCheck (.t 127)⟩,
⟨some 129, none, [], .fieldAddr (.t 128) 6⟩,
⟨some 130, none, [], .fieldAddr (.t 129) 0⟩,
⟨some 131, none, [], .fieldAddr (.t 130) 1⟩,
⟨some 132, none, [], .load (.t 131) none⟩,
⟨some 133, none, [], .bin .mul (.t 126) (.t 132)⟩,
⟨some 134, none, [], .call (.k (.func (.func 81) ⟨[]⟩ ⟨[]⟩)) [.t 133, .k (.int .i64 1024)] true⟩,
⟨some 135, none, [], .max [.t 119, .t 134]⟩,
⟨some 136, none, [], .idxS (.t 111) (.t 112) 1⟩,
⟨none, none, [], .store (.t 136) (.t 135) 1⟩])))
 .skip))
 (.seq
 (.seq
 (.ops [
⟨some 137, none, [], .move (.t 0)⟩,
⟨some 138, none, [], .move (.t 1)⟩,
⟨some 139, none, [], .call (.k (.func (.func 71) ⟨[]⟩ ⟨[]⟩)) [.t 137, .t 138] false⟩,
⟨some 140, none, [], .move (.t 139)⟩,
⟨some 141, (some (140, true)), [], .move (.t 0)⟩,
⟨some 142, (some (140, true)), [], .move (.t 2)⟩,
⟨some 143, (some (140, true)), [], .call (.k (.func (.func 71) ⟨[]⟩ ⟨[]⟩)) [.t 141, .t 142] false⟩,
⟨some 144, none, [], .pick (.t 140) (.t 143) (.k (.bool false))⟩,
⟨some 145, none, [], .move (.t 144)⟩,
⟨some 146, (some (145, true)), [], .move (.t 0)⟩,
⟨some 147, (some (145, true)), [], .nilCheck (.t 146)⟩,
⟨some 148, (some (145, true)), [], .fieldAddr (.t 147) 14⟩,
⟨some 149, (some (145, true)), [], .load (.t 148) none⟩,
⟨some 150, (some (145, true)), [], .move (.t 1)⟩,
⟨some 151, (some (145, true)), [], .idxS (.t 149) (.t 150) 1⟩,
⟨some 152, (some (145, true)), [], .load (.t 151) none⟩,
⟨some 153, (some (145, true)), [], .bin .lss (.t 152) (.k (.int .i64 1099511627776))⟩,
⟨some 154, none, [], .pick (.t 145) (.t 153) (.k (.bool false))⟩])
 (.cond (.t 154)
 (.seq
 (.ops [
⟨some 156, none, [], .move (.t 0)⟩,
⟨some 157, none, [], .nilCheck (.t 156)⟩,
⟨some 158, none, [], .fieldAddr (.t 157) 0⟩,
⟨some 159, none, [], .fieldAddr (.t 158) 2⟩,
⟨some 160, none, [], .load (.t 159) none⟩,
⟨some 161, none, [], .move (.t 0)⟩,
⟨some 162, none, [], .nilCheck (.t 161)⟩,
⟨some 163, none, [], .fieldAddr (.t 162) 12⟩,
⟨some 164, none, [], .load (.t 163) none⟩,
⟨some 165, none, [], .move (.t 1)⟩,
⟨some 166, none, [], .idxS (.t 164) (.t 165) 2⟩,
⟨some 167, none, [], .fieldAddr (.t 166) 0⟩,
⟨some 168, none, [], .load (.t 167) none⟩,
⟨some 169, none, [], .move (.t 0)⟩,
⟨some 170, none, [], .nilCheck (.t 169)⟩,
⟨some 171, none, [], .fieldAddr (.t 170) 12⟩,
⟨some 172, none, [], .load (.t 171) none⟩,
⟨some 173, none, [], .move (.t 2)⟩,
⟨some 174, none, [], .idxS (.t 172) (.t 173) 2⟩,
⟨some 175, none, [], .fieldAddr (.t 174) 0⟩,
⟨some 176, none, [], .load (.t 175) none⟩,
⟨some 177, none, [], .min [.t 168, .t 176]⟩,
⟨some 178, none, [], .call (.k (.func (.func 92) ⟨[]⟩ ⟨[]⟩)) [.t 160, .t 177] false⟩,
⟨some 155, none, [], .move (.t 178)⟩,
⟨some 179, none, [], .extract (.t 155) 0⟩,
⟨some 180, none, [], .extract (.t 155) 1⟩,
⟨some 10, none, [], .move (.t 179)⟩,
⟨some 11, none, [], .move (.t 180)⟩])
 (.seq
 (.ops [
⟨some 181, none, [], .move (.t 0)⟩,
⟨some 182, none, [], .nilCheck (.t 181)⟩,
⟨some 183, none, [], .fieldAddr (.t 182) 14⟩,
⟨some 184, none, [], .load (.t 183) none⟩,
⟨some 185, none, [], .move (.t 2)⟩,
⟨some 186, none, [], .move (.t 0)⟩,
⟨some 187, none, [], .nilCheck (.t 186)⟩,
⟨some 188, none, [], .fieldAddr (.t 187) 14⟩,
⟨some 189, none, [], .load (.t 188) none⟩,
⟨some 190, none, [], .move (.t 2)⟩,
⟨some 191, none, [], .idxS (.t 189) (.t 190) 1⟩,
⟨some 192, none, [], .load (.t 191) none⟩,
⟨some 193, none, [], .move (.t 0)⟩,
⟨some 194, none, [], .nilCheck (.t 193)⟩,
⟨some 195, none, [], .fieldAddr (.t 194) 14⟩,
⟨some 196, none, [], .load (.t 195) none⟩,
⟨some 197, none, [], .move (.t 1)⟩,
⟨some 198, none, [], .idxS (.t 196) (.t 197) 1⟩,
⟨some 199, none, [], .load (.t 198) none⟩,
⟨some 200, none, [], .move (.t 11)⟩,
⟨some 201, none, [], .bin .add (.t 199) (.t 200)⟩,
⟨some 202, none, [], .min [.t 192, .t 201]⟩,
⟨some 203, none, [], .idxS (.t 184) (.t 185) 1⟩,
⟨none, none, [], .store (.t 203) (.t 202) 1⟩])
 (.ops [
⟨some 204, none, [], .move (.t 0)⟩,
⟨some 205, none, [], .nilCheck (.t 204)⟩,
⟨some 206, none, [], .fieldAddr (.t 205) 15⟩,
⟨some 207, none, [], .load (.t 206) none⟩,
⟨some 208, none, [], .move (.t 2)⟩,
⟨some 209, none, [], .move (.t 0)⟩,
⟨some 210, none, [], .nilCheck (.t 209)⟩,
⟨some 211, none, [], .fieldAddr (.t 210) 15⟩,
⟨some 212, none, [], .load (.t 211) none⟩,
⟨some 213, none, [], .move (.t 2)⟩,
⟨some 214, none, [], .idxS (.t 212) (.t 213) 1⟩,
⟨some 215, none, [], .load (.t 214) none⟩,
⟨some 216, none, [], .move (.t 0)⟩,
⟨some 217, none, [], .nilCheck (.t 216)⟩,
⟨some 218, none, [], .fieldAddr (.t 217) 15⟩,
⟨some 219, none, [], .load (.t 218) none⟩,
⟨some 220, none, [], .move (.t 1)⟩,
⟨some 221, none, [], .idxS (.t 219) (.t 220) 1⟩,
⟨some 222, none, [], .load (.t 221) none⟩,
⟨some 223, none, [], .move (.t 0)⟩,
⟨some 224, none, [], .nilCheck (.t 223)⟩,
⟨some 225, none, [], .fieldAddr (.t 224) 6⟩,
⟨some 226, none, [], .fieldAddr (.t 225) 0⟩,
⟨some 227, none, [], .fieldAddr (.t 226) 0⟩,
⟨some 228, none, [], .load (.t 227) none⟩,
⟨some 229, none, [], .bin .mul (.t 222) (.t 228)⟩,
⟨some 230, none, [], .bin .quo (.t 229) (.k (.int .i64 1024))⟩,
⟨some 231, none, [], .max [.t 215, .t 230]⟩,
⟨some 232, none, [], .idxS (.t 207) (.t 208) 1⟩,
⟨none, none, [], .store (.t 232) (.t 231) 1⟩])))
 .skip))
 (.seq
 (.ops [
⟨some 233, none, [], .load (.t 7) (some 4)⟩,
⟨some 234, none, [], .move (.t 0)⟩,
⟨some 235, none, [], .nilCheck (.t 234)⟩,
⟨some 236, none, [], .fieldAddr (.t 235) 13⟩,
⟨some 237, none, [], .load (.t 236) none⟩,
⟨some 238, none, [], .move (.t 2)⟩,
⟨some 239, none, [], .idxS (.t 237) (.t 238) 1⟩,
⟨some 240, none, [], .load (.t 239) none⟩,
⟨some 241, none, [], .move (.t 0)⟩,
⟨some 242, none, [], .nilCheck (.t 241)⟩,
⟨some 243, none, [], .fieldAddr (.t 242) 14⟩,
⟨some 244, none, [], .load (.t 243) none⟩,
⟨some 245, none, [], .move (.t 2)⟩,
⟨some 246, none, [], .idxS (.t 244) (.t 245) 1⟩,
⟨some 247, none, [], .load (.t 246) none⟩,
⟨some 248, none, [], .move (.t 0)⟩,
⟨some 249, none, [], .nilCheck (.t 248)⟩,
⟨some 250, none, [], .fieldAddr (.t 249) 15⟩,
⟨some 251, none, [], .load (.t 250) none⟩,
⟨some 252, none, [], .move (.t 2)⟩,
⟨some 253, none, [], .idxS (.t 251) (.t 252) 1⟩,
⟨some 254, none, [], .load (.t 253) none⟩,
⟨some 255, none, [], .move (.t 0)⟩,
⟨some 256, none, [], .nilCheck (.t 255)⟩,
⟨some 257, none, [], .fieldAddr (.t 256) 16⟩,
⟨some 258, none, [], .load (.t 257) none⟩,
⟨some 259, none, [], .move (.t 2)⟩,
⟨some 260, none, [], .idxS (.t 258) (.t 259) 1⟩,
⟨some 261, none, [], .load (.t 260) none⟩,
⟨some 262, none, [], .build [.int .i64 0, .int .i64 0, .int .i64 0, .int .i64 0] [(0, 1, .t 240), (1, 1, .t 247), (2, 1, .t 254), (3, 1, .t 261)]⟩,
⟨some 263, none, [], .eqv true [false, false, false, false] (.t 233) (.t 262)⟩,
⟨some 6, none, [], .move (.t 263)⟩])
 .ret)))))

/-- (*tidewall/tidewallref05.work).high -/
def F75 : AFunc :=
 .fn 23 [.tmp 4]
 (.seq
 (.ops [
⟨some 4, none, [], .move (.k (.int .i64 0))⟩])
 (.seq
 (.ops [
⟨some 5, none, [], .move (.t 0)⟩,
⟨some 6, none, [], .nilCheck (.t 5)⟩,
⟨some 7, none, [], .fieldAddr (.t 6) 16⟩,
⟨some 8, none, [], .load (.t 7) none⟩,
⟨some 9, none, [], .move (.t 1)⟩,
⟨some 10, none, [], .idxS (.t 8) (.t 9) 1⟩,
⟨some 11, none, [], .load (.t 10) none⟩,
⟨some 12, none, [], .move (.t 0)⟩,
⟨some 13, none, [], .nilCheck (.t 12)⟩,
⟨some 14, none, [], .fieldAddr (.t 13) 12⟩,
⟨some 15, none, [], .load (.t 14) none⟩,
⟨some 16, none, [], .move (.t 1)⟩,
⟨some 17, none, [], .idxS (.t 15) (.t 16) 2⟩,
⟨some 18, none, [], .fieldAddr (.t 17) 0⟩,
⟨some 19, none, [], .load (.t 18) none⟩,
⟨some 20, none, [], .max [.k (.int .i64 1), .t 19]⟩,
⟨some 21, none, [], .call (.k (.func (.func 72) ⟨[]⟩ ⟨[]⟩)) [.t 20] true⟩,
⟨some 22, none, [], .call (.k (.func (.func 81) ⟨[]⟩ ⟨[]⟩)) [.t 11, .t 21] false⟩,
⟨some 4, none, [], .move (.t 22)⟩])
 .ret))

/-- (*tidewall/tidewallref05.work).low -/
def F76 : AFunc :=
 .fn 22 [.tmp 4]
 (.seq
 (.ops [
⟨some 4, none, [], .move (.k (.int .i64 0))⟩])
 (.seq
 (.ops [
⟨some 5, none, [], .move (.t 0)⟩,
⟨some 6, none, [], .nilCheck (.t 5)⟩,
⟨some 7, none, [], .fieldAddr (.t 6) 15⟩,
⟨some 8, none, [], .load (.t 7) none⟩,
⟨some 9, none, [], .move (.t 1)⟩,
⟨some 10, none, [], .idxS (.t 8) (.t 9) 1⟩,
⟨some 11, none, [], .load (.t 10) none⟩,
⟨some 12, none, [], .move (.t 0)⟩,
⟨some 13, none, [], .nilCheck (.t 12)⟩,
⟨some 14, none, [], .fieldAddr (.t 13) 12⟩,
⟨some 15, none, [], .load (.t 14) none⟩,
⟨some 16, none, [], .move (.t 1)⟩,
⟨some 17, none, [], .idxS (.t 15) (.t 16) 2⟩,
⟨some 18, none, [], .fieldAddr (.t 17) 1⟩,
⟨some 19, none, [], .load (.t 18) none⟩,
⟨some 20, none, [], .call (.k (.func (.func 70) ⟨[]⟩ ⟨[]⟩)) [.t 19] true⟩,
⟨some 21, none, [], .bin .quo (.t 11) (.t 20)⟩,
⟨some 4, none, [], .move (.t 21)⟩])
 .ret))

/-- (*tidewall/tidewallref05.work).spill -/
def F77 : AFunc :=
 .fn 277 [.tmp 6]
 (.seq
 (.ops [
⟨some 6, none, [], .move (.k (.bool false))⟩])
 (.seq
 (.ops [
⟨some 9, none, [], .move (.t 0)⟩,
⟨some 10, none, [], .nilCheck (.t 9)⟩,
⟨some 11, none, [], .fieldAddr (.t 10) 17⟩,
⟨some 12, none, [], .load (.t 11) none⟩,
⟨some 13, none, [], .move (.t 2)⟩,
⟨some 14, none, [], .idxS (.t 12) (.t 13) 1⟩,
⟨some 15, none, [], .load (.t 14) none⟩,
⟨some 16, none, [], .move (.t 0)⟩,
⟨some 17, none, [], .nilCheck (.t 16)⟩,
⟨some 18, none, [], .fieldAddr (.t 17) 18⟩,
⟨some 19, none, [], .load (.t 18) none⟩,
⟨some 20, none, [], .move (.t 2)⟩,
⟨some 21, none, [], .idxS (.t 19) (.t 20) 1⟩,
⟨some 22, none, [], .load (.t 21) none⟩,
⟨some 23, none, [], .move (.t 0)⟩,
⟨some 24, none, [], .nilCheck (.t 23)⟩,
⟨some 25, none, [], .fieldAddr (.t 24) 19⟩,
⟨some 26, none, [], .load (.t 25) none⟩,
⟨some 27, none, [], .move (.t 2)⟩,
⟨some 28, none, [], .idxS (.t 26) (.t 27) 1⟩,
⟨some 29, none, [], .load (.t 28) none⟩,
⟨some 30, none, [], .move (.t 0)⟩,
⟨some 31, none, [], .nilCheck (.t 30)⟩,
⟨some 32, none, [], .fieldAddr (.t 31) 20⟩,
⟨some 33, none, [], .load (.t 32) none⟩,
⟨some 34, none, [], .move (.t 2)⟩,
⟨some 35, none, [], .idxS (.t 33) (.t 34) 1⟩,
⟨some 36, none, [], .load (.t 35) none⟩,
⟨some 37, none, [], .move (.t 0)⟩,
⟨some 38, none, [], .nilCheck (.t 37)⟩,
⟨some 39, none, [], .fieldAddr (.t 38) 21⟩,
⟨some 40, none, [], .load (.t 39) none⟩,
⟨some 41, none, [], .move (.t 2)⟩,
⟨some 42, none, [], .idxS (.t 40) (.t 41) 1⟩,
⟨some 43, none, [], .load (.t 42) none⟩,
⟨some 44, none, [], .build [.int .i64 0, .int .i64 0, .int .i64 0, .int .i64 0, .int .i64 0] [(0, 1, .t 15), (1, 1, .t 22), (2, 1, .t 29), (3, 1, .t 36), (4, 1, .t 43)]⟩,
⟨some 7, none, [], .alloc [.int .i64 0, .int .i64 0, .int .i64 0, .int .i64 0, .int .i64 0]⟩,
⟨none, none, [], .store (.t 7) (.t 44) 5⟩])
 (.seq
 (.ops [
⟨some 45, none, [], .move (.t 0)⟩,
⟨some 46, none, [], .nilCheck (.t 45)⟩,
⟨some 47, none, [], .fieldAddr (.t 46) 17⟩,
⟨some 48, none, [], .load (.t 47) none⟩,
⟨some 49, none, [], .move (.t 1)⟩,
⟨some 50, none, [], .idxS (.t 48) (.t 49) 1⟩,
⟨some 51, none, [], .load (.t 50) none⟩,
⟨some 52, none, [], .move (.t 0)⟩,
⟨some 53, none, [], .nilCheck (.t 52)⟩,
⟨some 54, none, [], .fieldAddr (.t 53) 6⟩,
⟨some 55, none, [], .fieldAddr (.t 54) 4⟩,
⟨some 56, none, [], .fieldAddr (.t 55) 0⟩,
⟨some 57, none, [], .load (.t 56) none⟩,
⟨some 58, none, [], .bin .sub (.t 51) (.t 57)⟩,
⟨some 8, none, [], .move (.t 58)⟩])
 (.seq
 (.seq
 (.ops [
⟨some 59, none, [], .move (.t 0)⟩,
⟨some 60, none, [], .move (.t 2)⟩,
⟨some 61, none, [], .call (.k (.func (.func 71) ⟨[]⟩ ⟨[]⟩)) [.t 59, .t 60] false⟩,
⟨some 62, none, [], .not (.t 61)⟩,
⟨some 63, none, [], .move (.t 62)⟩,
⟨some 64, (some (63, true)), [], .move (.t 0)⟩,
⟨some 65, (some (63, true)), [], .nilCheck (.t 64)⟩,
⟨some 66, (some (63, true)), [], .fieldAddr (.t 65) 17⟩,
⟨some 67, (some (63, true)), [], .load (.t 66) none⟩,
⟨some 68, (some (63, true)), [], .move (.t 1)⟩,
⟨some 69, (some (63, true)), [], .idxS (.t 67) (.t 68) 1⟩,
⟨some 70, (some (63, true)), [], .load (.t 69) none⟩,
⟨some 71, (some (63, true)), [], .bin .neq (.t 70) (.k (.int .i64 (-1099511627776)))⟩,
⟨some 72, none, [], .pick (.t 63) (.t 71) (.k (.bool false))⟩,
⟨some 73, none, [], .move (.t 72)⟩,
⟨some 74, (some (73, true)), [], .move (.t 8)⟩,
⟨some 75, (some (73, true)), [], .move (.t 0)⟩,
⟨some 76, (some (73, true)), [], .nilCheck (.t 75)⟩,
⟨some 77, (some (73, true)), [], .fieldAddr (.t 76) 0⟩,
⟨some 78, (some (73, true)), [], .fieldAddr (.t 77) 3⟩,
⟨some 79, (some (73, true)), [], .load (.t 78) none⟩,
⟨some 80, (some (73, true)), [], .move (.t 2)⟩,
⟨some 81, (some (73, true)), [], .idxS (.t 79) (.t 80) 2⟩,
⟨some 82, (some (73, true)), [], .fieldAddr (.t 81) 0⟩,
⟨some 83, (some (73, true)), [], .load (.t 82) none⟩,
⟨some 84, (some (73, true)), [], .bin .gtr (.t 74) (.t 83)⟩,
⟨some 85, none, [], .pick (.t 73) (.t 84) (.k (.bool false))⟩])
 (.cond (.t 85)
 (.seq
 (.ops [
⟨some 86, none, [], .move (.t 0)⟩,
⟨some 87, none, [], .nilCheck (.t 86)⟩,
⟨some 88, none, [], .fieldAddr (.t 87) 18⟩,
⟨some 89, none, [], .load (.t 88) none⟩,
⟨some 90, none, [], .move (.t 2)⟩,
⟨some 91, none, [], .move (.t 0)⟩,
⟨some 92, none, [], .nilCheck (.t 91)⟩,
⟨some 93, none, [], .fieldAddr (.t 92) 18⟩,
⟨some 94, none, [], .load (.t 93) none⟩,
⟨some 95, none, [], .move (.t 2)⟩,
⟨some 96, none, [], .idxS (.t 94) (.t 95) 1⟩,
⟨some 97, none, [], .load (.t 96) none⟩,
⟨some 98, none, [], .move (.t 8)⟩,
⟨some 99, none, [], .max [.t 97, .t 98]⟩,
⟨some 100, none, [], .idxS (.t 89) (.t 90) 1⟩,
⟨none, none, [], .store (.t 100) (.t 99) 1⟩])
 (.seq
 (.ops [
⟨some 101, none, [], .move (.t 0)⟩,
⟨some 102, none, [], .nilCheck (.t 101)⟩,
⟨some 103, none, [], .fieldAddr (.t 102) 17⟩,
⟨some 104, none, [], .load (.t 103) none⟩,
⟨some 105, none, [], .move (.t 2)⟩,
⟨some 106, none, [], .move (.t 0)⟩,
⟨some 107, none, [], .nilCheck (.t 106)⟩,
⟨some 108, none, [], .fieldAddr (.t 107) 17⟩,
⟨some 109, none, [], .load (.t 108) none⟩,
⟨some 110, none, [], .move (.t 2)⟩,
⟨some 111, none, [], .idxS (.t 109) (.t 110) 1⟩,
⟨some 112, none, [], .load (.t 111) none⟩,
⟨some 113, none, [], .move (.t 8)⟩,
⟨some 114, none, [], .max [.t 112, .t 113]⟩,
⟨some 115, none, [], .idxS (.t 104) (.t 105) 1⟩,
⟨none, none, [], .store (.t 115) (.t 114) 1⟩])
 (.ops [
⟨some 116, none, [], .move (.t 0)⟩,
⟨some 117, none, [], .nilCheck (.t 116)⟩,
⟨some 118, none, [], .fieldAddr (.t 117) 20⟩,
⟨some 119, none, [], .load (.t 118) none⟩,
⟨some 120, none, [], .move (.t 2)⟩,
⟨some 121, none, [], .move (.t 0)⟩,
⟨some 122, none, [], .nilCheck (.t 121)⟩,
⟨some 123, none, [], .fieldAddr (.t 122) 20⟩,
⟨some 124, none, [], .load (.t 123) none⟩,
⟨some 125, none, [], .move (.t 2)⟩,
⟨some 126, none, [], .idxS (.t 124) (.t 125) 1⟩,
⟨some 127, none, [], .load (.t 126) none⟩,
⟨some 128, none, [], .move (.t 0)⟩,
⟨some 129, none, [], .nilCheck (.t 128)⟩,
⟨some 130, none, [], .fieldAddr (.t 129) 20⟩,
⟨some 131, none, [], .load (.t 130) none⟩,
⟨some 132, none, [], .move (.t 1)⟩,
⟨some 133, none, [], .idxS (.t 131) (.t 132) 1⟩,
⟨some 134, none, [], .load (.t 133) none⟩,
⟨some 135, none, [], .move (.t 0)⟩,
⟨some 136, none, [], .nilCheck (.t 135)⟩,
⟨some 137, none, [], .fieldAddr (.t 136) 6⟩,
⟨some 138, none, [], .fieldAddr (.t 137) 2⟩,
⟨some 139, none, [], .fieldAddr (.t 138) 0⟩,
⟨some 140, none, [], .load (.t 139) none⟩,
⟨some 141, none, [], .move (.t 0)⟩,
⟨some 142, none, [], .nilCheck (.t 141)⟩,
⟨some 143, none, [], .fieldAddr (.t 142) 0⟩,
⟨some 144, none, [], .fieldAddr (.t 143) 2⟩,
⟨some 145, none, [], .load (.t 144) none⟩,
⟨some 146, none, [], .bin .mul (.t 140) (.t 145)⟩,
⟨some 147, none, [], .bin .add (.t 134) (.t 146)⟩,
⟨some 148, none, [], .min [.t 127, .t 147]⟩,
⟨some 149, none, [], .idxS (.t 119) (.t 120) 1⟩,
⟨none, none, [], .store (.t 149) (.t 148) 1⟩])))
 .skip))
 (.seq
 (.ops [
⟨some 150, none, [], .move (.t 0)⟩,
⟨some 151, none, [], .nilCheck (.t 150)⟩,
⟨some 152, none, [], .fieldAddr (.t 151) 19⟩,
⟨some 153, none, [], .load (.t 152) none⟩,
⟨some 154, none, [], .move (.t 1)⟩,
⟨some 155, none, [], .idxS (.t 153) (.t 154) 1⟩,
⟨some 156, none, [], .load (.t 155) none⟩,
⟨some 157, none, [], .move (.t 0)⟩,
⟨some 158, none, [], .nilCheck (.t 157)⟩,
⟨some 159, none, [], .fieldAddr (.t 158) 6⟩,
⟨some 160, none, [], .fieldAddr (.t 159) 4⟩,
⟨some 161, none, [], .fieldAddr (.t 160) 1⟩,
⟨some 162, none, [], .load (.t 161) none⟩,
⟨some 163, none, [], .bin .sub (.t 156) (.t 162)⟩,
⟨some 8, none, [], .move (.t 163)⟩])
 (.seq
 (.seq
 (.ops [
⟨some 164, none, [], .move (.t 0)⟩,
⟨some 165, none, [], .move (.t 2)⟩,
⟨some 166, none, [], .call (.k (.func (.func 79) ⟨[]⟩ ⟨[]⟩)) [.t 164, .t 165] false⟩,
⟨some 167, none, [], .move (.t 166)⟩,
⟨some 168, (some (167, true)), [], .move (.t 0)⟩,
⟨some 169, (some (167, true)), [], .nilCheck (.t 168)⟩,
⟨some 170, (some (167, true)), [], .fieldAddr (.t 169) 19⟩,
⟨some 171, (some (167, true)), [], .load (.t 170) none⟩,
⟨some 172, (some (167, true)), [], .move (.t 1)⟩,
⟨some 173, (some (167, true)), [], .idxS (.t 171) (.t 172) 1⟩,
⟨some 174, (some (167, true)), [], .load (.t 173) none⟩,
⟨some 175, (some (167, true)), [], .bin .neq (.t 174) (.k (.int .i64 (-1099511627776)))⟩,
⟨some 176, none, [], .pick (.t 167) (.t 175) (.k (.bool false))⟩,
⟨some 177, none, [], .move (.t 176)⟩,
⟨some 178, (some (177, true)), [], .move (.t 8)⟩,
⟨some 179, (some (177, true)), [], .move (.t 0)⟩,
⟨some 180, (some (177, true)), [], .nilCheck (.t 179)⟩,
⟨some 181, (some (177, true)), [], .fieldAddr (.t 180) 0⟩,
⟨some 182, (some (177, true)), [], .fieldAddr (.t 181) 3⟩,
⟨some 183, (some (177, true)), [], .load (.t 182) none⟩,
⟨some 184, (some (177, true)), [], .move (.t 2)⟩,
⟨some 185, (some (177, true)), [], .idxS (.t 183) (.t 184) 2⟩,
⟨some 186, (some (177, true)), [], .fieldAddr (.t 185) 1⟩,
⟨some 187, (some (177, true)), [], .load (.t 186) none⟩,
⟨some 188, (some (177, true)), [], .bin .gtr (.t 178) (.t 187)⟩,
⟨some 189, none, [], .pick (.t 177) (.t 188) (.k (.bool false))⟩])
 (.cond (.t 189)
 (.seq
 (.ops [
⟨some 190, none, [], .move (.t 0)⟩,
⟨some 191, none, [], .nilCheck (.t 190)⟩,
⟨some 192, none, [], .fieldAddr (.t 191) 19⟩,
⟨some 193, none, [], .load (.t 192) none⟩,
⟨some 194, none, [], .move (.t 2)⟩,
⟨some 195, none, [], .move (.t 0)⟩,
⟨some 196, none, [], .nilCheck (.t 195)⟩,
⟨some 197, none, [], .fieldAddr (.t 196) 19⟩,
⟨some 198, none, [], .load (.t 197) none⟩,
⟨some 199, none, [], .move (.t 2)⟩,
⟨some 200, none, [], .idxS (.t 198) (.t 199) 1⟩,
⟨some 201, none, [], .load (.t 200) none⟩,
⟨some 202, none, [], .move (.t 8)⟩,
⟨some 203, none, [], .max [.t 201, .t 202]⟩,
⟨some 204, none, [], .idxS (.t 193) (.t 194) 1⟩,
⟨none, none, [], .store (.t 204) (.t 203) 1⟩])
 (.ops [
⟨some 205, none, [], .move (.t 0)⟩,
⟨some 206, none, [], .nilCheck (.t 205)⟩,
⟨some 207, none, [], .fieldAddr (.t 206) 21⟩,
⟨some 208, none, [], .load (.t 207) none⟩,
⟨some 209, none, [], .move (.t 2)⟩,
⟨some 210, none, [], .move (.t 0)⟩,
⟨some 211, none, [], .nilCheck (.t 210)⟩,
⟨some 212, none, [], .fieldAddr (.t 211) 21⟩,
⟨some 213, none, [], .load (.t 212) none⟩,
⟨some 214, none, [], .move (.t 2)⟩,
⟨some 215, none, [], .idxS (.t 213) (.t 214) 1⟩,
⟨some 216, none, [], .load (.t 215) none⟩,
⟨some 217, none, [], .move (.t 0)⟩,
⟨some 218, none, [], .nilCheck (.t 217)⟩,
⟨some 219, none, [], .fieldAddr (.t 218) 21⟩,
⟨some 220, none, [], .load (.t 219) none⟩,
⟨some 221, none, [], .move (.t 1)⟩,
⟨some 222, none, [], .idxS (.t 220) (.t 221) 1⟩,
⟨some 223, none, [], .load (.t 222) none⟩,
⟨some 224, none, [], .move (.t 0)⟩,
⟨some 225, none, [], .nilCheck (.t 224)⟩,
⟨some 226, none, [], .fieldAddr (.t 225) 6⟩,
⟨some 227, none, [], .fieldAddr (.t 226) 2⟩,
⟨some 228, none, [], .fieldAddr (.t 227) 1⟩,
⟨some 229, none, [], .load (.t 228) none⟩,
⟨some 230, none, [], .move (.t 0)⟩,
⟨some 231, none, [], .nilCheck (.t 230)⟩,
⟨some 232, none, [], .fieldAddr (.t 231) 0⟩,
⟨some 233, none, [], .fieldAddr (.t 232) 2⟩,
⟨some 234, none, [], .load (.t 233) none⟩,
⟨some 235, none, [], .bin .mul (.t 229) (.t 234)⟩,
⟨some 236, none, [], .bin .add (.t 223) (.t 235)⟩,
⟨some 237, none, [], .min [.t 216, .t 236]⟩,
⟨some 238, none, [], .idxS (.t 208) (.t 209) 1⟩,
⟨none, none, [], .store (.t 238) (.t 237) 1⟩]))
 .skip))
 (.seq
 (.ops [
⟨some 239, none, [], .load (.t 7) (some 5)⟩,
⟨some 240, none, [], .move (.t 0)⟩,
⟨some 241, none, [], .nilCheck (.t 240)⟩,
⟨some 242, none, [], .fieldAddr (.t 241) 17⟩,
⟨some 243, none, [], .load (.t 242) none⟩,
⟨some 244, none, [], .move (.t 2)⟩,
⟨some 245, none, [], .idxS (.t 243) (.t 244) 1⟩,
⟨some 246, none, [], .load (.t 245) none⟩,
⟨some 247, none, [], .move (.t 0)⟩,
⟨some 248, none, [], .nilCheck (.t 247)⟩,
⟨some 249, none, [], .fieldAddr (.t 248) 18⟩,
⟨some 250, none, [], .load (.t 249) none⟩,
⟨some 251, none, [], .move (.t 2)⟩,
⟨some 252, none, [], .idxS (.t 250) (.t 251) 1⟩,
⟨some 253, none, [], .load (.t 252) none⟩,
⟨some 254, none, [], .move (.t 0)⟩,
⟨some 255, none, [], .nilCheck (.t 254)⟩,
⟨some 256, none, [], .fieldAddr (.t 255) 19⟩,
⟨some 257, none, [], .load (.t 256) none⟩,
⟨some 258, none, [], .move (.t 2)⟩,
⟨some 259, none, [], .idxS (.t 257) (.t 258) 1⟩,
⟨some 260, none, [], .load (.t 259) none⟩,
⟨some 261, none, [], .move (.t 0)⟩,
⟨some 262, none, [], .nilCheck (.t 261)⟩,
⟨some 263, none, [], .fieldAddr (.t 262) 20⟩,
⟨some 264, none, [], .load (.t 263) none⟩,
⟨some 265, none, [], .move (.t 2)⟩,
⟨some 266, none, [], .idxS (.t 264) (.t 265) 1⟩,
⟨some 267, none, [], .load (.t 266) none⟩,
⟨some 268, none, [], .move (.t 0)⟩,
⟨some 269, none, [], .nilCheck (.t 268)⟩,
⟨some 270, none, [], .fieldAddr (.t 269) 21⟩,
⟨some 271, none, [], .load (.t 270) none⟩,
⟨some 272, none, [], .move (.t 2)⟩,
⟨some 273, none, [], .idxS (.t 271) (.t 272) 1⟩,
⟨some 274, none, [], .load (.t 273) none⟩,
⟨some 275, none, [], .build [.int .i64 0, .int .i64 0, .int .i64 0, .int .i64 0, .int .i64 0] [(0, 1, .t 246), (1, 1, .t 253), (2, 1, .t 260), (3, 1, .t 267), (4, 1, .t 274)]⟩,
⟨some 276, none, [], .eqv true [false, false, false, false, false] (.t 239) (.t 275)⟩,
⟨some 6, none, [], .move (.t 276)⟩])
 .ret)))))))

/-- tidewall/tidewallref05.Root -/
def F78 : AFunc :=
 .fn 22 [.tmp 2]
 (.seq
 (.ops [
⟨some 2, none, [], .move (.k (.int .i64 0))⟩])
 (.seq
 (.ops [
⟨some 3, none, [], .move (.k (.int .i64 0))⟩,
⟨some 4, none, [], .move (.k (.int .i64 2147483648))⟩])
 (.seq
 (.block 0
 (.loop
 (.seq
 (.seq
 (.ops [
⟨some 6, none, [], .move (.t 4)⟩,
⟨some 7, none, [], .move (.t 3)⟩,
⟨some 8, none, [], .bin .sub (.t 6) (.t 7)⟩,
⟨some 9, none, [], .bin .gtr (.t 8) (.k (.int .i64 1))⟩])
 (.cond (.t 9)
 .skip
 (.exit 0)))
 (.block 1
 (.seq
 (.ops [
⟨some 10, none, [], .move (.t 3)⟩,
⟨some 11, none, [], .move (.t 4)⟩,
⟨some 12, none, [], .bin .add (.t 10) (.t 11)⟩,
⟨some 13, none, [], .bin .quo (.t 12) (.k (.int .i64 2))⟩,
⟨some 5, none, [], .move (.t 13)⟩])
 (.seq
 (.ops [
⟨some 14, none, [], .move (.t 5)⟩,
⟨some 15, none, [], .move (.t 5)⟩,
⟨some 16, none, [], .bin .mul (.t 14) (.t 15)⟩,
⟨some 17, none, [], .move (.t 0)⟩,
⟨some 18, none, [], .bin .leq (.t 16) (.t 17)⟩])
 (.cond (.t 18)
 (.ops [
⟨some 19, none, [], .move (.t 5)⟩,
⟨some 3, none, [], .move (.t 19)⟩])
 (.ops [
⟨some 20, none, [], .move (.t 5)⟩,
⟨some 4, none, [], .move (.t 20)⟩]))))))))
 (.seq
 (.ops [
⟨some 21, none, [], .move (.t 3)⟩,
⟨some 2, none, [], .move (.t 21)⟩])
 .ret))))

/-- (*tidewall/tidewallref05.work).land -/
def F79 : AFunc :=
 .fn 14 [.tmp 4]
 (.seq
 (.ops [
⟨some 4, none, [], .move (.k (.bool false))⟩])
 (.seq
 (.ops [
⟨some 5, none, [], .move (.t 0)⟩,
⟨some 6, none, [], .nilCheck (.t 5)⟩,
⟨some 7, none, [], .fieldAddr (.t 6) 12⟩,
⟨some 8, none, [], .load (.t 7) none⟩,
⟨some 9, none, [], .move (.t 1)⟩,
⟨some 10, none, [], .idxS (.t 8) (.t 9) 2⟩,
⟨some 11, none, [], .fieldAddr (.t 10) 1⟩,
⟨some 12, none, [], .load (.t 11) none⟩,
⟨some 13, none, [], .bin .leq (.t 12) (.k (.int .i64 0))⟩,
⟨some 4, none, [], .move (.t 13)⟩])
 .ret))

/-- tidewall/tidewallref05.RootUp -/
def F80 : AFunc :=
 .fn 14 [.tmp 2]
 (.seq
 (.ops [
⟨some 2, none, [], .move (.k (.int .i64 0))⟩])
 (.seq
 (.ops [
⟨some 4, none, [], .move (.t 0)⟩,
⟨some 5, none, [], .call (.k (.func (.func 78) ⟨[]⟩ ⟨[]⟩)) [.t 4] false⟩,
⟨some 3, none, [], .move (.t 5)⟩])
 (.seq
 (.seq
 (.ops [
⟨some 6, none, [], .move (.t 3)⟩,
⟨some 7, none, [], .move (.t 3)⟩,
⟨some 8, none, [], .bin .mul (.t 6) (.t 7)⟩,
⟨some 9, none, [], .move (.t 0)⟩,
⟨some 10, none, [], .bin .lss (.t 8) (.t 9)⟩])
 (.cond (.t 10)
 (.ops [
⟨some 11, none, [], .move (.t 3)⟩,
⟨some 12, none, [], .bin .add (.t 11) (.k (.int .i64 1))⟩,
⟨some 3, none, [], .move (.t 12)⟩])
 .skip))
 (.seq
 (.ops [
⟨some 13, none, [], .move (.t 3)⟩,
⟨some 2, none, [], .move (.t 13)⟩])
 .ret))))

/-- tidewall/tidewallref05.up -/
def F81 : AFunc :=
 .fn 11 [.tmp 4]
 (.seq
 (.ops [
⟨some 4, none, [], .move (.k (.int .i64 0))⟩])
 (.seq
 (.ops [
⟨some 5, none, [], .move (.t 0)⟩,
⟨some 6, none, [], .move (.t 1)⟩,
⟨some 7, none, [], .bin .add (.t 5) (.t 6)⟩,
⟨some 8, none, [], .bin .sub (.t 7) (.k (.int .i64 1))⟩,
⟨some 9, none, [], .move (.t 1)⟩,
⟨some 10, none, [], .bin .quo (.t 8) (.t 9)⟩,
⟨some 4, none, [], .move (.t 10)⟩])
 .ret))

/-- slices.IndexFunc[[]tidewall/api.Span,tidewall/api.Span] -/
def F82 : AFunc :=
 .fn 19 [.tmp 4]
 (.seq
 (.ops [
⟨some 4, none, [], .move (.k (.int .i64 0))⟩])
 (.seq
 (.seq
 (.ops [
⟨some 6, none, [], .move (.t 0)⟩,
⟨some 7, none, [], .len (.t 6)⟩,
⟨some 8, none, [], .move (.k (.int .i64 0))⟩])
 (.block 0
 (.loop
 (.seq
 (.ops [
⟨some 9, none, [], .bin .lss (.t 8) (.t 7)⟩])
 (.seq
 (.cond (.t 9)
 .skip
 (.exit 0))
 (.seq
 (.block 1
 (.seq
 (.ops [
⟨some 10, none, [], .move (.t 8)⟩,
⟨some 5, none, [], .move (.t 10)⟩])
 (.seq
 (.ops [
⟨some 11, none, [], .move (.t 1)⟩,
⟨some 12, none, [], .move (.t 0)⟩,
⟨some 13, none, [], .move (.t 5)⟩,
⟨some 14, none, [], .idxS (.t 12) (.t 13) 2⟩,
⟨some 15, none, [], .load (.t 14) (some 2)⟩,
⟨some 16, none, [], .call (.t 11) [.t 15] false⟩])
 (.cond (.t 16)
 (.seq
 (.ops [
⟨some 17, none, [], .move (.t 5)⟩,
⟨some 4, none, [], .move (.t 17)⟩])
 .ret)
 .skip))))
 (.ops [
⟨some 18, none, [], .bin .add (.t 8) (.k (.int .i64 1))⟩,
⟨some 8, none, [], .move (.t 18)⟩])))))))
 (.seq
 (.ops [
⟨some 4, none, [], .move (.k (.int .i64 (-1)))⟩])
 .ret)))

/-- slices.Repeat[[]int,int] -/
def F83 : AFunc :=
 .fn 48 [.tmp 4]
 (.seq
 (.ops [
⟨some 4, none, [], .move (.k (.slice none 0 0))⟩])
 (.seq
 (.seq
 (.ops [
⟨some 9, none, [], .move (.t 1)⟩,
⟨some 10, none, [], .bin .lss (.t 9) (.k (.int .i64 0))⟩])
 (.cond (.t 10)
 (.ops [
⟨some 11, none, [], .fail⟩,
⟨none, none, [], .fail⟩])
 .skip))
 (.seq
 (.ops [
⟨some 13, none, [], .move (.t 0)⟩,
⟨some 14, none, [], .len (.t 13)⟩,
⟨some 15, none, [], .toInt .u64 (.t 14)⟩,
⟨some 16, none, [], .move (.t 1)⟩,
⟨some 17, none, [], .toInt .u64 (.t 16)⟩,
⟨some 18, none, [], .call (.k (.func (.func 93) ⟨[]⟩ ⟨[]⟩)) [.t 15, .t 17] false⟩,
⟨some 12, none, [], .move (.t 18)⟩,
⟨some 19, none, [], .extract (.t 12) 0⟩,
⟨some 20, none, [], .extract (.t 12) 1⟩,
⟨some 5, none, [], .move (.t 19)⟩,
⟨some 6, none, [], .move (.t 20)⟩])
 (.seq
 (.seq
 (.ops [
⟨some 21, none, [], .move (.t 5)⟩,
⟨some 22, none, [], .bin .gtr (.t 21) (.k (.int .u64 0))⟩,
⟨some 23, none, [], .move (.t 22)⟩,
⟨some 24, (some (23, false)), [], .move (.t 6)⟩,
⟨some 25, (some (23, false)), [], .bin .gtr (.t 24) (.k (.int .u64 9223372036854775807))⟩,
⟨some 26, none, [], .pick (.t 23) (.k (.bool true)) (.t 25)⟩])
 (.cond (.t 26)
 (.ops [
⟨some 27, none, [], .fail⟩,
⟨none, none, [], .fail⟩])
 .skip))
 (.seq
 (.ops [
⟨some 28, none, [], .move (.t 6)⟩,
⟨some 29, none, [], .toInt .i64 (.t 28)⟩,
⟨some 30, none, [], .makeS (.t 29) (.t 29) 1 8 [.int .i64 0]⟩,
⟨some 7, none, [], .move (.t 30)⟩])
 (.seq
 (.ops [
⟨some 31, none, [], .move (.t 7)⟩,
⟨some 32, none, [], .move (.t 0)⟩,
⟨some 33, none, [], .copy (.t 31) (.t 32) 1⟩,
⟨some 8, none, [], .move (.t 33)⟩])
 (.seq
 (.block 0
 (.loop
 (.seq
 (.seq
 (.ops [
⟨some 34, none, [], .move (.t 8)⟩,
⟨some 35, none, [], .move (.t 7)⟩,
⟨some 36, none, [], .len (.t 35)⟩,
⟨some 37, none, [], .bin .lss (.t 34) (.t 36)⟩])
 (.cond (.t 37)
 .skip
 (.exit 0)))
 (.block 1
 (.ops [
⟨some 38, none, [], .move (.t 8)⟩,
⟨some 39, none, [], .move (.t 7)⟩,
⟨some 40, none, [], .move (.t 8)⟩,
⟨some 41, none, [], .reslice (.t 39) (some (.t 40)) none 1⟩,
⟨some 42, none, [], .move (.t 7)⟩,
⟨some 43, none, [], .move (.t 8)⟩,
⟨some 44, none, [], .reslice (.t 42) none (some (.t 43)) 1⟩,
⟨some 45, none, [], .copy (.t 41) (.t 44) 1⟩,
⟨some 46, none, [], .bin .add (.t 38) (.t 45)⟩,
⟨some 8, none, [], .move (.t 46)⟩])))))
 (.seq
 (.ops [
⟨some 47, none, [], .move (.t 7)⟩,
⟨some 4, none, [], .move (.t 47)⟩])
 .ret))))))))

/-- (*tidewall/wave.sheet).sail -/
def F84 : AFunc :=
 .fn 89 []
 (.seq
 (.ops [
⟨some 2, none, [], .box (.t 0)⟩])
 (.seq
 (.seq
 (.ops [
⟨some 8, none, [], .move (.t 1)⟩,
⟨some 9, none, [], .len (.t 8)⟩,
⟨some 10, none, [], .move (.k (.int .i64 0))⟩])
 (.block 0
 (.loop
 (.seq
 (.ops [
⟨some 11, none, [], .bin .lss (.t 10) (.t 9)⟩])
 (.seq
 (.cond (.t 11)
 .skip
 (.exit 0))
 (.seq
 (.block 1
 (.seq
 (.ops [
⟨some 12, none, [], .idxS (.t 8) (.t 10) 5⟩,
⟨some 13, none, [], .load (.t 12) (some 5)⟩,
⟨some 5, none, [], .alloc [.int .i64 0, .int .i64 0, .int .i64 0, .int .i64 0, .int .i64 0]⟩,
⟨none, none, [], .store (.t 5) (.t 13) 5⟩])
 (.seq
 (.ops [
⟨some 14, none, [], .fieldAddr (.t 5) 0⟩,
⟨some 15, none, [], .load (.t 14) none⟩,
⟨some 6, none, [], .move (.t 15)⟩])
 (.seq
 (.ops [
⟨some 16, none, [], .load (.t 2) none⟩,
⟨some 17, none, [], .move (.t 6)⟩,
⟨some 18, none, [], .call (.k (.func (.func 63) ⟨[]⟩ ⟨[]⟩)) [.t 16, .t 17] false⟩])
 (.cond (.t 18)
 (.seq
 (.ops [
⟨some 19, none, [], .load (.t 2) none⟩,
⟨some 20, none, [], .nilCheck (.t 19)⟩,
⟨some 21, none, [], .fieldAddr (.t 20) 16⟩,
⟨some 22, none, [], .load (.t 21) none⟩,
⟨some 23, none, [], .move (.t 6)⟩,
⟨some 24, none, [], .load (.t 2) none⟩,
⟨some 25, none, [], .nilCheck (.t 24)⟩,
⟨some 26, none, [], .fieldAddr (.t 25) 16⟩,
⟨some 27, none, [], .load (.t 26) none⟩,
⟨some 28, none, [], .move (.t 6)⟩,
⟨some 29, none, [], .idxS (.t 27) (.t 28) 1⟩,
⟨some 30, none, [], .load (.t 29) none⟩,
⟨some 31, none, [], .load (.t 2) none⟩,
⟨some 32, none, [], .nilCheck (.t 31)⟩,
⟨some 33, none, [], .fieldAddr (.t 32) 0⟩,
⟨some 34, none, [], .load (.t 33) (some 4)⟩,
⟨some 35, none, [], .fieldAddr (.t 5) 1⟩,
⟨some 36, none, [], .load (.t 35) (some 2)⟩,
⟨some 37, none, [], .call (.k (.func (.func 90) ⟨[]⟩ ⟨[]⟩)) [.t 34, .t 36] true⟩,
⟨some 38, none, [], .min [.t 30, .t 37]⟩,
⟨some 39, none, [], .idxS (.t 22) (.t 23) 1⟩,
⟨none, none, [], .store (.t 39) (.t 38) 1⟩])
 (.ops [
⟨some 40, none, [], .load (.t 2) none⟩,
⟨some 41, none, [], .nilCheck (.t 40)⟩,
⟨some 42, none, [], .fieldAddr (.t 41) 17⟩,
⟨some 43, none, [], .load (.t 42) none⟩,
⟨some 44, none, [], .move (.t 6)⟩,
⟨some 45, none, [], .load (.t 2) none⟩,
⟨some 46, none, [], .nilCheck (.t 45)⟩,
⟨some 47, none, [], .fieldAddr (.t 46) 17⟩,
⟨some 48, none, [], .load (.t 47) none⟩,
⟨some 49, none, [], .move (.t 6)⟩,
⟨some 50, none, [], .idxS (.t 48) (.t 49) 1⟩,
⟨some 51, none, [], .load (.t 50) none⟩,
⟨some 52, none, [], .load (.t 2) none⟩,
⟨some 53, none, [], .nilCheck (.t 52)⟩,
⟨some 54, none, [], .fieldAddr (.t 53) 0⟩,
⟨some 55, none, [], .load (.t 54) (some 4)⟩,
⟨some 56, none, [], .fieldAddr (.t 5) 3⟩,
⟨some 57, none, [], .load (.t 56) (some 2)⟩,
⟨some 58, none, [], .call (.k (.func (.func 91) ⟨[]⟩ ⟨[]⟩)) [.t 55, .t 57] true⟩,
⟨some 59, none, [], .load (.t 2) none⟩,
⟨some 60, none, [], .nilCheck (.t 59)⟩,
⟨some 61, none, [], .fieldAddr (.t 60) 0⟩,
⟨some 62, none, [], .fieldAddr (.t 61) 0⟩,
⟨some 63, none, [], .load (.t 62) none⟩,
⟨some 64, none, [], .load (.t 2) none⟩,
⟨some 65, none, [], .move (.t 6)⟩,
⟨some 66, none, [], .call (.k (.func (.func 87) ⟨[]⟩ ⟨[]⟩)) [.t 64, .t 65] true⟩,
⟨some 67, none, [], .call (.k (.func (.func 88) ⟨[]⟩ ⟨[]⟩)) [.t 63, .t 66] true⟩,
⟨some 68, none, [], .bin .mul (.t 58) (.t 67)⟩,
⟨some 69, none, [], .max [.t 51, .t 68]⟩,
⟨some 70, none, [], .idxS (.t 43) (.t 44) 1⟩,
⟨none, none, [], .store (.t 70) (.t 69) 1⟩]))
 .skip)))))
 (.ops [
⟨some 71, none, [], .bin .add (.t 10) (.k (.int .i64 1))⟩,
⟨some 10, none, [], .move (.t 71)⟩])))))))
 (.seq
 (.ops [
⟨some 72, none, [], .makeFunc 94 [] [.t 2]⟩,
⟨some 7, none, [], .alloc [.nilFunc]⟩,
⟨none, none, [], .store (.t 7) (.t 72) 1⟩])
 (.seq
 (.ops [
⟨some 73, none, [], .load (.t 2) none⟩,
⟨some 74, none, [], .nilCheck (.t 73)⟩,
⟨some 75, none, [], .fieldAddr (.t 74) 16⟩,
⟨some 76, none, [], .load (.t 75) none⟩,
⟨some 77, none, [], .load (.t 2) none⟩,
⟨some 78, none, [], .makeFunc 96 [.t 77] []⟩,
⟨some 79, none, [], .makeFunc 98 [] [.t 7, .t 2]⟩,
⟨some 80, none, [], .call (.k (.func (.func 95) ⟨[]⟩ ⟨[]⟩)) [.t 76, .t 78, .k (.func (.func 97) ⟨[]⟩ ⟨[]⟩), .t 79] false⟩])
 (.ops [
⟨some 81, none, [], .load (.t 2) none⟩,
⟨some 82, none, [], .nilCheck (.t 81)⟩,
⟨some 83, none, [], .fieldAddr (.t 82) 17⟩,
⟨some 84, none, [], .load (.t 83) none⟩,
⟨some 85, none, [], .load (.t 2) none⟩,
⟨some 86, none, [], .makeFunc 96 [.t 85] []⟩,
⟨some 87, none, [], .makeFunc 101 [] [.t 2, .t 7]⟩,
⟨some 88, none, [], .call (.k (.func (.func 95) ⟨[]⟩ ⟨[]⟩)) [.t 84, .t 86, .k (.func (.func 100) ⟨[]⟩ ⟨[]⟩), .t 87] false⟩])))))

/-- (*tidewall/wave.sheet).spill -/
def F85 : AFunc :=
 .fn 54 []
 (.seq
 (.ops [
⟨some 1, none, [], .box (.t 0)⟩])
 (.seq
 (.seq
 (.ops [
⟨some 5, none, [], .load (.t 1) none⟩,
⟨some 6, none, [], .nilCheck (.t 5)⟩,
⟨some 7, none, [], .fieldAddr (.t 6) 16⟩,
⟨some 8, none, [], .load (.t 7) none⟩,
⟨some 9, none, [], .len (.t 8)⟩,
⟨some 10, none, [], .move (.k (.int .i64 0))⟩])
 (.block 0
 (.loop
 (.seq
 (.ops [
⟨some 11, none, [], .bin .lss (.t 10) (.t 9)⟩])
 (.seq
 (.cond (.t 11)
 .skip
 (.exit 0))
 (.seq
 (.block 1
 (.seq
 (.ops [
⟨some 12, none, [], .move (.t 10)⟩,
⟨some 13, none, [], .idxS (.t 8) (.t 10) 1⟩,
⟨some 14, none, [], .load (.t 13) none⟩,
⟨some 2, none, [], .move (.t 12)⟩,
⟨some 3, none, [], .move (.t 14)⟩])
 (.seq
 (.ops [
⟨some 15, none, [], .move (.t 3)⟩,
⟨some 16, none, [], .bin .lss (.t 15) (.k (.int .i64 1099511627776))⟩])
 (.cond (.t 16)
 (.ops [
⟨some 17, none, [], .load (.t 1) none⟩,
⟨some 18, none, [], .nilCheck (.t 17)⟩,
⟨some 19, none, [], .fieldAddr (.t 18) 18⟩,
⟨some 20, none, [], .load (.t 19) none⟩,
⟨some 21, none, [], .move (.t 2)⟩,
⟨some 22, none, [], .load (.t 1) none⟩,
⟨some 23, none, [], .nilCheck (.t 22)⟩,
⟨some 24, none, [], .fieldAddr (.t 23) 0⟩,
⟨some 25, none, [], .load (.t 24) (some 4)⟩,
⟨some 26, none, [], .load (.t 1) none⟩,
⟨some 27, none, [], .nilCheck (.t 26)⟩,
⟨some 28, none, [], .fieldAddr (.t 27) 8⟩,
⟨some 29, none, [], .load (.t 28) (some 2)⟩,
⟨some 30, none, [], .call (.k (.func (.func 91) ⟨[]⟩ ⟨[]⟩)) [.t 25, .t 29] true⟩,
⟨some 31, none, [], .load (.t 1) none⟩,
⟨some 32, none, [], .move (.t 2)⟩,
⟨some 33, none, [], .call (.k (.func (.func 64) ⟨[]⟩ ⟨[]⟩)) [.t 31, .t 32] true⟩,
⟨some 34, none, [], .bin .add (.t 30) (.t 33)⟩,
⟨some 35, none, [], .idxS (.t 20) (.t 21) 1⟩,
⟨none, none, [], .store (.t 35) (.t 34) 1⟩])
 .skip))))
 (.ops [
⟨some 36, none, [], .bin .add (.t 10) (.k (.int .i64 1))⟩,
⟨some 10, none, [], .move (.t 36)⟩])))))))
 (.seq
 (.ops [
⟨some 37, none, [], .makeFunc 102 [] [.t 1]⟩,
⟨some 4, none, [], .alloc [.nilFunc]⟩,
⟨none, none, [], .store (.t 4) (.t 37) 1⟩])
 (.seq
 (.ops [
⟨some 38, none, [], .load (.t 1) none⟩,
⟨some 39, none, [], .nilCheck (.t 38)⟩,
⟨some 40, none, [], .fieldAddr (.t 39) 18⟩,
⟨some 41, none, [], .load (.t 40) none⟩,
⟨some 42, none, [], .load (.t 1) none⟩,
⟨some 43, none, [], .makeFunc 96 [.t 42] []⟩,
⟨some 44, none, [], .makeFunc 104 [] [.t 4, .t 1]⟩,
⟨some 45, none, [], .call (.k (.func (.func 95) ⟨[]⟩ ⟨[]⟩)) [.t 41, .t 43, .k (.func (.func 100) ⟨[]⟩ ⟨[]⟩), .t 44] false⟩])
 (.ops [
⟨some 46, none, [], .load (.t 1) none⟩,
⟨some 47, none, [], .nilCheck (.t 46)⟩,
⟨some 48, none, [], .fieldAddr (.t 47) 16⟩,
⟨some 49, none, [], .load (.t 48) none⟩,
⟨some 50, none, [], .load (.t 1) none⟩,
⟨some 51, none, [], .makeFunc 96 [.t 50] []⟩,
⟨some 52, none, [], .makeFunc 105 [] [.t 4, .t 1]⟩,
⟨some 53, none, [], .call (.k (.func (.func 95) ⟨[]⟩ ⟨[]⟩)) [.t 49, .t 51, .k (.func (.func 97) ⟨[]⟩ ⟨[]⟩), .t 52] false⟩])))))

/-- tidewall/wave.down -/
def F86 : AFunc :=
 .fn 8 [.tmp 4]
 (.seq
 (.ops [
⟨some 4, none, [], .move (.k (.int .i64 0))⟩])
 (.seq
 (.ops [
⟨some 5, none, [], .move (.t 0)⟩,
⟨some 6, none, [], .move (.t 1)⟩,
⟨some 7, none, [], .bin .quo (.t 5) (.t 6)⟩,
⟨some 4, none, [], .move (.t 7)⟩])
 .ret))

/-- (*tidewall/wave.sheet).depth -/
def F87 : AFunc :=
 .fn 28 [.tmp 4]
 (.seq
 (.ops [
⟨some 4, none, [], .move (.k (.int .i64 0))⟩])
 (.seq
 (.ops [
⟨some 5, none, [], .move (.t 0)⟩,
⟨some 6, none, [], .nilCheck (.t 5)⟩,
⟨some 7, none, [], .fieldAddr (.t 6) 0⟩,
⟨some 8, none, [], .load (.t 7) (some 4)⟩,
⟨some 9, none, [], .move (.t 0)⟩,
⟨some 10, none, [], .nilCheck (.t 9)⟩,
⟨some 11, none, [], .fieldAddr (.t 10) 8⟩,
⟨some 12, none, [], .load (.t 11) (some 2)⟩,
⟨some 13, none, [], .call (.k (.func (.func 91) ⟨[]⟩ ⟨[]⟩)) [.t 8, .t 12] true⟩,
⟨some 14, none, [], .move (.t 0)⟩,
⟨some 15, none, [], .nilCheck (.t 14)⟩,
⟨some 16, none, [], .fieldAddr (.t 15) 0⟩,
⟨some 17, none, [], .load (.t 16) (some 4)⟩,
⟨some 18, none, [], .move (.t 0)⟩,
⟨some 19, none, [], .nilCheck (.t 18)⟩,
⟨some 20, none, [], .fieldAddr (.t 19) 4⟩,
⟨some 21, none, [], .fieldAddr (.t 20) 3⟩,
⟨some 22, none, [], .load (.t 21) none⟩,
⟨some 23, none, [], .move (.t 1)⟩,
⟨some 24, none, [], .idxS (.t 22) (.t 23) 2⟩,
⟨some 25, none, [], .load (.t 24) (some 2)⟩,
⟨some 26, none, [], .call (.k (.func (.func 90) ⟨[]⟩ ⟨[]⟩)) [.t 17, .t 25] false⟩,
⟨some 27, none, [], .bin .sub (.t 13) (.t 26)⟩,
⟨some 4, none, [], .move (.t 27)⟩])
 .ret))

/-- tidewall/wave.fourth -/
def F88 : AFunc :=
 .fn 11 [.tmp 4]
 (.seq
 (.ops [
⟨some 4, none, [], .move (.k (.int .i64 0))⟩])
 (.seq
 (.ops [
⟨some 5, none, [], .move (.t 0)⟩,
⟨some 6, none, [], .move (.t 0)⟩,
⟨some 7, none, [], .move (.t 1)⟩,
⟨some 8, none, [], .bin .shl (.t 7) (.k (.int .u64 40))⟩,
⟨some 9, none, [], .call (.t 6) [.t 8] false⟩,
⟨some 10, none, [], .call (.t 5) [.t 9] false⟩,
⟨some 4, none, [], .move (.t 10)⟩])
 .ret))

/-- math.Sqrt -/
def F89 : AFunc :=
 .fn 5 [.tmp 2]
 (.seq
 (.ops [
⟨some 2, none, [], .move (.k (.float .f64 0))⟩])
 (.seq
 (.ops [
⟨some 3, none, [], .move (.t 0)⟩,
⟨some 4, none, [], .call (.k (.func (.func 106) ⟨[]⟩ ⟨[]⟩)) [.t 3] false⟩,
⟨some 2, none, [], .move (.t 4)⟩])
 .ret))

/-- (tidewall/wave.end).against -/
def F90 : AFunc :=
 .fn 11 [.tmp 4]
 (.seq
 (.ops [
⟨some 2, none, [], .box (.t 0)⟩,
⟨some 3, none, [], .box (.t 1)⟩,
⟨some 4, none, [], .move (.k (.int .i64 0))⟩])
 (.seq
 (.seq
 (.ops [
⟨some 5, none, [], .fieldAddr (.t 2) 3⟩,
⟨some 6, none, [], .load (.t 5) none⟩])
 (.cond (.t 6)
 (.seq
 (.ops [
⟨some 7, none, [], .fieldAddr (.t 3) 0⟩,
⟨some 8, none, [], .load (.t 7) none⟩,
⟨some 4, none, [], .move (.t 8)⟩])
 .ret)
 .skip))
 (.seq
 (.ops [
⟨some 9, none, [], .fieldAddr (.t 3) 1⟩,
⟨some 10, none, [], .load (.t 9) none⟩,
⟨some 4, none, [], .move (.t 10)⟩])
 .ret)))

/-- (tidewall/wave.end).of -/
def F91 : AFunc :=
 .fn 11 [.tmp 4]
 (.seq
 (.ops [
⟨some 2, none, [], .box (.t 0)⟩,
⟨some 3, none, [], .box (.t 1)⟩,
⟨some 4, none, [], .move (.k (.int .i64 0))⟩])
 (.seq
 (.seq
 (.ops [
⟨some 5, none, [], .fieldAddr (.t 2) 3⟩,
⟨some 6, none, [], .load (.t 5) none⟩])
 (.cond (.t 6)
 (.seq
 (.ops [
⟨some 7, none, [], .fieldAddr (.t 3) 1⟩,
⟨some 8, none, [], .load (.t 7) none⟩,
⟨some 4, none, [], .move (.t 8)⟩])
 .ret)
 .skip))
 (.seq
 (.ops [
⟨some 9, none, [], .fieldAddr (.t 3) 0⟩,
⟨some 10, none, [], .load (.t 9) none⟩,
⟨some 4, none, [], .move (.t 10)⟩])
 .ret)))

/-- tidewall/tidewallref05.Cross -/
def F92 : AFunc :=
 .fn 21 [.tmp 4, .tmp 5]
 (.seq
 (.ops [
⟨some 4, none, [], .move (.k (.int .i64 0))⟩,
⟨some 5, none, [], .move (.k (.int .i64 0))⟩])
 (.seq
 (.ops [
⟨some 7, none, [], .move (.t 0)⟩,
⟨some 8, none, [], .move (.t 0)⟩,
⟨some 9, none, [], .bin .mul (.t 7) (.t 8)⟩,
⟨some 10, none, [], .bin .mul (.t 9) (.k (.int .i64 10000000000))⟩,
⟨some 6, none, [], .move (.t 10)⟩])
 (.seq
 (.ops [
⟨some 11, none, [], .move (.t 6)⟩,
⟨some 12, none, [], .move (.t 1)⟩,
⟨some 13, none, [], .bin .mul (.k (.int .i64 981)) (.t 12)⟩,
⟨some 14, none, [], .bin .quo (.t 11) (.t 13)⟩,
⟨some 15, none, [], .call (.k (.func (.func 78) ⟨[]⟩ ⟨[]⟩)) [.t 14] false⟩,
⟨some 16, none, [], .move (.t 6)⟩,
⟨some 17, none, [], .move (.t 1)⟩,
⟨some 18, none, [], .bin .mul (.k (.int .i64 981)) (.t 17)⟩,
⟨some 19, none, [], .call (.k (.func (.func 81) ⟨[]⟩ ⟨[]⟩)) [.t 16, .t 18] false⟩,
⟨some 20, none, [], .call (.k (.func (.func 80) ⟨[]⟩ ⟨[]⟩)) [.t 19] false⟩,
⟨some 4, none, [], .move (.t 15)⟩,
⟨some 5, none, [], .move (.t 20)⟩])
 .ret)))

/-- math/bits.Mul -/
def F93 : AFunc :=
 .fn 30 [.tmp 4, .tmp 5]
 (.seq
 (.ops [
⟨some 4, none, [], .move (.k (.int .u64 0))⟩,
⟨some 5, none, [], .move (.k (.int .u64 0))⟩])
 (.seq
 (.cond (.k (.bool false))
 (.seq
 (.ops [
⟨some 11, none, [], .move (.t 0)⟩,
⟨some 12, none, [], .toInt .u32 (.t 11)⟩,
⟨some 13, none, [], .move (.t 1)⟩,
⟨some 14, none, [], .toInt .u32 (.t 13)⟩,
⟨some 15, none, [], .call (.k (.func (.func 107) ⟨[]⟩ ⟨[]⟩)) [.t 12, .t 14] false⟩,
⟨some 10, none, [], .move (.t 15)⟩,
⟨some 16, none, [], .extract (.t 10) 0⟩,
⟨some 17, none, [], .extract (.t 10) 1⟩,
⟨some 6, none, [], .move (.t 16)⟩,
⟨some 7, none, [], .move (.t 17)⟩])
 (.seq
 (.ops [
⟨some 18, none, [], .move (.t 6)⟩,
⟨some 19, none, [], .toInt .u64 (.t 18)⟩,
⟨some 20, none, [], .move (.t 7)⟩,
⟨some 21, none, [], .toInt .u64 (.t 20)⟩,
⟨some 4, none, [], .move (.t 19)⟩,
⟨some 5, none, [], .move (.t 21)⟩])
 .ret))
 .skip)
 (.seq
 (.ops [
⟨some 23, none, [], .move (.t 0)⟩,
⟨some 24, none, [], .move (.t 1)⟩,
⟨some 25, none, [], .call (.k (.func (.func 108) ⟨[]⟩ ⟨[]⟩)) [.t 23, .t 24] false⟩,
⟨some 22, none, [], .move (.t 25)⟩,
⟨some 26, none, [], .extract (.t 22) 0⟩,
⟨some 27, none, [], .extract (.t 22) 1⟩,
⟨some 8, none, [], .move (.t 26)⟩,
⟨some 9, none, [], .move (.t 27)⟩])
 (.seq
 (.ops [
⟨some 28, none, [], .move (.t 8)⟩,
⟨some 29, none, [], .move (.t 9)⟩,
⟨some 4, none, [], .move (.t 28)⟩,
⟨some 5, none, [], .move (.t 29)⟩])
 .ret))))

/-- (*tidewall/wave.sheet).sail$1 -/
def F94 : AFunc :=
 .fn 14 [.tmp 5]
 (.seq
 (.ops [
⟨some 5, none, [], .move (.k (.bool false))⟩])
 (.seq
 (.ops [
⟨some 6, none, [], .load (.t 2) none⟩,
⟨some 7, none, [], .move (.t 0)⟩,
⟨some 8, none, [], .call (.k (.func (.func 63) ⟨[]⟩ ⟨[]⟩)) [.t 6, .t 7] false⟩,
⟨some 9, none, [], .move (.t 8)⟩,
⟨some 10, (some (9, true)), [], .load (.t 2) none⟩,
⟨some 11, (some (9, true)), [], .move (.t 1)⟩,
⟨some 12, (some (9, true)), [], .call (.k (.func (.func 63) ⟨[]⟩ ⟨[]⟩)) [.t 10, .t 11] false⟩,
⟨some 13, none, [], .pick (.t 9) (.t 12) (.k (.bool false))⟩,
⟨some 5, none, [], .move (.t 13)⟩])
 .ret))

/-- tidewall/wave.settle[int] -/
def F95 : AFunc :=
 .fn 65 []
 (.seq
 (.ops [
⟨some 4, none, [], .box (.t 0)⟩,
⟨some 6, none, [], .box (.t 2)⟩,
⟨some 7, none, [], .box (.t 3)⟩])
 (.seq
 (.ops [
⟨some 8, none, [], .alloc [.slice none 0 0]⟩])
 (.seq
 (.seq
 (.ops [
⟨some 14, none, [], .load (.t 4) none⟩,
⟨some 15, none, [], .len (.t 14)⟩,
⟨some 16, none, [], .move (.k (.int .i64 0))⟩])
 (.block 0
 (.loop
 (.seq
 (.ops [
⟨some 17, none, [], .bin .lss (.t 16) (.t 15)⟩])
 (.seq
 (.cond (.t 17)
 .skip
 (.exit 0))
 (.seq
 (.block 1
 (.seq
 (.ops [
⟨some 18, none, [], .move (.t 16)⟩,
⟨some 9, none, [], .move (.t 18)⟩])
 (.ops [
⟨some 19, none, [], .load (.t 8) none⟩,
⟨some 20, none, [], .move (.t 9)⟩,
⟨some 21, none, [], .slit 1 1 [.int .i64 0] [(0, .t 20)]⟩,
⟨some 22, none, [], .append (.t 19) (.t 21) 1 8⟩,
⟨none, none, [], .store (.t 8) (.t 22) 1⟩])))
 (.ops [
⟨some 23, none, [], .bin .add (.t 16) (.k (.int .i64 1))⟩,
⟨some 16, none, [], .move (.t 23)⟩])))))))
 (.block 2
 (.loop
 (.seq
 (.seq
 (.ops [
⟨some 24, none, [], .load (.t 8) none⟩,
⟨some 25, none, [], .len (.t 24)⟩,
⟨some 26, none, [], .bin .gtr (.t 25) (.k (.int .i64 0))⟩])
 (.cond (.t 26)
 .skip
 (.exit 2)))
 (.block 3
 (.seq
 (.ops [
⟨some 27, none, [], .load (.t 8) none⟩,
⟨some 28, none, [], .idxS (.t 27) (.k (.int .i64 0)) 1⟩,
⟨some 29, none, [], .load (.t 28) none⟩,
⟨some 10, none, [], .alloc [.int .i64 0]⟩,
⟨none, none, [], .store (.t 10) (.t 29) 1⟩])
 (.seq
 (.ops [
⟨some 30, none, [], .load (.t 8) none⟩,
⟨some 31, none, [], .reslice (.t 30) (some (.k (.int .i64 1))) none 1⟩,
⟨none, none, [], .store (.t 8) (.t 31) 1⟩])
 (.seq
 (.ops [
⟨some 32, none, [], .move (.t 1)⟩,
⟨some 33, none, [], .load (.t 10) none⟩,
⟨some 34, none, [], .call (.t 32) [.t 33] false⟩])
 (.block 4
 (.rangeF (.t 34) [35]
 (.ops [
⟨some 11, none, [], .move (.t 35)⟩])
 (.block 5
 (.seq
 (.ops [
⟨some 37, none, [], .load (.t 7) none⟩,
⟨some 38, none, [], .load (.t 10) none⟩,
⟨some 39, none, [], .move (.t 11)⟩,
⟨some 40, none, [], .load (.t 4) none⟩,
⟨some 41, none, [], .load (.t 10) none⟩,
⟨some 42, none, [], .idxS (.t 40) (.t 41) 1⟩,
⟨some 43, none, [], .load (.t 42) none⟩,
⟨some 44, none, [], .call (.t 37) [.t 38, .t 39, .t 43] false⟩,
⟨some 36, none, [], .move (.t 44)⟩,
⟨some 45, none, [], .extract (.t 36) 0⟩,
⟨some 46, none, [], .extract (.t 36) 1⟩,
⟨some 12, none, [], .move (.t 45)⟩,
⟨some 13, none, [], .move (.t 46)⟩])
 (.seq
 (.ops [
⟨some 47, none, [], .move (.t 13)⟩,
⟨some 48, none, [], .move (.t 47)⟩,
⟨some 49, (some (48, true)), [], .load (.t 6) none⟩,
⟨some 50, (some (48, true)), [], .move (.t 12)⟩,
⟨some 51, (some (48, true)), [], .load (.t 4) none⟩,
⟨some 52, (some (48, true)), [], .move (.t 11)⟩,
⟨some 53, (some (48, true)), [], .idxS (.t 51) (.t 52) 1⟩,
⟨some 54, (some (48, true)), [], .load (.t 53) none⟩,
⟨some 55, (some (48, true)), [], .call (.t 49) [.t 50, .t 54] false⟩,
⟨some 56, none, [], .pick (.t 48) (.t 55) (.k (.bool false))⟩])
 (.cond (.t 56)
 (.seq
 (.ops [
⟨some 57, none, [], .load (.t 4) none⟩,
⟨some 58, none, [], .move (.t 11)⟩,
⟨some 59, none, [], .move (.t 12)⟩,
⟨some 60, none, [], .idxS (.t 57) (.t 58) 1⟩,
⟨none, none, [], .store (.t 60) (.t 59) 1⟩])
 (.ops [
⟨some 61, none, [], .load (.t 8) none⟩,
⟨some 62, none, [], .move (.t 11)⟩,
⟨some 63, none, [], .slit 1 1 [.int .i64 0] [(0, .t 62)]⟩,
⟨some 64, none, [], .append (.t 61) (.t 63) 1 8⟩,
⟨none, none, [], .store (.t 8) (.t 64) 1⟩]))
 .skip))))))))))))))))

/-- (*tidewall/wave.sheet).around -/
def F96 : AFunc :=
 .fn 6 [.tmp 4]
 (.seq
 (.ops [
⟨some 2, none, [], .box (.t 0)⟩,
⟨some 3, none, [], .box (.t 1)⟩,
⟨some 4, none, [], .move (.k (.nilFunc))⟩])
 (.seq
 (.ops [
⟨some 5, none, [], .makeFunc 109 [] [.t 2, .t 3]⟩,
⟨some 4, none, [], .move (.t 5)⟩])
 .ret))

/-- tidewall/wave.sooner -/
def F97 : AFunc :=
 .fn 8 [.tmp 4]
 (.seq
 (.ops [
⟨some 4, none, [], .move (.k (.bool false))⟩])
 (.seq
 (.ops [
⟨some 5, none, [], .move (.t 0)⟩,
⟨some 6, none, [], .move (.t 1)⟩,
⟨some 7, none, [], .bin .lss (.t 5) (.t 6)⟩,
⟨some 4, none, [], .move (.t 7)⟩])
 .ret))

/-- (*tidewall/wave.sheet).sail$2 -/
def F98 : AFunc :=
 .fn 25 [.tmp 8, .tmp 9]
 (.seq
 (.ops [
⟨some 8, none, [], .move (.k (.int .i64 0))⟩,
⟨some 9, none, [], .move (.k (.bool false))⟩])
 (.seq
 (.seq
 (.ops [
⟨some 10, none, [], .load (.t 3) none⟩,
⟨some 11, none, [], .move (.t 0)⟩,
⟨some 12, none, [], .move (.t 1)⟩,
⟨some 13, none, [], .call (.t 10) [.t 11, .t 12] false⟩,
⟨some 14, none, [], .not (.t 13)⟩,
⟨some 15, none, [], .move (.t 14)⟩,
⟨some 16, (some (15, false)), [], .move (.t 2)⟩,
⟨some 17, (some (15, false)), [], .bin .eql (.t 16) (.k (.int .i64 1099511627776))⟩,
⟨some 18, none, [], .pick (.t 15) (.k (.bool true)) (.t 17)⟩])
 (.cond (.t 18)
 (.seq
 (.ops [
⟨some 8, none, [], .move (.k (.int .i64 0))⟩,
⟨some 9, none, [], .move (.k (.bool false))⟩])
 .ret)
 .skip))
 (.seq
 (.ops [
⟨some 19, none, [], .move (.t 2)⟩,
⟨some 20, none, [], .load (.t 4) none⟩,
⟨some 21, none, [], .move (.t 0)⟩,
⟨some 22, none, [], .move (.t 1)⟩,
⟨some 23, none, [], .call (.k (.func (.func 99) ⟨[]⟩ ⟨[]⟩)) [.t 20, .t 21, .t 22] false⟩,
⟨some 24, none, [], .bin .add (.t 19) (.t 23)⟩,
⟨some 8, none, [], .move (.t 24)⟩,
⟨some 9, none, [], .move (.k (.bool true))⟩])
 .ret)))

/-- (*tidewall/wave.sheet).crossing -/
def F99 : AFunc :=
 .fn 42 [.tmp 6]
 (.seq
 (.ops [
⟨some 6, none, [], .move (.k (.int .i64 0))⟩])
 (.seq
 (.ops [
⟨some 9, none, [], .move (.t 0)⟩,
⟨some 10, none, [], .nilCheck (.t 9)⟩,
⟨some 11, none, [], .fieldAddr (.t 10) 4⟩,
⟨some 12, none, [], .fieldAddr (.t 11) 2⟩,
⟨some 13, none, [], .load (.t 12) none⟩,
⟨some 14, none, [], .move (.t 0)⟩,
⟨some 15, none, [], .nilCheck (.t 14)⟩,
⟨some 16, none, [], .fieldAddr (.t 15) 4⟩,
⟨some 17, none, [], .fieldAddr (.t 16) 2⟩,
⟨some 18, none, [], .load (.t 17) none⟩,
⟨some 19, none, [], .bin .mul (.t 13) (.t 18)⟩,
⟨some 20, none, [], .bin .mul (.t 19) (.k (.int .i64 10000000000))⟩,
⟨some 21, none, [], .move (.t 0)⟩,
⟨some 22, none, [], .move (.t 1)⟩,
⟨some 23, none, [], .call (.k (.func (.func 87) ⟨[]⟩ ⟨[]⟩)) [.t 21, .t 22] true⟩,
⟨some 24, none, [], .move (.t 0)⟩,
⟨some 25, none, [], .move (.t 2)⟩,
⟨some 26, none, [], .call (.k (.func (.func 87) ⟨[]⟩ ⟨[]⟩)) [.t 24, .t 25] true⟩,
⟨some 27, none, [], .min [.t 23, .t 26]⟩,
⟨some 28, none, [], .bin .mul (.k (.int .i64 981)) (.t 27)⟩,
⟨some 7, none, [], .move (.t 20)⟩,
⟨some 8, none, [], .move (.t 28)⟩])
 (.seq
 (.seq
 (.ops [
⟨some 29, none, [], .move (.t 0)⟩,
⟨some 30, none, [], .nilCheck (.t 29)⟩,
⟨some 31, none, [], .fieldAddr (.t 30) 0⟩,
⟨some 32, none, [], .fieldAddr (.t 31) 3⟩,
⟨some 33, none, [], .load (.t 32) none⟩])
 (.cond (.t 33)
 (.seq
 (.ops [
⟨some 34, none, [], .move (.t 7)⟩,
⟨some 35, none, [], .move (.t 8)⟩,
⟨some 36, none, [], .bin .quo (.t 34) (.t 35)⟩,
⟨some 37, none, [], .call (.k (.func (.func 65) ⟨[]⟩ ⟨[]⟩)) [.t 36] false⟩,
⟨some 6, none, [], .move (.t 37)⟩])
 .ret)
 .skip))
 (.seq
 (.ops [
⟨some 38, none, [], .move (.t 7)⟩,
⟨some 39, none, [], .move (.t 8)⟩,
⟨some 40, none, [], .call (.k (.func (.func 68) ⟨[]⟩ ⟨[]⟩)) [.t 38, .t 39] false⟩,
⟨some 41, none, [], .call (.k (.func (.func 67) ⟨[]⟩ ⟨[]⟩)) [.t 40] false⟩,
⟨some 6, none, [], .move (.t 41)⟩])
 .ret))))

/-- tidewall/wave.more -/
def F100 : AFunc :=
 .fn 8 [.tmp 4]
 (.seq
 (.ops [
⟨some 4, none, [], .move (.k (.bool false))⟩])
 (.seq
 (.ops [
⟨some 5, none, [], .move (.t 0)⟩,
⟨some 6, none, [], .move (.t 1)⟩,
⟨some 7, none, [], .bin .gtr (.t 5) (.t 6)⟩,
⟨some 4, none, [], .move (.t 7)⟩])
 .ret))

/-- (*tidewall/wave.sheet).sail$3 -/
def F101 : AFunc :=
 .fn 36 [.tmp 8, .tmp 9]
 (.seq
 (.ops [
⟨some 8, none, [], .move (.k (.int .i64 0))⟩,
⟨some 9, none, [], .move (.k (.bool false))⟩])
 (.seq
 (.ops [
⟨some 10, none, [], .load (.t 3) none⟩,
⟨some 11, none, [], .nilCheck (.t 10)⟩,
⟨some 12, none, [], .fieldAddr (.t 11) 0⟩,
⟨some 13, none, [], .fieldAddr (.t 12) 1⟩,
⟨some 14, none, [], .load (.t 13) none⟩,
⟨some 15, none, [], .move (.t 2)⟩,
⟨some 16, none, [], .load (.t 3) none⟩,
⟨some 17, none, [], .nilCheck (.t 16)⟩,
⟨some 18, none, [], .fieldAddr (.t 17) 0⟩,
⟨some 19, none, [], .load (.t 18) (some 4)⟩,
⟨some 20, none, [], .load (.t 3) none⟩,
⟨some 21, none, [], .nilCheck (.t 20)⟩,
⟨some 22, none, [], .fieldAddr (.t 21) 10⟩,
⟨some 23, none, [], .fieldAddr (.t 22) 0⟩,
⟨some 24, none, [], .load (.t 23) (some 2)⟩,
⟨some 25, none, [], .call (.k (.func (.func 91) ⟨[]⟩ ⟨[]⟩)) [.t 19, .t 24] true⟩,
⟨some 26, none, [], .bin .mul (.t 15) (.t 25)⟩,
⟨some 27, none, [], .call (.t 14) [.t 26, .k (.int .i64 1024)] true⟩,
⟨some 28, none, [], .load (.t 4) none⟩,
⟨some 29, none, [], .move (.t 0)⟩,
⟨some 30, none, [], .move (.t 1)⟩,
⟨some 31, none, [], .call (.t 28) [.t 29, .t 30] false⟩,
⟨some 32, none, [], .move (.t 31)⟩,
⟨some 33, (some (32, true)), [], .move (.t 2)⟩,
⟨some 34, (some (32, true)), [], .bin .gtr (.t 33) (.k (.int .i64 0))⟩,
⟨some 35, none, [], .pick (.t 32) (.t 34) (.k (.bool false))⟩,
⟨some 8, none, [], .move (.t 27)⟩,
⟨some 9, none, [], .move (.t 35)⟩])
 .ret))

/-- (*tidewall/wave.sheet).spill$1 -/
def F102 : AFunc :=
 .fn 57 [.tmp 5, .tmp 6]
 (.seq
 (.ops [
⟨some 5, none, [], .move (.k (.int .i64 0))⟩,
⟨some 6, none, [], .move (.k (.bool false))⟩])
 (.seq
 (.ops [
⟨some 8, none, [], .load (.t 2) none⟩,
⟨some 9, none, [], .nilCheck (.t 8)⟩,
⟨some 10, none, [], .fieldAddr (.t 9) 18⟩,
⟨some 11, none, [], .load (.t 10) none⟩,
⟨some 12, none, [], .move (.t 0)⟩,
⟨some 13, none, [], .idxS (.t 11) (.t 12) 1⟩,
⟨some 14, none, [], .load (.t 13) none⟩,
⟨some 15, none, [], .load (.t 2) none⟩,
⟨some 16, none, [], .nilCheck (.t 15)⟩,
⟨some 17, none, [], .fieldAddr (.t 16) 0⟩,
⟨some 18, none, [], .load (.t 17) (some 4)⟩,
⟨some 19, none, [], .load (.t 2) none⟩,
⟨some 20, none, [], .nilCheck (.t 19)⟩,
⟨some 21, none, [], .fieldAddr (.t 20) 10⟩,
⟨some 22, none, [], .fieldAddr (.t 21) 4⟩,
⟨some 23, none, [], .load (.t 22) (some 2)⟩,
⟨some 24, none, [], .call (.k (.func (.func 90) ⟨[]⟩ ⟨[]⟩)) [.t 18, .t 23] true⟩,
⟨some 25, none, [], .bin .sub (.t 14) (.t 24)⟩,
⟨some 7, none, [], .move (.t 25)⟩])
 (.seq
 (.ops [
⟨some 26, none, [], .move (.t 7)⟩,
⟨some 27, none, [], .load (.t 2) none⟩,
⟨some 28, none, [], .nilCheck (.t 27)⟩,
⟨some 29, none, [], .fieldAddr (.t 28) 18⟩,
⟨some 30, none, [], .load (.t 29) none⟩,
⟨some 31, none, [], .move (.t 0)⟩,
⟨some 32, none, [], .idxS (.t 30) (.t 31) 1⟩,
⟨some 33, none, [], .load (.t 32) none⟩,
⟨some 34, none, [], .bin .neq (.t 33) (.k (.int .i64 (-1099511627776)))⟩,
⟨some 35, none, [], .move (.t 34)⟩,
⟨some 36, (some (35, true)), [], .load (.t 2) none⟩,
⟨some 37, (some (35, true)), [], .move (.t 1)⟩,
⟨some 38, (some (35, true)), [], .call (.k (.func (.func 103) ⟨[]⟩ ⟨[]⟩)) [.t 36, .t 37] false⟩,
⟨some 39, none, [], .pick (.t 35) (.t 38) (.k (.bool false))⟩,
⟨some 40, none, [], .move (.t 39)⟩,
⟨some 41, (some (40, true)), [], .move (.t 7)⟩,
⟨some 42, (some (40, true)), [], .load (.t 2) none⟩,
⟨some 43, (some (40, true)), [], .nilCheck (.t 42)⟩,
⟨some 44, (some (40, true)), [], .fieldAddr (.t 43) 0⟩,
⟨some 45, (some (40, true)), [], .load (.t 44) (some 4)⟩,
⟨some 46, (some (40, true)), [], .load (.t 2) none⟩,
⟨some 47, (some (40, true)), [], .nilCheck (.t 46)⟩,
⟨some 48, (some (40, true)), [], .fieldAddr (.t 47) 4⟩,
⟨some 49, (some (40, true)), [], .fieldAddr (.t 48) 3⟩,
⟨some 50, (some (40, true)), [], .load (.t 49) none⟩,
⟨some 51, (some (40, true)), [], .move (.t 1)⟩,
⟨some 52, (some (40, true)), [], .idxS (.t 50) (.t 51) 2⟩,
⟨some 53, (some (40, true)), [], .load (.t 52) (some 2)⟩,
⟨some 54, (some (40, true)), [], .call (.k (.func (.func 90) ⟨[]⟩ ⟨[]⟩)) [.t 45, .t 53] false⟩,
⟨some 55, (some (40, true)), [], .bin .gtr (.t 41) (.t 54)⟩,
⟨some 56, none, [], .pick (.t 40) (.t 55) (.k (.bool false))⟩,
⟨some 5, none, [], .move (.t 26)⟩,
⟨some 6, none, [], .move (.t 56)⟩])
 .ret)))

/-- (*tidewall/wave.sheet).isLand -/
def F103 : AFunc :=
 .fn 9 [.tmp 4]
 (.seq
 (.ops [
⟨some 4, none, [], .move (.k (.bool false))⟩])
 (.seq
 (.ops [
⟨some 5, none, [], .move (.t 0)⟩,
⟨some 6, none, [], .move (.t 1)⟩,
⟨some 7, none, [], .call (.k (.func (.func 66) ⟨[]⟩ ⟨[]⟩)) [.t 5, .t 6] false⟩,
⟨some 8, none, [], .bin .leq (.t 7) (.k (.int .i64 0))⟩,
⟨some 4, none, [], .move (.t 8)⟩])
 .ret))

/-- (*tidewall/wave.sheet).spill$2 -/
def F104 : AFunc :=
 .fn 37 [.tmp 8, .tmp 9]
 (.seq
 (.ops [
⟨some 8, none, [], .move (.k (.int .i64 0))⟩,
⟨some 9, none, [], .move (.k (.bool false))⟩])
 (.seq
 (.ops [
⟨some 13, none, [], .load (.t 3) none⟩,
⟨some 14, none, [], .move (.t 0)⟩,
⟨some 15, none, [], .move (.t 1)⟩,
⟨some 16, none, [], .call (.t 13) [.t 14, .t 15] false⟩,
⟨some 12, none, [], .move (.t 16)⟩,
⟨some 17, none, [], .extract (.t 12) 0⟩,
⟨some 18, none, [], .extract (.t 12) 1⟩,
⟨some 10, none, [], .move (.t 17)⟩,
⟨some 11, none, [], .move (.t 18)⟩])
 (.seq
 (.seq
 (.ops [
⟨some 19, none, [], .move (.t 11)⟩])
 (.cond (.t 19)
 (.ops [
⟨some 20, none, [], .load (.t 4) none⟩,
⟨some 21, none, [], .nilCheck (.t 20)⟩,
⟨some 22, none, [], .fieldAddr (.t 21) 19⟩,
⟨some 23, none, [], .load (.t 22) none⟩,
⟨some 24, none, [], .move (.t 1)⟩,
⟨some 25, none, [], .load (.t 4) none⟩,
⟨some 26, none, [], .nilCheck (.t 25)⟩,
⟨some 27, none, [], .fieldAddr (.t 26) 19⟩,
⟨some 28, none, [], .load (.t 27) none⟩,
⟨some 29, none, [], .move (.t 1)⟩,
⟨some 30, none, [], .idxS (.t 28) (.t 29) 1⟩,
⟨some 31, none, [], .load (.t 30) none⟩,
⟨some 32, none, [], .move (.t 10)⟩,
⟨some 33, none, [], .max [.t 31, .t 32]⟩,
⟨some 34, none, [], .idxS (.t 23) (.t 24) 1⟩,
⟨none, none, [], .store (.t 34) (.t 33) 1⟩])
 .skip))
 (.seq
 (.ops [
⟨some 35, none, [], .move (.t 10)⟩,
⟨some 36, none, [], .move (.t 11)⟩,
⟨some 8, none, [], .move (.t 35)⟩,
⟨some 9, none, [], .move (.t 36)⟩])
 .ret))))

/-- (*tidewall/wave.sheet).spill$3 -/
def F105 : AFunc :=
 .fn 38 [.tmp 8, .tmp 9]
 (.seq
 (.ops [
⟨some 8, none, [], .move (.k (.int .i64 0))⟩,
⟨some 9, none, [], .move (.k (.bool false))⟩])
 (.seq
 (.ops [
⟨some 13, none, [], .load (.t 3) none⟩,
⟨some 14, none, [], .move (.t 0)⟩,
⟨some 15, none, [], .move (.t 1)⟩,
⟨some 16, none, [], .call (.t 13) [.t 14, .t 15] false⟩,
⟨some 12, none, [], .move (.t 16)⟩,
⟨some 17, none, [], .extract (.t 12) 0⟩,
⟨some 18, none, [], .extract (.t 12) 1⟩,
⟨some 10, none, [], .move (.t 17)⟩,
⟨some 11, none, [], .move (.t 18)⟩])
 (.seq
 (.ops [
⟨some 19, none, [], .move (.t 2)⟩,
⟨some 20, none, [], .load (.t 4) none⟩,
⟨some 21, none, [], .nilCheck (.t 20)⟩,
⟨some 22, none, [], .fieldAddr (.t 21) 0⟩,
⟨some 23, none, [], .load (.t 22) (some 4)⟩,
⟨some 24, none, [], .load (.t 4) none⟩,
⟨some 25, none, [], .nilCheck (.t 24)⟩,
⟨some 26, none, [], .fieldAddr (.t 25) 10⟩,
⟨some 27, none, [], .fieldAddr (.t 26) 2⟩,
⟨some 28, none, [], .load (.t 27) (some 2)⟩,
⟨some 29, none, [], .call (.k (.func (.func 90) ⟨[]⟩ ⟨[]⟩)) [.t 23, .t 28] true⟩,
⟨some 30, none, [], .load (.t 4) none⟩,
⟨some 31, none, [], .nilCheck (.t 30)⟩,
⟨some 32, none, [], .fieldAddr (.t 31) 4⟩,
⟨some 33, none, [], .fieldAddr (.t 32) 2⟩,
⟨some 34, none, [], .load (.t 33) none⟩,
⟨some 35, none, [], .bin .mul (.t 29) (.t 34)⟩,
⟨some 36, none, [], .bin .add (.t 19) (.t 35)⟩,
⟨some 37, none, [], .move (.t 11)⟩,
⟨some 8, none, [], .move (.t 36)⟩,
⟨some 9, none, [], .move (.t 37)⟩])
 .ret)))

/-- math.sqrt -/
def F106 : AFunc :=
 .sqrt

/-- math/bits.Mul32 -/
def F107 : AFunc :=
 .fn 17 [.tmp 4, .tmp 5]
 (.seq
 (.ops [
⟨some 4, none, [], .move (.k (.int .u32 0))⟩,
⟨some 5, none, [], .move (.k (.int .u32 0))⟩])
 (.seq
 (.ops [
⟨some 7, none, [], .move (.t 0)⟩,
⟨some 8, none, [], .toInt .u64 (.t 7)⟩,
⟨some 9, none, [], .move (.t 1)⟩,
⟨some 10, none, [], .toInt .u64 (.t 9)⟩,
⟨some 11, none, [], .bin .mul (.t 8) (.t 10)⟩,
⟨some 6, none, [], .move (.t 11)⟩])
 (.seq
 (.ops [
⟨some 12, none, [], .move (.t 6)⟩,
⟨some 13, none, [], .bin .shr (.t 12) (.k (.int .u64 32))⟩,
⟨some 14, none, [], .toInt .u32 (.t 13)⟩,
⟨some 15, none, [], .move (.t 6)⟩,
⟨some 16, none, [], .toInt .u32 (.t 15)⟩,
⟨some 4, none, [], .move (.t 14)⟩,
⟨some 5, none, [], .move (.t 16)⟩])
 .ret)))

/-- math/bits.Mul64 -/
def F108 : AFunc :=
 .fn 51 [.tmp 4, .tmp 5]
 (.seq
 (.ops [
⟨some 4, none, [], .move (.k (.int .u64 0))⟩,
⟨some 5, none, [], .move (.k (.int .u64 0))⟩])
 (.seq
 (.ops [
⟨some 14, none, [], .move (.t 0)⟩,
⟨some 15, none, [], .bin .and (.t 14) (.k (.int .u64 4294967295))⟩,
⟨some 6, none, [], .move (.t 15)⟩])
 (.seq
 (.ops [
⟨some 16, none, [], .move (.t 0)⟩,
⟨some 17, none, [], .bin .shr (.t 16) (.k (.int .u64 32))⟩,
⟨some 7, none, [], .move (.t 17)⟩])
 (.seq
 (.ops [
⟨some 18, none, [], .move (.t 1)⟩,
⟨some 19, none, [], .bin .and (.t 18) (.k (.int .u64 4294967295))⟩,
⟨some 8, none, [], .move (.t 19)⟩])
 (.seq
 (.ops [
⟨some 20, none, [], .move (.t 1)⟩,
⟨some 21, none, [], .bin .shr (.t 20) (.k (.int .u64 32))⟩,
⟨some 9, none, [], .move (.t 21)⟩])
 (.seq
 (.ops [
⟨some 22, none, [], .move (.t 6)⟩,
⟨some 23, none, [], .move (.t 8)⟩,
⟨some 24, none, [], .bin .mul (.t 22) (.t 23)⟩,
⟨some 10, none, [], .move (.t 24)⟩])
 (.seq
 (.ops [
⟨some 25, none, [], .move (.t 7)⟩,
⟨some 26, none, [], .move (.t 8)⟩,
⟨some 27, none, [], .bin .mul (.t 25) (.t 26)⟩,
⟨some 28, none, [], .move (.t 10)⟩,
⟨some 29, none, [], .bin .shr (.t 28) (.k (.int .u64 32))⟩,
⟨some 30, none, [], .bin .add (.t 27) (.t 29)⟩,
⟨some 11, none, [], .move (.t 30)⟩])
 (.seq
 (.ops [
⟨some 31, none, [], .move (.t 11)⟩,
⟨some 32, none, [], .bin .and (.t 31) (.k (.int .u64 4294967295))⟩,
⟨some 12, none, [], .move (.t 32)⟩])
 (.seq
 (.ops [
⟨some 33, none, [], .move (.t 11)⟩,
⟨some 34, none, [], .bin .shr (.t 33) (.k (.int .u64 32))⟩,
⟨some 13, none, [], .move (.t 34)⟩])
 (.seq
 (.ops [
⟨some 35, none, [], .move (.t 12)⟩,
⟨some 36, none, [], .move (.t 6)⟩,
⟨some 37, none, [], .move (.t 9)⟩,
⟨some 38, none, [], .bin .mul (.t 36) (.t 37)⟩,
⟨some 39, none, [], .bin .add (.t 35) (.t 38)⟩,
⟨some 12, none, [], .move (.t 39)⟩])
 (.seq
 (.ops [
⟨some 40, none, [], .move (.t 7)⟩,
⟨some 41, none, [], .move (.t 9)⟩,
⟨some 42, none, [], .bin .mul (.t 40) (.t 41)⟩,
⟨some 43, none, [], .move (.t 13)⟩,
⟨some 44, none, [], .bin .add (.t 42) (.t 43)⟩,
⟨some 45, none, [], .move (.t 12)⟩,
⟨some 46, none, [], .bin .shr (.t 45) (.k (.int .u64 32))⟩,
⟨some 47, none, [], .bin .add (.t 44) (.t 46)⟩,
⟨some 4, none, [], .move (.t 47)⟩])
 (.seq
 (.ops [
⟨some 48, none, [], .move (.t 0)⟩,
⟨some 49, none, [], .move (.t 1)⟩,
⟨some 50, none, [], .bin .mul (.t 48) (.t 49)⟩,
⟨some 5, none, [], .move (.t 50)⟩])
 .ret))))))))))))

/-- (*tidewall/wave.sheet).around$1 -/
def F109 : AFunc :=
 .fn 28 []
 (.seq
 (.ops [
⟨some 9, none, [], .load (.t 1) none⟩,
⟨some 10, none, [], .nilCheck (.t 9)⟩,
⟨some 11, none, [], .fieldAddr (.t 10) 4⟩,
⟨some 12, none, [], .load (.t 11) (some 4)⟩,
⟨some 13, none, [], .load (.t 2) none⟩,
⟨some 14, none, [], .call (.k (.func (.func 110) ⟨[]⟩ ⟨[]⟩)) [.t 12, .t 13] false⟩,
⟨some 8, none, [], .move (.t 14)⟩,
⟨some 15, none, [], .extract (.t 8) 0⟩,
⟨some 16, none, [], .extract (.t 8) 1⟩,
⟨some 4, none, [], .move (.t 15)⟩,
⟨some 5, none, [], .move (.t 16)⟩])
 (.seq
 (.ops [
⟨some 17, none, [], .move (.t 4)⟩,
⟨some 18, none, [], .len (.t 17)⟩,
⟨some 19, none, [], .move (.k (.int .i64 0))⟩])
 (.block 0
 (.loop
 (.seq
 (.ops [
⟨some 20, none, [], .bin .lss (.t 19) (.t 18)⟩])
 (.seq
 (.cond (.t 20)
 .skip
 (.exit 0))
 (.seq
 (.block 1
 (.seq
 (.ops [
⟨some 21, none, [], .idxS (.t 17) (.t 19) 1⟩,
⟨some 22, none, [], .load (.t 21) none⟩,
⟨some 7, none, [], .move (.t 22)⟩])
 (.seq
 (.ops [
⟨some 23, none, [], .move (.t 0)⟩,
⟨some 24, none, [], .move (.t 7)⟩,
⟨some 25, none, [], .call (.t 23) [.t 24] false⟩,
⟨some 26, none, [], .not (.t 25)⟩])
 (.cond (.t 26)
 .ret
 .skip))))
 (.ops [
⟨some 27, none, [], .bin .add (.t 19) (.k (.int .i64 1))⟩,
⟨some 19, none, [], .move (.t 27)⟩]))))))))

/-- tidewall/grid.Near -/
def F110 : AFunc :=
 .fn 23 [.tmp 4, .tmp 5]
 (.seq
 (.ops [
⟨some 2, none, [], .box (.t 0)⟩,
⟨some 4, none, [], .move (.k (.slice none 0 0))⟩,
⟨some 5, none, [], .move (.k (.int .i64 0))⟩])
 (.seq
 (.seq
 (.ops [
⟨some 7, none, [], .load (.t 2) (some 4)⟩,
⟨some 8, none, [], .call (.k (.func (.func 37) ⟨[]⟩ ⟨[]⟩)) [.t 7] false⟩,
⟨some 6, none, [], .move (.t 8)⟩])
 (.seq
 (.ops [
⟨some 9, none, [], .move (.t 6)⟩,
⟨some 10, none, [], .bin .neq (.t 9) (.k (.int .i64 0))⟩])
 (.cond (.t 10)
 (.seq
 (.ops [
⟨some 11, none, [], .move (.t 6)⟩,
⟨some 4, none, [], .move (.k (.slice none 0 0))⟩,
⟨some 5, none, [], .move (.t 11)⟩])
 .ret)
 .skip)))
 (.seq
 (.seq
 (.ops [
⟨some 12, none, [], .move (.t 1)⟩,
⟨some 13, none, [], .fieldAddr (.t 2) 3⟩,
⟨some 14, none, [], .load (.t 13) none⟩,
⟨some 15, none, [], .len (.t 14)⟩,
⟨some 16, none, [], .bin .sub (.t 15) (.k (.int .i64 1))⟩,
⟨some 17, none, [], .call (.k (.func (.func 55) ⟨[]⟩ ⟨[]⟩)) [.t 12, .k (.int .i64 0), .t 16] false⟩,
⟨some 18, none, [], .not (.t 17)⟩])
 (.cond (.t 18)
 (.seq
 (.ops [
⟨some 4, none, [], .move (.k (.slice none 0 0))⟩,
⟨some 5, none, [], .move (.k (.int .i64 4))⟩])
 .ret)
 .skip))
 (.seq
 (.ops [
⟨some 19, none, [], .load (.t 2) (some 4)⟩,
⟨some 20, none, [], .move (.t 1)⟩,
⟨some 21, none, [], .call (.k (.func (.func 112) ⟨[]⟩ ⟨[]⟩)) [.t 19, .t 20] false⟩,
⟨some 22, none, [], .call (.k (.func (.func 111) ⟨[]⟩ ⟨[]⟩)) [.t 21] false⟩,
⟨some 4, none, [], .move (.t 22)⟩,
⟨some 5, none, [], .move (.k (.int .i64 0))⟩])
 .ret))))

/-- slices.Collect[int] -/
def F111 : AFunc :=
 .fn 5 [.tmp 2]
 (.seq
 (.ops [
⟨some 2, none, [], .move (.k (.slice none 0 0))⟩])
 (.seq
 (.ops [
⟨some 3, none, [], .move (.t 0)⟩,
⟨some 4, none, [], .call (.k (.func (.func 113) ⟨[]⟩ ⟨[]⟩)) [.k (.slice none 0 0), .t 3] false⟩,
⟨some 2, none, [], .move (.t 4)⟩])
 .ret))

/-- tidewall/grid.around -/
def F112 : AFunc :=
 .fn 6 [.tmp 4]
 (.seq
 (.ops [
⟨some 2, none, [], .box (.t 0)⟩,
⟨some 3, none, [], .box (.t 1)⟩,
⟨some 4, none, [], .move (.k (.nilFunc))⟩])
 (.seq
 (.ops [
⟨some 5, none, [], .makeFunc 114 [] [.t 3, .t 2]⟩,
⟨some 4, none, [], .move (.t 5)⟩])
 .ret))

/-- slices.AppendSeq[[]int,int] -/
def F113 : AFunc :=
 .fn 13 [.tmp 4]
 (.seq
 (.ops [
⟨some 2, none, [], .box (.t 0)⟩,
⟨some 4, none, [], .move (.k (.slice none 0 0))⟩])
 (.seq
 (.seq
 (.ops [
⟨some 6, none, [], .move (.t 1)⟩])
 (.block 0
 (.rangeF (.t 6) [7]
 (.ops [
⟨some 5, none, [], .move (.t 7)⟩])
 (.block 1
 (.ops [
⟨some 8, none, [], .load (.t 2) none⟩,
⟨some 9, none, [], .move (.t 5)⟩,
⟨some 10, none, [], .slit 1 1 [.int .i64 0] [(0, .t 9)]⟩,
⟨some 11, none, [], .append (.t 8) (.t 10) 1 8⟩,
⟨none, none, [], .store (.t 2) (.t 11) 1⟩])))))
 (.seq
 (.ops [
⟨some 12, none, [], .load (.t 2) none⟩,
⟨some 4, none, [], .move (.t 12)⟩])
 .ret)))

/-- tidewall/grid.around$1 -/
def F114 : AFunc :=
 .fn 60 []
 (.seq
 (.ops [
⟨some 10, none, [], .load (.t 1) none⟩,
⟨some 11, none, [], .fieldAddr (.t 2) 0⟩,
⟨some 12, none, [], .load (.t 11) none⟩,
⟨some 13, none, [], .bin .rem (.t 10) (.t 12)⟩,
⟨some 14, none, [], .load (.t 1) none⟩,
⟨some 15, none, [], .fieldAddr (.t 2) 0⟩,
⟨some 16, none, [], .load (.t 15) none⟩,
⟨some 17, none, [], .bin .quo (.t 14) (.t 16)⟩,
⟨some 4, none, [], .move (.t 13)⟩,
⟨some 5, none, [], .move (.t 17)⟩])
 (.seq
 (.ops [
⟨some 18, none, [], .build [.int .i64 0, .int .i64 0] [(0, 1, .k (.int .i64 1)), (1, 1, .k (.int .i64 0))]⟩,
⟨some 19, none, [], .build [.int .i64 0, .int .i64 0] [(0, 1, .k (.int .i64 0)), (1, 1, .k (.int .i64 1))]⟩,
⟨some 20, none, [], .build [.int .i64 0, .int .i64 0] [(0, 1, .k (.int .i64 (-1))), (1, 1, .k (.int .i64 0))]⟩,
⟨some 21, none, [], .build [.int .i64 0, .int .i64 0] [(0, 1, .k (.int .i64 0)), (1, 1, .k (.int .i64 (-1)))]⟩,
⟨some 22, none, [], .slit 4 2 [.int .i64 0, .int .i64 0] [(0, .t 18), (1, .t 19), (2, .t 20), (3, .t 21)]⟩,
⟨some 23, none, [], .len (.t 22)⟩,
⟨some 24, none, [], .move (.k (.int .i64 0))⟩])
 (.block 0
 (.loop
 (.seq
 (.ops [
⟨some 25, none, [], .bin .lss (.t 24) (.t 23)⟩])
 (.seq
 (.cond (.t 25)
 .skip
 (.exit 0))
 (.seq
 (.block 1
 (.seq
 (.ops [
⟨some 26, none, [], .idxS (.t 22) (.t 24) 2⟩,
⟨some 27, none, [], .load (.t 26) (some 2)⟩,
⟨some 7, none, [], .alloc [.int .i64 0, .int .i64 0]⟩,
⟨none, none, [], .store (.t 7) (.t 27) 2⟩])
 (.seq
 (.ops [
⟨some 28, none, [], .move (.t 4)⟩,
⟨some 29, none, [], .idxA (.t 7) (.k (.int .i64 0)) 2 1⟩,
⟨some 30, none, [], .load (.t 29) none⟩,
⟨some 31, none, [], .bin .add (.t 28) (.t 30)⟩,
⟨some 32, none, [], .move (.t 5)⟩,
⟨some 33, none, [], .idxA (.t 7) (.k (.int .i64 1)) 2 1⟩,
⟨some 34, none, [], .load (.t 33) none⟩,
⟨some 35, none, [], .bin .add (.t 32) (.t 34)⟩,
⟨some 8, none, [], .move (.t 31)⟩,
⟨some 9, none, [], .move (.t 35)⟩])
 (.seq
 (.ops [
⟨some 36, none, [], .move (.t 8)⟩,
⟨some 37, none, [], .fieldAddr (.t 2) 0⟩,
⟨some 38, none, [], .load (.t 37) none⟩,
⟨some 39, none, [], .bin .sub (.t 38) (.k (.int .i64 1))⟩,
⟨some 40, none, [], .call (.k (.func (.func 55) ⟨[]⟩ ⟨[]⟩)) [.t 36, .k (.int .i64 0), .t 39] false⟩,
⟨some 41, none, [], .move (.t 40)⟩,
⟨some 42, (some (41, true)), [], .move (.t 9)⟩,
⟨some 43, (some (41, true)), [], .fieldAddr (.t 2) 1⟩,
⟨some 44, (some (41, true)), [], .load (.t 43) none⟩,
⟨some 45, (some (41, true)), [], .bin .sub (.t 44) (.k (.int .i64 1))⟩,
⟨some 46, (some (41, true)), [], .call (.k (.func (.func 55) ⟨[]⟩ ⟨[]⟩)) [.t 42, .k (.int .i64 0), .t 45] false⟩,
⟨some 47, none, [], .pick (.t 41) (.t 46) (.k (.bool false))⟩,
⟨some 48, none, [], .move (.t 47)⟩,
⟨some 49, (some (48, true)), [], .move (.t 0)⟩,
⟨some 50, (some (48, true)), [], .move (.t 9)⟩,
⟨some 51, (some (48, true)), [], .fieldAddr (.t 2) 0⟩,
⟨some 52, (some (48, true)), [], .load (.t 51) none⟩,
⟨some 53, (some (48, true)), [], .bin .mul (.t 50) (.t 52)⟩,
⟨some 54, (some (48, true)), [], .move (.t 8)⟩,
⟨some 55, (some (48, true)), [], .bin .add (.t 53) (.t 54)⟩,
⟨some 56, (some (48, true)), [], .call (.t 49) [.t 55] false⟩,
⟨some 57, (some (48, true)), [], .not (.t 56)⟩,
⟨some 58, none, [], .pick (.t 48) (.t 57) (.k (.bool false))⟩])
 (.cond (.t 58)
 .ret
 .skip)))))
 (.ops [
⟨some 59, none, [], .bin .add (.t 24) (.k (.int .i64 1))⟩,
⟨some 24, none, [], .move (.t 59)⟩]))))))))

def labs : List Nat := [0, 0, 1, 2, 3, 4, 5, 6, 7, 8, 9, 10, 11, 12, 13, 14, 15, 16, 17, 18, 19, 20, 21, 22, 23, 24, 25, 26, 27, 28, 29, 30, 31, 32, 33, 34, 35, 36, 37, 38, 39, 40, 41, 42, 43, 44, 45, 46, 47, 48, 49, 50, 51, 52, 53, 54, 55, 56, 57, 58, 59, 60, 61, 62, 63, 64, 65, 66, 67, 68, 69, 70, 71, 72, 73, 74, 75, 76, 77, 78, 79, 80, 81, 82, 83, 84, 85, 86, 87, 88, 89, 90, 91, 92, 93, 94, 95, 96, 97, 98, 99, 100, 101, 102, 103, 104, 105, 106, 107, 108, 109, 110, 111, 112, 113, 114, 0, 0, 0, 0, 0, 0, 0, 0, 0, 0, 0, 0, 0, 0, 0, 0]
def lab (f : Nat) : Nat := labs.getD f 0

/-- The functions by their labels. -/
def AP (n : Nat) : Option AFunc :=
 (cond (Nat.blt n 58) (cond (Nat.blt n 29) (cond (Nat.blt n 14) (cond (Nat.blt n 7) (cond (Nat.blt n 3) (cond (Nat.blt n 1) none (cond (Nat.blt n 2) (some F1) (some F2))) (cond (Nat.blt n 5) (cond (Nat.blt n 4) (some F3) (some F4)) (cond (Nat.blt n 6) (some F5) (some F6)))) (cond (Nat.blt n 10) (cond (Nat.blt n 8) (some F7) (cond (Nat.blt n 9) (some F8) (some F9))) (cond (Nat.blt n 12) (cond (Nat.blt n 11) (some F10) (some F11)) (cond (Nat.blt n 13) (some F12) (some F13))))) (cond (Nat.blt n 21) (cond (Nat.blt n 17) (cond (Nat.blt n 15) (some F14) (cond (Nat.blt n 16) (some F15) (some F16))) (cond (Nat.blt n 19) (cond (Nat.blt n 18) (some F17) (some F18)) (cond (Nat.blt n 20) (some F19) (some F20)))) (cond (Nat.blt n 25) (cond (Nat.blt n 23) (cond (Nat.blt n 22) (some F21) (some F22)) (cond (Nat.blt n 24) (some F23) (some F24))) (cond (Nat.blt n 27) (cond (Nat.blt n 26) (some F25) (some F26)) (cond (Nat.blt n 28) (some F27) (some F28)))))) (cond (Nat.blt n 43) (cond (Nat.blt n 36) (cond (Nat.blt n 32) (cond (Nat.blt n 30) (some F29) (cond (Nat.blt n 31) (some F30) (some F31))) (cond (Nat.blt n 34) (cond (Nat.blt n 33) (some F32) (some F33)) (cond (Nat.blt n 35) (some F34) (some F35)))) (cond (Nat.blt n 39) (cond (Nat.blt n 37) (some F36) (cond (Nat.blt n 38) (some F37) (some F38))) (cond (Nat.blt n 41) (cond (Nat.blt n 40) (some F39) (some F40)) (cond (Nat.blt n 42) (some F41) (some F42))))) (cond (Nat.blt n 50) (cond (Nat.blt n 46) (cond (Nat.blt n 44) (some F43) (cond (Nat.blt n 45) (some F44) (some F45))) (cond (Nat.blt n 48) (cond (Nat.blt n 47) (some F46) (some F47)) (cond (Nat.blt n 49) (some F48) (some F49)))) (cond (Nat.blt n 54) (cond (Nat.blt n 52) (cond (Nat.blt n 51) (some F50) (some F51)) (cond (Nat.blt n 53) (some F52) (some F53))) (cond (Nat.blt n 56) (cond (Nat.blt n 55) (some F54) (some F55)) (cond (Nat.blt n 57) (some F56) (some F57))))))) (cond (Nat.blt n 87) (cond (Nat.blt n 72) (cond (Nat.blt n 65) (cond (Nat.blt n 61) (cond (Nat.blt n 59) (some F58) (cond (Nat.blt n 60) (some F59) (some F60))) (cond (Nat.blt n 63) (cond (Nat.blt n 62) (some F61) (some F62)) (cond (Nat.blt n 64) (some F63) (some F64)))) (cond (Nat.blt n 68) (cond (Nat.blt n 66) (some F65) (cond (Nat.blt n 67) (some F66) (some F67))) (cond (Nat.blt n 70) (cond (Nat.blt n 69) (some F68) (some F69)) (cond (Nat.blt n 71) (some F70) (some F71))))) (cond (Nat.blt n 79) (cond (Nat.blt n 75) (cond (Nat.blt n 73) (some F72) (cond (Nat.blt n 74) (some F73) (some F74))) (cond (Nat.blt n 77) (cond (Nat.blt n 76) (some F75) (some F76)) (cond (Nat.blt n 78) (some F77) (some F78)))) (cond (Nat.blt n 83) (cond (Nat.blt n 81) (cond (Nat.blt n 80) (some F79) (some F80)) (cond (Nat.blt n 82) (some F81) (some F82))) (cond (Nat.blt n 85) (cond (Nat.blt n 84) (some F83) (some F84)) (cond (Nat.blt n 86) (some F85) (some F86)))))) (cond (Nat.blt n 101) (cond (Nat.blt n 94) (cond (Nat.blt n 90) (cond (Nat.blt n 88) (some F87) (cond (Nat.blt n 89) (some F88) (some F89))) (cond (Nat.blt n 92) (cond (Nat.blt n 91) (some F90) (some F91)) (cond (Nat.blt n 93) (some F92) (some F93)))) (cond (Nat.blt n 97) (cond (Nat.blt n 95) (some F94) (cond (Nat.blt n 96) (some F95) (some F96))) (cond (Nat.blt n 99) (cond (Nat.blt n 98) (some F97) (some F98)) (cond (Nat.blt n 100) (some F99) (some F100))))) (cond (Nat.blt n 108) (cond (Nat.blt n 104) (cond (Nat.blt n 102) (some F101) (cond (Nat.blt n 103) (some F102) (some F103))) (cond (Nat.blt n 106) (cond (Nat.blt n 105) (some F104) (some F105)) (cond (Nat.blt n 107) (some F106) (some F107)))) (cond (Nat.blt n 112) (cond (Nat.blt n 110) (cond (Nat.blt n 109) (some F108) (some F109)) (cond (Nat.blt n 111) (some F110) (some F111))) (cond (Nat.blt n 114) (cond (Nat.blt n 113) (some F112) (some F113)) (cond (Nat.blt n 115) (some F114) none)))))))

end Go.Ab.Wave
