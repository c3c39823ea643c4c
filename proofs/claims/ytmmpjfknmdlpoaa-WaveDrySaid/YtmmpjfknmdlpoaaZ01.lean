/- The program's functions in abstract form: made by a program of ours. -/
import Derived.Test.YtmmpjfknmdlpoaaZ00
set_option linter.unusedSimpArgs false
set_option linter.unusedVariables false
set_option linter.unusedSectionVars false
set_option maxRecDepth 100000
namespace Go.Ab.Wave
open Go.Ab

/-- gosem.cut.init -/
def F1 : AFunc :=
 .fn 1 []
 (.ops [
⟨some 0, none, [], .call (.k (.func (.func 0) ⟨[]⟩ ⟨[]⟩)) [] false⟩])

/-- tidewall/tidewalllaw05.WaveStarts -/
def F2 : AFunc :=
 .fn 91 [.tmp 6]
 (.seq
 (.ops [
⟨some 3, none, [], .box (.t 0)⟩,
⟨some 4, none, [], .box (.t 1)⟩,
⟨some 5, none, [], .box (.t 2)⟩,
⟨some 6, none, [], .move (.k (.bool false))⟩])
 (.seq
 (.seq
 (.ops [
⟨some 12, none, [], .fieldAddr (.t 4) 3⟩,
⟨some 13, none, [], .load (.t 12) none⟩,
⟨some 14, none, [], .len (.t 13)⟩,
⟨some 15, none, [], .bin .gtr (.t 14) (.k (.int .i64 600))⟩])
 (.cond (.t 15)
 (.seq
 (.ops [
⟨some 16, none, [], .call (.k (.func (.func 10) ⟨[]⟩ ⟨[]⟩)) [] false⟩,
⟨some 6, none, [], .move (.t 16)⟩])
 .ret)
 .skip))
 (.seq
 (.ops [
⟨some 18, none, [], .load (.t 4) (some 4)⟩,
⟨some 19, none, [], .load (.t 5) (some 5)⟩,
⟨some 20, none, [], .call (.k (.func (.func 11) ⟨[]⟩ ⟨[]⟩)) [.t 18, .t 19] false⟩,
⟨some 17, none, [], .move (.t 20)⟩,
⟨some 21, none, [], .extract (.t 17) 0⟩,
⟨some 22, none, [], .extract (.t 17) 1⟩,
⟨some 7, none, [], .move (.t 21)⟩,
⟨some 8, none, [], .move (.t 22)⟩])
 (.seq
 (.ops [
⟨some 24, none, [], .load (.t 4) (some 4)⟩,
⟨some 25, none, [], .load (.t 5) (some 5)⟩,
⟨some 26, none, [], .call (.k (.func (.func 12) ⟨[]⟩ ⟨[]⟩)) [.t 24, .t 25] false⟩,
⟨some 23, none, [], .move (.t 26)⟩,
⟨some 27, none, [], .extract (.t 23) 0⟩,
⟨some 28, none, [], .extract (.t 23) 1⟩,
⟨some 9, none, [], .move (.t 27)⟩,
⟨some 10, none, [], .move (.t 28)⟩])
 (.seq
 (.seq
 (.ops [
⟨some 29, none, [], .load (.t 3) (some 6)⟩,
⟨some 30, none, [], .call (.k (.func (.func 14) ⟨[]⟩ ⟨[]⟩)) [.t 29] true⟩,
⟨some 31, none, [], .call (.k (.func (.func 13) ⟨[]⟩ ⟨[]⟩)) [.t 30] true⟩,
⟨some 32, none, [], .load (.t 3) (some 6)⟩,
⟨some 33, none, [], .call (.k (.func (.func 15) ⟨[]⟩ ⟨[]⟩)) [.t 32] false⟩,
⟨some 34, none, [], .bin .neq (.t 31) (.t 33)⟩,
⟨some 35, none, [], .move (.t 34)⟩,
⟨some 36, (some (35, false)), [], .move (.t 7)⟩,
⟨some 37, (some (35, false)), [], .len (.t 36)⟩,
⟨some 38, (some (35, false)), [], .move (.t 9)⟩,
⟨some 39, (some (35, false)), [], .len (.t 38)⟩,
⟨some 40, (some (35, false)), [], .bin .neq (.t 37) (.t 39)⟩,
⟨some 41, none, [], .pick (.t 35) (.k (.bool true)) (.t 40)⟩,
⟨some 42, none, [], .move (.t 41)⟩,
⟨some 43, (some (42, false)), [], .move (.t 8)⟩,
⟨some 44, (some (42, false)), [], .move (.t 10)⟩,
⟨some 45, (some (42, false)), [], .bin .neq (.t 43) (.t 44)⟩,
⟨some 46, none, [], .pick (.t 42) (.k (.bool true)) (.t 45)⟩])
 (.cond (.t 46)
 (.seq
 (.ops [
⟨some 6, none, [], .move (.k (.bool false))⟩])
 .ret)
 .skip))
 (.seq
 (.seq
 (.ops [
⟨some 11, none, [], .move (.k (.int .i64 0))⟩])
 (.block 0
 (.loop
 (.seq
 (.seq
 (.ops [
⟨some 47, none, [], .move (.t 11)⟩,
⟨some 48, none, [], .move (.t 7)⟩,
⟨some 49, none, [], .len (.t 48)⟩,
⟨some 50, none, [], .bin .lss (.t 47) (.t 49)⟩])
 (.cond (.t 50)
 .skip
 (.exit 0)))
 (.seq
 (.block 1
 (.seq
 (.ops [
⟨some 53, none, [], .move (.t 7)⟩,
⟨some 54, none, [], .move (.t 11)⟩,
⟨some 55, none, [], .idxS (.t 53) (.t 54) 5⟩,
⟨some 56, none, [], .fieldAddr (.t 55) 0⟩,
⟨some 57, none, [], .load (.t 56) none⟩,
⟨some 58, none, [], .move (.t 9)⟩,
⟨some 59, none, [], .move (.t 11)⟩,
⟨some 60, none, [], .idxS (.t 58) (.t 59) 5⟩,
⟨some 61, none, [], .fieldAddr (.t 60) 0⟩,
⟨some 62, none, [], .load (.t 61) none⟩,
⟨some 63, none, [], .bin .neq (.t 57) (.t 62)⟩,
⟨some 64, none, [], .move (.t 63)⟩,
⟨some 65, (some (64, false)), [], .move (.t 7)⟩,
⟨some 66, (some (64, false)), [], .move (.t 11)⟩,
⟨some 67, (some (64, false)), [], .idxS (.t 65) (.t 66) 5⟩,
⟨some 68, (some (64, false)), [], .fieldAddr (.t 67) 1⟩,
⟨some 69, (some (64, false)), [], .load (.t 68) (some 2)⟩,
⟨some 70, (some (64, false)), [], .move (.t 9)⟩,
⟨some 71, (some (64, false)), [], .move (.t 11)⟩,
⟨some 72, (some (64, false)), [], .idxS (.t 70) (.t 71) 5⟩,
⟨some 73, (some (64, false)), [], .fieldAddr (.t 72) 1⟩,
⟨some 74, (some (64, false)), [], .load (.t 73) (some 2)⟩,
⟨some 75, (some (64, false)), [], .eqv true [false, false] (.t 69) (.t 74)⟩,
⟨some 76, none, [], .pick (.t 64) (.k (.bool true)) (.t 75)⟩,
⟨some 77, none, [], .move (.t 76)⟩,
⟨some 78, (some (77, false)), [], .move (.t 7)⟩,
⟨some 79, (some (77, false)), [], .move (.t 11)⟩,
⟨some 80, (some (77, false)), [], .idxS (.t 78) (.t 79) 5⟩,
⟨some 81, (some (77, false)), [], .fieldAddr (.t 80) 3⟩,
⟨some 82, (some (77, false)), [], .load (.t 81) (some 2)⟩,
⟨some 83, (some (77, false)), [], .move (.t 9)⟩,
⟨some 84, (some (77, false)), [], .move (.t 11)⟩,
⟨some 85, (some (77, false)), [], .idxS (.t 83) (.t 84) 5⟩,
⟨some 86, (some (77, false)), [], .fieldAddr (.t 85) 3⟩,
⟨some 87, (some (77, false)), [], .load (.t 86) (some 2)⟩,
⟨some 88, (some (77, false)), [], .eqv true [false, false] (.t 82) (.t 87)⟩,
⟨some 89, none, [], .pick (.t 77) (.k (.bool true)) (.t 88)⟩])
 (.cond (.t 89)
 (.seq
 (.ops [
⟨some 6, none, [], .move (.k (.bool false))⟩])
 .ret)
 .skip)))
 (.ops [
⟨some 51, none, [], .move (.t 11)⟩,
⟨some 52, none, [], .bin .add (.t 51) (.k (.int .i64 1))⟩,
⟨some 11, none, [], .move (.t 52)⟩]))))))
 (.seq
 (.ops [
⟨some 90, none, [], .call (.k (.func (.func 10) ⟨[]⟩ ⟨[]⟩)) [] false⟩,
⟨some 6, none, [], .move (.t 90)⟩])
 .ret)))))))

/-- tidewall/tidewalllaw05.WaveSources -/
def F3 : AFunc :=
 .fn 95 [.tmp 8]
 (.seq
 (.ops [
⟨some 4, none, [], .box (.t 0)⟩,
⟨some 5, none, [], .box (.t 1)⟩,
⟨some 6, none, [], .box (.t 2)⟩,
⟨some 8, none, [], .move (.k (.bool false))⟩])
 (.seq
 (.seq
 (.ops [
⟨some 14, none, [], .fieldAddr (.t 4) 3⟩,
⟨some 15, none, [], .load (.t 14) none⟩,
⟨some 16, none, [], .len (.t 15)⟩,
⟨some 17, none, [], .bin .gtr (.t 16) (.k (.int .i64 30))⟩,
⟨some 18, none, [], .move (.t 17)⟩,
⟨some 19, (some (18, false)), [], .move (.t 3)⟩,
⟨some 20, (some (18, false)), [], .len (.t 19)⟩,
⟨some 21, (some (18, false)), [], .bin .gtr (.t 20) (.k (.int .i64 6))⟩,
⟨some 22, (some (18, false)), [], .move (.t 21)⟩,
⟨some 23, (some (22, true)), [], .move (.t 3)⟩,
⟨some 24, (some (22, true)), [], .len (.t 23)⟩,
⟨some 25, (some (22, true)), [], .bin .leq (.t 24) (.k (.int .i64 256))⟩,
⟨some 26, (some (18, false)), [], .pick (.t 22) (.t 25) (.k (.bool false))⟩,
⟨some 27, none, [], .pick (.t 18) (.k (.bool true)) (.t 26)⟩,
⟨some 28, none, [], .move (.t 27)⟩,
⟨some 29, (some (28, false)), [], .move (.t 3)⟩,
⟨some 30, (some (28, false)), [], .len (.t 29)⟩,
⟨some 31, (some (28, false)), [], .bin .gtr (.t 30) (.k (.int .i64 300))⟩,
⟨some 32, none, [], .pick (.t 28) (.k (.bool true)) (.t 31)⟩])
 (.cond (.t 32)
 (.seq
 (.ops [
⟨some 33, none, [], .call (.k (.func (.func 10) ⟨[]⟩ ⟨[]⟩)) [] false⟩,
⟨some 8, none, [], .move (.t 33)⟩])
 .ret)
 .skip))
 (.seq
 (.ops [
⟨some 34, none, [], .build [.int .i64 0, .int .i64 0, .int .i64 0, .int .i64 0, .int .i64 0] []⟩,
⟨some 9, none, [], .alloc [.int .i64 0, .int .i64 0, .int .i64 0, .int .i64 0, .int .i64 0]⟩,
⟨none, none, [], .store (.t 9) (.t 34) 5⟩])
 (.seq
 (.seq
 (.ops [
⟨some 35, none, [], .move (.t 3)⟩,
⟨some 36, none, [], .len (.t 35)⟩,
⟨some 37, none, [], .bin .gtr (.t 36) (.k (.int .i64 0))⟩])
 (.cond (.t 37)
 (.ops [
⟨some 38, none, [], .move (.t 3)⟩,
⟨some 39, none, [], .idxS (.t 38) (.k (.int .i64 0)) 5⟩,
⟨some 40, none, [], .load (.t 39) (some 5)⟩,
⟨none, none, [], .store (.t 9) (.t 40) 5⟩])
 .skip))
 (.seq
 (.ops [
⟨some 42, none, [], .load (.t 4) (some 4)⟩,
⟨some 43, none, [], .load (.t 5) (some 2)⟩,
⟨some 44, none, [], .load (.t 6) (some 6)⟩,
⟨some 45, none, [], .call (.k (.func (.func 14) ⟨[]⟩ ⟨[]⟩)) [.t 44] true⟩,
⟨some 46, none, [], .load (.t 9) (some 5)⟩,
⟨some 47, none, [], .call (.k (.func (.func 16) ⟨[]⟩ ⟨[]⟩)) [.t 42, .t 43, .t 45, .t 46] false⟩,
⟨some 41, none, [], .move (.t 47)⟩,
⟨some 48, none, [], .extract (.t 41) 0⟩,
⟨some 49, none, [], .extract (.t 41) 1⟩,
⟨some 10, none, [], .move (.t 48)⟩,
⟨some 11, none, [], .move (.t 49)⟩])
 (.seq
 (.ops [
⟨some 51, none, [], .load (.t 4) (some 4)⟩,
⟨some 52, none, [], .load (.t 5) (some 2)⟩,
⟨some 53, none, [], .load (.t 6) (some 6)⟩,
⟨some 54, none, [], .load (.t 9) (some 5)⟩,
⟨some 55, none, [], .call (.k (.func (.func 17) ⟨[]⟩ ⟨[]⟩)) [.t 51, .t 52, .t 53, .t 54] false⟩,
⟨some 50, none, [], .move (.t 55)⟩,
⟨some 56, none, [], .extract (.t 50) 0⟩,
⟨some 57, none, [], .extract (.t 50) 1⟩,
⟨some 12, none, [], .move (.t 56)⟩,
⟨some 13, none, [], .move (.t 57)⟩])
 (.seq
 (.seq
 (.ops [
⟨some 58, none, [], .move (.t 10)⟩,
⟨some 59, none, [], .move (.t 12)⟩,
⟨some 60, none, [], .call (.k (.func (.func 18) ⟨[]⟩ ⟨[]⟩)) [.t 58, .t 59] false⟩,
⟨some 61, none, [], .not (.t 60)⟩,
⟨some 62, none, [], .move (.t 61)⟩,
⟨some 63, (some (62, false)), [], .move (.t 11)⟩,
⟨some 64, (some (62, false)), [], .move (.t 13)⟩,
⟨some 65, (some (62, false)), [], .bin .neq (.t 63) (.t 64)⟩,
⟨some 66, none, [], .pick (.t 62) (.k (.bool true)) (.t 65)⟩])
 (.cond (.t 66)
 (.seq
 (.ops [
⟨some 8, none, [], .move (.k (.bool false))⟩])
 .ret)
 .skip))
 (.seq
 (.ops [
⟨some 68, none, [], .load (.t 4) (some 4)⟩,
⟨some 69, none, [], .load (.t 5) (some 2)⟩,
⟨some 70, none, [], .load (.t 6) (some 6)⟩,
⟨some 71, none, [], .call (.k (.func (.func 14) ⟨[]⟩ ⟨[]⟩)) [.t 70] true⟩,
⟨some 72, none, [], .move (.t 3)⟩,
⟨some 73, none, [], .call (.k (.func (.func 19) ⟨[]⟩ ⟨[]⟩)) [.t 68, .t 69, .t 71, .t 72] false⟩,
⟨some 67, none, [], .move (.t 73)⟩,
⟨some 74, none, [], .extract (.t 67) 0⟩,
⟨some 75, none, [], .extract (.t 67) 1⟩,
⟨some 10, none, [], .move (.t 74)⟩,
⟨some 11, none, [], .move (.t 75)⟩])
 (.seq
 (.ops [
⟨some 77, none, [], .load (.t 4) (some 4)⟩,
⟨some 78, none, [], .load (.t 5) (some 2)⟩,
⟨some 79, none, [], .load (.t 6) (some 6)⟩,
⟨some 80, none, [], .move (.t 3)⟩,
⟨some 81, none, [], .call (.k (.func (.func 20) ⟨[]⟩ ⟨[]⟩)) [.t 77, .t 78, .t 79, .t 80] false⟩,
⟨some 76, none, [], .move (.t 81)⟩,
⟨some 82, none, [], .extract (.t 76) 0⟩,
⟨some 83, none, [], .extract (.t 76) 1⟩,
⟨some 12, none, [], .move (.t 82)⟩,
⟨some 13, none, [], .move (.t 83)⟩])
 (.seq
 (.ops [
⟨some 84, none, [], .move (.t 10)⟩,
⟨some 85, none, [], .move (.t 12)⟩,
⟨some 86, none, [], .call (.k (.func (.func 18) ⟨[]⟩ ⟨[]⟩)) [.t 84, .t 85] false⟩,
⟨some 87, none, [], .move (.t 86)⟩,
⟨some 88, (some (87, true)), [], .move (.t 11)⟩,
⟨some 89, (some (87, true)), [], .move (.t 13)⟩,
⟨some 90, (some (87, true)), [], .bin .eql (.t 88) (.t 89)⟩,
⟨some 91, none, [], .pick (.t 87) (.t 90) (.k (.bool false))⟩,
⟨some 92, none, [], .move (.t 91)⟩,
⟨some 93, (some (92, true)), [], .call (.k (.func (.func 10) ⟨[]⟩ ⟨[]⟩)) [] false⟩,
⟨some 94, none, [], .pick (.t 92) (.t 93) (.k (.bool false))⟩,
⟨some 8, none, [], .move (.t 94)⟩])
 .ret))))))))))

/-- tidewall/tidewalllaw05.WaveDry -/
def F4 : AFunc :=
 .fn 78 [.tmp 6]
 (.seq
 (.ops [
⟨some 3, none, [], .box (.t 0)⟩,
⟨some 4, none, [], .box (.t 1)⟩,
⟨some 6, none, [], .move (.k (.bool false))⟩])
 (.seq
 (.seq
 (.ops [
⟨some 13, none, [], .fieldAddr (.t 3) 3⟩,
⟨some 14, none, [], .load (.t 13) none⟩,
⟨some 15, none, [], .len (.t 14)⟩,
⟨some 16, none, [], .bin .gtr (.t 15) (.k (.int .i64 100))⟩,
⟨some 17, none, [], .move (.t 16)⟩,
⟨some 18, (some (17, false)), [], .move (.t 2)⟩,
⟨some 19, (some (17, false)), [], .len (.t 18)⟩,
⟨some 20, (some (17, false)), [], .bin .gtr (.t 19) (.k (.int .i64 110))⟩,
⟨some 21, none, [], .pick (.t 17) (.k (.bool true)) (.t 20)⟩])
 (.cond (.t 21)
 (.seq
 (.ops [
⟨some 22, none, [], .call (.k (.func (.func 10) ⟨[]⟩ ⟨[]⟩)) [] false⟩,
⟨some 6, none, [], .move (.t 22)⟩])
 .ret)
 .skip))
 (.seq
 (.ops [
⟨some 7, none, [], .move (.k (.slice none 0 0))⟩])
 (.seq
 (.seq
 (.ops [
⟨some 8, none, [], .move (.k (.int .i64 0))⟩])
 (.block 0
 (.loop
 (.seq
 (.seq
 (.ops [
⟨some 23, none, [], .move (.t 8)⟩,
⟨some 24, none, [], .move (.t 2)⟩,
⟨some 25, none, [], .len (.t 24)⟩,
⟨some 26, none, [], .bin .lss (.t 23) (.t 25)⟩])
 (.cond (.t 26)
 .skip
 (.exit 0)))
 (.seq
 (.block 1
 (.ops [
⟨some 29, none, [], .move (.t 7)⟩,
⟨some 30, none, [], .move (.t 2)⟩,
⟨some 31, none, [], .move (.t 8)⟩,
⟨some 32, none, [], .idxS (.t 30) (.t 31) 8⟩,
⟨some 33, none, [], .fieldAddr (.t 32) 0⟩,
⟨some 34, none, [], .load (.t 33) (some 2)⟩,
⟨some 35, none, [], .move (.t 2)⟩,
⟨some 36, none, [], .move (.t 8)⟩,
⟨some 37, none, [], .idxS (.t 35) (.t 36) 8⟩,
⟨some 38, none, [], .fieldAddr (.t 37) 2⟩,
⟨some 39, none, [], .load (.t 38) (some 2)⟩,
⟨some 40, none, [], .move (.t 2)⟩,
⟨some 41, none, [], .move (.t 8)⟩,
⟨some 42, none, [], .idxS (.t 40) (.t 41) 8⟩,
⟨some 43, none, [], .fieldAddr (.t 42) 4⟩,
⟨some 44, none, [], .load (.t 43) (some 2)⟩,
⟨some 45, none, [], .move (.t 2)⟩,
⟨some 46, none, [], .move (.t 8)⟩,
⟨some 47, none, [], .idxS (.t 45) (.t 46) 8⟩,
⟨some 48, none, [], .fieldAddr (.t 47) 6⟩,
⟨some 49, none, [], .load (.t 48) (some 2)⟩,
⟨some 50, none, [], .build [.int .i64 0, .int .i64 0, .int .i64 0, .int .i64 0, .int .i64 0, .int .i64 0, .int .i64 0, .int .i64 0] [(0, 2, .t 34), (2, 2, .t 39), (4, 2, .t 44), (6, 2, .t 49)]⟩,
⟨some 51, none, [], .slit 1 8 [.int .i64 0, .int .i64 0, .int .i64 0, .int .i64 0, .int .i64 0, .int .i64 0, .int .i64 0, .int .i64 0] [(0, .t 50)]⟩,
⟨some 52, none, [], .append (.t 29) (.t 51) 8 64⟩,
⟨some 7, none, [], .move (.t 52)⟩]))
 (.ops [
⟨some 27, none, [], .move (.t 8)⟩,
⟨some 28, none, [], .bin .add (.t 27) (.k (.int .i64 1))⟩,
⟨some 8, none, [], .move (.t 28)⟩]))))))
 (.seq
 (.ops [
⟨some 54, none, [], .load (.t 3) (some 4)⟩,
⟨some 55, none, [], .load (.t 4) (some 2)⟩,
⟨some 56, none, [], .move (.t 7)⟩,
⟨some 57, none, [], .call (.k (.func (.func 21) ⟨[]⟩ ⟨[]⟩)) [.t 54, .t 55, .t 56] false⟩,
⟨some 53, none, [], .move (.t 57)⟩,
⟨some 58, none, [], .extract (.t 53) 0⟩,
⟨some 59, none, [], .extract (.t 53) 1⟩,
⟨some 9, none, [], .move (.t 58)⟩,
⟨some 10, none, [], .move (.t 59)⟩])
 (.seq
 (.ops [
⟨some 61, none, [], .load (.t 3) (some 4)⟩,
⟨some 62, none, [], .load (.t 4) (some 2)⟩,
⟨some 63, none, [], .move (.t 2)⟩,
⟨some 64, none, [], .call (.k (.func (.func 22) ⟨[]⟩ ⟨[]⟩)) [.t 61, .t 62, .t 63] false⟩,
⟨some 60, none, [], .move (.t 64)⟩,
⟨some 65, none, [], .extract (.t 60) 0⟩,
⟨some 66, none, [], .extract (.t 60) 1⟩,
⟨some 11, none, [], .move (.t 65)⟩,
⟨some 12, none, [], .move (.t 66)⟩])
 (.seq
 (.ops [
⟨some 67, none, [], .move (.t 9)⟩,
⟨some 68, none, [], .move (.t 11)⟩,
⟨some 69, none, [], .call (.k (.func (.func 23) ⟨[]⟩ ⟨[]⟩)) [.t 67, .t 68] false⟩,
⟨some 70, none, [], .move (.t 69)⟩,
⟨some 71, (some (70, true)), [], .move (.t 10)⟩,
⟨some 72, (some (70, true)), [], .move (.t 12)⟩,
⟨some 73, (some (70, true)), [], .bin .eql (.t 71) (.t 72)⟩,
⟨some 74, none, [], .pick (.t 70) (.t 73) (.k (.bool false))⟩,
⟨some 75, none, [], .move (.t 74)⟩,
⟨some 76, (some (75, true)), [], .call (.k (.func (.func 10) ⟨[]⟩ ⟨[]⟩)) [] false⟩,
⟨some 77, none, [], .pick (.t 75) (.t 76) (.k (.bool false))⟩,
⟨some 6, none, [], .move (.t 77)⟩])
 .ret)))))))

/-- tidewall/tidewalllaw05.WaveAny -/
def F5 : AFunc :=
 .fn 387 [.tmp 6]
 (.seq
 (.ops [
⟨some 3, none, [], .box (.t 0)⟩,
⟨some 6, none, [], .move (.k (.bool false))⟩])
 (.seq
 (.seq
 (.ops [
⟨some 34, none, [], .move (.t 1)⟩,
⟨some 35, none, [], .len (.t 34)⟩,
⟨some 36, none, [], .bin .lss (.t 35) (.k (.int .i64 1))⟩,
⟨some 37, none, [], .move (.t 36)⟩,
⟨some 38, (some (37, false)), [], .move (.t 1)⟩,
⟨some 39, (some (37, false)), [], .len (.t 38)⟩,
⟨some 40, (some (37, false)), [], .bin .gtr (.t 39) (.k (.int .i64 5))⟩,
⟨some 41, none, [], .pick (.t 37) (.k (.bool true)) (.t 40)⟩])
 (.cond (.t 41)
 (.seq
 (.ops [
⟨some 42, none, [], .call (.k (.func (.func 10) ⟨[]⟩ ⟨[]⟩)) [] false⟩,
⟨some 6, none, [], .move (.t 42)⟩])
 .ret)
 .skip))
 (.seq
 (.ops [
⟨some 44, none, [], .load (.t 3) (some 12)⟩,
⟨some 45, none, [], .call (.k (.func (.func 24) ⟨[]⟩ ⟨[]⟩)) [.t 44] false⟩,
⟨some 43, none, [], .move (.t 45)⟩,
⟨some 46, none, [], .extract (.t 43) 0⟩,
⟨some 47, none, [], .extract (.t 43) 1⟩,
⟨some 48, none, [], .extract (.t 43) 2⟩,
⟨some 7, none, [], .alloc [.int .i64 0, .int .i64 0, .int .i64 0, .slice none 0 0]⟩,
⟨some 8, none, [], .alloc [.int .i64 0, .int .i64 0]⟩,
⟨some 9, none, [], .alloc [.int .i64 0, .int .i64 0, .int .i64 0, .int .i64 0, .int .i64 0, .int .i64 0]⟩,
⟨none, none, [], .store (.t 7) (.t 46) 4⟩,
⟨none, none, [], .store (.t 8) (.t 47) 2⟩,
⟨none, none, [], .store (.t 9) (.t 48) 6⟩])
 (.seq
 (.ops [
⟨some 10, none, [], .move (.k (.slice none 0 0))⟩,
⟨some 11, none, [], .move (.k (.slice none 0 0))⟩])
 (.seq
 (.seq
 (.ops [
⟨some 49, none, [], .move (.t 1)⟩,
⟨some 50, none, [], .len (.t 49)⟩,
⟨some 51, none, [], .move (.k (.int .i64 0))⟩])
 (.block 0
 (.loop
 (.seq
 (.ops [
⟨some 52, none, [], .bin .lss (.t 51) (.t 50)⟩])
 (.seq
 (.cond (.t 52)
 .skip
 (.exit 0))
 (.seq
 (.block 1
 (.seq
 (.ops [
⟨some 53, none, [], .move (.t 51)⟩,
⟨some 54, none, [], .idxS (.t 49) (.t 51) 4⟩,
⟨some 55, none, [], .load (.t 54) (some 4)⟩,
⟨some 13, none, [], .alloc [.int .u16 0, .int .u16 0, .int .u16 0, .int .u16 0]⟩,
⟨some 12, none, [], .move (.t 53)⟩,
⟨none, none, [], .store (.t 13) (.t 55) 4⟩])
 (.seq
 (.ops [
⟨some 56, none, [], .idxA (.t 13) (.k (.int .i64 0)) 4 1⟩,
⟨some 57, none, [], .load (.t 56) none⟩,
⟨some 58, none, [], .toInt .i64 (.t 57)⟩,
⟨some 59, none, [], .bin .rem (.t 58) (.k (.int .i64 3))⟩,
⟨some 60, none, [], .bin .add (.k (.int .i64 1)) (.t 59)⟩,
⟨some 61, none, [], .idxA (.t 13) (.k (.int .i64 1)) 4 1⟩,
⟨some 62, none, [], .load (.t 61) none⟩,
⟨some 63, none, [], .toInt .i64 (.t 62)⟩,
⟨some 64, none, [], .fieldAddr (.t 7) 3⟩,
⟨some 65, none, [], .load (.t 64) none⟩,
⟨some 66, none, [], .len (.t 65)⟩,
⟨some 67, none, [], .bin .rem (.t 63) (.t 66)⟩,
⟨some 68, none, [], .idxA (.t 13) (.k (.int .i64 2)) 4 1⟩,
⟨some 69, none, [], .load (.t 68) none⟩,
⟨some 70, none, [], .toInt .i64 (.t 69)⟩,
⟨some 71, none, [], .bin .rem (.t 70) (.k (.int .i64 10))⟩,
⟨some 72, none, [], .bin .add (.k (.int .i64 1)) (.t 71)⟩,
⟨some 73, none, [], .idxA (.t 13) (.k (.int .i64 3)) 4 1⟩,
⟨some 74, none, [], .load (.t 73) none⟩,
⟨some 75, none, [], .toInt .i64 (.t 74)⟩,
⟨some 76, none, [], .idxA (.t 13) (.k (.int .i64 3)) 4 1⟩,
⟨some 77, none, [], .load (.t 76) none⟩,
⟨some 78, none, [], .toInt .i64 (.t 77)⟩,
⟨some 79, none, [], .idxA (.t 13) (.k (.int .i64 0)) 4 1⟩,
⟨some 80, none, [], .load (.t 79) none⟩,
⟨some 81, none, [], .toInt .i64 (.t 80)⟩,
⟨some 82, none, [], .bin .rem (.t 81) (.k (.int .i64 5000))⟩,
⟨some 83, none, [], .bin .add (.t 78) (.t 82)⟩,
⟨some 84, none, [], .call (.k (.func (.func 25) ⟨[]⟩ ⟨[]⟩)) [.t 75, .t 83] true⟩,
⟨some 85, none, [], .build [.int .i64 0, .int .i64 0, .int .i64 0, .int .i64 0, .int .i64 0] [(0, 1, .t 60), (1, 1, .t 67), (2, 1, .t 72), (3, 2, .t 84)]⟩,
⟨some 14, none, [], .alloc [.int .i64 0, .int .i64 0, .int .i64 0, .int .i64 0, .int .i64 0]⟩,
⟨none, none, [], .store (.t 14) (.t 85) 5⟩])
 (.seq
 (.ops [
⟨some 86, none, [], .move (.t 10)⟩,
⟨some 87, none, [], .load (.t 14) (some 5)⟩,
⟨some 88, none, [], .slit 1 5 [.int .i64 0, .int .i64 0, .int .i64 0, .int .i64 0, .int .i64 0] [(0, .t 87)]⟩,
⟨some 89, none, [], .append (.t 86) (.t 88) 5 40⟩,
⟨some 10, none, [], .move (.t 89)⟩])
 (.seq
 (.ops [
⟨some 90, none, [], .move (.t 2)⟩,
⟨some 91, none, [], .move (.t 12)⟩,
⟨some 92, none, [], .bin .shr (.t 90) (.t 91)⟩,
⟨some 93, none, [], .bin .and (.t 92) (.k (.int .u8 1))⟩,
⟨some 94, none, [], .bin .eql (.t 93) (.k (.int .u8 1))⟩])
 (.cond (.t 94)
 (.ops [
⟨some 95, none, [], .move (.t 11)⟩,
⟨some 96, none, [], .load (.t 14) (some 5)⟩,
⟨some 97, none, [], .slit 1 5 [.int .i64 0, .int .i64 0, .int .i64 0, .int .i64 0, .int .i64 0] [(0, .t 96)]⟩,
⟨some 98, none, [], .append (.t 95) (.t 97) 5 40⟩,
⟨some 11, none, [], .move (.t 98)⟩])
 .skip))))))
 (.ops [
⟨some 99, none, [], .bin .add (.t 51) (.k (.int .i64 1))⟩,
⟨some 51, none, [], .move (.t 99)⟩])))))))
 (.seq
 (.ops [
⟨some 101, none, [], .load (.t 7) (some 4)⟩,
⟨some 102, none, [], .load (.t 8) (some 2)⟩,
⟨some 103, none, [], .load (.t 9) (some 6)⟩,
⟨some 104, none, [], .move (.t 10)⟩,
⟨some 105, none, [], .call (.k (.func (.func 19) ⟨[]⟩ ⟨[]⟩)) [.t 101, .t 102, .t 103, .t 104] false⟩,
⟨some 100, none, [], .move (.t 105)⟩,
⟨some 106, none, [], .extract (.t 100) 0⟩,
⟨some 107, none, [], .extract (.t 100) 1⟩,
⟨some 15, none, [], .move (.t 106)⟩,
⟨some 16, none, [], .move (.t 107)⟩])
 (.seq
 (.ops [
⟨some 109, none, [], .load (.t 7) (some 4)⟩,
⟨some 110, none, [], .load (.t 8) (some 2)⟩,
⟨some 111, none, [], .move (.t 15)⟩,
⟨some 112, none, [], .call (.k (.func (.func 21) ⟨[]⟩ ⟨[]⟩)) [.t 109, .t 110, .t 111] false⟩,
⟨some 108, none, [], .move (.t 112)⟩,
⟨some 113, none, [], .extract (.t 108) 0⟩,
⟨some 114, none, [], .extract (.t 108) 1⟩,
⟨some 17, none, [], .move (.t 113)⟩,
⟨some 18, none, [], .move (.t 114)⟩])
 (.seq
 (.seq
 (.ops [
⟨some 115, none, [], .move (.t 16)⟩,
⟨some 116, none, [], .bin .neq (.t 115) (.k (.int .i64 0))⟩,
⟨some 117, none, [], .move (.t 116)⟩,
⟨some 118, (some (117, false)), [], .move (.t 18)⟩,
⟨some 119, (some (117, false)), [], .bin .neq (.t 118) (.k (.int .i64 0))⟩,
⟨some 120, none, [], .pick (.t 117) (.k (.bool true)) (.t 119)⟩,
⟨some 121, none, [], .move (.t 120)⟩,
⟨some 122, (some (121, false)), [], .move (.t 15)⟩,
⟨some 123, (some (121, false)), [], .len (.t 122)⟩,
⟨some 124, (some (121, false)), [], .fieldAddr (.t 7) 3⟩,
⟨some 125, (some (121, false)), [], .load (.t 124) none⟩,
⟨some 126, (some (121, false)), [], .len (.t 125)⟩,
⟨some 127, (some (121, false)), [], .bin .neq (.t 123) (.t 126)⟩,
⟨some 128, none, [], .pick (.t 121) (.k (.bool true)) (.t 127)⟩,
⟨some 129, none, [], .move (.t 128)⟩,
⟨some 130, (some (129, false)), [], .move (.t 17)⟩,
⟨some 131, (some (129, false)), [], .len (.t 130)⟩,
⟨some 132, (some (129, false)), [], .move (.t 15)⟩,
⟨some 133, (some (129, false)), [], .len (.t 132)⟩,
⟨some 134, (some (129, false)), [], .bin .neq (.t 131) (.t 133)⟩,
⟨some 135, none, [], .pick (.t 129) (.k (.bool true)) (.t 134)⟩])
 (.cond (.t 135)
 (.seq
 (.ops [
⟨some 6, none, [], .move (.k (.bool false))⟩])
 .ret)
 .skip))
 (.seq
 (.ops [
⟨some 136, none, [], .move (.t 15)⟩,
⟨some 137, none, [], .len (.t 136)⟩,
⟨some 138, none, [], .makeS (.t 137) (.t 137) 8 8 [.bool false, .bool false, .bool false, .bool false, .bool false, .bool false, .bool false, .bool false]⟩,
⟨some 19, none, [], .move (.t 138)⟩])
 (.seq
 (.seq
 (.ops [
⟨some 139, none, [], .move (.t 10)⟩,
⟨some 140, none, [], .len (.t 139)⟩,
⟨some 141, none, [], .move (.k (.int .i64 0))⟩])
 (.block 2
 (.loop
 (.seq
 (.ops [
⟨some 142, none, [], .bin .lss (.t 141) (.t 140)⟩])
 (.seq
 (.cond (.t 142)
 .skip
 (.exit 2))
 (.seq
 (.block 3
 (.seq
 (.ops [
⟨some 143, none, [], .idxS (.t 139) (.t 141) 5⟩,
⟨some 144, none, [], .load (.t 143) (some 5)⟩,
⟨some 21, none, [], .alloc [.int .i64 0, .int .i64 0, .int .i64 0, .int .i64 0, .int .i64 0]⟩,
⟨none, none, [], .store (.t 21) (.t 144) 5⟩])
 (.seq
 (.ops [
⟨some 146, none, [], .load (.t 7) (some 4)⟩,
⟨some 147, none, [], .load (.t 8) (some 2)⟩,
⟨some 148, none, [], .load (.t 9) (some 6)⟩,
⟨some 149, none, [], .load (.t 21) (some 5)⟩,
⟨some 150, none, [], .call (.k (.func (.func 16) ⟨[]⟩ ⟨[]⟩)) [.t 146, .t 147, .t 148, .t 149] false⟩,
⟨some 145, none, [], .move (.t 150)⟩,
⟨some 151, none, [], .extract (.t 145) 0⟩,
⟨some 152, none, [], .extract (.t 145) 1⟩,
⟨some 22, none, [], .move (.t 151)⟩,
⟨some 23, none, [], .move (.t 152)⟩])
 (.seq
 (.ops [
⟨some 154, none, [], .load (.t 7) (some 4)⟩,
⟨some 155, none, [], .load (.t 8) (some 2)⟩,
⟨some 156, none, [], .move (.t 22)⟩,
⟨some 157, none, [], .call (.k (.func (.func 21) ⟨[]⟩ ⟨[]⟩)) [.t 154, .t 155, .t 156] false⟩,
⟨some 153, none, [], .move (.t 157)⟩,
⟨some 158, none, [], .extract (.t 153) 0⟩,
⟨some 159, none, [], .extract (.t 153) 1⟩,
⟨some 24, none, [], .move (.t 158)⟩,
⟨some 25, none, [], .move (.t 159)⟩])
 (.seq
 (.seq
 (.ops [
⟨some 160, none, [], .move (.t 23)⟩,
⟨some 161, none, [], .bin .neq (.t 160) (.k (.int .i64 0))⟩,
⟨some 162, none, [], .move (.t 161)⟩,
⟨some 163, (some (162, false)), [], .move (.t 25)⟩,
⟨some 164, (some (162, false)), [], .bin .neq (.t 163) (.k (.int .i64 0))⟩,
⟨some 165, none, [], .pick (.t 162) (.k (.bool true)) (.t 164)⟩,
⟨some 166, none, [], .move (.t 165)⟩,
⟨some 167, (some (166, false)), [], .move (.t 22)⟩,
⟨some 168, (some (166, false)), [], .move (.t 15)⟩,
⟨some 169, (some (166, false)), [], .call (.k (.func (.func 26) ⟨[]⟩ ⟨[]⟩)) [.t 167, .t 168] false⟩,
⟨some 170, (some (166, false)), [], .not (.t 169)⟩,
⟨some 171, none, [], .pick (.t 166) (.k (.bool true)) (.t 170)⟩,
⟨some 172, none, [], .move (.t 171)⟩,
⟨some 173, (some (172, false)), [], .move (.t 24)⟩,
⟨some 174, (some (172, false)), [], .len (.t 173)⟩,
⟨some 175, (some (172, false)), [], .move (.t 15)⟩,
⟨some 176, (some (172, false)), [], .len (.t 175)⟩,
⟨some 177, (some (172, false)), [], .bin .neq (.t 174) (.t 176)⟩,
⟨some 178, none, [], .pick (.t 172) (.k (.bool true)) (.t 177)⟩])
 (.cond (.t 178)
 (.seq
 (.ops [
⟨some 6, none, [], .move (.k (.bool false))⟩])
 .ret)
 .skip))
 (.seq
 (.ops [
⟨some 179, none, [], .move (.t 22)⟩,
⟨some 180, none, [], .len (.t 179)⟩,
⟨some 181, none, [], .move (.k (.int .i64 0))⟩])
 (.block 4
 (.loop
 (.seq
 (.ops [
⟨some 182, none, [], .bin .lss (.t 181) (.t 180)⟩])
 (.seq
 (.cond (.t 182)
 .skip
 (.exit 4))
 (.seq
 (.block 5
 (.seq
 (.ops [
⟨some 183, none, [], .move (.t 181)⟩,
⟨some 26, none, [], .move (.t 183)⟩])
 (.seq
 (.seq
 (.ops [
⟨some 184, none, [], .move (.t 17)⟩,
⟨some 185, none, [], .move (.t 26)⟩,
⟨some 186, none, [], .idxS (.t 184) (.t 185) 1⟩,
⟨some 187, none, [], .load (.t 186) none⟩,
⟨some 188, none, [], .move (.t 187)⟩,
⟨some 189, (some (188, true)), [], .move (.t 24)⟩,
⟨some 190, (some (188, true)), [], .move (.t 26)⟩,
⟨some 191, (some (188, true)), [], .idxS (.t 189) (.t 190) 1⟩,
⟨some 192, (some (188, true)), [], .load (.t 191) none⟩,
⟨some 193, (some (188, true)), [], .not (.t 192)⟩,
⟨some 194, (some (188, true)), [], .move (.t 193)⟩,
⟨some 195, (some (194, false)), [], .move (.t 22)⟩,
⟨some 196, (some (194, false)), [], .move (.t 26)⟩,
⟨some 197, (some (194, false)), [], .idxS (.t 195) (.t 196) 8⟩,
⟨some 198, (some (194, false)), [], .fieldAddr (.t 197) 0⟩,
⟨some 199, (some (194, false)), [], .fieldAddr (.t 198) 0⟩,
⟨some 200, (some (194, false)), [], .load (.t 199) none⟩,
⟨some 201, (some (194, false)), [], .bin .lss (.t 200) (.k (.int .i64 1099511627776))⟩,
⟨some 202, (some (188, true)), [], .pick (.t 194) (.k (.bool true)) (.t 201)⟩,
⟨some 203, (some (188, true)), [], .move (.t 202)⟩,
⟨some 204, (some (203, false)), [], .move (.t 22)⟩,
⟨some 205, (some (203, false)), [], .move (.t 26)⟩,
⟨some 206, (some (203, false)), [], .idxS (.t 204) (.t 205) 8⟩,
⟨some 207, (some (203, false)), [], .fieldAddr (.t 206) 4⟩,
⟨some 208, (some (203, false)), [], .fieldAddr (.t 207) 1⟩,
⟨some 209, (some (203, false)), [], .load (.t 208) none⟩,
⟨some 210, (some (203, false)), [], .fieldAddr (.t 7) 3⟩,
⟨some 211, (some (203, false)), [], .load (.t 210) none⟩,
⟨some 212, (some (203, false)), [], .move (.t 26)⟩,
⟨some 213, (some (203, false)), [], .idxS (.t 211) (.t 212) 2⟩,
⟨some 214, (some (203, false)), [], .fieldAddr (.t 213) 1⟩,
⟨some 215, (some (203, false)), [], .load (.t 214) none⟩,
⟨some 216, (some (203, false)), [], .bin .gtr (.t 209) (.t 215)⟩,
⟨some 217, (some (188, true)), [], .pick (.t 203) (.k (.bool true)) (.t 216)⟩,
⟨some 218, none, [], .pick (.t 188) (.t 217) (.k (.bool false))⟩])
 (.cond (.t 218)
 (.seq
 (.ops [
⟨some 6, none, [], .move (.k (.bool false))⟩])
 .ret)
 .skip))
 (.seq
 (.ops [
⟨some 219, none, [], .move (.t 22)⟩,
⟨some 220, none, [], .move (.t 26)⟩,
⟨some 221, none, [], .idxS (.t 219) (.t 220) 8⟩,
⟨some 222, none, [], .fieldAddr (.t 221) 0⟩,
⟨some 223, none, [], .fieldAddr (.t 222) 0⟩,
⟨some 224, none, [], .load (.t 223) none⟩,
⟨some 225, none, [], .move (.t 15)⟩,
⟨some 226, none, [], .move (.t 26)⟩,
⟨some 227, none, [], .idxS (.t 225) (.t 226) 8⟩,
⟨some 228, none, [], .fieldAddr (.t 227) 0⟩,
⟨some 229, none, [], .fieldAddr (.t 228) 0⟩,
⟨some 230, none, [], .load (.t 229) none⟩,
⟨some 231, none, [], .build [.int .i64 0, .int .i64 0] [(0, 1, .t 224), (1, 1, .t 230)]⟩,
⟨some 232, none, [], .move (.t 22)⟩,
⟨some 233, none, [], .move (.t 26)⟩,
⟨some 234, none, [], .idxS (.t 232) (.t 233) 8⟩,
⟨some 235, none, [], .fieldAddr (.t 234) 0⟩,
⟨some 236, none, [], .fieldAddr (.t 235) 1⟩,
⟨some 237, none, [], .load (.t 236) none⟩,
⟨some 238, none, [], .move (.t 15)⟩,
⟨some 239, none, [], .move (.t 26)⟩,
⟨some 240, none, [], .idxS (.t 238) (.t 239) 8⟩,
⟨some 241, none, [], .fieldAddr (.t 240) 0⟩,
⟨some 242, none, [], .fieldAddr (.t 241) 1⟩,
⟨some 243, none, [], .load (.t 242) none⟩,
⟨some 244, none, [], .build [.int .i64 0, .int .i64 0] [(0, 1, .t 237), (1, 1, .t 243)]⟩,
⟨some 245, none, [], .move (.t 22)⟩,
⟨some 246, none, [], .move (.t 26)⟩,
⟨some 247, none, [], .idxS (.t 245) (.t 246) 8⟩,
⟨some 248, none, [], .fieldAddr (.t 247) 2⟩,
⟨some 249, none, [], .fieldAddr (.t 248) 0⟩,
⟨some 250, none, [], .load (.t 249) none⟩,
⟨some 251, none, [], .move (.t 15)⟩,
⟨some 252, none, [], .move (.t 26)⟩,
⟨some 253, none, [], .idxS (.t 251) (.t 252) 8⟩,
⟨some 254, none, [], .fieldAddr (.t 253) 2⟩,
⟨some 255, none, [], .fieldAddr (.t 254) 0⟩,
⟨some 256, none, [], .load (.t 255) none⟩,
⟨some 257, none, [], .build [.int .i64 0, .int .i64 0] [(0, 1, .t 250), (1, 1, .t 256)]⟩,
⟨some 258, none, [], .move (.t 22)⟩,
⟨some 259, none, [], .move (.t 26)⟩,
⟨some 260, none, [], .idxS (.t 258) (.t 259) 8⟩,
⟨some 261, none, [], .fieldAddr (.t 260) 2⟩,
⟨some 262, none, [], .fieldAddr (.t 261) 1⟩,
⟨some 263, none, [], .load (.t 262) none⟩,
⟨some 264, none, [], .move (.t 15)⟩,
⟨some 265, none, [], .move (.t 26)⟩,
⟨some 266, none, [], .idxS (.t 264) (.t 265) 8⟩,
⟨some 267, none, [], .fieldAddr (.t 266) 2⟩,
⟨some 268, none, [], .fieldAddr (.t 267) 1⟩,
⟨some 269, none, [], .load (.t 268) none⟩,
⟨some 270, none, [], .build [.int .i64 0, .int .i64 0] [(0, 1, .t 263), (1, 1, .t 269)]⟩,
⟨some 271, none, [], .move (.t 22)⟩,
⟨some 272, none, [], .move (.t 26)⟩,
⟨some 273, none, [], .idxS (.t 271) (.t 272) 8⟩,
⟨some 274, none, [], .fieldAddr (.t 273) 4⟩,
⟨some 275, none, [], .fieldAddr (.t 274) 0⟩,
⟨some 276, none, [], .load (.t 275) none⟩,
⟨some 277, none, [], .move (.t 15)⟩,
⟨some 278, none, [], .move (.t 26)⟩,
⟨some 279, none, [], .idxS (.t 277) (.t 278) 8⟩,
⟨some 280, none, [], .fieldAddr (.t 279) 4⟩,
⟨some 281, none, [], .fieldAddr (.t 280) 0⟩,
⟨some 282, none, [], .load (.t 281) none⟩,
⟨some 283, none, [], .build [.int .i64 0, .int .i64 0] [(0, 1, .t 276), (1, 1, .t 282)]⟩,
⟨some 284, none, [], .move (.t 22)⟩,
⟨some 285, none, [], .move (.t 26)⟩,
⟨some 286, none, [], .idxS (.t 284) (.t 285) 8⟩,
⟨some 287, none, [], .fieldAddr (.t 286) 4⟩,
⟨some 288, none, [], .fieldAddr (.t 287) 1⟩,
⟨some 289, none, [], .load (.t 288) none⟩,
⟨some 290, none, [], .move (.t 15)⟩,
⟨some 291, none, [], .move (.t 26)⟩,
⟨some 292, none, [], .idxS (.t 290) (.t 291) 8⟩,
⟨some 293, none, [], .fieldAddr (.t 292) 4⟩,
⟨some 294, none, [], .fieldAddr (.t 293) 1⟩,
⟨some 295, none, [], .load (.t 294) none⟩,
⟨some 296, none, [], .build [.int .i64 0, .int .i64 0] [(0, 1, .t 289), (1, 1, .t 295)]⟩,
⟨some 297, none, [], .move (.t 22)⟩,
⟨some 298, none, [], .move (.t 26)⟩,
⟨some 299, none, [], .idxS (.t 297) (.t 298) 8⟩,
⟨some 300, none, [], .fieldAddr (.t 299) 6⟩,
⟨some 301, none, [], .fieldAddr (.t 300) 0⟩,
⟨some 302, none, [], .load (.t 301) none⟩,
⟨some 303, none, [], .move (.t 15)⟩,
⟨some 304, none, [], .move (.t 26)⟩,
⟨some 305, none, [], .idxS (.t 303) (.t 304) 8⟩,
⟨some 306, none, [], .fieldAddr (.t 305) 6⟩,
⟨some 307, none, [], .fieldAddr (.t 306) 0⟩,
⟨some 308, none, [], .load (.t 307) none⟩,
⟨some 309, none, [], .build [.int .i64 0, .int .i64 0] [(0, 1, .t 302), (1, 1, .t 308)]⟩,
⟨some 310, none, [], .move (.t 22)⟩,
⟨some 311, none, [], .move (.t 26)⟩,
⟨some 312, none, [], .idxS (.t 310) (.t 311) 8⟩,
⟨some 313, none, [], .fieldAddr (.t 312) 6⟩,
⟨some 314, none, [], .fieldAddr (.t 313) 1⟩,
⟨some 315, none, [], .load (.t 314) none⟩,
⟨some 316, none, [], .move (.t 15)⟩,
⟨some 317, none, [], .move (.t 26)⟩,
⟨some 318, none, [], .idxS (.t 316) (.t 317) 8⟩,
⟨some 319, none, [], .fieldAddr (.t 318) 6⟩,
⟨some 320, none, [], .fieldAddr (.t 319) 1⟩,
⟨some 321, none, [], .load (.t 320) none⟩,
⟨some 322, none, [], .build [.int .i64 0, .int .i64 0] [(0, 1, .t 315), (1, 1, .t 321)]⟩,
⟨some 323, none, [], .slit 8 2 [.int .i64 0, .int .i64 0] [(0, .t 231), (1, .t 244), (2, .t 257), (3, .t 270), (4, .t 283), (5, .t 296), (6, .t 309), (7, .t 322)]⟩,
⟨some 324, none, [], .len (.t 323)⟩,
⟨some 325, none, [], .move (.k (.int .i64 0))⟩])
 (.block 6
 (.loop
 (.seq
 (.ops [
⟨some 326, none, [], .bin .lss (.t 325) (.t 324)⟩])
 (.seq
 (.cond (.t 326)
 .skip
 (.exit 6))
 (.seq
 (.block 7
 (.seq
 (.ops [
⟨some 327, none, [], .move (.t 325)⟩,
⟨some 328, none, [], .idxS (.t 323) (.t 325) 2⟩,
⟨some 329, none, [], .load (.t 328) (some 2)⟩,
⟨some 28, none, [], .alloc [.int .i64 0, .int .i64 0]⟩,
⟨some 27, none, [], .move (.t 327)⟩,
⟨none, none, [], .store (.t 28) (.t 329) 2⟩])
 (.ops [
⟨some 330, none, [], .move (.t 19)⟩,
⟨some 331, none, [], .move (.t 26)⟩,
⟨some 332, none, [], .move (.t 27)⟩,
⟨some 333, none, [], .move (.t 19)⟩,
⟨some 334, none, [], .move (.t 26)⟩,
⟨some 335, none, [], .move (.t 27)⟩,
⟨some 336, none, [], .idxS (.t 333) (.t 334) 8⟩,
⟨some 337, none, [], .idxA (.t 336) (.t 335) 8 1⟩,
⟨some 338, none, [], .load (.t 337) none⟩,
⟨some 339, none, [], .move (.t 338)⟩,
⟨some 340, (some (339, false)), [], .idxA (.t 28) (.k (.int .i64 0)) 2 1⟩,
⟨some 341, (some (339, false)), [], .load (.t 340) none⟩,
⟨some 342, (some (339, false)), [], .idxA (.t 28) (.k (.int .i64 1)) 2 1⟩,
⟨some 343, (some (339, false)), [], .load (.t 342) none⟩,
⟨some 344, (some (339, false)), [], .bin .eql (.t 341) (.t 343)⟩,
⟨some 345, none, [], .pick (.t 339) (.k (.bool true)) (.t 344)⟩,
⟨some 346, none, [], .idxS (.t 330) (.t 331) 8⟩,
⟨some 347, none, [], .idxA (.t 346) (.t 332) 8 1⟩,
⟨none, none, [], .store (.t 347) (.t 345) 1⟩])))
 (.ops [
⟨some 348, none, [], .bin .add (.t 325) (.k (.int .i64 1))⟩,
⟨some 325, none, [], .move (.t 348)⟩]))))))))))
 (.ops [
⟨some 349, none, [], .bin .add (.t 181) (.k (.int .i64 1))⟩,
⟨some 181, none, [], .move (.t 349)⟩]))))))))))))
 (.ops [
⟨some 350, none, [], .bin .add (.t 141) (.k (.int .i64 1))⟩,
⟨some 141, none, [], .move (.t 350)⟩])))))))
 (.seq
 (.seq
 (.ops [
⟨some 351, none, [], .move (.t 19)⟩,
⟨some 352, none, [], .len (.t 351)⟩,
⟨some 353, none, [], .move (.k (.int .i64 0))⟩])
 (.block 8
 (.loop
 (.seq
 (.ops [
⟨some 354, none, [], .bin .lss (.t 353) (.t 352)⟩])
 (.seq
 (.cond (.t 354)
 .skip
 (.exit 8))
 (.seq
 (.block 9
 (.seq
 (.ops [
⟨some 355, none, [], .idxS (.t 351) (.t 353) 8⟩,
⟨some 356, none, [], .load (.t 355) (some 8)⟩,
⟨some 30, none, [], .alloc [.bool false, .bool false, .bool false, .bool false, .bool false, .bool false, .bool false, .bool false]⟩,
⟨none, none, [], .store (.t 30) (.t 356) 8⟩])
 (.seq
 (.ops [
⟨some 357, none, [], .load (.t 30) (some 8)⟩,
⟨some 358, none, [], .move (.k (.int .i64 0))⟩])
 (.block 10
 (.loop
 (.seq
 (.ops [
⟨some 359, none, [], .bin .lss (.t 358) (.k (.int .i64 8))⟩])
 (.seq
 (.cond (.t 359)
 .skip
 (.exit 10))
 (.seq
 (.block 11
 (.seq
 (.ops [
⟨some 360, none, [], .index (.t 357) (.t 358) 8 1 false⟩,
⟨some 32, none, [], .move (.t 360)⟩])
 (.seq
 (.ops [
⟨some 361, none, [], .move (.t 32)⟩,
⟨some 362, none, [], .not (.t 361)⟩])
 (.cond (.t 362)
 (.seq
 (.ops [
⟨some 6, none, [], .move (.k (.bool false))⟩])
 .ret)
 .skip))))
 (.ops [
⟨some 363, none, [], .bin .add (.t 358) (.k (.int .i64 1))⟩,
⟨some 358, none, [], .move (.t 363)⟩])))))))))
 (.ops [
⟨some 364, none, [], .bin .add (.t 353) (.k (.int .i64 1))⟩,
⟨some 353, none, [], .move (.t 364)⟩])))))))
 (.seq
 (.seq
 (.ops [
⟨some 365, none, [], .move (.t 11)⟩,
⟨some 366, none, [], .len (.t 365)⟩,
⟨some 367, none, [], .bin .eql (.t 366) (.k (.int .i64 0))⟩])
 (.cond (.t 367)
 (.seq
 (.ops [
⟨some 368, none, [], .call (.k (.func (.func 10) ⟨[]⟩ ⟨[]⟩)) [] false⟩,
⟨some 6, none, [], .move (.t 368)⟩])
 .ret)
 .skip))
 (.seq
 (.ops [
⟨some 370, none, [], .load (.t 7) (some 4)⟩,
⟨some 371, none, [], .load (.t 8) (some 2)⟩,
⟨some 372, none, [], .load (.t 9) (some 6)⟩,
⟨some 373, none, [], .move (.t 11)⟩,
⟨some 374, none, [], .call (.k (.func (.func 19) ⟨[]⟩ ⟨[]⟩)) [.t 370, .t 371, .t 372, .t 373] false⟩,
⟨some 369, none, [], .move (.t 374)⟩,
⟨some 375, none, [], .extract (.t 369) 0⟩,
⟨some 376, none, [], .extract (.t 369) 1⟩,
⟨some 33, none, [], .move (.t 375)⟩,
⟨some 16, none, [], .move (.t 376)⟩])
 (.seq
 (.ops [
⟨some 377, none, [], .move (.t 16)⟩,
⟨some 378, none, [], .bin .eql (.t 377) (.k (.int .i64 0))⟩,
⟨some 379, none, [], .move (.t 378)⟩,
⟨some 380, (some (379, true)), [], .move (.t 33)⟩,
⟨some 381, (some (379, true)), [], .move (.t 15)⟩,
⟨some 382, (some (379, true)), [], .call (.k (.func (.func 26) ⟨[]⟩ ⟨[]⟩)) [.t 380, .t 381] false⟩,
⟨some 383, none, [], .pick (.t 379) (.t 382) (.k (.bool false))⟩,
⟨some 384, none, [], .move (.t 383)⟩,
⟨some 385, (some (384, true)), [], .call (.k (.func (.func 10) ⟨[]⟩ ⟨[]⟩)) [] false⟩,
⟨some 386, none, [], .pick (.t 384) (.t 385) (.k (.bool false))⟩,
⟨some 6, none, [], .move (.t 386)⟩])
 .ret))))))))))))))

/-- tidewall/tidewalllaw05.WaveSpreads -/
def F6 : AFunc :=
 .fn 88 [.tmp 8]
 (.seq
 (.ops [
⟨some 4, none, [], .box (.t 0)⟩,
⟨some 5, none, [], .box (.t 1)⟩,
⟨some 6, none, [], .box (.t 2)⟩,
⟨some 8, none, [], .move (.k (.bool false))⟩])
 (.seq
 (.seq
 (.ops [
⟨some 15, none, [], .fieldAddr (.t 4) 3⟩,
⟨some 16, none, [], .load (.t 15) none⟩,
⟨some 17, none, [], .len (.t 16)⟩,
⟨some 18, none, [], .bin .gtr (.t 17) (.k (.int .i64 40))⟩,
⟨some 19, none, [], .move (.t 18)⟩,
⟨some 20, (some (19, false)), [], .move (.t 3)⟩,
⟨some 21, (some (19, false)), [], .len (.t 20)⟩,
⟨some 22, (some (19, false)), [], .bin .gtr (.t 21) (.k (.int .i64 20))⟩,
⟨some 23, (some (19, false)), [], .move (.t 22)⟩,
⟨some 24, (some (23, true)), [], .move (.t 3)⟩,
⟨some 25, (some (23, true)), [], .len (.t 24)⟩,
⟨some 26, (some (23, true)), [], .bin .leq (.t 25) (.k (.int .i64 512))⟩,
⟨some 27, (some (19, false)), [], .pick (.t 23) (.t 26) (.k (.bool false))⟩,
⟨some 28, none, [], .pick (.t 19) (.k (.bool true)) (.t 27)⟩,
⟨some 29, none, [], .move (.t 28)⟩,
⟨some 30, (some (29, false)), [], .move (.t 3)⟩,
⟨some 31, (some (29, false)), [], .len (.t 30)⟩,
⟨some 32, (some (29, false)), [], .bin .gtr (.t 31) (.k (.int .i64 600))⟩,
⟨some 33, none, [], .pick (.t 29) (.k (.bool true)) (.t 32)⟩])
 (.cond (.t 33)
 (.seq
 (.ops [
⟨some 34, none, [], .call (.k (.func (.func 10) ⟨[]⟩ ⟨[]⟩)) [] false⟩,
⟨some 8, none, [], .move (.t 34)⟩])
 .ret)
 .skip))
 (.seq
 (.ops [
⟨some 9, none, [], .move (.k (.slice none 0 0))⟩])
 (.seq
 (.seq
 (.ops [
⟨some 10, none, [], .move (.k (.int .i64 0))⟩])
 (.block 0
 (.loop
 (.seq
 (.seq
 (.ops [
⟨some 35, none, [], .move (.t 10)⟩,
⟨some 36, none, [], .move (.t 3)⟩,
⟨some 37, none, [], .len (.t 36)⟩,
⟨some 38, none, [], .bin .lss (.t 35) (.t 37)⟩])
 (.cond (.t 38)
 .skip
 (.exit 0)))
 (.seq
 (.block 1
 (.ops [
⟨some 41, none, [], .move (.t 9)⟩,
⟨some 42, none, [], .move (.t 3)⟩,
⟨some 43, none, [], .move (.t 10)⟩,
⟨some 44, none, [], .idxS (.t 42) (.t 43) 5⟩,
⟨some 45, none, [], .fieldAddr (.t 44) 0⟩,
⟨some 46, none, [], .load (.t 45) none⟩,
⟨some 47, none, [], .move (.t 3)⟩,
⟨some 48, none, [], .move (.t 10)⟩,
⟨some 49, none, [], .idxS (.t 47) (.t 48) 5⟩,
⟨some 50, none, [], .fieldAddr (.t 49) 1⟩,
⟨some 51, none, [], .load (.t 50) (some 2)⟩,
⟨some 52, none, [], .move (.t 3)⟩,
⟨some 53, none, [], .move (.t 10)⟩,
⟨some 54, none, [], .idxS (.t 52) (.t 53) 5⟩,
⟨some 55, none, [], .fieldAddr (.t 54) 3⟩,
⟨some 56, none, [], .load (.t 55) (some 2)⟩,
⟨some 57, none, [], .build [.int .i64 0, .int .i64 0, .int .i64 0, .int .i64 0, .int .i64 0] [(0, 1, .t 46), (1, 2, .t 51), (3, 2, .t 56)]⟩,
⟨some 58, none, [], .slit 1 5 [.int .i64 0, .int .i64 0, .int .i64 0, .int .i64 0, .int .i64 0] [(0, .t 57)]⟩,
⟨some 59, none, [], .append (.t 41) (.t 58) 5 40⟩,
⟨some 9, none, [], .move (.t 59)⟩]))
 (.ops [
⟨some 39, none, [], .move (.t 10)⟩,
⟨some 40, none, [], .bin .add (.t 39) (.k (.int .i64 1))⟩,
⟨some 10, none, [], .move (.t 40)⟩]))))))
 (.seq
 (.ops [
⟨some 61, none, [], .load (.t 4) (some 4)⟩,
⟨some 62, none, [], .load (.t 5) (some 2)⟩,
⟨some 63, none, [], .load (.t 6) (some 6)⟩,
⟨some 64, none, [], .call (.k (.func (.func 14) ⟨[]⟩ ⟨[]⟩)) [.t 63] true⟩,
⟨some 65, none, [], .move (.t 9)⟩,
⟨some 66, none, [], .call (.k (.func (.func 27) ⟨[]⟩ ⟨[]⟩)) [.t 61, .t 62, .t 64, .t 65] false⟩,
⟨some 60, none, [], .move (.t 66)⟩,
⟨some 67, none, [], .extract (.t 60) 0⟩,
⟨some 68, none, [], .extract (.t 60) 1⟩,
⟨some 11, none, [], .move (.t 67)⟩,
⟨some 12, none, [], .move (.t 68)⟩])
 (.seq
 (.ops [
⟨some 70, none, [], .load (.t 4) (some 4)⟩,
⟨some 71, none, [], .load (.t 5) (some 2)⟩,
⟨some 72, none, [], .load (.t 6) (some 6)⟩,
⟨some 73, none, [], .move (.t 3)⟩,
⟨some 74, none, [], .call (.k (.func (.func 28) ⟨[]⟩ ⟨[]⟩)) [.t 70, .t 71, .t 72, .t 73] false⟩,
⟨some 69, none, [], .move (.t 74)⟩,
⟨some 75, none, [], .extract (.t 69) 0⟩,
⟨some 76, none, [], .extract (.t 69) 1⟩,
⟨some 13, none, [], .move (.t 75)⟩,
⟨some 14, none, [], .move (.t 76)⟩])
 (.seq
 (.ops [
⟨some 77, none, [], .move (.t 11)⟩,
⟨some 78, none, [], .move (.t 13)⟩,
⟨some 79, none, [], .call (.k (.func (.func 18) ⟨[]⟩ ⟨[]⟩)) [.t 77, .t 78] false⟩,
⟨some 80, none, [], .move (.t 79)⟩,
⟨some 81, (some (80, true)), [], .move (.t 12)⟩,
⟨some 82, (some (80, true)), [], .move (.t 14)⟩,
⟨some 83, (some (80, true)), [], .bin .eql (.t 81) (.t 82)⟩,
⟨some 84, none, [], .pick (.t 80) (.t 83) (.k (.bool false))⟩,
⟨some 85, none, [], .move (.t 84)⟩,
⟨some 86, (some (85, true)), [], .call (.k (.func (.func 10) ⟨[]⟩ ⟨[]⟩)) [] false⟩,
⟨some 87, none, [], .pick (.t 85) (.t 86) (.k (.bool false))⟩,
⟨some 8, none, [], .move (.t 87)⟩])
 .ret)))))))

/-- tidewall/tidewalllaw05.WaveInside -/
def F7 : AFunc :=
 .fn 160 [.tmp 8]
 (.seq
 (.ops [
⟨some 4, none, [], .box (.t 0)⟩,
⟨some 6, none, [], .box (.t 2)⟩,
⟨some 8, none, [], .move (.k (.bool false))⟩])
 (.seq
 (.seq
 (.ops [
⟨some 26, none, [], .move (.t 1)⟩,
⟨some 27, none, [], .len (.t 26)⟩,
⟨some 28, none, [], .bin .gtr (.t 27) (.k (.int .i64 5))⟩])
 (.cond (.t 28)
 (.seq
 (.ops [
⟨some 29, none, [], .call (.k (.func (.func 10) ⟨[]⟩ ⟨[]⟩)) [] false⟩,
⟨some 8, none, [], .move (.t 29)⟩])
 .ret)
 .skip))
 (.seq
 (.ops [
⟨some 9, none, [], .alloc [.int .i64 0]⟩,
⟨none, none, [], .store (.t 9) (.k (.int .i64 0)) 1⟩])
 (.seq
 (.ops [
⟨some 30, none, [], .makeFunc 29 [] [.t 9, .t 6]⟩,
⟨some 10, none, [], .move (.t 30)⟩])
 (.seq
 (.ops [
⟨some 32, none, [], .load (.t 4) (some 12)⟩,
⟨some 33, none, [], .call (.k (.func (.func 24) ⟨[]⟩ ⟨[]⟩)) [.t 32] false⟩,
⟨some 31, none, [], .move (.t 33)⟩,
⟨some 34, none, [], .extract (.t 31) 0⟩,
⟨some 35, none, [], .extract (.t 31) 1⟩,
⟨some 36, none, [], .extract (.t 31) 2⟩,
⟨some 11, none, [], .alloc [.int .i64 0, .int .i64 0, .int .i64 0, .slice none 0 0]⟩,
⟨some 12, none, [], .alloc [.int .i64 0, .int .i64 0]⟩,
⟨some 13, none, [], .alloc [.int .i64 0, .int .i64 0, .int .i64 0, .int .i64 0, .int .i64 0, .int .i64 0]⟩,
⟨none, none, [], .store (.t 11) (.t 34) 4⟩,
⟨none, none, [], .store (.t 12) (.t 35) 2⟩,
⟨none, none, [], .store (.t 13) (.t 36) 6⟩])
 (.seq
 (.ops [
⟨some 37, none, [], .load (.t 11) (some 4)⟩,
⟨some 38, none, [], .move (.t 1)⟩,
⟨some 39, none, [], .call (.k (.func (.func 30) ⟨[]⟩ ⟨[]⟩)) [.t 37, .t 38] false⟩,
⟨some 14, none, [], .move (.t 39)⟩])
 (.seq
 (.ops [
⟨some 40, none, [], .load (.t 11) (some 4)⟩,
⟨some 15, none, [], .alloc [.int .i64 0, .int .i64 0, .int .i64 0, .slice none 0 0]⟩,
⟨none, none, [], .store (.t 15) (.t 40) 4⟩])
 (.seq
 (.ops [
⟨some 41, none, [], .fieldAddr (.t 15) 3⟩,
⟨none, none, [], .store (.t 41) (.k (.slice none 0 0)) 1⟩])
 (.seq
 (.seq
 (.ops [
⟨some 42, none, [], .fieldAddr (.t 11) 3⟩,
⟨some 43, none, [], .load (.t 42) none⟩,
⟨some 44, none, [], .len (.t 43)⟩,
⟨some 45, none, [], .move (.k (.int .i64 0))⟩])
 (.block 0
 (.loop
 (.seq
 (.ops [
⟨some 46, none, [], .bin .lss (.t 45) (.t 44)⟩])
 (.seq
 (.cond (.t 46)
 .skip
 (.exit 0))
 (.seq
 (.block 1
 (.seq
 (.ops [
⟨some 47, none, [], .idxS (.t 43) (.t 45) 2⟩,
⟨some 48, none, [], .load (.t 47) (some 2)⟩,
⟨some 17, none, [], .alloc [.int .i64 0, .int .i64 0]⟩,
⟨none, none, [], .store (.t 17) (.t 48) 2⟩])
 (.ops [
⟨some 49, none, [], .fieldAddr (.t 15) 3⟩,
⟨some 50, none, [], .load (.t 49) none⟩,
⟨some 51, none, [], .load (.t 17) (some 2)⟩,
⟨some 52, none, [], .move (.t 10)⟩,
⟨some 53, none, [], .call (.t 52) [] true⟩,
⟨some 54, none, [], .move (.t 10)⟩,
⟨some 55, none, [], .call (.t 54) [] true⟩,
⟨some 56, none, [], .move (.t 3)⟩,
⟨some 57, none, [], .call (.k (.func (.func 31) ⟨[]⟩ ⟨[]⟩)) [.t 51, .t 53, .t 55, .t 56] true⟩,
⟨some 58, none, [], .slit 1 2 [.int .i64 0, .int .i64 0] [(0, .t 57)]⟩,
⟨some 59, none, [], .append (.t 50) (.t 58) 2 16⟩,
⟨some 60, none, [], .fieldAddr (.t 15) 3⟩,
⟨none, none, [], .store (.t 60) (.t 59) 1⟩])))
 (.ops [
⟨some 61, none, [], .bin .add (.t 45) (.k (.int .i64 1))⟩,
⟨some 45, none, [], .move (.t 61)⟩])))))))
 (.seq
 (.ops [
⟨some 62, none, [], .fieldAddr (.t 13) 0⟩,
⟨some 63, none, [], .load (.t 62) (some 2)⟩,
⟨some 64, none, [], .move (.t 10)⟩,
⟨some 65, none, [], .call (.t 64) [] true⟩,
⟨some 66, none, [], .move (.t 10)⟩,
⟨some 67, none, [], .call (.t 66) [] true⟩,
⟨some 68, none, [], .move (.t 3)⟩,
⟨some 69, none, [], .call (.k (.func (.func 31) ⟨[]⟩ ⟨[]⟩)) [.t 63, .t 65, .t 67, .t 68] true⟩,
⟨some 70, none, [], .fieldAddr (.t 13) 2⟩,
⟨some 71, none, [], .load (.t 70) (some 2)⟩,
⟨some 72, none, [], .move (.t 10)⟩,
⟨some 73, none, [], .call (.t 72) [] true⟩,
⟨some 74, none, [], .move (.t 10)⟩,
⟨some 75, none, [], .call (.t 74) [] true⟩,
⟨some 76, none, [], .move (.t 3)⟩,
⟨some 77, none, [], .call (.k (.func (.func 31) ⟨[]⟩ ⟨[]⟩)) [.t 71, .t 73, .t 75, .t 76] true⟩,
⟨some 78, none, [], .fieldAddr (.t 13) 4⟩,
⟨some 79, none, [], .load (.t 78) (some 2)⟩,
⟨some 80, none, [], .move (.t 10)⟩,
⟨some 81, none, [], .call (.t 80) [] true⟩,
⟨some 82, none, [], .move (.t 10)⟩,
⟨some 83, none, [], .call (.t 82) [] true⟩,
⟨some 84, none, [], .move (.t 3)⟩,
⟨some 85, none, [], .call (.k (.func (.func 31) ⟨[]⟩ ⟨[]⟩)) [.t 79, .t 81, .t 83, .t 84] true⟩,
⟨some 86, none, [], .build [.int .i64 0, .int .i64 0, .int .i64 0, .int .i64 0, .int .i64 0, .int .i64 0] [(0, 2, .t 69), (2, 2, .t 77), (4, 2, .t 85)]⟩,
⟨some 18, none, [], .alloc [.int .i64 0, .int .i64 0, .int .i64 0, .int .i64 0, .int .i64 0, .int .i64 0]⟩,
⟨none, none, [], .store (.t 18) (.t 86) 6⟩])
 (.seq
 (.ops [
⟨some 19, none, [], .move (.k (.slice none 0 0))⟩])
 (.seq
 (.seq
 (.ops [
⟨some 87, none, [], .move (.t 14)⟩,
⟨some 88, none, [], .len (.t 87)⟩,
⟨some 89, none, [], .move (.k (.int .i64 0))⟩])
 (.block 2
 (.loop
 (.seq
 (.ops [
⟨some 90, none, [], .bin .lss (.t 89) (.t 88)⟩])
 (.seq
 (.cond (.t 90)
 .skip
 (.exit 2))
 (.seq
 (.block 3
 (.seq
 (.ops [
⟨some 91, none, [], .idxS (.t 87) (.t 89) 5⟩,
⟨some 92, none, [], .load (.t 91) (some 5)⟩,
⟨some 21, none, [], .alloc [.int .i64 0, .int .i64 0, .int .i64 0, .int .i64 0, .int .i64 0]⟩,
⟨none, none, [], .store (.t 21) (.t 92) 5⟩])
 (.ops [
⟨some 93, none, [], .move (.t 19)⟩,
⟨some 94, none, [], .fieldAddr (.t 21) 0⟩,
⟨some 95, none, [], .load (.t 94) none⟩,
⟨some 96, none, [], .fieldAddr (.t 21) 1⟩,
⟨some 97, none, [], .load (.t 96) (some 2)⟩,
⟨some 98, none, [], .move (.t 10)⟩,
⟨some 99, none, [], .call (.t 98) [] true⟩,
⟨some 100, none, [], .move (.t 10)⟩,
⟨some 101, none, [], .call (.t 100) [] true⟩,
⟨some 102, none, [], .move (.t 3)⟩,
⟨some 103, none, [], .call (.k (.func (.func 31) ⟨[]⟩ ⟨[]⟩)) [.t 97, .t 99, .t 101, .t 102] true⟩,
⟨some 104, none, [], .fieldAddr (.t 21) 3⟩,
⟨some 105, none, [], .load (.t 104) (some 2)⟩,
⟨some 106, none, [], .move (.t 10)⟩,
⟨some 107, none, [], .call (.t 106) [] true⟩,
⟨some 108, none, [], .move (.t 10)⟩,
⟨some 109, none, [], .call (.t 108) [] true⟩,
⟨some 110, none, [], .move (.t 3)⟩,
⟨some 111, none, [], .call (.k (.func (.func 31) ⟨[]⟩ ⟨[]⟩)) [.t 105, .t 107, .t 109, .t 110] true⟩,
⟨some 112, none, [], .build [.int .i64 0, .int .i64 0, .int .i64 0, .int .i64 0, .int .i64 0] [(0, 1, .t 95), (1, 2, .t 103), (3, 2, .t 111)]⟩,
⟨some 113, none, [], .slit 1 5 [.int .i64 0, .int .i64 0, .int .i64 0, .int .i64 0, .int .i64 0] [(0, .t 112)]⟩,
⟨some 114, none, [], .append (.t 93) (.t 113) 5 40⟩,
⟨some 19, none, [], .move (.t 114)⟩])))
 (.ops [
⟨some 115, none, [], .bin .add (.t 89) (.k (.int .i64 1))⟩,
⟨some 89, none, [], .move (.t 115)⟩])))))))
 (.seq
 (.ops [
⟨some 117, none, [], .load (.t 11) (some 4)⟩,
⟨some 118, none, [], .load (.t 12) (some 2)⟩,
⟨some 119, none, [], .load (.t 13) (some 6)⟩,
⟨some 120, none, [], .move (.t 14)⟩,
⟨some 121, none, [], .call (.k (.func (.func 27) ⟨[]⟩ ⟨[]⟩)) [.t 117, .t 118, .t 119, .t 120] false⟩,
⟨some 116, none, [], .move (.t 121)⟩,
⟨some 122, none, [], .extract (.t 116) 0⟩,
⟨some 123, none, [], .extract (.t 116) 1⟩,
⟨some 22, none, [], .move (.t 122)⟩,
⟨some 23, none, [], .move (.t 123)⟩])
 (.seq
 (.ops [
⟨some 125, none, [], .load (.t 15) (some 4)⟩,
⟨some 126, none, [], .load (.t 12) (some 2)⟩,
⟨some 127, none, [], .move (.t 10)⟩,
⟨some 128, none, [], .call (.t 127) [] true⟩,
⟨some 129, none, [], .move (.t 10)⟩,
⟨some 130, none, [], .call (.t 129) [] true⟩,
⟨some 131, none, [], .move (.t 3)⟩,
⟨some 132, none, [], .call (.k (.func (.func 31) ⟨[]⟩ ⟨[]⟩)) [.t 126, .t 128, .t 130, .t 131] true⟩,
⟨some 133, none, [], .load (.t 18) (some 6)⟩,
⟨some 134, none, [], .move (.t 19)⟩,
⟨some 135, none, [], .call (.k (.func (.func 27) ⟨[]⟩ ⟨[]⟩)) [.t 125, .t 132, .t 133, .t 134] false⟩,
⟨some 124, none, [], .move (.t 135)⟩,
⟨some 136, none, [], .extract (.t 124) 0⟩,
⟨some 137, none, [], .extract (.t 124) 1⟩,
⟨some 24, none, [], .move (.t 136)⟩,
⟨some 25, none, [], .move (.t 137)⟩])
 (.seq
 (.ops [
⟨some 138, none, [], .move (.t 23)⟩,
⟨some 139, none, [], .bin .eql (.t 138) (.k (.int .i64 0))⟩,
⟨some 140, none, [], .move (.t 139)⟩,
⟨some 141, (some (140, true)), [], .move (.t 25)⟩,
⟨some 142, (some (140, true)), [], .bin .eql (.t 141) (.k (.int .i64 0))⟩,
⟨some 143, none, [], .pick (.t 140) (.t 142) (.k (.bool false))⟩,
⟨some 144, none, [], .move (.t 143)⟩,
⟨some 145, (some (144, true)), [], .move (.t 22)⟩,
⟨some 146, (some (144, true)), [], .len (.t 145)⟩,
⟨some 147, (some (144, true)), [], .fieldAddr (.t 11) 3⟩,
⟨some 148, (some (144, true)), [], .load (.t 147) none⟩,
⟨some 149, (some (144, true)), [], .len (.t 148)⟩,
⟨some 150, (some (144, true)), [], .bin .eql (.t 146) (.t 149)⟩,
⟨some 151, none, [], .pick (.t 144) (.t 150) (.k (.bool false))⟩,
⟨some 152, none, [], .move (.t 151)⟩,
⟨some 153, (some (152, true)), [], .move (.t 24)⟩,
⟨some 154, (some (152, true)), [], .move (.t 22)⟩,
⟨some 155, (some (152, true)), [], .call (.k (.func (.func 26) ⟨[]⟩ ⟨[]⟩)) [.t 153, .t 154] false⟩,
⟨some 156, none, [], .pick (.t 152) (.t 155) (.k (.bool false))⟩,
⟨some 157, none, [], .move (.t 156)⟩,
⟨some 158, (some (157, true)), [], .call (.k (.func (.func 10) ⟨[]⟩ ⟨[]⟩)) [] false⟩,
⟨some 159, none, [], .pick (.t 157) (.t 158) (.k (.bool false))⟩,
⟨some 8, none, [], .move (.t 159)⟩])
 .ret)))))))))))))))

/-- tidewall/tidewalllaw05.WaveFirst -/
def F8 : AFunc :=
 .fn 249 [.tmp 4]
 (.seq
 (.ops [
⟨some 2, none, [], .box (.t 0)⟩,
⟨some 4, none, [], .move (.k (.bool false))⟩])
 (.seq
 (.seq
 (.ops [
⟨some 25, none, [], .move (.t 1)⟩,
⟨some 26, none, [], .len (.t 25)⟩,
⟨some 27, none, [], .bin .gtr (.t 26) (.k (.int .i64 5))⟩])
 (.cond (.t 27)
 (.seq
 (.ops [
⟨some 28, none, [], .call (.k (.func (.func 10) ⟨[]⟩ ⟨[]⟩)) [] false⟩,
⟨some 4, none, [], .move (.t 28)⟩])
 .ret)
 .skip))
 (.seq
 (.ops [
⟨some 29, none, [], .fieldAddr (.t 2) 3⟩,
⟨none, none, [], .store (.t 29) (.k (.slice none 0 0)) 1⟩,
⟨some 30, none, [], .fieldAddr (.t 2) 5⟩,
⟨none, none, [], .store (.t 30) (.k (.int .u8 0)) 1⟩])
 (.seq
 (.ops [
⟨some 32, none, [], .load (.t 2) (some 12)⟩,
⟨some 33, none, [], .call (.k (.func (.func 24) ⟨[]⟩ ⟨[]⟩)) [.t 32] false⟩,
⟨some 31, none, [], .move (.t 33)⟩,
⟨some 34, none, [], .extract (.t 31) 0⟩,
⟨some 35, none, [], .extract (.t 31) 1⟩,
⟨some 36, none, [], .extract (.t 31) 2⟩,
⟨some 5, none, [], .alloc [.int .i64 0, .int .i64 0, .int .i64 0, .slice none 0 0]⟩,
⟨some 6, none, [], .alloc [.int .i64 0, .int .i64 0]⟩,
⟨some 7, none, [], .alloc [.int .i64 0, .int .i64 0, .int .i64 0, .int .i64 0, .int .i64 0, .int .i64 0]⟩,
⟨none, none, [], .store (.t 5) (.t 34) 4⟩,
⟨none, none, [], .store (.t 6) (.t 35) 2⟩,
⟨none, none, [], .store (.t 7) (.t 36) 6⟩])
 (.seq
 (.ops [
⟨some 37, none, [], .load (.t 5) (some 4)⟩,
⟨some 38, none, [], .move (.t 1)⟩,
⟨some 39, none, [], .call (.k (.func (.func 30) ⟨[]⟩ ⟨[]⟩)) [.t 37, .t 38] false⟩,
⟨some 8, none, [], .move (.t 39)⟩])
 (.seq
 (.ops [
⟨some 41, none, [], .load (.t 5) (some 4)⟩,
⟨some 42, none, [], .load (.t 6) (some 2)⟩,
⟨some 43, none, [], .load (.t 7) (some 6)⟩,
⟨some 44, none, [], .move (.t 8)⟩,
⟨some 45, none, [], .call (.k (.func (.func 27) ⟨[]⟩ ⟨[]⟩)) [.t 41, .t 42, .t 43, .t 44] false⟩,
⟨some 40, none, [], .move (.t 45)⟩,
⟨some 46, none, [], .extract (.t 40) 0⟩,
⟨some 47, none, [], .extract (.t 40) 1⟩,
⟨some 9, none, [], .move (.t 46)⟩,
⟨some 10, none, [], .move (.t 47)⟩])
 (.seq
 (.seq
 (.ops [
⟨some 48, none, [], .move (.t 10)⟩,
⟨some 49, none, [], .bin .neq (.t 48) (.k (.int .i64 0))⟩,
⟨some 50, none, [], .move (.t 49)⟩,
⟨some 51, (some (50, false)), [], .move (.t 9)⟩,
⟨some 52, (some (50, false)), [], .len (.t 51)⟩,
⟨some 53, (some (50, false)), [], .fieldAddr (.t 5) 3⟩,
⟨some 54, (some (50, false)), [], .load (.t 53) none⟩,
⟨some 55, (some (50, false)), [], .len (.t 54)⟩,
⟨some 56, (some (50, false)), [], .bin .neq (.t 52) (.t 55)⟩,
⟨some 57, none, [], .pick (.t 50) (.k (.bool true)) (.t 56)⟩])
 (.cond (.t 57)
 (.seq
 (.ops [
⟨some 4, none, [], .move (.k (.bool false))⟩])
 .ret)
 .skip))
 (.seq
 (.ops [
⟨some 58, none, [], .makeFunc 32 [] [.t 6, .t 5]⟩,
⟨some 11, none, [], .move (.t 58)⟩])
 (.seq
 (.seq
 (.ops [
⟨some 59, none, [], .move (.t 9)⟩,
⟨some 60, none, [], .len (.t 59)⟩,
⟨some 61, none, [], .move (.k (.int .i64 0))⟩])
 (.block 0
 (.loop
 (.seq
 (.ops [
⟨some 62, none, [], .bin .lss (.t 61) (.t 60)⟩])
 (.seq
 (.cond (.t 62)
 .skip
 (.exit 0))
 (.seq
 (.block 1
 (.seq
 (.ops [
⟨some 63, none, [], .move (.t 61)⟩,
⟨some 64, none, [], .idxS (.t 59) (.t 61) 8⟩,
⟨some 65, none, [], .load (.t 64) (some 8)⟩,
⟨some 13, none, [], .alloc [.int .i64 0, .int .i64 0, .int .i64 0, .int .i64 0, .int .i64 0, .int .i64 0, .int .i64 0, .int .i64 0]⟩,
⟨some 12, none, [], .move (.t 63)⟩,
⟨none, none, [], .store (.t 13) (.t 65) 8⟩])
 (.seq
 (.seq
 (.ops [
⟨some 66, none, [], .move (.t 11)⟩,
⟨some 67, none, [], .move (.t 12)⟩,
⟨some 68, none, [], .call (.t 66) [.t 67] false⟩,
⟨some 69, none, [], .bin .lss (.t 68) (.k (.int .i64 1))⟩])
 (.cond (.t 69)
 (.exit 1)
 .skip))
 (.seq
 (.ops [
⟨some 14, none, [], .move (.k (.bool false))⟩,
⟨some 15, none, [], .move (.k (.bool false))⟩])
 (.seq
 (.seq
 (.ops [
⟨some 70, none, [], .move (.t 8)⟩,
⟨some 71, none, [], .len (.t 70)⟩,
⟨some 72, none, [], .move (.k (.int .i64 0))⟩])
 (.block 2
 (.loop
 (.seq
 (.ops [
⟨some 73, none, [], .bin .lss (.t 72) (.t 71)⟩])
 (.seq
 (.cond (.t 73)
 .skip
 (.exit 2))
 (.seq
 (.block 3
 (.seq
 (.ops [
⟨some 74, none, [], .idxS (.t 70) (.t 72) 5⟩,
⟨some 75, none, [], .load (.t 74) (some 5)⟩,
⟨some 17, none, [], .alloc [.int .i64 0, .int .i64 0, .int .i64 0, .int .i64 0, .int .i64 0]⟩,
⟨none, none, [], .store (.t 17) (.t 75) 5⟩])
 (.seq
 (.ops [
⟨some 76, none, [], .fieldAddr (.t 17) 0⟩,
⟨some 77, none, [], .load (.t 76) none⟩,
⟨some 78, none, [], .move (.t 12)⟩,
⟨some 79, none, [], .bin .eql (.t 77) (.t 78)⟩])
 (.cond (.t 79)
 (.seq
 (.seq
 (.ops [
⟨some 80, none, [], .fieldAddr (.t 13) 0⟩,
⟨some 81, none, [], .fieldAddr (.t 80) 0⟩,
⟨some 82, none, [], .load (.t 81) none⟩,
⟨some 83, none, [], .fieldAddr (.t 17) 1⟩,
⟨some 84, none, [], .fieldAddr (.t 83) 0⟩,
⟨some 85, none, [], .load (.t 84) none⟩,
⟨some 86, none, [], .bin .gtr (.t 82) (.t 85)⟩,
⟨some 87, none, [], .move (.t 86)⟩,
⟨some 88, (some (87, false)), [], .fieldAddr (.t 13) 0⟩,
⟨some 89, (some (87, false)), [], .fieldAddr (.t 88) 1⟩,
⟨some 90, (some (87, false)), [], .load (.t 89) none⟩,
⟨some 91, (some (87, false)), [], .fieldAddr (.t 17) 1⟩,
⟨some 92, (some (87, false)), [], .fieldAddr (.t 91) 1⟩,
⟨some 93, (some (87, false)), [], .load (.t 92) none⟩,
⟨some 94, (some (87, false)), [], .bin .gtr (.t 90) (.t 93)⟩,
⟨some 95, none, [], .pick (.t 87) (.k (.bool true)) (.t 94)⟩])
 (.cond (.t 95)
 (.seq
 (.ops [
⟨some 4, none, [], .move (.k (.bool false))⟩])
 .ret)
 .skip))
 (.ops [
⟨some 96, none, [], .move (.t 14)⟩,
⟨some 97, none, [], .move (.t 96)⟩,
⟨some 98, (some (97, false)), [], .fieldAddr (.t 13) 0⟩,
⟨some 99, (some (97, false)), [], .fieldAddr (.t 98) 0⟩,
⟨some 100, (some (97, false)), [], .load (.t 99) none⟩,
⟨some 101, (some (97, false)), [], .fieldAddr (.t 17) 1⟩,
⟨some 102, (some (97, false)), [], .fieldAddr (.t 101) 0⟩,
⟨some 103, (some (97, false)), [], .load (.t 102) none⟩,
⟨some 104, (some (97, false)), [], .bin .eql (.t 100) (.t 103)⟩,
⟨some 105, none, [], .pick (.t 97) (.k (.bool true)) (.t 104)⟩,
⟨some 106, none, [], .move (.t 15)⟩,
⟨some 107, none, [], .move (.t 106)⟩,
⟨some 108, (some (107, false)), [], .fieldAddr (.t 13) 0⟩,
⟨some 109, (some (107, false)), [], .fieldAddr (.t 108) 1⟩,
⟨some 110, (some (107, false)), [], .load (.t 109) none⟩,
⟨some 111, (some (107, false)), [], .fieldAddr (.t 17) 1⟩,
⟨some 112, (some (107, false)), [], .fieldAddr (.t 111) 1⟩,
⟨some 113, (some (107, false)), [], .load (.t 112) none⟩,
⟨some 114, (some (107, false)), [], .bin .eql (.t 110) (.t 113)⟩,
⟨some 115, none, [], .pick (.t 107) (.k (.bool true)) (.t 114)⟩,
⟨some 14, none, [], .move (.t 105)⟩,
⟨some 15, none, [], .move (.t 115)⟩]))
 .skip))))
 (.ops [
⟨some 116, none, [], .bin .add (.t 72) (.k (.int .i64 1))⟩,
⟨some 72, none, [], .move (.t 116)⟩])))))))
 (.seq
 (.ops [
⟨some 18, none, [], .move (.k (.bool false))⟩])
 (.seq
 (.seq
 (.ops [
⟨some 117, none, [], .load (.t 5) (some 4)⟩,
⟨some 118, none, [], .move (.t 12)⟩,
⟨some 119, none, [], .call (.k (.func (.func 33) ⟨[]⟩ ⟨[]⟩)) [.t 117, .t 118] false⟩,
⟨some 120, none, [], .len (.t 119)⟩,
⟨some 121, none, [], .move (.k (.int .i64 0))⟩])
 (.block 4
 (.loop
 (.seq
 (.ops [
⟨some 122, none, [], .bin .lss (.t 121) (.t 120)⟩])
 (.seq
 (.cond (.t 122)
 .skip
 (.exit 4))
 (.seq
 (.block 5
 (.seq
 (.ops [
⟨some 123, none, [], .idxS (.t 119) (.t 121) 1⟩,
⟨some 124, none, [], .load (.t 123) none⟩,
⟨some 20, none, [], .move (.t 124)⟩])
 (.seq
 (.seq
 (.ops [
⟨some 125, none, [], .move (.t 11)⟩,
⟨some 126, none, [], .move (.t 20)⟩,
⟨some 127, none, [], .call (.t 125) [.t 126] false⟩,
⟨some 128, none, [], .bin .lss (.t 127) (.k (.int .i64 1))⟩,
⟨some 129, none, [], .move (.t 128)⟩,
⟨some 130, (some (129, false)), [], .move (.t 9)⟩,
⟨some 131, (some (129, false)), [], .move (.t 20)⟩,
⟨some 132, (some (129, false)), [], .idxS (.t 130) (.t 131) 8⟩,
⟨some 133, (some (129, false)), [], .fieldAddr (.t 132) 0⟩,
⟨some 134, (some (129, false)), [], .fieldAddr (.t 133) 0⟩,
⟨some 135, (some (129, false)), [], .load (.t 134) none⟩,
⟨some 136, (some (129, false)), [], .bin .geq (.t 135) (.k (.int .i64 1099511627776))⟩,
⟨some 137, none, [], .pick (.t 129) (.k (.bool true)) (.t 136)⟩])
 (.cond (.t 137)
 (.exit 5)
 .skip))
 (.seq
 (.ops [
⟨some 18, none, [], .move (.k (.bool true))⟩])
 (.seq
 (.ops [
⟨some 138, none, [], .move (.t 11)⟩,
⟨some 139, none, [], .move (.t 12)⟩,
⟨some 140, none, [], .call (.t 138) [.t 139] false⟩,
⟨some 141, none, [], .move (.t 11)⟩,
⟨some 142, none, [], .move (.t 20)⟩,
⟨some 143, none, [], .call (.t 141) [.t 142] false⟩,
⟨some 144, none, [], .min [.t 140, .t 143]⟩,
⟨some 21, none, [], .move (.t 144)⟩])
 (.seq
 (.ops [
⟨some 145, none, [], .fieldAddr (.t 13) 0⟩,
⟨some 146, none, [], .fieldAddr (.t 145) 0⟩,
⟨some 147, none, [], .load (.t 146) none⟩,
⟨some 148, none, [], .move (.t 9)⟩,
⟨some 149, none, [], .move (.t 20)⟩,
⟨some 150, none, [], .idxS (.t 148) (.t 149) 8⟩,
⟨some 151, none, [], .fieldAddr (.t 150) 0⟩,
⟨some 152, none, [], .fieldAddr (.t 151) 0⟩,
⟨some 153, none, [], .load (.t 152) none⟩,
⟨some 154, none, [], .bin .sub (.t 147) (.t 153)⟩,
⟨some 155, none, [], .fieldAddr (.t 13) 0⟩,
⟨some 156, none, [], .fieldAddr (.t 155) 1⟩,
⟨some 157, none, [], .load (.t 156) none⟩,
⟨some 158, none, [], .move (.t 9)⟩,
⟨some 159, none, [], .move (.t 20)⟩,
⟨some 160, none, [], .idxS (.t 158) (.t 159) 8⟩,
⟨some 161, none, [], .fieldAddr (.t 160) 0⟩,
⟨some 162, none, [], .fieldAddr (.t 161) 1⟩,
⟨some 163, none, [], .load (.t 162) none⟩,
⟨some 164, none, [], .bin .sub (.t 157) (.t 163)⟩,
⟨some 22, none, [], .move (.t 154)⟩,
⟨some 23, none, [], .move (.t 164)⟩])
 (.seq
 (.ops [
⟨some 165, none, [], .move (.t 14)⟩,
⟨some 166, none, [], .move (.t 165)⟩,
⟨some 167, (some (166, false)), [], .move (.t 22)⟩,
⟨some 168, (some (166, false)), [], .fieldAddr (.t 5) 2⟩,
⟨some 169, (some (166, false)), [], .load (.t 168) none⟩,
⟨some 170, (some (166, false)), [], .move (.t 21)⟩,
⟨some 171, (some (166, false)), [], .call (.k (.func (.func 34) ⟨[]⟩ ⟨[]⟩)) [.t 167, .t 169, .t 170, .k (.bool false)] false⟩,
⟨some 172, none, [], .pick (.t 166) (.k (.bool true)) (.t 171)⟩,
⟨some 173, none, [], .move (.t 15)⟩,
⟨some 174, none, [], .move (.t 173)⟩,
⟨some 175, (some (174, false)), [], .move (.t 23)⟩,
⟨some 176, (some (174, false)), [], .fieldAddr (.t 5) 2⟩,
⟨some 177, (some (174, false)), [], .load (.t 176) none⟩,
⟨some 178, (some (174, false)), [], .move (.t 21)⟩,
⟨some 179, (some (174, false)), [], .call (.k (.func (.func 34) ⟨[]⟩ ⟨[]⟩)) [.t 175, .t 177, .t 178, .k (.bool true)] false⟩,
⟨some 180, none, [], .pick (.t 174) (.k (.bool true)) (.t 179)⟩,
⟨some 14, none, [], .move (.t 172)⟩,
⟨some 15, none, [], .move (.t 180)⟩])
 (.seq
 (.ops [
⟨some 181, none, [], .fieldAddr (.t 5) 2⟩,
⟨some 182, none, [], .load (.t 181) none⟩,
⟨some 183, none, [], .fieldAddr (.t 5) 2⟩,
⟨some 184, none, [], .load (.t 183) none⟩,
⟨some 185, none, [], .bin .mul (.t 182) (.t 184)⟩,
⟨some 186, none, [], .bin .mul (.t 185) (.k (.int .i64 10000000000))⟩,
⟨some 24, none, [], .move (.t 186)⟩])
 (.seq
 (.ops [
⟨some 187, none, [], .move (.t 22)⟩,
⟨some 188, none, [], .bin .gtr (.t 187) (.k (.int .i64 0))⟩,
⟨some 189, none, [], .move (.t 188)⟩,
⟨some 190, (some (189, true)), [], .move (.t 22)⟩,
⟨some 191, (some (189, true)), [], .move (.t 22)⟩,
⟨some 192, (some (189, true)), [], .bin .mul (.t 190) (.t 191)⟩,
⟨some 193, (some (189, true)), [], .move (.t 24)⟩,
⟨some 194, (some (189, true)), [], .move (.t 21)⟩,
⟨some 195, (some (189, true)), [], .bin .mul (.k (.int .i64 981)) (.t 194)⟩,
⟨some 196, (some (189, true)), [], .bin .quo (.t 193) (.t 195)⟩,
⟨some 197, (some (189, true)), [], .bin .gtr (.t 192) (.t 196)⟩,
⟨some 198, none, [], .pick (.t 189) (.t 197) (.k (.bool false))⟩,
⟨some 199, none, [], .move (.t 198)⟩,
⟨some 200, (some (199, false)), [], .move (.t 23)⟩,
⟨some 201, (some (199, false)), [], .bin .gtr (.t 200) (.k (.int .i64 0))⟩,
⟨some 202, (some (199, false)), [], .move (.t 201)⟩,
⟨some 203, (some (202, true)), [], .move (.t 23)⟩,
⟨some 204, (some (202, true)), [], .bin .sub (.t 203) (.k (.int .i64 1))⟩,
⟨some 205, (some (202, true)), [], .move (.t 23)⟩,
⟨some 206, (some (202, true)), [], .bin .sub (.t 205) (.k (.int .i64 1))⟩,
⟨some 207, (some (202, true)), [], .bin .mul (.t 204) (.t 206)⟩,
⟨some 208, (some (202, true)), [], .move (.t 24)⟩,
⟨some 209, (some (202, true)), [], .move (.t 21)⟩,
⟨some 210, (some (202, true)), [], .bin .mul (.k (.int .i64 981)) (.t 209)⟩,
⟨some 211, (some (202, true)), [], .bin .add (.t 208) (.t 210)⟩,
⟨some 212, (some (202, true)), [], .bin .sub (.t 211) (.k (.int .i64 1))⟩,
⟨some 213, (some (202, true)), [], .move (.t 21)⟩,
⟨some 214, (some (202, true)), [], .bin .mul (.k (.int .i64 981)) (.t 213)⟩,
⟨some 215, (some (202, true)), [], .bin .quo (.t 212) (.t 214)⟩,
⟨some 216, (some (202, true)), [], .bin .geq (.t 207) (.t 215)⟩,
⟨some 217, (some (199, false)), [], .pick (.t 202) (.t 216) (.k (.bool false))⟩,
⟨some 218, none, [], .pick (.t 199) (.k (.bool true)) (.t 217)⟩])
 (.cond (.t 218)
 (.seq
 (.ops [
⟨some 4, none, [], .move (.k (.bool false))⟩])
 .ret)
 .skip))))))))))
 (.ops [
⟨some 219, none, [], .bin .add (.t 121) (.k (.int .i64 1))⟩,
⟨some 121, none, [], .move (.t 219)⟩])))))))
 (.seq
 (.ops [
⟨some 220, none, [], .fieldAddr (.t 13) 0⟩,
⟨some 221, none, [], .fieldAddr (.t 220) 0⟩,
⟨some 222, none, [], .load (.t 221) none⟩,
⟨some 223, none, [], .bin .lss (.t 222) (.k (.int .i64 1099511627776))⟩,
⟨some 224, none, [], .move (.t 223)⟩,
⟨some 225, (some (224, true)), [], .move (.t 14)⟩,
⟨some 226, (some (224, true)), [], .not (.t 225)⟩,
⟨some 227, (some (224, true)), [], .move (.t 226)⟩,
⟨some 228, (some (227, false)), [], .move (.t 15)⟩,
⟨some 229, (some (227, false)), [], .not (.t 228)⟩,
⟨some 230, (some (224, true)), [], .pick (.t 227) (.k (.bool true)) (.t 229)⟩,
⟨some 231, none, [], .pick (.t 224) (.t 230) (.k (.bool false))⟩,
⟨some 232, none, [], .move (.t 231)⟩,
⟨some 233, (some (232, false)), [], .fieldAddr (.t 13) 0⟩,
⟨some 234, (some (232, false)), [], .fieldAddr (.t 233) 0⟩,
⟨some 235, (some (232, false)), [], .load (.t 234) none⟩,
⟨some 236, (some (232, false)), [], .bin .geq (.t 235) (.k (.int .i64 1099511627776))⟩,
⟨some 237, (some (232, false)), [], .move (.t 236)⟩,
⟨some 238, (some (237, true)), [], .move (.t 18)⟩,
⟨some 239, (some (237, true)), [], .move (.t 238)⟩,
⟨some 240, (some (239, false)), [], .fieldAddr (.t 13) 0⟩,
⟨some 241, (some (239, false)), [], .load (.t 240) (some 2)⟩,
⟨some 242, (some (239, false)), [], .call (.k (.func (.func 25) ⟨[]⟩ ⟨[]⟩)) [.k (.int .i64 1099511627776), .k (.int .i64 1099511627776)] true⟩,
⟨some 243, (some (239, false)), [], .eqv true [false, false] (.t 241) (.t 242)⟩,
⟨some 244, (some (237, true)), [], .pick (.t 239) (.k (.bool true)) (.t 243)⟩,
⟨some 245, (some (232, false)), [], .pick (.t 237) (.t 244) (.k (.bool false))⟩,
⟨some 246, none, [], .pick (.t 232) (.k (.bool true)) (.t 245)⟩])
 (.cond (.t 246)
 (.seq
 (.ops [
⟨some 4, none, [], .move (.k (.bool false))⟩])
 .ret)
 .skip)))))))))
 (.ops [
⟨some 247, none, [], .bin .add (.t 61) (.k (.int .i64 1))⟩,
⟨some 61, none, [], .move (.t 247)⟩])))))))
 (.seq
 (.ops [
⟨some 248, none, [], .call (.k (.func (.func 10) ⟨[]⟩ ⟨[]⟩)) [] false⟩,
⟨some 4, none, [], .move (.t 248)⟩])
 .ret))))))))))

/-- tidewall/tidewalllaw05.WaveStrength -/
def F9 : AFunc :=
 .fn 242 [.tmp 6]
 (.seq
 (.ops [
⟨some 3, none, [], .box (.t 0)⟩,
⟨some 6, none, [], .move (.k (.bool false))⟩])
 (.seq
 (.seq
 (.ops [
⟨some 27, none, [], .move (.t 1)⟩,
⟨some 28, none, [], .len (.t 27)⟩,
⟨some 29, none, [], .bin .lss (.t 28) (.k (.int .i64 1))⟩,
⟨some 30, none, [], .move (.t 29)⟩,
⟨some 31, (some (30, false)), [], .move (.t 1)⟩,
⟨some 32, (some (30, false)), [], .len (.t 31)⟩,
⟨some 33, (some (30, false)), [], .bin .gtr (.t 32) (.k (.int .i64 5))⟩,
⟨some 34, none, [], .pick (.t 30) (.k (.bool true)) (.t 33)⟩])
 (.cond (.t 34)
 (.seq
 (.ops [
⟨some 35, none, [], .call (.k (.func (.func 10) ⟨[]⟩ ⟨[]⟩)) [] false⟩,
⟨some 6, none, [], .move (.t 35)⟩])
 .ret)
 .skip))
 (.seq
 (.ops [
⟨some 37, none, [], .load (.t 3) (some 12)⟩,
⟨some 38, none, [], .call (.k (.func (.func 24) ⟨[]⟩ ⟨[]⟩)) [.t 37] false⟩,
⟨some 36, none, [], .move (.t 38)⟩,
⟨some 39, none, [], .extract (.t 36) 0⟩,
⟨some 40, none, [], .extract (.t 36) 1⟩,
⟨some 41, none, [], .extract (.t 36) 2⟩,
⟨some 7, none, [], .alloc [.int .i64 0, .int .i64 0, .int .i64 0, .slice none 0 0]⟩,
⟨some 8, none, [], .alloc [.int .i64 0, .int .i64 0]⟩,
⟨some 9, none, [], .alloc [.int .i64 0, .int .i64 0, .int .i64 0, .int .i64 0, .int .i64 0, .int .i64 0]⟩,
⟨none, none, [], .store (.t 7) (.t 39) 4⟩,
⟨none, none, [], .store (.t 8) (.t 40) 2⟩,
⟨none, none, [], .store (.t 9) (.t 41) 6⟩])
 (.seq
 (.ops [
⟨some 42, none, [], .load (.t 7) (some 4)⟩,
⟨some 43, none, [], .move (.t 1)⟩,
⟨some 44, none, [], .call (.k (.func (.func 30) ⟨[]⟩ ⟨[]⟩)) [.t 42, .t 43] false⟩,
⟨some 10, none, [], .move (.t 44)⟩])
 (.seq
 (.ops [
⟨some 46, none, [], .load (.t 7) (some 4)⟩,
⟨some 47, none, [], .load (.t 8) (some 2)⟩,
⟨some 48, none, [], .load (.t 9) (some 6)⟩,
⟨some 49, none, [], .move (.t 10)⟩,
⟨some 50, none, [], .call (.k (.func (.func 27) ⟨[]⟩ ⟨[]⟩)) [.t 46, .t 47, .t 48, .t 49] false⟩,
⟨some 45, none, [], .move (.t 50)⟩,
⟨some 51, none, [], .extract (.t 45) 0⟩,
⟨some 52, none, [], .extract (.t 45) 1⟩,
⟨some 11, none, [], .move (.t 51)⟩,
⟨some 12, none, [], .move (.t 52)⟩])
 (.seq
 (.seq
 (.ops [
⟨some 53, none, [], .move (.t 12)⟩,
⟨some 54, none, [], .bin .neq (.t 53) (.k (.int .i64 0))⟩,
⟨some 55, none, [], .move (.t 54)⟩,
⟨some 56, (some (55, false)), [], .move (.t 11)⟩,
⟨some 57, (some (55, false)), [], .len (.t 56)⟩,
⟨some 58, (some (55, false)), [], .fieldAddr (.t 7) 3⟩,
⟨some 59, (some (55, false)), [], .load (.t 58) none⟩,
⟨some 60, (some (55, false)), [], .len (.t 59)⟩,
⟨some 61, (some (55, false)), [], .bin .neq (.t 57) (.t 60)⟩,
⟨some 62, none, [], .pick (.t 55) (.k (.bool true)) (.t 61)⟩])
 (.cond (.t 62)
 (.seq
 (.ops [
⟨some 6, none, [], .move (.k (.bool false))⟩])
 .ret)
 .skip))
 (.seq
 (.ops [
⟨some 13, none, [], .move (.k (.int .i64 0))⟩,
⟨some 14, none, [], .move (.k (.int .i64 0))⟩,
⟨some 15, none, [], .move (.k (.int .i64 0))⟩])
 (.seq
 (.seq
 (.ops [
⟨some 63, none, [], .move (.t 10)⟩,
⟨some 64, none, [], .len (.t 63)⟩,
⟨some 65, none, [], .move (.k (.int .i64 0))⟩])
 (.block 0
 (.loop
 (.seq
 (.ops [
⟨some 66, none, [], .bin .lss (.t 65) (.t 64)⟩])
 (.seq
 (.cond (.t 66)
 .skip
 (.exit 0))
 (.seq
 (.block 1
 (.seq
 (.ops [
⟨some 67, none, [], .idxS (.t 63) (.t 65) 5⟩,
⟨some 68, none, [], .load (.t 67) (some 5)⟩,
⟨some 17, none, [], .alloc [.int .i64 0, .int .i64 0, .int .i64 0, .int .i64 0, .int .i64 0]⟩,
⟨none, none, [], .store (.t 17) (.t 68) 5⟩])
 (.seq
 (.ops [
⟨some 69, none, [], .fieldAddr (.t 8) 1⟩,
⟨some 70, none, [], .load (.t 69) none⟩,
⟨some 71, none, [], .fieldAddr (.t 7) 3⟩,
⟨some 72, none, [], .load (.t 71) none⟩,
⟨some 73, none, [], .fieldAddr (.t 17) 0⟩,
⟨some 74, none, [], .load (.t 73) none⟩,
⟨some 75, none, [], .idxS (.t 72) (.t 74) 2⟩,
⟨some 76, none, [], .fieldAddr (.t 75) 0⟩,
⟨some 77, none, [], .load (.t 76) none⟩,
⟨some 78, none, [], .bin .sub (.t 70) (.t 77)⟩,
⟨some 79, none, [], .max [.k (.int .i64 0), .t 78]⟩,
⟨some 18, none, [], .move (.t 79)⟩])
 (.seq
 (.ops [
⟨some 19, none, [], .move (.k (.int .i64 0))⟩])
 (.seq
 (.block 2
 (.loop
 (.seq
 (.seq
 (.ops [
⟨some 80, none, [], .move (.t 18)⟩,
⟨some 81, none, [], .bin .gtr (.t 80) (.k (.int .i64 0))⟩,
⟨some 82, none, [], .move (.t 81)⟩,
⟨some 83, (some (82, true)), [], .move (.t 19)⟩,
⟨some 84, (some (82, true)), [], .move (.t 19)⟩,
⟨some 85, (some (82, true)), [], .bin .mul (.t 83) (.t 84)⟩,
⟨some 86, (some (82, true)), [], .move (.t 19)⟩,
⟨some 87, (some (82, true)), [], .bin .mul (.t 85) (.t 86)⟩,
⟨some 88, (some (82, true)), [], .move (.t 19)⟩,
⟨some 89, (some (82, true)), [], .bin .mul (.t 87) (.t 88)⟩,
⟨some 90, (some (82, true)), [], .move (.t 18)⟩,
⟨some 91, (some (82, true)), [], .bin .shl (.t 90) (.k (.int .u64 40))⟩,
⟨some 92, (some (82, true)), [], .bin .lss (.t 89) (.t 91)⟩,
⟨some 93, none, [], .pick (.t 82) (.t 92) (.k (.bool false))⟩,
⟨some 94, none, [], .move (.t 93)⟩,
⟨some 95, (some (94, true)), [], .move (.t 19)⟩,
⟨some 96, (some (94, true)), [], .bin .lss (.t 95) (.k (.int .i64 40000))⟩,
⟨some 97, none, [], .pick (.t 94) (.t 96) (.k (.bool false))⟩])
 (.cond (.t 97)
 .skip
 (.exit 2)))
 (.block 3
 (.ops [
⟨some 98, none, [], .move (.t 19)⟩,
⟨some 99, none, [], .bin .add (.t 98) (.k (.int .i64 1))⟩,
⟨some 19, none, [], .move (.t 99)⟩])))))
 (.seq
 (.ops [
⟨some 100, none, [], .move (.t 13)⟩,
⟨some 101, none, [], .fieldAddr (.t 17) 3⟩,
⟨some 102, none, [], .fieldAddr (.t 101) 1⟩,
⟨some 103, none, [], .load (.t 102) none⟩,
⟨some 104, none, [], .move (.t 19)⟩,
⟨some 105, none, [], .bin .add (.t 104) (.k (.int .i64 1))⟩,
⟨some 106, none, [], .bin .mul (.t 103) (.t 105)⟩,
⟨some 107, none, [], .max [.t 100, .t 106]⟩,
⟨some 13, none, [], .move (.t 107)⟩])
 (.ops [
⟨some 108, none, [], .move (.t 14)⟩,
⟨some 109, none, [], .fieldAddr (.t 17) 3⟩,
⟨some 110, none, [], .fieldAddr (.t 109) 1⟩,
⟨some 111, none, [], .load (.t 110) none⟩,
⟨some 112, none, [], .max [.t 108, .t 111]⟩,
⟨some 113, none, [], .move (.t 15)⟩,
⟨some 114, none, [], .fieldAddr (.t 17) 3⟩,
⟨some 115, none, [], .fieldAddr (.t 114) 0⟩,
⟨some 116, none, [], .load (.t 115) none⟩,
⟨some 117, none, [], .max [.t 113, .t 116]⟩,
⟨some 14, none, [], .move (.t 112)⟩,
⟨some 15, none, [], .move (.t 117)⟩])))))))
 (.ops [
⟨some 118, none, [], .bin .add (.t 65) (.k (.int .i64 1))⟩,
⟨some 65, none, [], .move (.t 118)⟩])))))))
 (.seq
 (.seq
 (.ops [
⟨some 119, none, [], .move (.t 11)⟩,
⟨some 120, none, [], .len (.t 119)⟩,
⟨some 121, none, [], .move (.k (.int .i64 0))⟩])
 (.block 4
 (.loop
 (.seq
 (.ops [
⟨some 122, none, [], .bin .lss (.t 121) (.t 120)⟩])
 (.seq
 (.cond (.t 122)
 .skip
 (.exit 4))
 (.seq
 (.block 5
 (.seq
 (.ops [
⟨some 123, none, [], .move (.t 121)⟩,
⟨some 124, none, [], .idxS (.t 119) (.t 121) 8⟩,
⟨some 125, none, [], .load (.t 124) (some 8)⟩,
⟨some 21, none, [], .alloc [.int .i64 0, .int .i64 0, .int .i64 0, .int .i64 0, .int .i64 0, .int .i64 0, .int .i64 0, .int .i64 0]⟩,
⟨some 20, none, [], .move (.t 123)⟩,
⟨none, none, [], .store (.t 21) (.t 125) 8⟩])
 (.seq
 (.ops [
⟨some 126, none, [], .fieldAddr (.t 8) 1⟩,
⟨some 127, none, [], .load (.t 126) none⟩,
⟨some 128, none, [], .fieldAddr (.t 7) 3⟩,
⟨some 129, none, [], .load (.t 128) none⟩,
⟨some 130, none, [], .move (.t 20)⟩,
⟨some 131, none, [], .idxS (.t 129) (.t 130) 2⟩,
⟨some 132, none, [], .fieldAddr (.t 131) 0⟩,
⟨some 133, none, [], .load (.t 132) none⟩,
⟨some 134, none, [], .bin .sub (.t 127) (.t 133)⟩,
⟨some 135, none, [], .bin .geq (.t 134) (.k (.int .i64 1))⟩,
⟨some 136, none, [], .move (.t 135)⟩,
⟨some 137, (some (136, true)), [], .fieldAddr (.t 8) 0⟩,
⟨some 138, (some (136, true)), [], .load (.t 137) none⟩,
⟨some 139, (some (136, true)), [], .fieldAddr (.t 7) 3⟩,
⟨some 140, (some (136, true)), [], .load (.t 139) none⟩,
⟨some 141, (some (136, true)), [], .move (.t 20)⟩,
⟨some 142, (some (136, true)), [], .idxS (.t 140) (.t 141) 2⟩,
⟨some 143, (some (136, true)), [], .fieldAddr (.t 142) 1⟩,
⟨some 144, (some (136, true)), [], .load (.t 143) none⟩,
⟨some 145, (some (136, true)), [], .bin .sub (.t 138) (.t 144)⟩,
⟨some 146, (some (136, true)), [], .bin .geq (.t 145) (.k (.int .i64 1))⟩,
⟨some 147, none, [], .pick (.t 136) (.t 146) (.k (.bool false))⟩,
⟨some 148, none, [], .move (.t 147)⟩,
⟨some 149, (some (148, true)), [], .fieldAddr (.t 21) 2⟩,
⟨some 150, (some (148, true)), [], .fieldAddr (.t 149) 1⟩,
⟨some 151, (some (148, true)), [], .load (.t 150) none⟩,
⟨some 152, (some (148, true)), [], .move (.t 13)⟩,
⟨some 153, (some (148, true)), [], .bin .add (.t 152) (.k (.int .i64 1023))⟩,
⟨some 154, (some (148, true)), [], .bin .quo (.t 153) (.k (.int .i64 1024))⟩,
⟨some 155, (some (148, true)), [], .bin .gtr (.t 151) (.t 154)⟩,
⟨some 156, none, [], .pick (.t 148) (.t 155) (.k (.bool false))⟩])
 (.cond (.t 156)
 (.seq
 (.ops [
⟨some 6, none, [], .move (.k (.bool false))⟩])
 .ret)
 .skip))))
 (.ops [
⟨some 157, none, [], .bin .add (.t 121) (.k (.int .i64 1))⟩,
⟨some 121, none, [], .move (.t 157)⟩])))))))
 (.seq
 (.ops [
⟨some 158, none, [], .load (.t 7) (some 4)⟩,
⟨some 22, none, [], .alloc [.int .i64 0, .int .i64 0, .int .i64 0, .slice none 0 0]⟩,
⟨none, none, [], .store (.t 22) (.t 158) 4⟩])
 (.seq
 (.ops [
⟨some 159, none, [], .fieldAddr (.t 22) 3⟩,
⟨none, none, [], .store (.t 159) (.k (.slice none 0 0)) 1⟩])
 (.seq
 (.ops [
⟨some 160, none, [], .move (.t 2)⟩,
⟨some 161, none, [], .toInt .i64 (.t 160)⟩,
⟨some 162, none, [], .bin .add (.k (.int .i64 1)) (.t 161)⟩,
⟨some 23, none, [], .move (.t 162)⟩])
 (.seq
 (.seq
 (.ops [
⟨some 163, none, [], .fieldAddr (.t 7) 3⟩,
⟨some 164, none, [], .load (.t 163) none⟩,
⟨some 165, none, [], .len (.t 164)⟩,
⟨some 166, none, [], .move (.k (.int .i64 0))⟩])
 (.block 6
 (.loop
 (.seq
 (.ops [
⟨some 167, none, [], .bin .lss (.t 166) (.t 165)⟩])
 (.seq
 (.cond (.t 167)
 .skip
 (.exit 6))
 (.seq
 (.block 7
 (.ops [
⟨some 168, none, [], .fieldAddr (.t 22) 3⟩,
⟨some 169, none, [], .load (.t 168) none⟩,
⟨some 170, none, [], .move (.t 23)⟩,
⟨some 171, none, [], .neg (.t 170)⟩,
⟨some 172, none, [], .move (.t 23)⟩,
⟨some 173, none, [], .neg (.t 172)⟩,
⟨some 174, none, [], .call (.k (.func (.func 25) ⟨[]⟩ ⟨[]⟩)) [.t 171, .t 173] true⟩,
⟨some 175, none, [], .slit 1 2 [.int .i64 0, .int .i64 0] [(0, .t 174)]⟩,
⟨some 176, none, [], .append (.t 169) (.t 175) 2 16⟩,
⟨some 177, none, [], .fieldAddr (.t 22) 3⟩,
⟨none, none, [], .store (.t 177) (.t 176) 1⟩]))
 (.ops [
⟨some 178, none, [], .bin .add (.t 166) (.k (.int .i64 1))⟩,
⟨some 166, none, [], .move (.t 178)⟩])))))))
 (.seq
 (.ops [
⟨some 179, none, [], .call (.k (.func (.func 25) ⟨[]⟩ ⟨[]⟩)) [.k (.int .i64 1024), .k (.int .i64 1024)] false⟩,
⟨some 180, none, [], .fieldAddr (.t 9) 0⟩,
⟨none, none, [], .store (.t 180) (.t 179) 2⟩])
 (.seq
 (.ops [
⟨some 182, none, [], .load (.t 22) (some 4)⟩,
⟨some 183, none, [], .call (.k (.func (.func 25) ⟨[]⟩ ⟨[]⟩)) [.k (.int .i64 0), .k (.int .i64 0)] true⟩,
⟨some 184, none, [], .load (.t 9) (some 6)⟩,
⟨some 185, none, [], .move (.t 10)⟩,
⟨some 186, none, [], .call (.k (.func (.func 27) ⟨[]⟩ ⟨[]⟩)) [.t 182, .t 183, .t 184, .t 185] false⟩,
⟨some 181, none, [], .move (.t 186)⟩,
⟨some 187, none, [], .extract (.t 181) 0⟩,
⟨some 188, none, [], .extract (.t 181) 1⟩,
⟨some 24, none, [], .move (.t 187)⟩,
⟨some 12, none, [], .move (.t 188)⟩])
 (.seq
 (.seq
 (.ops [
⟨some 189, none, [], .move (.t 12)⟩,
⟨some 190, none, [], .bin .neq (.t 189) (.k (.int .i64 0))⟩,
⟨some 191, none, [], .move (.t 190)⟩,
⟨some 192, (some (191, false)), [], .move (.t 24)⟩,
⟨some 193, (some (191, false)), [], .len (.t 192)⟩,
⟨some 194, (some (191, false)), [], .move (.t 11)⟩,
⟨some 195, (some (191, false)), [], .len (.t 194)⟩,
⟨some 196, (some (191, false)), [], .bin .neq (.t 193) (.t 195)⟩,
⟨some 197, none, [], .pick (.t 191) (.k (.bool true)) (.t 196)⟩])
 (.cond (.t 197)
 (.seq
 (.ops [
⟨some 6, none, [], .move (.k (.bool false))⟩])
 .ret)
 .skip))
 (.seq
 (.seq
 (.ops [
⟨some 198, none, [], .move (.t 24)⟩,
⟨some 199, none, [], .len (.t 198)⟩,
⟨some 200, none, [], .move (.k (.int .i64 0))⟩])
 (.block 8
 (.loop
 (.seq
 (.ops [
⟨some 201, none, [], .bin .lss (.t 200) (.t 199)⟩])
 (.seq
 (.cond (.t 201)
 .skip
 (.exit 8))
 (.seq
 (.block 9
 (.seq
 (.ops [
⟨some 202, none, [], .idxS (.t 198) (.t 200) 8⟩,
⟨some 203, none, [], .load (.t 202) (some 8)⟩,
⟨some 26, none, [], .alloc [.int .i64 0, .int .i64 0, .int .i64 0, .int .i64 0, .int .i64 0, .int .i64 0, .int .i64 0, .int .i64 0]⟩,
⟨none, none, [], .store (.t 26) (.t 203) 8⟩])
 (.seq
 (.ops [
⟨some 204, none, [], .fieldAddr (.t 26) 2⟩,
⟨some 205, none, [], .fieldAddr (.t 204) 1⟩,
⟨some 206, none, [], .load (.t 205) none⟩,
⟨some 207, none, [], .move (.t 14)⟩,
⟨some 208, none, [], .move (.t 14)⟩,
⟨some 209, none, [], .bin .add (.t 208) (.k (.int .i64 511))⟩,
⟨some 210, none, [], .bin .quo (.t 209) (.k (.int .i64 512))⟩,
⟨some 211, none, [], .bin .add (.t 207) (.t 210)⟩,
⟨some 212, none, [], .bin .add (.t 211) (.k (.int .i64 1))⟩,
⟨some 213, none, [], .bin .gtr (.t 206) (.t 212)⟩,
⟨some 214, none, [], .move (.t 213)⟩,
⟨some 215, (some (214, false)), [], .fieldAddr (.t 26) 2⟩,
⟨some 216, (some (214, false)), [], .fieldAddr (.t 215) 0⟩,
⟨some 217, (some (214, false)), [], .load (.t 216) none⟩,
⟨some 218, (some (214, false)), [], .move (.t 15)⟩,
⟨some 219, (some (214, false)), [], .move (.t 15)⟩,
⟨some 220, (some (214, false)), [], .bin .add (.t 219) (.k (.int .i64 511))⟩,
⟨some 221, (some (214, false)), [], .bin .quo (.t 220) (.k (.int .i64 512))⟩,
⟨some 222, (some (214, false)), [], .bin .sub (.t 218) (.t 221)⟩,
⟨some 223, (some (214, false)), [], .bin .sub (.t 222) (.k (.int .i64 1))⟩,
⟨some 224, (some (214, false)), [], .bin .lss (.t 217) (.t 223)⟩,
⟨some 225, none, [], .pick (.t 214) (.k (.bool true)) (.t 224)⟩,
⟨some 226, none, [], .move (.t 225)⟩,
⟨some 227, (some (226, false)), [], .fieldAddr (.t 26) 2⟩,
⟨some 228, (some (226, false)), [], .fieldAddr (.t 227) 1⟩,
⟨some 229, (some (226, false)), [], .load (.t 228) none⟩,
⟨some 230, (some (226, false)), [], .move (.t 14)⟩,
⟨some 231, (some (226, false)), [], .bin .lss (.t 229) (.t 230)⟩,
⟨some 232, none, [], .pick (.t 226) (.k (.bool true)) (.t 231)⟩,
⟨some 233, none, [], .move (.t 232)⟩,
⟨some 234, (some (233, false)), [], .fieldAddr (.t 26) 2⟩,
⟨some 235, (some (233, false)), [], .fieldAddr (.t 234) 0⟩,
⟨some 236, (some (233, false)), [], .load (.t 235) none⟩,
⟨some 237, (some (233, false)), [], .move (.t 15)⟩,
⟨some 238, (some (233, false)), [], .bin .gtr (.t 236) (.t 237)⟩,
⟨some 239, none, [], .pick (.t 233) (.k (.bool true)) (.t 238)⟩])
 (.cond (.t 239)
 (.seq
 (.ops [
⟨some 6, none, [], .move (.k (.bool false))⟩])
 .ret)
 .skip))))
 (.ops [
⟨some 240, none, [], .bin .add (.t 200) (.k (.int .i64 1))⟩,
⟨some 200, none, [], .move (.t 240)⟩])))))))
 (.seq
 (.ops [
⟨some 241, none, [], .call (.k (.func (.func 10) ⟨[]⟩ ⟨[]⟩)) [] false⟩,
⟨some 6, none, [], .move (.t 241)⟩])
 .ret))))))))))))))))))

/-- tidewall/tidewalllaw05.works -/
def F10 : AFunc :=
 .fn 171 [.tmp 0]
 (.seq
 (.ops [
⟨some 0, none, [], .move (.k (.bool false))⟩])
 (.seq
 (.ops [
⟨some 14, none, [], .call (.k (.func (.func 35) ⟨[]⟩ ⟨[]⟩)) [] false⟩,
⟨some 15, none, [], .call (.k (.func (.func 36) ⟨[]⟩ ⟨[]⟩)) [] false⟩,
⟨some 1, none, [], .alloc [.int .i64 0, .int .i64 0, .int .i64 0, .slice none 0 0]⟩,
⟨some 2, none, [], .alloc [.int .i64 0, .int .i64 0, .int .i64 0, .int .i64 0, .int .i64 0, .int .i64 0]⟩,
⟨none, none, [], .store (.t 1) (.t 14) 4⟩,
⟨none, none, [], .store (.t 2) (.t 15) 6⟩])
 (.seq
 (.ops [
⟨some 16, none, [], .build [.int .i64 0, .int .i64 0, .int .i64 0, .int .i64 0, .int .i64 0] [(0, 1, .k (.int .i64 2)), (2, 1, .k (.int .i64 7))]⟩,
⟨some 3, none, [], .alloc [.int .i64 0, .int .i64 0, .int .i64 0, .int .i64 0, .int .i64 0]⟩,
⟨none, none, [], .store (.t 3) (.t 16) 5⟩])
 (.seq
 (.ops [
⟨some 18, none, [], .load (.t 1) (some 4)⟩,
⟨some 19, none, [], .build [.int .i64 0, .int .i64 0, .int .i64 0, .int .i64 0, .int .i64 0] [(0, 1, .k (.int .i64 1)), (1, 1, .k (.int .i64 3)), (2, 1, .k (.int .i64 4))]⟩,
⟨some 20, none, [], .call (.k (.func (.func 11) ⟨[]⟩ ⟨[]⟩)) [.t 18, .t 19] false⟩,
⟨some 17, none, [], .move (.t 20)⟩,
⟨some 21, none, [], .extract (.t 17) 0⟩,
⟨some 22, none, [], .extract (.t 17) 1⟩,
⟨some 4, none, [], .move (.t 21)⟩,
⟨some 5, none, [], .move (.t 22)⟩])
 (.seq
 (.ops [
⟨some 24, none, [], .load (.t 1) (some 4)⟩,
⟨some 25, none, [], .call (.k (.func (.func 25) ⟨[]⟩ ⟨[]⟩)) [.k (.int .i64 0), .k (.int .i64 0)] true⟩,
⟨some 26, none, [], .load (.t 2) (some 6)⟩,
⟨some 27, none, [], .load (.t 3) (some 5)⟩,
⟨some 28, none, [], .call (.k (.func (.func 16) ⟨[]⟩ ⟨[]⟩)) [.t 24, .t 25, .t 26, .t 27] false⟩,
⟨some 23, none, [], .move (.t 28)⟩,
⟨some 29, none, [], .extract (.t 23) 0⟩,
⟨some 30, none, [], .extract (.t 23) 1⟩,
⟨some 6, none, [], .move (.t 29)⟩,
⟨some 7, none, [], .move (.t 30)⟩])
 (.seq
 (.seq
 (.ops [
⟨some 31, none, [], .move (.t 5)⟩,
⟨some 32, none, [], .bin .neq (.t 31) (.k (.int .i64 0))⟩,
⟨some 33, none, [], .move (.t 32)⟩,
⟨some 34, (some (33, false)), [], .move (.t 7)⟩,
⟨some 35, (some (33, false)), [], .bin .neq (.t 34) (.k (.int .i64 0))⟩,
⟨some 36, none, [], .pick (.t 33) (.k (.bool true)) (.t 35)⟩,
⟨some 37, none, [], .move (.t 36)⟩,
⟨some 38, (some (37, false)), [], .move (.t 4)⟩,
⟨some 39, (some (37, false)), [], .len (.t 38)⟩,
⟨some 40, (some (37, false)), [], .bin .neq (.t 39) (.k (.int .i64 2))⟩,
⟨some 41, none, [], .pick (.t 37) (.k (.bool true)) (.t 40)⟩,
⟨some 42, none, [], .move (.t 41)⟩,
⟨some 43, (some (42, false)), [], .move (.t 4)⟩,
⟨some 44, (some (42, false)), [], .idxS (.t 43) (.k (.int .i64 0)) 5⟩,
⟨some 45, (some (42, false)), [], .load (.t 44) (some 5)⟩,
⟨some 46, (some (42, false)), [], .call (.k (.func (.func 25) ⟨[]⟩ ⟨[]⟩)) [.k (.int .i64 8), .k (.int .i64 16)] true⟩,
⟨some 47, (some (42, false)), [], .build [.int .i64 0, .int .i64 0, .int .i64 0, .int .i64 0, .int .i64 0] [(0, 1, .k (.int .i64 2)), (3, 2, .t 46)]⟩,
⟨some 48, (some (42, false)), [], .eqv true [false, false, false, false, false] (.t 45) (.t 47)⟩,
⟨some 49, none, [], .pick (.t 42) (.k (.bool true)) (.t 48)⟩,
⟨some 50, none, [], .move (.t 49)⟩,
⟨some 51, (some (50, false)), [], .move (.t 6)⟩,
⟨some 52, (some (50, false)), [], .len (.t 51)⟩,
⟨some 53, (some (50, false)), [], .bin .neq (.t 52) (.k (.int .i64 4))⟩,
⟨some 54, none, [], .pick (.t 50) (.k (.bool true)) (.t 53)⟩])
 (.cond (.t 54)
 (.seq
 (.ops [
⟨some 0, none, [], .move (.k (.bool false))⟩])
 .ret)
 .skip))
 (.seq
 (.seq
 (.ops [
⟨some 55, none, [], .move (.t 6)⟩,
⟨some 56, none, [], .idxS (.t 55) (.k (.int .i64 0)) 8⟩,
⟨some 57, none, [], .load (.t 56) (some 8)⟩,
⟨some 58, none, [], .call (.k (.func (.func 25) ⟨[]⟩ ⟨[]⟩)) [.k (.int .i64 127), .k (.int .i64 257)] true⟩,
⟨some 59, none, [], .call (.k (.func (.func 25) ⟨[]⟩ ⟨[]⟩)) [.k (.int .i64 127), .k (.int .i64 257)] true⟩,
⟨some 60, none, [], .call (.k (.func (.func 25) ⟨[]⟩ ⟨[]⟩)) [.k (.int .i64 19), .k (.int .i64 41)] true⟩,
⟨some 61, none, [], .build [.int .i64 0, .int .i64 0, .int .i64 0, .int .i64 0, .int .i64 0, .int .i64 0, .int .i64 0, .int .i64 0] [(2, 2, .t 58), (4, 2, .t 59), (6, 2, .t 60)]⟩,
⟨some 62, none, [], .eqv true [false, false, false, false, false, false, false, false] (.t 57) (.t 61)⟩,
⟨some 63, none, [], .move (.t 62)⟩,
⟨some 64, (some (63, false)), [], .move (.t 6)⟩,
⟨some 65, (some (63, false)), [], .idxS (.t 64) (.k (.int .i64 2)) 8⟩,
⟨some 66, (some (63, false)), [], .load (.t 65) (some 8)⟩,
⟨some 67, (some (63, false)), [], .call (.k (.func (.func 25) ⟨[]⟩ ⟨[]⟩)) [.k (.int .i64 116926), .k (.int .i64 116928)] true⟩,
⟨some 68, (some (63, false)), [], .call (.k (.func (.func 25) ⟨[]⟩ ⟨[]⟩)) [.k (.int .i64 321), .k (.int .i64 644)] true⟩,
⟨some 69, (some (63, false)), [], .call (.k (.func (.func 25) ⟨[]⟩ ⟨[]⟩)) [.k (.int .i64 321), .k (.int .i64 644)] true⟩,
⟨some 70, (some (63, false)), [], .call (.k (.func (.func 25) ⟨[]⟩ ⟨[]⟩)) [.k (.int .i64 317), .k (.int .i64 638)] true⟩,
⟨some 71, (some (63, false)), [], .build [.int .i64 0, .int .i64 0, .int .i64 0, .int .i64 0, .int .i64 0, .int .i64 0, .int .i64 0, .int .i64 0] [(0, 2, .t 67), (2, 2, .t 68), (4, 2, .t 69), (6, 2, .t 70)]⟩,
⟨some 72, (some (63, false)), [], .eqv true [false, false, false, false, false, false, false, false] (.t 66) (.t 71)⟩,
⟨some 73, none, [], .pick (.t 63) (.k (.bool true)) (.t 72)⟩,
⟨some 74, none, [], .move (.t 73)⟩,
⟨some 75, (some (74, false)), [], .move (.t 6)⟩,
⟨some 76, (some (74, false)), [], .idxS (.t 75) (.k (.int .i64 3)) 8⟩,
⟨some 77, (some (74, false)), [], .load (.t 76) (some 8)⟩,
⟨some 78, (some (74, false)), [], .call (.k (.func (.func 25) ⟨[]⟩ ⟨[]⟩)) [.k (.int .i64 216926), .k (.int .i64 216928)] true⟩,
⟨some 79, (some (74, false)), [], .call (.k (.func (.func 25) ⟨[]⟩ ⟨[]⟩)) [.k (.int .i64 11), .k (.int .i64 334)] true⟩,
⟨some 80, (some (74, false)), [], .call (.k (.func (.func 25) ⟨[]⟩ ⟨[]⟩)) [.k (.int .i64 311), .k (.int .i64 634)] true⟩,
⟨some 81, (some (74, false)), [], .call (.k (.func (.func 25) ⟨[]⟩ ⟨[]⟩)) [.k (.int .i64 103), .k (.int .i64 573)] true⟩,
⟨some 82, (some (74, false)), [], .build [.int .i64 0, .int .i64 0, .int .i64 0, .int .i64 0, .int .i64 0, .int .i64 0, .int .i64 0, .int .i64 0] [(0, 2, .t 78), (2, 2, .t 79), (4, 2, .t 80), (6, 2, .t 81)]⟩,
⟨some 83, (some (74, false)), [], .eqv true [false, false, false, false, false, false, false, false] (.t 77) (.t 82)⟩,
⟨some 84, none, [], .pick (.t 74) (.k (.bool true)) (.t 83)⟩])
 (.cond (.t 84)
 (.seq
 (.ops [
⟨some 0, none, [], .move (.k (.bool false))⟩])
 .ret)
 .skip))
 (.seq
 (.ops [
⟨some 86, none, [], .load (.t 1) (some 4)⟩,
⟨some 87, none, [], .call (.k (.func (.func 25) ⟨[]⟩ ⟨[]⟩)) [.k (.int .i64 0), .k (.int .i64 0)] true⟩,
⟨some 88, none, [], .move (.t 6)⟩,
⟨some 89, none, [], .call (.k (.func (.func 21) ⟨[]⟩ ⟨[]⟩)) [.t 86, .t 87, .t 88] false⟩,
⟨some 85, none, [], .move (.t 89)⟩,
⟨some 90, none, [], .extract (.t 85) 0⟩,
⟨some 91, none, [], .extract (.t 85) 1⟩,
⟨some 8, none, [], .move (.t 90)⟩,
⟨some 5, none, [], .move (.t 91)⟩])
 (.seq
 (.ops [
⟨some 92, none, [], .fieldAddr (.t 2) 4⟩,
⟨some 93, none, [], .fieldAddr (.t 92) 1⟩,
⟨none, none, [], .store (.t 93) (.k (.int .i64 30)) 1⟩])
 (.seq
 (.ops [
⟨some 95, none, [], .load (.t 1) (some 4)⟩,
⟨some 96, none, [], .call (.k (.func (.func 25) ⟨[]⟩ ⟨[]⟩)) [.k (.int .i64 0), .k (.int .i64 0)] true⟩,
⟨some 97, none, [], .load (.t 2) (some 6)⟩,
⟨some 98, none, [], .load (.t 3) (some 5)⟩,
⟨some 99, none, [], .slit 1 5 [.int .i64 0, .int .i64 0, .int .i64 0, .int .i64 0, .int .i64 0] [(0, .t 98)]⟩,
⟨some 100, none, [], .call (.k (.func (.func 19) ⟨[]⟩ ⟨[]⟩)) [.t 95, .t 96, .t 97, .t 99] false⟩,
⟨some 94, none, [], .move (.t 100)⟩,
⟨some 101, none, [], .extract (.t 94) 0⟩,
⟨some 102, none, [], .extract (.t 94) 1⟩,
⟨some 9, none, [], .move (.t 101)⟩,
⟨some 7, none, [], .move (.t 102)⟩])
 (.seq
 (.ops [
⟨some 104, none, [], .load (.t 1) (some 4)⟩,
⟨some 105, none, [], .call (.k (.func (.func 25) ⟨[]⟩ ⟨[]⟩)) [.k (.int .i64 0), .k (.int .i64 0)] true⟩,
⟨some 106, none, [], .load (.t 2) (some 6)⟩,
⟨some 107, none, [], .call (.k (.func (.func 19) ⟨[]⟩ ⟨[]⟩)) [.t 104, .t 105, .t 106, .k (.slice none 0 0)] false⟩,
⟨some 103, none, [], .move (.t 107)⟩,
⟨some 108, none, [], .extract (.t 103) 0⟩,
⟨some 109, none, [], .extract (.t 103) 1⟩,
⟨some 10, none, [], .move (.t 108)⟩,
⟨some 11, none, [], .move (.t 109)⟩])
 (.seq
 (.ops [
⟨some 111, none, [], .load (.t 1) (some 4)⟩,
⟨some 112, none, [], .call (.k (.func (.func 25) ⟨[]⟩ ⟨[]⟩)) [.k (.int .i64 0), .k (.int .i64 0)] true⟩,
⟨some 113, none, [], .move (.t 10)⟩,
⟨some 114, none, [], .call (.k (.func (.func 21) ⟨[]⟩ ⟨[]⟩)) [.t 111, .t 112, .t 113] false⟩,
⟨some 110, none, [], .move (.t 114)⟩,
⟨some 115, none, [], .extract (.t 110) 0⟩,
⟨some 116, none, [], .extract (.t 110) 1⟩,
⟨some 12, none, [], .move (.t 115)⟩,
⟨some 13, none, [], .move (.t 116)⟩])
 (.seq
 (.ops [
⟨some 117, none, [], .move (.t 5)⟩,
⟨some 118, none, [], .bin .eql (.t 117) (.k (.int .i64 0))⟩,
⟨some 119, none, [], .move (.t 118)⟩,
⟨some 120, (some (119, true)), [], .move (.t 7)⟩,
⟨some 121, (some (119, true)), [], .bin .eql (.t 120) (.k (.int .i64 0))⟩,
⟨some 122, none, [], .pick (.t 119) (.t 121) (.k (.bool false))⟩,
⟨some 123, none, [], .move (.t 122)⟩,
⟨some 124, (some (123, true)), [], .move (.t 11)⟩,
⟨some 125, (some (123, true)), [], .bin .eql (.t 124) (.k (.int .i64 0))⟩,
⟨some 126, none, [], .pick (.t 123) (.t 125) (.k (.bool false))⟩,
⟨some 127, none, [], .move (.t 126)⟩,
⟨some 128, (some (127, true)), [], .move (.t 13)⟩,
⟨some 129, (some (127, true)), [], .bin .eql (.t 128) (.k (.int .i64 0))⟩,
⟨some 130, none, [], .pick (.t 127) (.t 129) (.k (.bool false))⟩,
⟨some 131, none, [], .move (.t 130)⟩,
⟨some 132, (some (131, true)), [], .move (.t 9)⟩,
⟨some 133, (some (131, true)), [], .len (.t 132)⟩,
⟨some 134, (some (131, true)), [], .bin .eql (.t 133) (.k (.int .i64 4))⟩,
⟨some 135, none, [], .pick (.t 131) (.t 134) (.k (.bool false))⟩,
⟨some 136, none, [], .move (.t 135)⟩,
⟨some 137, (some (136, true)), [], .move (.t 9)⟩,
⟨some 138, (some (136, true)), [], .idxS (.t 137) (.k (.int .i64 3)) 8⟩,
⟨some 139, (some (136, true)), [], .load (.t 138) (some 8)⟩,
⟨some 140, (some (136, true)), [], .call (.k (.func (.func 25) ⟨[]⟩ ⟨[]⟩)) [.k (.int .i64 216926), .k (.int .i64 1099511627776)] true⟩,
⟨some 141, (some (136, true)), [], .call (.k (.func (.func 25) ⟨[]⟩ ⟨[]⟩)) [.k (.int .i64 0), .k (.int .i64 334)] true⟩,
⟨some 142, (some (136, true)), [], .call (.k (.func (.func 25) ⟨[]⟩ ⟨[]⟩)) [.k (.int .i64 300), .k (.int .i64 634)] true⟩,
⟨some 143, (some (136, true)), [], .call (.k (.func (.func 25) ⟨[]⟩ ⟨[]⟩)) [.k (.int .i64 0), .k (.int .i64 573)] true⟩,
⟨some 144, (some (136, true)), [], .build [.int .i64 0, .int .i64 0, .int .i64 0, .int .i64 0, .int .i64 0, .int .i64 0, .int .i64 0, .int .i64 0] [(0, 2, .t 140), (2, 2, .t 141), (4, 2, .t 142), (6, 2, .t 143)]⟩,
⟨some 145, (some (136, true)), [], .eqv false [false, false, false, false, false, false, false, false] (.t 139) (.t 144)⟩,
⟨some 146, none, [], .pick (.t 136) (.t 145) (.k (.bool false))⟩,
⟨some 147, none, [], .move (.t 146)⟩,
⟨some 148, (some (147, true)), [], .move (.t 8)⟩,
⟨some 149, (some (147, true)), [], .slit 4 1 [.bool false] [(0, .k (.bool false)), (1, .k (.bool false)), (2, .k (.bool false)), (3, .k (.bool false))]⟩,
⟨some 150, (some (147, true)), [], .call (.k (.func (.func 23) ⟨[]⟩ ⟨[]⟩)) [.t 148, .t 149] false⟩,
⟨some 151, none, [], .pick (.t 147) (.t 150) (.k (.bool false))⟩,
⟨some 152, none, [], .move (.t 151)⟩,
⟨some 153, (some (152, true)), [], .move (.t 12)⟩,
⟨some 154, (some (152, true)), [], .slit 4 1 [.bool false] [(0, .k (.bool false)), (1, .k (.bool false)), (2, .k (.bool false)), (3, .k (.bool true))]⟩,
⟨some 155, (some (152, true)), [], .call (.k (.func (.func 23) ⟨[]⟩ ⟨[]⟩)) [.t 153, .t 154] false⟩,
⟨some 156, none, [], .pick (.t 152) (.t 155) (.k (.bool false))⟩,
⟨some 157, none, [], .move (.t 156)⟩,
⟨some 158, (some (157, true)), [], .move (.t 10)⟩,
⟨some 159, (some (157, true)), [], .len (.t 158)⟩,
⟨some 160, (some (157, true)), [], .bin .eql (.t 159) (.k (.int .i64 4))⟩,
⟨some 161, none, [], .pick (.t 157) (.t 160) (.k (.bool false))⟩,
⟨some 162, none, [], .move (.t 161)⟩,
⟨some 163, (some (162, true)), [], .move (.t 10)⟩,
⟨some 164, (some (162, true)), [], .idxS (.t 163) (.k (.int .i64 3)) 8⟩,
⟨some 165, (some (162, true)), [], .load (.t 164) (some 8)⟩,
⟨some 166, (some (162, true)), [], .call (.k (.func (.func 25) ⟨[]⟩ ⟨[]⟩)) [.k (.int .i64 1099511627776), .k (.int .i64 1099511627776)] true⟩,
⟨some 167, (some (162, true)), [], .call (.k (.func (.func 25) ⟨[]⟩ ⟨[]⟩)) [.k (.int .i64 300), .k (.int .i64 300)] true⟩,
⟨some 168, (some (162, true)), [], .build [.int .i64 0, .int .i64 0, .int .i64 0, .int .i64 0, .int .i64 0, .int .i64 0, .int .i64 0, .int .i64 0] [(0, 2, .t 166), (4, 2, .t 167)]⟩,
⟨some 169, (some (162, true)), [], .eqv false [false, false, false, false, false, false, false, false] (.t 165) (.t 168)⟩,
⟨some 170, none, [], .pick (.t 162) (.t 169) (.k (.bool false))⟩,
⟨some 0, none, [], .move (.t 170)⟩])
 .ret)))))))))))))

/-- tidewall/wave.Starts -/
def F11 : AFunc :=
 .fn 22 [.tmp 4, .tmp 5]
 (.seq
 (.ops [
⟨some 2, none, [], .box (.t 0)⟩,
⟨some 3, none, [], .box (.t 1)⟩,
⟨some 4, none, [], .move (.k (.slice none 0 0))⟩,
⟨some 5, none, [], .move (.k (.int .i64 0))⟩])
 (.seq
 (.seq
 (.ops [
⟨some 8, none, [], .load (.t 2) (some 4)⟩,
⟨some 9, none, [], .call (.k (.func (.func 37) ⟨[]⟩ ⟨[]⟩)) [.t 8] false⟩,
⟨some 6, none, [], .move (.t 9)⟩])
 (.seq
 (.ops [
⟨some 10, none, [], .move (.t 6)⟩,
⟨some 11, none, [], .bin .neq (.t 10) (.k (.int .i64 0))⟩])
 (.cond (.t 11)
 (.seq
 (.ops [
⟨some 12, none, [], .move (.t 6)⟩,
⟨some 4, none, [], .move (.k (.slice none 0 0))⟩,
⟨some 5, none, [], .move (.t 12)⟩])
 .ret)
 .skip)))
 (.seq
 (.seq
 (.ops [
⟨some 13, none, [], .load (.t 2) (some 4)⟩,
⟨some 14, none, [], .load (.t 3) (some 5)⟩,
⟨some 15, none, [], .call (.k (.func (.func 38) ⟨[]⟩ ⟨[]⟩)) [.t 13, .t 14] false⟩,
⟨some 7, none, [], .move (.t 15)⟩])
 (.seq
 (.ops [
⟨some 16, none, [], .move (.t 7)⟩,
⟨some 17, none, [], .bin .neq (.t 16) (.k (.int .i64 0))⟩])
 (.cond (.t 17)
 (.seq
 (.ops [
⟨some 18, none, [], .move (.t 7)⟩,
⟨some 4, none, [], .move (.k (.slice none 0 0))⟩,
⟨some 5, none, [], .move (.t 18)⟩])
 .ret)
 .skip)))
 (.seq
 (.ops [
⟨some 19, none, [], .load (.t 2) (some 4)⟩,
⟨some 20, none, [], .load (.t 3) (some 5)⟩,
⟨some 21, none, [], .call (.k (.func (.func 39) ⟨[]⟩ ⟨[]⟩)) [.t 19, .t 20] false⟩,
⟨some 4, none, [], .move (.t 21)⟩,
⟨some 5, none, [], .move (.k (.int .i64 0))⟩])
 .ret))))

/-- tidewall/tidewallref05.Starts -/
def F12 : AFunc :=
 .fn 93 [.tmp 4, .tmp 5]
 (.seq
 (.ops [
⟨some 2, none, [], .box (.t 0)⟩,
⟨some 3, none, [], .box (.t 1)⟩,
⟨some 4, none, [], .move (.k (.slice none 0 0))⟩,
⟨some 5, none, [], .move (.k (.int .i64 0))⟩])
 (.seq
 (.ops [
⟨some 14, none, [], .load (.t 2) (some 4)⟩,
⟨some 15, none, [], .call (.k (.func (.func 40) ⟨[]⟩ ⟨[]⟩)) [.t 14] false⟩,
⟨some 6, none, [], .move (.t 15)⟩])
 (.seq
 (.seq
 (.ops [
⟨some 16, none, [], .move (.t 6)⟩,
⟨some 17, none, [], .bin .eql (.t 16) (.k (.int .i64 0))⟩])
 (.cond (.t 17)
 (.ops [
⟨some 18, none, [], .load (.t 2) (some 4)⟩,
⟨some 19, none, [], .load (.t 3) (some 5)⟩,
⟨some 20, none, [], .call (.k (.func (.func 41) ⟨[]⟩ ⟨[]⟩)) [.t 18, .t 19] false⟩,
⟨some 6, none, [], .move (.t 20)⟩])
 .skip))
 (.seq
 (.seq
 (.ops [
⟨some 21, none, [], .move (.t 6)⟩,
⟨some 22, none, [], .bin .neq (.t 21) (.k (.int .i64 0))⟩])
 (.cond (.t 22)
 (.seq
 (.ops [
⟨some 23, none, [], .move (.t 6)⟩,
⟨some 4, none, [], .move (.k (.slice none 0 0))⟩,
⟨some 5, none, [], .move (.t 23)⟩])
 .ret)
 .skip))
 (.seq
 (.ops [
⟨some 24, none, [], .fieldAddr (.t 3) 2⟩,
⟨some 25, none, [], .load (.t 24) none⟩,
⟨some 26, none, [], .bin .shl (.k (.int .i64 1)) (.t 25)⟩,
⟨some 7, none, [], .move (.t 26)⟩])
 (.seq
 (.ops [
⟨some 27, none, [], .move (.t 7)⟩,
⟨some 28, none, [], .move (.t 7)⟩,
⟨some 29, none, [], .bin .mul (.k (.int .i64 2)) (.t 28)⟩,
⟨some 30, none, [], .build [.int .i64 0, .int .i64 0] [(0, 1, .t 27), (1, 1, .t 29)]⟩,
⟨some 9, none, [], .alloc [.int .i64 0, .int .i64 0]⟩,
⟨some 8, none, [], .move (.k (.int .i64 0))⟩,
⟨none, none, [], .store (.t 9) (.t 30) 2⟩])
 (.seq
 (.seq
 (.ops [
⟨some 31, none, [], .fieldAddr (.t 3) 0⟩,
⟨some 32, none, [], .load (.t 31) none⟩,
⟨some 33, none, [], .bin .eql (.t 32) (.k (.int .i64 1))⟩])
 (.cond (.t 33)
 (.ops [
⟨some 34, none, [], .fieldAddr (.t 3) 2⟩,
⟨some 35, none, [], .load (.t 34) none⟩,
⟨some 36, none, [], .bin .quo (.t 35) (.k (.int .i64 4))⟩,
⟨some 37, none, [], .move (.t 7)⟩,
⟨some 38, none, [], .bin .quo (.t 37) (.k (.int .i64 2))⟩,
⟨some 39, none, [], .move (.t 7)⟩,
⟨some 40, none, [], .build [.int .i64 0, .int .i64 0] [(0, 1, .t 38), (1, 1, .t 39)]⟩,
⟨some 8, none, [], .move (.t 36)⟩,
⟨none, none, [], .store (.t 9) (.t 40) 2⟩])
 .skip))
 (.seq
 (.seq
 (.ops [
⟨some 41, none, [], .fieldAddr (.t 3) 0⟩,
⟨some 42, none, [], .load (.t 41) none⟩,
⟨some 43, none, [], .bin .eql (.t 42) (.k (.int .i64 3))⟩])
 (.cond (.t 43)
 (.ops [
⟨some 44, none, [], .move (.t 7)⟩,
⟨some 45, none, [], .bin .quo (.t 44) (.k (.int .i64 2))⟩,
⟨some 46, none, [], .move (.t 7)⟩,
⟨some 47, none, [], .build [.int .i64 0, .int .i64 0] [(0, 1, .t 45), (1, 1, .t 46)]⟩,
⟨some 8, none, [], .move (.k (.int .i64 1))⟩,
⟨none, none, [], .store (.t 9) (.t 47) 2⟩])
 .skip))
 (.seq
 (.ops [
⟨some 10, none, [], .move (.k (.slice none 0 0))⟩])
 (.seq
 (.seq
 (.ops [
⟨some 11, none, [], .move (.k (.int .i64 0))⟩])
 (.block 0
 (.loop
 (.seq
 (.seq
 (.ops [
⟨some 48, none, [], .move (.t 11)⟩,
⟨some 49, none, [], .fieldAddr (.t 2) 3⟩,
⟨some 50, none, [], .load (.t 49) none⟩,
⟨some 51, none, [], .len (.t 50)⟩,
⟨some 52, none, [], .bin .lss (.t 48) (.t 51)⟩])
 (.cond (.t 52)
 .skip
 (.exit 0)))
 (.seq
 (.block 1
 (.seq
 (.ops [
⟨some 55, none, [], .move (.t 11)⟩,
⟨some 56, none, [], .fieldAddr (.t 2) 0⟩,
⟨some 57, none, [], .load (.t 56) none⟩,
⟨some 58, none, [], .bin .rem (.t 55) (.t 57)⟩,
⟨some 59, none, [], .fieldAddr (.t 3) 1⟩,
⟨some 60, none, [], .load (.t 59) none⟩,
⟨some 61, none, [], .fieldAddr (.t 2) 0⟩,
⟨some 62, none, [], .load (.t 61) none⟩,
⟨some 63, none, [], .bin .rem (.t 60) (.t 62)⟩,
⟨some 64, none, [], .bin .sub (.t 58) (.t 63)⟩,
⟨some 65, none, [], .move (.t 11)⟩,
⟨some 66, none, [], .fieldAddr (.t 2) 0⟩,
⟨some 67, none, [], .load (.t 66) none⟩,
⟨some 68, none, [], .bin .quo (.t 65) (.t 67)⟩,
⟨some 69, none, [], .fieldAddr (.t 3) 1⟩,
⟨some 70, none, [], .load (.t 69) none⟩,
⟨some 71, none, [], .fieldAddr (.t 2) 0⟩,
⟨some 72, none, [], .load (.t 71) none⟩,
⟨some 73, none, [], .bin .quo (.t 70) (.t 72)⟩,
⟨some 74, none, [], .bin .sub (.t 68) (.t 73)⟩,
⟨some 12, none, [], .move (.t 64)⟩,
⟨some 13, none, [], .move (.t 74)⟩])
 (.seq
 (.ops [
⟨some 75, none, [], .move (.t 12)⟩,
⟨some 76, none, [], .move (.t 12)⟩,
⟨some 77, none, [], .neg (.t 76)⟩,
⟨some 78, none, [], .move (.t 13)⟩,
⟨some 79, none, [], .move (.t 13)⟩,
⟨some 80, none, [], .neg (.t 79)⟩,
⟨some 81, none, [], .max [.t 75, .t 77, .t 78, .t 80]⟩,
⟨some 82, none, [], .move (.t 8)⟩,
⟨some 83, none, [], .bin .leq (.t 81) (.t 82)⟩])
 (.cond (.t 83)
 (.ops [
⟨some 84, none, [], .move (.t 10)⟩,
⟨some 85, none, [], .move (.t 11)⟩,
⟨some 86, none, [], .fieldAddr (.t 3) 3⟩,
⟨some 87, none, [], .load (.t 86) (some 2)⟩,
⟨some 88, none, [], .load (.t 9) (some 2)⟩,
⟨some 89, none, [], .build [.int .i64 0, .int .i64 0, .int .i64 0, .int .i64 0, .int .i64 0] [(0, 1, .t 85), (1, 2, .t 87), (3, 2, .t 88)]⟩,
⟨some 90, none, [], .slit 1 5 [.int .i64 0, .int .i64 0, .int .i64 0, .int .i64 0, .int .i64 0] [(0, .t 89)]⟩,
⟨some 91, none, [], .append (.t 84) (.t 90) 5 40⟩,
⟨some 10, none, [], .move (.t 91)⟩])
 .skip))))
 (.ops [
⟨some 53, none, [], .move (.t 11)⟩,
⟨some 54, none, [], .bin .add (.t 53) (.k (.int .i64 1))⟩,
⟨some 11, none, [], .move (.t 54)⟩]))))))
 (.seq
 (.ops [
⟨some 92, none, [], .move (.t 10)⟩,
⟨some 4, none, [], .move (.t 92)⟩,
⟨some 5, none, [], .move (.k (.int .i64 0))⟩])
 .ret)))))))))))

/-- tidewall/wave.Check -/
def F13 : AFunc :=
 .fn 19 [.tmp 2]
 (.seq
 (.ops [
⟨some 1, none, [], .box (.t 0)⟩,
⟨some 2, none, [], .move (.k (.int .i64 0))⟩])
 (.seq
 (.seq
 (.ops [
⟨some 3, none, [], .fieldAddr (.t 1) 0⟩,
⟨some 4, none, [], .load (.t 3) (some 2)⟩,
⟨some 5, none, [], .call (.k (.func (.func 42) ⟨[]⟩ ⟨[]⟩)) [.t 4, .k (.int .i64 1), .k (.int .i64 1024)] false⟩,
⟨some 6, none, [], .not (.t 5)⟩,
⟨some 7, none, [], .move (.t 6)⟩,
⟨some 8, (some (7, false)), [], .fieldAddr (.t 1) 2⟩,
⟨some 9, (some (7, false)), [], .load (.t 8) (some 2)⟩,
⟨some 10, (some (7, false)), [], .call (.k (.func (.func 42) ⟨[]⟩ ⟨[]⟩)) [.t 9, .k (.int .i64 10), .k (.int .i64 100000)] false⟩,
⟨some 11, (some (7, false)), [], .not (.t 10)⟩,
⟨some 12, none, [], .pick (.t 7) (.k (.bool true)) (.t 11)⟩,
⟨some 13, none, [], .move (.t 12)⟩,
⟨some 14, (some (13, false)), [], .fieldAddr (.t 1) 4⟩,
⟨some 15, (some (13, false)), [], .load (.t 14) (some 2)⟩,
⟨some 16, (some (13, false)), [], .call (.k (.func (.func 42) ⟨[]⟩ ⟨[]⟩)) [.t 15, .k (.int .i64 0), .k (.int .i64 1000)] false⟩,
⟨some 17, (some (13, false)), [], .not (.t 16)⟩,
⟨some 18, none, [], .pick (.t 13) (.k (.bool true)) (.t 17)⟩])
 (.cond (.t 18)
 (.seq
 (.ops [
⟨some 2, none, [], .move (.k (.int .i64 3))⟩])
 .ret)
 .skip))
 (.seq
 (.ops [
⟨some 2, none, [], .move (.k (.int .i64 0))⟩])
 .ret)))

/-- tidewall/tidewalllaw05.model -/
def F14 : AFunc :=
 .fn 10 [.cell 2 (some 6)]
 (.seq
 (.ops [
⟨some 1, none, [], .box (.t 0)⟩,
⟨some 2, none, [], .alloc [.int .i64 0, .int .i64 0, .int .i64 0, .int .i64 0, .int .i64 0, .int .i64 0]⟩])
 (.seq
 (.ops [
⟨some 3, none, [], .fieldAddr (.t 1) 0⟩,
⟨some 4, none, [], .load (.t 3) (some 2)⟩,
⟨some 5, none, [], .fieldAddr (.t 1) 2⟩,
⟨some 6, none, [], .load (.t 5) (some 2)⟩,
⟨some 7, none, [], .fieldAddr (.t 1) 4⟩,
⟨some 8, none, [], .load (.t 7) (some 2)⟩,
⟨some 9, none, [], .build [.int .i64 0, .int .i64 0, .int .i64 0, .int .i64 0, .int .i64 0, .int .i64 0] [(0, 2, .t 4), (2, 2, .t 6), (4, 2, .t 8)]⟩,
⟨none, none, [], .store (.t 2) (.t 9) 6⟩])
 .ret))

/-- tidewall/tidewallref05.Check -/
def F15 : AFunc :=
 .fn 19 [.tmp 2]
 (.seq
 (.ops [
⟨some 1, none, [], .box (.t 0)⟩,
⟨some 2, none, [], .move (.k (.int .i64 0))⟩])
 (.seq
 (.seq
 (.ops [
⟨some 3, none, [], .fieldAddr (.t 1) 0⟩,
⟨some 4, none, [], .load (.t 3) (some 2)⟩,
⟨some 5, none, [], .call (.k (.func (.func 43) ⟨[]⟩ ⟨[]⟩)) [.t 4, .k (.int .i64 1), .k (.int .i64 1024)] false⟩,
⟨some 6, none, [], .not (.t 5)⟩,
⟨some 7, none, [], .move (.t 6)⟩,
⟨some 8, (some (7, false)), [], .fieldAddr (.t 1) 2⟩,
⟨some 9, (some (7, false)), [], .load (.t 8) (some 2)⟩,
⟨some 10, (some (7, false)), [], .call (.k (.func (.func 43) ⟨[]⟩ ⟨[]⟩)) [.t 9, .k (.int .i64 10), .k (.int .i64 100000)] false⟩,
⟨some 11, (some (7, false)), [], .not (.t 10)⟩,
⟨some 12, none, [], .pick (.t 7) (.k (.bool true)) (.t 11)⟩,
⟨some 13, none, [], .move (.t 12)⟩,
⟨some 14, (some (13, false)), [], .fieldAddr (.t 1) 4⟩,
⟨some 15, (some (13, false)), [], .load (.t 14) (some 2)⟩,
⟨some 16, (some (13, false)), [], .call (.k (.func (.func 43) ⟨[]⟩ ⟨[]⟩)) [.t 15, .k (.int .i64 0), .k (.int .i64 1000)] false⟩,
⟨some 17, (some (13, false)), [], .not (.t 16)⟩,
⟨some 18, none, [], .pick (.t 13) (.k (.bool true)) (.t 17)⟩])
 (.cond (.t 18)
 (.seq
 (.ops [
⟨some 2, none, [], .move (.k (.int .i64 3))⟩])
 .ret)
 .skip))
 (.seq
 (.ops [
⟨some 2, none, [], .move (.k (.int .i64 0))⟩])
 .ret)))

/-- tidewall/wave.One -/
def F16 : AFunc :=
 .fn 32 [.tmp 8, .tmp 9]
 (.seq
 (.ops [
⟨some 4, none, [], .box (.t 0)⟩,
⟨some 5, none, [], .box (.t 1)⟩,
⟨some 6, none, [], .box (.t 2)⟩,
⟨some 7, none, [], .box (.t 3)⟩,
⟨some 8, none, [], .move (.k (.slice none 0 0))⟩,
⟨some 9, none, [], .move (.k (.int .i64 0))⟩])
 (.seq
 (.seq
 (.ops [
⟨some 12, none, [], .load (.t 4) (some 4)⟩,
⟨some 13, none, [], .load (.t 5) (some 2)⟩,
⟨some 14, none, [], .load (.t 6) (some 6)⟩,
⟨some 15, none, [], .call (.k (.func (.func 44) ⟨[]⟩ ⟨[]⟩)) [.t 12, .t 13, .t 14] false⟩,
⟨some 10, none, [], .move (.t 15)⟩])
 (.seq
 (.ops [
⟨some 16, none, [], .move (.t 10)⟩,
⟨some 17, none, [], .bin .neq (.t 16) (.k (.int .i64 0))⟩])
 (.cond (.t 17)
 (.seq
 (.ops [
⟨some 18, none, [], .move (.t 10)⟩,
⟨some 8, none, [], .move (.k (.slice none 0 0))⟩,
⟨some 9, none, [], .move (.t 18)⟩])
 .ret)
 .skip)))
 (.seq
 (.seq
 (.ops [
⟨some 19, none, [], .load (.t 4) (some 4)⟩,
⟨some 20, none, [], .load (.t 7) (some 5)⟩,
⟨some 21, none, [], .call (.k (.func (.func 38) ⟨[]⟩ ⟨[]⟩)) [.t 19, .t 20] false⟩,
⟨some 11, none, [], .move (.t 21)⟩])
 (.seq
 (.ops [
⟨some 22, none, [], .move (.t 11)⟩,
⟨some 23, none, [], .bin .neq (.t 22) (.k (.int .i64 0))⟩])
 (.cond (.t 23)
 (.seq
 (.ops [
⟨some 24, none, [], .move (.t 11)⟩,
⟨some 8, none, [], .move (.k (.slice none 0 0))⟩,
⟨some 9, none, [], .move (.t 24)⟩])
 .ret)
 .skip)))
 (.seq
 (.ops [
⟨some 25, none, [], .load (.t 4) (some 4)⟩,
⟨some 26, none, [], .load (.t 5) (some 2)⟩,
⟨some 27, none, [], .load (.t 6) (some 6)⟩,
⟨some 28, none, [], .load (.t 4) (some 4)⟩,
⟨some 29, none, [], .load (.t 7) (some 5)⟩,
⟨some 30, none, [], .call (.k (.func (.func 39) ⟨[]⟩ ⟨[]⟩)) [.t 28, .t 29] true⟩,
⟨some 31, none, [], .call (.k (.func (.func 45) ⟨[]⟩ ⟨[]⟩)) [.t 25, .t 26, .t 27, .t 30] false⟩,
⟨some 8, none, [], .move (.t 31)⟩,
⟨some 9, none, [], .move (.k (.int .i64 0))⟩])
 .ret))))

/-- tidewall/tidewallref05.One -/
def F17 : AFunc :=
 .fn 35 [.tmp 8, .tmp 9]
 (.seq
 (.ops [
⟨some 4, none, [], .box (.t 0)⟩,
⟨some 5, none, [], .box (.t 1)⟩,
⟨some 6, none, [], .box (.t 2)⟩,
⟨some 7, none, [], .box (.t 3)⟩,
⟨some 8, none, [], .move (.k (.slice none 0 0))⟩,
⟨some 9, none, [], .move (.k (.int .i64 0))⟩])
 (.seq
 (.ops [
⟨some 12, none, [], .load (.t 4) (some 4)⟩,
⟨some 13, none, [], .load (.t 5) (some 2)⟩,
⟨some 14, none, [], .load (.t 6) (some 6)⟩,
⟨some 15, none, [], .call (.k (.func (.func 46) ⟨[]⟩ ⟨[]⟩)) [.t 12, .t 13, .t 14] false⟩,
⟨some 10, none, [], .move (.t 15)⟩])
 (.seq
 (.seq
 (.ops [
⟨some 16, none, [], .move (.t 10)⟩,
⟨some 17, none, [], .bin .neq (.t 16) (.k (.int .i64 0))⟩])
 (.cond (.t 17)
 (.seq
 (.ops [
⟨some 18, none, [], .move (.t 10)⟩,
⟨some 8, none, [], .move (.k (.slice none 0 0))⟩,
⟨some 9, none, [], .move (.t 18)⟩])
 .ret)
 .skip))
 (.seq
 (.ops [
⟨some 20, none, [], .load (.t 4) (some 4)⟩,
⟨some 21, none, [], .load (.t 7) (some 5)⟩,
⟨some 22, none, [], .call (.k (.func (.func 12) ⟨[]⟩ ⟨[]⟩)) [.t 20, .t 21] false⟩,
⟨some 19, none, [], .move (.t 22)⟩,
⟨some 23, none, [], .extract (.t 19) 0⟩,
⟨some 24, none, [], .extract (.t 19) 1⟩,
⟨some 11, none, [], .move (.t 23)⟩,
⟨some 10, none, [], .move (.t 24)⟩])
 (.seq
 (.seq
 (.ops [
⟨some 25, none, [], .move (.t 10)⟩,
⟨some 26, none, [], .bin .neq (.t 25) (.k (.int .i64 0))⟩])
 (.cond (.t 26)
 (.seq
 (.ops [
⟨some 27, none, [], .move (.t 10)⟩,
⟨some 8, none, [], .move (.k (.slice none 0 0))⟩,
⟨some 9, none, [], .move (.t 27)⟩])
 .ret)
 .skip))
 (.seq
 (.ops [
⟨some 28, none, [], .load (.t 4) (some 4)⟩,
⟨some 29, none, [], .load (.t 5) (some 2)⟩,
⟨some 30, none, [], .load (.t 6) (some 6)⟩,
⟨some 31, none, [], .move (.t 11)⟩,
⟨some 32, none, [], .call (.k (.func (.func 28) ⟨[]⟩ ⟨[]⟩)) [.t 28, .t 29, .t 30, .t 31] false⟩,
⟨some 33, none, [], .extract (.t 32) 0⟩,
⟨some 34, none, [], .extract (.t 32) 1⟩,
⟨some 8, none, [], .move (.t 33)⟩,
⟨some 9, none, [], .move (.t 34)⟩])
 .ret))))))

/-- tidewall/tidewalllaw05.same -/
def F18 : AFunc :=
 .fn 67 [.tmp 4]
 (.seq
 (.ops [
⟨some 4, none, [], .move (.k (.bool false))⟩])
 (.seq
 (.seq
 (.ops [
⟨some 6, none, [], .move (.t 0)⟩,
⟨some 7, none, [], .len (.t 6)⟩,
⟨some 8, none, [], .move (.t 1)⟩,
⟨some 9, none, [], .len (.t 8)⟩,
⟨some 10, none, [], .bin .neq (.t 7) (.t 9)⟩])
 (.cond (.t 10)
 (.seq
 (.ops [
⟨some 4, none, [], .move (.k (.bool false))⟩])
 .ret)
 .skip))
 (.seq
 (.seq
 (.ops [
⟨some 5, none, [], .move (.k (.int .i64 0))⟩])
 (.block 0
 (.loop
 (.seq
 (.seq
 (.ops [
⟨some 11, none, [], .move (.t 5)⟩,
⟨some 12, none, [], .move (.t 0)⟩,
⟨some 13, none, [], .len (.t 12)⟩,
⟨some 14, none, [], .bin .lss (.t 11) (.t 13)⟩])
 (.cond (.t 14)
 .skip
 (.exit 0)))
 (.seq
 (.block 1
 (.seq
 (.ops [
⟨some 17, none, [], .move (.t 0)⟩,
⟨some 18, none, [], .move (.t 5)⟩,
⟨some 19, none, [], .idxS (.t 17) (.t 18) 8⟩,
⟨some 20, none, [], .fieldAddr (.t 19) 0⟩,
⟨some 21, none, [], .load (.t 20) (some 2)⟩,
⟨some 22, none, [], .move (.t 1)⟩,
⟨some 23, none, [], .move (.t 5)⟩,
⟨some 24, none, [], .idxS (.t 22) (.t 23) 8⟩,
⟨some 25, none, [], .fieldAddr (.t 24) 0⟩,
⟨some 26, none, [], .load (.t 25) (some 2)⟩,
⟨some 27, none, [], .eqv true [false, false] (.t 21) (.t 26)⟩,
⟨some 28, none, [], .move (.t 27)⟩,
⟨some 29, (some (28, false)), [], .move (.t 0)⟩,
⟨some 30, (some (28, false)), [], .move (.t 5)⟩,
⟨some 31, (some (28, false)), [], .idxS (.t 29) (.t 30) 8⟩,
⟨some 32, (some (28, false)), [], .fieldAddr (.t 31) 2⟩,
⟨some 33, (some (28, false)), [], .load (.t 32) (some 2)⟩,
⟨some 34, (some (28, false)), [], .move (.t 1)⟩,
⟨some 35, (some (28, false)), [], .move (.t 5)⟩,
⟨some 36, (some (28, false)), [], .idxS (.t 34) (.t 35) 8⟩,
⟨some 37, (some (28, false)), [], .fieldAddr (.t 36) 2⟩,
⟨some 38, (some (28, false)), [], .load (.t 37) (some 2)⟩,
⟨some 39, (some (28, false)), [], .eqv true [false, false] (.t 33) (.t 38)⟩,
⟨some 40, none, [], .pick (.t 28) (.k (.bool true)) (.t 39)⟩,
⟨some 41, none, [], .move (.t 40)⟩,
⟨some 42, (some (41, false)), [], .move (.t 0)⟩,
⟨some 43, (some (41, false)), [], .move (.t 5)⟩,
⟨some 44, (some (41, false)), [], .idxS (.t 42) (.t 43) 8⟩,
⟨some 45, (some (41, false)), [], .fieldAddr (.t 44) 4⟩,
⟨some 46, (some (41, false)), [], .load (.t 45) (some 2)⟩,
⟨some 47, (some (41, false)), [], .move (.t 1)⟩,
⟨some 48, (some (41, false)), [], .move (.t 5)⟩,
⟨some 49, (some (41, false)), [], .idxS (.t 47) (.t 48) 8⟩,
⟨some 50, (some (41, false)), [], .fieldAddr (.t 49) 4⟩,
⟨some 51, (some (41, false)), [], .load (.t 50) (some 2)⟩,
⟨some 52, (some (41, false)), [], .eqv true [false, false] (.t 46) (.t 51)⟩,
⟨some 53, none, [], .pick (.t 41) (.k (.bool true)) (.t 52)⟩,
⟨some 54, none, [], .move (.t 53)⟩,
⟨some 55, (some (54, false)), [], .move (.t 0)⟩,
⟨some 56, (some (54, false)), [], .move (.t 5)⟩,
⟨some 57, (some (54, false)), [], .idxS (.t 55) (.t 56) 8⟩,
⟨some 58, (some (54, false)), [], .fieldAddr (.t 57) 6⟩,
⟨some 59, (some (54, false)), [], .load (.t 58) (some 2)⟩,
⟨some 60, (some (54, false)), [], .move (.t 1)⟩,
⟨some 61, (some (54, false)), [], .move (.t 5)⟩,
⟨some 62, (some (54, false)), [], .idxS (.t 60) (.t 61) 8⟩,
⟨some 63, (some (54, false)), [], .fieldAddr (.t 62) 6⟩,
⟨some 64, (some (54, false)), [], .load (.t 63) (some 2)⟩,
⟨some 65, (some (54, false)), [], .eqv true [false, false] (.t 59) (.t 64)⟩,
⟨some 66, none, [], .pick (.t 54) (.k (.bool true)) (.t 65)⟩])
 (.cond (.t 66)
 (.seq
 (.ops [
⟨some 4, none, [], .move (.k (.bool false))⟩])
 .ret)
 .skip)))
 (.ops [
⟨some 15, none, [], .move (.t 5)⟩,
⟨some 16, none, [], .bin .add (.t 15) (.k (.int .i64 1))⟩,
⟨some 5, none, [], .move (.t 16)⟩]))))))
 (.seq
 (.ops [
⟨some 4, none, [], .move (.k (.bool true))⟩])
 .ret))))

/-- tidewall/wave.Wave -/
def F19 : AFunc :=
 .fn 125 [.tmp 8, .tmp 9]
 (.seq
 (.ops [
⟨some 4, none, [], .box (.t 0)⟩,
⟨some 5, none, [], .box (.t 1)⟩,
⟨some 6, none, [], .box (.t 2)⟩,
⟨some 8, none, [], .move (.k (.slice none 0 0))⟩,
⟨some 9, none, [], .move (.k (.int .i64 0))⟩])
 (.seq
 (.seq
 (.ops [
⟨some 20, none, [], .load (.t 4) (some 4)⟩,
⟨some 21, none, [], .load (.t 5) (some 2)⟩,
⟨some 22, none, [], .load (.t 6) (some 6)⟩,
⟨some 23, none, [], .call (.k (.func (.func 44) ⟨[]⟩ ⟨[]⟩)) [.t 20, .t 21, .t 22] false⟩,
⟨some 10, none, [], .move (.t 23)⟩])
 (.seq
 (.ops [
⟨some 24, none, [], .move (.t 10)⟩,
⟨some 25, none, [], .bin .neq (.t 24) (.k (.int .i64 0))⟩])
 (.cond (.t 25)
 (.seq
 (.ops [
⟨some 26, none, [], .move (.t 10)⟩,
⟨some 8, none, [], .move (.k (.slice none 0 0))⟩,
⟨some 9, none, [], .move (.t 26)⟩])
 .ret)
 .skip)))
 (.seq
 (.seq
 (.ops [
⟨some 27, none, [], .move (.t 3)⟩,
⟨some 28, none, [], .len (.t 27)⟩,
⟨some 29, none, [], .bin .gtr (.t 28) (.k (.int .i64 256))⟩])
 (.cond (.t 29)
 (.seq
 (.ops [
⟨some 8, none, [], .move (.k (.slice none 0 0))⟩,
⟨some 9, none, [], .move (.k (.int .i64 9))⟩])
 .ret)
 .skip))
 (.seq
 (.seq
 (.ops [
⟨some 30, none, [], .move (.t 3)⟩,
⟨some 31, none, [], .len (.t 30)⟩,
⟨some 32, none, [], .move (.k (.int .i64 0))⟩])
 (.block 0
 (.loop
 (.seq
 (.ops [
⟨some 33, none, [], .bin .lss (.t 32) (.t 31)⟩])
 (.seq
 (.cond (.t 33)
 .skip
 (.exit 0))
 (.seq
 (.block 1
 (.seq
 (.ops [
⟨some 34, none, [], .idxS (.t 30) (.t 32) 5⟩,
⟨some 35, none, [], .load (.t 34) (some 5)⟩,
⟨some 12, none, [], .alloc [.int .i64 0, .int .i64 0, .int .i64 0, .int .i64 0, .int .i64 0]⟩,
⟨none, none, [], .store (.t 12) (.t 35) 5⟩])
 (.seq
 (.ops [
⟨some 36, none, [], .load (.t 4) (some 4)⟩,
⟨some 37, none, [], .load (.t 12) (some 5)⟩,
⟨some 38, none, [], .call (.k (.func (.func 38) ⟨[]⟩ ⟨[]⟩)) [.t 36, .t 37] false⟩,
⟨some 13, none, [], .move (.t 38)⟩])
 (.seq
 (.ops [
⟨some 39, none, [], .move (.t 13)⟩,
⟨some 40, none, [], .bin .neq (.t 39) (.k (.int .i64 0))⟩])
 (.cond (.t 40)
 (.seq
 (.ops [
⟨some 41, none, [], .move (.t 13)⟩,
⟨some 8, none, [], .move (.k (.slice none 0 0))⟩,
⟨some 9, none, [], .move (.t 41)⟩])
 .ret)
 .skip)))))
 (.ops [
⟨some 42, none, [], .bin .add (.t 32) (.k (.int .i64 1))⟩,
⟨some 32, none, [], .move (.t 42)⟩])))))))
 (.seq
 (.seq
 (.ops [
⟨some 43, none, [], .move (.t 3)⟩,
⟨some 44, none, [], .len (.t 43)⟩,
⟨some 45, none, [], .bin .eql (.t 44) (.k (.int .i64 0))⟩])
 (.cond (.t 45)
 (.seq
 (.ops [
⟨some 46, none, [], .load (.t 4) (some 4)⟩,
⟨some 47, none, [], .load (.t 5) (some 2)⟩,
⟨some 48, none, [], .load (.t 6) (some 6)⟩,
⟨some 49, none, [], .call (.k (.func (.func 45) ⟨[]⟩ ⟨[]⟩)) [.t 46, .t 47, .t 48, .k (.slice none 0 0)] false⟩,
⟨some 8, none, [], .move (.t 49)⟩,
⟨some 9, none, [], .move (.k (.int .i64 0))⟩])
 .ret)
 .skip))
 (.seq
 (.ops [
⟨some 50, none, [], .load (.t 4) (some 4)⟩,
⟨some 51, none, [], .load (.t 5) (some 2)⟩,
⟨some 52, none, [], .load (.t 6) (some 6)⟩,
⟨some 53, none, [], .load (.t 4) (some 4)⟩,
⟨some 54, none, [], .move (.t 3)⟩,
⟨some 55, none, [], .idxS (.t 54) (.k (.int .i64 0)) 5⟩,
⟨some 56, none, [], .load (.t 55) (some 5)⟩,
⟨some 57, none, [], .call (.k (.func (.func 39) ⟨[]⟩ ⟨[]⟩)) [.t 53, .t 56] true⟩,
⟨some 58, none, [], .call (.k (.func (.func 45) ⟨[]⟩ ⟨[]⟩)) [.t 50, .t 51, .t 52, .t 57] false⟩,
⟨some 14, none, [], .move (.t 58)⟩])
 (.seq
 (.seq
 (.ops [
⟨some 59, none, [], .move (.t 3)⟩,
⟨some 60, none, [], .reslice (.t 59) (some (.k (.int .i64 1))) none 5⟩,
⟨some 61, none, [], .len (.t 60)⟩,
⟨some 62, none, [], .move (.k (.int .i64 0))⟩])
 (.block 2
 (.loop
 (.seq
 (.ops [
⟨some 63, none, [], .bin .lss (.t 62) (.t 61)⟩])
 (.seq
 (.cond (.t 63)
 .skip
 (.exit 2))
 (.seq
 (.block 3
 (.seq
 (.ops [
⟨some 64, none, [], .idxS (.t 60) (.t 62) 5⟩,
⟨some 65, none, [], .load (.t 64) (some 5)⟩,
⟨some 16, none, [], .alloc [.int .i64 0, .int .i64 0, .int .i64 0, .int .i64 0, .int .i64 0]⟩,
⟨none, none, [], .store (.t 16) (.t 65) 5⟩])
 (.seq
 (.ops [
⟨some 66, none, [], .load (.t 4) (some 4)⟩,
⟨some 67, none, [], .load (.t 5) (some 2)⟩,
⟨some 68, none, [], .load (.t 6) (some 6)⟩,
⟨some 69, none, [], .load (.t 4) (some 4)⟩,
⟨some 70, none, [], .load (.t 16) (some 5)⟩,
⟨some 71, none, [], .call (.k (.func (.func 39) ⟨[]⟩ ⟨[]⟩)) [.t 69, .t 70] true⟩,
⟨some 72, none, [], .call (.k (.func (.func 45) ⟨[]⟩ ⟨[]⟩)) [.t 66, .t 67, .t 68, .t 71] false⟩,
⟨some 73, none, [], .len (.t 72)⟩,
⟨some 74, none, [], .move (.k (.int .i64 0))⟩])
 (.block 4
 (.loop
 (.seq
 (.ops [
⟨some 75, none, [], .bin .lss (.t 74) (.t 73)⟩])
 (.seq
 (.cond (.t 75)
 .skip
 (.exit 4))
 (.seq
 (.block 5
 (.seq
 (.ops [
⟨some 76, none, [], .move (.t 74)⟩,
⟨some 77, none, [], .idxS (.t 72) (.t 74) 8⟩,
⟨some 78, none, [], .load (.t 77) (some 8)⟩,
⟨some 18, none, [], .alloc [.int .i64 0, .int .i64 0, .int .i64 0, .int .i64 0, .int .i64 0, .int .i64 0, .int .i64 0, .int .i64 0]⟩,
⟨some 17, none, [], .move (.t 76)⟩,
⟨none, none, [], .store (.t 18) (.t 78) 8⟩])
 (.seq
 (.ops [
⟨some 79, none, [], .move (.t 14)⟩,
⟨some 80, none, [], .move (.t 17)⟩,
⟨some 81, none, [], .idxS (.t 79) (.t 80) 8⟩,
⟨some 19, none, [], .move (.t 81)⟩])
 (.ops [
⟨some 82, none, [], .move (.t 19)⟩,
⟨some 83, none, [], .move (.t 19)⟩,
⟨some 84, none, [], .move (.t 19)⟩,
⟨some 85, none, [], .move (.t 19)⟩,
⟨some 86, none, [], .move (.t 19)⟩,
⟨some 87, none, [], .nilCheck (.t 86)⟩,
⟨some 88, none, [], .fieldAddr (.t 87) 0⟩,
⟨some 89, none, [], .load (.t 88) (some 2)⟩,
⟨some 90, none, [], .fieldAddr (.t 18) 0⟩,
⟨some 91, none, [], .load (.t 90) (some 2)⟩,
⟨some 92, none, [], .call (.k (.func (.func 47) ⟨[]⟩ ⟨[]⟩)) [.t 89, .t 91] true⟩,
⟨some 93, none, [], .move (.t 19)⟩,
⟨some 94, none, [], .nilCheck (.t 93)⟩,
⟨some 95, none, [], .fieldAddr (.t 94) 2⟩,
⟨some 96, none, [], .load (.t 95) (some 2)⟩,
⟨some 97, none, [], .fieldAddr (.t 18) 2⟩,
⟨some 98, none, [], .load (.t 97) (some 2)⟩,
⟨some 99, none, [], .call (.k (.func (.func 47) ⟨[]⟩ ⟨[]⟩)) [.t 96, .t 98] true⟩,
⟨some 100, none, [], .move (.t 19)⟩,
⟨some 101, none, [], .nilCheck (.t 100)⟩,
⟨some 102, none, [], .fieldAddr (.t 101) 4⟩,
⟨some 103, none, [], .load (.t 102) (some 2)⟩,
⟨some 104, none, [], .fieldAddr (.t 18) 4⟩,
⟨some 105, none, [], .load (.t 104) (some 2)⟩,
⟨some 106, none, [], .call (.k (.func (.func 47) ⟨[]⟩ ⟨[]⟩)) [.t 103, .t 105] true⟩,
⟨some 107, none, [], .move (.t 19)⟩,
⟨some 108, none, [], .nilCheck (.t 107)⟩,
⟨some 109, none, [], .fieldAddr (.t 108) 6⟩,
⟨some 110, none, [], .load (.t 109) (some 2)⟩,
⟨some 111, none, [], .fieldAddr (.t 18) 6⟩,
⟨some 112, none, [], .load (.t 111) (some 2)⟩,
⟨some 113, none, [], .call (.k (.func (.func 47) ⟨[]⟩ ⟨[]⟩)) [.t 110, .t 112] false⟩,
⟨some 114, none, [], .nilCheck (.t 82)⟩,
⟨some 115, none, [], .fieldAddr (.t 114) 0⟩,
⟨none, none, [], .store (.t 115) (.t 92) 2⟩,
⟨some 116, none, [], .nilCheck (.t 83)⟩,
⟨some 117, none, [], .fieldAddr (.t 116) 2⟩,
⟨none, none, [], .store (.t 117) (.t 99) 2⟩,
⟨some 118, none, [], .nilCheck (.t 84)⟩,
⟨some 119, none, [], .fieldAddr (.t 118) 4⟩,
⟨none, none, [], .store (.t 119) (.t 106) 2⟩,
⟨some 120, none, [], .nilCheck (.t 85)⟩,
⟨some 121, none, [], .fieldAddr (.t 120) 6⟩,
⟨none, none, [], .store (.t 121) (.t 113) 2⟩]))))
 (.ops [
⟨some 122, none, [], .bin .add (.t 74) (.k (.int .i64 1))⟩,
⟨some 74, none, [], .move (.t 122)⟩])))))))))
 (.ops [
⟨some 123, none, [], .bin .add (.t 62) (.k (.int .i64 1))⟩,
⟨some 62, none, [], .move (.t 123)⟩])))))))
 (.seq
 (.ops [
⟨some 124, none, [], .move (.t 14)⟩,
⟨some 8, none, [], .move (.t 124)⟩,
⟨some 9, none, [], .move (.k (.int .i64 0))⟩])
 .ret))))))))

/-- tidewall/tidewallref05.Wave -/
def F20 : AFunc :=
 .fn 134 [.tmp 8, .tmp 9]
 (.seq
 (.ops [
⟨some 4, none, [], .box (.t 0)⟩,
⟨some 5, none, [], .box (.t 1)⟩,
⟨some 6, none, [], .box (.t 2)⟩,
⟨some 8, none, [], .move (.k (.slice none 0 0))⟩,
⟨some 9, none, [], .move (.k (.int .i64 0))⟩])
 (.seq
 (.ops [
⟨some 18, none, [], .load (.t 4) (some 4)⟩,
⟨some 19, none, [], .load (.t 5) (some 2)⟩,
⟨some 20, none, [], .load (.t 6) (some 6)⟩,
⟨some 21, none, [], .call (.k (.func (.func 46) ⟨[]⟩ ⟨[]⟩)) [.t 18, .t 19, .t 20] false⟩,
⟨some 10, none, [], .move (.t 21)⟩])
 (.seq
 (.seq
 (.ops [
⟨some 22, none, [], .move (.t 10)⟩,
⟨some 23, none, [], .bin .neq (.t 22) (.k (.int .i64 0))⟩])
 (.cond (.t 23)
 (.seq
 (.ops [
⟨some 24, none, [], .move (.t 10)⟩,
⟨some 8, none, [], .move (.k (.slice none 0 0))⟩,
⟨some 9, none, [], .move (.t 24)⟩])
 .ret)
 .skip))
 (.seq
 (.seq
 (.ops [
⟨some 25, none, [], .move (.t 3)⟩,
⟨some 26, none, [], .len (.t 25)⟩,
⟨some 27, none, [], .bin .gtr (.t 26) (.k (.int .i64 256))⟩])
 (.cond (.t 27)
 (.seq
 (.ops [
⟨some 8, none, [], .move (.k (.slice none 0 0))⟩,
⟨some 9, none, [], .move (.k (.int .i64 9))⟩])
 .ret)
 .skip))
 (.seq
 (.seq
 (.ops [
⟨some 11, none, [], .move (.k (.int .i64 0))⟩])
 (.block 0
 (.loop
 (.seq
 (.seq
 (.ops [
⟨some 28, none, [], .move (.t 11)⟩,
⟨some 29, none, [], .move (.t 3)⟩,
⟨some 30, none, [], .len (.t 29)⟩,
⟨some 31, none, [], .bin .lss (.t 28) (.t 30)⟩])
 (.cond (.t 31)
 .skip
 (.exit 0)))
 (.seq
 (.block 1
 (.seq
 (.ops [
⟨some 34, none, [], .load (.t 4) (some 4)⟩,
⟨some 35, none, [], .move (.t 3)⟩,
⟨some 36, none, [], .move (.t 11)⟩,
⟨some 37, none, [], .idxS (.t 35) (.t 36) 5⟩,
⟨some 38, none, [], .load (.t 37) (some 5)⟩,
⟨some 39, none, [], .call (.k (.func (.func 41) ⟨[]⟩ ⟨[]⟩)) [.t 34, .t 38] false⟩,
⟨some 10, none, [], .move (.t 39)⟩])
 (.seq
 (.ops [
⟨some 40, none, [], .move (.t 10)⟩,
⟨some 41, none, [], .bin .neq (.t 40) (.k (.int .i64 0))⟩])
 (.cond (.t 41)
 (.seq
 (.ops [
⟨some 42, none, [], .move (.t 10)⟩,
⟨some 8, none, [], .move (.k (.slice none 0 0))⟩,
⟨some 9, none, [], .move (.t 42)⟩])
 .ret)
 .skip))))
 (.ops [
⟨some 32, none, [], .move (.t 11)⟩,
⟨some 33, none, [], .bin .add (.t 32) (.k (.int .i64 1))⟩,
⟨some 11, none, [], .move (.t 33)⟩]))))))
 (.seq
 (.seq
 (.ops [
⟨some 43, none, [], .move (.t 3)⟩,
⟨some 44, none, [], .len (.t 43)⟩,
⟨some 45, none, [], .bin .eql (.t 44) (.k (.int .i64 0))⟩])
 (.cond (.t 45)
 (.seq
 (.ops [
⟨some 46, none, [], .load (.t 4) (some 4)⟩,
⟨some 47, none, [], .load (.t 5) (some 2)⟩,
⟨some 48, none, [], .load (.t 6) (some 6)⟩,
⟨some 49, none, [], .call (.k (.func (.func 28) ⟨[]⟩ ⟨[]⟩)) [.t 46, .t 47, .t 48, .k (.slice none 0 0)] false⟩,
⟨some 50, none, [], .extract (.t 49) 0⟩,
⟨some 51, none, [], .extract (.t 49) 1⟩,
⟨some 8, none, [], .move (.t 50)⟩,
⟨some 9, none, [], .move (.t 51)⟩])
 .ret)
 .skip))
 (.seq
 (.ops [
⟨some 53, none, [], .load (.t 4) (some 4)⟩,
⟨some 54, none, [], .load (.t 5) (some 2)⟩,
⟨some 55, none, [], .load (.t 6) (some 6)⟩,
⟨some 56, none, [], .move (.t 3)⟩,
⟨some 57, none, [], .idxS (.t 56) (.k (.int .i64 0)) 5⟩,
⟨some 58, none, [], .load (.t 57) (some 5)⟩,
⟨some 59, none, [], .call (.k (.func (.func 17) ⟨[]⟩ ⟨[]⟩)) [.t 53, .t 54, .t 55, .t 58] false⟩,
⟨some 52, none, [], .move (.t 59)⟩,
⟨some 60, none, [], .extract (.t 52) 0⟩,
⟨some 61, none, [], .extract (.t 52) 1⟩,
⟨some 12, none, [], .move (.t 60)⟩,
⟨some 13, none, [], .move (.t 61)⟩])
 (.seq
 (.seq
 (.ops [
⟨some 14, none, [], .move (.k (.int .i64 1))⟩])
 (.block 2
 (.loop
 (.seq
 (.seq
 (.ops [
⟨some 62, none, [], .move (.t 14)⟩,
⟨some 63, none, [], .move (.t 3)⟩,
⟨some 64, none, [], .len (.t 63)⟩,
⟨some 65, none, [], .bin .lss (.t 62) (.t 64)⟩])
 (.cond (.t 65)
 .skip
 (.exit 2)))
 (.seq
 (.block 3
 (.seq
 (.ops [
⟨some 69, none, [], .load (.t 4) (some 4)⟩,
⟨some 70, none, [], .load (.t 5) (some 2)⟩,
⟨some 71, none, [], .load (.t 6) (some 6)⟩,
⟨some 72, none, [], .move (.t 3)⟩,
⟨some 73, none, [], .move (.t 14)⟩,
⟨some 74, none, [], .idxS (.t 72) (.t 73) 5⟩,
⟨some 75, none, [], .load (.t 74) (some 5)⟩,
⟨some 76, none, [], .call (.k (.func (.func 17) ⟨[]⟩ ⟨[]⟩)) [.t 69, .t 70, .t 71, .t 75] false⟩,
⟨some 68, none, [], .move (.t 76)⟩,
⟨some 77, none, [], .extract (.t 68) 0⟩,
⟨some 78, none, [], .extract (.t 68) 1⟩,
⟨some 15, none, [], .move (.t 77)⟩,
⟨some 16, none, [], .move (.t 78)⟩])
 (.seq
 (.ops [
⟨some 17, none, [], .move (.k (.int .i64 0))⟩])
 (.block 4
 (.loop
 (.seq
 (.seq
 (.ops [
⟨some 79, none, [], .move (.t 17)⟩,
⟨some 80, none, [], .move (.t 12)⟩,
⟨some 81, none, [], .len (.t 80)⟩,
⟨some 82, none, [], .bin .lss (.t 79) (.t 81)⟩])
 (.cond (.t 82)
 .skip
 (.exit 4)))
 (.seq
 (.block 5
 (.ops [
⟨some 85, none, [], .move (.t 12)⟩,
⟨some 86, none, [], .move (.t 17)⟩,
⟨some 87, none, [], .move (.t 12)⟩,
⟨some 88, none, [], .move (.t 17)⟩,
⟨some 89, none, [], .idxS (.t 87) (.t 88) 8⟩,
⟨some 90, none, [], .fieldAddr (.t 89) 0⟩,
⟨some 91, none, [], .load (.t 90) (some 2)⟩,
⟨some 92, none, [], .move (.t 15)⟩,
⟨some 93, none, [], .move (.t 17)⟩,
⟨some 94, none, [], .idxS (.t 92) (.t 93) 8⟩,
⟨some 95, none, [], .fieldAddr (.t 94) 0⟩,
⟨some 96, none, [], .load (.t 95) (some 2)⟩,
⟨some 97, none, [], .call (.k (.func (.func 48) ⟨[]⟩ ⟨[]⟩)) [.t 91, .t 96] true⟩,
⟨some 98, none, [], .move (.t 12)⟩,
⟨some 99, none, [], .move (.t 17)⟩,
⟨some 100, none, [], .idxS (.t 98) (.t 99) 8⟩,
⟨some 101, none, [], .fieldAddr (.t 100) 2⟩,
⟨some 102, none, [], .load (.t 101) (some 2)⟩,
⟨some 103, none, [], .move (.t 15)⟩,
⟨some 104, none, [], .move (.t 17)⟩,
⟨some 105, none, [], .idxS (.t 103) (.t 104) 8⟩,
⟨some 106, none, [], .fieldAddr (.t 105) 2⟩,
⟨some 107, none, [], .load (.t 106) (some 2)⟩,
⟨some 108, none, [], .call (.k (.func (.func 48) ⟨[]⟩ ⟨[]⟩)) [.t 102, .t 107] true⟩,
⟨some 109, none, [], .move (.t 12)⟩,
⟨some 110, none, [], .move (.t 17)⟩,
⟨some 111, none, [], .idxS (.t 109) (.t 110) 8⟩,
⟨some 112, none, [], .fieldAddr (.t 111) 4⟩,
⟨some 113, none, [], .load (.t 112) (some 2)⟩,
⟨some 114, none, [], .move (.t 15)⟩,
⟨some 115, none, [], .move (.t 17)⟩,
⟨some 116, none, [], .idxS (.t 114) (.t 115) 8⟩,
⟨some 117, none, [], .fieldAddr (.t 116) 4⟩,
⟨some 118, none, [], .load (.t 117) (some 2)⟩,
⟨some 119, none, [], .call (.k (.func (.func 48) ⟨[]⟩ ⟨[]⟩)) [.t 113, .t 118] true⟩,
⟨some 120, none, [], .move (.t 12)⟩,
⟨some 121, none, [], .move (.t 17)⟩,
⟨some 122, none, [], .idxS (.t 120) (.t 121) 8⟩,
⟨some 123, none, [], .fieldAddr (.t 122) 6⟩,
⟨some 124, none, [], .load (.t 123) (some 2)⟩,
⟨some 125, none, [], .move (.t 15)⟩,
⟨some 126, none, [], .move (.t 17)⟩,
⟨some 127, none, [], .idxS (.t 125) (.t 126) 8⟩,
⟨some 128, none, [], .fieldAddr (.t 127) 6⟩,
⟨some 129, none, [], .load (.t 128) (some 2)⟩,
⟨some 130, none, [], .call (.k (.func (.func 48) ⟨[]⟩ ⟨[]⟩)) [.t 124, .t 129] false⟩,
⟨some 131, none, [], .build [.int .i64 0, .int .i64 0, .int .i64 0, .int .i64 0, .int .i64 0, .int .i64 0, .int .i64 0, .int .i64 0] [(0, 2, .t 97), (2, 2, .t 108), (4, 2, .t 119), (6, 2, .t 130)]⟩,
⟨some 132, none, [], .idxS (.t 85) (.t 86) 8⟩,
⟨none, none, [], .store (.t 132) (.t 131) 8⟩]))
 (.ops [
⟨some 83, none, [], .move (.t 17)⟩,
⟨some 84, none, [], .bin .add (.t 83) (.k (.int .i64 1))⟩,
⟨some 17, none, [], .move (.t 84)⟩]))))))))
 (.ops [
⟨some 66, none, [], .move (.t 14)⟩,
⟨some 67, none, [], .bin .add (.t 66) (.k (.int .i64 1))⟩,
⟨some 14, none, [], .move (.t 67)⟩]))))))
 (.seq
 (.ops [
⟨some 133, none, [], .move (.t 12)⟩,
⟨some 8, none, [], .move (.t 133)⟩,
⟨some 9, none, [], .move (.k (.int .i64 0))⟩])
 .ret)))))))))

/-- tidewall/wave.Dry -/
def F21 : AFunc :=
 .fn 55 [.tmp 6, .tmp 7]
 (.seq
 (.ops [
⟨some 3, none, [], .box (.t 0)⟩,
⟨some 4, none, [], .box (.t 1)⟩,
⟨some 6, none, [], .move (.k (.slice none 0 0))⟩,
⟨some 7, none, [], .move (.k (.int .i64 0))⟩])
 (.seq
 (.seq
 (.ops [
⟨some 12, none, [], .load (.t 3) (some 4)⟩,
⟨some 13, none, [], .call (.k (.func (.func 37) ⟨[]⟩ ⟨[]⟩)) [.t 12] false⟩,
⟨some 8, none, [], .move (.t 13)⟩])
 (.seq
 (.ops [
⟨some 14, none, [], .move (.t 8)⟩,
⟨some 15, none, [], .bin .neq (.t 14) (.k (.int .i64 0))⟩])
 (.cond (.t 15)
 (.seq
 (.ops [
⟨some 16, none, [], .move (.t 8)⟩,
⟨some 6, none, [], .move (.k (.slice none 0 0))⟩,
⟨some 7, none, [], .move (.t 16)⟩])
 .ret)
 .skip)))
 (.seq
 (.block 0
 (.seq
 (.ops [
⟨some 18, none, [], .load (.t 4) (some 2)⟩,
⟨some 19, none, [], .call (.k (.func (.func 42) ⟨[]⟩ ⟨[]⟩)) [.t 18, .k (.int .i64 (-20000)), .k (.int .i64 20000)] false⟩,
⟨some 20, none, [], .not (.t 19)⟩,
⟨some 17, none, [], .move (.t 20)⟩])
 (.cond (.t 17)
 (.seq
 (.ops [
⟨some 6, none, [], .move (.k (.slice none 0 0))⟩,
⟨some 7, none, [], .move (.k (.int .i64 3))⟩])
 .ret)
 (.seq
 (.ops [
⟨some 22, none, [], .move (.t 2)⟩,
⟨some 23, none, [], .len (.t 22)⟩,
⟨some 24, none, [], .fieldAddr (.t 3) 3⟩,
⟨some 25, none, [], .load (.t 24) none⟩,
⟨some 26, none, [], .len (.t 25)⟩,
⟨some 27, none, [], .bin .neq (.t 23) (.t 26)⟩,
⟨some 21, none, [], .move (.t 27)⟩])
 (.cond (.t 21)
 (.seq
 (.ops [
⟨some 6, none, [], .move (.k (.slice none 0 0))⟩,
⟨some 7, none, [], .move (.k (.int .i64 11))⟩])
 .ret)
 .skip)))))
 (.seq
 (.ops [
⟨some 9, none, [], .move (.k (.slice none 0 0))⟩])
 (.seq
 (.seq
 (.ops [
⟨some 28, none, [], .move (.t 2)⟩,
⟨some 29, none, [], .len (.t 28)⟩,
⟨some 30, none, [], .move (.k (.int .i64 0))⟩])
 (.block 1
 (.loop
 (.seq
 (.ops [
⟨some 31, none, [], .bin .lss (.t 30) (.t 29)⟩])
 (.seq
 (.cond (.t 31)
 .skip
 (.exit 1))
 (.seq
 (.block 2
 (.seq
 (.ops [
⟨some 32, none, [], .move (.t 30)⟩,
⟨some 33, none, [], .idxS (.t 28) (.t 30) 8⟩,
⟨some 34, none, [], .load (.t 33) (some 8)⟩,
⟨some 11, none, [], .alloc [.int .i64 0, .int .i64 0, .int .i64 0, .int .i64 0, .int .i64 0, .int .i64 0, .int .i64 0, .int .i64 0]⟩,
⟨some 10, none, [], .move (.t 32)⟩,
⟨none, none, [], .store (.t 11) (.t 34) 8⟩])
 (.ops [
⟨some 35, none, [], .move (.t 9)⟩,
⟨some 36, none, [], .fieldAddr (.t 4) 1⟩,
⟨some 37, none, [], .load (.t 36) none⟩,
⟨some 38, none, [], .fieldAddr (.t 3) 3⟩,
⟨some 39, none, [], .load (.t 38) none⟩,
⟨some 40, none, [], .move (.t 10)⟩,
⟨some 41, none, [], .idxS (.t 39) (.t 40) 2⟩,
⟨some 42, none, [], .fieldAddr (.t 41) 0⟩,
⟨some 43, none, [], .load (.t 42) none⟩,
⟨some 44, none, [], .bin .leq (.t 37) (.t 43)⟩,
⟨some 45, none, [], .move (.t 44)⟩,
⟨some 46, (some (45, true)), [], .fieldAddr (.t 11) 2⟩,
⟨some 47, (some (45, true)), [], .fieldAddr (.t 46) 1⟩,
⟨some 48, (some (45, true)), [], .load (.t 47) none⟩,
⟨some 49, (some (45, true)), [], .bin .leq (.t 48) (.k (.int .i64 0))⟩,
⟨some 50, none, [], .pick (.t 45) (.t 49) (.k (.bool false))⟩,
⟨some 51, none, [], .slit 1 1 [.bool false] [(0, .t 50)]⟩,
⟨some 52, none, [], .append (.t 35) (.t 51) 1 1⟩,
⟨some 9, none, [], .move (.t 52)⟩])))
 (.ops [
⟨some 53, none, [], .bin .add (.t 30) (.k (.int .i64 1))⟩,
⟨some 30, none, [], .move (.t 53)⟩])))))))
 (.seq
 (.ops [
⟨some 54, none, [], .move (.t 9)⟩,
⟨some 6, none, [], .move (.t 54)⟩,
⟨some 7, none, [], .move (.k (.int .i64 0))⟩])
 .ret))))))

/-- tidewall/tidewallref05.Dry -/
def F22 : AFunc :=
 .fn 54 [.tmp 6, .tmp 7]
 (.seq
 (.ops [
⟨some 3, none, [], .box (.t 0)⟩,
⟨some 4, none, [], .box (.t 1)⟩,
⟨some 6, none, [], .move (.k (.slice none 0 0))⟩,
⟨some 7, none, [], .move (.k (.int .i64 0))⟩])
 (.seq
 (.ops [
⟨some 11, none, [], .load (.t 3) (some 4)⟩,
⟨some 12, none, [], .call (.k (.func (.func 40) ⟨[]⟩ ⟨[]⟩)) [.t 11] false⟩,
⟨some 8, none, [], .move (.t 12)⟩])
 (.seq
 (.seq
 (.ops [
⟨some 13, none, [], .move (.t 8)⟩,
⟨some 14, none, [], .bin .neq (.t 13) (.k (.int .i64 0))⟩])
 (.cond (.t 14)
 (.seq
 (.ops [
⟨some 15, none, [], .move (.t 8)⟩,
⟨some 6, none, [], .move (.k (.slice none 0 0))⟩,
⟨some 7, none, [], .move (.t 15)⟩])
 .ret)
 .skip))
 (.seq
 (.seq
 (.ops [
⟨some 16, none, [], .load (.t 4) (some 2)⟩,
⟨some 17, none, [], .call (.k (.func (.func 43) ⟨[]⟩ ⟨[]⟩)) [.t 16, .k (.int .i64 (-20000)), .k (.int .i64 20000)] false⟩,
⟨some 18, none, [], .not (.t 17)⟩])
 (.cond (.t 18)
 (.seq
 (.ops [
⟨some 6, none, [], .move (.k (.slice none 0 0))⟩,
⟨some 7, none, [], .move (.k (.int .i64 3))⟩])
 .ret)
 .skip))
 (.seq
 (.seq
 (.ops [
⟨some 19, none, [], .move (.t 2)⟩,
⟨some 20, none, [], .len (.t 19)⟩,
⟨some 21, none, [], .fieldAddr (.t 3) 3⟩,
⟨some 22, none, [], .load (.t 21) none⟩,
⟨some 23, none, [], .len (.t 22)⟩,
⟨some 24, none, [], .bin .neq (.t 20) (.t 23)⟩])
 (.cond (.t 24)
 (.seq
 (.ops [
⟨some 6, none, [], .move (.k (.slice none 0 0))⟩,
⟨some 7, none, [], .move (.k (.int .i64 11))⟩])
 .ret)
 .skip))
 (.seq
 (.ops [
⟨some 9, none, [], .move (.k (.slice none 0 0))⟩])
 (.seq
 (.seq
 (.ops [
⟨some 10, none, [], .move (.k (.int .i64 0))⟩])
 (.block 0
 (.loop
 (.seq
 (.seq
 (.ops [
⟨some 25, none, [], .move (.t 10)⟩,
⟨some 26, none, [], .move (.t 2)⟩,
⟨some 27, none, [], .len (.t 26)⟩,
⟨some 28, none, [], .bin .lss (.t 25) (.t 27)⟩])
 (.cond (.t 28)
 .skip
 (.exit 0)))
 (.seq
 (.block 1
 (.ops [
⟨some 31, none, [], .move (.t 9)⟩,
⟨some 32, none, [], .fieldAddr (.t 4) 1⟩,
⟨some 33, none, [], .load (.t 32) none⟩,
⟨some 34, none, [], .fieldAddr (.t 3) 3⟩,
⟨some 35, none, [], .load (.t 34) none⟩,
⟨some 36, none, [], .move (.t 10)⟩,
⟨some 37, none, [], .idxS (.t 35) (.t 36) 2⟩,
⟨some 38, none, [], .fieldAddr (.t 37) 0⟩,
⟨some 39, none, [], .load (.t 38) none⟩,
⟨some 40, none, [], .bin .sub (.t 33) (.t 39)⟩,
⟨some 41, none, [], .bin .leq (.t 40) (.k (.int .i64 0))⟩,
⟨some 42, none, [], .move (.t 41)⟩,
⟨some 43, (some (42, true)), [], .move (.t 2)⟩,
⟨some 44, (some (42, true)), [], .move (.t 10)⟩,
⟨some 45, (some (42, true)), [], .idxS (.t 43) (.t 44) 8⟩,
⟨some 46, (some (42, true)), [], .fieldAddr (.t 45) 2⟩,
⟨some 47, (some (42, true)), [], .fieldAddr (.t 46) 1⟩,
⟨some 48, (some (42, true)), [], .load (.t 47) none⟩,
⟨some 49, (some (42, true)), [], .bin .leq (.t 48) (.k (.int .i64 0))⟩,
⟨some 50, none, [], .pick (.t 42) (.t 49) (.k (.bool false))⟩,
⟨some 51, none, [], .slit 1 1 [.bool false] [(0, .t 50)]⟩,
⟨some 52, none, [], .append (.t 31) (.t 51) 1 1⟩,
⟨some 9, none, [], .move (.t 52)⟩]))
 (.ops [
⟨some 29, none, [], .move (.t 10)⟩,
⟨some 30, none, [], .bin .add (.t 29) (.k (.int .i64 1))⟩,
⟨some 10, none, [], .move (.t 30)⟩]))))))
 (.seq
 (.ops [
⟨some 53, none, [], .move (.t 9)⟩,
⟨some 6, none, [], .move (.t 53)⟩,
⟨some 7, none, [], .move (.k (.int .i64 0))⟩])
 .ret))))))))

/-- tidewall/tidewalllaw05.bools -/
def F23 : AFunc :=
 .fn 26 [.tmp 4]
 (.seq
 (.ops [
⟨some 4, none, [], .move (.k (.bool false))⟩])
 (.seq
 (.seq
 (.ops [
⟨some 6, none, [], .move (.t 0)⟩,
⟨some 7, none, [], .len (.t 6)⟩,
⟨some 8, none, [], .move (.t 1)⟩,
⟨some 9, none, [], .len (.t 8)⟩,
⟨some 10, none, [], .bin .neq (.t 7) (.t 9)⟩])
 (.cond (.t 10)
 (.seq
 (.ops [
⟨some 4, none, [], .move (.k (.bool false))⟩])
 .ret)
 .skip))
 (.seq
 (.seq
 (.ops [
⟨some 5, none, [], .move (.k (.int .i64 0))⟩])
 (.block 0
 (.loop
 (.seq
 (.seq
 (.ops [
⟨some 11, none, [], .move (.t 5)⟩,
⟨some 12, none, [], .move (.t 0)⟩,
⟨some 13, none, [], .len (.t 12)⟩,
⟨some 14, none, [], .bin .lss (.t 11) (.t 13)⟩])
 (.cond (.t 14)
 .skip
 (.exit 0)))
 (.seq
 (.block 1
 (.seq
 (.ops [
⟨some 17, none, [], .move (.t 0)⟩,
⟨some 18, none, [], .move (.t 5)⟩,
⟨some 19, none, [], .idxS (.t 17) (.t 18) 1⟩,
⟨some 20, none, [], .load (.t 19) none⟩,
⟨some 21, none, [], .move (.t 1)⟩,
⟨some 22, none, [], .move (.t 5)⟩,
⟨some 23, none, [], .idxS (.t 21) (.t 22) 1⟩,
⟨some 24, none, [], .load (.t 23) none⟩,
⟨some 25, none, [], .beq true (.t 20) (.t 24)⟩])
 (.cond (.t 25)
 (.seq
 (.ops [
⟨some 4, none, [], .move (.k (.bool false))⟩])
 .ret)
 .skip)))
 (.ops [
⟨some 15, none, [], .move (.t 5)⟩,
⟨some 16, none, [], .bin .add (.t 15) (.k (.int .i64 1))⟩,
⟨some 5, none, [], .move (.t 16)⟩]))))))
 (.seq
 (.ops [
⟨some 4, none, [], .move (.k (.bool true))⟩])
 .ret))))

/-- (tidewall/tidewalllaw05.Coast).grid -/
def F24 : AFunc :=
 .fn 118 [.cell 2 (some 4), .cell 3 (some 2), .cell 4 (some 6)]
 (.seq
 (.ops [
⟨some 1, none, [], .box (.t 0)⟩,
⟨some 2, none, [], .alloc [.int .i64 0, .int .i64 0, .int .i64 0, .slice none 0 0]⟩,
⟨some 3, none, [], .alloc [.int .i64 0, .int .i64 0]⟩,
⟨some 4, none, [], .alloc [.int .i64 0, .int .i64 0, .int .i64 0, .int .i64 0, .int .i64 0, .int .i64 0]⟩])
 (.seq
 (.ops [
⟨some 10, none, [], .fieldAddr (.t 1) 0⟩,
⟨some 11, none, [], .load (.t 10) none⟩,
⟨some 12, none, [], .toInt .i64 (.t 11)⟩,
⟨some 13, none, [], .bin .rem (.t 12) (.k (.int .i64 4))⟩,
⟨some 14, none, [], .bin .add (.k (.int .i64 1)) (.t 13)⟩,
⟨some 15, none, [], .fieldAddr (.t 1) 1⟩,
⟨some 16, none, [], .load (.t 15) none⟩,
⟨some 17, none, [], .toInt .i64 (.t 16)⟩,
⟨some 18, none, [], .bin .rem (.t 17) (.k (.int .i64 4))⟩,
⟨some 19, none, [], .bin .add (.k (.int .i64 1)) (.t 18)⟩,
⟨some 20, none, [], .build [.int .i64 0, .int .i64 0, .int .i64 0, .slice none 0 0] [(0, 1, .t 14), (1, 1, .t 19), (2, 1, .k (.int .i64 500))]⟩,
⟨some 5, none, [], .alloc [.int .i64 0, .int .i64 0, .int .i64 0, .slice none 0 0]⟩,
⟨none, none, [], .store (.t 5) (.t 20) 4⟩])
 (.seq
 (.seq
 (.ops [
⟨some 21, none, [], .fieldAddr (.t 5) 0⟩,
⟨some 22, none, [], .load (.t 21) none⟩,
⟨some 23, none, [], .fieldAddr (.t 5) 1⟩,
⟨some 24, none, [], .load (.t 23) none⟩,
⟨some 25, none, [], .bin .mul (.t 22) (.t 24)⟩,
⟨some 26, none, [], .move (.k (.int .i64 0))⟩])
 (.block 0
 (.loop
 (.seq
 (.ops [
⟨some 27, none, [], .bin .lss (.t 26) (.t 25)⟩])
 (.seq
 (.cond (.t 27)
 .skip
 (.exit 0))
 (.seq
 (.block 1
 (.seq
 (.ops [
⟨some 28, none, [], .move (.t 26)⟩,
⟨some 6, none, [], .move (.t 28)⟩])
 (.seq
 (.ops [
⟨some 29, none, [], .build [.int .i64 0, .int .i64 0] []⟩,
⟨some 7, none, [], .alloc [.int .i64 0, .int .i64 0]⟩,
⟨none, none, [], .store (.t 7) (.t 29) 2⟩])
 (.seq
 (.seq
 (.ops [
⟨some 30, none, [], .fieldAddr (.t 1) 2⟩,
⟨some 31, none, [], .load (.t 30) none⟩,
⟨some 32, none, [], .len (.t 31)⟩,
⟨some 33, none, [], .bin .gtr (.t 32) (.k (.int .i64 0))⟩])
 (.cond (.t 33)
 (.ops [
⟨some 34, none, [], .fieldAddr (.t 1) 2⟩,
⟨some 35, none, [], .load (.t 34) none⟩,
⟨some 36, none, [], .move (.t 6)⟩,
⟨some 37, none, [], .fieldAddr (.t 1) 2⟩,
⟨some 38, none, [], .load (.t 37) none⟩,
⟨some 39, none, [], .len (.t 38)⟩,
⟨some 40, none, [], .bin .rem (.t 36) (.t 39)⟩,
⟨some 41, none, [], .idxS (.t 35) (.t 40) 1⟩,
⟨some 42, none, [], .load (.t 41) none⟩,
⟨some 43, none, [], .toInt .i64 (.t 42)⟩,
⟨some 44, none, [], .fieldAddr (.t 7) 0⟩,
⟨none, none, [], .store (.t 44) (.t 43) 1⟩])
 .skip))
 (.seq
 (.ops [
⟨some 45, none, [], .fieldAddr (.t 7) 0⟩,
⟨some 46, none, [], .load (.t 45) none⟩,
⟨some 47, none, [], .fieldAddr (.t 7) 1⟩,
⟨none, none, [], .store (.t 47) (.t 46) 1⟩])
 (.seq
 (.seq
 (.ops [
⟨some 48, none, [], .fieldAddr (.t 1) 3⟩,
⟨some 49, none, [], .load (.t 48) none⟩,
⟨some 50, none, [], .len (.t 49)⟩,
⟨some 51, none, [], .bin .gtr (.t 50) (.k (.int .i64 0))⟩])
 (.cond (.t 51)
 (.ops [
⟨some 52, none, [], .fieldAddr (.t 7) 1⟩,
⟨some 53, none, [], .load (.t 52) none⟩,
⟨some 54, none, [], .fieldAddr (.t 1) 3⟩,
⟨some 55, none, [], .load (.t 54) none⟩,
⟨some 56, none, [], .move (.t 6)⟩,
⟨some 57, none, [], .fieldAddr (.t 1) 3⟩,
⟨some 58, none, [], .load (.t 57) none⟩,
⟨some 59, none, [], .len (.t 58)⟩,
⟨some 60, none, [], .bin .rem (.t 56) (.t 59)⟩,
⟨some 61, none, [], .idxS (.t 55) (.t 60) 1⟩,
⟨some 62, none, [], .load (.t 61) none⟩,
⟨some 63, none, [], .toInt .i64 (.t 62)⟩,
⟨some 64, none, [], .bin .add (.t 53) (.t 63)⟩,
⟨some 65, none, [], .fieldAddr (.t 7) 1⟩,
⟨none, none, [], .store (.t 65) (.t 64) 1⟩])
 .skip))
 (.ops [
⟨some 66, none, [], .fieldAddr (.t 5) 3⟩,
⟨some 67, none, [], .load (.t 66) none⟩,
⟨some 68, none, [], .load (.t 7) (some 2)⟩,
⟨some 69, none, [], .slit 1 2 [.int .i64 0, .int .i64 0] [(0, .t 68)]⟩,
⟨some 70, none, [], .append (.t 67) (.t 69) 2 16⟩,
⟨some 71, none, [], .fieldAddr (.t 5) 3⟩,
⟨none, none, [], .store (.t 71) (.t 70) 1⟩])))))))
 (.ops [
⟨some 72, none, [], .bin .add (.t 26) (.k (.int .i64 1))⟩,
⟨some 26, none, [], .move (.t 72)⟩])))))))
 (.seq
 (.ops [
⟨some 8, none, [], .move (.k (.func (.func 49) ⟨[]⟩ ⟨[]⟩))⟩])
 (.seq
 (.ops [
⟨some 73, none, [], .move (.t 8)⟩,
⟨some 74, none, [], .fieldAddr (.t 1) 6⟩,
⟨some 75, none, [], .idxA (.t 74) (.k (.int .i64 0)) 2 1⟩,
⟨some 76, none, [], .load (.t 75) none⟩,
⟨some 77, none, [], .toInt .i64 (.t 76)⟩,
⟨some 78, none, [], .fieldAddr (.t 1) 6⟩,
⟨some 79, none, [], .idxA (.t 78) (.k (.int .i64 1)) 2 1⟩,
⟨some 80, none, [], .load (.t 79) none⟩,
⟨some 81, none, [], .toInt .i64 (.t 80)⟩,
⟨some 82, none, [], .call (.t 73) [.t 77, .t 81, .k (.int .i64 1), .k (.int .i64 1024)] true⟩,
⟨some 83, none, [], .move (.t 8)⟩,
⟨some 84, none, [], .fieldAddr (.t 1) 8⟩,
⟨some 85, none, [], .idxA (.t 84) (.k (.int .i64 0)) 2 1⟩,
⟨some 86, none, [], .load (.t 85) none⟩,
⟨some 87, none, [], .toInt .i64 (.t 86)⟩,
⟨some 88, none, [], .fieldAddr (.t 1) 8⟩,
⟨some 89, none, [], .idxA (.t 88) (.k (.int .i64 1)) 2 1⟩,
⟨some 90, none, [], .load (.t 89) none⟩,
⟨some 91, none, [], .toInt .i64 (.t 90)⟩,
⟨some 92, none, [], .call (.t 83) [.t 87, .t 91, .k (.int .i64 10), .k (.int .i64 2000)] true⟩,
⟨some 93, none, [], .move (.t 8)⟩,
⟨some 94, none, [], .fieldAddr (.t 1) 10⟩,
⟨some 95, none, [], .idxA (.t 94) (.k (.int .i64 0)) 2 1⟩,
⟨some 96, none, [], .load (.t 95) none⟩,
⟨some 97, none, [], .toInt .i64 (.t 96)⟩,
⟨some 98, none, [], .fieldAddr (.t 1) 10⟩,
⟨some 99, none, [], .idxA (.t 98) (.k (.int .i64 1)) 2 1⟩,
⟨some 100, none, [], .load (.t 99) none⟩,
⟨some 101, none, [], .toInt .i64 (.t 100)⟩,
⟨some 102, none, [], .call (.t 93) [.t 97, .t 101, .k (.int .i64 0), .k (.int .i64 256)] true⟩,
⟨some 103, none, [], .build [.int .i64 0, .int .i64 0, .int .i64 0, .int .i64 0, .int .i64 0, .int .i64 0] [(0, 2, .t 82), (2, 2, .t 92), (4, 2, .t 102)]⟩,
⟨some 9, none, [], .alloc [.int .i64 0, .int .i64 0, .int .i64 0, .int .i64 0, .int .i64 0, .int .i64 0]⟩,
⟨none, none, [], .store (.t 9) (.t 103) 6⟩])
 (.seq
 (.ops [
⟨some 104, none, [], .load (.t 5) (some 4)⟩,
⟨some 105, none, [], .fieldAddr (.t 1) 4⟩,
⟨some 106, none, [], .load (.t 105) none⟩,
⟨some 107, none, [], .toInt .i64 (.t 106)⟩,
⟨some 108, none, [], .fieldAddr (.t 1) 4⟩,
⟨some 109, none, [], .load (.t 108) none⟩,
⟨some 110, none, [], .toInt .i64 (.t 109)⟩,
⟨some 111, none, [], .fieldAddr (.t 1) 5⟩,
⟨some 112, none, [], .load (.t 111) none⟩,
⟨some 113, none, [], .toInt .i64 (.t 112)⟩,
⟨some 114, none, [], .bin .rem (.t 113) (.k (.int .i64 50))⟩,
⟨some 115, none, [], .bin .add (.t 110) (.t 114)⟩,
⟨some 116, none, [], .call (.k (.func (.func 25) ⟨[]⟩ ⟨[]⟩)) [.t 107, .t 115] true⟩,
⟨some 117, none, [], .load (.t 9) (some 6)⟩,
⟨none, none, [(.t 2, 4, .t 9, 6)], .store (.t 2) (.t 104) 4⟩,
⟨none, none, [(.t 3, 2, .t 9, 6)], .store (.t 3) (.t 116) 2⟩,
⟨none, none, [], .store (.t 4) (.t 117) 6⟩])
 .ret))))))

/-- tidewall/tidewalllaw05.span -/
def F25 : AFunc :=
 .fn 8 [.cell 4 (some 2)]
 (.seq
 (.ops [
⟨some 4, none, [], .alloc [.int .i64 0, .int .i64 0]⟩])
 (.seq
 (.ops [
⟨some 5, none, [], .move (.t 0)⟩,
⟨some 6, none, [], .move (.t 1)⟩,
⟨some 7, none, [], .build [.int .i64 0, .int .i64 0] [(0, 1, .t 5), (1, 1, .t 6)]⟩,
⟨none, none, [], .store (.t 4) (.t 7) 2⟩])
 .ret))

/-- tidewall/tidewalllaw05.inside -/
def F26 : AFunc :=
 .fn 71 [.tmp 4]
 (.seq
 (.ops [
⟨some 4, none, [], .move (.k (.bool false))⟩])
 (.seq
 (.seq
 (.ops [
⟨some 6, none, [], .move (.t 0)⟩,
⟨some 7, none, [], .len (.t 6)⟩,
⟨some 8, none, [], .move (.t 1)⟩,
⟨some 9, none, [], .len (.t 8)⟩,
⟨some 10, none, [], .bin .neq (.t 7) (.t 9)⟩])
 (.cond (.t 10)
 (.seq
 (.ops [
⟨some 4, none, [], .move (.k (.bool false))⟩])
 .ret)
 .skip))
 (.seq
 (.seq
 (.ops [
⟨some 11, none, [], .move (.t 0)⟩,
⟨some 12, none, [], .len (.t 11)⟩,
⟨some 13, none, [], .move (.k (.int .i64 0))⟩])
 (.block 0
 (.loop
 (.seq
 (.ops [
⟨some 14, none, [], .bin .lss (.t 13) (.t 12)⟩])
 (.seq
 (.cond (.t 14)
 .skip
 (.exit 0))
 (.seq
 (.block 1
 (.seq
 (.ops [
⟨some 15, none, [], .move (.t 13)⟩,
⟨some 5, none, [], .move (.t 15)⟩])
 (.seq
 (.ops [
⟨some 16, none, [], .move (.t 0)⟩,
⟨some 17, none, [], .move (.t 5)⟩,
⟨some 18, none, [], .idxS (.t 16) (.t 17) 8⟩,
⟨some 19, none, [], .fieldAddr (.t 18) 0⟩,
⟨some 20, none, [], .load (.t 19) (some 2)⟩,
⟨some 21, none, [], .move (.t 1)⟩,
⟨some 22, none, [], .move (.t 5)⟩,
⟨some 23, none, [], .idxS (.t 21) (.t 22) 8⟩,
⟨some 24, none, [], .fieldAddr (.t 23) 0⟩,
⟨some 25, none, [], .load (.t 24) (some 2)⟩,
⟨some 26, none, [], .call (.k (.func (.func 50) ⟨[]⟩ ⟨[]⟩)) [.t 20, .t 25] false⟩,
⟨some 27, none, [], .not (.t 26)⟩,
⟨some 28, none, [], .move (.t 27)⟩,
⟨some 29, (some (28, false)), [], .move (.t 0)⟩,
⟨some 30, (some (28, false)), [], .move (.t 5)⟩,
⟨some 31, (some (28, false)), [], .idxS (.t 29) (.t 30) 8⟩,
⟨some 32, (some (28, false)), [], .fieldAddr (.t 31) 2⟩,
⟨some 33, (some (28, false)), [], .load (.t 32) (some 2)⟩,
⟨some 34, (some (28, false)), [], .move (.t 1)⟩,
⟨some 35, (some (28, false)), [], .move (.t 5)⟩,
⟨some 36, (some (28, false)), [], .idxS (.t 34) (.t 35) 8⟩,
⟨some 37, (some (28, false)), [], .fieldAddr (.t 36) 2⟩,
⟨some 38, (some (28, false)), [], .load (.t 37) (some 2)⟩,
⟨some 39, (some (28, false)), [], .call (.k (.func (.func 50) ⟨[]⟩ ⟨[]⟩)) [.t 33, .t 38] false⟩,
⟨some 40, (some (28, false)), [], .not (.t 39)⟩,
⟨some 41, none, [], .pick (.t 28) (.k (.bool true)) (.t 40)⟩,
⟨some 42, none, [], .move (.t 41)⟩,
⟨some 43, (some (42, false)), [], .move (.t 0)⟩,
⟨some 44, (some (42, false)), [], .move (.t 5)⟩,
⟨some 45, (some (42, false)), [], .idxS (.t 43) (.t 44) 8⟩,
⟨some 46, (some (42, false)), [], .fieldAddr (.t 45) 4⟩,
⟨some 47, (some (42, false)), [], .load (.t 46) (some 2)⟩,
⟨some 48, (some (42, false)), [], .move (.t 1)⟩,
⟨some 49, (some (42, false)), [], .move (.t 5)⟩,
⟨some 50, (some (42, false)), [], .idxS (.t 48) (.t 49) 8⟩,
⟨some 51, (some (42, false)), [], .fieldAddr (.t 50) 4⟩,
⟨some 52, (some (42, false)), [], .load (.t 51) (some 2)⟩,
⟨some 53, (some (42, false)), [], .call (.k (.func (.func 50) ⟨[]⟩ ⟨[]⟩)) [.t 47, .t 52] false⟩,
⟨some 54, (some (42, false)), [], .not (.t 53)⟩,
⟨some 55, none, [], .pick (.t 42) (.k (.bool true)) (.t 54)⟩,
⟨some 56, none, [], .move (.t 55)⟩,
⟨some 57, (some (56, false)), [], .move (.t 0)⟩,
⟨some 58, (some (56, false)), [], .move (.t 5)⟩,
⟨some 59, (some (56, false)), [], .idxS (.t 57) (.t 58) 8⟩,
⟨some 60, (some (56, false)), [], .fieldAddr (.t 59) 6⟩,
⟨some 61, (some (56, false)), [], .load (.t 60) (some 2)⟩,
⟨some 62, (some (56, false)), [], .move (.t 1)⟩,
⟨some 63, (some (56, false)), [], .move (.t 5)⟩,
⟨some 64, (some (56, false)), [], .idxS (.t 62) (.t 63) 8⟩,
⟨some 65, (some (56, false)), [], .fieldAddr (.t 64) 6⟩,
⟨some 66, (some (56, false)), [], .load (.t 65) (some 2)⟩,
⟨some 67, (some (56, false)), [], .call (.k (.func (.func 50) ⟨[]⟩ ⟨[]⟩)) [.t 61, .t 66] false⟩,
⟨some 68, (some (56, false)), [], .not (.t 67)⟩,
⟨some 69, none, [], .pick (.t 56) (.k (.bool true)) (.t 68)⟩])
 (.cond (.t 69)
 (.seq
 (.ops [
⟨some 4, none, [], .move (.k (.bool false))⟩])
 .ret)
 .skip))))
 (.ops [
⟨some 70, none, [], .bin .add (.t 13) (.k (.int .i64 1))⟩,
⟨some 13, none, [], .move (.t 70)⟩])))))))
 (.seq
 (.ops [
⟨some 4, none, [], .move (.k (.bool true))⟩])
 .ret))))

/-- tidewall/wave.Spread -/
def F27 : AFunc :=
 .fn 58 [.tmp 8, .tmp 9]
 (.seq
 (.ops [
⟨some 4, none, [], .box (.t 0)⟩,
⟨some 5, none, [], .box (.t 1)⟩,
⟨some 6, none, [], .box (.t 2)⟩,
⟨some 8, none, [], .move (.k (.slice none 0 0))⟩,
⟨some 9, none, [], .move (.k (.int .i64 0))⟩])
 (.seq
 (.seq
 (.ops [
⟨some 13, none, [], .load (.t 4) (some 4)⟩,
⟨some 14, none, [], .load (.t 5) (some 2)⟩,
⟨some 15, none, [], .load (.t 6) (some 6)⟩,
⟨some 16, none, [], .call (.k (.func (.func 44) ⟨[]⟩ ⟨[]⟩)) [.t 13, .t 14, .t 15] false⟩,
⟨some 10, none, [], .move (.t 16)⟩])
 (.seq
 (.ops [
⟨some 17, none, [], .move (.t 10)⟩,
⟨some 18, none, [], .bin .neq (.t 17) (.k (.int .i64 0))⟩])
 (.cond (.t 18)
 (.seq
 (.ops [
⟨some 19, none, [], .move (.t 10)⟩,
⟨some 8, none, [], .move (.k (.slice none 0 0))⟩,
⟨some 9, none, [], .move (.t 19)⟩])
 .ret)
 .skip)))
 (.seq
 (.seq
 (.ops [
⟨some 20, none, [], .move (.t 3)⟩,
⟨some 21, none, [], .len (.t 20)⟩,
⟨some 22, none, [], .bin .gtr (.t 21) (.k (.int .i64 512))⟩])
 (.cond (.t 22)
 (.seq
 (.ops [
⟨some 8, none, [], .move (.k (.slice none 0 0))⟩,
⟨some 9, none, [], .move (.k (.int .i64 9))⟩])
 .ret)
 .skip))
 (.seq
 (.seq
 (.ops [
⟨some 23, none, [], .move (.t 3)⟩,
⟨some 24, none, [], .len (.t 23)⟩,
⟨some 25, none, [], .move (.k (.int .i64 0))⟩])
 (.block 0
 (.loop
 (.seq
 (.ops [
⟨some 26, none, [], .bin .lss (.t 25) (.t 24)⟩])
 (.seq
 (.cond (.t 26)
 .skip
 (.exit 0))
 (.seq
 (.block 1
 (.seq
 (.ops [
⟨some 27, none, [], .idxS (.t 23) (.t 25) 5⟩,
⟨some 28, none, [], .load (.t 27) (some 5)⟩,
⟨some 12, none, [], .alloc [.int .i64 0, .int .i64 0, .int .i64 0, .int .i64 0, .int .i64 0]⟩,
⟨none, none, [], .store (.t 12) (.t 28) 5⟩])
 (.block 2
 (.seq
 (.ops [
⟨some 30, none, [], .fieldAddr (.t 12) 0⟩,
⟨some 31, none, [], .load (.t 30) none⟩,
⟨some 32, none, [], .bin .lss (.t 31) (.k (.int .i64 0))⟩,
⟨some 33, none, [], .move (.t 32)⟩,
⟨some 34, (some (33, false)), [], .fieldAddr (.t 12) 0⟩,
⟨some 35, (some (33, false)), [], .load (.t 34) none⟩,
⟨some 36, (some (33, false)), [], .fieldAddr (.t 4) 3⟩,
⟨some 37, (some (33, false)), [], .load (.t 36) none⟩,
⟨some 38, (some (33, false)), [], .len (.t 37)⟩,
⟨some 39, (some (33, false)), [], .bin .geq (.t 35) (.t 38)⟩,
⟨some 40, none, [], .pick (.t 33) (.k (.bool true)) (.t 39)⟩,
⟨some 29, none, [], .move (.t 40)⟩])
 (.cond (.t 29)
 (.seq
 (.ops [
⟨some 8, none, [], .move (.k (.slice none 0 0))⟩,
⟨some 9, none, [], .move (.k (.int .i64 4))⟩])
 .ret)
 (.seq
 (.ops [
⟨some 42, none, [], .fieldAddr (.t 12) 1⟩,
⟨some 43, none, [], .load (.t 42) (some 2)⟩,
⟨some 44, none, [], .call (.k (.func (.func 42) ⟨[]⟩ ⟨[]⟩)) [.t 43, .k (.int .i64 0), .k (.int .i64 1000000000)] false⟩,
⟨some 45, none, [], .not (.t 44)⟩,
⟨some 46, none, [], .move (.t 45)⟩,
⟨some 47, (some (46, false)), [], .fieldAddr (.t 12) 3⟩,
⟨some 48, (some (46, false)), [], .load (.t 47) (some 2)⟩,
⟨some 49, (some (46, false)), [], .call (.k (.func (.func 42) ⟨[]⟩ ⟨[]⟩)) [.t 48, .k (.int .i64 0), .k (.int .i64 5000)] false⟩,
⟨some 50, (some (46, false)), [], .not (.t 49)⟩,
⟨some 51, none, [], .pick (.t 46) (.k (.bool true)) (.t 50)⟩,
⟨some 41, none, [], .move (.t 51)⟩])
 (.cond (.t 41)
 (.seq
 (.ops [
⟨some 8, none, [], .move (.k (.slice none 0 0))⟩,
⟨some 9, none, [], .move (.k (.int .i64 3))⟩])
 .ret)
 .skip)))))))
 (.ops [
⟨some 52, none, [], .bin .add (.t 25) (.k (.int .i64 1))⟩,
⟨some 25, none, [], .move (.t 52)⟩])))))))
 (.seq
 (.ops [
⟨some 53, none, [], .load (.t 4) (some 4)⟩,
⟨some 54, none, [], .load (.t 5) (some 2)⟩,
⟨some 55, none, [], .load (.t 6) (some 6)⟩,
⟨some 56, none, [], .move (.t 3)⟩,
⟨some 57, none, [], .call (.k (.func (.func 45) ⟨[]⟩ ⟨[]⟩)) [.t 53, .t 54, .t 55, .t 56] false⟩,
⟨some 8, none, [], .move (.t 57)⟩,
⟨some 9, none, [], .move (.k (.int .i64 0))⟩])
 .ret)))))

/-- tidewall/tidewallref05.Spread -/
def F28 : AFunc :=
 .fn 142 [.tmp 8, .tmp 9]
 (.seq
 (.ops [
⟨some 4, none, [], .box (.t 0)⟩,
⟨some 5, none, [], .box (.t 1)⟩,
⟨some 6, none, [], .box (.t 2)⟩,
⟨some 8, none, [], .move (.k (.slice none 0 0))⟩,
⟨some 9, none, [], .move (.k (.int .i64 0))⟩])
 (.seq
 (.ops [
⟨some 17, none, [], .load (.t 4) (some 4)⟩,
⟨some 18, none, [], .load (.t 5) (some 2)⟩,
⟨some 19, none, [], .load (.t 6) (some 6)⟩,
⟨some 20, none, [], .call (.k (.func (.func 46) ⟨[]⟩ ⟨[]⟩)) [.t 17, .t 18, .t 19] false⟩,
⟨some 10, none, [], .move (.t 20)⟩])
 (.seq
 (.seq
 (.ops [
⟨some 21, none, [], .move (.t 10)⟩,
⟨some 22, none, [], .bin .neq (.t 21) (.k (.int .i64 0))⟩])
 (.cond (.t 22)
 (.seq
 (.ops [
⟨some 23, none, [], .move (.t 10)⟩,
⟨some 8, none, [], .move (.k (.slice none 0 0))⟩,
⟨some 9, none, [], .move (.t 23)⟩])
 .ret)
 .skip))
 (.seq
 (.seq
 (.ops [
⟨some 24, none, [], .move (.t 3)⟩,
⟨some 25, none, [], .len (.t 24)⟩,
⟨some 26, none, [], .bin .gtr (.t 25) (.k (.int .i64 512))⟩])
 (.cond (.t 26)
 (.seq
 (.ops [
⟨some 8, none, [], .move (.k (.slice none 0 0))⟩,
⟨some 9, none, [], .move (.k (.int .i64 9))⟩])
 .ret)
 .skip))
 (.seq
 (.seq
 (.ops [
⟨some 11, none, [], .move (.k (.int .i64 0))⟩])
 (.block 0
 (.loop
 (.seq
 (.seq
 (.ops [
⟨some 27, none, [], .move (.t 11)⟩,
⟨some 28, none, [], .move (.t 3)⟩,
⟨some 29, none, [], .len (.t 28)⟩,
⟨some 30, none, [], .bin .lss (.t 27) (.t 29)⟩])
 (.cond (.t 30)
 .skip
 (.exit 0)))
 (.seq
 (.block 1
 (.seq
 (.seq
 (.ops [
⟨some 33, none, [], .move (.t 3)⟩,
⟨some 34, none, [], .move (.t 11)⟩,
⟨some 35, none, [], .idxS (.t 33) (.t 34) 5⟩,
⟨some 36, none, [], .fieldAddr (.t 35) 0⟩,
⟨some 37, none, [], .load (.t 36) none⟩,
⟨some 38, none, [], .bin .lss (.t 37) (.k (.int .i64 0))⟩,
⟨some 39, none, [], .move (.t 38)⟩,
⟨some 40, (some (39, false)), [], .move (.t 3)⟩,
⟨some 41, (some (39, false)), [], .move (.t 11)⟩,
⟨some 42, (some (39, false)), [], .idxS (.t 40) (.t 41) 5⟩,
⟨some 43, (some (39, false)), [], .fieldAddr (.t 42) 0⟩,
⟨some 44, (some (39, false)), [], .load (.t 43) none⟩,
⟨some 45, (some (39, false)), [], .fieldAddr (.t 4) 3⟩,
⟨some 46, (some (39, false)), [], .load (.t 45) none⟩,
⟨some 47, (some (39, false)), [], .len (.t 46)⟩,
⟨some 48, (some (39, false)), [], .bin .geq (.t 44) (.t 47)⟩,
⟨some 49, none, [], .pick (.t 39) (.k (.bool true)) (.t 48)⟩])
 (.cond (.t 49)
 (.seq
 (.ops [
⟨some 8, none, [], .move (.k (.slice none 0 0))⟩,
⟨some 9, none, [], .move (.k (.int .i64 4))⟩])
 .ret)
 .skip))
 (.seq
 (.ops [
⟨some 50, none, [], .move (.t 3)⟩,
⟨some 51, none, [], .move (.t 11)⟩,
⟨some 52, none, [], .idxS (.t 50) (.t 51) 5⟩,
⟨some 53, none, [], .fieldAddr (.t 52) 1⟩,
⟨some 54, none, [], .load (.t 53) (some 2)⟩,
⟨some 55, none, [], .call (.k (.func (.func 43) ⟨[]⟩ ⟨[]⟩)) [.t 54, .k (.int .i64 0), .k (.int .i64 1000000000)] false⟩,
⟨some 56, none, [], .not (.t 55)⟩,
⟨some 57, none, [], .move (.t 56)⟩,
⟨some 58, (some (57, false)), [], .move (.t 3)⟩,
⟨some 59, (some (57, false)), [], .move (.t 11)⟩,
⟨some 60, (some (57, false)), [], .idxS (.t 58) (.t 59) 5⟩,
⟨some 61, (some (57, false)), [], .fieldAddr (.t 60) 3⟩,
⟨some 62, (some (57, false)), [], .load (.t 61) (some 2)⟩,
⟨some 63, (some (57, false)), [], .call (.k (.func (.func 43) ⟨[]⟩ ⟨[]⟩)) [.t 62, .k (.int .i64 0), .k (.int .i64 5000)] false⟩,
⟨some 64, (some (57, false)), [], .not (.t 63)⟩,
⟨some 65, none, [], .pick (.t 57) (.k (.bool true)) (.t 64)⟩])
 (.cond (.t 65)
 (.seq
 (.ops [
⟨some 8, none, [], .move (.k (.slice none 0 0))⟩,
⟨some 9, none, [], .move (.k (.int .i64 3))⟩])
 .ret)
 .skip))))
 (.ops [
⟨some 31, none, [], .move (.t 11)⟩,
⟨some 32, none, [], .bin .add (.t 31) (.k (.int .i64 1))⟩,
⟨some 11, none, [], .move (.t 32)⟩]))))))
 (.seq
 (.ops [
⟨some 66, none, [], .fieldAddr (.t 4) 3⟩,
⟨some 67, none, [], .load (.t 66) none⟩,
⟨some 68, none, [], .len (.t 67)⟩,
⟨some 12, none, [], .move (.t 68)⟩])
 (.seq
 (.ops [
⟨some 69, none, [], .load (.t 4) (some 4)⟩,
⟨some 70, none, [], .load (.t 5) (some 2)⟩,
⟨some 71, none, [], .load (.t 6) (some 6)⟩,
⟨some 72, none, [], .move (.t 12)⟩,
⟨some 73, none, [], .call (.k (.func (.func 51) ⟨[]⟩ ⟨[]⟩)) [.t 72, .k (.int .i64 1099511627776)] true⟩,
⟨some 74, none, [], .move (.t 12)⟩,
⟨some 75, none, [], .call (.k (.func (.func 51) ⟨[]⟩ ⟨[]⟩)) [.t 74, .k (.int .i64 1099511627776)] true⟩,
⟨some 76, none, [], .move (.t 12)⟩,
⟨some 77, none, [], .call (.k (.func (.func 51) ⟨[]⟩ ⟨[]⟩)) [.t 76, .k (.int .i64 0)] true⟩,
⟨some 78, none, [], .move (.t 12)⟩,
⟨some 79, none, [], .call (.k (.func (.func 51) ⟨[]⟩ ⟨[]⟩)) [.t 78, .k (.int .i64 0)] true⟩,
⟨some 80, none, [], .move (.t 12)⟩,
⟨some 81, none, [], .call (.k (.func (.func 51) ⟨[]⟩ ⟨[]⟩)) [.t 80, .k (.int .i64 (-1099511627776))] true⟩,
⟨some 82, none, [], .move (.t 12)⟩,
⟨some 83, none, [], .call (.k (.func (.func 51) ⟨[]⟩ ⟨[]⟩)) [.t 82, .k (.int .i64 (-1099511627776))] true⟩,
⟨some 84, none, [], .move (.t 12)⟩,
⟨some 85, none, [], .call (.k (.func (.func 51) ⟨[]⟩ ⟨[]⟩)) [.t 84, .k (.int .i64 (-1099511627776))] true⟩,
⟨some 86, none, [], .move (.t 12)⟩,
⟨some 87, none, [], .call (.k (.func (.func 51) ⟨[]⟩ ⟨[]⟩)) [.t 86, .k (.int .i64 1099511627776)] true⟩,
⟨some 88, none, [], .move (.t 12)⟩,
⟨some 89, none, [], .call (.k (.func (.func 51) ⟨[]⟩ ⟨[]⟩)) [.t 88, .k (.int .i64 1099511627776)] true⟩,
⟨some 90, none, [], .build [.int .i64 0, .int .i64 0, .int .i64 0, .slice none 0 0, .int .i64 0, .int .i64 0, .int .i64 0, .int .i64 0, .int .i64 0, .int .i64 0, .int .i64 0, .int .i64 0, .slice none 0 0, .slice none 0 0, .slice none 0 0, .slice none 0 0, .slice none 0 0, .slice none 0 0, .slice none 0 0, .slice none 0 0, .slice none 0 0, .slice none 0 0] [(0, 4, .t 69), (4, 2, .t 70), (6, 6, .t 71), (13, 1, .t 73), (14, 1, .t 75), (15, 1, .t 77), (16, 1, .t 79), (17, 1, .t 81), (18, 1, .t 83), (19, 1, .t 85), (20, 1, .t 87), (21, 1, .t 89)]⟩,
⟨some 91, none, [], .box (.t 90)⟩,
⟨some 13, none, [], .move (.t 91)⟩])
 (.seq
 (.seq
 (.ops [
⟨some 14, none, [], .move (.k (.int .i64 0))⟩])
 (.block 2
 (.loop
 (.seq
 (.seq
 (.ops [
⟨some 92, none, [], .move (.t 14)⟩,
⟨some 93, none, [], .move (.t 12)⟩,
⟨some 94, none, [], .bin .lss (.t 92) (.t 93)⟩])
 (.cond (.t 94)
 .skip
 (.exit 2)))
 (.seq
 (.block 3
 (.ops [
⟨some 97, none, [], .move (.t 13)⟩,
⟨some 98, none, [], .move (.t 13)⟩,
⟨some 99, none, [], .nilCheck (.t 98)⟩,
⟨some 100, none, [], .fieldAddr (.t 99) 12⟩,
⟨some 101, none, [], .load (.t 100) none⟩,
⟨some 102, none, [], .fieldAddr (.t 5) 0⟩,
⟨some 103, none, [], .load (.t 102) none⟩,
⟨some 104, none, [], .fieldAddr (.t 4) 3⟩,
⟨some 105, none, [], .load (.t 104) none⟩,
⟨some 106, none, [], .move (.t 14)⟩,
⟨some 107, none, [], .idxS (.t 105) (.t 106) 2⟩,
⟨some 108, none, [], .fieldAddr (.t 107) 1⟩,
⟨some 109, none, [], .load (.t 108) none⟩,
⟨some 110, none, [], .bin .sub (.t 103) (.t 109)⟩,
⟨some 111, none, [], .fieldAddr (.t 5) 1⟩,
⟨some 112, none, [], .load (.t 111) none⟩,
⟨some 113, none, [], .fieldAddr (.t 4) 3⟩,
⟨some 114, none, [], .load (.t 113) none⟩,
⟨some 115, none, [], .move (.t 14)⟩,
⟨some 116, none, [], .idxS (.t 114) (.t 115) 2⟩,
⟨some 117, none, [], .fieldAddr (.t 116) 0⟩,
⟨some 118, none, [], .load (.t 117) none⟩,
⟨some 119, none, [], .bin .sub (.t 112) (.t 118)⟩,
⟨some 120, none, [], .build [.int .i64 0, .int .i64 0] [(0, 1, .t 110), (1, 1, .t 119)]⟩,
⟨some 121, none, [], .slit 1 2 [.int .i64 0, .int .i64 0] [(0, .t 120)]⟩,
⟨some 122, none, [], .append (.t 101) (.t 121) 2 16⟩,
⟨some 123, none, [], .nilCheck (.t 97)⟩,
⟨some 124, none, [], .fieldAddr (.t 123) 12⟩,
⟨none, none, [], .store (.t 124) (.t 122) 1⟩]))
 (.ops [
⟨some 95, none, [], .move (.t 14)⟩,
⟨some 96, none, [], .bin .add (.t 95) (.k (.int .i64 1))⟩,
⟨some 14, none, [], .move (.t 96)⟩]))))))
 (.seq
 (.ops [
⟨some 125, none, [], .move (.t 13)⟩,
⟨some 126, none, [], .move (.t 3)⟩,
⟨some 127, none, [], .call (.k (.func (.func 52) ⟨[]⟩ ⟨[]⟩)) [.t 125, .t 126] false⟩])
 (.seq
 (.ops [
⟨some 128, none, [], .move (.t 13)⟩,
⟨some 129, none, [], .call (.k (.func (.func 53) ⟨[]⟩ ⟨[]⟩)) [.t 128] false⟩])
 (.seq
 (.ops [
⟨some 15, none, [], .move (.k (.slice none 0 0))⟩])
 (.seq
 (.seq
 (.ops [
⟨some 16, none, [], .move (.k (.int .i64 0))⟩])
 (.block 4
 (.loop
 (.seq
 (.seq
 (.ops [
⟨some 130, none, [], .move (.t 16)⟩,
⟨some 131, none, [], .move (.t 12)⟩,
⟨some 132, none, [], .bin .lss (.t 130) (.t 131)⟩])
 (.cond (.t 132)
 .skip
 (.exit 4)))
 (.seq
 (.block 5
 (.ops [
⟨some 135, none, [], .move (.t 15)⟩,
⟨some 136, none, [], .move (.t 13)⟩,
⟨some 137, none, [], .move (.t 16)⟩,
⟨some 138, none, [], .call (.k (.func (.func 54) ⟨[]⟩ ⟨[]⟩)) [.t 136, .t 137] false⟩,
⟨some 139, none, [], .slit 1 8 [.int .i64 0, .int .i64 0, .int .i64 0, .int .i64 0, .int .i64 0, .int .i64 0, .int .i64 0, .int .i64 0] [(0, .t 138)]⟩,
⟨some 140, none, [], .append (.t 135) (.t 139) 8 64⟩,
⟨some 15, none, [], .move (.t 140)⟩]))
 (.ops [
⟨some 133, none, [], .move (.t 16)⟩,
⟨some 134, none, [], .bin .add (.t 133) (.k (.int .i64 1))⟩,
⟨some 16, none, [], .move (.t 134)⟩]))))))
 (.seq
 (.ops [
⟨some 141, none, [], .move (.t 15)⟩,
⟨some 8, none, [], .move (.t 141)⟩,
⟨some 9, none, [], .move (.k (.int .i64 0))⟩])
 .ret)))))))))))))

/-- tidewall/tidewalllaw05.WaveInside$1 -/
def F29 : AFunc :=
 .fn 15 [.tmp 2]
 (.seq
 (.ops [
⟨some 2, none, [], .move (.k (.int .u8 0))⟩])
 (.seq
 (.ops [
⟨some 3, none, [], .load (.t 0) none⟩,
⟨some 4, none, [], .bin .add (.t 3) (.k (.int .i64 1))⟩,
⟨none, none, [], .store (.t 0) (.t 4) 1⟩])
 (.seq
 (.seq
 (.ops [
⟨some 5, none, [], .load (.t 1) none⟩,
⟨some 6, none, [], .len (.t 5)⟩,
⟨some 7, none, [], .bin .eql (.t 6) (.k (.int .i64 0))⟩])
 (.cond (.t 7)
 (.seq
 (.ops [
⟨some 2, none, [], .move (.k (.int .u8 0))⟩])
 .ret)
 .skip))
 (.seq
 (.ops [
⟨some 8, none, [], .load (.t 1) none⟩,
⟨some 9, none, [], .load (.t 0) none⟩,
⟨some 10, none, [], .load (.t 1) none⟩,
⟨some 11, none, [], .len (.t 10)⟩,
⟨some 12, none, [], .bin .rem (.t 9) (.t 11)⟩,
⟨some 13, none, [], .idxS (.t 8) (.t 12) 1⟩,
⟨some 14, none, [], .load (.t 13) none⟩,
⟨some 2, none, [], .move (.t 14)⟩])
 .ret))))

/-- tidewall/tidewalllaw05.starts -/
def F30 : AFunc :=
 .fn 52 [.tmp 4]
 (.seq
 (.ops [
⟨some 2, none, [], .box (.t 0)⟩,
⟨some 4, none, [], .move (.k (.slice none 0 0))⟩])
 (.seq
 (.ops [
⟨some 5, none, [], .move (.k (.slice none 0 0))⟩])
 (.seq
 (.seq
 (.ops [
⟨some 10, none, [], .move (.t 1)⟩,
⟨some 11, none, [], .len (.t 10)⟩,
⟨some 12, none, [], .move (.k (.int .i64 0))⟩])
 (.block 0
 (.loop
 (.seq
 (.ops [
⟨some 13, none, [], .bin .lss (.t 12) (.t 11)⟩])
 (.seq
 (.cond (.t 13)
 .skip
 (.exit 0))
 (.seq
 (.block 1
 (.seq
 (.ops [
⟨some 14, none, [], .idxS (.t 10) (.t 12) 4⟩,
⟨some 15, none, [], .load (.t 14) (some 4)⟩,
⟨some 7, none, [], .alloc [.int .u16 0, .int .u16 0, .int .u16 0, .int .u16 0]⟩,
⟨none, none, [], .store (.t 7) (.t 15) 4⟩])
 (.seq
 (.ops [
⟨some 16, none, [], .idxA (.t 7) (.k (.int .i64 1)) 4 1⟩,
⟨some 17, none, [], .load (.t 16) none⟩,
⟨some 18, none, [], .toInt .i64 (.t 17)⟩,
⟨some 19, none, [], .bin .mul (.t 18) (.k (.int .i64 10))⟩,
⟨some 20, none, [], .idxA (.t 7) (.k (.int .i64 2)) 4 1⟩,
⟨some 21, none, [], .load (.t 20) none⟩,
⟨some 22, none, [], .toInt .i64 (.t 21)⟩,
⟨some 23, none, [], .bin .rem (.t 22) (.k (.int .i64 4000))⟩,
⟨some 8, none, [], .move (.t 19)⟩,
⟨some 9, none, [], .move (.t 23)⟩])
 (.ops [
⟨some 24, none, [], .move (.t 5)⟩,
⟨some 25, none, [], .idxA (.t 7) (.k (.int .i64 0)) 4 1⟩,
⟨some 26, none, [], .load (.t 25) none⟩,
⟨some 27, none, [], .toInt .i64 (.t 26)⟩,
⟨some 28, none, [], .fieldAddr (.t 2) 3⟩,
⟨some 29, none, [], .load (.t 28) none⟩,
⟨some 30, none, [], .len (.t 29)⟩,
⟨some 31, none, [], .bin .rem (.t 27) (.t 30)⟩,
⟨some 32, none, [], .move (.t 8)⟩,
⟨some 33, none, [], .move (.t 8)⟩,
⟨some 34, none, [], .idxA (.t 7) (.k (.int .i64 3)) 4 1⟩,
⟨some 35, none, [], .load (.t 34) none⟩,
⟨some 36, none, [], .toInt .i64 (.t 35)⟩,
⟨some 37, none, [], .bin .add (.t 33) (.t 36)⟩,
⟨some 38, none, [], .call (.k (.func (.func 25) ⟨[]⟩ ⟨[]⟩)) [.t 32, .t 37] true⟩,
⟨some 39, none, [], .move (.t 9)⟩,
⟨some 40, none, [], .move (.t 9)⟩,
⟨some 41, none, [], .idxA (.t 7) (.k (.int .i64 3)) 4 1⟩,
⟨some 42, none, [], .load (.t 41) none⟩,
⟨some 43, none, [], .toInt .i64 (.t 42)⟩,
⟨some 44, none, [], .bin .rem (.t 43) (.k (.int .i64 900))⟩,
⟨some 45, none, [], .bin .add (.t 40) (.t 44)⟩,
⟨some 46, none, [], .call (.k (.func (.func 25) ⟨[]⟩ ⟨[]⟩)) [.t 39, .t 45] true⟩,
⟨some 47, none, [], .build [.int .i64 0, .int .i64 0, .int .i64 0, .int .i64 0, .int .i64 0] [(0, 1, .t 31), (1, 2, .t 38), (3, 2, .t 46)]⟩,
⟨some 48, none, [], .slit 1 5 [.int .i64 0, .int .i64 0, .int .i64 0, .int .i64 0, .int .i64 0] [(0, .t 47)]⟩,
⟨some 49, none, [], .append (.t 24) (.t 48) 5 40⟩,
⟨some 5, none, [], .move (.t 49)⟩]))))
 (.ops [
⟨some 50, none, [], .bin .add (.t 12) (.k (.int .i64 1))⟩,
⟨some 12, none, [], .move (.t 50)⟩])))))))
 (.seq
 (.ops [
⟨some 51, none, [], .move (.t 5)⟩,
⟨some 4, none, [], .move (.t 51)⟩])
 .ret))))

/-- tidewall/tidewalllaw05.pick -/
def F31 : AFunc :=
 .fn 38 [.cell 8 (some 2)]
 (.seq
 (.ops [
⟨some 4, none, [], .box (.t 0)⟩,
⟨some 8, none, [], .alloc [.int .i64 0, .int .i64 0]⟩])
 (.seq
 (.ops [
⟨some 10, none, [], .fieldAddr (.t 4) 0⟩,
⟨some 11, none, [], .load (.t 10) none⟩,
⟨some 12, none, [], .move (.t 1)⟩,
⟨some 13, none, [], .toInt .i64 (.t 12)⟩,
⟨some 14, none, [], .fieldAddr (.t 4) 1⟩,
⟨some 15, none, [], .load (.t 14) none⟩,
⟨some 16, none, [], .fieldAddr (.t 4) 0⟩,
⟨some 17, none, [], .load (.t 16) none⟩,
⟨some 18, none, [], .bin .sub (.t 15) (.t 17)⟩,
⟨some 19, none, [], .bin .add (.t 18) (.k (.int .i64 1))⟩,
⟨some 20, none, [], .bin .rem (.t 13) (.t 19)⟩,
⟨some 21, none, [], .bin .add (.t 11) (.t 20)⟩,
⟨some 9, none, [], .move (.t 21)⟩])
 (.seq
 (.seq
 (.ops [
⟨some 22, none, [], .move (.t 3)⟩])
 (.cond (.t 22)
 (.seq
 (.ops [
⟨some 23, none, [], .move (.t 9)⟩,
⟨some 24, none, [], .move (.t 9)⟩,
⟨some 25, none, [], .call (.k (.func (.func 25) ⟨[]⟩ ⟨[]⟩)) [.t 23, .t 24] false⟩,
⟨none, none, [], .store (.t 8) (.t 25) 2⟩])
 .ret)
 .skip))
 (.seq
 (.ops [
⟨some 26, none, [], .move (.t 9)⟩,
⟨some 27, none, [], .move (.t 9)⟩,
⟨some 28, none, [], .move (.t 2)⟩,
⟨some 29, none, [], .toInt .i64 (.t 28)⟩,
⟨some 30, none, [], .fieldAddr (.t 4) 1⟩,
⟨some 31, none, [], .load (.t 30) none⟩,
⟨some 32, none, [], .move (.t 9)⟩,
⟨some 33, none, [], .bin .sub (.t 31) (.t 32)⟩,
⟨some 34, none, [], .bin .add (.t 33) (.k (.int .i64 1))⟩,
⟨some 35, none, [], .bin .rem (.t 29) (.t 34)⟩,
⟨some 36, none, [], .bin .add (.t 27) (.t 35)⟩,
⟨some 37, none, [], .call (.k (.func (.func 25) ⟨[]⟩ ⟨[]⟩)) [.t 26, .t 36] false⟩,
⟨none, none, [], .store (.t 8) (.t 37) 2⟩])
 .ret))))

/-- tidewall/tidewalllaw05.WaveFirst$1 -/
def F32 : AFunc :=
 .fn 14 [.tmp 4]
 (.seq
 (.ops [
⟨some 4, none, [], .move (.k (.int .i64 0))⟩])
 (.seq
 (.ops [
⟨some 5, none, [], .fieldAddr (.t 1) 0⟩,
⟨some 6, none, [], .load (.t 5) none⟩,
⟨some 7, none, [], .fieldAddr (.t 2) 3⟩,
⟨some 8, none, [], .load (.t 7) none⟩,
⟨some 9, none, [], .move (.t 0)⟩,
⟨some 10, none, [], .idxS (.t 8) (.t 9) 2⟩,
⟨some 11, none, [], .fieldAddr (.t 10) 0⟩,
⟨some 12, none, [], .load (.t 11) none⟩,
⟨some 13, none, [], .bin .sub (.t 6) (.t 12)⟩,
⟨some 4, none, [], .move (.t 13)⟩])
 .ret))

/-- tidewall/tidewalllaw05.near -/
def F33 : AFunc :=
 .fn 47 [.tmp 4]
 (.seq
 (.ops [
⟨some 2, none, [], .box (.t 0)⟩,
⟨some 4, none, [], .move (.k (.slice none 0 0))⟩])
 (.seq
 (.ops [
⟨some 5, none, [], .move (.k (.slice none 0 0))⟩])
 (.seq
 (.seq
 (.ops [
⟨some 9, none, [], .fieldAddr (.t 2) 3⟩,
⟨some 10, none, [], .load (.t 9) none⟩,
⟨some 11, none, [], .len (.t 10)⟩,
⟨some 12, none, [], .move (.k (.int .i64 0))⟩])
 (.block 0
 (.loop
 (.seq
 (.ops [
⟨some 13, none, [], .bin .lss (.t 12) (.t 11)⟩])
 (.seq
 (.cond (.t 13)
 .skip
 (.exit 0))
 (.seq
 (.block 1
 (.seq
 (.ops [
⟨some 14, none, [], .move (.t 12)⟩,
⟨some 6, none, [], .move (.t 14)⟩])
 (.seq
 (.ops [
⟨some 15, none, [], .move (.t 1)⟩,
⟨some 16, none, [], .fieldAddr (.t 2) 0⟩,
⟨some 17, none, [], .load (.t 16) none⟩,
⟨some 18, none, [], .bin .rem (.t 15) (.t 17)⟩,
⟨some 19, none, [], .move (.t 6)⟩,
⟨some 20, none, [], .fieldAddr (.t 2) 0⟩,
⟨some 21, none, [], .load (.t 20) none⟩,
⟨some 22, none, [], .bin .rem (.t 19) (.t 21)⟩,
⟨some 23, none, [], .bin .sub (.t 18) (.t 22)⟩,
⟨some 24, none, [], .move (.t 1)⟩,
⟨some 25, none, [], .fieldAddr (.t 2) 0⟩,
⟨some 26, none, [], .load (.t 25) none⟩,
⟨some 27, none, [], .bin .quo (.t 24) (.t 26)⟩,
⟨some 28, none, [], .move (.t 6)⟩,
⟨some 29, none, [], .fieldAddr (.t 2) 0⟩,
⟨some 30, none, [], .load (.t 29) none⟩,
⟨some 31, none, [], .bin .quo (.t 28) (.t 30)⟩,
⟨some 32, none, [], .bin .sub (.t 27) (.t 31)⟩,
⟨some 7, none, [], .move (.t 23)⟩,
⟨some 8, none, [], .move (.t 32)⟩])
 (.seq
 (.ops [
⟨some 33, none, [], .move (.t 7)⟩,
⟨some 34, none, [], .move (.t 7)⟩,
⟨some 35, none, [], .bin .mul (.t 33) (.t 34)⟩,
⟨some 36, none, [], .move (.t 8)⟩,
⟨some 37, none, [], .move (.t 8)⟩,
⟨some 38, none, [], .bin .mul (.t 36) (.t 37)⟩,
⟨some 39, none, [], .bin .add (.t 35) (.t 38)⟩,
⟨some 40, none, [], .bin .eql (.t 39) (.k (.int .i64 1))⟩])
 (.cond (.t 40)
 (.ops [
⟨some 41, none, [], .move (.t 5)⟩,
⟨some 42, none, [], .move (.t 6)⟩,
⟨some 43, none, [], .slit 1 1 [.int .i64 0] [(0, .t 42)]⟩,
⟨some 44, none, [], .append (.t 41) (.t 43) 1 8⟩,
⟨some 5, none, [], .move (.t 44)⟩])
 .skip)))))
 (.ops [
⟨some 45, none, [], .bin .add (.t 12) (.k (.int .i64 1))⟩,
⟨some 12, none, [], .move (.t 45)⟩])))))))
 (.seq
 (.ops [
⟨some 46, none, [], .move (.t 5)⟩,
⟨some 4, none, [], .move (.t 46)⟩])
 .ret))))

/-- tidewall/tidewalllaw05.crosses -/
def F34 : AFunc :=
 .fn 71 [.tmp 8]
 (.seq
 (.ops [
⟨some 8, none, [], .move (.k (.bool false))⟩])
 (.seq
 (.ops [
⟨some 10, none, [], .move (.t 1)⟩,
⟨some 11, none, [], .move (.t 1)⟩,
⟨some 12, none, [], .bin .mul (.t 10) (.t 11)⟩,
⟨some 13, none, [], .bin .mul (.t 12) (.k (.int .i64 10000000000))⟩,
⟨some 9, none, [], .move (.t 13)⟩])
 (.seq
 (.seq
 (.ops [
⟨some 14, none, [], .move (.t 3)⟩])
 (.cond (.t 14)
 (.seq
 (.ops [
⟨some 15, none, [], .move (.t 0)⟩,
⟨some 16, none, [], .bin .geq (.t 15) (.k (.int .i64 1))⟩,
⟨some 17, none, [], .move (.t 16)⟩,
⟨some 18, (some (17, true)), [], .move (.t 0)⟩,
⟨some 19, (some (17, true)), [], .move (.t 0)⟩,
⟨some 20, (some (17, true)), [], .bin .mul (.t 18) (.t 19)⟩,
⟨some 21, (some (17, true)), [], .move (.t 9)⟩,
⟨some 22, (some (17, true)), [], .move (.t 2)⟩,
⟨some 23, (some (17, true)), [], .bin .mul (.k (.int .i64 981)) (.t 22)⟩,
⟨some 24, (some (17, true)), [], .bin .add (.t 21) (.t 23)⟩,
⟨some 25, (some (17, true)), [], .bin .sub (.t 24) (.k (.int .i64 1))⟩,
⟨some 26, (some (17, true)), [], .move (.t 2)⟩,
⟨some 27, (some (17, true)), [], .bin .mul (.k (.int .i64 981)) (.t 26)⟩,
⟨some 28, (some (17, true)), [], .bin .quo (.t 25) (.t 27)⟩,
⟨some 29, (some (17, true)), [], .bin .geq (.t 20) (.t 28)⟩,
⟨some 30, none, [], .pick (.t 17) (.t 29) (.k (.bool false))⟩,
⟨some 31, none, [], .move (.t 30)⟩,
⟨some 32, (some (31, true)), [], .move (.t 0)⟩,
⟨some 33, (some (31, true)), [], .bin .sub (.t 32) (.k (.int .i64 1))⟩,
⟨some 34, (some (31, true)), [], .move (.t 0)⟩,
⟨some 35, (some (31, true)), [], .bin .sub (.t 34) (.k (.int .i64 1))⟩,
⟨some 36, (some (31, true)), [], .bin .mul (.t 33) (.t 35)⟩,
⟨some 37, (some (31, true)), [], .move (.t 9)⟩,
⟨some 38, (some (31, true)), [], .move (.t 2)⟩,
⟨some 39, (some (31, true)), [], .bin .mul (.k (.int .i64 981)) (.t 38)⟩,
⟨some 40, (some (31, true)), [], .bin .add (.t 37) (.t 39)⟩,
⟨some 41, (some (31, true)), [], .bin .sub (.t 40) (.k (.int .i64 1))⟩,
⟨some 42, (some (31, true)), [], .move (.t 2)⟩,
⟨some 43, (some (31, true)), [], .bin .mul (.k (.int .i64 981)) (.t 42)⟩,
⟨some 44, (some (31, true)), [], .bin .quo (.t 41) (.t 43)⟩,
⟨some 45, (some (31, true)), [], .bin .lss (.t 36) (.t 44)⟩,
⟨some 46, none, [], .pick (.t 31) (.t 45) (.k (.bool false))⟩,
⟨some 8, none, [], .move (.t 46)⟩])
 .ret)
 .skip))
 (.seq
 (.ops [
⟨some 47, none, [], .move (.t 0)⟩,
⟨some 48, none, [], .bin .geq (.t 47) (.k (.int .i64 0))⟩,
⟨some 49, none, [], .move (.t 48)⟩,
⟨some 50, (some (49, true)), [], .move (.t 0)⟩,
⟨some 51, (some (49, true)), [], .move (.t 0)⟩,
⟨some 52, (some (49, true)), [], .bin .mul (.t 50) (.t 51)⟩,
⟨some 53, (some (49, true)), [], .move (.t 9)⟩,
⟨some 54, (some (49, true)), [], .move (.t 2)⟩,
⟨some 55, (some (49, true)), [], .bin .mul (.k (.int .i64 981)) (.t 54)⟩,
⟨some 56, (some (49, true)), [], .bin .quo (.t 53) (.t 55)⟩,
⟨some 57, (some (49, true)), [], .bin .leq (.t 52) (.t 56)⟩,
⟨some 58, none, [], .pick (.t 49) (.t 57) (.k (.bool false))⟩,
⟨some 59, none, [], .move (.t 58)⟩,
⟨some 60, (some (59, true)), [], .move (.t 0)⟩,
⟨some 61, (some (59, true)), [], .bin .add (.t 60) (.k (.int .i64 1))⟩,
⟨some 62, (some (59, true)), [], .move (.t 0)⟩,
⟨some 63, (some (59, true)), [], .bin .add (.t 62) (.k (.int .i64 1))⟩,
⟨some 64, (some (59, true)), [], .bin .mul (.t 61) (.t 63)⟩,
⟨some 65, (some (59, true)), [], .move (.t 9)⟩,
⟨some 66, (some (59, true)), [], .move (.t 2)⟩,
⟨some 67, (some (59, true)), [], .bin .mul (.k (.int .i64 981)) (.t 66)⟩,
⟨some 68, (some (59, true)), [], .bin .quo (.t 65) (.t 67)⟩,
⟨some 69, (some (59, true)), [], .bin .gtr (.t 64) (.t 68)⟩,
⟨some 70, none, [], .pick (.t 59) (.t 69) (.k (.bool false))⟩,
⟨some 8, none, [], .move (.t 70)⟩])
 .ret))))

/-- tidewall/tidewalllaw05.four -/
def F35 : AFunc :=
 .fn 7 [.cell 0 (some 4)]
 (.seq
 (.ops [
⟨some 0, none, [], .alloc [.int .i64 0, .int .i64 0, .int .i64 0, .slice none 0 0]⟩])
 (.seq
 (.ops [
⟨some 1, none, [], .call (.k (.func (.func 25) ⟨[]⟩ ⟨[]⟩)) [.k (.int .i64 (-40000)), .k (.int .i64 (-40000))] false⟩,
⟨some 2, none, [], .call (.k (.func (.func 25) ⟨[]⟩ ⟨[]⟩)) [.k (.int .i64 (-40000)), .k (.int .i64 (-40000))] false⟩,
⟨some 3, none, [], .call (.k (.func (.func 25) ⟨[]⟩ ⟨[]⟩)) [.k (.int .i64 (-1000)), .k (.int .i64 (-1000))] false⟩,
⟨some 4, none, [], .call (.k (.func (.func 25) ⟨[]⟩ ⟨[]⟩)) [.k (.int .i64 300), .k (.int .i64 300)] false⟩,
⟨some 5, none, [], .slit 4 2 [.int .i64 0, .int .i64 0] [(0, .t 1), (1, .t 2), (2, .t 3), (3, .t 4)]⟩,
⟨some 6, none, [], .build [.int .i64 0, .int .i64 0, .int .i64 0, .slice none 0 0] [(0, 1, .k (.int .i64 4)), (1, 1, .k (.int .i64 1)), (2, 1, .k (.int .i64 1000)), (3, 1, .t 5)]⟩,
⟨none, none, [], .store (.t 0) (.t 6) 4⟩])
 .ret))

/-- tidewall/tidewalllaw05.plain -/
def F36 : AFunc :=
 .fn 5 [.cell 0 (some 6)]
 (.seq
 (.ops [
⟨some 0, none, [], .alloc [.int .i64 0, .int .i64 0, .int .i64 0, .int .i64 0, .int .i64 0, .int .i64 0]⟩])
 (.seq
 (.ops [
⟨some 1, none, [], .call (.k (.func (.func 25) ⟨[]⟩ ⟨[]⟩)) [.k (.int .i64 1024), .k (.int .i64 1024)] false⟩,
⟨some 2, none, [], .call (.k (.func (.func 25) ⟨[]⟩ ⟨[]⟩)) [.k (.int .i64 100), .k (.int .i64 100)] false⟩,
⟨some 3, none, [], .call (.k (.func (.func 25) ⟨[]⟩ ⟨[]⟩)) [.k (.int .i64 10), .k (.int .i64 10)] false⟩,
⟨some 4, none, [], .build [.int .i64 0, .int .i64 0, .int .i64 0, .int .i64 0, .int .i64 0, .int .i64 0] [(0, 2, .t 1), (2, 2, .t 2), (4, 2, .t 3)]⟩,
⟨none, none, [], .store (.t 0) (.t 4) 6⟩])
 .ret))

/-- tidewall/grid.Check -/
def F37 : AFunc :=
 .fn 34 [.tmp 2]
 (.seq
 (.ops [
⟨some 1, none, [], .box (.t 0)⟩,
⟨some 2, none, [], .move (.k (.int .i64 0))⟩])
 (.seq
 (.block 0
 (.seq
 (.ops [
⟨some 4, none, [], .fieldAddr (.t 1) 0⟩,
⟨some 5, none, [], .load (.t 4) none⟩,
⟨some 6, none, [], .call (.k (.func (.func 55) ⟨[]⟩ ⟨[]⟩)) [.t 5, .k (.int .i64 1), .k (.int .i64 24)] false⟩,
⟨some 7, none, [], .not (.t 6)⟩,
⟨some 8, none, [], .move (.t 7)⟩,
⟨some 9, (some (8, false)), [], .fieldAddr (.t 1) 1⟩,
⟨some 10, (some (8, false)), [], .load (.t 9) none⟩,
⟨some 11, (some (8, false)), [], .call (.k (.func (.func 55) ⟨[]⟩ ⟨[]⟩)) [.t 10, .k (.int .i64 1), .k (.int .i64 24)] false⟩,
⟨some 12, (some (8, false)), [], .not (.t 11)⟩,
⟨some 13, none, [], .pick (.t 8) (.k (.bool true)) (.t 12)⟩,
⟨some 14, none, [], .move (.t 13)⟩,
⟨some 15, (some (14, false)), [], .fieldAddr (.t 1) 2⟩,
⟨some 16, (some (14, false)), [], .load (.t 15) none⟩,
⟨some 17, (some (14, false)), [], .call (.k (.func (.func 55) ⟨[]⟩ ⟨[]⟩)) [.t 16, .k (.int .i64 1), .k (.int .i64 10000)] false⟩,
⟨some 18, (some (14, false)), [], .not (.t 17)⟩,
⟨some 19, none, [], .pick (.t 14) (.k (.bool true)) (.t 18)⟩,
⟨some 3, none, [], .move (.t 19)⟩])
 (.cond (.t 3)
 (.seq
 (.ops [
⟨some 2, none, [], .move (.k (.int .i64 3))⟩])
 .ret)
 (.seq
 (.ops [
⟨some 21, none, [], .fieldAddr (.t 1) 3⟩,
⟨some 22, none, [], .load (.t 21) none⟩,
⟨some 23, none, [], .len (.t 22)⟩,
⟨some 24, none, [], .fieldAddr (.t 1) 0⟩,
⟨some 25, none, [], .load (.t 24) none⟩,
⟨some 26, none, [], .fieldAddr (.t 1) 1⟩,
⟨some 27, none, [], .load (.t 26) none⟩,
⟨some 28, none, [], .bin .mul (.t 25) (.t 27)⟩,
⟨some 29, none, [], .bin .neq (.t 23) (.t 28)⟩,
⟨some 20, none, [], .move (.t 29)⟩])
 (.cond (.t 20)
 (.seq
 (.ops [
⟨some 2, none, [], .move (.k (.int .i64 11))⟩])
 .ret)
 (.seq
 (.ops [
⟨some 31, none, [], .fieldAddr (.t 1) 3⟩,
⟨some 32, none, [], .load (.t 31) none⟩,
⟨some 33, none, [], .call (.k (.func (.func 56) ⟨[]⟩ ⟨[]⟩)) [.t 32, .k (.func (.func 57) ⟨[]⟩ ⟨[]⟩)] false⟩,
⟨some 30, none, [], .move (.t 33)⟩])
 (.cond (.t 30)
 (.seq
 (.ops [
⟨some 2, none, [], .move (.k (.int .i64 3))⟩])
 .ret)
 .skip)))))))
 (.seq
 (.ops [
⟨some 2, none, [], .move (.k (.int .i64 0))⟩])
 .ret)))

/-- tidewall/wave.checkSource -/
def F38 : AFunc :=
 .fn 41 [.tmp 4]
 (.seq
 (.ops [
⟨some 2, none, [], .box (.t 0)⟩,
⟨some 3, none, [], .box (.t 1)⟩,
⟨some 4, none, [], .move (.k (.int .i64 0))⟩])
 (.seq
 (.block 0
 (.seq
 (.ops [
⟨some 6, none, [], .fieldAddr (.t 3) 0⟩,
⟨some 7, none, [], .load (.t 6) none⟩,
⟨some 8, none, [], .bin .lss (.t 7) (.k (.int .i64 1))⟩,
⟨some 9, none, [], .move (.t 8)⟩,
⟨some 10, (some (9, false)), [], .fieldAddr (.t 3) 0⟩,
⟨some 11, (some (9, false)), [], .load (.t 10) none⟩,
⟨some 12, (some (9, false)), [], .bin .gtr (.t 11) (.k (.int .i64 3))⟩,
⟨some 13, none, [], .pick (.t 9) (.k (.bool true)) (.t 12)⟩,
⟨some 5, none, [], .move (.t 13)⟩])
 (.cond (.t 5)
 (.seq
 (.ops [
⟨some 4, none, [], .move (.k (.int .i64 2))⟩])
 .ret)
 (.seq
 (.ops [
⟨some 15, none, [], .fieldAddr (.t 3) 1⟩,
⟨some 16, none, [], .load (.t 15) none⟩,
⟨some 17, none, [], .bin .lss (.t 16) (.k (.int .i64 0))⟩,
⟨some 18, none, [], .move (.t 17)⟩,
⟨some 19, (some (18, false)), [], .fieldAddr (.t 3) 1⟩,
⟨some 20, (some (18, false)), [], .load (.t 19) none⟩,
⟨some 21, (some (18, false)), [], .fieldAddr (.t 2) 3⟩,
⟨some 22, (some (18, false)), [], .load (.t 21) none⟩,
⟨some 23, (some (18, false)), [], .len (.t 22)⟩,
⟨some 24, (some (18, false)), [], .bin .geq (.t 20) (.t 23)⟩,
⟨some 25, none, [], .pick (.t 18) (.k (.bool true)) (.t 24)⟩,
⟨some 14, none, [], .move (.t 25)⟩])
 (.cond (.t 14)
 (.seq
 (.ops [
⟨some 4, none, [], .move (.k (.int .i64 4))⟩])
 .ret)
 (.seq
 (.ops [
⟨some 27, none, [], .fieldAddr (.t 3) 2⟩,
⟨some 28, none, [], .load (.t 27) none⟩,
⟨some 29, none, [], .bin .lss (.t 28) (.k (.int .i64 1))⟩,
⟨some 30, none, [], .move (.t 29)⟩,
⟨some 31, (some (30, false)), [], .fieldAddr (.t 3) 2⟩,
⟨some 32, (some (30, false)), [], .load (.t 31) none⟩,
⟨some 33, (some (30, false)), [], .bin .gtr (.t 32) (.k (.int .i64 10))⟩,
⟨some 34, none, [], .pick (.t 30) (.k (.bool true)) (.t 33)⟩,
⟨some 35, none, [], .move (.t 34)⟩,
⟨some 36, (some (35, false)), [], .fieldAddr (.t 3) 3⟩,
⟨some 37, (some (35, false)), [], .load (.t 36) (some 2)⟩,
⟨some 38, (some (35, false)), [], .call (.k (.func (.func 42) ⟨[]⟩ ⟨[]⟩)) [.t 37, .k (.int .i64 0), .k (.int .i64 1000000000)] false⟩,
⟨some 39, (some (35, false)), [], .not (.t 38)⟩,
⟨some 40, none, [], .pick (.t 35) (.k (.bool true)) (.t 39)⟩,
⟨some 26, none, [], .move (.t 40)⟩])
 (.cond (.t 26)
 (.seq
 (.ops [
⟨some 4, none, [], .move (.k (.int .i64 3))⟩])
 .ret)
 .skip)))))))
 (.seq
 (.ops [
⟨some 4, none, [], .move (.k (.int .i64 0))⟩])
 .ret)))

/-- tidewall/wave.starts -/
def F39 : AFunc :=
 .fn 89 [.tmp 4]
 (.seq
 (.ops [
⟨some 2, none, [], .box (.t 0)⟩,
⟨some 3, none, [], .box (.t 1)⟩,
⟨some 4, none, [], .move (.k (.slice none 0 0))⟩])
 (.seq
 (.ops [
⟨some 13, none, [], .fieldAddr (.t 3) 2⟩,
⟨some 14, none, [], .load (.t 13) none⟩,
⟨some 15, none, [], .bin .shl (.k (.int .i64 1)) (.t 14)⟩,
⟨some 5, none, [], .move (.t 15)⟩,
⟨some 6, none, [], .move (.k (.int .i64 0))⟩])
 (.seq
 (.ops [
⟨some 16, none, [], .move (.t 5)⟩,
⟨some 17, none, [], .bin .quo (.t 16) (.k (.int .i64 2))⟩,
⟨some 18, none, [], .move (.t 5)⟩,
⟨some 19, none, [], .build [.int .i64 0, .int .i64 0] [(0, 1, .t 17), (1, 1, .t 18)]⟩,
⟨some 7, none, [], .alloc [.int .i64 0, .int .i64 0]⟩,
⟨none, none, [], .store (.t 7) (.t 19) 2⟩])
 (.seq
 (.seq
 (.ops [
⟨some 20, none, [], .fieldAddr (.t 3) 0⟩,
⟨some 21, none, [], .load (.t 20) none⟩])
 (.block 0
 (.seq
 (.ops [
⟨some 23, none, [], .bin .eql (.t 21) (.k (.int .i64 1))⟩,
⟨some 22, none, [], .move (.t 23)⟩])
 (.cond (.t 22)
 (.ops [
⟨some 24, none, [], .fieldAddr (.t 3) 2⟩,
⟨some 25, none, [], .load (.t 24) none⟩,
⟨some 26, none, [], .bin .quo (.t 25) (.k (.int .i64 4))⟩,
⟨some 6, none, [], .move (.t 26)⟩])
 (.seq
 (.ops [
⟨some 28, none, [], .bin .eql (.t 21) (.k (.int .i64 2))⟩,
⟨some 27, none, [], .move (.t 28)⟩])
 (.cond (.t 27)
 (.ops [
⟨some 29, none, [], .move (.t 5)⟩,
⟨some 30, none, [], .move (.t 5)⟩,
⟨some 31, none, [], .bin .mul (.k (.int .i64 2)) (.t 30)⟩,
⟨some 32, none, [], .build [.int .i64 0, .int .i64 0] [(0, 1, .t 29), (1, 1, .t 31)]⟩,
⟨none, none, [], .store (.t 7) (.t 32) 2⟩])
 (.seq
 (.ops [
⟨some 34, none, [], .bin .eql (.t 21) (.k (.int .i64 3))⟩,
⟨some 33, none, [], .move (.t 34)⟩])
 (.cond (.t 33)
 (.ops [
⟨some 6, none, [], .move (.k (.int .i64 1))⟩])
 .skip))))))))
 (.seq
 (.ops [
⟨some 8, none, [], .move (.k (.slice none 0 0))⟩])
 (.seq
 (.ops [
⟨some 35, none, [], .fieldAddr (.t 3) 1⟩,
⟨some 36, none, [], .load (.t 35) none⟩,
⟨some 37, none, [], .fieldAddr (.t 2) 0⟩,
⟨some 38, none, [], .load (.t 37) none⟩,
⟨some 39, none, [], .bin .rem (.t 36) (.t 38)⟩,
⟨some 40, none, [], .fieldAddr (.t 3) 1⟩,
⟨some 41, none, [], .load (.t 40) none⟩,
⟨some 42, none, [], .fieldAddr (.t 2) 0⟩,
⟨some 43, none, [], .load (.t 42) none⟩,
⟨some 44, none, [], .bin .quo (.t 41) (.t 43)⟩,
⟨some 9, none, [], .move (.t 39)⟩,
⟨some 10, none, [], .move (.t 44)⟩])
 (.seq
 (.seq
 (.ops [
⟨some 45, none, [], .move (.t 10)⟩,
⟨some 46, none, [], .move (.t 6)⟩,
⟨some 47, none, [], .bin .sub (.t 45) (.t 46)⟩,
⟨some 48, none, [], .max [.k (.int .i64 0), .t 47]⟩,
⟨some 11, none, [], .move (.t 48)⟩])
 (.block 1
 (.loop
 (.seq
 (.seq
 (.ops [
⟨some 49, none, [], .move (.t 11)⟩,
⟨some 50, none, [], .fieldAddr (.t 2) 1⟩,
⟨some 51, none, [], .load (.t 50) none⟩,
⟨some 52, none, [], .bin .sub (.t 51) (.k (.int .i64 1))⟩,
⟨some 53, none, [], .move (.t 10)⟩,
⟨some 54, none, [], .move (.t 6)⟩,
⟨some 55, none, [], .bin .add (.t 53) (.t 54)⟩,
⟨some 56, none, [], .min [.t 52, .t 55]⟩,
⟨some 57, none, [], .bin .leq (.t 49) (.t 56)⟩])
 (.cond (.t 57)
 .skip
 (.exit 1)))
 (.seq
 (.block 2
 (.seq
 (.ops [
⟨some 60, none, [], .move (.t 9)⟩,
⟨some 61, none, [], .move (.t 6)⟩,
⟨some 62, none, [], .bin .sub (.t 60) (.t 61)⟩,
⟨some 63, none, [], .max [.k (.int .i64 0), .t 62]⟩,
⟨some 12, none, [], .move (.t 63)⟩])
 (.block 3
 (.loop
 (.seq
 (.seq
 (.ops [
⟨some 64, none, [], .move (.t 12)⟩,
⟨some 65, none, [], .fieldAddr (.t 2) 0⟩,
⟨some 66, none, [], .load (.t 65) none⟩,
⟨some 67, none, [], .bin .sub (.t 66) (.k (.int .i64 1))⟩,
⟨some 68, none, [], .move (.t 9)⟩,
⟨some 69, none, [], .move (.t 6)⟩,
⟨some 70, none, [], .bin .add (.t 68) (.t 69)⟩,
⟨some 71, none, [], .min [.t 67, .t 70]⟩,
⟨some 72, none, [], .bin .leq (.t 64) (.t 71)⟩])
 (.cond (.t 72)
 .skip
 (.exit 3)))
 (.seq
 (.block 4
 (.ops [
⟨some 75, none, [], .move (.t 8)⟩,
⟨some 76, none, [], .move (.t 11)⟩,
⟨some 77, none, [], .fieldAddr (.t 2) 0⟩,
⟨some 78, none, [], .load (.t 77) none⟩,
⟨some 79, none, [], .bin .mul (.t 76) (.t 78)⟩,
⟨some 80, none, [], .move (.t 12)⟩,
⟨some 81, none, [], .bin .add (.t 79) (.t 80)⟩,
⟨some 82, none, [], .fieldAddr (.t 3) 3⟩,
⟨some 83, none, [], .load (.t 82) (some 2)⟩,
⟨some 84, none, [], .load (.t 7) (some 2)⟩,
⟨some 85, none, [], .build [.int .i64 0, .int .i64 0, .int .i64 0, .int .i64 0, .int .i64 0] [(0, 1, .t 81), (1, 2, .t 83), (3, 2, .t 84)]⟩,
⟨some 86, none, [], .slit 1 5 [.int .i64 0, .int .i64 0, .int .i64 0, .int .i64 0, .int .i64 0] [(0, .t 85)]⟩,
⟨some 87, none, [], .append (.t 75) (.t 86) 5 40⟩,
⟨some 8, none, [], .move (.t 87)⟩]))
 (.ops [
⟨some 73, none, [], .move (.t 12)⟩,
⟨some 74, none, [], .bin .add (.t 73) (.k (.int .i64 1))⟩,
⟨some 12, none, [], .move (.t 74)⟩])))))))
 (.ops [
⟨some 58, none, [], .move (.t 11)⟩,
⟨some 59, none, [], .bin .add (.t 58) (.k (.int .i64 1))⟩,
⟨some 11, none, [], .move (.t 59)⟩]))))))
 (.seq
 (.ops [
⟨some 88, none, [], .move (.t 8)⟩,
⟨some 4, none, [], .move (.t 88)⟩])
 .ret))))))))

/-- tidewall/tidewallref01.Check -/
def F40 : AFunc :=
 .fn 57 [.tmp 2]
 (.seq
 (.ops [
⟨some 1, none, [], .box (.t 0)⟩,
⟨some 2, none, [], .move (.k (.int .i64 0))⟩])
 (.seq
 (.seq
 (.ops [
⟨some 5, none, [], .fieldAddr (.t 1) 0⟩,
⟨some 6, none, [], .load (.t 5) none⟩,
⟨some 7, none, [], .call (.k (.func (.func 59) ⟨[]⟩ ⟨[]⟩)) [.t 6, .k (.int .i64 1), .k (.int .i64 24)] false⟩,
⟨some 8, none, [], .not (.t 7)⟩,
⟨some 9, none, [], .move (.t 8)⟩,
⟨some 10, (some (9, false)), [], .fieldAddr (.t 1) 1⟩,
⟨some 11, (some (9, false)), [], .load (.t 10) none⟩,
⟨some 12, (some (9, false)), [], .call (.k (.func (.func 59) ⟨[]⟩ ⟨[]⟩)) [.t 11, .k (.int .i64 1), .k (.int .i64 24)] false⟩,
⟨some 13, (some (9, false)), [], .not (.t 12)⟩,
⟨some 14, none, [], .pick (.t 9) (.k (.bool true)) (.t 13)⟩,
⟨some 15, none, [], .move (.t 14)⟩,
⟨some 16, (some (15, false)), [], .fieldAddr (.t 1) 2⟩,
⟨some 17, (some (15, false)), [], .load (.t 16) none⟩,
⟨some 18, (some (15, false)), [], .call (.k (.func (.func 59) ⟨[]⟩ ⟨[]⟩)) [.t 17, .k (.int .i64 1), .k (.int .i64 10000)] false⟩,
⟨some 19, (some (15, false)), [], .not (.t 18)⟩,
⟨some 20, none, [], .pick (.t 15) (.k (.bool true)) (.t 19)⟩])
 (.cond (.t 20)
 (.seq
 (.ops [
⟨some 2, none, [], .move (.k (.int .i64 3))⟩])
 .ret)
 .skip))
 (.seq
 (.seq
 (.ops [
⟨some 21, none, [], .fieldAddr (.t 1) 3⟩,
⟨some 22, none, [], .load (.t 21) none⟩,
⟨some 23, none, [], .len (.t 22)⟩,
⟨some 24, none, [], .fieldAddr (.t 1) 0⟩,
⟨some 25, none, [], .load (.t 24) none⟩,
⟨some 26, none, [], .fieldAddr (.t 1) 1⟩,
⟨some 27, none, [], .load (.t 26) none⟩,
⟨some 28, none, [], .bin .mul (.t 25) (.t 27)⟩,
⟨some 29, none, [], .bin .neq (.t 23) (.t 28)⟩])
 (.cond (.t 29)
 (.seq
 (.ops [
⟨some 2, none, [], .move (.k (.int .i64 11))⟩])
 .ret)
 .skip))
 (.seq
 (.seq
 (.ops [
⟨some 3, none, [], .move (.k (.int .i64 0))⟩])
 (.block 0
 (.loop
 (.seq
 (.seq
 (.ops [
⟨some 30, none, [], .move (.t 3)⟩,
⟨some 31, none, [], .fieldAddr (.t 1) 3⟩,
⟨some 32, none, [], .load (.t 31) none⟩,
⟨some 33, none, [], .len (.t 32)⟩,
⟨some 34, none, [], .bin .lss (.t 30) (.t 33)⟩])
 (.cond (.t 34)
 .skip
 (.exit 0)))
 (.seq
 (.block 1
 (.seq
 (.ops [
⟨some 37, none, [], .fieldAddr (.t 1) 3⟩,
⟨some 38, none, [], .load (.t 37) none⟩,
⟨some 39, none, [], .move (.t 3)⟩,
⟨some 40, none, [], .idxS (.t 38) (.t 39) 2⟩,
⟨some 41, none, [], .load (.t 40) (some 2)⟩,
⟨some 4, none, [], .alloc [.int .i64 0, .int .i64 0]⟩,
⟨none, none, [], .store (.t 4) (.t 41) 2⟩])
 (.seq
 (.ops [
⟨some 42, none, [], .fieldAddr (.t 4) 0⟩,
⟨some 43, none, [], .load (.t 42) none⟩,
⟨some 44, none, [], .fieldAddr (.t 4) 1⟩,
⟨some 45, none, [], .load (.t 44) none⟩,
⟨some 46, none, [], .bin .gtr (.t 43) (.t 45)⟩,
⟨some 47, none, [], .move (.t 46)⟩,
⟨some 48, (some (47, false)), [], .fieldAddr (.t 4) 0⟩,
⟨some 49, (some (47, false)), [], .load (.t 48) none⟩,
⟨some 50, (some (47, false)), [], .bin .lss (.t 49) (.k (.int .i64 (-1200000)))⟩,
⟨some 51, none, [], .pick (.t 47) (.k (.bool true)) (.t 50)⟩,
⟨some 52, none, [], .move (.t 51)⟩,
⟨some 53, (some (52, false)), [], .fieldAddr (.t 4) 1⟩,
⟨some 54, (some (52, false)), [], .load (.t 53) none⟩,
⟨some 55, (some (52, false)), [], .bin .gtr (.t 54) (.k (.int .i64 1200000))⟩,
⟨some 56, none, [], .pick (.t 52) (.k (.bool true)) (.t 55)⟩])
 (.cond (.t 56)
 (.seq
 (.ops [
⟨some 2, none, [], .move (.k (.int .i64 3))⟩])
 .ret)
 .skip))))
 (.ops [
⟨some 35, none, [], .move (.t 3)⟩,
⟨some 36, none, [], .bin .add (.t 35) (.k (.int .i64 1))⟩,
⟨some 3, none, [], .move (.t 36)⟩]))))))
 (.seq
 (.ops [
⟨some 2, none, [], .move (.k (.int .i64 0))⟩])
 .ret)))))

/-- tidewall/tidewallref05.Source -/
def F41 : AFunc :=
 .fn 43 [.tmp 4]
 (.seq
 (.ops [
⟨some 2, none, [], .box (.t 0)⟩,
⟨some 3, none, [], .box (.t 1)⟩,
⟨some 4, none, [], .move (.k (.int .i64 0))⟩])
 (.seq
 (.seq
 (.ops [
⟨some 5, none, [], .fieldAddr (.t 3) 0⟩,
⟨some 6, none, [], .load (.t 5) none⟩,
⟨some 7, none, [], .bin .neq (.t 6) (.k (.int .i64 1))⟩,
⟨some 8, none, [], .move (.t 7)⟩,
⟨some 9, (some (8, true)), [], .fieldAddr (.t 3) 0⟩,
⟨some 10, (some (8, true)), [], .load (.t 9) none⟩,
⟨some 11, (some (8, true)), [], .bin .neq (.t 10) (.k (.int .i64 2))⟩,
⟨some 12, none, [], .pick (.t 8) (.t 11) (.k (.bool false))⟩,
⟨some 13, none, [], .move (.t 12)⟩,
⟨some 14, (some (13, true)), [], .fieldAddr (.t 3) 0⟩,
⟨some 15, (some (13, true)), [], .load (.t 14) none⟩,
⟨some 16, (some (13, true)), [], .bin .neq (.t 15) (.k (.int .i64 3))⟩,
⟨some 17, none, [], .pick (.t 13) (.t 16) (.k (.bool false))⟩])
 (.cond (.t 17)
 (.seq
 (.ops [
⟨some 4, none, [], .move (.k (.int .i64 2))⟩])
 .ret)
 .skip))
 (.seq
 (.seq
 (.ops [
⟨some 18, none, [], .fieldAddr (.t 3) 1⟩,
⟨some 19, none, [], .load (.t 18) none⟩,
⟨some 20, none, [], .bin .lss (.t 19) (.k (.int .i64 0))⟩,
⟨some 21, none, [], .move (.t 20)⟩,
⟨some 22, (some (21, false)), [], .fieldAddr (.t 3) 1⟩,
⟨some 23, (some (21, false)), [], .load (.t 22) none⟩,
⟨some 24, (some (21, false)), [], .fieldAddr (.t 2) 3⟩,
⟨some 25, (some (21, false)), [], .load (.t 24) none⟩,
⟨some 26, (some (21, false)), [], .len (.t 25)⟩,
⟨some 27, (some (21, false)), [], .bin .geq (.t 23) (.t 26)⟩,
⟨some 28, none, [], .pick (.t 21) (.k (.bool true)) (.t 27)⟩])
 (.cond (.t 28)
 (.seq
 (.ops [
⟨some 4, none, [], .move (.k (.int .i64 4))⟩])
 .ret)
 .skip))
 (.seq
 (.seq
 (.ops [
⟨some 29, none, [], .fieldAddr (.t 3) 2⟩,
⟨some 30, none, [], .load (.t 29) none⟩,
⟨some 31, none, [], .bin .lss (.t 30) (.k (.int .i64 1))⟩,
⟨some 32, none, [], .move (.t 31)⟩,
⟨some 33, (some (32, false)), [], .fieldAddr (.t 3) 2⟩,
⟨some 34, (some (32, false)), [], .load (.t 33) none⟩,
⟨some 35, (some (32, false)), [], .bin .gtr (.t 34) (.k (.int .i64 10))⟩,
⟨some 36, none, [], .pick (.t 32) (.k (.bool true)) (.t 35)⟩,
⟨some 37, none, [], .move (.t 36)⟩,
⟨some 38, (some (37, false)), [], .fieldAddr (.t 3) 3⟩,
⟨some 39, (some (37, false)), [], .load (.t 38) (some 2)⟩,
⟨some 40, (some (37, false)), [], .call (.k (.func (.func 43) ⟨[]⟩ ⟨[]⟩)) [.t 39, .k (.int .i64 0), .k (.int .i64 1000000000)] false⟩,
⟨some 41, (some (37, false)), [], .not (.t 40)⟩,
⟨some 42, none, [], .pick (.t 37) (.k (.bool true)) (.t 41)⟩])
 (.cond (.t 42)
 (.seq
 (.ops [
⟨some 4, none, [], .move (.k (.int .i64 3))⟩])
 .ret)
 .skip))
 (.seq
 (.ops [
⟨some 4, none, [], .move (.k (.int .i64 0))⟩])
 .ret)))))

/-- tidewall/wave.within -/
def F42 : AFunc :=
 .fn 24 [.tmp 6]
 (.seq
 (.ops [
⟨some 3, none, [], .box (.t 0)⟩,
⟨some 6, none, [], .move (.k (.bool false))⟩])
 (.seq
 (.ops [
⟨some 7, none, [], .fieldAddr (.t 3) 0⟩,
⟨some 8, none, [], .load (.t 7) none⟩,
⟨some 9, none, [], .fieldAddr (.t 3) 1⟩,
⟨some 10, none, [], .load (.t 9) none⟩,
⟨some 11, none, [], .bin .leq (.t 8) (.t 10)⟩,
⟨some 12, none, [], .move (.t 11)⟩,
⟨some 13, (some (12, true)), [], .fieldAddr (.t 3) 0⟩,
⟨some 14, (some (12, true)), [], .load (.t 13) none⟩,
⟨some 15, (some (12, true)), [], .move (.t 1)⟩,
⟨some 16, (some (12, true)), [], .bin .geq (.t 14) (.t 15)⟩,
⟨some 17, none, [], .pick (.t 12) (.t 16) (.k (.bool false))⟩,
⟨some 18, none, [], .move (.t 17)⟩,
⟨some 19, (some (18, true)), [], .fieldAddr (.t 3) 1⟩,
⟨some 20, (some (18, true)), [], .load (.t 19) none⟩,
⟨some 21, (some (18, true)), [], .move (.t 2)⟩,
⟨some 22, (some (18, true)), [], .bin .leq (.t 20) (.t 21)⟩,
⟨some 23, none, [], .pick (.t 18) (.t 22) (.k (.bool false))⟩,
⟨some 6, none, [], .move (.t 23)⟩])
 .ret))

/-- tidewall/tidewallref05.Within -/
def F43 : AFunc :=
 .fn 24 [.tmp 6]
 (.seq
 (.ops [
⟨some 3, none, [], .box (.t 0)⟩,
⟨some 6, none, [], .move (.k (.bool false))⟩])
 (.seq
 (.ops [
⟨some 7, none, [], .fieldAddr (.t 3) 0⟩,
⟨some 8, none, [], .load (.t 7) none⟩,
⟨some 9, none, [], .fieldAddr (.t 3) 1⟩,
⟨some 10, none, [], .load (.t 9) none⟩,
⟨some 11, none, [], .bin .leq (.t 8) (.t 10)⟩,
⟨some 12, none, [], .move (.t 11)⟩,
⟨some 13, (some (12, true)), [], .fieldAddr (.t 3) 0⟩,
⟨some 14, (some (12, true)), [], .load (.t 13) none⟩,
⟨some 15, (some (12, true)), [], .move (.t 1)⟩,
⟨some 16, (some (12, true)), [], .bin .geq (.t 14) (.t 15)⟩,
⟨some 17, none, [], .pick (.t 12) (.t 16) (.k (.bool false))⟩,
⟨some 18, none, [], .move (.t 17)⟩,
⟨some 19, (some (18, true)), [], .fieldAddr (.t 3) 1⟩,
⟨some 20, (some (18, true)), [], .load (.t 19) none⟩,
⟨some 21, (some (18, true)), [], .move (.t 2)⟩,
⟨some 22, (some (18, true)), [], .bin .leq (.t 20) (.t 21)⟩,
⟨some 23, none, [], .pick (.t 18) (.t 22) (.k (.bool false))⟩,
⟨some 6, none, [], .move (.t 23)⟩])
 .ret))

/-- tidewall/wave.prepared -/
def F44 : AFunc :=
 .fn 18 [.tmp 6]
 (.seq
 (.ops [
⟨some 3, none, [], .box (.t 0)⟩,
⟨some 4, none, [], .box (.t 1)⟩,
⟨some 5, none, [], .box (.t 2)⟩,
⟨some 6, none, [], .move (.k (.int .i64 0))⟩])
 (.seq
 (.seq
 (.ops [
⟨some 8, none, [], .load (.t 3) (some 4)⟩,
⟨some 9, none, [], .call (.k (.func (.func 37) ⟨[]⟩ ⟨[]⟩)) [.t 8] false⟩,
⟨some 7, none, [], .move (.t 9)⟩])
 (.seq
 (.ops [
⟨some 10, none, [], .move (.t 7)⟩,
⟨some 11, none, [], .bin .neq (.t 10) (.k (.int .i64 0))⟩])
 (.cond (.t 11)
 (.seq
 (.ops [
⟨some 12, none, [], .move (.t 7)⟩,
⟨some 6, none, [], .move (.t 12)⟩])
 .ret)
 .skip)))
 (.seq
 (.seq
 (.ops [
⟨some 13, none, [], .load (.t 4) (some 2)⟩,
⟨some 14, none, [], .call (.k (.func (.func 42) ⟨[]⟩ ⟨[]⟩)) [.t 13, .k (.int .i64 (-20000)), .k (.int .i64 20000)] false⟩,
⟨some 15, none, [], .not (.t 14)⟩])
 (.cond (.t 15)
 (.seq
 (.ops [
⟨some 6, none, [], .move (.k (.int .i64 3))⟩])
 .ret)
 .skip))
 (.seq
 (.ops [
⟨some 16, none, [], .load (.t 5) (some 6)⟩,
⟨some 17, none, [], .call (.k (.func (.func 13) ⟨[]⟩ ⟨[]⟩)) [.t 16] false⟩,
⟨some 6, none, [], .move (.t 17)⟩])
 .ret))))

/-- tidewall/wave.spread -/
def F45 : AFunc :=
 .fn 246 [.tmp 8]
 (.seq
 (.ops [
⟨some 4, none, [], .box (.t 0)⟩,
⟨some 5, none, [], .box (.t 1)⟩,
⟨some 6, none, [], .box (.t 2)⟩,
⟨some 8, none, [], .move (.k (.slice none 0 0))⟩])
 (.seq
 (.ops [
⟨some 18, none, [], .call (.k (.func (.func 61) ⟨[]⟩ ⟨[]⟩)) [] true⟩,
⟨some 19, none, [], .load (.t 4) (some 4)⟩,
⟨some 20, none, [], .load (.t 5) (some 2)⟩,
⟨some 21, none, [], .load (.t 6) (some 6)⟩,
⟨some 22, none, [], .move (.t 3)⟩,
⟨some 23, none, [], .call (.k (.func (.func 60) ⟨[]⟩ ⟨[]⟩)) [.t 18, .t 19, .t 20, .t 21, .t 22] true⟩,
⟨some 24, none, [], .call (.k (.func (.func 62) ⟨[]⟩ ⟨[]⟩)) [] true⟩,
⟨some 25, none, [], .load (.t 4) (some 4)⟩,
⟨some 26, none, [], .load (.t 5) (some 2)⟩,
⟨some 27, none, [], .load (.t 6) (some 6)⟩,
⟨some 28, none, [], .move (.t 3)⟩,
⟨some 29, none, [], .call (.k (.func (.func 60) ⟨[]⟩ ⟨[]⟩)) [.t 24, .t 25, .t 26, .t 27, .t 28] false⟩,
⟨some 9, none, [], .move (.t 23)⟩,
⟨some 10, none, [], .move (.t 29)⟩])
 (.seq
 (.ops [
⟨some 30, none, [], .fieldAddr (.t 4) 3⟩,
⟨some 31, none, [], .load (.t 30) none⟩,
⟨some 32, none, [], .len (.t 31)⟩,
⟨some 33, none, [], .makeS (.t 32) (.t 32) 8 64 [.int .i64 0, .int .i64 0, .int .i64 0, .int .i64 0, .int .i64 0, .int .i64 0, .int .i64 0, .int .i64 0]⟩,
⟨some 11, none, [], .move (.t 33)⟩])
 (.seq
 (.seq
 (.ops [
⟨some 34, none, [], .fieldAddr (.t 4) 3⟩,
⟨some 35, none, [], .load (.t 34) none⟩,
⟨some 36, none, [], .len (.t 35)⟩,
⟨some 37, none, [], .move (.k (.int .i64 0))⟩])
 (.block 0
 (.loop
 (.seq
 (.ops [
⟨some 38, none, [], .bin .lss (.t 37) (.t 36)⟩])
 (.seq
 (.cond (.t 38)
 .skip
 (.exit 0))
 (.seq
 (.block 1
 (.seq
 (.ops [
⟨some 39, none, [], .move (.t 37)⟩,
⟨some 40, none, [], .idxS (.t 35) (.t 37) 2⟩,
⟨some 41, none, [], .load (.t 40) (some 2)⟩,
⟨some 13, none, [], .alloc [.int .i64 0, .int .i64 0]⟩,
⟨some 12, none, [], .move (.t 39)⟩,
⟨none, none, [], .store (.t 13) (.t 41) 2⟩])
 (.seq
 (.ops [
⟨some 42, none, [], .move (.t 11)⟩,
⟨some 43, none, [], .move (.t 12)⟩,
⟨some 44, none, [], .idxS (.t 42) (.t 43) 8⟩,
⟨some 14, none, [], .move (.t 44)⟩])
 (.seq
 (.ops [
⟨some 45, none, [], .move (.t 14)⟩,
⟨some 46, none, [], .move (.t 10)⟩,
⟨some 47, none, [], .nilCheck (.t 46)⟩,
⟨some 48, none, [], .fieldAddr (.t 47) 16⟩,
⟨some 49, none, [], .load (.t 48) none⟩,
⟨some 50, none, [], .move (.t 12)⟩,
⟨some 51, none, [], .idxS (.t 49) (.t 50) 1⟩,
⟨some 52, none, [], .load (.t 51) none⟩,
⟨some 53, none, [], .move (.t 9)⟩,
⟨some 54, none, [], .nilCheck (.t 53)⟩,
⟨some 55, none, [], .fieldAddr (.t 54) 16⟩,
⟨some 56, none, [], .load (.t 55) none⟩,
⟨some 57, none, [], .move (.t 12)⟩,
⟨some 58, none, [], .idxS (.t 56) (.t 57) 1⟩,
⟨some 59, none, [], .load (.t 58) none⟩,
⟨some 60, none, [], .build [.int .i64 0, .int .i64 0] [(0, 1, .t 52), (1, 1, .t 59)]⟩,
⟨some 61, none, [], .nilCheck (.t 45)⟩,
⟨some 62, none, [], .fieldAddr (.t 61) 0⟩,
⟨none, none, [], .store (.t 62) (.t 60) 2⟩])
 (.seq
 (.ops [
⟨some 63, none, [], .move (.t 14)⟩,
⟨some 64, none, [], .move (.t 14)⟩,
⟨some 65, none, [], .fieldAddr (.t 13) 0⟩,
⟨some 66, none, [], .load (.t 65) none⟩,
⟨some 67, none, [], .fieldAddr (.t 13) 1⟩,
⟨some 68, none, [], .load (.t 67) none⟩,
⟨some 69, none, [], .nilCheck (.t 63)⟩,
⟨some 70, none, [], .fieldAddr (.t 69) 4⟩,
⟨some 71, none, [], .fieldAddr (.t 70) 0⟩,
⟨none, none, [(.t 71, 1, .t 67, 1)], .store (.t 71) (.t 66) 1⟩,
⟨some 72, none, [], .nilCheck (.t 64)⟩,
⟨some 73, none, [], .fieldAddr (.t 72) 4⟩,
⟨some 74, none, [], .fieldAddr (.t 73) 1⟩,
⟨none, none, [], .store (.t 74) (.t 68) 1⟩])
 (.seq
 (.block 2
 (.seq
 (.ops [
⟨some 76, none, [], .move (.t 9)⟩,
⟨some 77, none, [], .move (.t 12)⟩,
⟨some 78, none, [], .call (.k (.func (.func 63) ⟨[]⟩ ⟨[]⟩)) [.t 76, .t 77] false⟩,
⟨some 75, none, [], .move (.t 78)⟩])
 (.cond (.t 75)
 (.seq
 (.ops [
⟨some 79, none, [], .move (.t 9)⟩,
⟨some 80, none, [], .move (.t 12)⟩,
⟨some 81, none, [], .call (.k (.func (.func 64) ⟨[]⟩ ⟨[]⟩)) [.t 79, .t 80] false⟩,
⟨some 15, none, [], .move (.t 81)⟩])
 (.seq
 (.ops [
⟨some 82, none, [], .move (.t 14)⟩,
⟨some 83, none, [], .move (.t 14)⟩,
⟨some 84, none, [], .move (.t 15)⟩,
⟨some 85, none, [], .fieldAddr (.t 5) 0⟩,
⟨some 86, none, [], .load (.t 85) none⟩,
⟨some 87, none, [], .move (.t 15)⟩,
⟨some 88, none, [], .bin .add (.t 86) (.t 87)⟩,
⟨some 89, none, [], .nilCheck (.t 82)⟩,
⟨some 90, none, [], .fieldAddr (.t 89) 2⟩,
⟨some 91, none, [], .fieldAddr (.t 90) 0⟩,
⟨none, none, [(.t 91, 1, .t 85, 1)], .store (.t 91) (.t 84) 1⟩,
⟨some 92, none, [], .nilCheck (.t 83)⟩,
⟨some 93, none, [], .fieldAddr (.t 92) 4⟩,
⟨some 94, none, [], .fieldAddr (.t 93) 0⟩,
⟨none, none, [], .store (.t 94) (.t 88) 1⟩])
 (.seq
 (.ops [
⟨some 95, none, [], .move (.t 14)⟩,
⟨some 96, none, [], .move (.t 15)⟩,
⟨some 97, none, [], .move (.t 15)⟩,
⟨some 98, none, [], .bin .mul (.t 96) (.t 97)⟩,
⟨some 99, none, [], .bin .mul (.t 98) (.k (.int .i64 981))⟩,
⟨some 100, none, [], .move (.t 9)⟩,
⟨some 101, none, [], .move (.t 12)⟩,
⟨some 102, none, [], .call (.k (.func (.func 66) ⟨[]⟩ ⟨[]⟩)) [.t 100, .t 101] false⟩,
⟨some 103, none, [], .bin .quo (.t 99) (.t 102)⟩,
⟨some 104, none, [], .call (.k (.func (.func 65) ⟨[]⟩ ⟨[]⟩)) [.t 103] false⟩,
⟨some 105, none, [], .nilCheck (.t 95)⟩,
⟨some 106, none, [], .fieldAddr (.t 105) 6⟩,
⟨some 107, none, [], .fieldAddr (.t 106) 0⟩,
⟨none, none, [], .store (.t 107) (.t 104) 1⟩])
 (.ops [
⟨some 108, none, [], .move (.t 14)⟩,
⟨some 109, none, [], .nilCheck (.t 108)⟩,
⟨some 110, none, [], .fieldAddr (.t 109) 4⟩,
⟨some 111, none, [], .fieldAddr (.t 110) 1⟩,
⟨none, none, [], .store (.t 111) (.k (.int .i64 (-1200000))) 1⟩]))))
 (.seq
 (.ops [
⟨some 113, none, [], .move (.t 9)⟩,
⟨some 114, none, [], .nilCheck (.t 113)⟩,
⟨some 115, none, [], .fieldAddr (.t 114) 18⟩,
⟨some 116, none, [], .load (.t 115) none⟩,
⟨some 117, none, [], .move (.t 12)⟩,
⟨some 118, none, [], .idxS (.t 116) (.t 117) 1⟩,
⟨some 119, none, [], .load (.t 118) none⟩,
⟨some 120, none, [], .bin .neq (.t 119) (.k (.int .i64 (-1099511627776)))⟩,
⟨some 112, none, [], .move (.t 120)⟩])
 (.cond (.t 112)
 (.seq
 (.ops [
⟨some 121, none, [], .move (.t 14)⟩,
⟨some 122, none, [], .move (.t 9)⟩,
⟨some 123, none, [], .nilCheck (.t 122)⟩,
⟨some 124, none, [], .fieldAddr (.t 123) 18⟩,
⟨some 125, none, [], .load (.t 124) none⟩,
⟨some 126, none, [], .move (.t 12)⟩,
⟨some 127, none, [], .idxS (.t 125) (.t 126) 1⟩,
⟨some 128, none, [], .load (.t 127) none⟩,
⟨some 129, none, [], .nilCheck (.t 121)⟩,
⟨some 130, none, [], .fieldAddr (.t 129) 4⟩,
⟨some 131, none, [], .fieldAddr (.t 130) 0⟩,
⟨none, none, [], .store (.t 131) (.t 128) 1⟩])
 (.seq
 (.ops [
⟨some 132, none, [], .move (.t 14)⟩,
⟨some 133, none, [], .move (.t 14)⟩,
⟨some 134, none, [], .nilCheck (.t 133)⟩,
⟨some 135, none, [], .fieldAddr (.t 134) 4⟩,
⟨some 136, none, [], .fieldAddr (.t 135) 0⟩,
⟨some 137, none, [], .load (.t 136) none⟩,
⟨some 138, none, [], .fieldAddr (.t 13) 1⟩,
⟨some 139, none, [], .load (.t 138) none⟩,
⟨some 140, none, [], .bin .sub (.t 137) (.t 139)⟩,
⟨some 141, none, [], .nilCheck (.t 132)⟩,
⟨some 142, none, [], .fieldAddr (.t 141) 2⟩,
⟨some 143, none, [], .fieldAddr (.t 142) 0⟩,
⟨none, none, [], .store (.t 143) (.t 140) 1⟩])
 (.ops [
⟨some 144, none, [], .move (.t 14)⟩,
⟨some 145, none, [], .move (.t 14)⟩,
⟨some 146, none, [], .nilCheck (.t 145)⟩,
⟨some 147, none, [], .fieldAddr (.t 146) 2⟩,
⟨some 148, none, [], .fieldAddr (.t 147) 0⟩,
⟨some 149, none, [], .load (.t 148) none⟩,
⟨some 150, none, [], .bin .mul (.k (.int .i64 981)) (.t 149)⟩,
⟨some 151, none, [], .call (.k (.func (.func 65) ⟨[]⟩ ⟨[]⟩)) [.t 150] false⟩,
⟨some 152, none, [], .nilCheck (.t 144)⟩,
⟨some 153, none, [], .fieldAddr (.t 152) 6⟩,
⟨some 154, none, [], .fieldAddr (.t 153) 0⟩,
⟨none, none, [], .store (.t 154) (.t 151) 1⟩])))
 .skip)))))
 (.seq
 (.seq
 (.ops [
⟨some 155, none, [], .move (.t 10)⟩,
⟨some 156, none, [], .move (.t 12)⟩,
⟨some 157, none, [], .call (.k (.func (.func 63) ⟨[]⟩ ⟨[]⟩)) [.t 155, .t 156] false⟩])
 (.cond (.t 157)
 (.seq
 (.ops [
⟨some 158, none, [], .move (.t 10)⟩,
⟨some 159, none, [], .move (.t 12)⟩,
⟨some 160, none, [], .call (.k (.func (.func 64) ⟨[]⟩ ⟨[]⟩)) [.t 158, .t 159] false⟩,
⟨some 16, none, [], .move (.t 160)⟩])
 (.seq
 (.ops [
⟨some 161, none, [], .move (.t 14)⟩,
⟨some 162, none, [], .move (.t 14)⟩,
⟨some 163, none, [], .move (.t 16)⟩,
⟨some 164, none, [], .move (.t 14)⟩,
⟨some 165, none, [], .nilCheck (.t 164)⟩,
⟨some 166, none, [], .fieldAddr (.t 165) 4⟩,
⟨some 167, none, [], .fieldAddr (.t 166) 1⟩,
⟨some 168, none, [], .load (.t 167) none⟩,
⟨some 169, none, [], .fieldAddr (.t 5) 1⟩,
⟨some 170, none, [], .load (.t 169) none⟩,
⟨some 171, none, [], .move (.t 16)⟩,
⟨some 172, none, [], .bin .add (.t 170) (.t 171)⟩,
⟨some 173, none, [], .max [.t 168, .t 172]⟩,
⟨some 174, none, [], .nilCheck (.t 161)⟩,
⟨some 175, none, [], .fieldAddr (.t 174) 2⟩,
⟨some 176, none, [], .fieldAddr (.t 175) 1⟩,
⟨none, none, [(.t 176, 1, .t 169, 1)], .store (.t 176) (.t 163) 1⟩,
⟨some 177, none, [], .nilCheck (.t 162)⟩,
⟨some 178, none, [], .fieldAddr (.t 177) 4⟩,
⟨some 179, none, [], .fieldAddr (.t 178) 1⟩,
⟨none, none, [], .store (.t 179) (.t 173) 1⟩])
 (.ops [
⟨some 180, none, [], .move (.t 14)⟩,
⟨some 181, none, [], .move (.t 16)⟩,
⟨some 182, none, [], .move (.t 16)⟩,
⟨some 183, none, [], .bin .mul (.t 181) (.t 182)⟩,
⟨some 184, none, [], .bin .mul (.t 183) (.k (.int .i64 981))⟩,
⟨some 185, none, [], .move (.t 10)⟩,
⟨some 186, none, [], .move (.t 12)⟩,
⟨some 187, none, [], .call (.k (.func (.func 66) ⟨[]⟩ ⟨[]⟩)) [.t 185, .t 186] false⟩,
⟨some 188, none, [], .max [.k (.int .i64 1), .t 187]⟩,
⟨some 189, none, [], .call (.k (.func (.func 68) ⟨[]⟩ ⟨[]⟩)) [.t 184, .t 188] false⟩,
⟨some 190, none, [], .call (.k (.func (.func 67) ⟨[]⟩ ⟨[]⟩)) [.t 189] false⟩,
⟨some 191, none, [], .nilCheck (.t 180)⟩,
⟨some 192, none, [], .fieldAddr (.t 191) 6⟩,
⟨some 193, none, [], .fieldAddr (.t 192) 1⟩,
⟨none, none, [], .store (.t 193) (.t 190) 1⟩])))
 .skip))
 (.seq
 (.ops [
⟨some 194, none, [], .move (.t 10)⟩,
⟨some 195, none, [], .nilCheck (.t 194)⟩,
⟨some 196, none, [], .fieldAddr (.t 195) 19⟩,
⟨some 197, none, [], .load (.t 196) none⟩,
⟨some 198, none, [], .move (.t 12)⟩,
⟨some 199, none, [], .idxS (.t 197) (.t 198) 1⟩,
⟨some 200, none, [], .load (.t 199) none⟩,
⟨some 17, none, [], .move (.t 200)⟩])
 (.seq
 (.ops [
⟨some 201, none, [], .move (.t 17)⟩,
⟨some 202, none, [], .bin .neq (.t 201) (.k (.int .i64 (-1099511627776)))⟩])
 (.cond (.t 202)
 (.seq
 (.ops [
⟨some 203, none, [], .move (.t 14)⟩,
⟨some 204, none, [], .move (.t 14)⟩,
⟨some 205, none, [], .move (.t 14)⟩,
⟨some 206, none, [], .nilCheck (.t 205)⟩,
⟨some 207, none, [], .fieldAddr (.t 206) 2⟩,
⟨some 208, none, [], .fieldAddr (.t 207) 1⟩,
⟨some 209, none, [], .load (.t 208) none⟩,
⟨some 210, none, [], .move (.t 17)⟩,
⟨some 211, none, [], .fieldAddr (.t 13) 0⟩,
⟨some 212, none, [], .load (.t 211) none⟩,
⟨some 213, none, [], .bin .sub (.t 210) (.t 212)⟩,
⟨some 214, none, [], .max [.t 209, .t 213]⟩,
⟨some 215, none, [], .move (.t 14)⟩,
⟨some 216, none, [], .nilCheck (.t 215)⟩,
⟨some 217, none, [], .fieldAddr (.t 216) 4⟩,
⟨some 218, none, [], .fieldAddr (.t 217) 1⟩,
⟨some 219, none, [], .load (.t 218) none⟩,
⟨some 220, none, [], .move (.t 17)⟩,
⟨some 221, none, [], .max [.t 219, .t 220]⟩,
⟨some 222, none, [], .nilCheck (.t 203)⟩,
⟨some 223, none, [], .fieldAddr (.t 222) 2⟩,
⟨some 224, none, [], .fieldAddr (.t 223) 1⟩,
⟨none, none, [], .store (.t 224) (.t 214) 1⟩,
⟨some 225, none, [], .nilCheck (.t 204)⟩,
⟨some 226, none, [], .fieldAddr (.t 225) 4⟩,
⟨some 227, none, [], .fieldAddr (.t 226) 1⟩,
⟨none, none, [], .store (.t 227) (.t 221) 1⟩])
 (.ops [
⟨some 228, none, [], .move (.t 14)⟩,
⟨some 229, none, [], .move (.t 14)⟩,
⟨some 230, none, [], .nilCheck (.t 229)⟩,
⟨some 231, none, [], .fieldAddr (.t 230) 6⟩,
⟨some 232, none, [], .fieldAddr (.t 231) 1⟩,
⟨some 233, none, [], .load (.t 232) none⟩,
⟨some 234, none, [], .move (.t 17)⟩,
⟨some 235, none, [], .fieldAddr (.t 13) 0⟩,
⟨some 236, none, [], .load (.t 235) none⟩,
⟨some 237, none, [], .bin .sub (.t 234) (.t 236)⟩,
⟨some 238, none, [], .bin .mul (.k (.int .i64 981)) (.t 237)⟩,
⟨some 239, none, [], .call (.k (.func (.func 67) ⟨[]⟩ ⟨[]⟩)) [.t 238] true⟩,
⟨some 240, none, [], .max [.t 233, .t 239]⟩,
⟨some 241, none, [], .nilCheck (.t 228)⟩,
⟨some 242, none, [], .fieldAddr (.t 241) 6⟩,
⟨some 243, none, [], .fieldAddr (.t 242) 1⟩,
⟨none, none, [], .store (.t 243) (.t 240) 1⟩]))
 .skip))))))))))
 (.ops [
⟨some 244, none, [], .bin .add (.t 37) (.k (.int .i64 1))⟩,
⟨some 37, none, [], .move (.t 244)⟩])))))))
 (.seq
 (.ops [
⟨some 245, none, [], .move (.t 11)⟩,
⟨some 8, none, [], .move (.t 245)⟩])
 .ret)))))

/-- tidewall/tidewallref05.prepared -/
def F46 : AFunc :=
 .fn 18 [.tmp 6]
 (.seq
 (.ops [
⟨some 3, none, [], .box (.t 0)⟩,
⟨some 4, none, [], .box (.t 1)⟩,
⟨some 5, none, [], .box (.t 2)⟩,
⟨some 6, none, [], .move (.k (.int .i64 0))⟩])
 (.seq
 (.ops [
⟨some 8, none, [], .load (.t 3) (some 4)⟩,
⟨some 9, none, [], .call (.k (.func (.func 40) ⟨[]⟩ ⟨[]⟩)) [.t 8] false⟩,
⟨some 7, none, [], .move (.t 9)⟩])
 (.seq
 (.seq
 (.ops [
⟨some 10, none, [], .move (.t 7)⟩,
⟨some 11, none, [], .bin .neq (.t 10) (.k (.int .i64 0))⟩])
 (.cond (.t 11)
 (.seq
 (.ops [
⟨some 12, none, [], .move (.t 7)⟩,
⟨some 6, none, [], .move (.t 12)⟩])
 .ret)
 .skip))
 (.seq
 (.seq
 (.ops [
⟨some 13, none, [], .load (.t 4) (some 2)⟩,
⟨some 14, none, [], .call (.k (.func (.func 43) ⟨[]⟩ ⟨[]⟩)) [.t 13, .k (.int .i64 (-20000)), .k (.int .i64 20000)] false⟩,
⟨some 15, none, [], .not (.t 14)⟩])
 (.cond (.t 15)
 (.seq
 (.ops [
⟨some 6, none, [], .move (.k (.int .i64 3))⟩])
 .ret)
 .skip))
 (.seq
 (.ops [
⟨some 16, none, [], .load (.t 5) (some 6)⟩,
⟨some 17, none, [], .call (.k (.func (.func 15) ⟨[]⟩ ⟨[]⟩)) [.t 16] false⟩,
⟨some 6, none, [], .move (.t 17)⟩])
 .ret)))))

/-- tidewall/wave.join -/
def F47 : AFunc :=
 .fn 16 [.cell 4 (some 2)]
 (.seq
 (.ops [
⟨some 2, none, [], .box (.t 0)⟩,
⟨some 3, none, [], .box (.t 1)⟩,
⟨some 4, none, [], .alloc [.int .i64 0, .int .i64 0]⟩])
 (.seq
 (.ops [
⟨some 5, none, [], .fieldAddr (.t 2) 0⟩,
⟨some 6, none, [], .load (.t 5) none⟩,
⟨some 7, none, [], .fieldAddr (.t 3) 0⟩,
⟨some 8, none, [], .load (.t 7) none⟩,
⟨some 9, none, [], .min [.t 6, .t 8]⟩,
⟨some 10, none, [], .fieldAddr (.t 2) 1⟩,
⟨some 11, none, [], .load (.t 10) none⟩,
⟨some 12, none, [], .fieldAddr (.t 3) 1⟩,
⟨some 13, none, [], .load (.t 12) none⟩,
⟨some 14, none, [], .max [.t 11, .t 13]⟩,
⟨some 15, none, [], .build [.int .i64 0, .int .i64 0] [(0, 1, .t 9), (1, 1, .t 14)]⟩,
⟨none, none, [], .store (.t 4) (.t 15) 2⟩])
 .ret))

/-- tidewall/tidewallref05.both -/
def F48 : AFunc :=
 .fn 16 [.cell 4 (some 2)]
 (.seq
 (.ops [
⟨some 2, none, [], .box (.t 0)⟩,
⟨some 3, none, [], .box (.t 1)⟩,
⟨some 4, none, [], .alloc [.int .i64 0, .int .i64 0]⟩])
 (.seq
 (.ops [
⟨some 5, none, [], .fieldAddr (.t 2) 0⟩,
⟨some 6, none, [], .load (.t 5) none⟩,
⟨some 7, none, [], .fieldAddr (.t 3) 0⟩,
⟨some 8, none, [], .load (.t 7) none⟩,
⟨some 9, none, [], .min [.t 6, .t 8]⟩,
⟨some 10, none, [], .fieldAddr (.t 2) 1⟩,
⟨some 11, none, [], .load (.t 10) none⟩,
⟨some 12, none, [], .fieldAddr (.t 3) 1⟩,
⟨some 13, none, [], .load (.t 12) none⟩,
⟨some 14, none, [], .max [.t 11, .t 13]⟩,
⟨some 15, none, [], .build [.int .i64 0, .int .i64 0] [(0, 1, .t 9), (1, 1, .t 14)]⟩,
⟨none, none, [], .store (.t 4) (.t 15) 2⟩])
 .ret))

/-- (tidewall/tidewalllaw05.Coast).grid$1 -/
def F49 : AFunc :=
 .fn 26 [.cell 8 (some 2)]
 (.seq
 (.ops [
⟨some 8, none, [], .alloc [.int .i64 0, .int .i64 0]⟩])
 (.seq
 (.ops [
⟨some 9, none, [], .move (.t 2)⟩,
⟨some 10, none, [], .move (.t 0)⟩,
⟨some 11, none, [], .move (.t 3)⟩,
⟨some 12, none, [], .bin .rem (.t 10) (.t 11)⟩,
⟨some 13, none, [], .bin .add (.t 9) (.t 12)⟩,
⟨some 14, none, [], .move (.t 2)⟩,
⟨some 15, none, [], .move (.t 1)⟩,
⟨some 16, none, [], .move (.t 3)⟩,
⟨some 17, none, [], .bin .rem (.t 15) (.t 16)⟩,
⟨some 18, none, [], .bin .add (.t 14) (.t 17)⟩,
⟨some 0, none, [], .move (.t 13)⟩,
⟨some 1, none, [], .move (.t 18)⟩])
 (.seq
 (.ops [
⟨some 19, none, [], .move (.t 0)⟩,
⟨some 20, none, [], .move (.t 1)⟩,
⟨some 21, none, [], .min [.t 19, .t 20]⟩,
⟨some 22, none, [], .move (.t 0)⟩,
⟨some 23, none, [], .move (.t 1)⟩,
⟨some 24, none, [], .max [.t 22, .t 23]⟩,
⟨some 25, none, [], .call (.k (.func (.func 25) ⟨[]⟩ ⟨[]⟩)) [.t 21, .t 24] false⟩,
⟨none, none, [], .store (.t 8) (.t 25) 2⟩])
 .ret)))

/-- tidewall/tidewalllaw05.within -/
def F50 : AFunc :=
 .fn 24 [.tmp 4]
 (.seq
 (.ops [
⟨some 2, none, [], .box (.t 0)⟩,
⟨some 3, none, [], .box (.t 1)⟩,
⟨some 4, none, [], .move (.k (.bool false))⟩])
 (.seq
 (.ops [
⟨some 5, none, [], .fieldAddr (.t 2) 0⟩,
⟨some 6, none, [], .load (.t 5) none⟩,
⟨some 7, none, [], .fieldAddr (.t 3) 0⟩,
⟨some 8, none, [], .load (.t 7) none⟩,
⟨some 9, none, [], .bin .geq (.t 6) (.t 8)⟩,
⟨some 10, none, [], .move (.t 9)⟩,
⟨some 11, (some (10, true)), [], .fieldAddr (.t 2) 1⟩,
⟨some 12, (some (10, true)), [], .load (.t 11) none⟩,
⟨some 13, (some (10, true)), [], .fieldAddr (.t 3) 1⟩,
⟨some 14, (some (10, true)), [], .load (.t 13) none⟩,
⟨some 15, (some (10, true)), [], .bin .leq (.t 12) (.t 14)⟩,
⟨some 16, none, [], .pick (.t 10) (.t 15) (.k (.bool false))⟩,
⟨some 17, none, [], .move (.t 16)⟩,
⟨some 18, (some (17, true)), [], .fieldAddr (.t 2) 0⟩,
⟨some 19, (some (17, true)), [], .load (.t 18) none⟩,
⟨some 20, (some (17, true)), [], .fieldAddr (.t 2) 1⟩,
⟨some 21, (some (17, true)), [], .load (.t 20) none⟩,
⟨some 22, (some (17, true)), [], .bin .leq (.t 19) (.t 21)⟩,
⟨some 23, none, [], .pick (.t 17) (.t 22) (.k (.bool false))⟩,
⟨some 4, none, [], .move (.t 23)⟩])
 .ret))

/-- tidewall/tidewallref05.fill -/
def F51 : AFunc :=
 .fn 17 [.tmp 4]
 (.seq
 (.ops [
⟨some 4, none, [], .move (.k (.slice none 0 0))⟩])
 (.seq
 (.ops [
⟨some 5, none, [], .move (.k (.slice none 0 0))⟩])
 (.seq
 (.seq
 (.ops [
⟨some 6, none, [], .move (.k (.int .i64 0))⟩])
 (.block 0
 (.loop
 (.seq
 (.seq
 (.ops [
⟨some 7, none, [], .move (.t 6)⟩,
⟨some 8, none, [], .move (.t 0)⟩,
⟨some 9, none, [], .bin .lss (.t 7) (.t 8)⟩])
 (.cond (.t 9)
 .skip
 (.exit 0)))
 (.seq
 (.block 1
 (.ops [
⟨some 12, none, [], .move (.t 5)⟩,
⟨some 13, none, [], .move (.t 1)⟩,
⟨some 14, none, [], .slit 1 1 [.int .i64 0] [(0, .t 13)]⟩,
⟨some 15, none, [], .append (.t 12) (.t 14) 1 8⟩,
⟨some 5, none, [], .move (.t 15)⟩]))
 (.ops [
⟨some 10, none, [], .move (.t 6)⟩,
⟨some 11, none, [], .bin .add (.t 10) (.k (.int .i64 1))⟩,
⟨some 6, none, [], .move (.t 11)⟩]))))))
 (.seq
 (.ops [
⟨some 16, none, [], .move (.t 5)⟩,
⟨some 4, none, [], .move (.t 16)⟩])
 .ret))))

/-- (*tidewall/tidewallref05.work).sail -/
def F52 : AFunc :=
 .fn 156 []
 (.seq
 (.seq
 (.ops [
⟨some 4, none, [], .move (.k (.int .i64 0))⟩])
 (.block 0
 (.loop
 (.seq
 (.seq
 (.ops [
⟨some 10, none, [], .move (.t 4)⟩,
⟨some 11, none, [], .move (.t 1)⟩,
⟨some 12, none, [], .len (.t 11)⟩,
⟨some 13, none, [], .bin .lss (.t 10) (.t 12)⟩])
 (.cond (.t 13)
 .skip
 (.exit 0)))
 (.seq
 (.block 1
 (.seq
 (.ops [
⟨some 16, none, [], .move (.t 1)⟩,
⟨some 17, none, [], .move (.t 4)⟩,
⟨some 18, none, [], .idxS (.t 16) (.t 17) 5⟩,
⟨some 19, none, [], .fieldAddr (.t 18) 0⟩,
⟨some 20, none, [], .load (.t 19) none⟩,
⟨some 5, none, [], .move (.t 20)⟩])
 (.seq
 (.seq
 (.ops [
⟨some 21, none, [], .move (.t 0)⟩,
⟨some 22, none, [], .move (.t 5)⟩,
⟨some 23, none, [], .call (.k (.func (.func 69) ⟨[]⟩ ⟨[]⟩)) [.t 21, .t 22] false⟩])
 (.cond (.t 23)
 (.seq
 (.ops [
⟨some 24, none, [], .move (.t 0)⟩,
⟨some 25, none, [], .nilCheck (.t 24)⟩,
⟨some 26, none, [], .fieldAddr (.t 25) 13⟩,
⟨some 27, none, [], .load (.t 26) none⟩,
⟨some 28, none, [], .move (.t 5)⟩,
⟨some 29, none, [], .move (.t 0)⟩,
⟨some 30, none, [], .nilCheck (.t 29)⟩,
⟨some 31, none, [], .fieldAddr (.t 30) 13⟩,
⟨some 32, none, [], .load (.t 31) none⟩,
⟨some 33, none, [], .move (.t 5)⟩,
⟨some 34, none, [], .idxS (.t 32) (.t 33) 1⟩,
⟨some 35, none, [], .load (.t 34) none⟩,
⟨some 36, none, [], .move (.t 1)⟩,
⟨some 37, none, [], .move (.t 4)⟩,
⟨some 38, none, [], .idxS (.t 36) (.t 37) 5⟩,
⟨some 39, none, [], .fieldAddr (.t 38) 1⟩,
⟨some 40, none, [], .fieldAddr (.t 39) 0⟩,
⟨some 41, none, [], .load (.t 40) none⟩,
⟨some 42, none, [], .min [.t 35, .t 41]⟩,
⟨some 43, none, [], .idxS (.t 27) (.t 28) 1⟩,
⟨none, none, [], .store (.t 43) (.t 42) 1⟩])
 (.ops [
⟨some 44, none, [], .move (.t 0)⟩,
⟨some 45, none, [], .nilCheck (.t 44)⟩,
⟨some 46, none, [], .fieldAddr (.t 45) 16⟩,
⟨some 47, none, [], .load (.t 46) none⟩,
⟨some 48, none, [], .move (.t 5)⟩,
⟨some 49, none, [], .move (.t 0)⟩,
⟨some 50, none, [], .nilCheck (.t 49)⟩,
⟨some 51, none, [], .fieldAddr (.t 50) 16⟩,
⟨some 52, none, [], .load (.t 51) none⟩,
⟨some 53, none, [], .move (.t 5)⟩,
⟨some 54, none, [], .idxS (.t 52) (.t 53) 1⟩,
⟨some 55, none, [], .load (.t 54) none⟩,
⟨some 56, none, [], .move (.t 1)⟩,
⟨some 57, none, [], .move (.t 4)⟩,
⟨some 58, none, [], .idxS (.t 56) (.t 57) 5⟩,
⟨some 59, none, [], .fieldAddr (.t 58) 3⟩,
⟨some 60, none, [], .fieldAddr (.t 59) 1⟩,
⟨some 61, none, [], .load (.t 60) none⟩,
⟨some 62, none, [], .move (.t 0)⟩,
⟨some 63, none, [], .nilCheck (.t 62)⟩,
⟨some 64, none, [], .fieldAddr (.t 63) 12⟩,
⟨some 65, none, [], .load (.t 64) none⟩,
⟨some 66, none, [], .move (.t 5)⟩,
⟨some 67, none, [], .idxS (.t 65) (.t 66) 2⟩,
⟨some 68, none, [], .fieldAddr (.t 67) 1⟩,
⟨some 69, none, [], .load (.t 68) none⟩,
⟨some 70, none, [], .call (.k (.func (.func 70) ⟨[]⟩ ⟨[]⟩)) [.t 69] true⟩,
⟨some 71, none, [], .bin .mul (.t 61) (.t 70)⟩,
⟨some 72, none, [], .max [.t 55, .t 71]⟩,
⟨some 73, none, [], .idxS (.t 47) (.t 48) 1⟩,
⟨none, none, [], .store (.t 73) (.t 72) 1⟩]))
 .skip))
 (.seq
 (.ops [
⟨some 74, none, [], .move (.t 0)⟩,
⟨some 75, none, [], .move (.t 5)⟩,
⟨some 76, none, [], .call (.k (.func (.func 71) ⟨[]⟩ ⟨[]⟩)) [.t 74, .t 75] false⟩])
 (.cond (.t 76)
 (.seq
 (.ops [
⟨some 77, none, [], .move (.t 0)⟩,
⟨some 78, none, [], .nilCheck (.t 77)⟩,
⟨some 79, none, [], .fieldAddr (.t 78) 14⟩,
⟨some 80, none, [], .load (.t 79) none⟩,
⟨some 81, none, [], .move (.t 5)⟩,
⟨some 82, none, [], .move (.t 0)⟩,
⟨some 83, none, [], .nilCheck (.t 82)⟩,
⟨some 84, none, [], .fieldAddr (.t 83) 14⟩,
⟨some 85, none, [], .load (.t 84) none⟩,
⟨some 86, none, [], .move (.t 5)⟩,
⟨some 87, none, [], .idxS (.t 85) (.t 86) 1⟩,
⟨some 88, none, [], .load (.t 87) none⟩,
⟨some 89, none, [], .move (.t 1)⟩,
⟨some 90, none, [], .move (.t 4)⟩,
⟨some 91, none, [], .idxS (.t 89) (.t 90) 5⟩,
⟨some 92, none, [], .fieldAddr (.t 91) 1⟩,
⟨some 93, none, [], .fieldAddr (.t 92) 1⟩,
⟨some 94, none, [], .load (.t 93) none⟩,
⟨some 95, none, [], .min [.t 88, .t 94]⟩,
⟨some 96, none, [], .idxS (.t 80) (.t 81) 1⟩,
⟨none, none, [], .store (.t 96) (.t 95) 1⟩])
 (.ops [
⟨some 97, none, [], .move (.t 0)⟩,
⟨some 98, none, [], .nilCheck (.t 97)⟩,
⟨some 99, none, [], .fieldAddr (.t 98) 15⟩,
⟨some 100, none, [], .load (.t 99) none⟩,
⟨some 101, none, [], .move (.t 5)⟩,
⟨some 102, none, [], .move (.t 0)⟩,
⟨some 103, none, [], .nilCheck (.t 102)⟩,
⟨some 104, none, [], .fieldAddr (.t 103) 15⟩,
⟨some 105, none, [], .load (.t 104) none⟩,
⟨some 106, none, [], .move (.t 5)⟩,
⟨some 107, none, [], .idxS (.t 105) (.t 106) 1⟩,
⟨some 108, none, [], .load (.t 107) none⟩,
⟨some 109, none, [], .move (.t 1)⟩,
⟨some 110, none, [], .move (.t 4)⟩,
⟨some 111, none, [], .idxS (.t 109) (.t 110) 5⟩,
⟨some 112, none, [], .fieldAddr (.t 111) 3⟩,
⟨some 113, none, [], .fieldAddr (.t 112) 0⟩,
⟨some 114, none, [], .load (.t 113) none⟩,
⟨some 115, none, [], .move (.t 0)⟩,
⟨some 116, none, [], .nilCheck (.t 115)⟩,
⟨some 117, none, [], .fieldAddr (.t 116) 12⟩,
⟨some 118, none, [], .load (.t 117) none⟩,
⟨some 119, none, [], .move (.t 5)⟩,
⟨some 120, none, [], .idxS (.t 118) (.t 119) 2⟩,
⟨some 121, none, [], .fieldAddr (.t 120) 0⟩,
⟨some 122, none, [], .load (.t 121) none⟩,
⟨some 123, none, [], .call (.k (.func (.func 72) ⟨[]⟩ ⟨[]⟩)) [.t 122] true⟩,
⟨some 124, none, [], .bin .mul (.t 114) (.t 123)⟩,
⟨some 125, none, [], .max [.t 108, .t 124]⟩,
⟨some 126, none, [], .idxS (.t 100) (.t 101) 1⟩,
⟨none, none, [], .store (.t 126) (.t 125) 1⟩]))
 .skip)))))
 (.ops [
⟨some 14, none, [], .move (.t 4)⟩,
⟨some 15, none, [], .bin .add (.t 14) (.k (.int .i64 1))⟩,
⟨some 4, none, [], .move (.t 15)⟩]))))))
 (.seq
 (.ops [
⟨some 6, none, [], .move (.k (.bool true))⟩])
 (.block 2
 (.loop
 (.seq
 (.seq
 (.ops [
⟨some 127, none, [], .move (.t 6)⟩])
 (.cond (.t 127)
 .skip
 (.exit 2)))
 (.block 3
 (.seq
 (.ops [
⟨some 6, none, [], .move (.k (.bool false))⟩])
 (.seq
 (.ops [
⟨some 7, none, [], .move (.k (.int .i64 0))⟩])
 (.block 4
 (.loop
 (.seq
 (.seq
 (.ops [
⟨some 128, none, [], .move (.t 7)⟩,
⟨some 129, none, [], .move (.t 0)⟩,
⟨some 130, none, [], .nilCheck (.t 129)⟩,
⟨some 131, none, [], .fieldAddr (.t 130) 12⟩,
⟨some 132, none, [], .load (.t 131) none⟩,
⟨some 133, none, [], .len (.t 132)⟩,
⟨some 134, none, [], .bin .lss (.t 128) (.t 133)⟩])
 (.cond (.t 134)
 .skip
 (.exit 4)))
 (.seq
 (.block 5
 (.seq
 (.ops [
⟨some 137, none, [], .move (.t 0)⟩,
⟨some 138, none, [], .nilCheck (.t 137)⟩,
⟨some 139, none, [], .fieldAddr (.t 138) 0⟩,
⟨some 140, none, [], .load (.t 139) (some 4)⟩,
⟨some 141, none, [], .move (.t 7)⟩,
⟨some 142, none, [], .call (.k (.func (.func 73) ⟨[]⟩ ⟨[]⟩)) [.t 140, .t 141] false⟩,
⟨some 8, none, [], .move (.t 142)⟩])
 (.seq
 (.ops [
⟨some 9, none, [], .move (.k (.int .i64 0))⟩])
 (.block 6
 (.loop
 (.seq
 (.seq
 (.ops [
⟨some 143, none, [], .move (.t 9)⟩,
⟨some 144, none, [], .move (.t 8)⟩,
⟨some 145, none, [], .len (.t 144)⟩,
⟨some 146, none, [], .bin .lss (.t 143) (.t 145)⟩])
 (.cond (.t 146)
 .skip
 (.exit 6)))
 (.seq
 (.block 7
 (.seq
 (.ops [
⟨some 149, none, [], .move (.t 0)⟩,
⟨some 150, none, [], .move (.t 8)⟩,
⟨some 151, none, [], .move (.t 9)⟩,
⟨some 152, none, [], .idxS (.t 150) (.t 151) 1⟩,
⟨some 153, none, [], .load (.t 152) none⟩,
⟨some 154, none, [], .move (.t 7)⟩,
⟨some 155, none, [], .call (.k (.func (.func 74) ⟨[]⟩ ⟨[]⟩)) [.t 149, .t 153, .t 154] false⟩])
 (.cond (.t 155)
 (.ops [
⟨some 6, none, [], .move (.k (.bool true))⟩])
 .skip)))
 (.ops [
⟨some 147, none, [], .move (.t 9)⟩,
⟨some 148, none, [], .bin .add (.t 147) (.k (.int .i64 1))⟩,
⟨some 9, none, [], .move (.t 148)⟩]))))))))
 (.ops [
⟨some 135, none, [], .move (.t 7)⟩,
⟨some 136, none, [], .bin .add (.t 135) (.k (.int .i64 1))⟩,
⟨some 7, none, [], .move (.t 136)⟩])))))))))))))

/-- (*tidewall/tidewallref05.work).overflow -/
def F53 : AFunc :=
 .fn 117 []
 (.seq
 (.seq
 (.ops [
⟨some 2, none, [], .move (.k (.int .i64 0))⟩])
 (.block 0
 (.loop
 (.seq
 (.seq
 (.ops [
⟨some 7, none, [], .move (.t 2)⟩,
⟨some 8, none, [], .move (.t 0)⟩,
⟨some 9, none, [], .nilCheck (.t 8)⟩,
⟨some 10, none, [], .fieldAddr (.t 9) 12⟩,
⟨some 11, none, [], .load (.t 10) none⟩,
⟨some 12, none, [], .len (.t 11)⟩,
⟨some 13, none, [], .bin .lss (.t 7) (.t 12)⟩])
 (.cond (.t 13)
 .skip
 (.exit 0)))
 (.seq
 (.block 1
 (.seq
 (.ops [
⟨some 16, none, [], .move (.t 0)⟩,
⟨some 17, none, [], .nilCheck (.t 16)⟩,
⟨some 18, none, [], .fieldAddr (.t 17) 20⟩,
⟨some 19, none, [], .load (.t 18) none⟩,
⟨some 20, none, [], .move (.t 2)⟩,
⟨some 21, none, [], .move (.t 0)⟩,
⟨some 22, none, [], .nilCheck (.t 21)⟩,
⟨some 23, none, [], .fieldAddr (.t 22) 13⟩,
⟨some 24, none, [], .load (.t 23) none⟩,
⟨some 25, none, [], .move (.t 2)⟩,
⟨some 26, none, [], .idxS (.t 24) (.t 25) 1⟩,
⟨some 27, none, [], .load (.t 26) none⟩,
⟨some 28, none, [], .idxS (.t 19) (.t 20) 1⟩,
⟨none, none, [], .store (.t 28) (.t 27) 1⟩])
 (.seq
 (.seq
 (.ops [
⟨some 29, none, [], .move (.t 0)⟩,
⟨some 30, none, [], .nilCheck (.t 29)⟩,
⟨some 31, none, [], .fieldAddr (.t 30) 13⟩,
⟨some 32, none, [], .load (.t 31) none⟩,
⟨some 33, none, [], .move (.t 2)⟩,
⟨some 34, none, [], .idxS (.t 32) (.t 33) 1⟩,
⟨some 35, none, [], .load (.t 34) none⟩,
⟨some 36, none, [], .bin .lss (.t 35) (.k (.int .i64 1099511627776))⟩])
 (.cond (.t 36)
 (.ops [
⟨some 37, none, [], .move (.t 0)⟩,
⟨some 38, none, [], .nilCheck (.t 37)⟩,
⟨some 39, none, [], .fieldAddr (.t 38) 17⟩,
⟨some 40, none, [], .load (.t 39) none⟩,
⟨some 41, none, [], .move (.t 2)⟩,
⟨some 42, none, [], .move (.t 0)⟩,
⟨some 43, none, [], .nilCheck (.t 42)⟩,
⟨some 44, none, [], .fieldAddr (.t 43) 4⟩,
⟨some 45, none, [], .fieldAddr (.t 44) 1⟩,
⟨some 46, none, [], .load (.t 45) none⟩,
⟨some 47, none, [], .move (.t 0)⟩,
⟨some 48, none, [], .move (.t 2)⟩,
⟨some 49, none, [], .call (.k (.func (.func 75) ⟨[]⟩ ⟨[]⟩)) [.t 47, .t 48] true⟩,
⟨some 50, none, [], .bin .add (.t 46) (.t 49)⟩,
⟨some 51, none, [], .idxS (.t 40) (.t 41) 1⟩,
⟨none, none, [], .store (.t 51) (.t 50) 1⟩])
 .skip))
 (.seq
 (.ops [
⟨some 52, none, [], .move (.t 0)⟩,
⟨some 53, none, [], .nilCheck (.t 52)⟩,
⟨some 54, none, [], .fieldAddr (.t 53) 14⟩,
⟨some 55, none, [], .load (.t 54) none⟩,
⟨some 56, none, [], .move (.t 2)⟩,
⟨some 57, none, [], .idxS (.t 55) (.t 56) 1⟩,
⟨some 58, none, [], .load (.t 57) none⟩,
⟨some 59, none, [], .bin .lss (.t 58) (.k (.int .i64 1099511627776))⟩])
 (.cond (.t 59)
 (.ops [
⟨some 60, none, [], .move (.t 0)⟩,
⟨some 61, none, [], .nilCheck (.t 60)⟩,
⟨some 62, none, [], .fieldAddr (.t 61) 19⟩,
⟨some 63, none, [], .load (.t 62) none⟩,
⟨some 64, none, [], .move (.t 2)⟩,
⟨some 65, none, [], .move (.t 0)⟩,
⟨some 66, none, [], .nilCheck (.t 65)⟩,
⟨some 67, none, [], .fieldAddr (.t 66) 21⟩,
⟨some 68, none, [], .load (.t 67) none⟩,
⟨some 69, none, [], .move (.t 2)⟩,
⟨some 70, none, [], .move (.t 0)⟩,
⟨some 71, none, [], .nilCheck (.t 70)⟩,
⟨some 72, none, [], .fieldAddr (.t 71) 4⟩,
⟨some 73, none, [], .fieldAddr (.t 72) 0⟩,
⟨some 74, none, [], .load (.t 73) none⟩,
⟨some 75, none, [], .move (.t 0)⟩,
⟨some 76, none, [], .move (.t 2)⟩,
⟨some 77, none, [], .call (.k (.func (.func 76) ⟨[]⟩ ⟨[]⟩)) [.t 75, .t 76] true⟩,
⟨some 78, none, [], .bin .add (.t 74) (.t 77)⟩,
⟨some 79, none, [], .move (.t 0)⟩,
⟨some 80, none, [], .nilCheck (.t 79)⟩,
⟨some 81, none, [], .fieldAddr (.t 80) 14⟩,
⟨some 82, none, [], .load (.t 81) none⟩,
⟨some 83, none, [], .move (.t 2)⟩,
⟨some 84, none, [], .idxS (.t 82) (.t 83) 1⟩,
⟨some 85, none, [], .load (.t 84) none⟩,
⟨some 86, none, [], .idxS (.t 63) (.t 64) 1⟩,
⟨none, none, [], .store (.t 86) (.t 78) 1⟩,
⟨some 87, none, [], .idxS (.t 68) (.t 69) 1⟩,
⟨none, none, [], .store (.t 87) (.t 85) 1⟩])
 .skip)))))
 (.ops [
⟨some 14, none, [], .move (.t 2)⟩,
⟨some 15, none, [], .bin .add (.t 14) (.k (.int .i64 1))⟩,
⟨some 2, none, [], .move (.t 15)⟩]))))))
 (.seq
 (.ops [
⟨some 3, none, [], .move (.k (.bool true))⟩])
 (.block 2
 (.loop
 (.seq
 (.seq
 (.ops [
⟨some 88, none, [], .move (.t 3)⟩])
 (.cond (.t 88)
 .skip
 (.exit 2)))
 (.block 3
 (.seq
 (.ops [
⟨some 3, none, [], .move (.k (.bool false))⟩])
 (.seq
 (.ops [
⟨some 4, none, [], .move (.k (.int .i64 0))⟩])
 (.block 4
 (.loop
 (.seq
 (.seq
 (.ops [
⟨some 89, none, [], .move (.t 4)⟩,
⟨some 90, none, [], .move (.t 0)⟩,
⟨some 91, none, [], .nilCheck (.t 90)⟩,
⟨some 92, none, [], .fieldAddr (.t 91) 12⟩,
⟨some 93, none, [], .load (.t 92) none⟩,
⟨some 94, none, [], .len (.t 93)⟩,
⟨some 95, none, [], .bin .lss (.t 89) (.t 94)⟩])
 (.cond (.t 95)
 .skip
 (.exit 4)))
 (.seq
 (.block 5
 (.seq
 (.ops [
⟨some 98, none, [], .move (.t 0)⟩,
⟨some 99, none, [], .nilCheck (.t 98)⟩,
⟨some 100, none, [], .fieldAddr (.t 99) 0⟩,
⟨some 101, none, [], .load (.t 100) (some 4)⟩,
⟨some 102, none, [], .move (.t 4)⟩,
⟨some 103, none, [], .call (.k (.func (.func 73) ⟨[]⟩ ⟨[]⟩)) [.t 101, .t 102] false⟩,
⟨some 5, none, [], .move (.t 103)⟩])
 (.seq
 (.ops [
⟨some 6, none, [], .move (.k (.int .i64 0))⟩])
 (.block 6
 (.loop
 (.seq
 (.seq
 (.ops [
⟨some 104, none, [], .move (.t 6)⟩,
⟨some 105, none, [], .move (.t 5)⟩,
⟨some 106, none, [], .len (.t 105)⟩,
⟨some 107, none, [], .bin .lss (.t 104) (.t 106)⟩])
 (.cond (.t 107)
 .skip
 (.exit 6)))
 (.seq
 (.block 7
 (.seq
 (.ops [
⟨some 110, none, [], .move (.t 0)⟩,
⟨some 111, none, [], .move (.t 5)⟩,
⟨some 112, none, [], .move (.t 6)⟩,
⟨some 113, none, [], .idxS (.t 111) (.t 112) 1⟩,
⟨some 114, none, [], .load (.t 113) none⟩,
⟨some 115, none, [], .move (.t 4)⟩,
⟨some 116, none, [], .call (.k (.func (.func 77) ⟨[]⟩ ⟨[]⟩)) [.t 110, .t 114, .t 115] false⟩])
 (.cond (.t 116)
 (.ops [
⟨some 3, none, [], .move (.k (.bool true))⟩])
 .skip)))
 (.ops [
⟨some 108, none, [], .move (.t 6)⟩,
⟨some 109, none, [], .bin .add (.t 108) (.k (.int .i64 1))⟩,
⟨some 6, none, [], .move (.t 109)⟩]))))))))
 (.ops [
⟨some 96, none, [], .move (.t 4)⟩,
⟨some 97, none, [], .bin .add (.t 96) (.k (.int .i64 1))⟩,
⟨some 4, none, [], .move (.t 97)⟩])))))))))))))

/-- (*tidewall/tidewallref05.work).bound -/
def F54 : AFunc :=
 .fn 212 [.cell 4 (some 8)]
 (.seq
 (.ops [
⟨some 4, none, [], .alloc [.int .i64 0, .int .i64 0, .int .i64 0, .int .i64 0, .int .i64 0, .int .i64 0, .int .i64 0, .int .i64 0]⟩])
 (.seq
 (.ops [
⟨some 10, none, [], .move (.t 0)⟩,
⟨some 11, none, [], .nilCheck (.t 10)⟩,
⟨some 12, none, [], .fieldAddr (.t 11) 0⟩,
⟨some 13, none, [], .fieldAddr (.t 12) 3⟩,
⟨some 14, none, [], .load (.t 13) none⟩,
⟨some 15, none, [], .move (.t 1)⟩,
⟨some 16, none, [], .idxS (.t 14) (.t 15) 2⟩,
⟨some 17, none, [], .load (.t 16) (some 2)⟩,
⟨some 18, none, [], .move (.t 0)⟩,
⟨some 19, none, [], .nilCheck (.t 18)⟩,
⟨some 20, none, [], .fieldAddr (.t 19) 12⟩,
⟨some 21, none, [], .load (.t 20) none⟩,
⟨some 22, none, [], .move (.t 1)⟩,
⟨some 23, none, [], .idxS (.t 21) (.t 22) 2⟩,
⟨some 24, none, [], .load (.t 23) (some 2)⟩,
⟨some 5, none, [], .alloc [.int .i64 0, .int .i64 0]⟩,
⟨some 6, none, [], .alloc [.int .i64 0, .int .i64 0]⟩,
⟨none, none, [(.t 5, 2, .t 20, 1), (.t 5, 2, .t 23, 2)], .store (.t 5) (.t 17) 2⟩,
⟨none, none, [], .store (.t 6) (.t 24) 2⟩])
 (.seq
 (.ops [
⟨some 25, none, [], .move (.t 0)⟩,
⟨some 26, none, [], .nilCheck (.t 25)⟩,
⟨some 27, none, [], .fieldAddr (.t 26) 20⟩,
⟨some 28, none, [], .load (.t 27) none⟩,
⟨some 29, none, [], .move (.t 1)⟩,
⟨some 30, none, [], .idxS (.t 28) (.t 29) 1⟩,
⟨some 31, none, [], .load (.t 30) none⟩,
⟨some 32, none, [], .move (.t 0)⟩,
⟨some 33, none, [], .nilCheck (.t 32)⟩,
⟨some 34, none, [], .fieldAddr (.t 33) 21⟩,
⟨some 35, none, [], .load (.t 34) none⟩,
⟨some 36, none, [], .move (.t 1)⟩,
⟨some 37, none, [], .idxS (.t 35) (.t 36) 1⟩,
⟨some 38, none, [], .load (.t 37) none⟩,
⟨some 39, none, [], .build [.int .i64 0, .int .i64 0] [(0, 1, .t 31), (1, 1, .t 38)]⟩,
⟨some 40, none, [], .build [.int .i64 0, .int .i64 0, .int .i64 0, .int .i64 0, .int .i64 0, .int .i64 0, .int .i64 0, .int .i64 0] [(0, 2, .t 39)]⟩,
⟨some 7, none, [], .alloc [.int .i64 0, .int .i64 0, .int .i64 0, .int .i64 0, .int .i64 0, .int .i64 0, .int .i64 0, .int .i64 0]⟩,
⟨none, none, [], .store (.t 7) (.t 40) 8⟩])
 (.seq
 (.ops [
⟨some 41, none, [], .fieldAddr (.t 5) 0⟩,
⟨some 42, none, [], .load (.t 41) none⟩,
⟨some 43, none, [], .build [.int .i64 0, .int .i64 0] [(0, 1, .t 42), (1, 1, .k (.int .i64 (-1200000)))]⟩,
⟨some 44, none, [], .fieldAddr (.t 7) 4⟩,
⟨none, none, [], .store (.t 44) (.t 43) 2⟩])
 (.seq
 (.seq
 (.ops [
⟨some 45, none, [], .move (.t 0)⟩,
⟨some 46, none, [], .move (.t 1)⟩,
⟨some 47, none, [], .call (.k (.func (.func 71) ⟨[]⟩ ⟨[]⟩)) [.t 45, .t 46] false⟩])
 (.cond (.t 47)
 (.seq
 (.ops [
⟨some 48, none, [], .move (.t 0)⟩,
⟨some 49, none, [], .move (.t 1)⟩,
⟨some 50, none, [], .call (.k (.func (.func 76) ⟨[]⟩ ⟨[]⟩)) [.t 48, .t 49] false⟩,
⟨some 51, none, [], .fieldAddr (.t 7) 2⟩,
⟨some 52, none, [], .fieldAddr (.t 51) 0⟩,
⟨none, none, [], .store (.t 52) (.t 50) 1⟩])
 (.seq
 (.ops [
⟨some 53, none, [], .move (.t 0)⟩,
⟨some 54, none, [], .nilCheck (.t 53)⟩,
⟨some 55, none, [], .fieldAddr (.t 54) 4⟩,
⟨some 56, none, [], .fieldAddr (.t 55) 0⟩,
⟨some 57, none, [], .load (.t 56) none⟩,
⟨some 58, none, [], .move (.t 0)⟩,
⟨some 59, none, [], .move (.t 1)⟩,
⟨some 60, none, [], .call (.k (.func (.func 76) ⟨[]⟩ ⟨[]⟩)) [.t 58, .t 59] true⟩,
⟨some 61, none, [], .bin .add (.t 57) (.t 60)⟩,
⟨some 62, none, [], .fieldAddr (.t 7) 4⟩,
⟨some 63, none, [], .fieldAddr (.t 62) 0⟩,
⟨none, none, [], .store (.t 63) (.t 61) 1⟩])
 (.ops [
⟨some 64, none, [], .fieldAddr (.t 7) 2⟩,
⟨some 65, none, [], .fieldAddr (.t 64) 0⟩,
⟨some 66, none, [], .load (.t 65) none⟩,
⟨some 67, none, [], .fieldAddr (.t 7) 2⟩,
⟨some 68, none, [], .fieldAddr (.t 67) 0⟩,
⟨some 69, none, [], .load (.t 68) none⟩,
⟨some 70, none, [], .bin .mul (.t 66) (.t 69)⟩,
⟨some 71, none, [], .bin .mul (.t 70) (.k (.int .i64 981))⟩,
⟨some 72, none, [], .fieldAddr (.t 6) 1⟩,
⟨some 73, none, [], .load (.t 72) none⟩,
⟨some 74, none, [], .bin .quo (.t 71) (.t 73)⟩,
⟨some 75, none, [], .call (.k (.func (.func 78) ⟨[]⟩ ⟨[]⟩)) [.t 74] false⟩,
⟨some 76, none, [], .fieldAddr (.t 7) 6⟩,
⟨some 77, none, [], .fieldAddr (.t 76) 0⟩,
⟨none, none, [], .store (.t 77) (.t 75) 1⟩])))
 .skip))
 (.seq
 (.seq
 (.ops [
⟨some 78, none, [], .move (.t 0)⟩,
⟨some 79, none, [], .move (.t 1)⟩,
⟨some 80, none, [], .call (.k (.func (.func 79) ⟨[]⟩ ⟨[]⟩)) [.t 78, .t 79] false⟩,
⟨some 81, none, [], .move (.t 80)⟩,
⟨some 82, (some (81, true)), [], .move (.t 0)⟩,
⟨some 83, (some (81, true)), [], .nilCheck (.t 82)⟩,
⟨some 84, (some (81, true)), [], .fieldAddr (.t 83) 19⟩,
⟨some 85, (some (81, true)), [], .load (.t 84) none⟩,
⟨some 86, (some (81, true)), [], .move (.t 1)⟩,
⟨some 87, (some (81, true)), [], .idxS (.t 85) (.t 86) 1⟩,
⟨some 88, (some (81, true)), [], .load (.t 87) none⟩,
⟨some 89, (some (81, true)), [], .bin .neq (.t 88) (.k (.int .i64 (-1099511627776)))⟩,
⟨some 90, none, [], .pick (.t 81) (.t 89) (.k (.bool false))⟩])
 (.cond (.t 90)
 (.seq
 (.ops [
⟨some 91, none, [], .move (.t 0)⟩,
⟨some 92, none, [], .nilCheck (.t 91)⟩,
⟨some 93, none, [], .fieldAddr (.t 92) 19⟩,
⟨some 94, none, [], .load (.t 93) none⟩,
⟨some 95, none, [], .move (.t 1)⟩,
⟨some 96, none, [], .idxS (.t 94) (.t 95) 1⟩,
⟨some 97, none, [], .load (.t 96) none⟩,
⟨some 98, none, [], .fieldAddr (.t 5) 1⟩,
⟨some 99, none, [], .load (.t 98) none⟩,
⟨some 100, none, [], .bin .sub (.t 97) (.t 99)⟩,
⟨some 101, none, [], .fieldAddr (.t 7) 2⟩,
⟨some 102, none, [], .fieldAddr (.t 101) 0⟩,
⟨none, none, [], .store (.t 102) (.t 100) 1⟩])
 (.seq
 (.ops [
⟨some 103, none, [], .move (.t 0)⟩,
⟨some 104, none, [], .nilCheck (.t 103)⟩,
⟨some 105, none, [], .fieldAddr (.t 104) 19⟩,
⟨some 106, none, [], .load (.t 105) none⟩,
⟨some 107, none, [], .move (.t 1)⟩,
⟨some 108, none, [], .idxS (.t 106) (.t 107) 1⟩,
⟨some 109, none, [], .load (.t 108) none⟩,
⟨some 110, none, [], .fieldAddr (.t 7) 4⟩,
⟨some 111, none, [], .fieldAddr (.t 110) 0⟩,
⟨none, none, [], .store (.t 111) (.t 109) 1⟩])
 (.ops [
⟨some 112, none, [], .fieldAddr (.t 7) 2⟩,
⟨some 113, none, [], .fieldAddr (.t 112) 0⟩,
⟨some 114, none, [], .load (.t 113) none⟩,
⟨some 115, none, [], .bin .mul (.k (.int .i64 981)) (.t 114)⟩,
⟨some 116, none, [], .call (.k (.func (.func 78) ⟨[]⟩ ⟨[]⟩)) [.t 115] false⟩,
⟨some 117, none, [], .fieldAddr (.t 7) 6⟩,
⟨some 118, none, [], .fieldAddr (.t 117) 0⟩,
⟨none, none, [], .store (.t 118) (.t 116) 1⟩])))
 .skip))
 (.seq
 (.seq
 (.ops [
⟨some 119, none, [], .move (.t 0)⟩,
⟨some 120, none, [], .move (.t 1)⟩,
⟨some 121, none, [], .call (.k (.func (.func 69) ⟨[]⟩ ⟨[]⟩)) [.t 119, .t 120] false⟩])
 (.cond (.t 121)
 (.seq
 (.ops [
⟨some 122, none, [], .move (.t 0)⟩,
⟨some 123, none, [], .move (.t 1)⟩,
⟨some 124, none, [], .call (.k (.func (.func 75) ⟨[]⟩ ⟨[]⟩)) [.t 122, .t 123] false⟩,
⟨some 8, none, [], .move (.t 124)⟩])
 (.seq
 (.ops [
⟨some 125, none, [], .move (.t 8)⟩,
⟨some 126, none, [], .fieldAddr (.t 7) 2⟩,
⟨some 127, none, [], .fieldAddr (.t 126) 1⟩,
⟨none, none, [], .store (.t 127) (.t 125) 1⟩])
 (.seq
 (.ops [
⟨some 128, none, [], .fieldAddr (.t 7) 4⟩,
⟨some 129, none, [], .fieldAddr (.t 128) 1⟩,
⟨some 130, none, [], .load (.t 129) none⟩,
⟨some 131, none, [], .move (.t 0)⟩,
⟨some 132, none, [], .nilCheck (.t 131)⟩,
⟨some 133, none, [], .fieldAddr (.t 132) 4⟩,
⟨some 134, none, [], .fieldAddr (.t 133) 1⟩,
⟨some 135, none, [], .load (.t 134) none⟩,
⟨some 136, none, [], .move (.t 8)⟩,
⟨some 137, none, [], .bin .add (.t 135) (.t 136)⟩,
⟨some 138, none, [], .max [.t 130, .t 137]⟩,
⟨some 139, none, [], .fieldAddr (.t 7) 4⟩,
⟨some 140, none, [], .fieldAddr (.t 139) 1⟩,
⟨none, none, [], .store (.t 140) (.t 138) 1⟩])
 (.ops [
⟨some 141, none, [], .move (.t 8)⟩,
⟨some 142, none, [], .move (.t 8)⟩,
⟨some 143, none, [], .bin .mul (.t 141) (.t 142)⟩,
⟨some 144, none, [], .bin .mul (.t 143) (.k (.int .i64 981))⟩,
⟨some 145, none, [], .fieldAddr (.t 6) 0⟩,
⟨some 146, none, [], .load (.t 145) none⟩,
⟨some 147, none, [], .max [.k (.int .i64 1), .t 146]⟩,
⟨some 148, none, [], .call (.k (.func (.func 81) ⟨[]⟩ ⟨[]⟩)) [.t 144, .t 147] false⟩,
⟨some 149, none, [], .call (.k (.func (.func 80) ⟨[]⟩ ⟨[]⟩)) [.t 148] false⟩,
⟨some 150, none, [], .fieldAddr (.t 7) 6⟩,
⟨some 151, none, [], .fieldAddr (.t 150) 1⟩,
⟨none, none, [], .store (.t 151) (.t 149) 1⟩]))))
 .skip))
 (.seq
 (.seq
 (.ops [
⟨some 152, none, [], .move (.t 0)⟩,
⟨some 153, none, [], .move (.t 1)⟩,
⟨some 154, none, [], .call (.k (.func (.func 71) ⟨[]⟩ ⟨[]⟩)) [.t 152, .t 153] false⟩,
⟨some 155, none, [], .not (.t 154)⟩])
 (.cond (.t 155)
 (.ops [
⟨some 156, none, [], .fieldAddr (.t 7) 4⟩,
⟨some 157, none, [], .fieldAddr (.t 156) 1⟩,
⟨some 158, none, [], .load (.t 157) none⟩,
⟨some 159, none, [], .fieldAddr (.t 5) 1⟩,
⟨some 160, none, [], .load (.t 159) none⟩,
⟨some 161, none, [], .max [.t 158, .t 160]⟩,
⟨some 162, none, [], .fieldAddr (.t 7) 4⟩,
⟨some 163, none, [], .fieldAddr (.t 162) 1⟩,
⟨none, none, [], .store (.t 163) (.t 161) 1⟩])
 .skip))
 (.seq
 (.seq
 (.ops [
⟨some 164, none, [], .move (.t 0)⟩,
⟨some 165, none, [], .nilCheck (.t 164)⟩,
⟨some 166, none, [], .fieldAddr (.t 165) 18⟩,
⟨some 167, none, [], .load (.t 166) none⟩,
⟨some 168, none, [], .move (.t 1)⟩,
⟨some 169, none, [], .idxS (.t 167) (.t 168) 1⟩,
⟨some 170, none, [], .load (.t 169) none⟩,
⟨some 171, none, [], .bin .neq (.t 170) (.k (.int .i64 (-1099511627776)))⟩])
 (.cond (.t 171)
 (.seq
 (.ops [
⟨some 172, none, [], .move (.t 0)⟩,
⟨some 173, none, [], .nilCheck (.t 172)⟩,
⟨some 174, none, [], .fieldAddr (.t 173) 18⟩,
⟨some 175, none, [], .load (.t 174) none⟩,
⟨some 176, none, [], .move (.t 1)⟩,
⟨some 177, none, [], .idxS (.t 175) (.t 176) 1⟩,
⟨some 178, none, [], .load (.t 177) none⟩,
⟨some 179, none, [], .fieldAddr (.t 5) 0⟩,
⟨some 180, none, [], .load (.t 179) none⟩,
⟨some 181, none, [], .bin .sub (.t 178) (.t 180)⟩,
⟨some 9, none, [], .move (.t 181)⟩])
 (.seq
 (.ops [
⟨some 182, none, [], .fieldAddr (.t 7) 2⟩,
⟨some 183, none, [], .fieldAddr (.t 182) 1⟩,
⟨some 184, none, [], .load (.t 183) none⟩,
⟨some 185, none, [], .move (.t 9)⟩,
⟨some 186, none, [], .max [.t 184, .t 185]⟩,
⟨some 187, none, [], .fieldAddr (.t 7) 2⟩,
⟨some 188, none, [], .fieldAddr (.t 187) 1⟩,
⟨none, none, [], .store (.t 188) (.t 186) 1⟩])
 (.seq
 (.ops [
⟨some 189, none, [], .fieldAddr (.t 7) 4⟩,
⟨some 190, none, [], .fieldAddr (.t 189) 1⟩,
⟨some 191, none, [], .load (.t 190) none⟩,
⟨some 192, none, [], .move (.t 0)⟩,
⟨some 193, none, [], .nilCheck (.t 192)⟩,
⟨some 194, none, [], .fieldAddr (.t 193) 18⟩,
⟨some 195, none, [], .load (.t 194) none⟩,
⟨some 196, none, [], .move (.t 1)⟩,
⟨some 197, none, [], .idxS (.t 195) (.t 196) 1⟩,
⟨some 198, none, [], .load (.t 197) none⟩,
⟨some 199, none, [], .max [.t 191, .t 198]⟩,
⟨some 200, none, [], .fieldAddr (.t 7) 4⟩,
⟨some 201, none, [], .fieldAddr (.t 200) 1⟩,
⟨none, none, [], .store (.t 201) (.t 199) 1⟩])
 (.ops [
⟨some 202, none, [], .fieldAddr (.t 7) 6⟩,
⟨some 203, none, [], .fieldAddr (.t 202) 1⟩,
⟨some 204, none, [], .load (.t 203) none⟩,
⟨some 205, none, [], .move (.t 9)⟩,
⟨some 206, none, [], .bin .mul (.k (.int .i64 981)) (.t 205)⟩,
⟨some 207, none, [], .call (.k (.func (.func 80) ⟨[]⟩ ⟨[]⟩)) [.t 206] true⟩,
⟨some 208, none, [], .max [.t 204, .t 207]⟩,
⟨some 209, none, [], .fieldAddr (.t 7) 6⟩,
⟨some 210, none, [], .fieldAddr (.t 209) 1⟩,
⟨none, none, [], .store (.t 210) (.t 208) 1⟩]))))
 .skip))
 (.seq
 (.ops [
⟨some 211, none, [], .load (.t 7) (some 8)⟩,
⟨none, none, [], .store (.t 4) (.t 211) 8⟩])
 .ret))))))))))

/-- tidewall/grid.in -/
def F55 : AFunc :=
 .fn 15 [.tmp 6]
 (.seq
 (.ops [
⟨some 6, none, [], .move (.k (.bool false))⟩])
 (.seq
 (.ops [
⟨some 7, none, [], .move (.t 0)⟩,
⟨some 8, none, [], .move (.t 1)⟩,
⟨some 9, none, [], .bin .geq (.t 7) (.t 8)⟩,
⟨some 10, none, [], .move (.t 9)⟩,
⟨some 11, (some (10, true)), [], .move (.t 0)⟩,
⟨some 12, (some (10, true)), [], .move (.t 2)⟩,
⟨some 13, (some (10, true)), [], .bin .leq (.t 11) (.t 12)⟩,
⟨some 14, none, [], .pick (.t 10) (.t 13) (.k (.bool false))⟩,
⟨some 6, none, [], .move (.t 14)⟩])
 .ret))

/-- slices.ContainsFunc[[]tidewall/api.Span,tidewall/api.Span] -/
def F56 : AFunc :=
 .fn 9 [.tmp 4]
 (.seq
 (.ops [
⟨some 4, none, [], .move (.k (.bool false))⟩])
 (.seq
 (.ops [
⟨some 5, none, [], .move (.t 0)⟩,
⟨some 6, none, [], .move (.t 1)⟩,
⟨some 7, none, [], .call (.k (.func (.func 82) ⟨[]⟩ ⟨[]⟩)) [.t 5, .t 6] false⟩,
⟨some 8, none, [], .bin .geq (.t 7) (.k (.int .i64 0))⟩,
⟨some 4, none, [], .move (.t 8)⟩])
 .ret))

/-- tidewall/grid.Check$1 -/
def F57 : AFunc :=
 .fn 6 [.tmp 2]
 (.seq
 (.ops [
⟨some 1, none, [], .box (.t 0)⟩,
⟨some 2, none, [], .move (.k (.bool false))⟩])
 (.seq
 (.ops [
⟨some 3, none, [], .load (.t 1) (some 2)⟩,
⟨some 4, none, [], .call (.k (.func (.func 58) ⟨[]⟩ ⟨[]⟩)) [.t 3, .k (.int .i64 1200000)] false⟩,
⟨some 5, none, [], .not (.t 4)⟩,
⟨some 2, none, [], .move (.t 5)⟩])
 .ret))

/-- tidewall/grid.valid -/
def F58 : AFunc :=
 .fn 23 [.tmp 4]
 (.seq
 (.ops [
⟨some 2, none, [], .box (.t 0)⟩,
⟨some 4, none, [], .move (.k (.bool false))⟩])
 (.seq
 (.ops [
⟨some 5, none, [], .fieldAddr (.t 2) 0⟩,
⟨some 6, none, [], .load (.t 5) none⟩,
⟨some 7, none, [], .fieldAddr (.t 2) 1⟩,
⟨some 8, none, [], .load (.t 7) none⟩,
⟨some 9, none, [], .bin .leq (.t 6) (.t 8)⟩,
⟨some 10, none, [], .move (.t 9)⟩,
⟨some 11, (some (10, true)), [], .fieldAddr (.t 2) 0⟩,
⟨some 12, (some (10, true)), [], .load (.t 11) none⟩,
⟨some 13, (some (10, true)), [], .move (.t 1)⟩,
⟨some 14, (some (10, true)), [], .neg (.t 13)⟩,
⟨some 15, (some (10, true)), [], .bin .geq (.t 12) (.t 14)⟩,
⟨some 16, none, [], .pick (.t 10) (.t 15) (.k (.bool false))⟩,
⟨some 17, none, [], .move (.t 16)⟩,
⟨some 18, (some (17, true)), [], .fieldAddr (.t 2) 1⟩,
⟨some 19, (some (17, true)), [], .load (.t 18) none⟩,
⟨some 20, (some (17, true)), [], .move (.t 1)⟩,
⟨some 21, (some (17, true)), [], .bin .leq (.t 19) (.t 20)⟩,
⟨some 22, none, [], .pick (.t 17) (.t 21) (.k (.bool false))⟩,
⟨some 4, none, [], .move (.t 22)⟩])
 .ret))

/-- tidewall/tidewallref01.Within -/
def F59 : AFunc :=
 .fn 15 [.tmp 6]
 (.seq
 (.ops [
⟨some 6, none, [], .move (.k (.bool false))⟩])
 (.seq
 (.ops [
⟨some 7, none, [], .move (.t 0)⟩,
⟨some 8, none, [], .move (.t 1)⟩,
⟨some 9, none, [], .bin .geq (.t 7) (.t 8)⟩,
⟨some 10, none, [], .move (.t 9)⟩,
⟨some 11, (some (10, true)), [], .move (.t 0)⟩,
⟨some 12, (some (10, true)), [], .move (.t 2)⟩,
⟨some 13, (some (10, true)), [], .bin .leq (.t 11) (.t 12)⟩,
⟨some 14, none, [], .pick (.t 10) (.t 13) (.k (.bool false))⟩,
⟨some 6, none, [], .move (.t 14)⟩])
 .ret))

end Go.Ab.Wave
