/- The program's functions in abstract form: made by a program of ours. -/
import Derived.Test.YtmppgcknmmmioaaGreatDoorZ00
set_option linter.unusedSimpArgs false
set_option linter.unusedVariables false
set_option linter.unusedSectionVars false
set_option maxRecDepth 100000
namespace Go.Ab.Grid
open Go.Ab
def F283 : AFunc :=
 .fn 70 [.tmp 4]
 (.seq
 (.ops [
oP 2 (.box (.t 0)),
oP 4 (.move (.k (.bool false)))])
 (.seq
 (.seq
 (.ops [
oF 11 2 3,
oL 12 11,
oP 13 (.len (.t 12)),
oC 14 .gtr 13 600,
oM 15 14,
oN 16 15 false 1,
oQ 17 15 false (.lenT (.t 16)),
oQ 18 15 false (.bin .gtr (.t 17) (oK 3000)),
oN 19 15 false 18,
oN 20 19 true 1,
oQ 21 19 true (.lenT (.t 20)),
oQ 22 19 true (.bin .leq (.t 21) (oK 65536)),
oQ 23 15 false (.pick (.t 19) (.t 22) (.k (.bool false))),
oP 24 (.pick (.t 15) (.k (.bool true)) (.t 23)),
oM 25 24,
oN 26 25 false 1,
oQ 27 25 false (.lenT (.t 26)),
oQ 28 25 false (.bin .gtr (.t 27) (oK 65636)),
oP 29 (.pick (.t 25) (.k (.bool true)) (.t 28))])
 (.cond (.t 29)
 (.seq
 (.ops [
oA 30 289 [] false,
oM 4 30])
 .ret)
 .skip))
 (.seq
 (.ops [
oD 32 2 4,
oA 33 306 [.t 32] false,
oM 31 33,
oX 34 31 0,
oX 35 31 1,
oM 5 34,
oM 6 35])
 (.seq
 (.ops [
oD 37 2 4,
oA 38 307 [.t 37] false,
oM 36 38,
oX 39 36 0,
oX 40 36 1,
oM 7 39,
oM 8 40])
 (.seq
 (.seq
 (.ops [
oM 41 5,
oM 42 7,
oP 43 (.strOp .neq (.t 41) (.t 42)),
oM 44 43,
oN 45 44 false 6,
oN 46 44 false 8,
oQ 47 44 false (.bin .neq (.t 45) (.t 46)),
oP 48 (.pick (.t 44) (.k (.bool true)) (.t 47))])
 (.cond (.t 48)
 (.seq
 (.ops [
oP 4 (.move (.k (.bool false)))])
 .ret)
 .skip))
 (.seq
 (.ops [
oM 50 1,
oA 51 308 [.t 50] false,
oM 49 51,
oX 52 49 0,
oX 53 49 1,
oP 9 (.alloc [.int .i64 0, .int .i64 0, .int .i64 0, .slice none 0 0]),
oT 9 52 4,
oM 6 53])
 (.seq
 (.ops [
oM 55 1,
oA 56 309 [.t 55] false,
oM 54 56,
oX 57 54 0,
oX 58 54 1,
oP 10 (.alloc [.int .i64 0, .int .i64 0, .int .i64 0, .slice none 0 0]),
oT 10 57 4,
oM 8 58])
 (.seq
 (.ops [
oD 59 9 4,
oD 60 10 4,
oA 61 301 [.t 59, .t 60] false,
oM 62 61,
oN 63 62 true 6,
oN 64 62 true 8,
oQ 65 62 true (.bin .eql (.t 63) (.t 64)),
oP 66 (.pick (.t 62) (.t 65) (.k (.bool false))),
oM 67 66,
oQ 68 67 true (.call (.k (.func (.func 289) ⟨[]⟩ ⟨[]⟩)) [] false),
oP 69 (.pick (.t 67) (.t 68) (.k (.bool false))),
oM 4 69])
 .ret))))))))
def F289 : AFunc :=
 .fn 189 [.tmp 0]
 (.seq
 (.ops [
oP 0 (.move (.k (.bool false)))])
 (.seq
 (.ops [
oA 16 320 [] false,
oP 1 (.alloc [.int .i64 0, .int .i64 0, .int .i64 0, .slice none 0 0]),
oT 1 16 4])
 (.seq
 (.ops [
oD 18 1 4,
oA 19 110 [.t 18, .k (.int .i64 1)] false,
oM 17 19,
oX 20 17 0,
oX 21 17 1,
oM 2 20,
oM 3 21])
 (.seq
 (.ops [
oD 23 1 4,
oP 24 (.slit 1 1 [.int .i64 0] [(0, .k (.int .i64 0))]),
oA 25 265 [.t 23, .t 24] false,
oM 22 25,
oX 26 22 0,
oX 27 22 1,
oM 4 26,
oM 5 27])
 (.seq
 (.ops [
oD 29 1 4,
oP 30 (.slit 1 1 [.int .i64 0] [(0, .k (.int .i64 0))]),
oP 31 (.build [.int .i64 0, .int .i64 0] [(0, 1, .k (.int .i64 15)), (1, 1, .k (.int .i64 25))]),
oA 32 253 [.t 29, .t 30, .t 31] false,
oM 28 32,
oX 33 28 0,
oX 34 28 1,
oX 35 28 2,
oM 6 33,
oM 7 34,
oM 8 35])
 (.seq
 (.seq
 (.ops [
oM 36 3,
oC 37 .neq 36 0,
oM 38 37,
oN 39 38 false 5,
oQ 40 38 false (.bin .neq (.t 39) (oK 0)),
oP 41 (.pick (.t 38) (.k (.bool true)) (.t 40)),
oM 42 41,
oN 43 42 false 8,
oQ 44 42 false (.bin .neq (.t 43) (oK 0)),
oP 45 (.pick (.t 42) (.k (.bool true)) (.t 44)),
oM 46 45,
oN 47 46 false 2,
oQ 48 46 false (.slit 2 1 [.int .i64 0] [(0, .k (.int .i64 2)), (1, .k (.int .i64 0))]),
oQ 49 46 false (.call (.k (.func (.func 291) ⟨[]⟩ ⟨[]⟩)) [.t 47, .t 48] false),
oQ 50 46 false (.not (.t 49)),
oP 51 (.pick (.t 46) (.k (.bool true)) (.t 50)),
oM 52 51,
oN 53 52 false 4,
oQ 54 52 false (.build [.int .i64 0, .int .i64 0] [(0, 1, .k (.int .i64 (-500))), (1, 1, .k (.int .i64 (-500)))]),
oQ 55 52 false (.build [.int .i64 0, .int .i64 0] [(0, 1, .k (.int .i64 10)), (1, 1, .k (.int .i64 20))]),
oQ 56 52 false (.build [.int .i64 0, .int .i64 0] [(0, 1, .k (.int .i64 10)), (1, 1, .k (.int .i64 20))]),
oQ 57 52 false (.build [.int .i64 0, .int .i64 0] [(0, 1, .k (.int .i64 10)), (1, 1, .k (.int .i64 40))]),
oQ 58 52 false (.slit 4 2 [.int .i64 0, .int .i64 0] [(0, .t 54), (1, .t 55), (2, .t 56), (3, .t 57)]),
oQ 59 52 false (.call (.k (.func (.func 294) ⟨[]⟩ ⟨[]⟩)) [.t 53, .t 58] false),
oQ 60 52 false (.not (.t 59)),
oP 61 (.pick (.t 52) (.k (.bool true)) (.t 60)),
oM 62 61,
oN 63 62 false 6,
oQ 64 62 false (.slit 4 1 [.bool false] [(0, .k (.bool true)), (1, .k (.bool false)), (2, .k (.bool false)), (3, .k (.bool false))]),
oQ 65 62 false (.call (.k (.func (.func 296) ⟨[]⟩ ⟨[]⟩)) [.t 63, .t 64] false),
oQ 66 62 false (.not (.t 65)),
oP 67 (.pick (.t 62) (.k (.bool true)) (.t 66)),
oM 68 67,
oN 69 68 false 7,
oQ 70 68 false (.slit 4 1 [.bool false] [(0, .k (.bool true)), (1, .k (.bool true)), (2, .k (.bool true)), (3, .k (.bool true))]),
oQ 71 68 false (.call (.k (.func (.func 296) ⟨[]⟩ ⟨[]⟩)) [.t 69, .t 70] false),
oQ 72 68 false (.not (.t 71)),
oP 73 (.pick (.t 68) (.k (.bool true)) (.t 72))])
 (.cond (.t 73)
 (.seq
 (.ops [
oP 0 (.move (.k (.bool false)))])
 .ret)
 .skip))
 (.seq
 (.ops [
oD 75 1 4,
oP 76 (.slit 1 1 [.int .i64 0] [(0, .k (.int .i64 0))]),
oA 77 297 [.t 75, .t 76] false,
oM 74 77,
oX 78 74 0,
oX 79 74 1,
oM 9 78,
oM 3 79])
 (.seq
 (.ops [
oD 81 1 4,
oA 82 304 [.t 81, .k (.int .i64 515)] false,
oM 80 82,
oX 83 80 0,
oX 84 80 1,
oP 10 (.alloc [.int .i64 0, .int .i64 0, .int .i64 0, .slice none 0 0]),
oT 10 83 4,
oM 5 84])
 (.seq
 (.ops [
oD 86 1 4,
oA 87 304 [.t 86, .k (.int .i64 500)] false,
oM 85 87,
oX 88 85 0,
oX 89 85 1,
oM 8 89])
 (.seq
 (.seq
 (.ops [
oM 90 3,
oC 91 .neq 90 0,
oM 92 91,
oN 93 92 false 5,
oQ 94 92 false (.bin .neq (.t 93) (oK 0)),
oP 95 (.pick (.t 92) (.k (.bool true)) (.t 94)),
oM 96 95,
oN 97 96 false 8,
oQ 98 96 false (.bin .neq (.t 97) (oK 14)),
oP 99 (.pick (.t 96) (.k (.bool true)) (.t 98)),
oM 100 99,
oN 101 100 false 9,
oQ 102 100 false (.build [.int .i64 0, .int .i64 0] []),
oQ 103 100 false (.build [.int .i64 0, .int .i64 0] []),
oQ 104 100 false (.build [.int .i64 0, .int .i64 0] [(0, 1, .k (.int .i64 20)), (1, 1, .k (.int .i64 50))]),
oQ 105 100 false (.build [.int .i64 0, .int .i64 0] [(0, 1, .k (.int .i64 0)), (1, 1, .k (.int .i64 15))]),
oQ 106 100 false (.slit 4 2 [.int .i64 0, .int .i64 0] [(0, .t 102), (1, .t 103), (2, .t 104), (3, .t 105)]),
oQ 107 100 false (.call (.k (.func (.func 294) ⟨[]⟩ ⟨[]⟩)) [.t 101, .t 106] false),
oQ 108 100 false (.not (.t 107)),
oP 109 (.pick (.t 100) (.k (.bool true)) (.t 108)),
oM 110 109,
oQ 111 110 false (.fieldAddr (.t 10) 3),
oQ 112 110 false (.load (.t 111) none),
oQ 113 110 false (.len (.t 112)),
oQ 114 110 false (.bin .neq (.t 113) (oK 4)),
oP 115 (.pick (.t 110) (.k (.bool true)) (.t 114)),
oM 116 115,
oQ 117 116 false (.fieldAddr (.t 10) 3),
oQ 118 116 false (.load (.t 117) none),
oQ 119 116 false (.idxS (.t 118) (oK 1) 2),
oQ 120 116 false (.load (.t 119) (some 2)),
oQ 121 116 false (.build [.int .i64 0, .int .i64 0] [(0, 1, .k (.int .i64 10)), (1, 1, .k (.int .i64 15))]),
oQ 122 116 false (.eqv true [false, false] (.t 120) (.t 121)),
oP 123 (.pick (.t 116) (.k (.bool true)) (.t 122))])
 (.cond (.t 123)
 (.seq
 (.ops [
oP 0 (.move (.k (.bool false)))])
 .ret)
 .skip))
 (.seq
 (.ops [
oD 125 1 4,
oP 126 (.build [.int .i64 0, .int .i64 0, .int .i64 0] [(0, 1, .k (.int .i64 1)), (1, 1, .k (.int .i64 5)), (2, 1, .k (.int .i64 10))]),
oP 127 (.build [.int .i64 0, .int .i64 0, .int .i64 0] [(0, 1, .k (.int .i64 2)), (1, 1, .k (.int .i64 (-40))), (2, 1, .k (.int .i64 5))]),
oP 128 (.slit 2 3 [.int .i64 0, .int .i64 0, .int .i64 0] [(0, .t 126), (1, .t 127)]),
oA 129 302 [.t 125, .t 128] false,
oM 124 129,
oX 130 124 0,
oX 131 124 1,
oX 132 124 2,
oP 11 (.alloc [.int .i64 0, .int .i64 0, .int .i64 0, .slice none 0 0]),
oT 11 130 4,
oM 12 131,
oM 3 132])
 (.seq
 (.seq
 (.ops [
oM 133 3,
oC 134 .neq 133 14,
oM 135 134,
oN 136 135 false 12,
oQ 137 135 false (.bin .neq (.t 136) (oK 1)),
oP 138 (.pick (.t 135) (.k (.bool true)) (.t 137)),
oM 139 138,
oQ 140 139 false (.fieldAddr (.t 11) 3),
oQ 141 139 false (.load (.t 140) none),
oQ 142 139 false (.len (.t 141)),
oQ 143 139 false (.bin .neq (.t 142) (oK 0)),
oP 144 (.pick (.t 139) (.k (.bool true)) (.t 143))])
 (.cond (.t 144)
 (.seq
 (.ops [
oP 0 (.move (.k (.bool false)))])
 .ret)
 .skip))
 (.seq
 (.ops [
oD 146 1 4,
oD 147 10 4,
oA 148 299 [.t 146, .t 147] false,
oM 145 148,
oX 149 145 0,
oX 150 145 1,
oX 151 145 2,
oP 13 (.alloc [.int .i64 0, .int .i64 0, .int .i64 0, .slice none 0 0]),
oT 13 149 4,
oM 12 150,
oM 3 151])
 (.seq
 (.ops [
oD 153 1 4,
oA 154 306 [.t 153] false,
oM 152 154,
oX 155 152 0,
oX 156 152 1,
oM 14 155,
oM 5 156])
 (.seq
 (.ops [
⟨some 158, none, [], .call (.k (.func (.func 308) ⟨[]⟩ ⟨[]⟩)) [.k (.string ⟨⟨[103, 114, 105, 100, 32, 52, 32, 49, 32, 49, 48, 48, 10, 45, 53, 48, 48, 32, 49, 48, 46, 46, 50, 48, 32, 45, 51, 48, 46, 46, 45, 49, 48, 32, 53, 46, 46, 52, 48, 10]⟩⟩)] false⟩,
oM 157 158,
oX 159 157 0,
oX 160 157 1,
oP 15 (.alloc [.int .i64 0, .int .i64 0, .int .i64 0, .slice none 0 0]),
oT 15 159 4,
oM 8 160])
 (.seq
 (.ops [
oM 161 3,
oC 162 .eql 161 0,
oM 163 162,
oN 164 163 true 5,
oQ 165 163 true (.bin .eql (.t 164) (oK 0)),
oP 166 (.pick (.t 163) (.t 165) (.k (.bool false))),
oM 167 166,
oN 168 167 true 8,
oQ 169 167 true (.bin .eql (.t 168) (oK 0)),
oP 170 (.pick (.t 167) (.t 169) (.k (.bool false))),
oM 171 170,
oN 172 171 true 12,
oQ 173 171 true (.bin .eql (.t 172) (oK 0)),
oP 174 (.pick (.t 171) (.t 173) (.k (.bool false))),
oM 175 174,
oQ 176 175 true (.load (.t 13) (some 4)),
oQ 177 175 true (.load (.t 10) (some 4)),
oQ 178 175 true (.call (.k (.func (.func 301) ⟨[]⟩ ⟨[]⟩)) [.t 176, .t 177] false),
oP 179 (.pick (.t 175) (.t 178) (.k (.bool false))),
oM 180 179,
oN 181 180 true 14,
⟨some 182, (some (180, true)), [], .strOp .eql (.t 181) (.k (.string ⟨⟨[103, 114, 105, 100, 32, 52, 32, 49, 32, 49, 48, 48, 10, 45, 53, 48, 48, 32, 49, 48, 46, 46, 50, 48, 32, 45, 51, 48, 46, 46, 45, 49, 48, 32, 53, 46, 46, 52, 48, 10]⟩⟩))⟩,
oP 183 (.pick (.t 180) (.t 182) (.k (.bool false))),
oM 184 183,
oQ 185 184 true (.load (.t 15) (some 4)),
oQ 186 184 true (.load (.t 1) (some 4)),
oQ 187 184 true (.call (.k (.func (.func 301) ⟨[]⟩ ⟨[]⟩)) [.t 185, .t 186] false),
oP 188 (.pick (.t 184) (.t 187) (.k (.bool false))),
oM 0 188])
 .ret))))))))))))))))
def F110 : AFunc :=
 .fn 23 [.tmp 4, .tmp 5]
 (.seq
 (.ops [
oP 2 (.box (.t 0)),
oP 4 (.move (.k (.slice none 0 0))),
oP 5 (.move (oK 0))])
 (.seq
 (.seq
 (.ops [
oD 7 2 4,
oA 8 37 [.t 7] false,
oM 6 8])
 (.seq
 (.ops [
oM 9 6,
oC 10 .neq 9 0])
 (.cond (.t 10)
 (.seq
 (.ops [
oM 11 6,
oP 4 (.move (.k (.slice none 0 0))),
oM 5 11])
 .ret)
 .skip)))
 (.seq
 (.seq
 (.ops [
oM 12 1,
oF 13 2 3,
oL 14 13,
oP 15 (.len (.t 14)),
oC 16 .sub 15 1,
oA 17 55 [.t 12, .k (.int .i64 0), .t 16] false,
oP 18 (.not (.t 17))])
 (.cond (.t 18)
 (.seq
 (.ops [
oP 4 (.move (.k (.slice none 0 0))),
oP 5 (.move (oK 4))])
 .ret)
 .skip))
 (.seq
 (.ops [
oD 19 2 4,
oM 20 1,
oA 21 112 [.t 19, .t 20] false,
oA 22 111 [.t 21] false,
oM 4 22,
oP 5 (.move (oK 0))])
 .ret))))
def F37 : AFunc :=
 .fn 34 [.tmp 2]
 (.seq
 (.ops [
oP 1 (.box (.t 0)),
oP 2 (.move (oK 0))])
 (.seq
 (.block 0
 (.seq
 (.ops [
oF 4 1 0,
oL 5 4,
oA 6 55 [.t 5, .k (.int .i64 1), .k (.int .i64 24)] false,
oP 7 (.not (.t 6)),
oM 8 7,
oQ 9 8 false (.fieldAddr (.t 1) 1),
oQ 10 8 false (.load (.t 9) none),
oQ 11 8 false (.call (.k (.func (.func 55) ⟨[]⟩ ⟨[]⟩)) [.t 10, .k (.int .i64 1), .k (.int .i64 24)] false),
oQ 12 8 false (.not (.t 11)),
oP 13 (.pick (.t 8) (.k (.bool true)) (.t 12)),
oM 14 13,
oQ 15 14 false (.fieldAddr (.t 1) 2),
oQ 16 14 false (.load (.t 15) none),
oQ 17 14 false (.call (.k (.func (.func 55) ⟨[]⟩ ⟨[]⟩)) [.t 16, .k (.int .i64 1), .k (.int .i64 10000)] false),
oQ 18 14 false (.not (.t 17)),
oP 19 (.pick (.t 14) (.k (.bool true)) (.t 18)),
oM 3 19])
 (.cond (.t 3)
 (.seq
 (.ops [
oP 2 (.move (oK 3))])
 .ret)
 (.seq
 (.ops [
oF 21 1 3,
oL 22 21,
oP 23 (.len (.t 22)),
oF 24 1 0,
oL 25 24,
oF 26 1 1,
oL 27 26,
oB 28 .mul 25 27,
oB 29 .neq 23 28,
oM 20 29])
 (.cond (.t 20)
 (.seq
 (.ops [
oP 2 (.move (oK 11))])
 .ret)
 (.seq
 (.ops [
oF 31 1 3,
oL 32 31,
oP 33 (.call (.k (.func (.func 56) ⟨[]⟩ ⟨[]⟩)) [.t 32, .k (.func (.func 57) ⟨[]⟩ ⟨[]⟩)] false),
oM 30 33])
 (.cond (.t 30)
 (.seq
 (.ops [
oP 2 (.move (oK 3))])
 .ret)
 .skip)))))))
 (.seq
 (.ops [
oP 2 (.move (oK 0))])
 .ret)))
def body40 : ACode := (.seq
 (.seq
 (.ops [
oM 30 3,
oF 31 1 3,
oL 32 31,
oP 33 (.len (.t 32)),
oB 34 .lss 30 33])
 (.cond (.t 34)
 .skip
 (.exit 0)))
 (.seq
 (.block 1
 (.seq
 (.ops [
oF 37 1 3,
oL 38 37,
oM 39 3,
oI 40 38 39 2,
oD 41 40 2,
oP 4 (.alloc [.int .i64 0, .int .i64 0]),
oT 4 41 2])
 (.seq
 (.ops [
oF 42 4 0,
oL 43 42,
oF 44 4 1,
oL 45 44,
oB 46 .gtr 43 45,
oM 47 46,
oQ 48 47 false (.fieldAddr (.t 4) 0),
oQ 49 47 false (.load (.t 48) none),
oQ 50 47 false (.bin .lss (.t 49) (oK (-1200000))),
oP 51 (.pick (.t 47) (.k (.bool true)) (.t 50)),
oM 52 51,
oQ 53 52 false (.fieldAddr (.t 4) 1),
oQ 54 52 false (.load (.t 53) none),
oQ 55 52 false (.bin .gtr (.t 54) (oK 1200000)),
oP 56 (.pick (.t 52) (.k (.bool true)) (.t 55))])
 (.cond (.t 56)
 (.seq
 (.ops [
oP 2 (.move (oK 3))])
 .ret)
 .skip))))
 (.ops [
oM 35 3,
oC 36 .add 35 1,
oM 3 36])))
def F40 : AFunc :=
 .fn 57 [.tmp 2]
 (.seq
 (.ops [
oP 1 (.box (.t 0)),
oP 2 (.move (oK 0))])
 (.seq
 (.seq
 (.ops [
oF 5 1 0,
oL 6 5,
oA 7 59 [.t 6, .k (.int .i64 1), .k (.int .i64 24)] false,
oP 8 (.not (.t 7)),
oM 9 8,
oQ 10 9 false (.fieldAddr (.t 1) 1),
oQ 11 9 false (.load (.t 10) none),
oQ 12 9 false (.call (.k (.func (.func 59) ⟨[]⟩ ⟨[]⟩)) [.t 11, .k (.int .i64 1), .k (.int .i64 24)] false),
oQ 13 9 false (.not (.t 12)),
oP 14 (.pick (.t 9) (.k (.bool true)) (.t 13)),
oM 15 14,
oQ 16 15 false (.fieldAddr (.t 1) 2),
oQ 17 15 false (.load (.t 16) none),
oQ 18 15 false (.call (.k (.func (.func 59) ⟨[]⟩ ⟨[]⟩)) [.t 17, .k (.int .i64 1), .k (.int .i64 10000)] false),
oQ 19 15 false (.not (.t 18)),
oP 20 (.pick (.t 15) (.k (.bool true)) (.t 19))])
 (.cond (.t 20)
 (.seq
 (.ops [
oP 2 (.move (oK 3))])
 .ret)
 .skip))
 (.seq
 (.seq
 (.ops [
oF 21 1 3,
oL 22 21,
oP 23 (.len (.t 22)),
oF 24 1 0,
oL 25 24,
oF 26 1 1,
oL 27 26,
oB 28 .mul 25 27,
oB 29 .neq 23 28])
 (.cond (.t 29)
 (.seq
 (.ops [
oP 2 (.move (oK 11))])
 .ret)
 .skip))
 (.seq
 (.seq
 (.ops [
oP 3 (.move (oK 0))])
 (.block 0
 (.loop body40)))
 (.seq
 (.ops [
oP 2 (.move (oK 0))])
 .ret)))))
def body291 : ACode := (.seq
 (.seq
 (.ops [
oM 11 5,
oM 12 0,
oP 13 (.len (.t 12)),
oB 14 .lss 11 13])
 (.cond (.t 14)
 .skip
 (.exit 0)))
 (.seq
 (.block 1
 (.seq
 (.ops [
oM 17 0,
oM 18 5,
oI 19 17 18 1,
oL 20 19,
oM 21 1,
oM 22 5,
oI 23 21 22 1,
oL 24 23,
oB 25 .neq 20 24])
 (.cond (.t 25)
 (.seq
 (.ops [
oP 4 (.move (.k (.bool false)))])
 .ret)
 .skip)))
 (.ops [
oM 15 5,
oC 16 .add 15 1,
oM 5 16])))
def F291 : AFunc :=
 .fn 26 [.tmp 4]
 (.seq
 (.ops [
oP 4 (.move (.k (.bool false)))])
 (.seq
 (.seq
 (.ops [
oM 6 0,
oP 7 (.len (.t 6)),
oM 8 1,
oP 9 (.len (.t 8)),
oB 10 .neq 7 9])
 (.cond (.t 10)
 (.seq
 (.ops [
oP 4 (.move (.k (.bool false)))])
 .ret)
 .skip))
 (.seq
 (.seq
 (.ops [
oP 5 (.move (oK 0))])
 (.block 0
 (.loop body291)))
 (.seq
 (.ops [
oP 4 (.move (.k (.bool true)))])
 .ret))))
def F265 : AFunc :=
 .fn 15 [.tmp 4, .tmp 5]
 (.seq
 (.ops [
oP 2 (.box (.t 0)),
oP 3 (.box (.t 1)),
oP 4 (.move (.k (.slice none 0 0))),
oP 5 (.move (oK 0))])
 (.seq
 (.seq
 (.ops [
oD 7 2 4,
oL 8 3,
oA 9 266 [.t 7, .t 8] false,
oM 6 9])
 (.seq
 (.ops [
oM 10 6,
oC 11 .neq 10 0])
 (.cond (.t 11)
 (.seq
 (.ops [
oM 12 6,
oP 4 (.move (.k (.slice none 0 0))),
oM 5 12])
 .ret)
 .skip)))
 (.seq
 (.ops [
oP 13 (.makeFunc 268 [] [.t 2, .t 3]),
oP 14 (.call (.k (.func (.func 267) ⟨[]⟩ ⟨[]⟩)) [.t 13, .k (.func (.func 271) ⟨[]⟩ ⟨[]⟩)] false),
oM 4 14,
oP 5 (.move (oK 0))])
 .ret)))
def body294 : ACode := (.seq
 (.seq
 (.ops [
oM 11 5,
oM 12 0,
oP 13 (.len (.t 12)),
oB 14 .lss 11 13])
 (.cond (.t 14)
 .skip
 (.exit 0)))
 (.seq
 (.block 1
 (.seq
 (.ops [
oM 17 0,
oM 18 5,
oI 19 17 18 2,
oD 20 19 2,
oM 21 1,
oM 22 5,
oI 23 21 22 2,
oD 24 23 2,
oP 25 (.eqv true [false, false] (.t 20) (.t 24))])
 (.cond (.t 25)
 (.seq
 (.ops [
oP 4 (.move (.k (.bool false)))])
 .ret)
 .skip)))
 (.ops [
oM 15 5,
oC 16 .add 15 1,
oM 5 16])))
def F294 : AFunc :=
 .fn 26 [.tmp 4]
 (.seq
 (.ops [
oP 4 (.move (.k (.bool false)))])
 (.seq
 (.seq
 (.ops [
oM 6 0,
oP 7 (.len (.t 6)),
oM 8 1,
oP 9 (.len (.t 8)),
oB 10 .neq 7 9])
 (.cond (.t 10)
 (.seq
 (.ops [
oP 4 (.move (.k (.bool false)))])
 .ret)
 .skip))
 (.seq
 (.seq
 (.ops [
oP 5 (.move (oK 0))])
 (.block 0
 (.loop body294)))
 (.seq
 (.ops [
oP 4 (.move (.k (.bool true)))])
 .ret))))
def F253 : AFunc :=
 .fn 51 [.tmp 6, .tmp 7, .tmp 8]
 (.seq
 (.ops [
oP 3 (.box (.t 0)),
oP 5 (.box (.t 2)),
oP 6 (.move (.k (.slice none 0 0))),
oP 7 (.move (.k (.slice none 0 0))),
oP 8 (.move (oK 0))])
 (.seq
 (.ops [
oD 13 3 4,
oM 14 1,
oA 15 265 [.t 13, .t 14] false,
oM 12 15,
oX 16 12 0,
oX 17 12 1,
oM 9 16,
oM 8 17])
 (.seq
 (.block 0
 (.seq
 (.ops [
oM 19 8,
oC 20 .neq 19 0,
oM 18 20])
 (.cond (.t 18)
 (.seq
 (.ops [
oM 21 8,
oP 6 (.move (.k (.slice none 0 0))),
oP 7 (.move (.k (.slice none 0 0))),
oM 8 21])
 .ret)
 (.seq
 (.ops [
oD 23 5 2,
oA 24 58 [.t 23, .k (.int .i64 20000)] false,
oP 25 (.not (.t 24)),
oM 22 25])
 (.cond (.t 22)
 (.seq
 (.ops [
oP 6 (.move (.k (.slice none 0 0))),
oP 7 (.move (.k (.slice none 0 0))),
oP 8 (.move (oK 3))])
 .ret)
 .skip)))))
 (.seq
 (.seq
 (.ops [
oM 26 9,
oP 27 (.len (.t 26)),
oP 28 (.move (oK 0))])
 (.block 1
 (.loop
 (.seq
 (.ops [
oB 29 .lss 28 27])
 (.seq
 (.cond (.t 29)
 .skip
 (.exit 1))
 (.seq
 (.block 2
 (.seq
 (.ops [
oI 30 26 28 2,
oD 31 30 2,
oP 11 (.alloc [.int .i64 0, .int .i64 0]),
oT 11 31 2])
 (.ops [
oM 32 6,
oF 33 5 0,
oL 34 33,
oF 35 11 1,
oL 36 35,
oB 37 .gtr 34 36,
oP 38 (.slit 1 1 [.bool false] [(0, .t 37)]),
oP 39 (.append (.t 32) (.t 38) 1 1),
oM 40 7,
oF 41 5 1,
⟨some 42, none, [(.t 32, 0, .t 41, 1)], .load (.t 41) none⟩,
oF 43 11 0,
⟨some 44, none, [(.t 32, 0, .t 43, 1)], .load (.t 43) none⟩,
oB 45 .gtr 42 44,
oP 46 (.slit 1 1 [.bool false] [(0, .t 45)]),
oP 47 (.append (.t 40) (.t 46) 1 1),
oM 6 39,
oM 7 47])))
 (.ops [
oC 48 .add 28 1,
oM 28 48])))))))
 (.seq
 (.ops [
oM 49 6,
oM 50 7,
oM 6 49,
oM 7 50,
oP 8 (.move (oK 0))])
 .ret)))))
def F296 : AFunc :=
 .fn 26 [.tmp 4]
 (.seq
 (.ops [
oP 4 (.move (.k (.bool false)))])
 (.seq
 (.seq
 (.ops [
oM 6 0,
oP 7 (.len (.t 6)),
oM 8 1,
oP 9 (.len (.t 8)),
oB 10 .neq 7 9])
 (.cond (.t 10)
 (.seq
 (.ops [
oP 4 (.move (.k (.bool false)))])
 .ret)
 .skip))
 (.seq
 (.seq
 (.ops [
oP 5 (.move (oK 0))])
 (.block 0
 (.loop
 (.seq
 (.seq
 (.ops [
oM 11 5,
oM 12 0,
oP 13 (.len (.t 12)),
oB 14 .lss 11 13])
 (.cond (.t 14)
 .skip
 (.exit 0)))
 (.seq
 (.block 1
 (.seq
 (.ops [
oM 17 0,
oM 18 5,
oI 19 17 18 1,
oL 20 19,
oM 21 1,
oM 22 5,
oI 23 21 22 1,
oL 24 23,
oP 25 (.beq true (.t 20) (.t 24))])
 (.cond (.t 25)
 (.seq
 (.ops [
oP 4 (.move (.k (.bool false)))])
 .ret)
 .skip)))
 (.ops [
oM 15 5,
oC 16 .add 15 1,
oM 5 16]))))))
 (.seq
 (.ops [
oP 4 (.move (.k (.bool true)))])
 .ret))))
def F297 : AFunc :=
 .fn 63 [.tmp 4, .tmp 5]
 (.seq
 (.ops [
oP 2 (.box (.t 0)),
oP 4 (.move (.k (.slice none 0 0))),
oP 5 (.move (oK 0))])
 (.seq
 (.seq
 (.ops [
oD 14 2 4,
oM 15 1,
oA 16 266 [.t 14, .t 15] false,
oM 6 16])
 (.seq
 (.ops [
oM 17 6,
oC 18 .neq 17 0])
 (.cond (.t 18)
 (.seq
 (.ops [
oM 19 6,
oP 4 (.move (.k (.slice none 0 0))),
oM 5 19])
 .ret)
 .skip)))
 (.seq
 (.ops [
oF 20 2 3,
oL 21 20,
oP 22 (.len (.t 21)),
oP 23 (.makeS (.t 22) (.t 22) 2 16 [.int .i64 0, .int .i64 0]),
oM 7 23])
 (.seq
 (.seq
 (.ops [
oF 24 2 3,
oL 25 24,
oP 26 (.len (.t 25)),
oP 27 (.move (oK 0))])
 (.block 0
 (.loop
 (.seq
 (.ops [
oB 28 .lss 27 26])
 (.seq
 (.cond (.t 28)
 .skip
 (.exit 0))
 (.seq
 (.block 1
 (.seq
 (.ops [
oM 29 27,
oI 30 25 27 2,
oD 31 30 2,
oP 9 (.alloc [.int .i64 0, .int .i64 0]),
oM 8 29,
oT 9 31 2])
 (.seq
 (.ops [
oD 33 2 4,
oM 34 1,
oM 35 8,
oP 36 (.call (.k (.func (.func 324) ⟨[]⟩ ⟨[]⟩)) [.t 33, .t 34, .t 35, .k (.func (.func 273) ⟨[]⟩ ⟨[]⟩)] false),
oM 32 36,
oX 37 32 0,
oX 38 32 1,
oM 10 37,
oM 11 38])
 (.seq
 (.ops [
oD 40 2 4,
oM 41 1,
oM 42 8,
oP 43 (.call (.k (.func (.func 324) ⟨[]⟩ ⟨[]⟩)) [.t 40, .t 41, .t 42, .k (.func (.func 274) ⟨[]⟩ ⟨[]⟩)] false),
oM 39 43,
oX 44 39 0,
oX 45 39 1,
oM 12 44,
oM 13 45])
 (.seq
 (.ops [
oM 46 11])
 (.cond (.t 46)
 (.ops [
oM 47 7,
oM 48 8,
oM 49 10,
oF 50 9 1,
oL 51 50,
oB 52 .sub 49 51,
oP 53 (.max [.k (.int .i64 0), .t 52]),
oM 54 12,
oF 55 9 0,
oL 56 55,
oB 57 .sub 54 56,
oP 58 (.max [.k (.int .i64 0), .t 57]),
oP 59 (.build [.int .i64 0, .int .i64 0] [(0, 1, .t 53), (1, 1, .t 58)]),
oI 60 47 48 2,
oT 60 59 2])
 .skip))))))
 (.ops [
oC 61 .add 27 1,
oM 27 61])))))))
 (.seq
 (.ops [
oM 62 7,
oM 4 62,
oP 5 (.move (oK 0))])
 .ret)))))
def body299a : ACode := (.seq
 (.ops [
oB 20 .lss 19 18])
 (.seq
 (.cond (.t 20)
 .skip
 (.exit 0))
 (.seq
 (.block 1
 (.seq
 (.ops [
oI 21 17 19 4,
oD 22 21 4,
oP 8 (.alloc [.int .i64 0, .int .i64 0, .int .i64 0, .slice none 0 0]),
oT 8 22 4])
 (.seq
 (.ops [
oD 23 8 4,
oA 24 37 [.t 23] false,
oM 9 24])
 (.seq
 (.ops [
oM 25 9,
oC 26 .neq 25 0])
 (.cond (.t 26)
 (.seq
 (.ops [
oP 27 (.build [.int .i64 0, .int .i64 0, .int .i64 0, .slice none 0 0] []),
oM 28 9,
oT 4 27 4,
oP 5 (.move (oK 0)),
oM 6 28])
 .ret)
 .skip)))))
 (.ops [
oC 29 .add 19 1,
oM 19 29]))))
def body299 : ACode := (.seq
 (.ops [
oB 56 .lss 55 54])
 (.seq
 (.cond (.t 56)
 .skip
 (.exit 2))
 (.seq
 (.block 3
 (.seq
 (.ops [
oM 57 55,
oI 58 53 55 2,
oD 59 58 2,
oP 12 (.alloc [.int .i64 0, .int .i64 0]),
oM 11 57,
oT 12 59 2])
 (.seq
 (.ops [
oF 61 10 3,
oL 62 61,
oM 63 11,
oI 64 62 63 2,
oD 65 64 2,
oD 66 12 2,
oA 67 327 [.t 65, .t 66] true,
oM 60 67,
oX 68 60 0,
oX 69 60 1,
oP 13 (.alloc [.int .i64 0, .int .i64 0]),
oT 13 68 2,
oM 14 69])
 (.seq
 (.seq
 (.ops [
oM 70 14,
oP 71 (.not (.t 70))])
 (.cond (.t 71)
 (.seq
 (.ops [
oP 72 (.build [.int .i64 0, .int .i64 0, .int .i64 0, .slice none 0 0] []),
oM 73 11,
oT 4 72 4,
oM 5 73,
oP 6 (.move (oK 14))])
 .ret)
 .skip))
 (.ops [
oF 74 10 3,
oL 75 74,
oM 76 11,
oD 77 13 2,
oI 78 75 76 2,
oT 78 77 2])))))
 (.ops [
oC 79 .add 55 1,
oM 55 79]))))
def F299 : AFunc :=
 .fn 81 [.cell 4 (some 4), .tmp 5, .tmp 6]
 (.seq
 (.ops [
oP 2 (.box (.t 0)),
oP 3 (.box (.t 1)),
oP 4 (.alloc [.int .i64 0, .int .i64 0, .int .i64 0, .slice none 0 0]),
oP 5 (.move (oK 0)),
oP 6 (.move (oK 0))])
 (.seq
 (.seq
 (.ops [
oD 15 2 4,
oD 16 3 4,
oP 17 (.slit 2 4 [.int .i64 0, .int .i64 0, .int .i64 0, .slice none 0 0] [(0, .t 15), (1, .t 16)]),
oP 18 (.len (.t 17)),
oP 19 (.move (oK 0))])
 (.block 0
 (.loop body299a)))
 (.seq
 (.seq
 (.ops [
oF 30 2 0,
oL 31 30,
oF 32 3 0,
oL 33 32,
oB 34 .neq 31 33,
oM 35 34,
oQ 36 35 false (.fieldAddr (.t 2) 1),
oQ 37 35 false (.load (.t 36) none),
oQ 38 35 false (.fieldAddr (.t 3) 1),
oQ 39 35 false (.load (.t 38) none),
oQ 40 35 false (.bin .neq (.t 37) (.t 39)),
oP 41 (.pick (.t 35) (.k (.bool true)) (.t 40)),
oM 42 41,
oQ 43 42 false (.fieldAddr (.t 2) 2),
oQ 44 42 false (.load (.t 43) none),
oQ 45 42 false (.fieldAddr (.t 3) 2),
oQ 46 42 false (.load (.t 45) none),
oQ 47 42 false (.bin .neq (.t 44) (.t 46)),
oP 48 (.pick (.t 42) (.k (.bool true)) (.t 47))])
 (.cond (.t 48)
 (.seq
 (.ops [
oP 49 (.build [.int .i64 0, .int .i64 0, .int .i64 0, .slice none 0 0] []),
oT 4 49 4,
oP 5 (.move (oK 0)),
oP 6 (.move (oK 11))])
 .ret)
 .skip))
 (.seq
 (.ops [
oD 50 2 4,
oA 51 326 [.t 50] false,
oP 10 (.alloc [.int .i64 0, .int .i64 0, .int .i64 0, .slice none 0 0]),
oT 10 51 4])
 (.seq
 (.seq
 (.ops [
oF 52 3 3,
oL 53 52,
oP 54 (.len (.t 53)),
oP 55 (.move (oK 0))])
 (.block 2
 (.loop body299)))
 (.seq
 (.ops [
oD 80 10 4,
oT 4 80 4,
oP 5 (.move (oK 0)),
oP 6 (.move (oK 0))])
 .ret))))))
def F301 : AFunc :=
 .fn 31 [.tmp 4]
 (.seq
 (.ops [
oP 2 (.box (.t 0)),
oP 3 (.box (.t 1)),
oP 4 (.move (.k (.bool false)))])
 (.seq
 (.ops [
oF 5 2 0,
oL 6 5,
oF 7 3 0,
oL 8 7,
oB 9 .eql 6 8,
oM 10 9,
oQ 11 10 true (.fieldAddr (.t 2) 1),
oQ 12 10 true (.load (.t 11) none),
oQ 13 10 true (.fieldAddr (.t 3) 1),
oQ 14 10 true (.load (.t 13) none),
oQ 15 10 true (.bin .eql (.t 12) (.t 14)),
oP 16 (.pick (.t 10) (.t 15) (.k (.bool false))),
oM 17 16,
oQ 18 17 true (.fieldAddr (.t 2) 2),
oQ 19 17 true (.load (.t 18) none),
oQ 20 17 true (.fieldAddr (.t 3) 2),
oQ 21 17 true (.load (.t 20) none),
oQ 22 17 true (.bin .eql (.t 19) (.t 21)),
oP 23 (.pick (.t 17) (.t 22) (.k (.bool false))),
oM 24 23,
oQ 25 24 true (.fieldAddr (.t 2) 3),
oQ 26 24 true (.load (.t 25) none),
oQ 27 24 true (.fieldAddr (.t 3) 3),
oQ 28 24 true (.load (.t 27) none),
oQ 29 24 true (.call (.k (.func (.func 294) ⟨[]⟩ ⟨[]⟩)) [.t 26, .t 28] false),
oP 30 (.pick (.t 24) (.t 29) (.k (.bool false))),
oM 4 30])
 .ret))
def body302a : ACode := (.seq
 (.ops [
oB 28 .lss 27 26])
 (.seq
 (.cond (.t 28)
 .skip
 (.exit 0))
 (.seq
 (.block 1
 (.seq
 (.ops [
oI 29 25 27 3,
oD 30 29 3,
oP 9 (.alloc [.int .i64 0, .int .i64 0, .int .i64 0]),
oT 9 30 3])
 (.block 2
 (.seq
 (.ops [
oF 32 9 0,
oL 33 32,
oF 34 2 3,
oL 35 34,
oP 36 (.len (.t 35)),
oC 37 .sub 36 1,
oA 38 55 [.t 33, .k (.int .i64 0), .t 37] false,
oP 39 (.not (.t 38)),
oM 31 39])
 (.cond (.t 31)
 (.seq
 (.ops [
oP 40 (.build [.int .i64 0, .int .i64 0, .int .i64 0, .slice none 0 0] []),
oT 4 40 4,
oP 5 (.move (oK 0)),
oP 6 (.move (oK 4))])
 .ret)
 (.seq
 (.ops [
oF 42 9 1,
oL 43 42,
oA 44 55 [.t 43, .k (.int .i64 (-1200000)), .k (.int .i64 1200000)] false,
oP 45 (.not (.t 44)),
oM 46 45,
oQ 47 46 false (.fieldAddr (.t 9) 2),
oQ 48 46 false (.load (.t 47) none),
oQ 49 46 false (.call (.k (.func (.func 55) ⟨[]⟩ ⟨[]⟩)) [.t 48, .k (.int .i64 0), .k (.int .i64 100000)] false),
oQ 50 46 false (.not (.t 49)),
oP 51 (.pick (.t 46) (.k (.bool true)) (.t 50)),
oM 41 51])
 (.cond (.t 41)
 (.seq
 (.ops [
oP 52 (.build [.int .i64 0, .int .i64 0, .int .i64 0, .slice none 0 0] []),
oT 4 52 4,
oP 5 (.move (oK 0)),
oP 6 (.move (oK 3))])
 .ret)
 .skip)))))))
 (.ops [
oC 53 .add 27 1,
oM 27 53]))))
def body302 : ACode := (.seq
 (.ops [
oB 59 .lss 58 57])
 (.seq
 (.cond (.t 59)
 .skip
 (.exit 3))
 (.seq
 (.block 4
 (.seq
 (.ops [
oM 60 58,
oI 61 56 58 3,
oD 62 61 3,
oP 12 (.alloc [.int .i64 0, .int .i64 0, .int .i64 0]),
oM 11 60,
oT 12 62 3])
 (.seq
 (.ops [
oF 64 10 3,
oL 65 64,
oF 66 12 0,
oL 67 66,
oI 68 65 67 2,
oD 69 68 2,
oF 70 12 1,
oL 71 70,
oF 72 12 2,
oL 73 72,
oB 74 .sub 71 73,
oF 75 12 1,
oL 76 75,
oF 77 12 2,
oL 78 77,
oB 79 .add 76 78,
oP 80 (.build [.int .i64 0, .int .i64 0] [(0, 1, .t 74), (1, 1, .t 79)]),
oA 81 327 [.t 69, .t 80] true,
oM 63 81,
oX 82 63 0,
oX 83 63 1,
oP 13 (.alloc [.int .i64 0, .int .i64 0]),
oT 13 82 2,
oM 14 83])
 (.seq
 (.seq
 (.ops [
oM 84 14,
oP 85 (.not (.t 84))])
 (.cond (.t 85)
 (.seq
 (.ops [
oP 86 (.build [.int .i64 0, .int .i64 0, .int .i64 0, .slice none 0 0] []),
oM 87 11,
oT 4 86 4,
oM 5 87,
oP 6 (.move (oK 14))])
 .ret)
 .skip))
 (.ops [
oF 88 10 3,
oL 89 88,
oF 90 12 0,
oL 91 90,
oD 92 13 2,
oI 93 89 91 2,
oT 93 92 2])))))
 (.ops [
oC 94 .add 58 1,
oM 58 94]))))
def F302 : AFunc :=
 .fn 96 [.cell 4 (some 4), .tmp 5, .tmp 6]
 (.seq
 (.ops [
oP 2 (.box (.t 0)),
oP 4 (.alloc [.int .i64 0, .int .i64 0, .int .i64 0, .slice none 0 0]),
oP 5 (.move (oK 0)),
oP 6 (.move (oK 0))])
 (.seq
 (.seq
 (.ops [
oD 15 2 4,
oA 16 37 [.t 15] false,
oM 7 16])
 (.seq
 (.ops [
oM 17 7,
oC 18 .neq 17 0])
 (.cond (.t 18)
 (.seq
 (.ops [
oP 19 (.build [.int .i64 0, .int .i64 0, .int .i64 0, .slice none 0 0] []),
oM 20 7,
oT 4 19 4,
oP 5 (.move (oK 0)),
oM 6 20])
 .ret)
 .skip)))
 (.seq
 (.seq
 (.ops [
oM 21 1,
oP 22 (.len (.t 21)),
oC 23 .gtr 22 4096])
 (.cond (.t 23)
 (.seq
 (.ops [
oP 24 (.build [.int .i64 0, .int .i64 0, .int .i64 0, .slice none 0 0] []),
oT 4 24 4,
oP 5 (.move (oK 0)),
oP 6 (.move (oK 9))])
 .ret)
 .skip))
 (.seq
 (.seq
 (.ops [
oM 25 1,
oP 26 (.len (.t 25)),
oP 27 (.move (oK 0))])
 (.block 0
 (.loop body302a)))
 (.seq
 (.ops [
oD 54 2 4,
oA 55 326 [.t 54] false,
oP 10 (.alloc [.int .i64 0, .int .i64 0, .int .i64 0, .slice none 0 0]),
oT 10 55 4])
 (.seq
 (.seq
 (.ops [
oM 56 1,
oP 57 (.len (.t 56)),
oP 58 (.move (oK 0))])
 (.block 3
 (.loop body302)))
 (.seq
 (.ops [
oD 95 10 4,
oT 4 95 4,
oP 5 (.move (oK 0)),
oP 6 (.move (oK 0))])
 .ret)))))))
def F304 : AFunc :=
 .fn 33 [.cell 4 (some 4), .tmp 5]
 (.seq
 (.ops [
oP 2 (.box (.t 0)),
oP 3 (.box (.t 1)),
oP 4 (.alloc [.int .i64 0, .int .i64 0, .int .i64 0, .slice none 0 0]),
oP 5 (.move (oK 0))])
 (.seq
 (.seq
 (.ops [
oD 9 2 4,
oA 10 37 [.t 9] false,
oM 6 10])
 (.seq
 (.ops [
oM 11 6,
oC 12 .neq 11 0])
 (.cond (.t 12)
 (.seq
 (.ops [
oP 13 (.build [.int .i64 0, .int .i64 0, .int .i64 0, .slice none 0 0] []),
oM 14 6,
oT 4 13 4,
oM 5 14])
 .ret)
 .skip)))
 (.seq
 (.seq
 (.ops [
oL 15 3,
oA 16 55 [.t 15, .k (.int .i64 0), .k (.int .i64 2400000)] false,
oP 17 (.not (.t 16))])
 (.cond (.t 17)
 (.seq
 (.ops [
oP 18 (.build [.int .i64 0, .int .i64 0, .int .i64 0, .slice none 0 0] []),
oT 4 18 4,
oP 5 (.move (oK 3))])
 .ret)
 .skip))
 (.seq
 (.ops [
oD 19 2 4,
oA 20 326 [.t 19] false,
oP 7 (.alloc [.int .i64 0, .int .i64 0, .int .i64 0, .slice none 0 0]),
oT 7 20 4])
 (.seq
 (.ops [
oP 21 (.makeFunc 329 [] [.t 2, .t 3]),
oM 8 21])
 (.seq
 (.ops [
oM 22 8,
oP 23 (.makeFunc 331 [] [.t 7]),
oP 24 (.call (.t 22) [.k (.func (.func 274) ⟨[]⟩ ⟨[]⟩), .t 23] false)])
 (.seq
 (.ops [
oM 25 8,
oP 26 (.makeFunc 333 [] [.t 7]),
oP 27 (.call (.t 25) [.k (.func (.func 332) ⟨[]⟩ ⟨[]⟩), .t 26] false)])
 (.seq
 (.seq
 (.ops [
oF 28 7 3,
oL 29 28,
oP 30 (.call (.k (.func (.func 56) ⟨[]⟩ ⟨[]⟩)) [.t 29, .k (.func (.func 334) ⟨[]⟩ ⟨[]⟩)] false)])
 (.cond (.t 30)
 (.seq
 (.ops [
oP 31 (.build [.int .i64 0, .int .i64 0, .int .i64 0, .slice none 0 0] []),
oT 4 31 4,
oP 5 (.move (oK 14))])
 .ret)
 .skip))
 (.seq
 (.ops [
oD 32 7 4,
oT 4 32 4,
oP 5 (.move (oK 0))])
 .ret)))))))))
def body306b : ACode := (.seq
 (.ops [
oB 48 .lss 47 46])
 (.seq
 (.cond (.t 48)
 .skip
 (.exit 2))
 (.seq
 (.block 3
 (.seq
 (.ops [
oI 49 45 47 2,
oD 50 49 2,
oP 10 (.alloc [.int .i64 0, .int .i64 0]),
oT 10 50 2])
 (.ops [
oM 51 8,
oD 52 10 2,
oA 53 339 [.t 52] false,
⟨some 54, none, [], .slit 1 1 [.string ⟨⟨[]⟩⟩] [(0, .t 53)]⟩,
oP 55 (.append (.t 51) (.t 54) 1 16),
oM 8 55])))
 (.ops [
oC 56 .add 47 1,
oM 47 56]))))
def F306 : AFunc :=
 .fn 62 [.tmp 2, .tmp 3]
 (.seq
 (.ops [
oP 1 (.box (.t 0)),
⟨some 2, none, [], .move (.k (.string ⟨⟨[]⟩⟩))⟩,
oP 3 (.move (oK 0))])
 (.seq
 (.seq
 (.ops [
oD 11 1 4,
oA 12 37 [.t 11] false,
oM 4 12])
 (.seq
 (.ops [
oM 13 4,
oC 14 .neq 13 0])
 (.cond (.t 14)
 (.seq
 (.ops [
oM 15 4,
⟨some 2, none, [], .move (.k (.string ⟨⟨[]⟩⟩))⟩,
oM 3 15])
 .ret)
 .skip)))
 (.seq
 (.ops [
oP 5 (.allocB)])
 (.seq
 (.ops [
oP 16 (.makeFunc 335 [] [.t 5]),
oM 6 16])
 (.seq
 (.ops [
oM 17 6,
oF 18 1 0,
oL 19 18,
oA 20 338 [.t 19] true,
oF 21 1 1,
oL 22 21,
oA 23 338 [.t 22] true,
oF 24 1 2,
oL 25 24,
oA 26 338 [.t 25] false,
⟨some 27, none, [], .slit 4 1 [.string ⟨⟨[]⟩⟩] [(0, .k (.string ⟨⟨[103, 114, 105, 100]⟩⟩)), (1, .t 20), (2, .t 23), (3, .t 26)]⟩,
oP 28 (.call (.t 17) [.t 27] false)])
 (.seq
 (.seq
 (.ops [
oF 29 1 1,
oL 30 29,
oP 31 (.move (oK 0))])
 (.block 0
 (.loop
 (.seq
 (.ops [
oB 32 .lss 31 30])
 (.seq
 (.cond (.t 32)
 .skip
 (.exit 0))
 (.seq
 (.block 1
 (.seq
 (.ops [
oM 33 31,
oM 7 33])
 (.seq
 (.ops [
oP 8 (.move (.k (.slice none 0 0)))])
 (.seq
 (.seq
 (.ops [
oF 34 1 3,
oL 35 34,
oM 36 7,
oF 37 1 0,
oL 38 37,
oB 39 .mul 36 38,
oM 40 7,
oC 41 .add 40 1,
oF 42 1 0,
oL 43 42,
oB 44 .mul 41 43,
oP 45 (.reslice (.t 35) (some (.t 39)) (some (.t 44)) 2),
oP 46 (.len (.t 45)),
oP 47 (.move (oK 0))])
 (.block 2
 (.loop body306b)))
 (.ops [
oM 57 6,
oM 58 8,
oP 59 (.call (.t 57) [.t 58] false)])))))
 (.ops [
oC 60 .add 31 1,
oM 31 60])))))))
 (.seq
 (.ops [
oA 61 340 [.t 5] false,
oM 2 61,
oP 3 (.move (oK 0))])
 .ret)))))))
def body307 : ACode := (.seq
 (.seq
 (.ops [
oM 28 6,
oF 29 1 3,
oL 30 29,
oP 31 (.len (.t 30)),
oB 32 .lss 28 31])
 (.cond (.t 32)
 .skip
 (.exit 0)))
 (.seq
 (.block 1
 (.seq
 (.ops [
oF 35 1 3,
oL 36 35,
oM 37 6,
oI 38 36 37 2,
oD 39 38 2,
oP 7 (.alloc [.int .i64 0, .int .i64 0]),
oT 7 39 2])
 (.seq
 (.ops [
oM 40 5,
oF 41 7 0,
oL 42 41,
oA 43 341 [.t 42] false,
oP 44 (.strOp .add (.t 40) (.t 43)),
oM 5 44])
 (.seq
 (.seq
 (.ops [
oF 45 7 0,
oL 46 45,
oF 47 7 1,
oL 48 47,
oB 49 .neq 46 48])
 (.cond (.t 49)
 (.ops [
oM 50 5,
oF 51 7 1,
oL 52 51,
oA 53 341 [.t 52] false,
⟨some 54, none, [], .strOp .add (.k (.string ⟨⟨[46, 46]⟩⟩)) (.t 53)⟩,
oP 55 (.strOp .add (.t 50) (.t 54)),
oM 5 55])
 .skip))
 (.seq
 (.ops [
oM 56 6,
oC 57 .add 56 1,
oF 58 1 0,
oL 59 58,
oB 60 .rem 57 59,
oC 61 .eql 60 0])
 (.cond (.t 61)
 (.ops [
oM 62 5,
⟨some 63, none, [], .strOp .add (.t 62) (.k (.string ⟨⟨[10]⟩⟩))⟩,
oM 5 63])
 (.ops [
oM 64 5,
⟨some 65, none, [], .strOp .add (.t 64) (.k (.string ⟨⟨[32]⟩⟩))⟩,
oM 5 65])))))))
 (.ops [
oM 33 6,
oC 34 .add 33 1,
oM 6 34])))
def F307 : AFunc :=
 .fn 67 [.tmp 2, .tmp 3]
 (.seq
 (.ops [
oP 1 (.box (.t 0)),
⟨some 2, none, [], .move (.k (.string ⟨⟨[]⟩⟩))⟩,
oP 3 (.move (oK 0))])
 (.seq
 (.ops [
oD 8 1 4,
oA 9 40 [.t 8] false,
oM 4 9])
 (.seq
 (.seq
 (.ops [
oM 10 4,
oC 11 .neq 10 0])
 (.cond (.t 11)
 (.seq
 (.ops [
oM 12 4,
⟨some 2, none, [], .move (.k (.string ⟨⟨[]⟩⟩))⟩,
oM 3 12])
 .ret)
 .skip))
 (.seq
 (.ops [
oF 13 1 0,
oL 14 13,
oA 15 341 [.t 14] true,
⟨some 16, none, [], .strOp .add (.k (.string ⟨⟨[103, 114, 105, 100, 32]⟩⟩)) (.t 15)⟩,
⟨some 17, none, [], .strOp .add (.t 16) (.k (.string ⟨⟨[32]⟩⟩))⟩,
oF 18 1 1,
oL 19 18,
oA 20 341 [.t 19] true,
oP 21 (.strOp .add (.t 17) (.t 20)),
⟨some 22, none, [], .strOp .add (.t 21) (.k (.string ⟨⟨[32]⟩⟩))⟩,
oF 23 1 2,
oL 24 23,
oA 25 341 [.t 24] false,
oP 26 (.strOp .add (.t 22) (.t 25)),
⟨some 27, none, [], .strOp .add (.t 26) (.k (.string ⟨⟨[10]⟩⟩))⟩,
oM 5 27])
 (.seq
 (.seq
 (.ops [
oP 6 (.move (oK 0))])
 (.block 0
 (.loop body307)))
 (.seq
 (.ops [
oM 66 5,
oM 2 66,
oP 3 (.move (oK 0))])
 .ret))))))
def body308 : ACode := (.seq
 (.ops [
oB 29 .lss 28 27])
 (.seq
 (.cond (.t 29)
 .skip
 (.exit 2))
 (.seq
 (.block 3
 (.seq
 (.ops [
oM 30 28,
oI 31 26 28 1,
oL 32 31,
oM 7 30,
oM 8 32])
 (.seq
 (.ops [
oM 34 8,
⟨some 35, none, [], .call (.k (.func (.func 344) ⟨[]⟩ ⟨[]⟩)) [.t 34, .k (.string ⟨⟨[46, 46]⟩⟩)] false⟩,
oM 33 35,
oX 36 33 0,
oX 37 33 1,
oX 38 33 2,
oM 9 36,
oM 10 37,
oM 11 38])
 (.seq
 (.seq
 (.ops [
oM 39 11,
oP 40 (.not (.t 39))])
 (.cond (.t 40)
 (.ops [
oM 41 9,
oM 10 41])
 .skip))
 (.seq
 (.ops [
oM 43 9,
oA 44 345 [.t 43] false,
oM 42 44,
oX 45 42 0,
oX 46 42 1,
oM 12 45,
oM 13 46])
 (.seq
 (.ops [
oM 48 10,
oA 49 345 [.t 48] false,
oM 47 49,
oX 50 47 0,
oX 51 47 1,
oM 14 50,
oM 15 51])
 (.block 4
 (.seq
 (.ops [
oL 54 5,
oM 55 54,
oN 56 55 true 7,
oQ 57 55 true (.bin .eql (.t 56) (oK 0)),
oP 58 (.pick (.t 55) (.t 57) (.k (.bool false))),
oM 59 58,
oN 60 59 true 8,
⟨some 61, (some (59, true)), [], .strOp .eql (.t 60) (.k (.string ⟨⟨[103, 114, 105, 100]⟩⟩))⟩,
oP 62 (.pick (.t 59) (.t 61) (.k (.bool false))),
oM 53 62])
 (.cond (.t 53)
 .skip
 (.seq
 (.ops [
oM 64 13,
oP 65 (.eqNil 4 true (.t 64)),
oM 66 65,
oN 67 66 false 15,
oQ 68 66 false (.eqNil 4 true (.t 67)),
oP 69 (.pick (.t 66) (.k (.bool true)) (.t 68)),
oM 63 69])
 (.cond (.t 63)
 (.seq
 (.ops [
oP 70 (.build [.int .i64 0, .int .i64 0, .int .i64 0, .slice none 0 0] []),
oT 2 70 4,
⟨none, none, [], .store (.t 3) (.k (.int .i64 7)) 1⟩])
 .ret)
 (.seq
 (.ops [
oL 72 5,
oM 73 72,
oN 74 73 true 7,
oQ 75 73 true (.bin .eql (.t 74) (oK 1)),
oP 76 (.pick (.t 73) (.t 75) (.k (.bool false))),
oM 71 76])
 (.cond (.t 71)
 (.ops [
oM 77 12,
oF 78 4 0,
oT 78 77 1])
 (.seq
 (.ops [
oL 80 5,
oM 81 80,
oN 82 81 true 7,
oQ 83 81 true (.bin .eql (.t 82) (oK 2)),
oP 84 (.pick (.t 81) (.t 83) (.k (.bool false))),
oM 79 84])
 (.cond (.t 79)
 (.ops [
oM 85 12,
oF 86 4 1,
oT 86 85 1])
 (.seq
 (.ops [
oL 88 5,
oM 89 88,
oN 90 89 true 7,
oQ 91 89 true (.bin .eql (.t 90) (oK 3)),
oP 92 (.pick (.t 89) (.t 91) (.k (.bool false))),
oM 87 92])
 (.cond (.t 87)
 (.ops [
oM 93 12,
oF 94 4 2,
oT 94 93 1])
 (.seq
 (.ops [
oL 96 5,
oP 97 (.not (.t 96)),
oM 95 97])
 (.cond (.t 95)
 (.ops [
oF 98 4 3,
oL 99 98,
oM 100 12,
oM 101 14,
oP 102 (.build [.int .i64 0, .int .i64 0] [(0, 1, .t 100), (1, 1, .t 101)]),
oP 103 (.slit 1 2 [.int .i64 0, .int .i64 0] [(0, .t 102)]),
oP 104 (.append (.t 99) (.t 103) 2 16),
oF 105 4 3,
oT 105 104 1])
 (.seq
 (.ops [
oP 52 (.build [.int .i64 0, .int .i64 0, .int .i64 0, .slice none 0 0] []),
oT 2 52 4,
⟨none, none, [], .store (.t 3) (.k (.int .i64 7)) 1⟩])
 .ret))))))))))))))))))))
 (.ops [
oC 106 .add 28 1,
oM 28 106]))))
def F308 : AFunc :=
 .fn 121 [.cell 2 (some 4), .cell 3 none]
 (.seq
 (.ops [
oP 2 (.alloc [.int .i64 0, .int .i64 0, .int .i64 0, .slice none 0 0]),
oP 3 (.alloc [.int .i64 0])])
 (.seq
 (.seq
 (.ops [
oM 18 0,
oP 19 (.lenT (.t 18)),
oC 20 .gtr 19 65536])
 (.cond (.t 20)
 (.seq
 (.ops [
oP 21 (.build [.int .i64 0, .int .i64 0, .int .i64 0, .slice none 0 0] []),
oT 2 21 4,
⟨none, none, [], .store (.t 3) (.k (.int .i64 8)) 1⟩])
 .ret)
 .skip))
 (.seq
 (.ops [
oP 4 (.alloc [.int .i64 0, .int .i64 0, .int .i64 0, .slice none 0 0])])
 (.seq
 (.ops [
oP 5 (.alloc [.bool false]),
⟨none, none, [], .store (.t 5) (.k (.bool true)) 1⟩])
 (.seq
 (.seq
 (.ops [
oM 22 0,
oA 23 342 [.t 22] false])
 (.block 0
 (.rangeF (.t 23) [24]
 (.ops [
oM 6 24])
 (.block 1
 (.seq
 (.seq
 (.ops [
oM 25 6,
oA 26 343 [.t 25] false,
oP 27 (.len (.t 26)),
oP 28 (.move (oK 0))])
 (.block 2
 (.loop body308)))
 (.ops [
⟨none, none, [], .store (.t 5) (.k (.bool false)) 1⟩]))))))
 (.seq
 (.seq
 (.ops [
oD 108 4 4,
oA 109 306 [.t 108] false,
oM 107 109,
oX 110 107 0,
oX 111 107 1,
oM 16 110,
oM 17 111])
 (.seq
 (.ops [
oM 112 17,
oC 113 .neq 112 0,
oM 114 113,
oN 115 114 false 16,
oN 116 114 false 0,
oQ 117 114 false (.strOp .neq (.t 115) (.t 116)),
oP 118 (.pick (.t 114) (.k (.bool true)) (.t 117))])
 (.cond (.t 118)
 (.seq
 (.ops [
oP 119 (.build [.int .i64 0, .int .i64 0, .int .i64 0, .slice none 0 0] []),
oT 2 119 4,
⟨none, none, [], .store (.t 3) (.k (.int .i64 7)) 1⟩])
 .ret)
 .skip)))
 (.seq
 (.ops [
oD 120 4 4,
oT 2 120 4,
⟨none, none, [], .store (.t 3) (.k (.int .i64 0)) 1⟩])
 .ret)))))))
def body309i : ACode := (.seq
 (.seq
 (.ops [
oM 87 15,
oM 88 14,
oP 89 (.len (.t 88)),
oB 90 .lss 87 89,
oM 91 90,
oN 92 91 true 4,
oN 93 91 true 13,
oQ 94 91 true (.idxS (.t 92) (.t 93) 1),
oQ 95 91 true (.load (.t 94) none),
⟨some 96, (some (91, true)), [], .strOp .neq (.t 95) (.k (.string ⟨⟨[]⟩⟩))⟩,
oP 97 (.pick (.t 91) (.t 96) (.k (.bool false)))])
 (.cond (.t 97)
 .skip
 (.exit 2)))
 (.seq
 (.block 3
 (.seq
 (.ops [
oM 101 14,
oM 102 15,
oI 103 101 102 1,
oL 104 103,
oA 105 348 [.t 104] false,
oM 100 105,
oX 106 100 0,
oX 107 100 1,
oP 16 (.alloc [.int .i64 0, .int .i64 0]),
oT 16 106 2,
oM 17 107])
 (.seq
 (.seq
 (.ops [
oM 108 17,
oP 109 (.not (.t 108))])
 (.cond (.t 109)
 (.seq
 (.ops [
oP 110 (.build [.int .i64 0, .int .i64 0, .int .i64 0, .slice none 0 0] []),
oT 2 110 4,
oP 3 (.move (oK 7))])
 .ret)
 .skip))
 (.ops [
oF 111 12 3,
oL 112 111,
oD 113 16 2,
oP 114 (.slit 1 2 [.int .i64 0, .int .i64 0] [(0, .t 113)]),
oP 115 (.append (.t 112) (.t 114) 2 16),
oF 116 12 3,
oT 116 115 1]))))
 (.ops [
oM 98 15,
oC 99 .add 98 1,
oM 15 99])))
def F309 : AFunc :=
 .fn 131 [.cell 2 (some 4), .tmp 3]
 (.seq
 (.ops [
oP 2 (.alloc [.int .i64 0, .int .i64 0, .int .i64 0, .slice none 0 0]),
oP 3 (.move (oK 0))])
 (.seq
 (.seq
 (.ops [
oM 20 0,
oP 21 (.lenT (.t 20)),
oC 22 .gtr 21 65536])
 (.cond (.t 22)
 (.seq
 (.ops [
oP 23 (.build [.int .i64 0, .int .i64 0, .int .i64 0, .slice none 0 0] []),
oT 2 23 4,
oP 3 (.move (oK 8))])
 .ret)
 .skip))
 (.seq
 (.ops [
oM 24 0,
oA 25 346 [.t 24, .k (.int .u8 10)] false,
oM 4 25])
 (.seq
 (.ops [
oM 26 4,
oP 27 (.idxS (.t 26) (oK 0) 1),
oL 28 27,
oA 29 346 [.t 28, .k (.int .u8 32)] false,
oM 5 29])
 (.seq
 (.seq
 (.ops [
oM 30 5,
oP 31 (.len (.t 30)),
oC 32 .neq 31 4,
oM 33 32,
oN 34 33 false 5,
oQ 35 33 false (.idxS (.t 34) (oK 0) 1),
oQ 36 33 false (.load (.t 35) none),
⟨some 37, (some (33, false)), [], .strOp .neq (.t 36) (.k (.string ⟨⟨[103, 114, 105, 100]⟩⟩))⟩,
oP 38 (.pick (.t 33) (.k (.bool true)) (.t 37))])
 (.cond (.t 38)
 (.seq
 (.ops [
oP 39 (.build [.int .i64 0, .int .i64 0, .int .i64 0, .slice none 0 0] []),
oT 2 39 4,
oP 3 (.move (oK 7))])
 .ret)
 .skip))
 (.seq
 (.ops [
oM 41 5,
oP 42 (.idxS (.t 41) (oK 1) 1),
oL 43 42,
oA 44 347 [.t 43, .k (.int .i64 24)] false,
oM 40 44,
oX 45 40 0,
oX 46 40 1,
oM 6 45,
oM 7 46])
 (.seq
 (.ops [
oM 48 5,
oP 49 (.idxS (.t 48) (oK 2) 1),
oL 50 49,
oA 51 347 [.t 50, .k (.int .i64 24)] false,
oM 47 51,
oX 52 47 0,
oX 53 47 1,
oM 8 52,
oM 9 53])
 (.seq
 (.ops [
oM 55 5,
oP 56 (.idxS (.t 55) (oK 3) 1),
oL 57 56,
oA 58 347 [.t 57, .k (.int .i64 10000)] false,
oM 54 58,
oX 59 54 0,
oX 60 54 1,
oM 10 59,
oM 11 60])
 (.seq
 (.seq
 (.ops [
oM 61 7,
oP 62 (.not (.t 61)),
oM 63 62,
oN 64 63 false 9,
oQ 65 63 false (.not (.t 64)),
oP 66 (.pick (.t 63) (.k (.bool true)) (.t 65)),
oM 67 66,
oN 68 67 false 11,
oQ 69 67 false (.not (.t 68)),
oP 70 (.pick (.t 67) (.k (.bool true)) (.t 69))])
 (.cond (.t 70)
 (.seq
 (.ops [
oP 71 (.build [.int .i64 0, .int .i64 0, .int .i64 0, .slice none 0 0] []),
oT 2 71 4,
oP 3 (.move (oK 7))])
 .ret)
 .skip))
 (.seq
 (.ops [
oM 72 6,
oM 73 8,
oM 74 10,
oP 75 (.build [.int .i64 0, .int .i64 0, .int .i64 0, .slice none 0 0] [(0, 1, .t 72), (1, 1, .t 73), (2, 1, .t 74)]),
oP 12 (.alloc [.int .i64 0, .int .i64 0, .int .i64 0, .slice none 0 0]),
oT 12 75 4])
 (.seq
 (.seq
 (.ops [
oP 13 (.move (oK 1))])
 (.block 0
 (.loop
 (.seq
 (.seq
 (.ops [
oM 76 13,
oM 77 4,
oP 78 (.len (.t 77)),
oB 79 .lss 76 78])
 (.cond (.t 79)
 .skip
 (.exit 0)))
 (.seq
 (.block 1
 (.seq
 (.ops [
oM 82 4,
oM 83 13,
oI 84 82 83 1,
oL 85 84,
oA 86 346 [.t 85, .k (.int .u8 32)] false,
oM 14 86])
 (.seq
 (.ops [
oP 15 (.move (oK 0))])
 (.block 2
 (.loop body309i)))))
 (.ops [
oM 80 13,
oC 81 .add 80 1,
oM 13 81]))))))
 (.seq
 (.ops [
oD 118 12 4,
oA 119 307 [.t 118] false,
oM 117 119,
oX 120 117 0,
oX 121 117 1,
oM 18 120,
oM 19 121])
 (.seq
 (.seq
 (.ops [
oM 122 19,
oC 123 .neq 122 0,
oM 124 123,
oN 125 124 false 18,
oN 126 124 false 0,
oQ 127 124 false (.strOp .neq (.t 125) (.t 126)),
oP 128 (.pick (.t 124) (.k (.bool true)) (.t 127))])
 (.cond (.t 128)
 (.seq
 (.ops [
oP 129 (.build [.int .i64 0, .int .i64 0, .int .i64 0, .slice none 0 0] []),
oT 2 129 4,
oP 3 (.move (oK 7))])
 .ret)
 .skip))
 (.seq
 (.ops [
oD 130 12 4,
oT 2 130 4,
oP 3 (.move (oK 0))])
 .ret))))))))))))))
def F320 : AFunc :=
 .fn 7 [.cell 0 (some 4)]
 (.seq
 (.ops [
oP 0 (.alloc [.int .i64 0, .int .i64 0, .int .i64 0, .slice none 0 0])])
 (.seq
 (.ops [
oP 1 (.build [.int .i64 0, .int .i64 0] [(0, 1, .k (.int .i64 (-500))), (1, 1, .k (.int .i64 (-500)))]),
oP 2 (.build [.int .i64 0, .int .i64 0] [(0, 1, .k (.int .i64 10)), (1, 1, .k (.int .i64 20))]),
oP 3 (.build [.int .i64 0, .int .i64 0] [(0, 1, .k (.int .i64 (-30))), (1, 1, .k (.int .i64 (-10)))]),
oP 4 (.build [.int .i64 0, .int .i64 0] [(0, 1, .k (.int .i64 5)), (1, 1, .k (.int .i64 40))]),
oP 5 (.slit 4 2 [.int .i64 0, .int .i64 0] [(0, .t 1), (1, .t 2), (2, .t 3), (3, .t 4)]),
oP 6 (.build [.int .i64 0, .int .i64 0, .int .i64 0, .slice none 0 0] [(0, 1, .k (.int .i64 4)), (1, 1, .k (.int .i64 1)), (2, 1, .k (.int .i64 100)), (3, 1, .t 5)]),
oT 0 6 4])
 .ret))
def F55 : AFunc :=
 .fn 15 [.tmp 6]
 (.seq
 (.ops [
oP 6 (.move (.k (.bool false)))])
 (.seq
 (.ops [
oM 7 0,
oM 8 1,
oB 9 .geq 7 8,
oM 10 9,
oN 11 10 true 0,
oN 12 10 true 2,
oQ 13 10 true (.bin .leq (.t 11) (.t 12)),
oP 14 (.pick (.t 10) (.t 13) (.k (.bool false))),
oM 6 14])
 .ret))
def F111 : AFunc :=
 .fn 5 [.tmp 2]
 (.seq
 (.ops [
oP 2 (.move (.k (.slice none 0 0)))])
 (.seq
 (.ops [
oM 3 0,
oA 4 113 [.k (.slice none 0 0), .t 3] false,
oM 2 4])
 .ret))
def F112 : AFunc :=
 .fn 6 [.tmp 4]
 (.seq
 (.ops [
oP 2 (.box (.t 0)),
oP 3 (.box (.t 1)),
oP 4 (.move (.k (.nilFunc)))])
 (.seq
 (.ops [
oP 5 (.makeFunc 114 [] [.t 3, .t 2]),
oM 4 5])
 .ret))
def F59 : AFunc :=
 .fn 15 [.tmp 6]
 (.seq
 (.ops [
oP 6 (.move (.k (.bool false)))])
 (.seq
 (.ops [
oM 7 0,
oM 8 1,
oB 9 .geq 7 8,
oM 10 9,
oN 11 10 true 0,
oN 12 10 true 2,
oQ 13 10 true (.bin .leq (.t 11) (.t 12)),
oP 14 (.pick (.t 10) (.t 13) (.k (.bool false))),
oM 6 14])
 .ret))
def F56 : AFunc :=
 .fn 9 [.tmp 4]
 (.seq
 (.ops [
oP 4 (.move (.k (.bool false)))])
 (.seq
 (.ops [
oM 5 0,
oM 6 1,
oA 7 82 [.t 5, .t 6] false,
oC 8 .geq 7 0,
oM 4 8])
 .ret))
def F57 : AFunc :=
 .fn 6 [.tmp 2]
 (.seq
 (.ops [
oP 1 (.box (.t 0)),
oP 2 (.move (.k (.bool false)))])
 (.seq
 (.ops [
oD 3 1 2,
oA 4 58 [.t 3, .k (.int .i64 1200000)] false,
oP 5 (.not (.t 4)),
oM 2 5])
 .ret))
def F58 : AFunc :=
 .fn 23 [.tmp 4]
 (.seq
 (.ops [
oP 2 (.box (.t 0)),
oP 4 (.move (.k (.bool false)))])
 (.seq
 (.ops [
oF 5 2 0,
oL 6 5,
oF 7 2 1,
oL 8 7,
oB 9 .leq 6 8,
oM 10 9,
oQ 11 10 true (.fieldAddr (.t 2) 0),
oQ 12 10 true (.load (.t 11) none),
oN 13 10 true 1,
oQ 14 10 true (.neg (.t 13)),
oQ 15 10 true (.bin .geq (.t 12) (.t 14)),
oP 16 (.pick (.t 10) (.t 15) (.k (.bool false))),
oM 17 16,
oQ 18 17 true (.fieldAddr (.t 2) 1),
oQ 19 17 true (.load (.t 18) none),
oN 20 17 true 1,
oQ 21 17 true (.bin .leq (.t 19) (.t 20)),
oP 22 (.pick (.t 17) (.t 21) (.k (.bool false))),
oM 4 22])
 .ret))
def F266 : AFunc :=
 .fn 20 [.tmp 4]
 (.seq
 (.ops [
oP 2 (.box (.t 0)),
oP 4 (.move (oK 0))])
 (.seq
 (.ops [
oD 6 2 4,
oA 7 37 [.t 6] false,
oM 5 7])
 (.seq
 (.block 0
 (.seq
 (.ops [
oM 9 5,
oC 10 .neq 9 0,
oM 8 10])
 (.cond (.t 8)
 (.seq
 (.ops [
oM 11 5,
oM 4 11])
 .ret)
 (.seq
 (.ops [
oM 13 1,
oP 14 (.len (.t 13)),
oC 15 .eql 14 0,
oM 12 15])
 (.cond (.t 12)
 (.seq
 (.ops [
oP 4 (.move (oK 18))])
 .ret)
 (.seq
 (.ops [
oM 17 1,
oP 18 (.makeFunc 272 [] [.t 2]),
oA 19 180 [.t 17, .t 18] false,
oM 16 19])
 (.cond (.t 16)
 (.seq
 (.ops [
oP 4 (.move (oK 4))])
 .ret)
 .skip)))))))
 (.seq
 (.ops [
oP 4 (.move (oK 0))])
 .ret))))
def F267 : AFunc :=
 .fn 33 [.tmp 4]
 (.seq
 (.ops [
oP 4 (.move (.k (.slice none 0 0)))])
 (.seq
 (.ops [
oP 5 (.move (.k (.slice none 0 0)))])
 (.seq
 (.ops [
oM 9 0,
oP 10 (.call (.t 9) [.k (.func (.func 273) ⟨[]⟩ ⟨[]⟩)] false),
oM 11 0,
oP 12 (.call (.t 11) [.k (.func (.func 274) ⟨[]⟩ ⟨[]⟩)] false),
oM 6 10,
oM 7 12])
 (.seq
 (.seq
 (.ops [
oM 13 6,
oP 14 (.len (.t 13)),
oP 15 (.move (oK 0))])
 (.block 0
 (.loop
 (.seq
 (.ops [
oB 16 .lss 15 14])
 (.seq
 (.cond (.t 16)
 .skip
 (.exit 0))
 (.seq
 (.block 1
 (.seq
 (.ops [
oM 17 15,
oM 8 17])
 (.ops [
oM 18 5,
oM 19 1,
oM 20 6,
oM 21 8,
oI 22 20 21 1,
oL 23 22,
oM 24 7,
oM 25 8,
oI 26 24 25 1,
oL 27 26,
oP 28 (.call (.t 19) [.t 23, .t 27] false),
oP 29 (.slit 1 2 [.int .i64 0, .int .i64 0] [(0, .t 28)]),
oP 30 (.append (.t 18) (.t 29) 2 16),
oM 5 30])))
 (.ops [
oC 31 .add 15 1,
oM 15 31])))))))
 (.seq
 (.ops [
oM 32 5,
oM 4 32])
 .ret)))))
def F268 : AFunc :=
 .fn 9 [.tmp 4]
 (.seq
 (.ops [
oP 3 (.box (.t 0)),
oP 4 (.move (.k (.slice none 0 0)))])
 (.seq
 (.ops [
oD 5 1 4,
oL 6 2,
oP 7 (.makeFunc 270 [] [.t 3, .t 1]),
oA 8 269 [.t 5, .t 6, .t 7] false,
oM 4 8])
 .ret))
def F269 : AFunc :=
 .fn 47 [.tmp 6]
 (.seq
 (.ops [
oP 3 (.box (.t 0)),
oP 5 (.box (.t 2)),
oP 6 (.move (.k (.slice none 0 0)))])
 (.seq
 (.ops [
oP 14 (.slit 1 1 [.int .i64 0] [(0, .k (.int .i64 1073741824))]),
oF 15 3 3,
oL 16 15,
oP 17 (.len (.t 16)),
oA 18 83 [.t 14, .t 17] false,
oP 7 (.alloc [.slice none 0 0]),
oT 7 18 1])
 (.seq
 (.ops [
oP 19 (.build [.slice none 0 0, .nilFunc] [(1, 1, .k (.func (.func 275) ⟨[]⟩ ⟨[]⟩))]),
oP 8 (.alloc [.slice none 0 0, .nilFunc]),
oT 8 19 2])
 (.seq
 (.ops [
oP 20 (.makeFunc 276 [] [.t 5, .t 7, .t 8]),
oP 9 (.alloc [.nilFunc]),
oT 9 20 1])
 (.seq
 (.seq
 (.ops [
oM 21 1,
oP 22 (.len (.t 21)),
oP 23 (.move (oK 0))])
 (.block 0
 (.loop
 (.seq
 (.ops [
oB 24 .lss 23 22])
 (.seq
 (.cond (.t 24)
 .skip
 (.exit 0))
 (.seq
 (.block 1
 (.seq
 (.ops [
oI 25 21 23 1,
oL 26 25,
oM 11 26])
 (.ops [
oL 27 9,
oM 28 11,
oP 29 (.call (.t 27) [.t 28, .k (.int .i64 (-1073741824))] false)])))
 (.ops [
oC 30 .add 23 1,
oM 23 30])))))))
 (.seq
 (.block 2
 (.loop
 (.seq
 (.seq
 (.ops [
oF 31 8 0,
oL 32 31,
oP 33 (.len (.t 32)),
oC 34 .gtr 33 0])
 (.cond (.t 34)
 .skip
 (.exit 2)))
 (.block 3
 (.seq
 (.ops [
oA 35 278 [.t 8] false,
oP 12 (.alloc [.int .i64 0, .int .i64 0]),
oT 12 35 2])
 (.seq
 (.ops [
oD 36 3 4,
oF 37 12 0,
oL 38 37,
oA 39 112 [.t 36, .t 38] false])
 (.block 4
 (.rangeF (.t 39) [40]
 (.ops [
oM 13 40])
 (.block 5
 (.ops [
oL 41 9,
oM 42 13,
oF 43 12 1,
oL 44 43,
oP 45 (.call (.t 41) [.t 42, .t 44] false)]))))))))))
 (.seq
 (.ops [
oL 46 7,
oM 6 46])
 .ret)))))))
def F270 : AFunc :=
 .fn 13 [.tmp 4, .tmp 5]
 (.seq
 (.ops [
oP 4 (.move (oK 0)),
oP 5 (.move (.k (.bool false)))])
 (.seq
 (.ops [
oL 6 1,
oF 7 2 3,
oL 8 7,
oM 9 0,
oI 10 8 9 2,
oD 11 10 2,
oP 12 (.call (.t 6) [.t 11] false),
oM 4 12,
oP 5 (.move (.k (.bool true)))])
 .ret))
def F271 : AFunc :=
 .fn 8 [.cell 4 (some 2)]
 (.seq
 (.ops [
oP 4 (.alloc [.int .i64 0, .int .i64 0])])
 (.seq
 (.ops [
oM 5 0,
oM 6 1,
oP 7 (.build [.int .i64 0, .int .i64 0] [(0, 1, .t 5), (1, 1, .t 6)]),
oT 4 7 2])
 .ret))
def F324 : AFunc :=
 .fn 31 [.tmp 8, .tmp 9]
 (.seq
 (.ops [
oP 4 (.box (.t 0)),
oP 6 (.box (.t 2)),
oP 7 (.box (.t 3)),
oP 8 (.move (oK 0)),
oP 9 (.move (.k (.bool false)))])
 (.seq
 (.seq
 (.ops [
oM 13 1,
oL 14 6,
oA 15 169 [.t 13, .t 14] false])
 (.cond (.t 15)
 (.seq
 (.ops [
oP 8 (.move (oK 0)),
oP 9 (.move (.k (.bool false)))])
 .ret)
 .skip))
 (.seq
 (.ops [
oD 16 4 4,
oM 17 1,
oP 18 (.makeFunc 349 [] [.t 7, .t 4, .t 6]),
oA 19 269 [.t 16, .t 17, .t 18] false,
oP 10 (.alloc [.slice none 0 0]),
oT 10 19 1])
 (.seq
 (.ops [
oP 11 (.alloc [.int .i64 0]),
⟨none, none, [], .store (.t 11) (.k (.int .i64 1073741824)) 1⟩])
 (.seq
 (.seq
 (.ops [
oD 20 4 4,
oL 21 6,
oA 22 112 [.t 20, .t 21] false])
 (.block 0
 (.rangeF (.t 22) [23]
 (.ops [
oM 12 23])
 (.block 1
 (.ops [
oL 24 11,
oL 25 10,
oM 26 12,
oI 27 25 26 1,
oL 28 27,
oP 29 (.min [.t 24, .t 28]),
oT 11 29 1])))))
 (.seq
 (.ops [
oL 30 11,
oM 8 30,
oP 9 (.move (.k (.bool true)))])
 .ret))))))
def F273 : AFunc :=
 .fn 5 [.tmp 2]
 (.seq
 (.ops [
oP 1 (.box (.t 0)),
oP 2 (.move (oK 0))])
 (.seq
 (.ops [
oF 3 1 0,
oL 4 3,
oM 2 4])
 .ret))
def F274 : AFunc :=
 .fn 5 [.tmp 2]
 (.seq
 (.ops [
oP 1 (.box (.t 0)),
oP 2 (.move (oK 0))])
 (.seq
 (.ops [
oF 3 1 1,
oL 4 3,
oM 2 4])
 .ret))
end Go.Ab.Grid
