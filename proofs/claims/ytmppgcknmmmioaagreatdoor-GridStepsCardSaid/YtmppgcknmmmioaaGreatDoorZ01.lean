/- The program's functions in abstract form: made by a program of ours. -/
import Derived.Test.YtmppgcknmmmioaaGreatDoorZ00
set_option linter.unusedSimpArgs false
set_option linter.unusedVariables false
set_option linter.unusedSectionVars false
set_option maxRecDepth 100000
namespace Go.Ab.Grid
open Go.Ab
def F282 : AFunc :=
 .fn 35 [.tmp 4]
 (.seq
 (.ops [
oP 2 (.box (.t 0)),
oP 4 (.move (.k (.bool false)))])
 (.seq
 (.seq
 (.ops [
oD 9 2 4,
oA 10 292 [.t 9] false])
 (.cond (.t 10)
 (.seq
 (.ops [
oA 11 289 [] false,
oM 4 11])
 .ret)
 .skip))
 (.seq
 (.ops [
oD 13 2 4,
oM 14 1,
oA 15 304 [.t 13, .t 14] false,
oM 12 15,
oX 16 12 0,
oX 17 12 1,
oP 5 (.alloc [.int .i64 0, .int .i64 0, .int .i64 0, .slice none 0 0]),
oT 5 16 4,
oM 6 17])
 (.seq
 (.ops [
oD 19 2 4,
oM 20 1,
oA 21 305 [.t 19, .t 20] false,
oM 18 21,
oX 22 18 0,
oX 23 18 1,
oP 7 (.alloc [.int .i64 0, .int .i64 0, .int .i64 0, .slice none 0 0]),
oT 7 22 4,
oM 8 23])
 (.seq
 (.ops [
oD 24 5 4,
oD 25 7 4,
oA 26 301 [.t 24, .t 25] false,
oM 27 26,
oN 28 27 true 6,
oN 29 27 true 8,
oQ 30 27 true (.bin .eql (.t 28) (.t 29)),
oP 31 (.pick (.t 27) (.t 30) (.k (.bool false))),
oM 32 31,
oQ 33 32 true (.call (.k (.func (.func 289) ⟨[]⟩ ⟨[]⟩)) [] false),
oP 34 (.pick (.t 32) (.t 33) (.k (.bool false))),
oM 4 34])
 .ret)))))
def F289 : AFunc :=
 .fn 189 [.tmp 0]
 (.seq
 (.ops [
oP 0 (.move (.k (.bool false)))])
 (.seq
 (.ops [
oA 16 320 [] false,
oP 1 (.alloc [.int .i64 0, .int .i64 0, .int .i64 0, .slice none 0 0]),
oT 1 16 4])
 (.seq
 (.ops [
oD 18 1 4,
oA 19 110 [.t 18, .k (.int .i64 1)] false,
oM 17 19,
oX 20 17 0,
oX 21 17 1,
oM 2 20,
oM 3 21])
 (.seq
 (.ops [
oD 23 1 4,
oP 24 (.slit 1 1 [.int .i64 0] [(0, .k (.int .i64 0))]),
oA 25 265 [.t 23, .t 24] false,
oM 22 25,
oX 26 22 0,
oX 27 22 1,
oM 4 26,
oM 5 27])
 (.seq
 (.ops [
oD 29 1 4,
oP 30 (.slit 1 1 [.int .i64 0] [(0, .k (.int .i64 0))]),
oP 31 (.build [.int .i64 0, .int .i64 0] [(0, 1, .k (.int .i64 15)), (1, 1, .k (.int .i64 25))]),
oA 32 253 [.t 29, .t 30, .t 31] false,
oM 28 32,
oX 33 28 0,
oX 34 28 1,
oX 35 28 2,
oM 6 33,
oM 7 34,
oM 8 35])
 (.seq
 (.seq
 (.ops [
oM 36 3,
oC 37 .neq 36 0,
oM 38 37,
oN 39 38 false 5,
oQ 40 38 false (.bin .neq (.t 39) (oK 0)),
oP 41 (.pick (.t 38) (.k (.bool true)) (.t 40)),
oM 42 41,
oN 43 42 false 8,
oQ 44 42 false (.bin .neq (.t 43) (oK 0)),
oP 45 (.pick (.t 42) (.k (.bool true)) (.t 44)),
oM 46 45,
oN 47 46 false 2,
oQ 48 46 false (.slit 2 1 [.int .i64 0] [(0, .k (.int .i64 2)), (1, .k (.int .i64 0))]),
oQ 49 46 false (.call (.k (.func (.func 291) ⟨[]⟩ ⟨[]⟩)) [.t 47, .t 48] false),
oQ 50 46 false (.not (.t 49)),
oP 51 (.pick (.t 46) (.k (.bool true)) (.t 50)),
oM 52 51,
oN 53 52 false 4,
oQ 54 52 false (.build [.int .i64 0, .int .i64 0] [(0, 1, .k (.int .i64 (-500))), (1, 1, .k (.int .i64 (-500)))]),
oQ 55 52 false (.build [.int .i64 0, .int .i64 0] [(0, 1, .k (.int .i64 10)), (1, 1, .k (.int .i64 20))]),
oQ 56 52 false (.build [.int .i64 0, .int .i64 0] [(0, 1, .k (.int .i64 10)), (1, 1, .k (.int .i64 20))]),
oQ 57 52 false (.build [.int .i64 0, .int .i64 0] [(0, 1, .k (.int .i64 10)), (1, 1, .k (.int .i64 40))]),
oQ 58 52 false (.slit 4 2 [.int .i64 0, .int .i64 0] [(0, .t 54), (1, .t 55), (2, .t 56), (3, .t 57)]),
oQ 59 52 false (.call (.k (.func (.func 294) ⟨[]⟩ ⟨[]⟩)) [.t 53, .t 58] false),
oQ 60 52 false (.not (.t 59)),
oP 61 (.pick (.t 52) (.k (.bool true)) (.t 60)),
oM 62 61,
oN 63 62 false 6,
oQ 64 62 false (.slit 4 1 [.bool false] [(0, .k (.bool true)), (1, .k (.bool false)), (2, .k (.bool false)), (3, .k (.bool false))]),
oQ 65 62 false (.call (.k (.func (.func 296) ⟨[]⟩ ⟨[]⟩)) [.t 63, .t 64] false),
oQ 66 62 false (.not (.t 65)),
oP 67 (.pick (.t 62) (.k (.bool true)) (.t 66)),
oM 68 67,
oN 69 68 false 7,
oQ 70 68 false (.slit 4 1 [.bool false] [(0, .k (.bool true)), (1, .k (.bool true)), (2, .k (.bool true)), (3, .k (.bool true))]),
oQ 71 68 false (.call (.k (.func (.func 296) ⟨[]⟩ ⟨[]⟩)) [.t 69, .t 70] false),
oQ 72 68 false (.not (.t 71)),
oP 73 (.pick (.t 68) (.k (.bool true)) (.t 72))])
 (.cond (.t 73)
 (.seq
 (.ops [
oP 0 (.move (.k (.bool false)))])
 .ret)
 .skip))
 (.seq
 (.ops [
oD 75 1 4,
oP 76 (.slit 1 1 [.int .i64 0] [(0, .k (.int .i64 0))]),
oA 77 297 [.t 75, .t 76] false,
oM 74 77,
oX 78 74 0,
oX 79 74 1,
oM 9 78,
oM 3 79])
 (.seq
 (.ops [
oD 81 1 4,
oA 82 304 [.t 81, .k (.int .i64 515)] false,
oM 80 82,
oX 83 80 0,
oX 84 80 1,
oP 10 (.alloc [.int .i64 0, .int .i64 0, .int .i64 0, .slice none 0 0]),
oT 10 83 4,
oM 5 84])
 (.seq
 (.ops [
oD 86 1 4,
oA 87 304 [.t 86, .k (.int .i64 500)] false,
oM 85 87,
oX 88 85 0,
oX 89 85 1,
oM 8 89])
 (.seq
 (.seq
 (.ops [
oM 90 3,
oC 91 .neq 90 0,
oM 92 91,
oN 93 92 false 5,
oQ 94 92 false (.bin .neq (.t 93) (oK 0)),
oP 95 (.pick (.t 92) (.k (.bool true)) (.t 94)),
oM 96 95,
oN 97 96 false 8,
oQ 98 96 false (.bin .neq (.t 97) (oK 14)),
oP 99 (.pick (.t 96) (.k (.bool true)) (.t 98)),
oM 100 99,
oN 101 100 false 9,
oQ 102 100 false (.build [.int .i64 0, .int .i64 0] []),
oQ 103 100 false (.build [.int .i64 0, .int .i64 0] []),
oQ 104 100 false (.build [.int .i64 0, .int .i64 0] [(0, 1, .k (.int .i64 20)), (1, 1, .k (.int .i64 50))]),
oQ 105 100 false (.build [.int .i64 0, .int .i64 0] [(0, 1, .k (.int .i64 0)), (1, 1, .k (.int .i64 15))]),
oQ 106 100 false (.slit 4 2 [.int .i64 0, .int .i64 0] [(0, .t 102), (1, .t 103), (2, .t 104), (3, .t 105)]),
oQ 107 100 false (.call (.k (.func (.func 294) ⟨[]⟩ ⟨[]⟩)) [.t 101, .t 106] false),
oQ 108 100 false (.not (.t 107)),
oP 109 (.pick (.t 100) (.k (.bool true)) (.t 108)),
oM 110 109,
oQ 111 110 false (.fieldAddr (.t 10) 3),
oQ 112 110 false (.load (.t 111) none),
oQ 113 110 false (.len (.t 112)),
oQ 114 110 false (.bin .neq (.t 113) (oK 4)),
oP 115 (.pick (.t 110) (.k (.bool true)) (.t 114)),
oM 116 115,
oQ 117 116 false (.fieldAddr (.t 10) 3),
oQ 118 116 false (.load (.t 117) none),
oQ 119 116 false (.idxS (.t 118) (oK 1) 2),
oQ 120 116 false (.load (.t 119) (some 2)),
oQ 121 116 false (.build [.int .i64 0, .int .i64 0] [(0, 1, .k (.int .i64 10)), (1, 1, .k (.int .i64 15))]),
oQ 122 116 false (.eqv true [false, false] (.t 120) (.t 121)),
oP 123 (.pick (.t 116) (.k (.bool true)) (.t 122))])
 (.cond (.t 123)
 (.seq
 (.ops [
oP 0 (.move (.k (.bool false)))])
 .ret)
 .skip))
 (.seq
 (.ops [
oD 125 1 4,
oP 126 (.build [.int .i64 0, .int .i64 0, .int .i64 0] [(0, 1, .k (.int .i64 1)), (1, 1, .k (.int .i64 5)), (2, 1, .k (.int .i64 10))]),
oP 127 (.build [.int .i64 0, .int .i64 0, .int .i64 0] [(0, 1, .k (.int .i64 2)), (1, 1, .k (.int .i64 (-40))), (2, 1, .k (.int .i64 5))]),
oP 128 (.slit 2 3 [.int .i64 0, .int .i64 0, .int .i64 0] [(0, .t 126), (1, .t 127)]),
oA 129 302 [.t 125, .t 128] false,
oM 124 129,
oX 130 124 0,
oX 131 124 1,
oX 132 124 2,
oP 11 (.alloc [.int .i64 0, .int .i64 0, .int .i64 0, .slice none 0 0]),
oT 11 130 4,
oM 12 131,
oM 3 132])
 (.seq
 (.seq
 (.ops [
oM 133 3,
oC 134 .neq 133 14,
oM 135 134,
oN 136 135 false 12,
oQ 137 135 false (.bin .neq (.t 136) (oK 1)),
oP 138 (.pick (.t 135) (.k (.bool true)) (.t 137)),
oM 139 138,
oQ 140 139 false (.fieldAddr (.t 11) 3),
oQ 141 139 false (.load (.t 140) none),
oQ 142 139 false (.len (.t 141)),
oQ 143 139 false (.bin .neq (.t 142) (oK 0)),
oP 144 (.pick (.t 139) (.k (.bool true)) (.t 143))])
 (.cond (.t 144)
 (.seq
 (.ops [
oP 0 (.move (.k (.bool false)))])
 .ret)
 .skip))
 (.seq
 (.ops [
oD 146 1 4,
oD 147 10 4,
oA 148 299 [.t 146, .t 147] false,
oM 145 148,
oX 149 145 0,
oX 150 145 1,
oX 151 145 2,
oP 13 (.alloc [.int .i64 0, .int .i64 0, .int .i64 0, .slice none 0 0]),
oT 13 149 4,
oM 12 150,
oM 3 151])
 (.seq
 (.ops [
oD 153 1 4,
oA 154 306 [.t 153] false,
oM 152 154,
oX 155 152 0,
oX 156 152 1,
oM 14 155,
oM 5 156])
 (.seq
 (.ops [
⟨some 158, none, [], .call (.k (.func (.func 308) ⟨[]⟩ ⟨[]⟩)) [.k (.string ⟨⟨[103, 114, 105, 100, 32, 52, 32, 49, 32, 49, 48, 48, 10, 45, 53, 48, 48, 32, 49, 48, 46, 46, 50, 48, 32, 45, 51, 48, 46, 46, 45, 49, 48, 32, 53, 46, 46, 52, 48, 10]⟩⟩)] false⟩,
oM 157 158,
oX 159 157 0,
oX 160 157 1,
oP 15 (.alloc [.int .i64 0, .int .i64 0, .int .i64 0, .slice none 0 0]),
oT 15 159 4,
oM 8 160])
 (.seq
 (.ops [
oM 161 3,
oC 162 .eql 161 0,
oM 163 162,
oN 164 163 true 5,
oQ 165 163 true (.bin .eql (.t 164) (oK 0)),
oP 166 (.pick (.t 163) (.t 165) (.k (.bool false))),
oM 167 166,
oN 168 167 true 8,
oQ 169 167 true (.bin .eql (.t 168) (oK 0)),
oP 170 (.pick (.t 167) (.t 169) (.k (.bool false))),
oM 171 170,
oN 172 171 true 12,
oQ 173 171 true (.bin .eql (.t 172) (oK 0)),
oP 174 (.pick (.t 171) (.t 173) (.k (.bool false))),
oM 175 174,
oQ 176 175 true (.load (.t 13) (some 4)),
oQ 177 175 true (.load (.t 10) (some 4)),
oQ 178 175 true (.call (.k (.func (.func 301) ⟨[]⟩ ⟨[]⟩)) [.t 176, .t 177] false),
oP 179 (.pick (.t 175) (.t 178) (.k (.bool false))),
oM 180 179,
oN 181 180 true 14,
⟨some 182, (some (180, true)), [], .strOp .eql (.t 181) (.k (.string ⟨⟨[103, 114, 105, 100, 32, 52, 32, 49, 32, 49, 48, 48, 10, 45, 53, 48, 48, 32, 49, 48, 46, 46, 50, 48, 32, 45, 51, 48, 46, 46, 45, 49, 48, 32, 53, 46, 46, 52, 48, 10]⟩⟩))⟩,
oP 183 (.pick (.t 180) (.t 182) (.k (.bool false))),
oM 184 183,
oQ 185 184 true (.load (.t 15) (some 4)),
oQ 186 184 true (.load (.t 1) (some 4)),
oQ 187 184 true (.call (.k (.func (.func 301) ⟨[]⟩ ⟨[]⟩)) [.t 185, .t 186] false),
oP 188 (.pick (.t 184) (.t 187) (.k (.bool false))),
oM 0 188])
 .ret))))))))))))))))
def F110 : AFunc :=
 .fn 23 [.tmp 4, .tmp 5]
 (.seq
 (.ops [
oP 2 (.box (.t 0)),
oP 4 (.move (.k (.slice none 0 0))),
oP 5 (.move (oK 0))])
 (.seq
 (.seq
 (.ops [
oD 7 2 4,
oA 8 37 [.t 7] false,
oM 6 8])
 (.seq
 (.ops [
oM 9 6,
oC 10 .neq 9 0])
 (.cond (.t 10)
 (.seq
 (.ops [
oM 11 6,
oP 4 (.move (.k (.slice none 0 0))),
oM 5 11])
 .ret)
 .skip)))
 (.seq
 (.seq
 (.ops [
oM 12 1,
oF 13 2 3,
oL 14 13,
oP 15 (.len (.t 14)),
oC 16 .sub 15 1,
oA 17 55 [.t 12, .k (.int .i64 0), .t 16] false,
oP 18 (.not (.t 17))])
 (.cond (.t 18)
 (.seq
 (.ops [
oP 4 (.move (.k (.slice none 0 0))),
oP 5 (.move (oK 4))])
 .ret)
 .skip))
 (.seq
 (.ops [
oD 19 2 4,
oM 20 1,
oA 21 112 [.t 19, .t 20] false,
oA 22 111 [.t 21] false,
oM 4 22,
oP 5 (.move (oK 0))])
 .ret))))
def F37 : AFunc :=
 .fn 34 [.tmp 2]
 (.seq
 (.ops [
oP 1 (.box (.t 0)),
oP 2 (.move (oK 0))])
 (.seq
 (.block 0
 (.seq
 (.ops [
oF 4 1 0,
oL 5 4,
oA 6 55 [.t 5, .k (.int .i64 1), .k (.int .i64 24)] false,
oP 7 (.not (.t 6)),
oM 8 7,
oQ 9 8 false (.fieldAddr (.t 1) 1),
oQ 10 8 false (.load (.t 9) none),
oQ 11 8 false (.call (.k (.func (.func 55) ⟨[]⟩ ⟨[]⟩)) [.t 10, .k (.int .i64 1), .k (.int .i64 24)] false),
oQ 12 8 false (.not (.t 11)),
oP 13 (.pick (.t 8) (.k (.bool true)) (.t 12)),
oM 14 13,
oQ 15 14 false (.fieldAddr (.t 1) 2),
oQ 16 14 false (.load (.t 15) none),
oQ 17 14 false (.call (.k (.func (.func 55) ⟨[]⟩ ⟨[]⟩)) [.t 16, .k (.int .i64 1), .k (.int .i64 10000)] false),
oQ 18 14 false (.not (.t 17)),
oP 19 (.pick (.t 14) (.k (.bool true)) (.t 18)),
oM 3 19])
 (.cond (.t 3)
 (.seq
 (.ops [
oP 2 (.move (oK 3))])
 .ret)
 (.seq
 (.ops [
oF 21 1 3,
oL 22 21,
oP 23 (.len (.t 22)),
oF 24 1 0,
oL 25 24,
oF 26 1 1,
oL 27 26,
oB 28 .mul 25 27,
oB 29 .neq 23 28,
oM 20 29])
 (.cond (.t 20)
 (.seq
 (.ops [
oP 2 (.move (oK 11))])
 .ret)
 (.seq
 (.ops [
oF 31 1 3,
oL 32 31,
oP 33 (.call (.k (.func (.func 56) ⟨[]⟩ ⟨[]⟩)) [.t 32, .k (.func (.func 57) ⟨[]⟩ ⟨[]⟩)] false),
oM 30 33])
 (.cond (.t 30)
 (.seq
 (.ops [
oP 2 (.move (oK 3))])
 .ret)
 .skip)))))))
 (.seq
 (.ops [
oP 2 (.move (oK 0))])
 .ret)))
def body40 : ACode := (.seq
 (.seq
 (.ops [
oM 30 3,
oF 31 1 3,
oL 32 31,
oP 33 (.len (.t 32)),
oB 34 .lss 30 33])
 (.cond (.t 34)
 .skip
 (.exit 0)))
 (.seq
 (.block 1
 (.seq
 (.ops [
oF 37 1 3,
oL 38 37,
oM 39 3,
oI 40 38 39 2,
oD 41 40 2,
oP 4 (.alloc [.int .i64 0, .int .i64 0]),
oT 4 41 2])
 (.seq
 (.ops [
oF 42 4 0,
oL 43 42,
oF 44 4 1,
oL 45 44,
oB 46 .gtr 43 45,
oM 47 46,
oQ 48 47 false (.fieldAddr (.t 4) 0),
oQ 49 47 false (.load (.t 48) none),
oQ 50 47 false (.bin .lss (.t 49) (oK (-1200000))),
oP 51 (.pick (.t 47) (.k (.bool true)) (.t 50)),
oM 52 51,
oQ 53 52 false (.fieldAddr (.t 4) 1),
oQ 54 52 false (.load (.t 53) none),
oQ 55 52 false (.bin .gtr (.t 54) (oK 1200000)),
oP 56 (.pick (.t 52) (.k (.bool true)) (.t 55))])
 (.cond (.t 56)
 (.seq
 (.ops [
oP 2 (.move (oK 3))])
 .ret)
 .skip))))
 (.ops [
oM 35 3,
oC 36 .add 35 1,
oM 3 36])))
def F40 : AFunc :=
 .fn 57 [.tmp 2]
 (.seq
 (.ops [
oP 1 (.box (.t 0)),
oP 2 (.move (oK 0))])
 (.seq
 (.seq
 (.ops [
oF 5 1 0,
oL 6 5,
oA 7 59 [.t 6, .k (.int .i64 1), .k (.int .i64 24)] false,
oP 8 (.not (.t 7)),
oM 9 8,
oQ 10 9 false (.fieldAddr (.t 1) 1),
oQ 11 9 false (.load (.t 10) none),
oQ 12 9 false (.call (.k (.func (.func 59) ⟨[]⟩ ⟨[]⟩)) [.t 11, .k (.int .i64 1), .k (.int .i64 24)] false),
oQ 13 9 false (.not (.t 12)),
oP 14 (.pick (.t 9) (.k (.bool true)) (.t 13)),
oM 15 14,
oQ 16 15 false (.fieldAddr (.t 1) 2),
oQ 17 15 false (.load (.t 16) none),
oQ 18 15 false (.call (.k (.func (.func 59) ⟨[]⟩ ⟨[]⟩)) [.t 17, .k (.int .i64 1), .k (.int .i64 10000)] false),
oQ 19 15 false (.not (.t 18)),
oP 20 (.pick (.t 15) (.k (.bool true)) (.t 19))])
 (.cond (.t 20)
 (.seq
 (.ops [
oP 2 (.move (oK 3))])
 .ret)
 .skip))
 (.seq
 (.seq
 (.ops [
oF 21 1 3,
oL 22 21,
oP 23 (.len (.t 22)),
oF 24 1 0,
oL 25 24,
oF 26 1 1,
oL 27 26,
oB 28 .mul 25 27,
oB 29 .neq 23 28])
 (.cond (.t 29)
 (.seq
 (.ops [
oP 2 (.move (oK 11))])
 .ret)
 .skip))
 (.seq
 (.seq
 (.ops [
oP 3 (.move (oK 0))])
 (.block 0
 (.loop body40)))
 (.seq
 (.ops [
oP 2 (.move (oK 0))])
 .ret)))))
def body291 : ACode := (.seq
 (.seq
 (.ops [
oM 11 5,
oM 12 0,
oP 13 (.len (.t 12)),
oB 14 .lss 11 13])
 (.cond (.t 14)
 .skip
 (.exit 0)))
 (.seq
 (.block 1
 (.seq
 (.ops [
oM 17 0,
oM 18 5,
oI 19 17 18 1,
oL 20 19,
oM 21 1,
oM 22 5,
oI 23 21 22 1,
oL 24 23,
oB 25 .neq 20 24])
 (.cond (.t 25)
 (.seq
 (.ops [
oP 4 (.move (.k (.bool false)))])
 .ret)
 .skip)))
 (.ops [
oM 15 5,
oC 16 .add 15 1,
oM 5 16])))
def F291 : AFunc :=
 .fn 26 [.tmp 4]
 (.seq
 (.ops [
oP 4 (.move (.k (.bool false)))])
 (.seq
 (.seq
 (.ops [
oM 6 0,
oP 7 (.len (.t 6)),
oM 8 1,
oP 9 (.len (.t 8)),
oB 10 .neq 7 9])
 (.cond (.t 10)
 (.seq
 (.ops [
oP 4 (.move (.k (.bool false)))])
 .ret)
 .skip))
 (.seq
 (.seq
 (.ops [
oP 5 (.move (oK 0))])
 (.block 0
 (.loop body291)))
 (.seq
 (.ops [
oP 4 (.move (.k (.bool true)))])
 .ret))))
def F292 : AFunc :=
 .fn 7 [.tmp 2]
 (.seq
 (.ops [
oP 1 (.box (.t 0)),
oP 2 (.move (.k (.bool false)))])
 (.seq
 (.ops [
oF 3 1 3,
oL 4 3,
oP 5 (.len (.t 4)),
oC 6 .gtr 5 60,
oM 2 6])
 .ret))
def F265 : AFunc :=
 .fn 15 [.tmp 4, .tmp 5]
 (.seq
 (.ops [
oP 2 (.box (.t 0)),
oP 3 (.box (.t 1)),
oP 4 (.move (.k (.slice none 0 0))),
oP 5 (.move (oK 0))])
 (.seq
 (.seq
 (.ops [
oD 7 2 4,
oL 8 3,
oA 9 266 [.t 7, .t 8] false,
oM 6 9])
 (.seq
 (.ops [
oM 10 6,
oC 11 .neq 10 0])
 (.cond (.t 11)
 (.seq
 (.ops [
oM 12 6,
oP 4 (.move (.k (.slice none 0 0))),
oM 5 12])
 .ret)
 .skip)))
 (.seq
 (.ops [
oP 13 (.makeFunc 268 [] [.t 2, .t 3]),
oP 14 (.call (.k (.func (.func 267) ⟨[]⟩ ⟨[]⟩)) [.t 13, .k (.func (.func 271) ⟨[]⟩ ⟨[]⟩)] false),
oM 4 14,
oP 5 (.move (oK 0))])
 .ret)))
def body294 : ACode := (.seq
 (.seq
 (.ops [
oM 11 5,
oM 12 0,
oP 13 (.len (.t 12)),
oB 14 .lss 11 13])
 (.cond (.t 14)
 .skip
 (.exit 0)))
 (.seq
 (.block 1
 (.seq
 (.ops [
oM 17 0,
oM 18 5,
oI 19 17 18 2,
oD 20 19 2,
oM 21 1,
oM 22 5,
oI 23 21 22 2,
oD 24 23 2,
oP 25 (.eqv true [false, false] (.t 20) (.t 24))])
 (.cond (.t 25)
 (.seq
 (.ops [
oP 4 (.move (.k (.bool false)))])
 .ret)
 .skip)))
 (.ops [
oM 15 5,
oC 16 .add 15 1,
oM 5 16])))
def F294 : AFunc :=
 .fn 26 [.tmp 4]
 (.seq
 (.ops [
oP 4 (.move (.k (.bool false)))])
 (.seq
 (.seq
 (.ops [
oM 6 0,
oP 7 (.len (.t 6)),
oM 8 1,
oP 9 (.len (.t 8)),
oB 10 .neq 7 9])
 (.cond (.t 10)
 (.seq
 (.ops [
oP 4 (.move (.k (.bool false)))])
 .ret)
 .skip))
 (.seq
 (.seq
 (.ops [
oP 5 (.move (oK 0))])
 (.block 0
 (.loop body294)))
 (.seq
 (.ops [
oP 4 (.move (.k (.bool true)))])
 .ret))))
def body253 : ACode := (.seq
 (.ops [
oB 29 .lss 28 27])
 (.seq
 (.cond (.t 29)
 .skip
 (.exit 1))
 (.seq
 (.block 2
 (.seq
 (.ops [
oI 30 26 28 2,
oD 31 30 2,
oP 11 (.alloc [.int .i64 0, .int .i64 0]),
oT 11 31 2])
 (.ops [
oM 32 6,
oF 33 5 0,
oL 34 33,
oF 35 11 1,
oL 36 35,
oB 37 .gtr 34 36,
oP 38 (.slit 1 1 [.bool false] [(0, .t 37)]),
oP 39 (.append (.t 32) (.t 38) 1 1),
oM 40 7,
oF 41 5 1,
⟨some 42, none, [(.t 32, 0, .t 41, 1)], .load (.t 41) none⟩,
oF 43 11 0,
⟨some 44, none, [(.t 32, 0, .t 43, 1)], .load (.t 43) none⟩,
oB 45 .gtr 42 44,
oP 46 (.slit 1 1 [.bool false] [(0, .t 45)]),
oP 47 (.append (.t 40) (.t 46) 1 1),
oM 6 39,
oM 7 47])))
 (.ops [
oC 48 .add 28 1,
oM 28 48]))))
def F253 : AFunc :=
 .fn 51 [.tmp 6, .tmp 7, .tmp 8]
 (.seq
 (.ops [
oP 3 (.box (.t 0)),
oP 5 (.box (.t 2)),
oP 6 (.move (.k (.slice none 0 0))),
oP 7 (.move (.k (.slice none 0 0))),
oP 8 (.move (oK 0))])
 (.seq
 (.ops [
oD 13 3 4,
oM 14 1,
oA 15 265 [.t 13, .t 14] false,
oM 12 15,
oX 16 12 0,
oX 17 12 1,
oM 9 16,
oM 8 17])
 (.seq
 (.block 0
 (.seq
 (.ops [
oM 19 8,
oC 20 .neq 19 0,
oM 18 20])
 (.cond (.t 18)
 (.seq
 (.ops [
oM 21 8,
oP 6 (.move (.k (.slice none 0 0))),
oP 7 (.move (.k (.slice none 0 0))),
oM 8 21])
 .ret)
 (.seq
 (.ops [
oD 23 5 2,
oA 24 58 [.t 23, .k (.int .i64 20000)] false,
oP 25 (.not (.t 24)),
oM 22 25])
 (.cond (.t 22)
 (.seq
 (.ops [
oP 6 (.move (.k (.slice none 0 0))),
oP 7 (.move (.k (.slice none 0 0))),
oP 8 (.move (oK 3))])
 .ret)
 .skip)))))
 (.seq
 (.seq
 (.ops [
oM 26 9,
oP 27 (.len (.t 26)),
oP 28 (.move (oK 0))])
 (.block 1
 (.loop body253)))
 (.seq
 (.ops [
oM 49 6,
oM 50 7,
oM 6 49,
oM 7 50,
oP 8 (.move (oK 0))])
 .ret)))))
def F296 : AFunc :=
 .fn 26 [.tmp 4]
 (.seq
 (.ops [
oP 4 (.move (.k (.bool false)))])
 (.seq
 (.seq
 (.ops [
oM 6 0,
oP 7 (.len (.t 6)),
oM 8 1,
oP 9 (.len (.t 8)),
oB 10 .neq 7 9])
 (.cond (.t 10)
 (.seq
 (.ops [
oP 4 (.move (.k (.bool false)))])
 .ret)
 .skip))
 (.seq
 (.seq
 (.ops [
oP 5 (.move (oK 0))])
 (.block 0
 (.loop
 (.seq
 (.seq
 (.ops [
oM 11 5,
oM 12 0,
oP 13 (.len (.t 12)),
oB 14 .lss 11 13])
 (.cond (.t 14)
 .skip
 (.exit 0)))
 (.seq
 (.block 1
 (.seq
 (.ops [
oM 17 0,
oM 18 5,
oI 19 17 18 1,
oL 20 19,
oM 21 1,
oM 22 5,
oI 23 21 22 1,
oL 24 23,
oP 25 (.beq true (.t 20) (.t 24))])
 (.cond (.t 25)
 (.seq
 (.ops [
oP 4 (.move (.k (.bool false)))])
 .ret)
 .skip)))
 (.ops [
oM 15 5,
oC 16 .add 15 1,
oM 5 16]))))))
 (.seq
 (.ops [
oP 4 (.move (.k (.bool true)))])
 .ret))))
def body297 : ACode := (.seq
 (.ops [
oB 28 .lss 27 26])
 (.seq
 (.cond (.t 28)
 .skip
 (.exit 0))
 (.seq
 (.block 1
 (.seq
 (.ops [
oM 29 27,
oI 30 25 27 2,
oD 31 30 2,
oP 9 (.alloc [.int .i64 0, .int .i64 0]),
oM 8 29,
oT 9 31 2])
 (.seq
 (.ops [
oD 33 2 4,
oM 34 1,
oM 35 8,
oP 36 (.call (.k (.func (.func 324) ⟨[]⟩ ⟨[]⟩)) [.t 33, .t 34, .t 35, .k (.func (.func 273) ⟨[]⟩ ⟨[]⟩)] false),
oM 32 36,
oX 37 32 0,
oX 38 32 1,
oM 10 37,
oM 11 38])
 (.seq
 (.ops [
oD 40 2 4,
oM 41 1,
oM 42 8,
oP 43 (.call (.k (.func (.func 324) ⟨[]⟩ ⟨[]⟩)) [.t 40, .t 41, .t 42, .k (.func (.func 274) ⟨[]⟩ ⟨[]⟩)] false),
oM 39 43,
oX 44 39 0,
oX 45 39 1,
oM 12 44,
oM 13 45])
 (.seq
 (.ops [
oM 46 11])
 (.cond (.t 46)
 (.ops [
oM 47 7,
oM 48 8,
oM 49 10,
oF 50 9 1,
oL 51 50,
oB 52 .sub 49 51,
oP 53 (.max [.k (.int .i64 0), .t 52]),
oM 54 12,
oF 55 9 0,
oL 56 55,
oB 57 .sub 54 56,
oP 58 (.max [.k (.int .i64 0), .t 57]),
oP 59 (.build [.int .i64 0, .int .i64 0] [(0, 1, .t 53), (1, 1, .t 58)]),
oI 60 47 48 2,
oT 60 59 2])
 .skip))))))
 (.ops [
oC 61 .add 27 1,
oM 27 61]))))
def F297 : AFunc :=
 .fn 63 [.tmp 4, .tmp 5]
 (.seq
 (.ops [
oP 2 (.box (.t 0)),
oP 4 (.move (.k (.slice none 0 0))),
oP 5 (.move (oK 0))])
 (.seq
 (.seq
 (.ops [
oD 14 2 4,
oM 15 1,
oA 16 266 [.t 14, .t 15] false,
oM 6 16])
 (.seq
 (.ops [
oM 17 6,
oC 18 .neq 17 0])
 (.cond (.t 18)
 (.seq
 (.ops [
oM 19 6,
oP 4 (.move (.k (.slice none 0 0))),
oM 5 19])
 .ret)
 .skip)))
 (.seq
 (.ops [
oF 20 2 3,
oL 21 20,
oP 22 (.len (.t 21)),
oP 23 (.makeS (.t 22) (.t 22) 2 16 [.int .i64 0, .int .i64 0]),
oM 7 23])
 (.seq
 (.seq
 (.ops [
oF 24 2 3,
oL 25 24,
oP 26 (.len (.t 25)),
oP 27 (.move (oK 0))])
 (.block 0
 (.loop body297)))
 (.seq
 (.ops [
oM 62 7,
oM 4 62,
oP 5 (.move (oK 0))])
 .ret)))))
def body299a : ACode := (.seq
 (.ops [
oB 20 .lss 19 18])
 (.seq
 (.cond (.t 20)
 .skip
 (.exit 0))
 (.seq
 (.block 1
 (.seq
 (.ops [
oI 21 17 19 4,
oD 22 21 4,
oP 8 (.alloc [.int .i64 0, .int .i64 0, .int .i64 0, .slice none 0 0]),
oT 8 22 4])
 (.seq
 (.ops [
oD 23 8 4,
oA 24 37 [.t 23] false,
oM 9 24])
 (.seq
 (.ops [
oM 25 9,
oC 26 .neq 25 0])
 (.cond (.t 26)
 (.seq
 (.ops [
oP 27 (.build [.int .i64 0, .int .i64 0, .int .i64 0, .slice none 0 0] []),
oM 28 9,
oT 4 27 4,
oP 5 (.move (oK 0)),
oM 6 28])
 .ret)
 .skip)))))
 (.ops [
oC 29 .add 19 1,
oM 19 29]))))
def body299 : ACode := (.seq
 (.ops [
oB 56 .lss 55 54])
 (.seq
 (.cond (.t 56)
 .skip
 (.exit 2))
 (.seq
 (.block 3
 (.seq
 (.ops [
oM 57 55,
oI 58 53 55 2,
oD 59 58 2,
oP 12 (.alloc [.int .i64 0, .int .i64 0]),
oM 11 57,
oT 12 59 2])
 (.seq
 (.ops [
oF 61 10 3,
oL 62 61,
oM 63 11,
oI 64 62 63 2,
oD 65 64 2,
oD 66 12 2,
oA 67 327 [.t 65, .t 66] true,
oM 60 67,
oX 68 60 0,
oX 69 60 1,
oP 13 (.alloc [.int .i64 0, .int .i64 0]),
oT 13 68 2,
oM 14 69])
 (.seq
 (.seq
 (.ops [
oM 70 14,
oP 71 (.not (.t 70))])
 (.cond (.t 71)
 (.seq
 (.ops [
oP 72 (.build [.int .i64 0, .int .i64 0, .int .i64 0, .slice none 0 0] []),
oM 73 11,
oT 4 72 4,
oM 5 73,
oP 6 (.move (oK 14))])
 .ret)
 .skip))
 (.ops [
oF 74 10 3,
oL 75 74,
oM 76 11,
oD 77 13 2,
oI 78 75 76 2,
oT 78 77 2])))))
 (.ops [
oC 79 .add 55 1,
oM 55 79]))))
def F299 : AFunc :=
 .fn 81 [.cell 4 (some 4), .tmp 5, .tmp 6]
 (.seq
 (.ops [
oP 2 (.box (.t 0)),
oP 3 (.box (.t 1)),
oP 4 (.alloc [.int .i64 0, .int .i64 0, .int .i64 0, .slice none 0 0]),
oP 5 (.move (oK 0)),
oP 6 (.move (oK 0))])
 (.seq
 (.seq
 (.ops [
oD 15 2 4,
oD 16 3 4,
oP 17 (.slit 2 4 [.int .i64 0, .int .i64 0, .int .i64 0, .slice none 0 0] [(0, .t 15), (1, .t 16)]),
oP 18 (.len (.t 17)),
oP 19 (.move (oK 0))])
 (.block 0
 (.loop body299a)))
 (.seq
 (.seq
 (.ops [
oF 30 2 0,
oL 31 30,
oF 32 3 0,
oL 33 32,
oB 34 .neq 31 33,
oM 35 34,
oQ 36 35 false (.fieldAddr (.t 2) 1),
oQ 37 35 false (.load (.t 36) none),
oQ 38 35 false (.fieldAddr (.t 3) 1),
oQ 39 35 false (.load (.t 38) none),
oQ 40 35 false (.bin .neq (.t 37) (.t 39)),
oP 41 (.pick (.t 35) (.k (.bool true)) (.t 40)),
oM 42 41,
oQ 43 42 false (.fieldAddr (.t 2) 2),
oQ 44 42 false (.load (.t 43) none),
oQ 45 42 false (.fieldAddr (.t 3) 2),
oQ 46 42 false (.load (.t 45) none),
oQ 47 42 false (.bin .neq (.t 44) (.t 46)),
oP 48 (.pick (.t 42) (.k (.bool true)) (.t 47))])
 (.cond (.t 48)
 (.seq
 (.ops [
oP 49 (.build [.int .i64 0, .int .i64 0, .int .i64 0, .slice none 0 0] []),
oT 4 49 4,
oP 5 (.move (oK 0)),
oP 6 (.move (oK 11))])
 .ret)
 .skip))
 (.seq
 (.ops [
oD 50 2 4,
oA 51 326 [.t 50] false,
oP 10 (.alloc [.int .i64 0, .int .i64 0, .int .i64 0, .slice none 0 0]),
oT 10 51 4])
 (.seq
 (.seq
 (.ops [
oF 52 3 3,
oL 53 52,
oP 54 (.len (.t 53)),
oP 55 (.move (oK 0))])
 (.block 2
 (.loop body299)))
 (.seq
 (.ops [
oD 80 10 4,
oT 4 80 4,
oP 5 (.move (oK 0)),
oP 6 (.move (oK 0))])
 .ret))))))
def F301 : AFunc :=
 .fn 31 [.tmp 4]
 (.seq
 (.ops [
oP 2 (.box (.t 0)),
oP 3 (.box (.t 1)),
oP 4 (.move (.k (.bool false)))])
 (.seq
 (.ops [
oF 5 2 0,
oL 6 5,
oF 7 3 0,
oL 8 7,
oB 9 .eql 6 8,
oM 10 9,
oQ 11 10 true (.fieldAddr (.t 2) 1),
oQ 12 10 true (.load (.t 11) none),
oQ 13 10 true (.fieldAddr (.t 3) 1),
oQ 14 10 true (.load (.t 13) none),
oQ 15 10 true (.bin .eql (.t 12) (.t 14)),
oP 16 (.pick (.t 10) (.t 15) (.k (.bool false))),
oM 17 16,
oQ 18 17 true (.fieldAddr (.t 2) 2),
oQ 19 17 true (.load (.t 18) none),
oQ 20 17 true (.fieldAddr (.t 3) 2),
oQ 21 17 true (.load (.t 20) none),
oQ 22 17 true (.bin .eql (.t 19) (.t 21)),
oP 23 (.pick (.t 17) (.t 22) (.k (.bool false))),
oM 24 23,
oQ 25 24 true (.fieldAddr (.t 2) 3),
oQ 26 24 true (.load (.t 25) none),
oQ 27 24 true (.fieldAddr (.t 3) 3),
oQ 28 24 true (.load (.t 27) none),
oQ 29 24 true (.call (.k (.func (.func 294) ⟨[]⟩ ⟨[]⟩)) [.t 26, .t 28] false),
oP 30 (.pick (.t 24) (.t 29) (.k (.bool false))),
oM 4 30])
 .ret))
def body302a : ACode := (.seq
 (.ops [
oB 28 .lss 27 26])
 (.seq
 (.cond (.t 28)
 .skip
 (.exit 0))
 (.seq
 (.block 1
 (.seq
 (.ops [
oI 29 25 27 3,
oD 30 29 3,
oP 9 (.alloc [.int .i64 0, .int .i64 0, .int .i64 0]),
oT 9 30 3])
 (.block 2
 (.seq
 (.ops [
oF 32 9 0,
oL 33 32,
oF 34 2 3,
oL 35 34,
oP 36 (.len (.t 35)),
oC 37 .sub 36 1,
oA 38 55 [.t 33, .k (.int .i64 0), .t 37] false,
oP 39 (.not (.t 38)),
oM 31 39])
 (.cond (.t 31)
 (.seq
 (.ops [
oP 40 (.build [.int .i64 0, .int .i64 0, .int .i64 0, .slice none 0 0] []),
oT 4 40 4,
oP 5 (.move (oK 0)),
oP 6 (.move (oK 4))])
 .ret)
 (.seq
 (.ops [
oF 42 9 1,
oL 43 42,
oA 44 55 [.t 43, .k (.int .i64 (-1200000)), .k (.int .i64 1200000)] false,
oP 45 (.not (.t 44)),
oM 46 45,
oQ 47 46 false (.fieldAddr (.t 9) 2),
oQ 48 46 false (.load (.t 47) none),
oQ 49 46 false (.call (.k (.func (.func 55) ⟨[]⟩ ⟨[]⟩)) [.t 48, .k (.int .i64 0), .k (.int .i64 100000)] false),
oQ 50 46 false (.not (.t 49)),
oP 51 (.pick (.t 46) (.k (.bool true)) (.t 50)),
oM 41 51])
 (.cond (.t 41)
 (.seq
 (.ops [
oP 52 (.build [.int .i64 0, .int .i64 0, .int .i64 0, .slice none 0 0] []),
oT 4 52 4,
oP 5 (.move (oK 0)),
oP 6 (.move (oK 3))])
 .ret)
 .skip)))))))
 (.ops [
oC 53 .add 27 1,
oM 27 53]))))
def body302 : ACode := (.seq
 (.ops [
oB 59 .lss 58 57])
 (.seq
 (.cond (.t 59)
 .skip
 (.exit 3))
 (.seq
 (.block 4
 (.seq
 (.ops [
oM 60 58,
oI 61 56 58 3,
oD 62 61 3,
oP 12 (.alloc [.int .i64 0, .int .i64 0, .int .i64 0]),
oM 11 60,
oT 12 62 3])
 (.seq
 (.ops [
oF 64 10 3,
oL 65 64,
oF 66 12 0,
oL 67 66,
oI 68 65 67 2,
oD 69 68 2,
oF 70 12 1,
oL 71 70,
oF 72 12 2,
oL 73 72,
oB 74 .sub 71 73,
oF 75 12 1,
oL 76 75,
oF 77 12 2,
oL 78 77,
oB 79 .add 76 78,
oP 80 (.build [.int .i64 0, .int .i64 0] [(0, 1, .t 74), (1, 1, .t 79)]),
oA 81 327 [.t 69, .t 80] true,
oM 63 81,
oX 82 63 0,
oX 83 63 1,
oP 13 (.alloc [.int .i64 0, .int .i64 0]),
oT 13 82 2,
oM 14 83])
 (.seq
 (.seq
 (.ops [
oM 84 14,
oP 85 (.not (.t 84))])
 (.cond (.t 85)
 (.seq
 (.ops [
oP 86 (.build [.int .i64 0, .int .i64 0, .int .i64 0, .slice none 0 0] []),
oM 87 11,
oT 4 86 4,
oM 5 87,
oP 6 (.move (oK 14))])
 .ret)
 .skip))
 (.ops [
oF 88 10 3,
oL 89 88,
oF 90 12 0,
oL 91 90,
oD 92 13 2,
oI 93 89 91 2,
oT 93 92 2])))))
 (.ops [
oC 94 .add 58 1,
oM 58 94]))))
def F302 : AFunc :=
 .fn 96 [.cell 4 (some 4), .tmp 5, .tmp 6]
 (.seq
 (.ops [
oP 2 (.box (.t 0)),
oP 4 (.alloc [.int .i64 0, .int .i64 0, .int .i64 0, .slice none 0 0]),
oP 5 (.move (oK 0)),
oP 6 (.move (oK 0))])
 (.seq
 (.seq
 (.ops [
oD 15 2 4,
oA 16 37 [.t 15] false,
oM 7 16])
 (.seq
 (.ops [
oM 17 7,
oC 18 .neq 17 0])
 (.cond (.t 18)
 (.seq
 (.ops [
oP 19 (.build [.int .i64 0, .int .i64 0, .int .i64 0, .slice none 0 0] []),
oM 20 7,
oT 4 19 4,
oP 5 (.move (oK 0)),
oM 6 20])
 .ret)
 .skip)))
 (.seq
 (.seq
 (.ops [
oM 21 1,
oP 22 (.len (.t 21)),
oC 23 .gtr 22 4096])
 (.cond (.t 23)
 (.seq
 (.ops [
oP 24 (.build [.int .i64 0, .int .i64 0, .int .i64 0, .slice none 0 0] []),
oT 4 24 4,
oP 5 (.move (oK 0)),
oP 6 (.move (oK 9))])
 .ret)
 .skip))
 (.seq
 (.seq
 (.ops [
oM 25 1,
oP 26 (.len (.t 25)),
oP 27 (.move (oK 0))])
 (.block 0
 (.loop body302a)))
 (.seq
 (.ops [
oD 54 2 4,
oA 55 326 [.t 54] false,
oP 10 (.alloc [.int .i64 0, .int .i64 0, .int .i64 0, .slice none 0 0]),
oT 10 55 4])
 (.seq
 (.seq
 (.ops [
oM 56 1,
oP 57 (.len (.t 56)),
oP 58 (.move (oK 0))])
 (.block 3
 (.loop body302)))
 (.seq
 (.ops [
oD 95 10 4,
oT 4 95 4,
oP 5 (.move (oK 0)),
oP 6 (.move (oK 0))])
 .ret)))))))
def F304 : AFunc :=
 .fn 33 [.cell 4 (some 4), .tmp 5]
 (.seq
 (.ops [
oP 2 (.box (.t 0)),
oP 3 (.box (.t 1)),
oP 4 (.alloc [.int .i64 0, .int .i64 0, .int .i64 0, .slice none 0 0]),
oP 5 (.move (oK 0))])
 (.seq
 (.seq
 (.ops [
oD 9 2 4,
oA 10 37 [.t 9] false,
oM 6 10])
 (.seq
 (.ops [
oM 11 6,
oC 12 .neq 11 0])
 (.cond (.t 12)
 (.seq
 (.ops [
oP 13 (.build [.int .i64 0, .int .i64 0, .int .i64 0, .slice none 0 0] []),
oM 14 6,
oT 4 13 4,
oM 5 14])
 .ret)
 .skip)))
 (.seq
 (.seq
 (.ops [
oL 15 3,
oA 16 55 [.t 15, .k (.int .i64 0), .k (.int .i64 2400000)] false,
oP 17 (.not (.t 16))])
 (.cond (.t 17)
 (.seq
 (.ops [
oP 18 (.build [.int .i64 0, .int .i64 0, .int .i64 0, .slice none 0 0] []),
oT 4 18 4,
oP 5 (.move (oK 3))])
 .ret)
 .skip))
 (.seq
 (.ops [
oD 19 2 4,
oA 20 326 [.t 19] false,
oP 7 (.alloc [.int .i64 0, .int .i64 0, .int .i64 0, .slice none 0 0]),
oT 7 20 4])
 (.seq
 (.ops [
oP 21 (.makeFunc 329 [] [.t 2, .t 3]),
oM 8 21])
 (.seq
 (.ops [
oM 22 8,
oP 23 (.makeFunc 331 [] [.t 7]),
oP 24 (.call (.t 22) [.k (.func (.func 274) ⟨[]⟩ ⟨[]⟩), .t 23] false)])
 (.seq
 (.ops [
oM 25 8,
oP 26 (.makeFunc 333 [] [.t 7]),
oP 27 (.call (.t 25) [.k (.func (.func 332) ⟨[]⟩ ⟨[]⟩), .t 26] false)])
 (.seq
 (.seq
 (.ops [
oF 28 7 3,
oL 29 28,
oP 30 (.call (.k (.func (.func 56) ⟨[]⟩ ⟨[]⟩)) [.t 29, .k (.func (.func 334) ⟨[]⟩ ⟨[]⟩)] false)])
 (.cond (.t 30)
 (.seq
 (.ops [
oP 31 (.build [.int .i64 0, .int .i64 0, .int .i64 0, .slice none 0 0] []),
oT 4 31 4,
oP 5 (.move (oK 14))])
 .ret)
 .skip))
 (.seq
 (.ops [
oD 32 7 4,
oT 4 32 4,
oP 5 (.move (oK 0))])
 .ret)))))))))
def body305c : ACode := (.seq
 (.seq
 (.ops [
oM 37 11,
oM 38 10,
oP 39 (.len (.t 38)),
oB 40 .lss 37 39])
 (.cond (.t 40)
 .skip
 (.exit 4)))
 (.seq
 (.block 5
 (.seq
 (.ops [
oF 43 7 3,
oL 44 43,
oM 45 10,
oM 46 11,
oI 47 45 46 1,
oL 48 47,
oI 49 44 48 2,
oD 50 49 2,
oP 12 (.alloc [.int .i64 0, .int .i64 0]),
oT 12 50 2])
 (.seq
 (.ops [
oF 51 7 3,
oL 52 51,
oM 53 9,
oI 54 52 53 2,
oF 55 54 0,
oL 56 55,
oF 57 12 0,
oL 58 57,
oM 59 1,
oB 60 .sub 58 59,
oP 61 (.max [.t 56, .t 60]),
oF 62 7 3,
oL 63 62,
oM 64 9,
oI 65 63 64 2,
oF 66 65 1,
oL 67 66,
oF 68 12 1,
oL 69 68,
oM 70 1,
oB 71 .add 69 70,
oP 72 (.min [.t 67, .t 71]),
oP 73 (.build [.int .i64 0, .int .i64 0] [(0, 1, .t 61), (1, 1, .t 72)]),
oP 13 (.alloc [.int .i64 0, .int .i64 0]),
oT 13 73 2])
 (.seq
 (.seq
 (.ops [
oF 74 13 0,
oL 75 74,
oF 76 13 1,
oL 77 76,
oB 78 .gtr 75 77])
 (.cond (.t 78)
 (.seq
 (.ops [
oP 79 (.build [.int .i64 0, .int .i64 0, .int .i64 0, .slice none 0 0] []),
oT 4 79 4,
oP 5 (.move (oK 14))])
 .ret)
 .skip))
 (.seq
 (.ops [
oM 80 8,
oM 81 80,
oQ 82 81 false (.load (.t 13) (some 2)),
oQ 83 81 false (.fieldAddr (.t 7) 3),
oQ 84 81 false (.load (.t 83) none),
oN 85 81 false 9,
oQ 86 81 false (.idxS (.t 84) (.t 85) 2),
oQ 87 81 false (.load (.t 86) (some 2)),
oQ 88 81 false (.eqv true [false, false] (.t 82) (.t 87)),
oP 89 (.pick (.t 81) (.k (.bool true)) (.t 88)),
oM 8 89])
 (.ops [
oF 90 7 3,
oL 91 90,
oM 92 9,
oD 93 13 2,
oI 94 91 92 2,
oT 94 93 2]))))))
 (.ops [
oM 41 11,
oC 42 .add 41 1,
oM 11 42])))
def F305 : AFunc :=
 .fn 96 [.cell 4 (some 4), .tmp 5]
 (.seq
 (.ops [
oP 2 (.box (.t 0)),
oP 4 (.alloc [.int .i64 0, .int .i64 0, .int .i64 0, .slice none 0 0]),
oP 5 (.move (oK 0))])
 (.seq
 (.ops [
oD 14 2 4,
oA 15 40 [.t 14] false,
oM 6 15])
 (.seq
 (.seq
 (.ops [
oM 16 6,
oC 17 .neq 16 0])
 (.cond (.t 17)
 (.seq
 (.ops [
oP 18 (.build [.int .i64 0, .int .i64 0, .int .i64 0, .slice none 0 0] []),
oM 19 6,
oT 4 18 4,
oM 5 19])
 .ret)
 .skip))
 (.seq
 (.seq
 (.ops [
oM 20 1,
oA 21 59 [.t 20, .k (.int .i64 0), .k (.int .i64 2400000)] false,
oP 22 (.not (.t 21))])
 (.cond (.t 22)
 (.seq
 (.ops [
oP 23 (.build [.int .i64 0, .int .i64 0, .int .i64 0, .slice none 0 0] []),
oT 4 23 4,
oP 5 (.move (oK 3))])
 .ret)
 .skip))
 (.seq
 (.ops [
oD 24 2 4,
oA 25 328 [.t 24] false,
oP 7 (.alloc [.int .i64 0, .int .i64 0, .int .i64 0, .slice none 0 0]),
oT 7 25 4])
 (.seq
 (.seq
 (.ops [
oP 8 (.move (.k (.bool true)))])
 (.block 0
 (.loop
 (.seq
 (.seq
 (.ops [
oM 26 8])
 (.cond (.t 26)
 .skip
 (.exit 0)))
 (.block 1
 (.seq
 (.ops [
oP 8 (.move (.k (.bool false)))])
 (.seq
 (.ops [
oP 9 (.move (oK 0))])
 (.block 2
 (.loop
 (.seq
 (.seq
 (.ops [
oM 27 9,
oF 28 7 3,
oL 29 28,
oP 30 (.len (.t 29)),
oB 31 .lss 27 30])
 (.cond (.t 31)
 .skip
 (.exit 2)))
 (.seq
 (.block 3
 (.seq
 (.ops [
oD 34 2 4,
oM 35 9,
oA 36 73 [.t 34, .t 35] false,
oM 10 36])
 (.seq
 (.ops [
oP 11 (.move (oK 0))])
 (.block 4
 (.loop body305c)))))
 (.ops [
oM 32 9,
oC 33 .add 32 1,
oM 9 33]))))))))))))
 (.seq
 (.ops [
oD 95 7 4,
oT 4 95 4,
oP 5 (.move (oK 0))])
 .ret)))))))
def F306 : AFunc :=
 .fn 62 [.tmp 2, .tmp 3]
 (.seq
 (.ops [
oP 1 (.box (.t 0)),
⟨some 2, none, [], .move (.k (.string ⟨⟨[]⟩⟩))⟩,
oP 3 (.move (oK 0))])
 (.seq
 (.seq
 (.ops [
oD 11 1 4,
oA 12 37 [.t 11] false,
oM 4 12])
 (.seq
 (.ops [
oM 13 4,
oC 14 .neq 13 0])
 (.cond (.t 14)
 (.seq
 (.ops [
oM 15 4,
⟨some 2, none, [], .move (.k (.string ⟨⟨[]⟩⟩))⟩,
oM 3 15])
 .ret)
 .skip)))
 (.seq
 (.ops [
oP 5 (.allocB)])
 (.seq
 (.ops [
oP 16 (.makeFunc 335 [] [.t 5]),
oM 6 16])
 (.seq
 (.ops [
oM 17 6,
oF 18 1 0,
oL 19 18,
oA 20 338 [.t 19] true,
oF 21 1 1,
oL 22 21,
oA 23 338 [.t 22] true,
oF 24 1 2,
oL 25 24,
oA 26 338 [.t 25] false,
⟨some 27, none, [], .slit 4 1 [.string ⟨⟨[]⟩⟩] [(0, .k (.string ⟨⟨[103, 114, 105, 100]⟩⟩)), (1, .t 20), (2, .t 23), (3, .t 26)]⟩,
oP 28 (.call (.t 17) [.t 27] false)])
 (.seq
 (.seq
 (.ops [
oF 29 1 1,
oL 30 29,
oP 31 (.move (oK 0))])
 (.block 0
 (.loop
 (.seq
 (.ops [
oB 32 .lss 31 30])
 (.seq
 (.cond (.t 32)
 .skip
 (.exit 0))
 (.seq
 (.block 1
 (.seq
 (.ops [
oM 33 31,
oM 7 33])
 (.seq
 (.ops [
oP 8 (.move (.k (.slice none 0 0)))])
 (.seq
 (.seq
 (.ops [
oF 34 1 3,
oL 35 34,
oM 36 7,
oF 37 1 0,
oL 38 37,
oB 39 .mul 36 38,
oM 40 7,
oC 41 .add 40 1,
oF 42 1 0,
oL 43 42,
oB 44 .mul 41 43,
oP 45 (.reslice (.t 35) (some (.t 39)) (some (.t 44)) 2),
oP 46 (.len (.t 45)),
oP 47 (.move (oK 0))])
 (.block 2
 (.loop
 (.seq
 (.ops [
oB 48 .lss 47 46])
 (.seq
 (.cond (.t 48)
 .skip
 (.exit 2))
 (.seq
 (.block 3
 (.seq
 (.ops [
oI 49 45 47 2,
oD 50 49 2,
oP 10 (.alloc [.int .i64 0, .int .i64 0]),
oT 10 50 2])
 (.ops [
oM 51 8,
oD 52 10 2,
oA 53 339 [.t 52] false,
⟨some 54, none, [], .slit 1 1 [.string ⟨⟨[]⟩⟩] [(0, .t 53)]⟩,
oP 55 (.append (.t 51) (.t 54) 1 16),
oM 8 55])))
 (.ops [
oC 56 .add 47 1,
oM 47 56])))))))
 (.ops [
oM 57 6,
oM 58 8,
oP 59 (.call (.t 57) [.t 58] false)])))))
 (.ops [
oC 60 .add 31 1,
oM 31 60])))))))
 (.seq
 (.ops [
oA 61 340 [.t 5] false,
oM 2 61,
oP 3 (.move (oK 0))])
 .ret)))))))
def F308 : AFunc :=
 .fn 121 [.cell 2 (some 4), .cell 3 none]
 (.seq
 (.ops [
oP 2 (.alloc [.int .i64 0, .int .i64 0, .int .i64 0, .slice none 0 0]),
oP 3 (.alloc [.int .i64 0])])
 (.seq
 (.seq
 (.ops [
oM 18 0,
oP 19 (.lenT (.t 18)),
oC 20 .gtr 19 65536])
 (.cond (.t 20)
 (.seq
 (.ops [
oP 21 (.build [.int .i64 0, .int .i64 0, .int .i64 0, .slice none 0 0] []),
oT 2 21 4,
⟨none, none, [], .store (.t 3) (.k (.int .i64 8)) 1⟩])
 .ret)
 .skip))
 (.seq
 (.ops [
oP 4 (.alloc [.int .i64 0, .int .i64 0, .int .i64 0, .slice none 0 0])])
 (.seq
 (.ops [
oP 5 (.alloc [.bool false]),
⟨none, none, [], .store (.t 5) (.k (.bool true)) 1⟩])
 (.seq
 (.seq
 (.ops [
oM 22 0,
oA 23 342 [.t 22] false])
 (.block 0
 (.rangeF (.t 23) [24]
 (.ops [
oM 6 24])
 (.block 1
 (.seq
 (.seq
 (.ops [
oM 25 6,
oA 26 343 [.t 25] false,
oP 27 (.len (.t 26)),
oP 28 (.move (oK 0))])
 (.block 2
 (.loop
 (.seq
 (.ops [
oB 29 .lss 28 27])
 (.seq
 (.cond (.t 29)
 .skip
 (.exit 2))
 (.seq
 (.block 3
 (.seq
 (.ops [
oM 30 28,
oI 31 26 28 1,
oL 32 31,
oM 7 30,
oM 8 32])
 (.seq
 (.ops [
oM 34 8,
⟨some 35, none, [], .call (.k (.func (.func 344) ⟨[]⟩ ⟨[]⟩)) [.t 34, .k (.string ⟨⟨[46, 46]⟩⟩)] false⟩,
oM 33 35,
oX 36 33 0,
oX 37 33 1,
oX 38 33 2,
oM 9 36,
oM 10 37,
oM 11 38])
 (.seq
 (.seq
 (.ops [
oM 39 11,
oP 40 (.not (.t 39))])
 (.cond (.t 40)
 (.ops [
oM 41 9,
oM 10 41])
 .skip))
 (.seq
 (.ops [
oM 43 9,
oA 44 345 [.t 43] false,
oM 42 44,
oX 45 42 0,
oX 46 42 1,
oM 12 45,
oM 13 46])
 (.seq
 (.ops [
oM 48 10,
oA 49 345 [.t 48] false,
oM 47 49,
oX 50 47 0,
oX 51 47 1,
oM 14 50,
oM 15 51])
 (.block 4
 (.seq
 (.ops [
oL 54 5,
oM 55 54,
oN 56 55 true 7,
oQ 57 55 true (.bin .eql (.t 56) (oK 0)),
oP 58 (.pick (.t 55) (.t 57) (.k (.bool false))),
oM 59 58,
oN 60 59 true 8,
⟨some 61, (some (59, true)), [], .strOp .eql (.t 60) (.k (.string ⟨⟨[103, 114, 105, 100]⟩⟩))⟩,
oP 62 (.pick (.t 59) (.t 61) (.k (.bool false))),
oM 53 62])
 (.cond (.t 53)
 .skip
 (.seq
 (.ops [
oM 64 13,
oP 65 (.eqNil 4 true (.t 64)),
oM 66 65,
oN 67 66 false 15,
oQ 68 66 false (.eqNil 4 true (.t 67)),
oP 69 (.pick (.t 66) (.k (.bool true)) (.t 68)),
oM 63 69])
 (.cond (.t 63)
 (.seq
 (.ops [
oP 70 (.build [.int .i64 0, .int .i64 0, .int .i64 0, .slice none 0 0] []),
oT 2 70 4,
⟨none, none, [], .store (.t 3) (.k (.int .i64 7)) 1⟩])
 .ret)
 (.seq
 (.ops [
oL 72 5,
oM 73 72,
oN 74 73 true 7,
oQ 75 73 true (.bin .eql (.t 74) (oK 1)),
oP 76 (.pick (.t 73) (.t 75) (.k (.bool false))),
oM 71 76])
 (.cond (.t 71)
 (.ops [
oM 77 12,
oF 78 4 0,
oT 78 77 1])
 (.seq
 (.ops [
oL 80 5,
oM 81 80,
oN 82 81 true 7,
oQ 83 81 true (.bin .eql (.t 82) (oK 2)),
oP 84 (.pick (.t 81) (.t 83) (.k (.bool false))),
oM 79 84])
 (.cond (.t 79)
 (.ops [
oM 85 12,
oF 86 4 1,
oT 86 85 1])
 (.seq
 (.ops [
oL 88 5,
oM 89 88,
oN 90 89 true 7,
oQ 91 89 true (.bin .eql (.t 90) (oK 3)),
oP 92 (.pick (.t 89) (.t 91) (.k (.bool false))),
oM 87 92])
 (.cond (.t 87)
 (.ops [
oM 93 12,
oF 94 4 2,
oT 94 93 1])
 (.seq
 (.ops [
oL 96 5,
oP 97 (.not (.t 96)),
oM 95 97])
 (.cond (.t 95)
 (.ops [
oF 98 4 3,
oL 99 98,
oM 100 12,
oM 101 14,
oP 102 (.build [.int .i64 0, .int .i64 0] [(0, 1, .t 100), (1, 1, .t 101)]),
oP 103 (.slit 1 2 [.int .i64 0, .int .i64 0] [(0, .t 102)]),
oP 104 (.append (.t 99) (.t 103) 2 16),
oF 105 4 3,
oT 105 104 1])
 (.seq
 (.ops [
oP 52 (.build [.int .i64 0, .int .i64 0, .int .i64 0, .slice none 0 0] []),
oT 2 52 4,
⟨none, none, [], .store (.t 3) (.k (.int .i64 7)) 1⟩])
 .ret))))))))))))))))))))
 (.ops [
oC 106 .add 28 1,
oM 28 106])))))))
 (.ops [
⟨none, none, [], .store (.t 5) (.k (.bool false)) 1⟩]))))))
 (.seq
 (.seq
 (.ops [
oD 108 4 4,
oA 109 306 [.t 108] false,
oM 107 109,
oX 110 107 0,
oX 111 107 1,
oM 16 110,
oM 17 111])
 (.seq
 (.ops [
oM 112 17,
oC 113 .neq 112 0,
oM 114 113,
oN 115 114 false 16,
oN 116 114 false 0,
oQ 117 114 false (.strOp .neq (.t 115) (.t 116)),
oP 118 (.pick (.t 114) (.k (.bool true)) (.t 117))])
 (.cond (.t 118)
 (.seq
 (.ops [
oP 119 (.build [.int .i64 0, .int .i64 0, .int .i64 0, .slice none 0 0] []),
oT 2 119 4,
⟨none, none, [], .store (.t 3) (.k (.int .i64 7)) 1⟩])
 .ret)
 .skip)))
 (.seq
 (.ops [
oD 120 4 4,
oT 2 120 4,
⟨none, none, [], .store (.t 3) (.k (.int .i64 0)) 1⟩])
 .ret)))))))
def F320 : AFunc :=
 .fn 7 [.cell 0 (some 4)]
 (.seq
 (.ops [
oP 0 (.alloc [.int .i64 0, .int .i64 0, .int .i64 0, .slice none 0 0])])
 (.seq
 (.ops [
oP 1 (.build [.int .i64 0, .int .i64 0] [(0, 1, .k (.int .i64 (-500))), (1, 1, .k (.int .i64 (-500)))]),
oP 2 (.build [.int .i64 0, .int .i64 0] [(0, 1, .k (.int .i64 10)), (1, 1, .k (.int .i64 20))]),
oP 3 (.build [.int .i64 0, .int .i64 0] [(0, 1, .k (.int .i64 (-30))), (1, 1, .k (.int .i64 (-10)))]),
oP 4 (.build [.int .i64 0, .int .i64 0] [(0, 1, .k (.int .i64 5)), (1, 1, .k (.int .i64 40))]),
oP 5 (.slit 4 2 [.int .i64 0, .int .i64 0] [(0, .t 1), (1, .t 2), (2, .t 3), (3, .t 4)]),
oP 6 (.build [.int .i64 0, .int .i64 0, .int .i64 0, .slice none 0 0] [(0, 1, .k (.int .i64 4)), (1, 1, .k (.int .i64 1)), (2, 1, .k (.int .i64 100)), (3, 1, .t 5)]),
oT 0 6 4])
 .ret))
def F55 : AFunc :=
 .fn 15 [.tmp 6]
 (.seq
 (.ops [
oP 6 (.move (.k (.bool false)))])
 (.seq
 (.ops [
oM 7 0,
oM 8 1,
oB 9 .geq 7 8,
oM 10 9,
oN 11 10 true 0,
oN 12 10 true 2,
oQ 13 10 true (.bin .leq (.t 11) (.t 12)),
oP 14 (.pick (.t 10) (.t 13) (.k (.bool false))),
oM 6 14])
 .ret))
def F111 : AFunc :=
 .fn 5 [.tmp 2]
 (.seq
 (.ops [
oP 2 (.move (.k (.slice none 0 0)))])
 (.seq
 (.ops [
oM 3 0,
oA 4 113 [.k (.slice none 0 0), .t 3] false,
oM 2 4])
 .ret))
def F112 : AFunc :=
 .fn 6 [.tmp 4]
 (.seq
 (.ops [
oP 2 (.box (.t 0)),
oP 3 (.box (.t 1)),
oP 4 (.move (.k (.nilFunc)))])
 (.seq
 (.ops [
oP 5 (.makeFunc 114 [] [.t 3, .t 2]),
oM 4 5])
 .ret))
def F59 : AFunc :=
 .fn 15 [.tmp 6]
 (.seq
 (.ops [
oP 6 (.move (.k (.bool false)))])
 (.seq
 (.ops [
oM 7 0,
oM 8 1,
oB 9 .geq 7 8,
oM 10 9,
oN 11 10 true 0,
oN 12 10 true 2,
oQ 13 10 true (.bin .leq (.t 11) (.t 12)),
oP 14 (.pick (.t 10) (.t 13) (.k (.bool false))),
oM 6 14])
 .ret))
def F73 : AFunc :=
 .fn 55 [.tmp 4]
 (.seq
 (.ops [
oP 2 (.box (.t 0)),
oP 4 (.move (.k (.slice none 0 0)))])
 (.seq
 (.ops [
oP 5 (.move (.k (.slice none 0 0)))])
 (.seq
 (.ops [
oM 8 1,
oF 9 2 0,
oL 10 9,
oB 11 .rem 8 10,
oM 12 1,
oF 13 2 0,
oL 14 13,
oB 15 .quo 12 14,
oM 6 11,
oM 7 15])
 (.seq
 (.seq
 (.ops [
oM 16 6,
oC 17 .add 16 1,
oF 18 2 0,
oL 19 18,
oB 20 .lss 17 19])
 (.cond (.t 20)
 (.ops [
oM 21 5,
oM 22 1,
oC 23 .add 22 1,
oP 24 (.slit 1 1 [.int .i64 0] [(0, .t 23)]),
oP 25 (.append (.t 21) (.t 24) 1 8),
oM 5 25])
 .skip))
 (.seq
 (.seq
 (.ops [
oM 26 7,
oC 27 .add 26 1,
oF 28 2 1,
oL 29 28,
oB 30 .lss 27 29])
 (.cond (.t 30)
 (.ops [
oM 31 5,
oM 32 1,
oF 33 2 0,
oL 34 33,
oB 35 .add 32 34,
oP 36 (.slit 1 1 [.int .i64 0] [(0, .t 35)]),
oP 37 (.append (.t 31) (.t 36) 1 8),
oM 5 37])
 .skip))
 (.seq
 (.seq
 (.ops [
oM 38 6,
oC 39 .gtr 38 0])
 (.cond (.t 39)
 (.ops [
oM 40 5,
oM 41 1,
oC 42 .sub 41 1,
oP 43 (.slit 1 1 [.int .i64 0] [(0, .t 42)]),
oP 44 (.append (.t 40) (.t 43) 1 8),
oM 5 44])
 .skip))
 (.seq
 (.seq
 (.ops [
oM 45 7,
oC 46 .gtr 45 0])
 (.cond (.t 46)
 (.ops [
oM 47 5,
oM 48 1,
oF 49 2 0,
oL 50 49,
oB 51 .sub 48 50,
oP 52 (.slit 1 1 [.int .i64 0] [(0, .t 51)]),
oP 53 (.append (.t 47) (.t 52) 1 8),
oM 5 53])
 .skip))
 (.seq
 (.ops [
oM 54 5,
oM 4 54])
 .ret))))))))
def F56 : AFunc :=
 .fn 9 [.tmp 4]
 (.seq
 (.ops [
oP 4 (.move (.k (.bool false)))])
 (.seq
 (.ops [
oM 5 0,
oM 6 1,
oA 7 82 [.t 5, .t 6] false,
oC 8 .geq 7 0,
oM 4 8])
 .ret))
def F57 : AFunc :=
 .fn 6 [.tmp 2]
 (.seq
 (.ops [
oP 1 (.box (.t 0)),
oP 2 (.move (.k (.bool false)))])
 (.seq
 (.ops [
oD 3 1 2,
oA 4 58 [.t 3, .k (.int .i64 1200000)] false,
oP 5 (.not (.t 4)),
oM 2 5])
 .ret))
def F58 : AFunc :=
 .fn 23 [.tmp 4]
 (.seq
 (.ops [
oP 2 (.box (.t 0)),
oP 4 (.move (.k (.bool false)))])
 (.seq
 (.ops [
oF 5 2 0,
oL 6 5,
oF 7 2 1,
oL 8 7,
oB 9 .leq 6 8,
oM 10 9,
oQ 11 10 true (.fieldAddr (.t 2) 0),
oQ 12 10 true (.load (.t 11) none),
oN 13 10 true 1,
oQ 14 10 true (.neg (.t 13)),
oQ 15 10 true (.bin .geq (.t 12) (.t 14)),
oP 16 (.pick (.t 10) (.t 15) (.k (.bool false))),
oM 17 16,
oQ 18 17 true (.fieldAddr (.t 2) 1),
oQ 19 17 true (.load (.t 18) none),
oN 20 17 true 1,
oQ 21 17 true (.bin .leq (.t 19) (.t 20)),
oP 22 (.pick (.t 17) (.t 21) (.k (.bool false))),
oM 4 22])
 .ret))
def F266 : AFunc :=
 .fn 20 [.tmp 4]
 (.seq
 (.ops [
oP 2 (.box (.t 0)),
oP 4 (.move (oK 0))])
 (.seq
 (.ops [
oD 6 2 4,
oA 7 37 [.t 6] false,
oM 5 7])
 (.seq
 (.block 0
 (.seq
 (.ops [
oM 9 5,
oC 10 .neq 9 0,
oM 8 10])
 (.cond (.t 8)
 (.seq
 (.ops [
oM 11 5,
oM 4 11])
 .ret)
 (.seq
 (.ops [
oM 13 1,
oP 14 (.len (.t 13)),
oC 15 .eql 14 0,
oM 12 15])
 (.cond (.t 12)
 (.seq
 (.ops [
oP 4 (.move (oK 18))])
 .ret)
 (.seq
 (.ops [
oM 17 1,
oP 18 (.makeFunc 272 [] [.t 2]),
oA 19 180 [.t 17, .t 18] false,
oM 16 19])
 (.cond (.t 16)
 (.seq
 (.ops [
oP 4 (.move (oK 4))])
 .ret)
 .skip)))))))
 (.seq
 (.ops [
oP 4 (.move (oK 0))])
 .ret))))
def body267 : ACode := (.seq
 (.ops [
oB 16 .lss 15 14])
 (.seq
 (.cond (.t 16)
 .skip
 (.exit 0))
 (.seq
 (.block 1
 (.seq
 (.ops [
oM 17 15,
oM 8 17])
 (.ops [
oM 18 5,
oM 19 1,
oM 20 6,
oM 21 8,
oI 22 20 21 1,
oL 23 22,
oM 24 7,
oM 25 8,
oI 26 24 25 1,
oL 27 26,
oP 28 (.call (.t 19) [.t 23, .t 27] false),
oP 29 (.slit 1 2 [.int .i64 0, .int .i64 0] [(0, .t 28)]),
oP 30 (.append (.t 18) (.t 29) 2 16),
oM 5 30])))
 (.ops [
oC 31 .add 15 1,
oM 15 31]))))
def F267 : AFunc :=
 .fn 33 [.tmp 4]
 (.seq
 (.ops [
oP 4 (.move (.k (.slice none 0 0)))])
 (.seq
 (.ops [
oP 5 (.move (.k (.slice none 0 0)))])
 (.seq
 (.ops [
oM 9 0,
oP 10 (.call (.t 9) [.k (.func (.func 273) ⟨[]⟩ ⟨[]⟩)] false),
oM 11 0,
oP 12 (.call (.t 11) [.k (.func (.func 274) ⟨[]⟩ ⟨[]⟩)] false),
oM 6 10,
oM 7 12])
 (.seq
 (.seq
 (.ops [
oM 13 6,
oP 14 (.len (.t 13)),
oP 15 (.move (oK 0))])
 (.block 0
 (.loop body267)))
 (.seq
 (.ops [
oM 32 5,
oM 4 32])
 .ret)))))
def F268 : AFunc :=
 .fn 9 [.tmp 4]
 (.seq
 (.ops [
oP 3 (.box (.t 0)),
oP 4 (.move (.k (.slice none 0 0)))])
 (.seq
 (.ops [
oD 5 1 4,
oL 6 2,
oP 7 (.makeFunc 270 [] [.t 3, .t 1]),
oA 8 269 [.t 5, .t 6, .t 7] false,
oM 4 8])
 .ret))
def body269a : ACode := (.seq
 (.ops [
oB 24 .lss 23 22])
 (.seq
 (.cond (.t 24)
 .skip
 (.exit 0))
 (.seq
 (.block 1
 (.seq
 (.ops [
oI 25 21 23 1,
oL 26 25,
oM 11 26])
 (.ops [
oL 27 9,
oM 28 11,
oP 29 (.call (.t 27) [.t 28, .k (.int .i64 (-1073741824))] false)])))
 (.ops [
oC 30 .add 23 1,
oM 23 30]))))
def body269b : ACode := (.seq
 (.seq
 (.ops [
oF 31 8 0,
oL 32 31,
oP 33 (.len (.t 32)),
oC 34 .gtr 33 0])
 (.cond (.t 34)
 .skip
 (.exit 2)))
 (.block 3
 (.seq
 (.ops [
oA 35 278 [.t 8] false,
oP 12 (.alloc [.int .i64 0, .int .i64 0]),
oT 12 35 2])
 (.seq
 (.ops [
oD 36 3 4,
oF 37 12 0,
oL 38 37,
oA 39 112 [.t 36, .t 38] false])
 (.block 4
 (.rangeF (.t 39) [40]
 (.ops [
oM 13 40])
 (.block 5
 (.ops [
oL 41 9,
oM 42 13,
oF 43 12 1,
oL 44 43,
oP 45 (.call (.t 41) [.t 42, .t 44] false)]))))))))
def F269 : AFunc :=
 .fn 47 [.tmp 6]
 (.seq
 (.ops [
oP 3 (.box (.t 0)),
oP 5 (.box (.t 2)),
oP 6 (.move (.k (.slice none 0 0)))])
 (.seq
 (.ops [
oP 14 (.slit 1 1 [.int .i64 0] [(0, .k (.int .i64 1073741824))]),
oF 15 3 3,
oL 16 15,
oP 17 (.len (.t 16)),
oA 18 83 [.t 14, .t 17] false,
oP 7 (.alloc [.slice none 0 0]),
oT 7 18 1])
 (.seq
 (.ops [
oP 19 (.build [.slice none 0 0, .nilFunc] [(1, 1, .k (.func (.func 275) ⟨[]⟩ ⟨[]⟩))]),
oP 8 (.alloc [.slice none 0 0, .nilFunc]),
oT 8 19 2])
 (.seq
 (.ops [
oP 20 (.makeFunc 276 [] [.t 5, .t 7, .t 8]),
oP 9 (.alloc [.nilFunc]),
oT 9 20 1])
 (.seq
 (.seq
 (.ops [
oM 21 1,
oP 22 (.len (.t 21)),
oP 23 (.move (oK 0))])
 (.block 0
 (.loop body269a)))
 (.seq
 (.block 2
 (.loop body269b))
 (.seq
 (.ops [
oL 46 7,
oM 6 46])
 .ret)))))))
def F270 : AFunc :=
 .fn 13 [.tmp 4, .tmp 5]
 (.seq
 (.ops [
oP 4 (.move (oK 0)),
oP 5 (.move (.k (.bool false)))])
 (.seq
 (.ops [
oL 6 1,
oF 7 2 3,
oL 8 7,
oM 9 0,
oI 10 8 9 2,
oD 11 10 2,
oP 12 (.call (.t 6) [.t 11] false),
oM 4 12,
oP 5 (.move (.k (.bool true)))])
 .ret))
def F271 : AFunc :=
 .fn 8 [.cell 4 (some 2)]
 (.seq
 (.ops [
oP 4 (.alloc [.int .i64 0, .int .i64 0])])
 (.seq
 (.ops [
oM 5 0,
oM 6 1,
oP 7 (.build [.int .i64 0, .int .i64 0] [(0, 1, .t 5), (1, 1, .t 6)]),
oT 4 7 2])
 .ret))
def F324 : AFunc :=
 .fn 31 [.tmp 8, .tmp 9]
 (.seq
 (.ops [
oP 4 (.box (.t 0)),
oP 6 (.box (.t 2)),
oP 7 (.box (.t 3)),
oP 8 (.move (oK 0)),
oP 9 (.move (.k (.bool false)))])
 (.seq
 (.seq
 (.ops [
oM 13 1,
oL 14 6,
oA 15 169 [.t 13, .t 14] false])
 (.cond (.t 15)
 (.seq
 (.ops [
oP 8 (.move (oK 0)),
oP 9 (.move (.k (.bool false)))])
 .ret)
 .skip))
 (.seq
 (.ops [
oD 16 4 4,
oM 17 1,
oP 18 (.makeFunc 349 [] [.t 7, .t 4, .t 6]),
oA 19 269 [.t 16, .t 17, .t 18] false,
oP 10 (.alloc [.slice none 0 0]),
oT 10 19 1])
 (.seq
 (.ops [
oP 11 (.alloc [.int .i64 0]),
⟨none, none, [], .store (.t 11) (.k (.int .i64 1073741824)) 1⟩])
 (.seq
 (.seq
 (.ops [
oD 20 4 4,
oL 21 6,
oA 22 112 [.t 20, .t 21] false])
 (.block 0
 (.rangeF (.t 22) [23]
 (.ops [
oM 12 23])
 (.block 1
 (.ops [
oL 24 11,
oL 25 10,
oM 26 12,
oI 27 25 26 1,
oL 28 27,
oP 29 (.min [.t 24, .t 28]),
oT 11 29 1])))))
 (.seq
 (.ops [
oL 30 11,
oM 8 30,
oP 9 (.move (.k (.bool true)))])
 .ret))))))
def F273 : AFunc :=
 .fn 5 [.tmp 2]
 (.seq
 (.ops [
oP 1 (.box (.t 0)),
oP 2 (.move (oK 0))])
 (.seq
 (.ops [
oF 3 1 0,
oL 4 3,
oM 2 4])
 .ret))
def F274 : AFunc :=
 .fn 5 [.tmp 2]
 (.seq
 (.ops [
oP 1 (.box (.t 0)),
oP 2 (.move (oK 0))])
 (.seq
 (.ops [
oF 3 1 1,
oL 4 3,
oM 2 4])
 .ret))
end Go.Ab.Grid
set_option maxRecDepth 100000
namespace Go.Ab.Grid
open Go.Ab
def F326 : AFunc :=
 .fn 8 [.cell 2 (some 4)]
 (.seq
 (.ops [
oP 1 (.box (.t 0)),
oP 2 (.alloc [.int .i64 0, .int .i64 0, .int .i64 0, .slice none 0 0])])
 (.seq
 (.ops [
oF 3 1 3,
oL 4 3,
oA 5 161 [.t 4] false,
oF 6 1 3,
oT 6 5 1])
 (.seq
 (.ops [
oD 7 1 4,
oT 2 7 4])
 .ret)))
def F327 : AFunc :=
 .fn 24 [.cell 4 (some 2), .tmp 5]
 (.seq
 (.ops [
oP 2 (.box (.t 0)),
oP 3 (.box (.t 1)),
oP 4 (.alloc [.int .i64 0, .int .i64 0]),
oP 5 (.move (.k (.bool false)))])
 (.seq
 (.ops [
oF 7 2 0,
oL 8 7,
oF 9 3 0,
oL 10 9,
oP 11 (.max [.t 8, .t 10]),
oF 12 2 1,
oL 13 12,
oF 14 3 1,
oL 15 14,
oP 16 (.min [.t 13, .t 15]),
oP 17 (.build [.int .i64 0, .int .i64 0] [(0, 1, .t 11), (1, 1, .t 16)]),
oP 6 (.alloc [.int .i64 0, .int .i64 0]),
oT 6 17 2])
 (.seq
 (.ops [
oD 18 6 2,
oF 19 6 0,
oL 20 19,
oF 21 6 1,
oL 22 21,
oB 23 .leq 20 22,
⟨none, none, [(.t 4, 2, .t 19, 1), (.t 4, 2, .t 21, 1)], .store (.t 4) (.t 18) 2⟩,
oM 5 23])
 .ret)))
def F328 : AFunc :=
 .fn 9 [.cell 2 (some 4)]
 (.seq
 (.ops [
oP 1 (.box (.t 0)),
oP 2 (.alloc [.int .i64 0, .int .i64 0, .int .i64 0, .slice none 0 0])])
 (.seq
 (.ops [
oP 3 (.slit 0 2 [.int .i64 0, .int .i64 0] []),
oF 4 1 3,
oL 5 4,
oP 6 (.append (.t 3) (.t 5) 2 16),
oF 7 1 3,
oT 7 6 1])
 (.seq
 (.ops [
oD 8 1 4,
oT 2 8 4])
 .ret)))
def body329c : ACode := (.seq
 (.ops [
oB 83 .lss 82 81])
 (.seq
 (.cond (.t 83)
 .skip
 (.exit 6))
 (.seq
 (.block 7
 (.seq
 (.ops [
oM 84 82,
oI 85 80 82 1,
oL 86 85,
oM 13 84,
oM 14 86])
 (.ops [
oM 87 1,
oM 88 13,
oM 89 14,
oP 90 (.call (.t 87) [.t 88, .t 89] false)])))
 (.ops [
oC 91 .add 82 1,
oM 82 91]))))
def body329a : ACode := (.seq
 (.ops [
oB 24 .lss 23 22])
 (.seq
 (.cond (.t 24)
 .skip
 (.exit 0))
 (.seq
 (.block 1
 (.seq
 (.ops [
oM 25 23,
oI 26 21 23 2,
oD 27 26 2,
oP 9 (.alloc [.int .i64 0, .int .i64 0]),
oM 8 25,
oT 9 27 2])
 (.seq
 (.ops [
oL 28 7,
oM 29 8,
oM 30 0,
oD 31 9 2,
oP 32 (.call (.t 30) [.t 31] true),
oI 33 28 29 1,
oT 33 32 1])
 (.ops [
oM 34 8,
oL 35 7,
oM 36 8,
oI 37 35 36 1,
oL 38 37,
oP 39 (.build [.int .i64 0, .int .i64 0] [(0, 1, .t 34), (1, 1, .t 38)]),
oA 40 277 [.t 6, .t 39] false]))))
 (.ops [
oC 41 .add 23 1,
oM 23 41]))))
def body329b : ACode := (.seq
 (.seq
 (.ops [
oF 42 6 0,
oL 43 42,
oP 44 (.len (.t 43)),
oC 45 .gtr 44 0])
 (.cond (.t 45)
 .skip
 (.exit 2)))
 (.block 3
 (.seq
 (.ops [
oA 46 278 [.t 6] false,
oP 10 (.alloc [.int .i64 0, .int .i64 0]),
oT 10 46 2])
 (.seq
 (.ops [
oD 47 2 4,
oF 48 10 0,
oL 49 48,
oA 50 112 [.t 47, .t 49] false])
 (.block 4
 (.rangeF (.t 50) [51]
 (.ops [
oM 11 51])
 (.block 5
 (.seq
 (.ops [
oF 52 10 1,
oL 53 52,
oL 54 3,
oB 55 .add 53 54,
oM 12 55])
 (.seq
 (.ops [
oF 56 10 1,
oL 57 56,
oL 58 7,
oF 59 10 0,
oL 60 59,
oI 61 58 60 1,
oL 62 61,
oB 63 .eql 57 62,
oM 64 63,
oN 65 64 true 12,
oQ 66 64 true (.load (.t 7) none),
oN 67 64 true 11,
oQ 68 64 true (.idxS (.t 66) (.t 67) 1),
oQ 69 64 true (.load (.t 68) none),
oQ 70 64 true (.bin .lss (.t 65) (.t 69)),
oP 71 (.pick (.t 64) (.t 70) (.k (.bool false)))])
 (.cond (.t 71)
 (.seq
 (.ops [
oL 72 7,
oM 73 11,
oM 74 12,
oI 75 72 73 1,
oT 75 74 1])
 (.ops [
oM 76 11,
oM 77 12,
oP 78 (.build [.int .i64 0, .int .i64 0] [(0, 1, .t 76), (1, 1, .t 77)]),
oA 79 277 [.t 6, .t 78] false]))
 .skip))))))))))
def F329 : AFunc :=
 .fn 92 []
 (.seq
 (.ops [
oP 15 (.build [.slice none 0 0, .nilFunc] [(1, 1, .k (.func (.func 330) ⟨[]⟩ ⟨[]⟩))]),
oP 6 (.alloc [.slice none 0 0, .nilFunc]),
oT 6 15 2])
 (.seq
 (.ops [
oF 16 2 3,
oL 17 16,
oP 18 (.len (.t 17)),
oP 19 (.makeS (.t 18) (.t 18) 1 8 [.int .i64 0]),
oP 7 (.alloc [.slice none 0 0]),
oT 7 19 1])
 (.seq
 (.seq
 (.ops [
oF 20 2 3,
oL 21 20,
oP 22 (.len (.t 21)),
oP 23 (.move (oK 0))])
 (.block 0
 (.loop body329a)))
 (.seq
 (.block 2
 (.loop body329b))
 (.seq
 (.ops [
oL 80 7,
oP 81 (.len (.t 80)),
oP 82 (.move (oK 0))])
 (.block 6
 (.loop body329c)))))))
def F330 : AFunc :=
 .fn 10 [.tmp 4]
 (.seq
 (.ops [
oP 2 (.box (.t 0)),
oP 3 (.box (.t 1)),
oP 4 (.move (.k (.bool false)))])
 (.seq
 (.ops [
oF 5 2 1,
oL 6 5,
oF 7 3 1,
oL 8 7,
oB 9 .lss 6 8,
oM 4 9])
 .ret))
def body277 : ACode := (.seq
 (.seq
 (.ops [
oM 20 4,
oC 21 .gtr 20 0,
oM 22 21,
oN 23 22 true 0,
oQ 24 22 true (.nilCheck (.t 23)),
oQ 25 22 true (.fieldAddr (.t 24) 1),
oQ 26 22 true (.load (.t 25) none),
oN 27 22 true 0,
oQ 28 22 true (.nilCheck (.t 27)),
oQ 29 22 true (.fieldAddr (.t 28) 0),
oQ 30 22 true (.load (.t 29) none),
oN 31 22 true 4,
oQ 32 22 true (.idxS (.t 30) (.t 31) 2),
oQ 33 22 true (.load (.t 32) (some 2)),
oN 34 22 true 0,
oQ 35 22 true (.nilCheck (.t 34)),
oQ 36 22 true (.fieldAddr (.t 35) 0),
oQ 37 22 true (.load (.t 36) none),
oN 38 22 true 4,
oQ 39 22 true (.bin .sub (.t 38) (oK 1)),
oQ 40 22 true (.bin .quo (.t 39) (oK 2)),
oQ 41 22 true (.idxS (.t 37) (.t 40) 2),
oQ 42 22 true (.load (.t 41) (some 2)),
oQ 43 22 true (.call (.t 26) [.t 33, .t 42] false),
oP 44 (.pick (.t 22) (.t 43) (.k (.bool false)))])
 (.cond (.t 44)
 .skip
 (.exit 0)))
 (.block 1
 (.seq
 (.ops [
oM 45 0,
oP 46 (.nilCheck (.t 45)),
oF 47 46 0,
oL 48 47,
oM 49 4,
oM 50 0,
oP 51 (.nilCheck (.t 50)),
oF 52 51 0,
oL 53 52,
oM 54 4,
oC 55 .sub 54 1,
oC 56 .quo 55 2,
oM 57 0,
oP 58 (.nilCheck (.t 57)),
oF 59 58 0,
oL 60 59,
oM 61 4,
oC 62 .sub 61 1,
oC 63 .quo 62 2,
oI 64 60 63 2,
oD 65 64 2,
oM 66 0,
oP 67 (.nilCheck (.t 66)),
oF 68 67 0,
oL 69 68,
oM 70 4,
oI 71 69 70 2,
oD 72 71 2,
oI 73 48 49 2,
oT 73 65 2,
oI 74 53 56 2,
oT 74 72 2])
 (.ops [
oM 75 4,
oC 76 .sub 75 1,
oC 77 .quo 76 2,
oM 4 77]))))
def F277 : AFunc :=
 .fn 78 []
 (.seq
 (.ops [
oP 3 (.box (.t 1))])
 (.seq
 (.ops [
oM 5 0,
oP 6 (.nilCheck (.t 5)),
oF 7 6 0,
oL 8 7,
oP 9 (.len (.t 8)),
oM 4 9])
 (.seq
 (.ops [
oM 10 0,
oM 11 0,
oP 12 (.nilCheck (.t 11)),
oF 13 12 0,
oL 14 13,
oD 15 3 2,
oP 16 (.slit 1 2 [.int .i64 0, .int .i64 0] [(0, .t 15)]),
oP 17 (.append (.t 14) (.t 16) 2 16),
oP 18 (.nilCheck (.t 10)),
oF 19 18 0,
oT 19 17 1])
 (.block 0
 (.loop body277)))))
def body278c : ACode := (.seq
 (.ops [
oB 52 .lss 51 50])
 (.seq
 (.cond (.t 52)
 .skip
 (.exit 2))
 (.seq
 (.block 3
 (.seq
 (.ops [
oI 53 49 51 1,
oL 54 53,
oM 8 54])
 (.seq
 (.ops [
oM 55 8,
oM 56 4,
oB 57 .lss 55 56,
oM 58 57,
oN 59 58 true 0,
oQ 60 58 true (.nilCheck (.t 59)),
oQ 61 58 true (.fieldAddr (.t 60) 1),
oQ 62 58 true (.load (.t 61) none),
oN 63 58 true 0,
oQ 64 58 true (.nilCheck (.t 63)),
oQ 65 58 true (.fieldAddr (.t 64) 0),
oQ 66 58 true (.load (.t 65) none),
oN 67 58 true 8,
oQ 68 58 true (.idxS (.t 66) (.t 67) 2),
oQ 69 58 true (.load (.t 68) (some 2)),
oN 70 58 true 0,
oQ 71 58 true (.nilCheck (.t 70)),
oQ 72 58 true (.fieldAddr (.t 71) 0),
oQ 73 58 true (.load (.t 72) none),
oN 74 58 true 6,
oQ 75 58 true (.idxS (.t 73) (.t 74) 2),
oQ 76 58 true (.load (.t 75) (some 2)),
oQ 77 58 true (.call (.t 62) [.t 69, .t 76] false),
oP 78 (.pick (.t 58) (.t 77) (.k (.bool false)))])
 (.cond (.t 78)
 (.ops [
oM 79 8,
oM 6 79])
 .skip))))
 (.ops [
oC 80 .add 51 1,
oM 51 80]))))
def F278 : AFunc :=
 .fn 112 [.cell 2 (some 2)]
 (.seq
 (.ops [
oP 2 (.alloc [.int .i64 0, .int .i64 0])])
 (.seq
 (.ops [
oM 9 0,
oP 10 (.nilCheck (.t 9)),
oF 11 10 0,
oL 12 11,
oP 13 (.idxS (.t 12) (oK 0) 2),
oD 14 13 2,
oM 15 0,
oP 16 (.nilCheck (.t 15)),
oF 17 16 0,
oL 18 17,
oP 19 (.len (.t 18)),
oC 20 .sub 19 1,
oP 3 (.alloc [.int .i64 0, .int .i64 0]),
⟨none, none, [(.t 3, 2, .t 17, 1)], .store (.t 3) (.t 14) 2⟩,
oM 4 20])
 (.seq
 (.ops [
oM 21 0,
oP 22 (.nilCheck (.t 21)),
oF 23 22 0,
oL 24 23,
oM 25 0,
oP 26 (.nilCheck (.t 25)),
oF 27 26 0,
oL 28 27,
oM 29 4,
oI 30 28 29 2,
oD 31 30 2,
oP 32 (.idxS (.t 24) (oK 0) 2),
oT 32 31 2])
 (.seq
 (.ops [
oM 33 0,
oM 34 0,
oP 35 (.nilCheck (.t 34)),
oF 36 35 0,
oL 37 36,
oM 38 4,
oP 39 (.reslice (.t 37) none (some (.t 38)) 2),
oP 40 (.nilCheck (.t 33)),
oF 41 40 0,
oT 41 39 1])
 (.seq
 (.ops [
oP 5 (.move (oK 0))])
 (.block 0
 (.loop
 (.block 1
 (.seq
 (.ops [
oM 42 5,
oM 6 42])
 (.seq
 (.seq
 (.ops [
oM 43 5,
oP 44 (.bin .mul (oK 2) (.t 43)),
oC 45 .add 44 1,
oM 46 5,
oP 47 (.bin .mul (oK 2) (.t 46)),
oC 48 .add 47 2,
oP 49 (.slit 2 1 [.int .i64 0] [(0, .t 45), (1, .t 48)]),
oP 50 (.len (.t 49)),
oP 51 (.move (oK 0))])
 (.block 2
 (.loop body278c)))
 (.seq
 (.seq
 (.ops [
oM 81 6,
oM 82 5,
oB 83 .eql 81 82])
 (.cond (.t 83)
 (.seq
 (.ops [
oD 84 3 2,
oT 2 84 2])
 .ret)
 .skip))
 (.seq
 (.ops [
oM 85 0,
oP 86 (.nilCheck (.t 85)),
oF 87 86 0,
oL 88 87,
oM 89 5,
oM 90 0,
oP 91 (.nilCheck (.t 90)),
oF 92 91 0,
oL 93 92,
oM 94 6,
oM 95 0,
oP 96 (.nilCheck (.t 95)),
oF 97 96 0,
oL 98 97,
oM 99 6,
oI 100 98 99 2,
oD 101 100 2,
oM 102 0,
oP 103 (.nilCheck (.t 102)),
oF 104 103 0,
oL 105 104,
oM 106 5,
oI 107 105 106 2,
oD 108 107 2,
oI 109 88 89 2,
oT 109 101 2,
oI 110 93 94 2,
oT 110 108 2])
 (.ops [
oM 111 6,
oM 5 111])))))))))))))
def F331 : AFunc :=
 .fn 11 []
 (.ops [
oF 5 2 3,
oL 6 5,
oM 7 0,
oM 8 1,
oI 9 6 7 2,
oF 10 9 1,
oT 10 8 1])
def F332 : AFunc :=
 .fn 6 [.tmp 2]
 (.seq
 (.ops [
oP 1 (.box (.t 0)),
oP 2 (.move (oK 0))])
 (.seq
 (.ops [
oF 3 1 0,
oL 4 3,
oP 5 (.neg (.t 4)),
oM 2 5])
 .ret))
def F333 : AFunc :=
 .fn 12 []
 (.ops [
oF 5 2 3,
oL 6 5,
oM 7 0,
oM 8 1,
oP 9 (.neg (.t 8)),
oI 10 6 7 2,
oF 11 10 0,
oT 11 9 1])
def F334 : AFunc :=
 .fn 8 [.tmp 2]
 (.seq
 (.ops [
oP 1 (.box (.t 0)),
oP 2 (.move (.k (.bool false)))])
 (.seq
 (.ops [
oF 3 1 0,
oL 4 3,
oF 5 1 1,
oL 6 5,
oB 7 .gtr 4 6,
oM 2 7])
 .ret))
def F335 : AFunc :=
 .fn 7 []
 (.ops [
oM 3 0,
⟨some 4, none, [], .call (.k (.func (.func 337) ⟨[]⟩ ⟨[]⟩)) [.t 3, .k (.string ⟨⟨[32]⟩⟩)] false⟩,
⟨some 5, none, [], .strOp .add (.t 4) (.k (.string ⟨⟨[10]⟩⟩))⟩,
oA 6 336 [.t 1, .t 5] false])
def F336 : AFunc :=
 .fn 19 [.tmp 4, .tmp 5]
 (.seq
 (.ops [
oP 4 (.move (oK 0)),
oP 5 (.move (.k (.nilIface)))])
 (.seq
 (.ops [
oM 6 0,
oA 7 350 [.t 6] false])
 (.seq
 (.ops [
oM 8 0,
oM 9 0,
oP 10 (.nilCheck (.t 9)),
oF 11 10 1,
oL 12 11,
oM 13 1,
oP 14 (.appendT (.t 12) (.t 13)),
oP 15 (.nilCheck (.t 8)),
oF 16 15 1,
oT 16 14 1])
 (.seq
 (.ops [
oM 17 1,
oP 18 (.lenT (.t 17)),
oM 4 18,
oP 5 (.move (.k (.nilIface)))])
 .ret))))
def F337 : AFunc :=
 .fn 75 [.tmp 4]
 (.seq
 (.ops [
⟨some 4, none, [], .move (.k (.string ⟨⟨[]⟩⟩))⟩])
 (.seq
 (.seq
 (.ops [
oM 11 0,
oP 12 (.len (.t 11))])
 (.block 0
 (.seq
 (.ops [
oC 14 .eql 12 0,
oM 13 14])
 (.cond (.t 13)
 (.seq
 (.ops [
⟨some 4, none, [], .move (.k (.string ⟨⟨[]⟩⟩))⟩])
 .ret)
 (.seq
 (.ops [
oC 16 .eql 12 1,
oM 15 16])
 (.cond (.t 15)
 (.seq
 (.ops [
oM 17 0,
oP 18 (.idxS (.t 17) (oK 0) 1),
oL 19 18,
oM 4 19])
 .ret)
 .skip))))))
 (.seq
 (.ops [
oP 5 (.move (oK 0))])
 (.seq
 (.seq
 (.ops [
oM 20 1,
oP 21 (.lenT (.t 20)),
oC 22 .gtr 21 0])
 (.cond (.t 22)
 (.seq
 (.seq
 (.ops [
oM 23 1,
oP 24 (.lenT (.t 23)),
oM 25 0,
oP 26 (.len (.t 25)),
oC 27 .sub 26 1,
oP 28 (.bin .quo (oK 9223372036854775807) (.t 27)),
oB 29 .geq 24 28])
 (.cond (.t 29)
 (.ops [
oP 30 (.fail),
⟨none, none, [], .fail⟩])
 .skip))
 (.ops [
oM 31 5,
oM 32 1,
oP 33 (.lenT (.t 32)),
oM 34 0,
oP 35 (.len (.t 34)),
oC 36 .sub 35 1,
oB 37 .mul 33 36,
oB 38 .add 31 37,
oM 5 38]))
 .skip))
 (.seq
 (.seq
 (.ops [
oM 39 0,
oP 40 (.len (.t 39)),
oP 41 (.move (oK 0))])
 (.block 1
 (.loop
 (.seq
 (.ops [
oB 42 .lss 41 40])
 (.seq
 (.cond (.t 42)
 .skip
 (.exit 1))
 (.seq
 (.block 2
 (.seq
 (.ops [
oI 43 39 41 1,
oL 44 43,
oM 7 44])
 (.seq
 (.seq
 (.ops [
oM 45 7,
oP 46 (.lenT (.t 45)),
oM 47 5,
oP 48 (.bin .sub (oK 9223372036854775807) (.t 47)),
oB 49 .gtr 46 48])
 (.cond (.t 49)
 (.ops [
oP 50 (.fail),
⟨none, none, [], .fail⟩])
 .skip))
 (.ops [
oM 51 5,
oM 52 7,
oP 53 (.lenT (.t 52)),
oB 54 .add 51 53,
oM 5 54]))))
 (.ops [
oC 55 .add 41 1,
oM 41 55])))))))
 (.seq
 (.ops [
oP 8 (.allocB)])
 (.seq
 (.ops [
oM 56 5,
oA 57 351 [.t 8, .t 56] false])
 (.seq
 (.ops [
oM 58 0,
oP 59 (.idxS (.t 58) (oK 0) 1),
oL 60 59,
oA 61 336 [.t 8, .t 60] false])
 (.seq
 (.seq
 (.ops [
oM 62 0,
oP 63 (.reslice (.t 62) (some (oK 1)) none 1),
oP 64 (.len (.t 63)),
oP 65 (.move (oK 0))])
 (.block 3
 (.loop
 (.seq
 (.ops [
oB 66 .lss 65 64])
 (.seq
 (.cond (.t 66)
 .skip
 (.exit 3))
 (.seq
 (.block 4
 (.seq
 (.ops [
oI 67 63 65 1,
oL 68 67,
oM 10 68])
 (.seq
 (.ops [
oM 69 1,
oA 70 336 [.t 8, .t 69] false])
 (.ops [
oM 71 10,
oA 72 336 [.t 8, .t 71] false]))))
 (.ops [
oC 73 .add 65 1,
oM 65 73])))))))
 (.seq
 (.ops [
oA 74 340 [.t 8] false,
oM 4 74])
 .ret))))))))))
def F338 : AFunc :=
 .fn 5 [.tmp 2]
 (.seq
 (.ops [
⟨some 2, none, [], .move (.k (.string ⟨⟨[]⟩⟩))⟩])
 (.seq
 (.ops [
oM 3 0,
oA 4 352 [.t 3] false,
oM 2 4])
 .ret))
def F339 : AFunc :=
 .fn 19 [.tmp 2]
 (.seq
 (.ops [
oP 1 (.box (.t 0)),
⟨some 2, none, [], .move (.k (.string ⟨⟨[]⟩⟩))⟩])
 (.seq
 (.seq
 (.ops [
oF 3 1 0,
oL 4 3,
oF 5 1 1,
oL 6 5,
oB 7 .eql 4 6])
 (.cond (.t 7)
 (.seq
 (.ops [
oF 8 1 0,
oL 9 8,
oA 10 338 [.t 9] false,
oM 2 10])
 .ret)
 .skip))
 (.seq
 (.ops [
oF 11 1 0,
oL 12 11,
oA 13 338 [.t 12] true,
⟨some 14, none, [], .strOp .add (.t 13) (.k (.string ⟨⟨[46, 46]⟩⟩))⟩,
oF 15 1 1,
oL 16 15,
oA 17 338 [.t 16] false,
oP 18 (.strOp .add (.t 14) (.t 17)),
oM 2 18])
 .ret)))
def F340 : AFunc :=
 .fn 14 [.tmp 2]
 (.seq
 (.ops [
⟨some 2, none, [], .move (.k (.string ⟨⟨[]⟩⟩))⟩])
 (.seq
 (.ops [
oM 3 0,
oP 4 (.nilCheck (.t 3)),
oF 5 4 1,
oL 6 5,
oP 7 (.sliceData (.t 6)),
oM 8 0,
oP 9 (.nilCheck (.t 8)),
oF 10 9 1,
oL 11 10,
oP 12 (.len (.t 11)),
oP 13 (.mkStr (.t 7) (.t 12)),
oM 2 13])
 .ret))
def F342 : AFunc :=
 .fn 4 [.tmp 2]
 (.seq
 (.ops [
oP 1 (.box (.t 0)),
oP 2 (.move (.k (.nilFunc)))])
 (.seq
 (.ops [
oP 3 (.makeFunc 353 [] [.t 1]),
oM 2 3])
 .ret))
def F343 : AFunc :=
 .lib
def F344 : AFunc :=
 .fn 13 [.tmp 4, .tmp 5, .tmp 6]
 (.seq
 (.ops [
⟨some 4, none, [], .move (.k (.string ⟨⟨[]⟩⟩))⟩,
⟨some 5, none, [], .move (.k (.string ⟨⟨[]⟩⟩))⟩,
oP 6 (.move (.k (.bool false)))])
 (.seq
 (.ops [
oM 7 0,
oM 8 1,
oA 9 357 [.t 7, .t 8] false,
oX 10 9 0,
oX 11 9 1,
oX 12 9 2,
oM 4 10,
oM 5 11,
oM 6 12])
 .ret))
def F345 : AFunc :=
 .fn 18 [.tmp 2, .tmp 3]
 (.seq
 (.ops [
oP 2 (.move (oK 0)),
oP 3 (.move (.k (.nilIface)))])
 (.seq
 (.ops [
oM 7 0,
oA 8 358 [.t 7] false,
oM 6 8,
oX 9 6 0,
oX 10 6 1,
oM 4 9,
oM 5 10])
 (.seq
 (.seq
 (.ops [
oM 11 5,
oP 12 (.eqNil 4 true (.t 11))])
 (.cond (.t 12)
 (.seq
 (.ops [
oM 13 4,
oM 14 0,
oM 15 5,
⟨some 16, none, [], .call (.k (.func (.func 359) ⟨[]⟩ ⟨[]⟩)) [.k (.string ⟨⟨[65, 116, 111, 105]⟩⟩), .t 14, .k (.int .i64 0), .k (.int .i64 0), .t 15] false⟩,
oM 2 13,
oM 3 16])
 .ret)
 .skip))
 (.seq
 (.ops [
oM 17 4,
oM 2 17,
oP 3 (.move (.k (.nilIface)))])
 .ret))))
def F113 : AFunc :=
 .fn 13 [.tmp 4]
 (.seq
 (.ops [
oP 2 (.box (.t 0)),
oP 4 (.move (.k (.slice none 0 0)))])
 (.seq
 (.seq
 (.ops [
oM 6 1])
 (.block 0
 (.rangeF (.t 6) [7]
 (.ops [
oM 5 7])
 (.block 1
 (.ops [
oL 8 2,
oM 9 5,
oP 10 (.slit 1 1 [.int .i64 0] [(0, .t 9)]),
oP 11 (.append (.t 8) (.t 10) 1 8),
oT 2 11 1])))))
 (.seq
 (.ops [
oL 12 2,
oM 4 12])
 .ret)))
def body114 : ACode := (.seq
 (.ops [
oB 25 .lss 24 23])
 (.seq
 (.cond (.t 25)
 .skip
 (.exit 0))
 (.seq
 (.block 1
 (.seq
 (.ops [
oI 26 22 24 2,
oD 27 26 2,
oP 7 (.alloc [.int .i64 0, .int .i64 0]),
oT 7 27 2])
 (.seq
 (.ops [
oM 28 4,
oP 29 (.idxA (.t 7) (oK 0) 2 1),
oL 30 29,
oB 31 .add 28 30,
oM 32 5,
oP 33 (.idxA (.t 7) (oK 1) 2 1),
oL 34 33,
oB 35 .add 32 34,
oM 8 31,
oM 9 35])
 (.seq
 (.ops [
oM 36 8,
oF 37 2 0,
oL 38 37,
oC 39 .sub 38 1,
oA 40 55 [.t 36, .k (.int .i64 0), .t 39] false,
oM 41 40,
oN 42 41 true 9,
oQ 43 41 true (.fieldAddr (.t 2) 1),
oQ 44 41 true (.load (.t 43) none),
oQ 45 41 true (.bin .sub (.t 44) (oK 1)),
oQ 46 41 true (.call (.k (.func (.func 55) ⟨[]⟩ ⟨[]⟩)) [.t 42, .k (.int .i64 0), .t 45] false),
oP 47 (.pick (.t 41) (.t 46) (.k (.bool false))),
oM 48 47,
oN 49 48 true 0,
oN 50 48 true 9,
oQ 51 48 true (.fieldAddr (.t 2) 0),
oQ 52 48 true (.load (.t 51) none),
oQ 53 48 true (.bin .mul (.t 50) (.t 52)),
oN 54 48 true 8,
oQ 55 48 true (.bin .add (.t 53) (.t 54)),
oQ 56 48 true (.call (.t 49) [.t 55] false),
oQ 57 48 true (.not (.t 56)),
oP 58 (.pick (.t 48) (.t 57) (.k (.bool false)))])
 (.cond (.t 58)
 .ret
 .skip)))))
 (.ops [
oC 59 .add 24 1,
oM 24 59]))))
def F114 : AFunc :=
 .fn 60 []
 (.seq
 (.ops [
oL 10 1,
oF 11 2 0,
oL 12 11,
oB 13 .rem 10 12,
oL 14 1,
oF 15 2 0,
oL 16 15,
oB 17 .quo 14 16,
oM 4 13,
oM 5 17])
 (.seq
 (.ops [
oP 18 (.build [.int .i64 0, .int .i64 0] [(0, 1, .k (.int .i64 1)), (1, 1, .k (.int .i64 0))]),
oP 19 (.build [.int .i64 0, .int .i64 0] [(0, 1, .k (.int .i64 0)), (1, 1, .k (.int .i64 1))]),
oP 20 (.build [.int .i64 0, .int .i64 0] [(0, 1, .k (.int .i64 (-1))), (1, 1, .k (.int .i64 0))]),
oP 21 (.build [.int .i64 0, .int .i64 0] [(0, 1, .k (.int .i64 0)), (1, 1, .k (.int .i64 (-1)))]),
oP 22 (.slit 4 2 [.int .i64 0, .int .i64 0] [(0, .t 18), (1, .t 19), (2, .t 20), (3, .t 21)]),
oP 23 (.len (.t 22)),
oP 24 (.move (oK 0))])
 (.block 0
 (.loop body114))))
def body82 : ACode := (.seq
 (.ops [
oB 9 .lss 8 7])
 (.seq
 (.cond (.t 9)
 .skip
 (.exit 0))
 (.seq
 (.block 1
 (.seq
 (.ops [
oM 10 8,
oM 5 10])
 (.seq
 (.ops [
oM 11 1,
oM 12 0,
oM 13 5,
oI 14 12 13 2,
oD 15 14 2,
oP 16 (.call (.t 11) [.t 15] false)])
 (.cond (.t 16)
 (.seq
 (.ops [
oM 17 5,
oM 4 17])
 .ret)
 .skip))))
 (.ops [
oC 18 .add 8 1,
oM 8 18]))))
def F82 : AFunc :=
 .fn 19 [.tmp 4]
 (.seq
 (.ops [
oP 4 (.move (oK 0))])
 (.seq
 (.seq
 (.ops [
oM 6 0,
oP 7 (.len (.t 6)),
oP 8 (.move (oK 0))])
 (.block 0
 (.loop body82)))
 (.seq
 (.ops [
oP 4 (.move (oK (-1)))])
 .ret)))
def F180 : AFunc :=
 .fn 9 [.tmp 4]
 (.seq
 (.ops [
oP 4 (.move (.k (.bool false)))])
 (.seq
 (.ops [
oM 5 0,
oM 6 1,
oA 7 202 [.t 5, .t 6] false,
oC 8 .geq 7 0,
oM 4 8])
 .ret))
def F272 : AFunc :=
 .fn 11 [.tmp 3]
 (.seq
 (.ops [
oP 3 (.move (.k (.bool false)))])
 (.seq
 (.ops [
oM 4 0,
oF 5 1 3,
oL 6 5,
oP 7 (.len (.t 6)),
oC 8 .sub 7 1,
oA 9 55 [.t 4, .k (.int .i64 0), .t 8] false,
oP 10 (.not (.t 9)),
oM 3 10])
 .ret))
def body83 : ACode := (.seq
 (.seq
 (.ops [
oM 34 8,
oM 35 7,
oP 36 (.len (.t 35)),
oB 37 .lss 34 36])
 (.cond (.t 37)
 .skip
 (.exit 0)))
 (.block 1
 (.ops [
oM 38 8,
oM 39 7,
oM 40 8,
oP 41 (.reslice (.t 39) (some (.t 40)) none 1),
oM 42 7,
oM 43 8,
oP 44 (.reslice (.t 42) none (some (.t 43)) 1),
oP 45 (.copy (.t 41) (.t 44) 1),
oB 46 .add 38 45,
oM 8 46])))
def F83 : AFunc :=
 .fn 48 [.tmp 4]
 (.seq
 (.ops [
oP 4 (.move (.k (.slice none 0 0)))])
 (.seq
 (.seq
 (.ops [
oM 9 1,
oC 10 .lss 9 0])
 (.cond (.t 10)
 (.ops [
oP 11 (.fail),
⟨none, none, [], .fail⟩])
 .skip))
 (.seq
 (.ops [
oM 13 0,
oP 14 (.len (.t 13)),
oP 15 (.toInt .u64 (.t 14)),
oM 16 1,
oP 17 (.toInt .u64 (.t 16)),
oA 18 93 [.t 15, .t 17] false,
oM 12 18,
oX 19 12 0,
oX 20 12 1,
oM 5 19,
oM 6 20])
 (.seq
 (.seq
 (.ops [
oM 21 5,
oP 22 (.bin .gtr (.t 21) (.k (.int .u64 0))),
oM 23 22,
oN 24 23 false 6,
oQ 25 23 false (.bin .gtr (.t 24) (.k (.int .u64 9223372036854775807))),
oP 26 (.pick (.t 23) (.k (.bool true)) (.t 25))])
 (.cond (.t 26)
 (.ops [
oP 27 (.fail),
⟨none, none, [], .fail⟩])
 .skip))
 (.seq
 (.ops [
oM 28 6,
oP 29 (.toInt .i64 (.t 28)),
oP 30 (.makeS (.t 29) (.t 29) 1 8 [.int .i64 0]),
oM 7 30])
 (.seq
 (.ops [
oM 31 7,
oM 32 0,
oP 33 (.copy (.t 31) (.t 32) 1),
oM 8 33])
 (.seq
 (.block 0
 (.loop body83))
 (.seq
 (.ops [
oM 47 7,
oM 4 47])
 .ret))))))))
def F275 : AFunc :=
 .fn 10 [.tmp 4]
 (.seq
 (.ops [
oP 2 (.box (.t 0)),
oP 3 (.box (.t 1)),
oP 4 (.move (.k (.bool false)))])
 (.seq
 (.ops [
oF 5 2 1,
oL 6 5,
oF 7 3 1,
oL 8 7,
oB 9 .lss 6 8,
oM 4 9])
 .ret))
def F276 : AFunc :=
 .fn 39 []
 (.seq
 (.ops [
oL 10 2,
oM 11 0,
oP 12 (.call (.t 10) [.t 11] false),
oM 9 12,
oX 13 9 0,
oX 14 9 1,
oM 7 13,
oM 8 14])
 (.seq
 (.ops [
oM 15 8,
oM 16 15,
oN 17 16 true 7,
oN 18 16 true 1,
oQ 19 16 true (.max [.t 17, .t 18]),
oQ 20 16 true (.load (.t 3) none),
oN 21 16 true 0,
oQ 22 16 true (.idxS (.t 20) (.t 21) 1),
oQ 23 16 true (.load (.t 22) none),
oQ 24 16 true (.bin .lss (.t 19) (.t 23)),
oP 25 (.pick (.t 16) (.t 24) (.k (.bool false)))])
 (.cond (.t 25)
 (.seq
 (.ops [
oL 26 3,
oM 27 0,
oM 28 7,
oM 29 1,
oP 30 (.max [.t 28, .t 29]),
oI 31 26 27 1,
oT 31 30 1])
 (.ops [
oM 32 0,
oL 33 3,
oM 34 0,
oI 35 33 34 1,
oL 36 35,
oP 37 (.build [.int .i64 0, .int .i64 0] [(0, 1, .t 32), (1, 1, .t 36)]),
oA 38 277 [.t 4, .t 37] false]))
 .skip)))
def F169 : AFunc :=
 .fn 9 [.tmp 4]
 (.seq
 (.ops [
oP 4 (.move (.k (.bool false)))])
 (.seq
 (.ops [
oM 5 0,
oM 6 1,
oA 7 199 [.t 5, .t 6] false,
oC 8 .geq 7 0,
oM 4 8])
 .ret))
def F349 : AFunc :=
 .fn 17 [.tmp 5, .tmp 6]
 (.seq
 (.ops [
oP 5 (.move (oK 0)),
oP 6 (.move (.k (.bool false)))])
 (.seq
 (.ops [
oL 7 1,
oF 8 2 3,
oL 9 8,
oM 10 0,
oI 11 9 10 2,
oD 12 11 2,
oP 13 (.call (.t 7) [.t 12] true),
oM 14 0,
oL 15 3,
oB 16 .neq 14 15,
oM 5 13,
oM 6 16])
 .ret))
def F161 : AFunc :=
 .fn 8 [.tmp 2]
 (.seq
 (.ops [
oP 2 (.move (.k (.slice none 0 0)))])
 (.seq
 (.seq
 (.ops [
oM 3 0,
oP 4 (.eqNil 1 false (.t 3))])
 (.cond (.t 4)
 (.seq
 (.ops [
oP 2 (.move (.k (.slice none 0 0)))])
 .ret)
 .skip))
 (.seq
 (.ops [
oP 5 (.slit 0 2 [.int .i64 0, .int .i64 0] []),
oM 6 0,
oP 7 (.append (.t 5) (.t 6) 2 16),
oM 2 7])
 .ret)))
def F350 : AFunc :=
 .lib
def F351 : AFunc :=
 .lib
def F352 : AFunc :=
 .fn 5 [.tmp 2]
 (.seq
 (.ops [
⟨some 2, none, [], .move (.k (.string ⟨⟨[]⟩⟩))⟩])
 (.seq
 (.ops [
oM 3 0,
oA 4 361 [.t 3, .k (.int .i64 10)] false,
oM 2 4])
 .ret))
def F353 : AFunc :=
 .fn 25 []
 (.block 0
 (.loop
 (.seq
 (.seq
 (.ops [
oL 5 1,
oP 6 (.lenT (.t 5)),
oC 7 .gtr 6 0])
 (.cond (.t 7)
 .skip
 (.exit 0)))
 (.block 1
 (.seq
 (.ops [
⟨some 3, none, [], .move (.k (.string ⟨⟨[]⟩⟩))⟩])
 (.seq
 (.seq
 (.ops [
oL 8 1,
oA 9 354 [.t 8, .k (.int .u8 10)] false,
oM 4 9])
 (.seq
 (.ops [
oM 10 4,
oC 11 .geq 10 0])
 (.cond (.t 11)
 (.ops [
oL 12 1,
oM 13 4,
oC 14 .add 13 1,
oP 15 (.strSl (.t 12) none (some (.t 14))),
oL 16 1,
oM 17 4,
oC 18 .add 17 1,
oP 19 (.strSl (.t 16) (some (.t 18)) none),
oM 3 15,
oT 1 19 1])
 (.ops [
oL 20 1,
oM 3 20,
⟨none, none, [], .store (.t 1) (.k (.string ⟨⟨[]⟩⟩)) 1⟩]))))
 (.seq
 (.ops [
oM 21 0,
oM 22 3,
oP 23 (.call (.t 21) [.t 22] false),
oP 24 (.not (.t 23))])
 (.cond (.t 24)
 .ret
 .skip))))))))
def F354 : AFunc :=
 .fn 8 [.tmp 4]
 (.seq
 (.ops [
oP 4 (.move (oK 0))])
 (.seq
 (.ops [
oM 5 0,
oM 6 1,
oA 7 362 [.t 5, .t 6] false,
oM 4 7])
 .ret))
def F357 : AFunc :=
 .fn 23 [.tmp 4, .tmp 5, .tmp 6]
 (.seq
 (.ops [
⟨some 4, none, [], .move (.k (.string ⟨⟨[]⟩⟩))⟩,
⟨some 5, none, [], .move (.k (.string ⟨⟨[]⟩⟩))⟩,
oP 6 (.move (.k (.bool false)))])
 (.seq
 (.seq
 (.ops [
oM 8 0,
oM 9 1,
oA 10 364 [.t 8, .t 9] false,
oM 7 10])
 (.seq
 (.ops [
oM 11 7,
oC 12 .geq 11 0])
 (.cond (.t 12)
 (.seq
 (.ops [
oM 13 0,
oM 14 7,
oP 15 (.strSl (.t 13) none (some (.t 14))),
oM 16 0,
oM 17 7,
oM 18 1,
oP 19 (.lenT (.t 18)),
oB 20 .add 17 19,
oP 21 (.strSl (.t 16) (some (.t 20)) none),
oM 4 15,
oM 5 21,
oP 6 (.move (.k (.bool true)))])
 .ret)
 .skip)))
 (.seq
 (.ops [
oM 22 0,
oM 4 22,
⟨some 5, none, [], .move (.k (.string ⟨⟨[]⟩⟩))⟩,
oP 6 (.move (.k (.bool false)))])
 .ret)))
def F358 : AFunc :=
 .fn 77 [.tmp 2, .tmp 3]
 (.seq
 (.ops [
oP 2 (.move (oK 0)),
oP 3 (.move (.k (.nilIface)))])
 (.seq
 (.ops [
oM 11 0,
oP 12 (.lenT (.t 11)),
oM 4 12])
 (.seq
 (.seq
 (.ops [
oP 13 (.move (.k (.bool false))),
oN 14 13 true 4,
oQ 15 13 true (.bin .lss (oK 0) (.t 14)),
oN 16 13 true 15,
oN 17 16 true 4,
oQ 18 16 true (.bin .lss (.t 17) (oK 10)),
oQ 19 13 true (.pick (.t 16) (.t 18) (.k (.bool false))),
oP 20 (.pick (.t 13) (.t 19) (.k (.bool false))),
oM 21 20,
oQ 22 21 false (.move (.k (.bool true))),
oN 23 22 true 4,
oQ 24 22 true (.bin .lss (oK 0) (.t 23)),
oN 25 22 true 24,
oN 26 25 true 4,
oQ 27 25 true (.bin .lss (.t 26) (oK 19)),
oQ 28 22 true (.pick (.t 25) (.t 27) (.k (.bool false))),
oQ 29 21 false (.pick (.t 22) (.t 28) (.k (.bool false))),
oP 30 (.pick (.t 21) (.k (.bool true)) (.t 29))])
 (.cond (.t 30)
 (.seq
 (.ops [
oM 31 0,
oM 5 31])
 (.seq
 (.seq
 (.ops [
oM 32 0,
oP 33 (.strIdx (.t 32) (oK 0)),
oP 34 (.bin .eql (.t 33) (.k (.int .u8 45))),
oM 35 34,
oN 36 35 false 0,
oQ 37 35 false (.strIdx (.t 36) (oK 0)),
oQ 38 35 false (.bin .eql (.t 37) (.k (.int .u8 43))),
oP 39 (.pick (.t 35) (.k (.bool true)) (.t 38))])
 (.cond (.t 39)
 (.seq
 (.ops [
oM 40 0,
oP 41 (.strSl (.t 40) (some (oK 1)) none),
oM 0 41])
 (.seq
 (.ops [
oM 42 0,
oP 43 (.lenT (.t 42)),
oC 44 .lss 43 1])
 (.cond (.t 44)
 (.seq
 (.ops [
oP 45 (.fail),
oP 2 (.move (oK 0)),
oM 3 45])
 .ret)
 .skip)))
 .skip))
 (.seq
 (.ops [
oP 6 (.move (oK 0))])
 (.seq
 (.seq
 (.ops [
oM 46 0,
oP 47 (.toBytes (.t 46)),
oP 48 (.len (.t 47)),
oP 49 (.move (oK 0))])
 (.block 0
 (.loop
 (.seq
 (.ops [
oB 50 .lss 49 48])
 (.seq
 (.cond (.t 50)
 .skip
 (.exit 0))
 (.seq
 (.block 1
 (.seq
 (.ops [
oI 51 47 49 1,
oL 52 51,
oM 8 52])
 (.seq
 (.ops [
oM 53 8,
oP 54 (.bin .sub (.t 53) (.k (.int .u8 48))),
oM 8 54])
 (.seq
 (.seq
 (.ops [
oM 55 8,
oP 56 (.bin .gtr (.t 55) (.k (.int .u8 9)))])
 (.cond (.t 56)
 (.seq
 (.ops [
oP 57 (.fail),
oP 2 (.move (oK 0)),
oM 3 57])
 .ret)
 .skip))
 (.ops [
oM 58 6,
oC 59 .mul 58 10,
oM 60 8,
oP 61 (.toInt .i64 (.t 60)),
oB 62 .add 59 61,
oM 6 62])))))
 (.ops [
oC 63 .add 49 1,
oM 49 63])))))))
 (.seq
 (.seq
 (.ops [
oM 64 5,
oP 65 (.strIdx (.t 64) (oK 0)),
oP 66 (.bin .eql (.t 65) (.k (.int .u8 45)))])
 (.cond (.t 66)
 (.ops [
oM 67 6,
oP 68 (.neg (.t 67)),
oM 6 68])
 .skip))
 (.seq
 (.ops [
oM 69 6,
oM 2 69,
oP 3 (.move (.k (.nilIface)))])
 .ret))))))
 .skip))
 (.seq
 (.ops [
oM 71 0,
oA 72 365 [.t 71, .k (.int .i64 10), .k (.int .i64 0)] false,
oM 70 72,
oX 73 70 0,
oX 74 70 1,
oM 9 73,
oM 10 74])
 (.seq
 (.ops [
oM 75 9,
oM 76 10,
oM 2 75,
oM 3 76])
 .ret)))))
def F359 : AFunc :=
 .lib
def body202 : ACode := (.seq
 (.ops [
oB 9 .lss 8 7])
 (.seq
 (.cond (.t 9)
 .skip
 (.exit 0))
 (.seq
 (.block 1
 (.seq
 (.ops [
oM 10 8,
oM 5 10])
 (.seq
 (.ops [
oM 11 1,
oM 12 0,
oM 13 5,
oI 14 12 13 1,
oL 15 14,
oP 16 (.call (.t 11) [.t 15] false)])
 (.cond (.t 16)
 (.seq
 (.ops [
oM 17 5,
oM 4 17])
 .ret)
 .skip))))
 (.ops [
oC 18 .add 8 1,
oM 8 18]))))
def F202 : AFunc :=
 .fn 19 [.tmp 4]
 (.seq
 (.ops [
oP 4 (.move (oK 0))])
 (.seq
 (.seq
 (.ops [
oM 6 0,
oP 7 (.len (.t 6)),
oP 8 (.move (oK 0))])
 (.block 0
 (.loop body202)))
 (.seq
 (.ops [
oP 4 (.move (oK (-1)))])
 .ret)))
def F93 : AFunc :=
 .fn 30 [.tmp 4, .tmp 5]
 (.seq
 (.ops [
oP 4 (.move (.k (.int .u64 0))),
oP 5 (.move (.k (.int .u64 0)))])
 (.seq
 (.cond (.k (.bool false))
 (.seq
 (.ops [
oM 11 0,
oP 12 (.toInt .u32 (.t 11)),
oM 13 1,
oP 14 (.toInt .u32 (.t 13)),
oA 15 107 [.t 12, .t 14] false,
oM 10 15,
oX 16 10 0,
oX 17 10 1,
oM 6 16,
oM 7 17])
 (.seq
 (.ops [
oM 18 6,
oP 19 (.toInt .u64 (.t 18)),
oM 20 7,
oP 21 (.toInt .u64 (.t 20)),
oM 4 19,
oM 5 21])
 .ret))
 .skip)
 (.seq
 (.ops [
oM 23 0,
oM 24 1,
oA 25 108 [.t 23, .t 24] false,
oM 22 25,
oX 26 22 0,
oX 27 22 1,
oM 8 26,
oM 9 27])
 (.seq
 (.ops [
oM 28 8,
oM 29 9,
oM 4 28,
oM 5 29])
 .ret))))
def body199 : ACode := (.seq
 (.ops [
oB 9 .lss 8 7])
 (.seq
 (.cond (.t 9)
 .skip
 (.exit 0))
 (.seq
 (.block 1
 (.seq
 (.ops [
oM 10 8,
oM 5 10])
 (.seq
 (.ops [
oM 11 1,
oM 12 0,
oM 13 5,
oI 14 12 13 1,
oL 15 14,
oB 16 .eql 11 15])
 (.cond (.t 16)
 (.seq
 (.ops [
oM 17 5,
oM 4 17])
 .ret)
 .skip))))
 (.ops [
oC 18 .add 8 1,
oM 8 18]))))
def F199 : AFunc :=
 .fn 19 [.tmp 4]
 (.seq
 (.ops [
oP 4 (.move (oK 0))])
 (.seq
 (.seq
 (.ops [
oM 6 0,
oP 7 (.len (.t 6)),
oP 8 (.move (oK 0))])
 (.block 0
 (.loop body199)))
 (.seq
 (.ops [
oP 4 (.move (oK (-1)))])
 .ret)))
def F361 : AFunc :=
 .lib
def F362 : AFunc :=
 .fn 8 [.tmp 4]
 (.seq
 (.ops [
oP 4 (.move (oK 0))])
 (.seq
 (.ops [
oM 5 0,
oM 6 1,
oA 7 0 [.t 5, .t 6] false,
oM 4 7])
 .ret))
def F364 : AFunc :=
 .lib
def F365 : AFunc :=
 .lib
def F107 : AFunc :=
 .fn 17 [.tmp 4, .tmp 5]
 (.seq
 (.ops [
oP 4 (.move (.k (.int .u32 0))),
oP 5 (.move (.k (.int .u32 0)))])
 (.seq
 (.ops [
oM 7 0,
oP 8 (.toInt .u64 (.t 7)),
oM 9 1,
oP 10 (.toInt .u64 (.t 9)),
oB 11 .mul 8 10,
oM 6 11])
 (.seq
 (.ops [
oM 12 6,
oP 13 (.bin .shr (.t 12) (.k (.int .u64 32))),
oP 14 (.toInt .u32 (.t 13)),
oM 15 6,
oP 16 (.toInt .u32 (.t 15)),
oM 4 14,
oM 5 16])
 .ret)))
def F108 : AFunc :=
 .fn 51 [.tmp 4, .tmp 5]
 (.seq
 (.ops [
oP 4 (.move (.k (.int .u64 0))),
oP 5 (.move (.k (.int .u64 0)))])
 (.seq
 (.ops [
oM 14 0,
oP 15 (.bin .and (.t 14) (.k (.int .u64 4294967295))),
oM 6 15])
 (.seq
 (.ops [
oM 16 0,
oP 17 (.bin .shr (.t 16) (.k (.int .u64 32))),
oM 7 17])
 (.seq
 (.ops [
oM 18 1,
oP 19 (.bin .and (.t 18) (.k (.int .u64 4294967295))),
oM 8 19])
 (.seq
 (.ops [
oM 20 1,
oP 21 (.bin .shr (.t 20) (.k (.int .u64 32))),
oM 9 21])
 (.seq
 (.ops [
oM 22 6,
oM 23 8,
oB 24 .mul 22 23,
oM 10 24])
 (.seq
 (.ops [
oM 25 7,
oM 26 8,
oB 27 .mul 25 26,
oM 28 10,
oP 29 (.bin .shr (.t 28) (.k (.int .u64 32))),
oB 30 .add 27 29,
oM 11 30])
 (.seq
 (.ops [
oM 31 11,
oP 32 (.bin .and (.t 31) (.k (.int .u64 4294967295))),
oM 12 32])
 (.seq
 (.ops [
oM 33 11,
oP 34 (.bin .shr (.t 33) (.k (.int .u64 32))),
oM 13 34])
 (.seq
 (.ops [
oM 35 12,
oM 36 6,
oM 37 9,
oB 38 .mul 36 37,
oB 39 .add 35 38,
oM 12 39])
 (.seq
 (.ops [
oM 40 7,
oM 41 9,
oB 42 .mul 40 41,
oM 43 13,
oB 44 .add 42 43,
oM 45 12,
oP 46 (.bin .shr (.t 45) (.k (.int .u64 32))),
oB 47 .add 44 46,
oM 4 47])
 (.seq
 (.ops [
oM 48 0,
oM 49 1,
oB 50 .mul 48 49,
oM 5 50])
 .ret))))))))))))
def labs : List Nat := [0, 0, 1, 279, 280, 281, 282, 283, 284, 285, 286, 287, 288, 289, 110, 290, 37, 40, 291, 292, 265, 293, 294, 253, 295, 296, 297, 298, 299, 300, 301, 302, 303, 304, 305, 306, 307, 308, 309, 310, 311, 312, 313, 314, 315, 316, 317, 318, 319, 320, 55, 111, 112, 59, 73, 56, 57, 58, 266, 267, 268, 269, 270, 271, 321, 322, 323, 324, 273, 274, 325, 326, 327, 328, 329, 330, 277, 278, 331, 332, 333, 334, 335, 336, 337, 338, 339, 340, 341, 342, 343, 344, 345, 346, 347, 348, 113, 114, 82, 180, 272, 83, 275, 276, 169, 349, 161, 350, 351, 352, 353, 354, 355, 356, 357, 358, 359, 202, 93, 199, 0, 360, 361, 362, 363, 364, 365, 366, 367, 368, 369, 107, 108, 0, 370, 371, 372, 373, 0, 374, 375, 0, 376, 377, 378, 379, 380, 381, 220, 382, 383, 384, 385, 386, 387, 388, 389, 0, 0, 0, 0, 0, 0, 0, 0, 0, 0, 0, 0, 0, 0, 0, 0, 0, 0, 0, 0, 0, 0, 0, 0, 0, 0, 0, 0, 0, 0, 0, 0, 390]
def lab (f : Nat) : Nat := cond (Nat.beq f 3000000) 119 (labs.getD f 0)
def AP (n : Nat) : Option AFunc :=
 (cond (Nat.blt n 196) (cond (Nat.blt n 98) (cond (Nat.blt n 49) (cond (Nat.blt n 24) (cond (Nat.blt n 12) (cond (Nat.blt n 6) (cond (Nat.blt n 3) (cond (Nat.blt n 1) none (cond (Nat.blt n 2) none none)) (cond (Nat.blt n 4) none (cond (Nat.blt n 5) none none))) (cond (Nat.blt n 9) (cond (Nat.blt n 7) none (cond (Nat.blt n 8) none none)) (cond (Nat.blt n 10) none (cond (Nat.blt n 11) none none)))) (cond (Nat.blt n 18) (cond (Nat.blt n 15) (cond (Nat.blt n 13) none (cond (Nat.blt n 14) none none)) (cond (Nat.blt n 16) none (cond (Nat.blt n 17) none none))) (cond (Nat.blt n 21) (cond (Nat.blt n 19) none (cond (Nat.blt n 20) none none)) (cond (Nat.blt n 22) none (cond (Nat.blt n 23) none none))))) (cond (Nat.blt n 36) (cond (Nat.blt n 30) (cond (Nat.blt n 27) (cond (Nat.blt n 25) none (cond (Nat.blt n 26) none none)) (cond (Nat.blt n 28) none (cond (Nat.blt n 29) none none))) (cond (Nat.blt n 33) (cond (Nat.blt n 31) none (cond (Nat.blt n 32) none none)) (cond (Nat.blt n 34) none (cond (Nat.blt n 35) none none)))) (cond (Nat.blt n 42) (cond (Nat.blt n 39) (cond (Nat.blt n 37) none (cond (Nat.blt n 38) (some F37) none)) (cond (Nat.blt n 40) none (cond (Nat.blt n 41) (some F40) none))) (cond (Nat.blt n 45) (cond (Nat.blt n 43) none (cond (Nat.blt n 44) none none)) (cond (Nat.blt n 47) (cond (Nat.blt n 46) none none) (cond (Nat.blt n 48) none none)))))) (cond (Nat.blt n 73) (cond (Nat.blt n 61) (cond (Nat.blt n 55) (cond (Nat.blt n 52) (cond (Nat.blt n 50) none (cond (Nat.blt n 51) none none)) (cond (Nat.blt n 53) none (cond (Nat.blt n 54) none none))) (cond (Nat.blt n 58) (cond (Nat.blt n 56) (some F55) (cond (Nat.blt n 57) (some F56) (some F57))) (cond (Nat.blt n 59) (some F58) (cond (Nat.blt n 60) (some F59) none)))) (cond (Nat.blt n 67) (cond (Nat.blt n 64) (cond (Nat.blt n 62) none (cond (Nat.blt n 63) none none)) (cond (Nat.blt n 65) none (cond (Nat.blt n 66) none none))) (cond (Nat.blt n 70) (cond (Nat.blt n 68) none (cond (Nat.blt n 69) none none)) (cond (Nat.blt n 71) none (cond (Nat.blt n 72) none none))))) (cond (Nat.blt n 85) (cond (Nat.blt n 79) (cond (Nat.blt n 76) (cond (Nat.blt n 74) (some F73) (cond (Nat.blt n 75) none none)) (cond (Nat.blt n 77) none (cond (Nat.blt n 78) none none))) (cond (Nat.blt n 82) (cond (Nat.blt n 80) none (cond (Nat.blt n 81) none none)) (cond (Nat.blt n 83) (some F82) (cond (Nat.blt n 84) (some F83) none)))) (cond (Nat.blt n 91) (cond (Nat.blt n 88) (cond (Nat.blt n 86) none (cond (Nat.blt n 87) none none)) (cond (Nat.blt n 89) none (cond (Nat.blt n 90) none none))) (cond (Nat.blt n 94) (cond (Nat.blt n 92) none (cond (Nat.blt n 93) none (some F93))) (cond (Nat.blt n 96) (cond (Nat.blt n 95) none none) (cond (Nat.blt n 97) none none))))))) (cond (Nat.blt n 147) (cond (Nat.blt n 122) (cond (Nat.blt n 110) (cond (Nat.blt n 104) (cond (Nat.blt n 101) (cond (Nat.blt n 99) none (cond (Nat.blt n 100) none none)) (cond (Nat.blt n 102) none (cond (Nat.blt n 103) none none))) (cond (Nat.blt n 107) (cond (Nat.blt n 105) none (cond (Nat.blt n 106) none none)) (cond (Nat.blt n 108) (some F107) (cond (Nat.blt n 109) (some F108) none)))) (cond (Nat.blt n 116) (cond (Nat.blt n 113) (cond (Nat.blt n 111) (some F110) (cond (Nat.blt n 112) (some F111) (some F112))) (cond (Nat.blt n 114) (some F113) (cond (Nat.blt n 115) (some F114) none))) (cond (Nat.blt n 119) (cond (Nat.blt n 117) none (cond (Nat.blt n 118) none none)) (cond (Nat.blt n 120) none (cond (Nat.blt n 121) none none))))) (cond (Nat.blt n 134) (cond (Nat.blt n 128) (cond (Nat.blt n 125) (cond (Nat.blt n 123) none (cond (Nat.blt n 124) none none)) (cond (Nat.blt n 126) none (cond (Nat.blt n 127) none none))) (cond (Nat.blt n 131) (cond (Nat.blt n 129) none (cond (Nat.blt n 130) none none)) (cond (Nat.blt n 132) none (cond (Nat.blt n 133) none none)))) (cond (Nat.blt n 140) (cond (Nat.blt n 137) (cond (Nat.blt n 135) none (cond (Nat.blt n 136) none none)) (cond (Nat.blt n 138) none (cond (Nat.blt n 139) none none))) (cond (Nat.blt n 143) (cond (Nat.blt n 141) none (cond (Nat.blt n 142) none none)) (cond (Nat.blt n 145) (cond (Nat.blt n 144) none none) (cond (Nat.blt n 146) none none)))))) (cond (Nat.blt n 171) (cond (Nat.blt n 159) (cond (Nat.blt n 153) (cond (Nat.blt n 150) (cond (Nat.blt n 148) none (cond (Nat.blt n 149) none none)) (cond (Nat.blt n 151) none (cond (Nat.blt n 152) none none))) (cond (Nat.blt n 156) (cond (Nat.blt n 154) none (cond (Nat.blt n 155) none none)) (cond (Nat.blt n 157) none (cond (Nat.blt n 158) none none)))) (cond (Nat.blt n 165) (cond (Nat.blt n 162) (cond (Nat.blt n 160) none (cond (Nat.blt n 161) none (some F161))) (cond (Nat.blt n 163) none (cond (Nat.blt n 164) none none))) (cond (Nat.blt n 168) (cond (Nat.blt n 166) none (cond (Nat.blt n 167) none none)) (cond (Nat.blt n 169) none (cond (Nat.blt n 170) (some F169) none))))) (cond (Nat.blt n 183) (cond (Nat.blt n 177) (cond (Nat.blt n 174) (cond (Nat.blt n 172) none (cond (Nat.blt n 173) none none)) (cond (Nat.blt n 175) none (cond (Nat.blt n 176) none none))) (cond (Nat.blt n 180) (cond (Nat.blt n 178) none (cond (Nat.blt n 179) none none)) (cond (Nat.blt n 181) (some F180) (cond (Nat.blt n 182) none none)))) (cond (Nat.blt n 189) (cond (Nat.blt n 186) (cond (Nat.blt n 184) none (cond (Nat.blt n 185) none none)) (cond (Nat.blt n 187) none (cond (Nat.blt n 188) none none))) (cond (Nat.blt n 192) (cond (Nat.blt n 190) none (cond (Nat.blt n 191) none none)) (cond (Nat.blt n 194) (cond (Nat.blt n 193) none none) (cond (Nat.blt n 195) none none)))))))) (cond (Nat.blt n 294) (cond (Nat.blt n 245) (cond (Nat.blt n 220) (cond (Nat.blt n 208) (cond (Nat.blt n 202) (cond (Nat.blt n 199) (cond (Nat.blt n 197) none (cond (Nat.blt n 198) none none)) (cond (Nat.blt n 200) (some F199) (cond (Nat.blt n 201) none none))) (cond (Nat.blt n 205) (cond (Nat.blt n 203) (some F202) (cond (Nat.blt n 204) none none)) (cond (Nat.blt n 206) none (cond (Nat.blt n 207) none none)))) (cond (Nat.blt n 214) (cond (Nat.blt n 211) (cond (Nat.blt n 209) none (cond (Nat.blt n 210) none none)) (cond (Nat.blt n 212) none (cond (Nat.blt n 213) none none))) (cond (Nat.blt n 217) (cond (Nat.blt n 215) none (cond (Nat.blt n 216) none none)) (cond (Nat.blt n 218) none (cond (Nat.blt n 219) none none))))) (cond (Nat.blt n 232) (cond (Nat.blt n 226) (cond (Nat.blt n 223) (cond (Nat.blt n 221) none (cond (Nat.blt n 222) none none)) (cond (Nat.blt n 224) none (cond (Nat.blt n 225) none none))) (cond (Nat.blt n 229) (cond (Nat.blt n 227) none (cond (Nat.blt n 228) none none)) (cond (Nat.blt n 230) none (cond (Nat.blt n 231) none none)))) (cond (Nat.blt n 238) (cond (Nat.blt n 235) (cond (Nat.blt n 233) none (cond (Nat.blt n 234) none none)) (cond (Nat.blt n 236) none (cond (Nat.blt n 237) none none))) (cond (Nat.blt n 241) (cond (Nat.blt n 239) none (cond (Nat.blt n 240) none none)) (cond (Nat.blt n 243) (cond (Nat.blt n 242) none none) (cond (Nat.blt n 244) none none)))))) (cond (Nat.blt n 269) (cond (Nat.blt n 257) (cond (Nat.blt n 251) (cond (Nat.blt n 248) (cond (Nat.blt n 246) none (cond (Nat.blt n 247) none none)) (cond (Nat.blt n 249) none (cond (Nat.blt n 250) none none))) (cond (Nat.blt n 254) (cond (Nat.blt n 252) none (cond (Nat.blt n 253) none (some F253))) (cond (Nat.blt n 255) none (cond (Nat.blt n 256) none none)))) (cond (Nat.blt n 263) (cond (Nat.blt n 260) (cond (Nat.blt n 258) none (cond (Nat.blt n 259) none none)) (cond (Nat.blt n 261) none (cond (Nat.blt n 262) none none))) (cond (Nat.blt n 266) (cond (Nat.blt n 264) none (cond (Nat.blt n 265) none (some F265))) (cond (Nat.blt n 267) (some F266) (cond (Nat.blt n 268) (some F267) (some F268)))))) (cond (Nat.blt n 281) (cond (Nat.blt n 275) (cond (Nat.blt n 272) (cond (Nat.blt n 270) (some F269) (cond (Nat.blt n 271) (some F270) (some F271))) (cond (Nat.blt n 273) (some F272) (cond (Nat.blt n 274) (some F273) (some F274)))) (cond (Nat.blt n 278) (cond (Nat.blt n 276) (some F275) (cond (Nat.blt n 277) (some F276) (some F277))) (cond (Nat.blt n 279) (some F278) (cond (Nat.blt n 280) none none)))) (cond (Nat.blt n 287) (cond (Nat.blt n 284) (cond (Nat.blt n 282) none (cond (Nat.blt n 283) (some F282) none)) (cond (Nat.blt n 285) none (cond (Nat.blt n 286) none none))) (cond (Nat.blt n 290) (cond (Nat.blt n 288) none (cond (Nat.blt n 289) none (some F289))) (cond (Nat.blt n 292) (cond (Nat.blt n 291) none (some F291)) (cond (Nat.blt n 293) (some F292) none))))))) (cond (Nat.blt n 343) (cond (Nat.blt n 318) (cond (Nat.blt n 306) (cond (Nat.blt n 300) (cond (Nat.blt n 297) (cond (Nat.blt n 295) (some F294) (cond (Nat.blt n 296) none (some F296))) (cond (Nat.blt n 298) (some F297) (cond (Nat.blt n 299) none (some F299)))) (cond (Nat.blt n 303) (cond (Nat.blt n 301) none (cond (Nat.blt n 302) (some F301) (some F302))) (cond (Nat.blt n 304) none (cond (Nat.blt n 305) (some F304) (some F305))))) (cond (Nat.blt n 312) (cond (Nat.blt n 309) (cond (Nat.blt n 307) (some F306) (cond (Nat.blt n 308) none (some F308))) (cond (Nat.blt n 310) none (cond (Nat.blt n 311) none none))) (cond (Nat.blt n 315) (cond (Nat.blt n 313) none (cond (Nat.blt n 314) none none)) (cond (Nat.blt n 316) none (cond (Nat.blt n 317) none none))))) (cond (Nat.blt n 330) (cond (Nat.blt n 324) (cond (Nat.blt n 321) (cond (Nat.blt n 319) none (cond (Nat.blt n 320) none (some F320))) (cond (Nat.blt n 322) none (cond (Nat.blt n 323) none none))) (cond (Nat.blt n 327) (cond (Nat.blt n 325) (some F324) (cond (Nat.blt n 326) none (some F326))) (cond (Nat.blt n 328) (some F327) (cond (Nat.blt n 329) (some F328) (some F329))))) (cond (Nat.blt n 336) (cond (Nat.blt n 333) (cond (Nat.blt n 331) (some F330) (cond (Nat.blt n 332) (some F331) (some F332))) (cond (Nat.blt n 334) (some F333) (cond (Nat.blt n 335) (some F334) (some F335)))) (cond (Nat.blt n 339) (cond (Nat.blt n 337) (some F336) (cond (Nat.blt n 338) (some F337) (some F338))) (cond (Nat.blt n 341) (cond (Nat.blt n 340) (some F339) (some F340)) (cond (Nat.blt n 342) none (some F342))))))) (cond (Nat.blt n 367) (cond (Nat.blt n 355) (cond (Nat.blt n 349) (cond (Nat.blt n 346) (cond (Nat.blt n 344) (some F343) (cond (Nat.blt n 345) (some F344) (some F345))) (cond (Nat.blt n 347) none (cond (Nat.blt n 348) none none))) (cond (Nat.blt n 352) (cond (Nat.blt n 350) (some F349) (cond (Nat.blt n 351) (some F350) (some F351))) (cond (Nat.blt n 353) (some F352) (cond (Nat.blt n 354) (some F353) (some F354))))) (cond (Nat.blt n 361) (cond (Nat.blt n 358) (cond (Nat.blt n 356) none (cond (Nat.blt n 357) none (some F357))) (cond (Nat.blt n 359) (some F358) (cond (Nat.blt n 360) (some F359) none))) (cond (Nat.blt n 364) (cond (Nat.blt n 362) (some F361) (cond (Nat.blt n 363) (some F362) none)) (cond (Nat.blt n 365) (some F364) (cond (Nat.blt n 366) (some F365) none))))) (cond (Nat.blt n 379) (cond (Nat.blt n 373) (cond (Nat.blt n 370) (cond (Nat.blt n 368) none (cond (Nat.blt n 369) none none)) (cond (Nat.blt n 371) none (cond (Nat.blt n 372) none none))) (cond (Nat.blt n 376) (cond (Nat.blt n 374) none (cond (Nat.blt n 375) none none)) (cond (Nat.blt n 377) none (cond (Nat.blt n 378) none none)))) (cond (Nat.blt n 385) (cond (Nat.blt n 382) (cond (Nat.blt n 380) none (cond (Nat.blt n 381) none none)) (cond (Nat.blt n 383) none (cond (Nat.blt n 384) none none))) (cond (Nat.blt n 388) (cond (Nat.blt n 386) none (cond (Nat.blt n 387) none none)) (cond (Nat.blt n 390) (cond (Nat.blt n 389) none none) (cond (Nat.blt n 391) none none)))))))))
end Go.Ab.Grid
