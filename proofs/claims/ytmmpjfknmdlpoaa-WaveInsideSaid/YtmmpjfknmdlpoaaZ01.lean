/- The program's functions in abstract form: made by a program of ours. -/
import Derived.Test.YtmmpjfknmdlpoaaZ00
set_option linter.unusedSimpArgs false
set_option linter.unusedVariables false
set_option linter.unusedSectionVars false
set_option maxRecDepth 100000
namespace Go.Ab.Wave
open Go.Ab
def body2 : ACode := (.seq
 (.seq
 (.ops [
oM 47 11,
oM 48 7,
oP 49 (.len (.t 48)),
oB 50 .lss 47 49])
 (.cond (.t 50)
 .skip
 (.exit 0)))
 (.seq
 (.block 1
 (.seq
 (.ops [
oM 53 7,
oM 54 11,
oI 55 53 54 5,
oF 56 55 0,
oL 57 56,
oM 58 9,
oM 59 11,
oI 60 58 59 5,
oF 61 60 0,
oL 62 61,
oB 63 .neq 57 62,
oM 64 63,
oN 65 64 false 7,
oN 66 64 false 11,
oQ 67 64 false (.idxS (.t 65) (.t 66) 5),
oQ 68 64 false (.fieldAddr (.t 67) 1),
oQ 69 64 false (.load (.t 68) (some 2)),
oN 70 64 false 9,
oN 71 64 false 11,
oQ 72 64 false (.idxS (.t 70) (.t 71) 5),
oQ 73 64 false (.fieldAddr (.t 72) 1),
oQ 74 64 false (.load (.t 73) (some 2)),
oQ 75 64 false (.eqv true [false, false] (.t 69) (.t 74)),
oP 76 (.pick (.t 64) (.k (.bool true)) (.t 75)),
oM 77 76,
oN 78 77 false 7,
oN 79 77 false 11,
oQ 80 77 false (.idxS (.t 78) (.t 79) 5),
oQ 81 77 false (.fieldAddr (.t 80) 3),
oQ 82 77 false (.load (.t 81) (some 2)),
oN 83 77 false 9,
oN 84 77 false 11,
oQ 85 77 false (.idxS (.t 83) (.t 84) 5),
oQ 86 77 false (.fieldAddr (.t 85) 3),
oQ 87 77 false (.load (.t 86) (some 2)),
oQ 88 77 false (.eqv true [false, false] (.t 82) (.t 87)),
oP 89 (.pick (.t 77) (.k (.bool true)) (.t 88))])
 (.cond (.t 89)
 (.seq
 (.ops [
oP 6 (.move (.k (.bool false)))])
 .ret)
 .skip)))
 (.ops [
oM 51 11,
oC 52 .add 51 1,
oM 11 52])))
def F2 : AFunc :=
 .fn 91 [.tmp 6]
 (.seq
 (.ops [
oP 3 (.box (.t 0)),
oP 4 (.box (.t 1)),
oP 5 (.box (.t 2)),
oP 6 (.move (.k (.bool false)))])
 (.seq
 (.seq
 (.ops [
oF 12 4 3,
oL 13 12,
oP 14 (.len (.t 13)),
oC 15 .gtr 14 600])
 (.cond (.t 15)
 (.seq
 (.ops [
oA 16 10 [] false,
oM 6 16])
 .ret)
 .skip))
 (.seq
 (.ops [
oD 18 4 4,
oD 19 5 5,
oA 20 11 [.t 18, .t 19] false,
oM 17 20,
oX 21 17 0,
oX 22 17 1,
oM 7 21,
oM 8 22])
 (.seq
 (.ops [
oD 24 4 4,
oD 25 5 5,
oA 26 12 [.t 24, .t 25] false,
oM 23 26,
oX 27 23 0,
oX 28 23 1,
oM 9 27,
oM 10 28])
 (.seq
 (.seq
 (.ops [
oD 29 3 6,
oA 30 14 [.t 29] true,
oA 31 13 [.t 30] true,
oD 32 3 6,
oA 33 15 [.t 32] false,
oB 34 .neq 31 33,
oM 35 34,
oN 36 35 false 7,
oQ 37 35 false (.len (.t 36)),
oN 38 35 false 9,
oQ 39 35 false (.len (.t 38)),
oQ 40 35 false (.bin .neq (.t 37) (.t 39)),
oP 41 (.pick (.t 35) (.k (.bool true)) (.t 40)),
oM 42 41,
oN 43 42 false 8,
oN 44 42 false 10,
oQ 45 42 false (.bin .neq (.t 43) (.t 44)),
oP 46 (.pick (.t 42) (.k (.bool true)) (.t 45))])
 (.cond (.t 46)
 (.seq
 (.ops [
oP 6 (.move (.k (.bool false)))])
 .ret)
 .skip))
 (.seq
 (.seq
 (.ops [
oP 11 (.move (oK 0))])
 (.block 0
 (.loop body2)))
 (.seq
 (.ops [
oA 90 10 [] false,
oM 6 90])
 .ret)))))))
def body4 : ACode := (.seq
 (.seq
 (.ops [
oM 23 8,
oM 24 2,
oP 25 (.len (.t 24)),
oB 26 .lss 23 25])
 (.cond (.t 26)
 .skip
 (.exit 0)))
 (.seq
 (.block 1
 (.ops [
oM 29 7,
oM 30 2,
oM 31 8,
oI 32 30 31 8,
oF 33 32 0,
oD 34 33 2,
oM 35 2,
oM 36 8,
oI 37 35 36 8,
oF 38 37 2,
oD 39 38 2,
oM 40 2,
oM 41 8,
oI 42 40 41 8,
oF 43 42 4,
oD 44 43 2,
oM 45 2,
oM 46 8,
oI 47 45 46 8,
oF 48 47 6,
oD 49 48 2,
oP 50 (.build [.int .i64 0, .int .i64 0, .int .i64 0, .int .i64 0, .int .i64 0, .int .i64 0, .int .i64 0, .int .i64 0] [(0, 2, .t 34), (2, 2, .t 39), (4, 2, .t 44), (6, 2, .t 49)]),
oP 51 (.slit 1 8 [.int .i64 0, .int .i64 0, .int .i64 0, .int .i64 0, .int .i64 0, .int .i64 0, .int .i64 0, .int .i64 0] [(0, .t 50)]),
oP 52 (.append (.t 29) (.t 51) 8 64),
oM 7 52]))
 (.ops [
oM 27 8,
oC 28 .add 27 1,
oM 8 28])))
def F4 : AFunc :=
 .fn 78 [.tmp 6]
 (.seq
 (.ops [
oP 3 (.box (.t 0)),
oP 4 (.box (.t 1)),
oP 6 (.move (.k (.bool false)))])
 (.seq
 (.seq
 (.ops [
oF 13 3 3,
oL 14 13,
oP 15 (.len (.t 14)),
oC 16 .gtr 15 100,
oM 17 16,
oN 18 17 false 2,
oQ 19 17 false (.len (.t 18)),
oQ 20 17 false (.bin .gtr (.t 19) (oK 110)),
oP 21 (.pick (.t 17) (.k (.bool true)) (.t 20))])
 (.cond (.t 21)
 (.seq
 (.ops [
oA 22 10 [] false,
oM 6 22])
 .ret)
 .skip))
 (.seq
 (.ops [
oP 7 (.move (.k (.slice none 0 0)))])
 (.seq
 (.seq
 (.ops [
oP 8 (.move (oK 0))])
 (.block 0
 (.loop body4)))
 (.seq
 (.ops [
oD 54 3 4,
oD 55 4 2,
oM 56 7,
oA 57 21 [.t 54, .t 55, .t 56] false,
oM 53 57,
oX 58 53 0,
oX 59 53 1,
oM 9 58,
oM 10 59])
 (.seq
 (.ops [
oD 61 3 4,
oD 62 4 2,
oM 63 2,
oA 64 22 [.t 61, .t 62, .t 63] false,
oM 60 64,
oX 65 60 0,
oX 66 60 1,
oM 11 65,
oM 12 66])
 (.seq
 (.ops [
oM 67 9,
oM 68 11,
oA 69 23 [.t 67, .t 68] false,
oM 70 69,
oN 71 70 true 10,
oN 72 70 true 12,
oQ 73 70 true (.bin .eql (.t 71) (.t 72)),
oP 74 (.pick (.t 70) (.t 73) (.k (.bool false))),
oM 75 74,
oQ 76 75 true (.call (.k (.func (.func 10) ⟨[]⟩ ⟨[]⟩)) [] false),
oP 77 (.pick (.t 75) (.t 76) (.k (.bool false))),
oM 6 77])
 .ret)))))))
def body7g : ACode := (.seq
 (.ops [
oB 46 .lss 45 44])
 (.seq
 (.cond (.t 46)
 .skip
 (.exit 0))
 (.seq
 (.block 1
 (.seq
 (.ops [
oI 47 43 45 2,
oD 48 47 2,
oP 17 (.alloc [.int .i64 0, .int .i64 0]),
oT 17 48 2])
 (.ops [
oF 49 15 3,
oL 50 49,
oD 51 17 2,
oM 52 10,
⟨some 53, none, [(.t 52, 0, .t 49, 1), (.t 52, 0, .t 17, 2)], .callC (.t 52) []⟩,
oM 54 10,
⟨some 55, none, [(.t 54, 0, .t 49, 1), (.t 54, 0, .t 17, 2)], .callC (.t 54) []⟩,
oM 56 3,
oA 57 31 [.t 51, .t 53, .t 55, .t 56] true,
oP 58 (.slit 1 2 [.int .i64 0, .int .i64 0] [(0, .t 57)]),
oP 59 (.append (.t 50) (.t 58) 2 16),
oF 60 15 3,
oT 60 59 1])))
 (.ops [
oC 61 .add 45 1,
oM 45 61]))))
def body7s : ACode := (.seq
 (.ops [
oB 90 .lss 89 88])
 (.seq
 (.cond (.t 90)
 .skip
 (.exit 2))
 (.seq
 (.block 3
 (.seq
 (.ops [
oI 91 87 89 5,
oD 92 91 5,
oP 21 (.alloc [.int .i64 0, .int .i64 0, .int .i64 0, .int .i64 0, .int .i64 0]),
oT 21 92 5])
 (.ops [
oM 93 19,
oF 94 21 0,
oL 95 94,
oF 96 21 1,
oD 97 96 2,
oM 98 10,
⟨some 99, none, [(.t 98, 0, .t 94, 1), (.t 98, 0, .t 96, 2)], .callC (.t 98) []⟩,
oM 100 10,
⟨some 101, none, [(.t 100, 0, .t 94, 1), (.t 100, 0, .t 96, 2)], .callC (.t 100) []⟩,
oM 102 3,
oA 103 31 [.t 97, .t 99, .t 101, .t 102] true,
oF 104 21 3,
⟨some 105, none, [(.t 98, 0, .t 104, 2), (.t 100, 0, .t 104, 2)], .load (.t 104) (some 2)⟩,
oM 106 10,
⟨some 107, none, [(.t 106, 0, .t 94, 1), (.t 106, 0, .t 104, 2)], .callC (.t 106) []⟩,
oM 108 10,
⟨some 109, none, [(.t 108, 0, .t 94, 1), (.t 108, 0, .t 104, 2)], .callC (.t 108) []⟩,
oM 110 3,
oA 111 31 [.t 105, .t 107, .t 109, .t 110] true,
oP 112 (.build [.int .i64 0, .int .i64 0, .int .i64 0, .int .i64 0, .int .i64 0] [(0, 1, .t 95), (1, 2, .t 103), (3, 2, .t 111)]),
oP 113 (.slit 1 5 [.int .i64 0, .int .i64 0, .int .i64 0, .int .i64 0, .int .i64 0] [(0, .t 112)]),
oP 114 (.append (.t 93) (.t 113) 5 40),
oM 19 114])))
 (.ops [
oC 115 .add 89 1,
oM 89 115]))))
def F7 : AFunc :=
 .fn 160 [.tmp 8]
 (.seq
 (.ops [
oP 4 (.box (.t 0)),
oP 6 (.box (.t 2)),
oP 8 (.move (.k (.bool false)))])
 (.seq
 (.seq
 (.ops [
oM 26 1,
oP 27 (.len (.t 26)),
oC 28 .gtr 27 5])
 (.cond (.t 28)
 (.seq
 (.ops [
oA 29 10 [] false,
oM 8 29])
 .ret)
 .skip))
 (.seq
 (.ops [
oP 9 (.alloc [.int .i64 0]),
⟨none, none, [], .store (.t 9) (.k (.int .i64 0)) 1⟩])
 (.seq
 (.ops [
oP 30 (.makeFunc 29 [] [.t 9, .t 6]),
oM 10 30])
 (.seq
 (.ops [
oD 32 4 12,
oA 33 24 [.t 32] false,
oM 31 33,
oX 34 31 0,
oX 35 31 1,
oX 36 31 2,
oP 11 (.alloc [.int .i64 0, .int .i64 0, .int .i64 0, .slice none 0 0]),
oP 12 (.alloc [.int .i64 0, .int .i64 0]),
oP 13 (.alloc [.int .i64 0, .int .i64 0, .int .i64 0, .int .i64 0, .int .i64 0, .int .i64 0]),
oT 11 34 4,
oT 12 35 2,
oT 13 36 6])
 (.seq
 (.ops [
oD 37 11 4,
oM 38 1,
oA 39 30 [.t 37, .t 38] false,
oM 14 39])
 (.seq
 (.ops [
oD 40 11 4,
oP 15 (.alloc [.int .i64 0, .int .i64 0, .int .i64 0, .slice none 0 0]),
oT 15 40 4])
 (.seq
 (.ops [
oF 41 15 3,
⟨none, none, [], .store (.t 41) (.k (.slice none 0 0)) 1⟩])
 (.seq
 (.seq
 (.ops [
oF 42 11 3,
oL 43 42,
oP 44 (.len (.t 43)),
oP 45 (.move (oK 0))])
 (.block 0
 (.loop body7g)))
 (.seq
 (.ops [
oF 62 13 0,
oD 63 62 2,
oM 64 10,
⟨some 65, none, [(.t 64, 0, .t 62, 2)], .callC (.t 64) []⟩,
oM 66 10,
⟨some 67, none, [(.t 66, 0, .t 62, 2)], .callC (.t 66) []⟩,
oM 68 3,
oA 69 31 [.t 63, .t 65, .t 67, .t 68] true,
oF 70 13 2,
⟨some 71, none, [(.t 64, 0, .t 70, 2), (.t 66, 0, .t 70, 2)], .load (.t 70) (some 2)⟩,
oM 72 10,
⟨some 73, none, [(.t 72, 0, .t 70, 2)], .callC (.t 72) []⟩,
oM 74 10,
⟨some 75, none, [(.t 74, 0, .t 70, 2)], .callC (.t 74) []⟩,
oM 76 3,
oA 77 31 [.t 71, .t 73, .t 75, .t 76] true,
oF 78 13 4,
⟨some 79, none, [(.t 64, 0, .t 78, 2), (.t 66, 0, .t 78, 2), (.t 72, 0, .t 78, 2), (.t 74, 0, .t 78, 2)], .load (.t 78) (some 2)⟩,
oM 80 10,
⟨some 81, none, [(.t 80, 0, .t 78, 2)], .callC (.t 80) []⟩,
oM 82 10,
⟨some 83, none, [(.t 82, 0, .t 78, 2)], .callC (.t 82) []⟩,
oM 84 3,
oA 85 31 [.t 79, .t 81, .t 83, .t 84] true,
oP 86 (.build [.int .i64 0, .int .i64 0, .int .i64 0, .int .i64 0, .int .i64 0, .int .i64 0] [(0, 2, .t 69), (2, 2, .t 77), (4, 2, .t 85)]),
oP 18 (.alloc [.int .i64 0, .int .i64 0, .int .i64 0, .int .i64 0, .int .i64 0, .int .i64 0]),
oT 18 86 6])
 (.seq
 (.ops [
oP 19 (.move (.k (.slice none 0 0)))])
 (.seq
 (.seq
 (.ops [
oM 87 14,
oP 88 (.len (.t 87)),
oP 89 (.move (oK 0))])
 (.block 2
 (.loop body7s)))
 (.seq
 (.ops [
oD 117 11 4,
oD 118 12 2,
oD 119 13 6,
oM 120 14,
oA 121 27 [.t 117, .t 118, .t 119, .t 120] false,
oM 116 121,
oX 122 116 0,
oX 123 116 1,
oM 22 122,
oM 23 123])
 (.seq
 (.ops [
oD 125 15 4,
oD 126 12 2,
oM 127 10,
⟨some 128, none, [(.t 127, 0, .t 15, 4), (.t 127, 0, .t 12, 2)], .callC (.t 127) []⟩,
oM 129 10,
⟨some 130, none, [(.t 129, 0, .t 15, 4), (.t 129, 0, .t 12, 2)], .callC (.t 129) []⟩,
oM 131 3,
oA 132 31 [.t 126, .t 128, .t 130, .t 131] true,
⟨some 133, none, [(.t 127, 0, .t 18, 6), (.t 129, 0, .t 18, 6)], .load (.t 18) (some 6)⟩,
oM 134 19,
oA 135 27 [.t 125, .t 132, .t 133, .t 134] false,
oM 124 135,
oX 136 124 0,
oX 137 124 1,
oM 24 136,
oM 25 137])
 (.seq
 (.ops [
oM 138 23,
oC 139 .eql 138 0,
oM 140 139,
oN 141 140 true 25,
oQ 142 140 true (.bin .eql (.t 141) (oK 0)),
oP 143 (.pick (.t 140) (.t 142) (.k (.bool false))),
oM 144 143,
oN 145 144 true 22,
oQ 146 144 true (.len (.t 145)),
oQ 147 144 true (.fieldAddr (.t 11) 3),
oQ 148 144 true (.load (.t 147) none),
oQ 149 144 true (.len (.t 148)),
oQ 150 144 true (.bin .eql (.t 146) (.t 149)),
oP 151 (.pick (.t 144) (.t 150) (.k (.bool false))),
oM 152 151,
oN 153 152 true 24,
oN 154 152 true 22,
oQ 155 152 true (.call (.k (.func (.func 26) ⟨[]⟩ ⟨[]⟩)) [.t 153, .t 154] false),
oP 156 (.pick (.t 152) (.t 155) (.k (.bool false))),
oM 157 156,
oQ 158 157 true (.call (.k (.func (.func 10) ⟨[]⟩ ⟨[]⟩)) [] false),
oP 159 (.pick (.t 157) (.t 158) (.k (.bool false))),
oM 8 159])
 .ret)))))))))))))))
def F10 : AFunc :=
 .fn 171 [.tmp 0]
 (.seq
 (.ops [
oP 0 (.move (.k (.bool false)))])
 (.seq
 (.ops [
oA 14 35 [] false,
oA 15 36 [] false,
oP 1 (.alloc [.int .i64 0, .int .i64 0, .int .i64 0, .slice none 0 0]),
oP 2 (.alloc [.int .i64 0, .int .i64 0, .int .i64 0, .int .i64 0, .int .i64 0, .int .i64 0]),
oT 1 14 4,
oT 2 15 6])
 (.seq
 (.ops [
oP 16 (.build [.int .i64 0, .int .i64 0, .int .i64 0, .int .i64 0, .int .i64 0] [(0, 1, .k (.int .i64 2)), (2, 1, .k (.int .i64 7))]),
oP 3 (.alloc [.int .i64 0, .int .i64 0, .int .i64 0, .int .i64 0, .int .i64 0]),
oT 3 16 5])
 (.seq
 (.ops [
oD 18 1 4,
oP 19 (.build [.int .i64 0, .int .i64 0, .int .i64 0, .int .i64 0, .int .i64 0] [(0, 1, .k (.int .i64 1)), (1, 1, .k (.int .i64 3)), (2, 1, .k (.int .i64 4))]),
oA 20 11 [.t 18, .t 19] false,
oM 17 20,
oX 21 17 0,
oX 22 17 1,
oM 4 21,
oM 5 22])
 (.seq
 (.ops [
oD 24 1 4,
oA 25 25 [.k (.int .i64 0), .k (.int .i64 0)] true,
oD 26 2 6,
oD 27 3 5,
oA 28 16 [.t 24, .t 25, .t 26, .t 27] false,
oM 23 28,
oX 29 23 0,
oX 30 23 1,
oM 6 29,
oM 7 30])
 (.seq
 (.seq
 (.ops [
oM 31 5,
oC 32 .neq 31 0,
oM 33 32,
oN 34 33 false 7,
oQ 35 33 false (.bin .neq (.t 34) (oK 0)),
oP 36 (.pick (.t 33) (.k (.bool true)) (.t 35)),
oM 37 36,
oN 38 37 false 4,
oQ 39 37 false (.len (.t 38)),
oQ 40 37 false (.bin .neq (.t 39) (oK 2)),
oP 41 (.pick (.t 37) (.k (.bool true)) (.t 40)),
oM 42 41,
oN 43 42 false 4,
oQ 44 42 false (.idxS (.t 43) (oK 0) 5),
oQ 45 42 false (.load (.t 44) (some 5)),
oQ 46 42 false (.call (.k (.func (.func 25) ⟨[]⟩ ⟨[]⟩)) [.k (.int .i64 8), .k (.int .i64 16)] true),
oQ 47 42 false (.build [.int .i64 0, .int .i64 0, .int .i64 0, .int .i64 0, .int .i64 0] [(0, 1, .k (.int .i64 2)), (3, 2, .t 46)]),
oQ 48 42 false (.eqv true [false, false, false, false, false] (.t 45) (.t 47)),
oP 49 (.pick (.t 42) (.k (.bool true)) (.t 48)),
oM 50 49,
oN 51 50 false 6,
oQ 52 50 false (.len (.t 51)),
oQ 53 50 false (.bin .neq (.t 52) (oK 4)),
oP 54 (.pick (.t 50) (.k (.bool true)) (.t 53))])
 (.cond (.t 54)
 (.seq
 (.ops [
oP 0 (.move (.k (.bool false)))])
 .ret)
 .skip))
 (.seq
 (.seq
 (.ops [
oM 55 6,
oP 56 (.idxS (.t 55) (oK 0) 8),
oD 57 56 8,
oA 58 25 [.k (.int .i64 127), .k (.int .i64 257)] true,
oA 59 25 [.k (.int .i64 127), .k (.int .i64 257)] true,
oA 60 25 [.k (.int .i64 19), .k (.int .i64 41)] true,
oP 61 (.build [.int .i64 0, .int .i64 0, .int .i64 0, .int .i64 0, .int .i64 0, .int .i64 0, .int .i64 0, .int .i64 0] [(2, 2, .t 58), (4, 2, .t 59), (6, 2, .t 60)]),
oP 62 (.eqv true [false, false, false, false, false, false, false, false] (.t 57) (.t 61)),
oM 63 62,
oN 64 63 false 6,
oQ 65 63 false (.idxS (.t 64) (oK 2) 8),
oQ 66 63 false (.load (.t 65) (some 8)),
oQ 67 63 false (.call (.k (.func (.func 25) ⟨[]⟩ ⟨[]⟩)) [.k (.int .i64 116926), .k (.int .i64 116928)] true),
oQ 68 63 false (.call (.k (.func (.func 25) ⟨[]⟩ ⟨[]⟩)) [.k (.int .i64 321), .k (.int .i64 644)] true),
oQ 69 63 false (.call (.k (.func (.func 25) ⟨[]⟩ ⟨[]⟩)) [.k (.int .i64 321), .k (.int .i64 644)] true),
oQ 70 63 false (.call (.k (.func (.func 25) ⟨[]⟩ ⟨[]⟩)) [.k (.int .i64 317), .k (.int .i64 638)] true),
oQ 71 63 false (.build [.int .i64 0, .int .i64 0, .int .i64 0, .int .i64 0, .int .i64 0, .int .i64 0, .int .i64 0, .int .i64 0] [(0, 2, .t 67), (2, 2, .t 68), (4, 2, .t 69), (6, 2, .t 70)]),
oQ 72 63 false (.eqv true [false, false, false, false, false, false, false, false] (.t 66) (.t 71)),
oP 73 (.pick (.t 63) (.k (.bool true)) (.t 72)),
oM 74 73,
oN 75 74 false 6,
oQ 76 74 false (.idxS (.t 75) (oK 3) 8),
oQ 77 74 false (.load (.t 76) (some 8)),
oQ 78 74 false (.call (.k (.func (.func 25) ⟨[]⟩ ⟨[]⟩)) [.k (.int .i64 216926), .k (.int .i64 216928)] true),
oQ 79 74 false (.call (.k (.func (.func 25) ⟨[]⟩ ⟨[]⟩)) [.k (.int .i64 11), .k (.int .i64 334)] true),
oQ 80 74 false (.call (.k (.func (.func 25) ⟨[]⟩ ⟨[]⟩)) [.k (.int .i64 311), .k (.int .i64 634)] true),
oQ 81 74 false (.call (.k (.func (.func 25) ⟨[]⟩ ⟨[]⟩)) [.k (.int .i64 103), .k (.int .i64 573)] true),
oQ 82 74 false (.build [.int .i64 0, .int .i64 0, .int .i64 0, .int .i64 0, .int .i64 0, .int .i64 0, .int .i64 0, .int .i64 0] [(0, 2, .t 78), (2, 2, .t 79), (4, 2, .t 80), (6, 2, .t 81)]),
oQ 83 74 false (.eqv true [false, false, false, false, false, false, false, false] (.t 77) (.t 82)),
oP 84 (.pick (.t 74) (.k (.bool true)) (.t 83))])
 (.cond (.t 84)
 (.seq
 (.ops [
oP 0 (.move (.k (.bool false)))])
 .ret)
 .skip))
 (.seq
 (.ops [
oD 86 1 4,
oA 87 25 [.k (.int .i64 0), .k (.int .i64 0)] true,
oM 88 6,
oA 89 21 [.t 86, .t 87, .t 88] false,
oM 85 89,
oX 90 85 0,
oX 91 85 1,
oM 8 90,
oM 5 91])
 (.seq
 (.ops [
oF 92 2 4,
oF 93 92 1,
⟨none, none, [], .store (.t 93) (.k (.int .i64 30)) 1⟩])
 (.seq
 (.ops [
oD 95 1 4,
oA 96 25 [.k (.int .i64 0), .k (.int .i64 0)] true,
oD 97 2 6,
oD 98 3 5,
oP 99 (.slit 1 5 [.int .i64 0, .int .i64 0, .int .i64 0, .int .i64 0, .int .i64 0] [(0, .t 98)]),
oA 100 19 [.t 95, .t 96, .t 97, .t 99] false,
oM 94 100,
oX 101 94 0,
oX 102 94 1,
oM 9 101,
oM 7 102])
 (.seq
 (.ops [
oD 104 1 4,
oA 105 25 [.k (.int .i64 0), .k (.int .i64 0)] true,
oD 106 2 6,
oA 107 19 [.t 104, .t 105, .t 106, .k (.slice none 0 0)] false,
oM 103 107,
oX 108 103 0,
oX 109 103 1,
oM 10 108,
oM 11 109])
 (.seq
 (.ops [
oD 111 1 4,
oA 112 25 [.k (.int .i64 0), .k (.int .i64 0)] true,
oM 113 10,
oA 114 21 [.t 111, .t 112, .t 113] false,
oM 110 114,
oX 115 110 0,
oX 116 110 1,
oM 12 115,
oM 13 116])
 (.seq
 (.ops [
oM 117 5,
oC 118 .eql 117 0,
oM 119 118,
oN 120 119 true 7,
oQ 121 119 true (.bin .eql (.t 120) (oK 0)),
oP 122 (.pick (.t 119) (.t 121) (.k (.bool false))),
oM 123 122,
oN 124 123 true 11,
oQ 125 123 true (.bin .eql (.t 124) (oK 0)),
oP 126 (.pick (.t 123) (.t 125) (.k (.bool false))),
oM 127 126,
oN 128 127 true 13,
oQ 129 127 true (.bin .eql (.t 128) (oK 0)),
oP 130 (.pick (.t 127) (.t 129) (.k (.bool false))),
oM 131 130,
oN 132 131 true 9,
oQ 133 131 true (.len (.t 132)),
oQ 134 131 true (.bin .eql (.t 133) (oK 4)),
oP 135 (.pick (.t 131) (.t 134) (.k (.bool false))),
oM 136 135,
oN 137 136 true 9,
oQ 138 136 true (.idxS (.t 137) (oK 3) 8),
oQ 139 136 true (.load (.t 138) (some 8)),
oQ 140 136 true (.call (.k (.func (.func 25) ⟨[]⟩ ⟨[]⟩)) [.k (.int .i64 216926), .k (.int .i64 1099511627776)] true),
oQ 141 136 true (.call (.k (.func (.func 25) ⟨[]⟩ ⟨[]⟩)) [.k (.int .i64 0), .k (.int .i64 334)] true),
oQ 142 136 true (.call (.k (.func (.func 25) ⟨[]⟩ ⟨[]⟩)) [.k (.int .i64 300), .k (.int .i64 634)] true),
oQ 143 136 true (.call (.k (.func (.func 25) ⟨[]⟩ ⟨[]⟩)) [.k (.int .i64 0), .k (.int .i64 573)] true),
oQ 144 136 true (.build [.int .i64 0, .int .i64 0, .int .i64 0, .int .i64 0, .int .i64 0, .int .i64 0, .int .i64 0, .int .i64 0] [(0, 2, .t 140), (2, 2, .t 141), (4, 2, .t 142), (6, 2, .t 143)]),
oQ 145 136 true (.eqv false [false, false, false, false, false, false, false, false] (.t 139) (.t 144)),
oP 146 (.pick (.t 136) (.t 145) (.k (.bool false))),
oM 147 146,
oN 148 147 true 8,
oQ 149 147 true (.slit 4 1 [.bool false] [(0, .k (.bool false)), (1, .k (.bool false)), (2, .k (.bool false)), (3, .k (.bool false))]),
oQ 150 147 true (.call (.k (.func (.func 23) ⟨[]⟩ ⟨[]⟩)) [.t 148, .t 149] false),
oP 151 (.pick (.t 147) (.t 150) (.k (.bool false))),
oM 152 151,
oN 153 152 true 12,
oQ 154 152 true (.slit 4 1 [.bool false] [(0, .k (.bool false)), (1, .k (.bool false)), (2, .k (.bool false)), (3, .k (.bool true))]),
oQ 155 152 true (.call (.k (.func (.func 23) ⟨[]⟩ ⟨[]⟩)) [.t 153, .t 154] false),
oP 156 (.pick (.t 152) (.t 155) (.k (.bool false))),
oM 157 156,
oN 158 157 true 10,
oQ 159 157 true (.len (.t 158)),
oQ 160 157 true (.bin .eql (.t 159) (oK 4)),
oP 161 (.pick (.t 157) (.t 160) (.k (.bool false))),
oM 162 161,
oN 163 162 true 10,
oQ 164 162 true (.idxS (.t 163) (oK 3) 8),
oQ 165 162 true (.load (.t 164) (some 8)),
oQ 166 162 true (.call (.k (.func (.func 25) ⟨[]⟩ ⟨[]⟩)) [.k (.int .i64 1099511627776), .k (.int .i64 1099511627776)] true),
oQ 167 162 true (.call (.k (.func (.func 25) ⟨[]⟩ ⟨[]⟩)) [.k (.int .i64 300), .k (.int .i64 300)] true),
oQ 168 162 true (.build [.int .i64 0, .int .i64 0, .int .i64 0, .int .i64 0, .int .i64 0, .int .i64 0, .int .i64 0, .int .i64 0] [(0, 2, .t 166), (4, 2, .t 167)]),
oQ 169 162 true (.eqv false [false, false, false, false, false, false, false, false] (.t 165) (.t 168)),
oP 170 (.pick (.t 162) (.t 169) (.k (.bool false))),
oM 0 170])
 .ret)))))))))))))
def F11 : AFunc :=
 .fn 22 [.tmp 4, .tmp 5]
 (.seq
 (.ops [
oP 2 (.box (.t 0)),
oP 3 (.box (.t 1)),
oP 4 (.move (.k (.slice none 0 0))),
oP 5 (.move (oK 0))])
 (.seq
 (.seq
 (.ops [
oD 8 2 4,
oA 9 37 [.t 8] false,
oM 6 9])
 (.seq
 (.ops [
oM 10 6,
oC 11 .neq 10 0])
 (.cond (.t 11)
 (.seq
 (.ops [
oM 12 6,
oP 4 (.move (.k (.slice none 0 0))),
oM 5 12])
 .ret)
 .skip)))
 (.seq
 (.seq
 (.ops [
oD 13 2 4,
oD 14 3 5,
oA 15 38 [.t 13, .t 14] false,
oM 7 15])
 (.seq
 (.ops [
oM 16 7,
oC 17 .neq 16 0])
 (.cond (.t 17)
 (.seq
 (.ops [
oM 18 7,
oP 4 (.move (.k (.slice none 0 0))),
oM 5 18])
 .ret)
 .skip)))
 (.seq
 (.ops [
oD 19 2 4,
oD 20 3 5,
oA 21 39 [.t 19, .t 20] false,
oM 4 21,
oP 5 (.move (oK 0))])
 .ret))))
def body12 : ACode := (.seq
  (.seq
  (.ops [
 oM 48 11,
 oF 49 2 3,
 oL 50 49,
 oP 51 (.len (.t 50)),
 oB 52 .lss 48 51])
  (.cond (.t 52)
  .skip
  (.exit 0)))
  (.seq
  (.block 1
  (.seq
  (.ops [
 oM 55 11,
 oF 56 2 0,
 oL 57 56,
 oB 58 .rem 55 57,
 oF 59 3 1,
 oL 60 59,
 oF 61 2 0,
 oL 62 61,
 oB 63 .rem 60 62,
 oB 64 .sub 58 63,
 oM 65 11,
 oF 66 2 0,
 oL 67 66,
 oB 68 .quo 65 67,
 oF 69 3 1,
 oL 70 69,
 oF 71 2 0,
 oL 72 71,
 oB 73 .quo 70 72,
 oB 74 .sub 68 73,
 oM 12 64,
 oM 13 74])
  (.seq
  (.ops [
 oM 75 12,
 oM 76 12,
 oP 77 (.neg (.t 76)),
 oM 78 13,
 oM 79 13,
 oP 80 (.neg (.t 79)),
 oP 81 (.max [.t 75, .t 77, .t 78, .t 80]),
 oM 82 8,
 oB 83 .leq 81 82])
  (.cond (.t 83)
  (.ops [
 oM 84 10,
 oM 85 11,
 oF 86 3 3,
 oD 87 86 2,
 oD 88 9 2,
 oP 89 (.build [.int .i64 0, .int .i64 0, .int .i64 0, .int .i64 0, .int .i64 0] [(0, 1, .t 85), (1, 2, .t 87), (3, 2, .t 88)]),
 oP 90 (.slit 1 5 [.int .i64 0, .int .i64 0, .int .i64 0, .int .i64 0, .int .i64 0] [(0, .t 89)]),
 oP 91 (.append (.t 84) (.t 90) 5 40),
 oM 10 91])
  .skip))))
  (.ops [
 oM 53 11,
 oC 54 .add 53 1,
 oM 11 54])))
def F12 : AFunc :=
 .fn 93 [.tmp 4, .tmp 5]
 (.seq
 (.ops [
oP 2 (.box (.t 0)),
oP 3 (.box (.t 1)),
oP 4 (.move (.k (.slice none 0 0))),
oP 5 (.move (oK 0))])
 (.seq
 (.ops [
oD 14 2 4,
oA 15 40 [.t 14] false,
oM 6 15])
 (.seq
 (.seq
 (.ops [
oM 16 6,
oC 17 .eql 16 0])
 (.cond (.t 17)
 (.ops [
oD 18 2 4,
oD 19 3 5,
oA 20 41 [.t 18, .t 19] false,
oM 6 20])
 .skip))
 (.seq
 (.seq
 (.ops [
oM 21 6,
oC 22 .neq 21 0])
 (.cond (.t 22)
 (.seq
 (.ops [
oM 23 6,
oP 4 (.move (.k (.slice none 0 0))),
oM 5 23])
 .ret)
 .skip))
 (.seq
 (.ops [
oF 24 3 2,
oL 25 24,
oP 26 (.bin .shl (oK 1) (.t 25)),
oM 7 26])
 (.seq
 (.ops [
oM 27 7,
oM 28 7,
oP 29 (.bin .mul (oK 2) (.t 28)),
oP 30 (.build [.int .i64 0, .int .i64 0] [(0, 1, .t 27), (1, 1, .t 29)]),
oP 9 (.alloc [.int .i64 0, .int .i64 0]),
oP 8 (.move (oK 0)),
oT 9 30 2])
 (.seq
 (.seq
 (.ops [
oF 31 3 0,
oL 32 31,
oC 33 .eql 32 1])
 (.cond (.t 33)
 (.ops [
oF 34 3 2,
oL 35 34,
oC 36 .quo 35 4,
oM 37 7,
oC 38 .quo 37 2,
oM 39 7,
oP 40 (.build [.int .i64 0, .int .i64 0] [(0, 1, .t 38), (1, 1, .t 39)]),
oM 8 36,
oT 9 40 2])
 .skip))
 (.seq
 (.seq
 (.ops [
oF 41 3 0,
oL 42 41,
oC 43 .eql 42 3])
 (.cond (.t 43)
 (.ops [
oM 44 7,
oC 45 .quo 44 2,
oM 46 7,
oP 47 (.build [.int .i64 0, .int .i64 0] [(0, 1, .t 45), (1, 1, .t 46)]),
oP 8 (.move (oK 1)),
oT 9 47 2])
 .skip))
 (.seq
 (.ops [
oP 10 (.move (.k (.slice none 0 0)))])
 (.seq
 (.seq
 (.ops [
oP 11 (.move (oK 0))])
 (.block 0
 (.loop body12)))
 (.seq
 (.ops [
oM 92 10,
oM 4 92,
oP 5 (.move (oK 0))])
 .ret)))))))))))
def F13 : AFunc :=
 .fn 19 [.tmp 2]
 (.seq
 (.ops [
oP 1 (.box (.t 0)),
oP 2 (.move (oK 0))])
 (.seq
 (.seq
 (.ops [
oF 3 1 0,
oD 4 3 2,
oA 5 42 [.t 4, .k (.int .i64 1), .k (.int .i64 1024)] false,
oP 6 (.not (.t 5)),
oM 7 6,
oQ 8 7 false (.fieldAddr (.t 1) 2),
oQ 9 7 false (.load (.t 8) (some 2)),
oQ 10 7 false (.call (.k (.func (.func 42) ⟨[]⟩ ⟨[]⟩)) [.t 9, .k (.int .i64 10), .k (.int .i64 100000)] false),
oQ 11 7 false (.not (.t 10)),
oP 12 (.pick (.t 7) (.k (.bool true)) (.t 11)),
oM 13 12,
oQ 14 13 false (.fieldAddr (.t 1) 4),
oQ 15 13 false (.load (.t 14) (some 2)),
oQ 16 13 false (.call (.k (.func (.func 42) ⟨[]⟩ ⟨[]⟩)) [.t 15, .k (.int .i64 0), .k (.int .i64 1000)] false),
oQ 17 13 false (.not (.t 16)),
oP 18 (.pick (.t 13) (.k (.bool true)) (.t 17))])
 (.cond (.t 18)
 (.seq
 (.ops [
oP 2 (.move (oK 3))])
 .ret)
 .skip))
 (.seq
 (.ops [
oP 2 (.move (oK 0))])
 .ret)))
def F14 : AFunc :=
 .fn 10 [.cell 2 (some 6)]
 (.seq
 (.ops [
oP 1 (.box (.t 0)),
oP 2 (.alloc [.int .i64 0, .int .i64 0, .int .i64 0, .int .i64 0, .int .i64 0, .int .i64 0])])
 (.seq
 (.ops [
oF 3 1 0,
oD 4 3 2,
oF 5 1 2,
oD 6 5 2,
oF 7 1 4,
oD 8 7 2,
oP 9 (.build [.int .i64 0, .int .i64 0, .int .i64 0, .int .i64 0, .int .i64 0, .int .i64 0] [(0, 2, .t 4), (2, 2, .t 6), (4, 2, .t 8)]),
oT 2 9 6])
 .ret))
def F15 : AFunc :=
 .fn 19 [.tmp 2]
 (.seq
 (.ops [
oP 1 (.box (.t 0)),
oP 2 (.move (oK 0))])
 (.seq
 (.seq
 (.ops [
oF 3 1 0,
oD 4 3 2,
oA 5 43 [.t 4, .k (.int .i64 1), .k (.int .i64 1024)] false,
oP 6 (.not (.t 5)),
oM 7 6,
oQ 8 7 false (.fieldAddr (.t 1) 2),
oQ 9 7 false (.load (.t 8) (some 2)),
oQ 10 7 false (.call (.k (.func (.func 43) ⟨[]⟩ ⟨[]⟩)) [.t 9, .k (.int .i64 10), .k (.int .i64 100000)] false),
oQ 11 7 false (.not (.t 10)),
oP 12 (.pick (.t 7) (.k (.bool true)) (.t 11)),
oM 13 12,
oQ 14 13 false (.fieldAddr (.t 1) 4),
oQ 15 13 false (.load (.t 14) (some 2)),
oQ 16 13 false (.call (.k (.func (.func 43) ⟨[]⟩ ⟨[]⟩)) [.t 15, .k (.int .i64 0), .k (.int .i64 1000)] false),
oQ 17 13 false (.not (.t 16)),
oP 18 (.pick (.t 13) (.k (.bool true)) (.t 17))])
 (.cond (.t 18)
 (.seq
 (.ops [
oP 2 (.move (oK 3))])
 .ret)
 .skip))
 (.seq
 (.ops [
oP 2 (.move (oK 0))])
 .ret)))
def F16 : AFunc :=
 .fn 32 [.tmp 8, .tmp 9]
 (.seq
 (.ops [
oP 4 (.box (.t 0)),
oP 5 (.box (.t 1)),
oP 6 (.box (.t 2)),
oP 7 (.box (.t 3)),
oP 8 (.move (.k (.slice none 0 0))),
oP 9 (.move (oK 0))])
 (.seq
 (.seq
 (.ops [
oD 12 4 4,
oD 13 5 2,
oD 14 6 6,
oA 15 44 [.t 12, .t 13, .t 14] false,
oM 10 15])
 (.seq
 (.ops [
oM 16 10,
oC 17 .neq 16 0])
 (.cond (.t 17)
 (.seq
 (.ops [
oM 18 10,
oP 8 (.move (.k (.slice none 0 0))),
oM 9 18])
 .ret)
 .skip)))
 (.seq
 (.seq
 (.ops [
oD 19 4 4,
oD 20 7 5,
oA 21 38 [.t 19, .t 20] false,
oM 11 21])
 (.seq
 (.ops [
oM 22 11,
oC 23 .neq 22 0])
 (.cond (.t 23)
 (.seq
 (.ops [
oM 24 11,
oP 8 (.move (.k (.slice none 0 0))),
oM 9 24])
 .ret)
 .skip)))
 (.seq
 (.ops [
oD 25 4 4,
oD 26 5 2,
oD 27 6 6,
oD 28 4 4,
oD 29 7 5,
oA 30 39 [.t 28, .t 29] true,
oA 31 45 [.t 25, .t 26, .t 27, .t 30] false,
oM 8 31,
oP 9 (.move (oK 0))])
 .ret))))
def body19a : ACode := (.seq
 (.ops [
oB 33 .lss 32 31])
 (.seq
 (.cond (.t 33)
 .skip
 (.exit 0))
 (.seq
 (.block 1
 (.seq
 (.ops [
oI 34 30 32 5,
oD 35 34 5,
oP 12 (.alloc [.int .i64 0, .int .i64 0, .int .i64 0, .int .i64 0, .int .i64 0]),
oT 12 35 5])
 (.seq
 (.ops [
oD 36 4 4,
oD 37 12 5,
oA 38 38 [.t 36, .t 37] false,
oM 13 38])
 (.seq
 (.ops [
oM 39 13,
oC 40 .neq 39 0])
 (.cond (.t 40)
 (.seq
 (.ops [
oM 41 13,
oP 8 (.move (.k (.slice none 0 0))),
oM 9 41])
 .ret)
 .skip)))))
 (.ops [
oC 42 .add 32 1,
oM 32 42]))))
def body19c : ACode := (.seq
 (.ops [
oB 75 .lss 74 73])
 (.seq
 (.cond (.t 75)
 .skip
 (.exit 4))
 (.seq
 (.block 5
 (.seq
 (.ops [
oM 76 74,
oI 77 72 74 8,
oD 78 77 8,
oP 18 (.alloc [.int .i64 0, .int .i64 0, .int .i64 0, .int .i64 0, .int .i64 0, .int .i64 0, .int .i64 0, .int .i64 0]),
oM 17 76,
oT 18 78 8])
 (.seq
 (.ops [
oM 79 14,
oM 80 17,
oI 81 79 80 8,
oM 19 81])
 (.ops [
oM 82 19,
oM 83 19,
oM 84 19,
oM 85 19,
oM 86 19,
oP 87 (.nilCheck (.t 86)),
oF 88 87 0,
oD 89 88 2,
oF 90 18 0,
oD 91 90 2,
oA 92 47 [.t 89, .t 91] true,
oM 93 19,
oP 94 (.nilCheck (.t 93)),
oF 95 94 2,
oD 96 95 2,
oF 97 18 2,
oD 98 97 2,
oA 99 47 [.t 96, .t 98] true,
oM 100 19,
oP 101 (.nilCheck (.t 100)),
oF 102 101 4,
oD 103 102 2,
oF 104 18 4,
oD 105 104 2,
oA 106 47 [.t 103, .t 105] true,
oM 107 19,
oP 108 (.nilCheck (.t 107)),
oF 109 108 6,
oD 110 109 2,
oF 111 18 6,
oD 112 111 2,
oA 113 47 [.t 110, .t 112] false,
oP 114 (.nilCheck (.t 82)),
oF 115 114 0,
oT 115 92 2,
oP 116 (.nilCheck (.t 83)),
oF 117 116 2,
oT 117 99 2,
oP 118 (.nilCheck (.t 84)),
oF 119 118 4,
oT 119 106 2,
oP 120 (.nilCheck (.t 85)),
oF 121 120 6,
oT 121 113 2]))))
 (.ops [
oC 122 .add 74 1,
oM 74 122]))))
def F19 : AFunc :=
 .fn 125 [.tmp 8, .tmp 9]
 (.seq
 (.ops [
oP 4 (.box (.t 0)),
oP 5 (.box (.t 1)),
oP 6 (.box (.t 2)),
oP 8 (.move (.k (.slice none 0 0))),
oP 9 (.move (oK 0))])
 (.seq
 (.seq
 (.ops [
oD 20 4 4,
oD 21 5 2,
oD 22 6 6,
oA 23 44 [.t 20, .t 21, .t 22] false,
oM 10 23])
 (.seq
 (.ops [
oM 24 10,
oC 25 .neq 24 0])
 (.cond (.t 25)
 (.seq
 (.ops [
oM 26 10,
oP 8 (.move (.k (.slice none 0 0))),
oM 9 26])
 .ret)
 .skip)))
 (.seq
 (.seq
 (.ops [
oM 27 3,
oP 28 (.len (.t 27)),
oC 29 .gtr 28 256])
 (.cond (.t 29)
 (.seq
 (.ops [
oP 8 (.move (.k (.slice none 0 0))),
oP 9 (.move (oK 9))])
 .ret)
 .skip))
 (.seq
 (.seq
 (.ops [
oM 30 3,
oP 31 (.len (.t 30)),
oP 32 (.move (oK 0))])
 (.block 0
 (.loop body19a)))
 (.seq
 (.seq
 (.ops [
oM 43 3,
oP 44 (.len (.t 43)),
oC 45 .eql 44 0])
 (.cond (.t 45)
 (.seq
 (.ops [
oD 46 4 4,
oD 47 5 2,
oD 48 6 6,
oA 49 45 [.t 46, .t 47, .t 48, .k (.slice none 0 0)] false,
oM 8 49,
oP 9 (.move (oK 0))])
 .ret)
 .skip))
 (.seq
 (.ops [
oD 50 4 4,
oD 51 5 2,
oD 52 6 6,
oD 53 4 4,
oM 54 3,
oP 55 (.idxS (.t 54) (oK 0) 5),
oD 56 55 5,
oA 57 39 [.t 53, .t 56] true,
oA 58 45 [.t 50, .t 51, .t 52, .t 57] false,
oM 14 58])
 (.seq
 (.seq
 (.ops [
oM 59 3,
oP 60 (.reslice (.t 59) (some (oK 1)) none 5),
oP 61 (.len (.t 60)),
oP 62 (.move (oK 0))])
 (.block 2
 (.loop
 (.seq
 (.ops [
oB 63 .lss 62 61])
 (.seq
 (.cond (.t 63)
 .skip
 (.exit 2))
 (.seq
 (.block 3
 (.seq
 (.ops [
oI 64 60 62 5,
oD 65 64 5,
oP 16 (.alloc [.int .i64 0, .int .i64 0, .int .i64 0, .int .i64 0, .int .i64 0]),
oT 16 65 5])
 (.seq
 (.ops [
oD 66 4 4,
oD 67 5 2,
oD 68 6 6,
oD 69 4 4,
oD 70 16 5,
oA 71 39 [.t 69, .t 70] true,
oA 72 45 [.t 66, .t 67, .t 68, .t 71] false,
oP 73 (.len (.t 72)),
oP 74 (.move (oK 0))])
 (.block 4
 (.loop body19c)))))
 (.ops [
oC 123 .add 62 1,
oM 62 123])))))))
 (.seq
 (.ops [
oM 124 14,
oM 8 124,
oP 9 (.move (oK 0))])
 .ret))))))))
def body21 : ACode := (.seq
 (.ops [
oB 31 .lss 30 29])
 (.seq
 (.cond (.t 31)
 .skip
 (.exit 1))
 (.seq
 (.block 2
 (.seq
 (.ops [
oM 32 30,
oI 33 28 30 8,
oD 34 33 8,
oP 11 (.alloc [.int .i64 0, .int .i64 0, .int .i64 0, .int .i64 0, .int .i64 0, .int .i64 0, .int .i64 0, .int .i64 0]),
oM 10 32,
oT 11 34 8])
 (.ops [
oM 35 9,
oF 36 4 1,
oL 37 36,
oF 38 3 3,
oL 39 38,
oM 40 10,
oI 41 39 40 2,
oF 42 41 0,
oL 43 42,
oB 44 .leq 37 43,
oM 45 44,
oQ 46 45 true (.fieldAddr (.t 11) 2),
oQ 47 45 true (.fieldAddr (.t 46) 1),
oQ 48 45 true (.load (.t 47) none),
oQ 49 45 true (.bin .leq (.t 48) (oK 0)),
oP 50 (.pick (.t 45) (.t 49) (.k (.bool false))),
oP 51 (.slit 1 1 [.bool false] [(0, .t 50)]),
oP 52 (.append (.t 35) (.t 51) 1 1),
oM 9 52])))
 (.ops [
oC 53 .add 30 1,
oM 30 53]))))
def F21 : AFunc :=
 .fn 55 [.tmp 6, .tmp 7]
 (.seq
 (.ops [
oP 3 (.box (.t 0)),
oP 4 (.box (.t 1)),
oP 6 (.move (.k (.slice none 0 0))),
oP 7 (.move (oK 0))])
 (.seq
 (.seq
 (.ops [
oD 12 3 4,
oA 13 37 [.t 12] false,
oM 8 13])
 (.seq
 (.ops [
oM 14 8,
oC 15 .neq 14 0])
 (.cond (.t 15)
 (.seq
 (.ops [
oM 16 8,
oP 6 (.move (.k (.slice none 0 0))),
oM 7 16])
 .ret)
 .skip)))
 (.seq
 (.block 0
 (.seq
 (.ops [
oD 18 4 2,
oA 19 42 [.t 18, .k (.int .i64 (-20000)), .k (.int .i64 20000)] false,
oP 20 (.not (.t 19)),
oM 17 20])
 (.cond (.t 17)
 (.seq
 (.ops [
oP 6 (.move (.k (.slice none 0 0))),
oP 7 (.move (oK 3))])
 .ret)
 (.seq
 (.ops [
oM 22 2,
oP 23 (.len (.t 22)),
oF 24 3 3,
oL 25 24,
oP 26 (.len (.t 25)),
oB 27 .neq 23 26,
oM 21 27])
 (.cond (.t 21)
 (.seq
 (.ops [
oP 6 (.move (.k (.slice none 0 0))),
oP 7 (.move (oK 11))])
 .ret)
 .skip)))))
 (.seq
 (.ops [
oP 9 (.move (.k (.slice none 0 0)))])
 (.seq
 (.seq
 (.ops [
oM 28 2,
oP 29 (.len (.t 28)),
oP 30 (.move (oK 0))])
 (.block 1
 (.loop body21)))
 (.seq
 (.ops [
oM 54 9,
oM 6 54,
oP 7 (.move (oK 0))])
 .ret))))))
def body22 : ACode := (.seq
 (.seq
 (.ops [
oM 25 10,
oM 26 2,
oP 27 (.len (.t 26)),
oB 28 .lss 25 27])
 (.cond (.t 28)
 .skip
 (.exit 0)))
 (.seq
 (.block 1
 (.ops [
oM 31 9,
oF 32 4 1,
oL 33 32,
oF 34 3 3,
oL 35 34,
oM 36 10,
oI 37 35 36 2,
oF 38 37 0,
oL 39 38,
oB 40 .sub 33 39,
oC 41 .leq 40 0,
oM 42 41,
oN 43 42 true 2,
oN 44 42 true 10,
oQ 45 42 true (.idxS (.t 43) (.t 44) 8),
oQ 46 42 true (.fieldAddr (.t 45) 2),
oQ 47 42 true (.fieldAddr (.t 46) 1),
oQ 48 42 true (.load (.t 47) none),
oQ 49 42 true (.bin .leq (.t 48) (oK 0)),
oP 50 (.pick (.t 42) (.t 49) (.k (.bool false))),
oP 51 (.slit 1 1 [.bool false] [(0, .t 50)]),
oP 52 (.append (.t 31) (.t 51) 1 1),
oM 9 52]))
 (.ops [
oM 29 10,
oC 30 .add 29 1,
oM 10 30])))
def F22 : AFunc :=
 .fn 54 [.tmp 6, .tmp 7]
 (.seq
 (.ops [
oP 3 (.box (.t 0)),
oP 4 (.box (.t 1)),
oP 6 (.move (.k (.slice none 0 0))),
oP 7 (.move (oK 0))])
 (.seq
 (.ops [
oD 11 3 4,
oA 12 40 [.t 11] false,
oM 8 12])
 (.seq
 (.seq
 (.ops [
oM 13 8,
oC 14 .neq 13 0])
 (.cond (.t 14)
 (.seq
 (.ops [
oM 15 8,
oP 6 (.move (.k (.slice none 0 0))),
oM 7 15])
 .ret)
 .skip))
 (.seq
 (.seq
 (.ops [
oD 16 4 2,
oA 17 43 [.t 16, .k (.int .i64 (-20000)), .k (.int .i64 20000)] false,
oP 18 (.not (.t 17))])
 (.cond (.t 18)
 (.seq
 (.ops [
oP 6 (.move (.k (.slice none 0 0))),
oP 7 (.move (oK 3))])
 .ret)
 .skip))
 (.seq
 (.seq
 (.ops [
oM 19 2,
oP 20 (.len (.t 19)),
oF 21 3 3,
oL 22 21,
oP 23 (.len (.t 22)),
oB 24 .neq 20 23])
 (.cond (.t 24)
 (.seq
 (.ops [
oP 6 (.move (.k (.slice none 0 0))),
oP 7 (.move (oK 11))])
 .ret)
 .skip))
 (.seq
 (.ops [
oP 9 (.move (.k (.slice none 0 0)))])
 (.seq
 (.seq
 (.ops [
oP 10 (.move (oK 0))])
 (.block 0
 (.loop body22)))
 (.seq
 (.ops [
oM 53 9,
oM 6 53,
oP 7 (.move (oK 0))])
 .ret))))))))
def body23 : ACode := (.seq
 (.seq
 (.ops [
oM 11 5,
oM 12 0,
oP 13 (.len (.t 12)),
oB 14 .lss 11 13])
 (.cond (.t 14)
 .skip
 (.exit 0)))
 (.seq
 (.block 1
 (.seq
 (.ops [
oM 17 0,
oM 18 5,
oI 19 17 18 1,
oL 20 19,
oM 21 1,
oM 22 5,
oI 23 21 22 1,
oL 24 23,
oP 25 (.beq true (.t 20) (.t 24))])
 (.cond (.t 25)
 (.seq
 (.ops [
oP 4 (.move (.k (.bool false)))])
 .ret)
 .skip)))
 (.ops [
oM 15 5,
oC 16 .add 15 1,
oM 5 16])))
def F23 : AFunc :=
 .fn 26 [.tmp 4]
 (.seq
 (.ops [
oP 4 (.move (.k (.bool false)))])
 (.seq
 (.seq
 (.ops [
oM 6 0,
oP 7 (.len (.t 6)),
oM 8 1,
oP 9 (.len (.t 8)),
oB 10 .neq 7 9])
 (.cond (.t 10)
 (.seq
 (.ops [
oP 4 (.move (.k (.bool false)))])
 .ret)
 .skip))
 (.seq
 (.seq
 (.ops [
oP 5 (.move (oK 0))])
 (.block 0
 (.loop body23)))
 (.seq
 (.ops [
oP 4 (.move (.k (.bool true)))])
 .ret))))
def body24 : ACode := (.seq
 (.ops [
oB 27 .lss 26 25])
 (.seq
 (.cond (.t 27)
 .skip
 (.exit 0))
 (.seq
 (.block 1
 (.seq
 (.ops [
oM 28 26,
oM 6 28])
 (.seq
 (.ops [
oP 29 (.build [.int .i64 0, .int .i64 0] []),
oP 7 (.alloc [.int .i64 0, .int .i64 0]),
oT 7 29 2])
 (.seq
 (.seq
 (.ops [
oF 30 1 2,
oL 31 30,
oP 32 (.len (.t 31)),
oC 33 .gtr 32 0])
 (.cond (.t 33)
 (.ops [
oF 34 1 2,
oL 35 34,
oM 36 6,
oF 37 1 2,
oL 38 37,
oP 39 (.len (.t 38)),
oB 40 .rem 36 39,
oI 41 35 40 1,
oL 42 41,
oP 43 (.toInt .i64 (.t 42)),
oF 44 7 0,
oT 44 43 1])
 .skip))
 (.seq
 (.ops [
oF 45 7 0,
oL 46 45,
oF 47 7 1,
oT 47 46 1])
 (.seq
 (.seq
 (.ops [
oF 48 1 3,
oL 49 48,
oP 50 (.len (.t 49)),
oC 51 .gtr 50 0])
 (.cond (.t 51)
 (.ops [
oF 52 7 1,
oL 53 52,
oF 54 1 3,
oL 55 54,
oM 56 6,
oF 57 1 3,
oL 58 57,
oP 59 (.len (.t 58)),
oB 60 .rem 56 59,
oI 61 55 60 1,
oL 62 61,
oP 63 (.toInt .i64 (.t 62)),
oB 64 .add 53 63,
oF 65 7 1,
oT 65 64 1])
 .skip))
 (.ops [
oF 66 5 3,
oL 67 66,
oD 68 7 2,
oP 69 (.slit 1 2 [.int .i64 0, .int .i64 0] [(0, .t 68)]),
oP 70 (.append (.t 67) (.t 69) 2 16),
oF 71 5 3,
oT 71 70 1])))))))
 (.ops [
oC 72 .add 26 1,
oM 26 72]))))
def F24 : AFunc :=
 .fn 118 [.cell 2 (some 4), .cell 3 (some 2), .cell 4 (some 6)]
 (.seq
 (.ops [
oP 1 (.box (.t 0)),
oP 2 (.alloc [.int .i64 0, .int .i64 0, .int .i64 0, .slice none 0 0]),
oP 3 (.alloc [.int .i64 0, .int .i64 0]),
oP 4 (.alloc [.int .i64 0, .int .i64 0, .int .i64 0, .int .i64 0, .int .i64 0, .int .i64 0])])
 (.seq
 (.ops [
oF 10 1 0,
oL 11 10,
oP 12 (.toInt .i64 (.t 11)),
oC 13 .rem 12 4,
oP 14 (.bin .add (oK 1) (.t 13)),
oF 15 1 1,
oL 16 15,
oP 17 (.toInt .i64 (.t 16)),
oC 18 .rem 17 4,
oP 19 (.bin .add (oK 1) (.t 18)),
oP 20 (.build [.int .i64 0, .int .i64 0, .int .i64 0, .slice none 0 0] [(0, 1, .t 14), (1, 1, .t 19), (2, 1, .k (.int .i64 500))]),
oP 5 (.alloc [.int .i64 0, .int .i64 0, .int .i64 0, .slice none 0 0]),
oT 5 20 4])
 (.seq
 (.seq
 (.ops [
oF 21 5 0,
oL 22 21,
oF 23 5 1,
oL 24 23,
oB 25 .mul 22 24,
oP 26 (.move (oK 0))])
 (.block 0
 (.loop body24)))
 (.seq
 (.ops [
oP 8 (.move (.k (.func (.func 49) ⟨[]⟩ ⟨[]⟩)))])
 (.seq
 (.ops [
oM 73 8,
oF 74 1 6,
oP 75 (.idxA (.t 74) (oK 0) 2 1),
oL 76 75,
oP 77 (.toInt .i64 (.t 76)),
oF 78 1 6,
oP 79 (.idxA (.t 78) (oK 1) 2 1),
oL 80 79,
oP 81 (.toInt .i64 (.t 80)),
oP 82 (.call (.t 73) [.t 77, .t 81, .k (.int .i64 1), .k (.int .i64 1024)] true),
oM 83 8,
oF 84 1 8,
oP 85 (.idxA (.t 84) (oK 0) 2 1),
oL 86 85,
oP 87 (.toInt .i64 (.t 86)),
oF 88 1 8,
oP 89 (.idxA (.t 88) (oK 1) 2 1),
oL 90 89,
oP 91 (.toInt .i64 (.t 90)),
oP 92 (.call (.t 83) [.t 87, .t 91, .k (.int .i64 10), .k (.int .i64 2000)] true),
oM 93 8,
oF 94 1 10,
oP 95 (.idxA (.t 94) (oK 0) 2 1),
oL 96 95,
oP 97 (.toInt .i64 (.t 96)),
oF 98 1 10,
oP 99 (.idxA (.t 98) (oK 1) 2 1),
oL 100 99,
oP 101 (.toInt .i64 (.t 100)),
oP 102 (.call (.t 93) [.t 97, .t 101, .k (.int .i64 0), .k (.int .i64 256)] true),
oP 103 (.build [.int .i64 0, .int .i64 0, .int .i64 0, .int .i64 0, .int .i64 0, .int .i64 0] [(0, 2, .t 82), (2, 2, .t 92), (4, 2, .t 102)]),
oP 9 (.alloc [.int .i64 0, .int .i64 0, .int .i64 0, .int .i64 0, .int .i64 0, .int .i64 0]),
oT 9 103 6])
 (.seq
 (.ops [
oD 104 5 4,
oF 105 1 4,
oL 106 105,
oP 107 (.toInt .i64 (.t 106)),
oF 108 1 4,
oL 109 108,
oP 110 (.toInt .i64 (.t 109)),
oF 111 1 5,
oL 112 111,
oP 113 (.toInt .i64 (.t 112)),
oC 114 .rem 113 50,
oB 115 .add 110 114,
oA 116 25 [.t 107, .t 115] true,
oD 117 9 6,
⟨none, none, [(.t 2, 4, .t 9, 6)], .store (.t 2) (.t 104) 4⟩,
⟨none, none, [(.t 3, 2, .t 9, 6)], .store (.t 3) (.t 116) 2⟩,
oT 4 117 6])
 .ret))))))
def F25 : AFunc :=
 .fn 8 [.cell 4 (some 2)]
 (.seq
 (.ops [
oP 4 (.alloc [.int .i64 0, .int .i64 0])])
 (.seq
 (.ops [
oM 5 0,
oM 6 1,
oP 7 (.build [.int .i64 0, .int .i64 0] [(0, 1, .t 5), (1, 1, .t 6)]),
oT 4 7 2])
 .ret))
def body26 : ACode := (.seq
 (.ops [
oB 14 .lss 13 12])
 (.seq
 (.cond (.t 14)
 .skip
 (.exit 0))
 (.seq
 (.block 1
 (.seq
 (.ops [
oM 15 13,
oM 5 15])
 (.seq
 (.ops [
oM 16 0,
oM 17 5,
oI 18 16 17 8,
oF 19 18 0,
oD 20 19 2,
oM 21 1,
oM 22 5,
oI 23 21 22 8,
oF 24 23 0,
oD 25 24 2,
oA 26 50 [.t 20, .t 25] false,
oP 27 (.not (.t 26)),
oM 28 27,
oN 29 28 false 0,
oN 30 28 false 5,
oQ 31 28 false (.idxS (.t 29) (.t 30) 8),
oQ 32 28 false (.fieldAddr (.t 31) 2),
oQ 33 28 false (.load (.t 32) (some 2)),
oN 34 28 false 1,
oN 35 28 false 5,
oQ 36 28 false (.idxS (.t 34) (.t 35) 8),
oQ 37 28 false (.fieldAddr (.t 36) 2),
oQ 38 28 false (.load (.t 37) (some 2)),
oQ 39 28 false (.call (.k (.func (.func 50) ⟨[]⟩ ⟨[]⟩)) [.t 33, .t 38] false),
oQ 40 28 false (.not (.t 39)),
oP 41 (.pick (.t 28) (.k (.bool true)) (.t 40)),
oM 42 41,
oN 43 42 false 0,
oN 44 42 false 5,
oQ 45 42 false (.idxS (.t 43) (.t 44) 8),
oQ 46 42 false (.fieldAddr (.t 45) 4),
oQ 47 42 false (.load (.t 46) (some 2)),
oN 48 42 false 1,
oN 49 42 false 5,
oQ 50 42 false (.idxS (.t 48) (.t 49) 8),
oQ 51 42 false (.fieldAddr (.t 50) 4),
oQ 52 42 false (.load (.t 51) (some 2)),
oQ 53 42 false (.call (.k (.func (.func 50) ⟨[]⟩ ⟨[]⟩)) [.t 47, .t 52] false),
oQ 54 42 false (.not (.t 53)),
oP 55 (.pick (.t 42) (.k (.bool true)) (.t 54)),
oM 56 55,
oN 57 56 false 0,
oN 58 56 false 5,
oQ 59 56 false (.idxS (.t 57) (.t 58) 8),
oQ 60 56 false (.fieldAddr (.t 59) 6),
oQ 61 56 false (.load (.t 60) (some 2)),
oN 62 56 false 1,
oN 63 56 false 5,
oQ 64 56 false (.idxS (.t 62) (.t 63) 8),
oQ 65 56 false (.fieldAddr (.t 64) 6),
oQ 66 56 false (.load (.t 65) (some 2)),
oQ 67 56 false (.call (.k (.func (.func 50) ⟨[]⟩ ⟨[]⟩)) [.t 61, .t 66] false),
oQ 68 56 false (.not (.t 67)),
oP 69 (.pick (.t 56) (.k (.bool true)) (.t 68))])
 (.cond (.t 69)
 (.seq
 (.ops [
oP 4 (.move (.k (.bool false)))])
 .ret)
 .skip))))
 (.ops [
oC 70 .add 13 1,
oM 13 70]))))
def F26 : AFunc :=
 .fn 71 [.tmp 4]
 (.seq
 (.ops [
oP 4 (.move (.k (.bool false)))])
 (.seq
 (.seq
 (.ops [
oM 6 0,
oP 7 (.len (.t 6)),
oM 8 1,
oP 9 (.len (.t 8)),
oB 10 .neq 7 9])
 (.cond (.t 10)
 (.seq
 (.ops [
oP 4 (.move (.k (.bool false)))])
 .ret)
 .skip))
 (.seq
 (.seq
 (.ops [
oM 11 0,
oP 12 (.len (.t 11)),
oP 13 (.move (oK 0))])
 (.block 0
 (.loop body26)))
 (.seq
 (.ops [
oP 4 (.move (.k (.bool true)))])
 .ret))))
def body27 : ACode := (.seq
 (.ops [
oB 26 .lss 25 24])
 (.seq
 (.cond (.t 26)
 .skip
 (.exit 0))
 (.seq
 (.block 1
 (.seq
 (.ops [
oI 27 23 25 5,
oD 28 27 5,
oP 12 (.alloc [.int .i64 0, .int .i64 0, .int .i64 0, .int .i64 0, .int .i64 0]),
oT 12 28 5])
 (.block 2
 (.seq
 (.ops [
oF 30 12 0,
oL 31 30,
oC 32 .lss 31 0,
oM 33 32,
oQ 34 33 false (.fieldAddr (.t 12) 0),
oQ 35 33 false (.load (.t 34) none),
oQ 36 33 false (.fieldAddr (.t 4) 3),
oQ 37 33 false (.load (.t 36) none),
oQ 38 33 false (.len (.t 37)),
oQ 39 33 false (.bin .geq (.t 35) (.t 38)),
oP 40 (.pick (.t 33) (.k (.bool true)) (.t 39)),
oM 29 40])
 (.cond (.t 29)
 (.seq
 (.ops [
oP 8 (.move (.k (.slice none 0 0))),
oP 9 (.move (oK 4))])
 .ret)
 (.seq
 (.ops [
oF 42 12 1,
oD 43 42 2,
oA 44 42 [.t 43, .k (.int .i64 0), .k (.int .i64 1000000000)] false,
oP 45 (.not (.t 44)),
oM 46 45,
oQ 47 46 false (.fieldAddr (.t 12) 3),
oQ 48 46 false (.load (.t 47) (some 2)),
oQ 49 46 false (.call (.k (.func (.func 42) ⟨[]⟩ ⟨[]⟩)) [.t 48, .k (.int .i64 0), .k (.int .i64 5000)] false),
oQ 50 46 false (.not (.t 49)),
oP 51 (.pick (.t 46) (.k (.bool true)) (.t 50)),
oM 41 51])
 (.cond (.t 41)
 (.seq
 (.ops [
oP 8 (.move (.k (.slice none 0 0))),
oP 9 (.move (oK 3))])
 .ret)
 .skip)))))))
 (.ops [
oC 52 .add 25 1,
oM 25 52]))))
def F27 : AFunc :=
 .fn 58 [.tmp 8, .tmp 9]
 (.seq
 (.ops [
oP 4 (.box (.t 0)),
oP 5 (.box (.t 1)),
oP 6 (.box (.t 2)),
oP 8 (.move (.k (.slice none 0 0))),
oP 9 (.move (oK 0))])
 (.seq
 (.seq
 (.ops [
oD 13 4 4,
oD 14 5 2,
oD 15 6 6,
oA 16 44 [.t 13, .t 14, .t 15] false,
oM 10 16])
 (.seq
 (.ops [
oM 17 10,
oC 18 .neq 17 0])
 (.cond (.t 18)
 (.seq
 (.ops [
oM 19 10,
oP 8 (.move (.k (.slice none 0 0))),
oM 9 19])
 .ret)
 .skip)))
 (.seq
 (.seq
 (.ops [
oM 20 3,
oP 21 (.len (.t 20)),
oC 22 .gtr 21 512])
 (.cond (.t 22)
 (.seq
 (.ops [
oP 8 (.move (.k (.slice none 0 0))),
oP 9 (.move (oK 9))])
 .ret)
 .skip))
 (.seq
 (.seq
 (.ops [
oM 23 3,
oP 24 (.len (.t 23)),
oP 25 (.move (oK 0))])
 (.block 0
 (.loop body27)))
 (.seq
 (.ops [
oD 53 4 4,
oD 54 5 2,
oD 55 6 6,
oM 56 3,
oA 57 45 [.t 53, .t 54, .t 55, .t 56] false,
oM 8 57,
oP 9 (.move (oK 0))])
 .ret)))))
def F29 : AFunc :=
 .fn 15 [.tmp 2]
 (.seq
 (.ops [
oP 2 (.move (.k (.int .u8 0)))])
 (.seq
 (.ops [
oL 3 0,
oC 4 .add 3 1,
oT 0 4 1])
 (.seq
 (.seq
 (.ops [
oL 5 1,
oP 6 (.len (.t 5)),
oC 7 .eql 6 0])
 (.cond (.t 7)
 (.seq
 (.ops [
oP 2 (.move (.k (.int .u8 0)))])
 .ret)
 .skip))
 (.seq
 (.ops [
oL 8 1,
oL 9 0,
oL 10 1,
oP 11 (.len (.t 10)),
oB 12 .rem 9 11,
oI 13 8 12 1,
oL 14 13,
oM 2 14])
 .ret))))
def body30 : ACode := (.seq
 (.ops [
oB 13 .lss 12 11])
 (.seq
 (.cond (.t 13)
 .skip
 (.exit 0))
 (.seq
 (.block 1
 (.seq
 (.ops [
oI 14 10 12 4,
oD 15 14 4,
oP 7 (.alloc [.int .u16 0, .int .u16 0, .int .u16 0, .int .u16 0]),
oT 7 15 4])
 (.seq
 (.ops [
oP 16 (.idxA (.t 7) (oK 1) 4 1),
oL 17 16,
oP 18 (.toInt .i64 (.t 17)),
oC 19 .mul 18 10,
oP 20 (.idxA (.t 7) (oK 2) 4 1),
oL 21 20,
oP 22 (.toInt .i64 (.t 21)),
oC 23 .rem 22 4000,
oM 8 19,
oM 9 23])
 (.ops [
oM 24 5,
oP 25 (.idxA (.t 7) (oK 0) 4 1),
oL 26 25,
oP 27 (.toInt .i64 (.t 26)),
oF 28 2 3,
oL 29 28,
oP 30 (.len (.t 29)),
oB 31 .rem 27 30,
oM 32 8,
oM 33 8,
oP 34 (.idxA (.t 7) (oK 3) 4 1),
oL 35 34,
oP 36 (.toInt .i64 (.t 35)),
oB 37 .add 33 36,
oA 38 25 [.t 32, .t 37] true,
oM 39 9,
oM 40 9,
oP 41 (.idxA (.t 7) (oK 3) 4 1),
oL 42 41,
oP 43 (.toInt .i64 (.t 42)),
oC 44 .rem 43 900,
oB 45 .add 40 44,
oA 46 25 [.t 39, .t 45] true,
oP 47 (.build [.int .i64 0, .int .i64 0, .int .i64 0, .int .i64 0, .int .i64 0] [(0, 1, .t 31), (1, 2, .t 38), (3, 2, .t 46)]),
oP 48 (.slit 1 5 [.int .i64 0, .int .i64 0, .int .i64 0, .int .i64 0, .int .i64 0] [(0, .t 47)]),
oP 49 (.append (.t 24) (.t 48) 5 40),
oM 5 49]))))
 (.ops [
oC 50 .add 12 1,
oM 12 50]))))
def F30 : AFunc :=
 .fn 52 [.tmp 4]
 (.seq
 (.ops [
oP 2 (.box (.t 0)),
oP 4 (.move (.k (.slice none 0 0)))])
 (.seq
 (.ops [
oP 5 (.move (.k (.slice none 0 0)))])
 (.seq
 (.seq
 (.ops [
oM 10 1,
oP 11 (.len (.t 10)),
oP 12 (.move (oK 0))])
 (.block 0
 (.loop body30)))
 (.seq
 (.ops [
oM 51 5,
oM 4 51])
 .ret))))
def F31 : AFunc :=
 .fn 38 [.cell 8 (some 2)]
 (.seq
 (.ops [
oP 4 (.box (.t 0)),
oP 8 (.alloc [.int .i64 0, .int .i64 0])])
 (.seq
 (.ops [
oF 10 4 0,
oL 11 10,
oM 12 1,
oP 13 (.toInt .i64 (.t 12)),
oF 14 4 1,
oL 15 14,
oF 16 4 0,
oL 17 16,
oB 18 .sub 15 17,
oC 19 .add 18 1,
oB 20 .rem 13 19,
oB 21 .add 11 20,
oM 9 21])
 (.seq
 (.seq
 (.ops [
oM 22 3])
 (.cond (.t 22)
 (.seq
 (.ops [
oM 23 9,
oM 24 9,
oA 25 25 [.t 23, .t 24] false,
oT 8 25 2])
 .ret)
 .skip))
 (.seq
 (.ops [
oM 26 9,
oM 27 9,
oM 28 2,
oP 29 (.toInt .i64 (.t 28)),
oF 30 4 1,
oL 31 30,
oM 32 9,
oB 33 .sub 31 32,
oC 34 .add 33 1,
oB 35 .rem 29 34,
oB 36 .add 27 35,
oA 37 25 [.t 26, .t 36] false,
oT 8 37 2])
 .ret))))
def F35 : AFunc :=
 .fn 7 [.cell 0 (some 4)]
 (.seq
 (.ops [
oP 0 (.alloc [.int .i64 0, .int .i64 0, .int .i64 0, .slice none 0 0])])
 (.seq
 (.ops [
oA 1 25 [.k (.int .i64 (-40000)), .k (.int .i64 (-40000))] false,
oA 2 25 [.k (.int .i64 (-40000)), .k (.int .i64 (-40000))] false,
oA 3 25 [.k (.int .i64 (-1000)), .k (.int .i64 (-1000))] false,
oA 4 25 [.k (.int .i64 300), .k (.int .i64 300)] false,
oP 5 (.slit 4 2 [.int .i64 0, .int .i64 0] [(0, .t 1), (1, .t 2), (2, .t 3), (3, .t 4)]),
oP 6 (.build [.int .i64 0, .int .i64 0, .int .i64 0, .slice none 0 0] [(0, 1, .k (.int .i64 4)), (1, 1, .k (.int .i64 1)), (2, 1, .k (.int .i64 1000)), (3, 1, .t 5)]),
oT 0 6 4])
 .ret))
def F36 : AFunc :=
 .fn 5 [.cell 0 (some 6)]
 (.seq
 (.ops [
oP 0 (.alloc [.int .i64 0, .int .i64 0, .int .i64 0, .int .i64 0, .int .i64 0, .int .i64 0])])
 (.seq
 (.ops [
oA 1 25 [.k (.int .i64 1024), .k (.int .i64 1024)] false,
oA 2 25 [.k (.int .i64 100), .k (.int .i64 100)] false,
oA 3 25 [.k (.int .i64 10), .k (.int .i64 10)] false,
oP 4 (.build [.int .i64 0, .int .i64 0, .int .i64 0, .int .i64 0, .int .i64 0, .int .i64 0] [(0, 2, .t 1), (2, 2, .t 2), (4, 2, .t 3)]),
oT 0 4 6])
 .ret))
def F37 : AFunc :=
 .fn 34 [.tmp 2]
 (.seq
 (.ops [
oP 1 (.box (.t 0)),
oP 2 (.move (oK 0))])
 (.seq
 (.block 0
 (.seq
 (.ops [
oF 4 1 0,
oL 5 4,
oA 6 55 [.t 5, .k (.int .i64 1), .k (.int .i64 24)] false,
oP 7 (.not (.t 6)),
oM 8 7,
oQ 9 8 false (.fieldAddr (.t 1) 1),
oQ 10 8 false (.load (.t 9) none),
oQ 11 8 false (.call (.k (.func (.func 55) ⟨[]⟩ ⟨[]⟩)) [.t 10, .k (.int .i64 1), .k (.int .i64 24)] false),
oQ 12 8 false (.not (.t 11)),
oP 13 (.pick (.t 8) (.k (.bool true)) (.t 12)),
oM 14 13,
oQ 15 14 false (.fieldAddr (.t 1) 2),
oQ 16 14 false (.load (.t 15) none),
oQ 17 14 false (.call (.k (.func (.func 55) ⟨[]⟩ ⟨[]⟩)) [.t 16, .k (.int .i64 1), .k (.int .i64 10000)] false),
oQ 18 14 false (.not (.t 17)),
oP 19 (.pick (.t 14) (.k (.bool true)) (.t 18)),
oM 3 19])
 (.cond (.t 3)
 (.seq
 (.ops [
oP 2 (.move (oK 3))])
 .ret)
 (.seq
 (.ops [
oF 21 1 3,
oL 22 21,
oP 23 (.len (.t 22)),
oF 24 1 0,
oL 25 24,
oF 26 1 1,
oL 27 26,
oB 28 .mul 25 27,
oB 29 .neq 23 28,
oM 20 29])
 (.cond (.t 20)
 (.seq
 (.ops [
oP 2 (.move (oK 11))])
 .ret)
 (.seq
 (.ops [
oF 31 1 3,
oL 32 31,
oP 33 (.call (.k (.func (.func 56) ⟨[]⟩ ⟨[]⟩)) [.t 32, .k (.func (.func 57) ⟨[]⟩ ⟨[]⟩)] false),
oM 30 33])
 (.cond (.t 30)
 (.seq
 (.ops [
oP 2 (.move (oK 3))])
 .ret)
 .skip)))))))
 (.seq
 (.ops [
oP 2 (.move (oK 0))])
 .ret)))
def F38 : AFunc :=
 .fn 41 [.tmp 4]
 (.seq
 (.ops [
oP 2 (.box (.t 0)),
oP 3 (.box (.t 1)),
oP 4 (.move (oK 0))])
 (.seq
 (.block 0
 (.seq
 (.ops [
oF 6 3 0,
oL 7 6,
oC 8 .lss 7 1,
oM 9 8,
oQ 10 9 false (.fieldAddr (.t 3) 0),
oQ 11 9 false (.load (.t 10) none),
oQ 12 9 false (.bin .gtr (.t 11) (oK 3)),
oP 13 (.pick (.t 9) (.k (.bool true)) (.t 12)),
oM 5 13])
 (.cond (.t 5)
 (.seq
 (.ops [
oP 4 (.move (oK 2))])
 .ret)
 (.seq
 (.ops [
oF 15 3 1,
oL 16 15,
oC 17 .lss 16 0,
oM 18 17,
oQ 19 18 false (.fieldAddr (.t 3) 1),
oQ 20 18 false (.load (.t 19) none),
oQ 21 18 false (.fieldAddr (.t 2) 3),
oQ 22 18 false (.load (.t 21) none),
oQ 23 18 false (.len (.t 22)),
oQ 24 18 false (.bin .geq (.t 20) (.t 23)),
oP 25 (.pick (.t 18) (.k (.bool true)) (.t 24)),
oM 14 25])
 (.cond (.t 14)
 (.seq
 (.ops [
oP 4 (.move (oK 4))])
 .ret)
 (.seq
 (.ops [
oF 27 3 2,
oL 28 27,
oC 29 .lss 28 1,
oM 30 29,
oQ 31 30 false (.fieldAddr (.t 3) 2),
oQ 32 30 false (.load (.t 31) none),
oQ 33 30 false (.bin .gtr (.t 32) (oK 10)),
oP 34 (.pick (.t 30) (.k (.bool true)) (.t 33)),
oM 35 34,
oQ 36 35 false (.fieldAddr (.t 3) 3),
oQ 37 35 false (.load (.t 36) (some 2)),
oQ 38 35 false (.call (.k (.func (.func 42) ⟨[]⟩ ⟨[]⟩)) [.t 37, .k (.int .i64 0), .k (.int .i64 1000000000)] false),
oQ 39 35 false (.not (.t 38)),
oP 40 (.pick (.t 35) (.k (.bool true)) (.t 39)),
oM 26 40])
 (.cond (.t 26)
 (.seq
 (.ops [
oP 4 (.move (oK 3))])
 .ret)
 .skip)))))))
 (.seq
 (.ops [
oP 4 (.move (oK 0))])
 .ret)))
def body39 : ACode := (.seq
  (.seq
  (.ops [
 oM 64 12,
 oF 65 2 0,
 oL 66 65,
 oC 67 .sub 66 1,
 oM 68 9,
 oM 69 6,
 oB 70 .add 68 69,
 oP 71 (.min [.t 67, .t 70]),
 oB 72 .leq 64 71])
  (.cond (.t 72)
  .skip
  (.exit 3)))
  (.seq
  (.block 4
  (.ops [
 oM 75 8,
 oM 76 11,
 oF 77 2 0,
 oL 78 77,
 oB 79 .mul 76 78,
 oM 80 12,
 oB 81 .add 79 80,
 oF 82 3 3,
 oD 83 82 2,
 oD 84 7 2,
 oP 85 (.build [.int .i64 0, .int .i64 0, .int .i64 0, .int .i64 0, .int .i64 0] [(0, 1, .t 81), (1, 2, .t 83), (3, 2, .t 84)]),
 oP 86 (.slit 1 5 [.int .i64 0, .int .i64 0, .int .i64 0, .int .i64 0, .int .i64 0] [(0, .t 85)]),
 oP 87 (.append (.t 75) (.t 86) 5 40),
 oM 8 87]))
  (.ops [
 oM 73 12,
 oC 74 .add 73 1,
 oM 12 74])))
def F39 : AFunc :=
 .fn 89 [.tmp 4]
 (.seq
 (.ops [
oP 2 (.box (.t 0)),
oP 3 (.box (.t 1)),
oP 4 (.move (.k (.slice none 0 0)))])
 (.seq
 (.ops [
oF 13 3 2,
oL 14 13,
oP 15 (.bin .shl (oK 1) (.t 14)),
oM 5 15,
oP 6 (.move (oK 0))])
 (.seq
 (.ops [
oM 16 5,
oC 17 .quo 16 2,
oM 18 5,
oP 19 (.build [.int .i64 0, .int .i64 0] [(0, 1, .t 17), (1, 1, .t 18)]),
oP 7 (.alloc [.int .i64 0, .int .i64 0]),
oT 7 19 2])
 (.seq
 (.seq
 (.ops [
oF 20 3 0,
oL 21 20])
 (.block 0
 (.seq
 (.ops [
oC 23 .eql 21 1,
oM 22 23])
 (.cond (.t 22)
 (.ops [
oF 24 3 2,
oL 25 24,
oC 26 .quo 25 4,
oM 6 26])
 (.seq
 (.ops [
oC 28 .eql 21 2,
oM 27 28])
 (.cond (.t 27)
 (.ops [
oM 29 5,
oM 30 5,
oP 31 (.bin .mul (oK 2) (.t 30)),
oP 32 (.build [.int .i64 0, .int .i64 0] [(0, 1, .t 29), (1, 1, .t 31)]),
oT 7 32 2])
 (.seq
 (.ops [
oC 34 .eql 21 3,
oM 33 34])
 (.cond (.t 33)
 (.ops [
oP 6 (.move (oK 1))])
 .skip))))))))
 (.seq
 (.ops [
oP 8 (.move (.k (.slice none 0 0)))])
 (.seq
 (.ops [
oF 35 3 1,
oL 36 35,
oF 37 2 0,
oL 38 37,
oB 39 .rem 36 38,
oF 40 3 1,
oL 41 40,
oF 42 2 0,
oL 43 42,
oB 44 .quo 41 43,
oM 9 39,
oM 10 44])
 (.seq
 (.seq
 (.ops [
oM 45 10,
oM 46 6,
oB 47 .sub 45 46,
oP 48 (.max [.k (.int .i64 0), .t 47]),
oM 11 48])
 (.block 1
 (.loop
 (.seq
 (.seq
 (.ops [
oM 49 11,
oF 50 2 1,
oL 51 50,
oC 52 .sub 51 1,
oM 53 10,
oM 54 6,
oB 55 .add 53 54,
oP 56 (.min [.t 52, .t 55]),
oB 57 .leq 49 56])
 (.cond (.t 57)
 .skip
 (.exit 1)))
 (.seq
 (.block 2
 (.seq
 (.ops [
oM 60 9,
oM 61 6,
oB 62 .sub 60 61,
oP 63 (.max [.k (.int .i64 0), .t 62]),
oM 12 63])
 (.block 3
 (.loop body39))))
 (.ops [
oM 58 11,
oC 59 .add 58 1,
oM 11 59]))))))
 (.seq
 (.ops [
oM 88 8,
oM 4 88])
 .ret))))))))
def body40 : ACode := (.seq
  (.seq
  (.ops [
 oM 30 3,
 oF 31 1 3,
 oL 32 31,
 oP 33 (.len (.t 32)),
 oB 34 .lss 30 33])
  (.cond (.t 34)
  .skip
  (.exit 0)))
  (.seq
  (.block 1
  (.seq
  (.ops [
 oF 37 1 3,
 oL 38 37,
 oM 39 3,
 oI 40 38 39 2,
 oD 41 40 2,
 oP 4 (.alloc [.int .i64 0, .int .i64 0]),
 oT 4 41 2])
  (.seq
  (.ops [
 oF 42 4 0,
 oL 43 42,
 oF 44 4 1,
 oL 45 44,
 oB 46 .gtr 43 45,
 oM 47 46,
 oQ 48 47 false (.fieldAddr (.t 4) 0),
 oQ 49 47 false (.load (.t 48) none),
 oQ 50 47 false (.bin .lss (.t 49) (oK (-1200000))),
 oP 51 (.pick (.t 47) (.k (.bool true)) (.t 50)),
 oM 52 51,
 oQ 53 52 false (.fieldAddr (.t 4) 1),
 oQ 54 52 false (.load (.t 53) none),
 oQ 55 52 false (.bin .gtr (.t 54) (oK 1200000)),
 oP 56 (.pick (.t 52) (.k (.bool true)) (.t 55))])
  (.cond (.t 56)
  (.seq
  (.ops [
 oP 2 (.move (oK 3))])
  .ret)
  .skip))))
  (.ops [
 oM 35 3,
 oC 36 .add 35 1,
 oM 3 36])))
def F40 : AFunc :=
 .fn 57 [.tmp 2]
 (.seq
 (.ops [
oP 1 (.box (.t 0)),
oP 2 (.move (oK 0))])
 (.seq
 (.seq
 (.ops [
oF 5 1 0,
oL 6 5,
oA 7 59 [.t 6, .k (.int .i64 1), .k (.int .i64 24)] false,
oP 8 (.not (.t 7)),
oM 9 8,
oQ 10 9 false (.fieldAddr (.t 1) 1),
oQ 11 9 false (.load (.t 10) none),
oQ 12 9 false (.call (.k (.func (.func 59) ⟨[]⟩ ⟨[]⟩)) [.t 11, .k (.int .i64 1), .k (.int .i64 24)] false),
oQ 13 9 false (.not (.t 12)),
oP 14 (.pick (.t 9) (.k (.bool true)) (.t 13)),
oM 15 14,
oQ 16 15 false (.fieldAddr (.t 1) 2),
oQ 17 15 false (.load (.t 16) none),
oQ 18 15 false (.call (.k (.func (.func 59) ⟨[]⟩ ⟨[]⟩)) [.t 17, .k (.int .i64 1), .k (.int .i64 10000)] false),
oQ 19 15 false (.not (.t 18)),
oP 20 (.pick (.t 15) (.k (.bool true)) (.t 19))])
 (.cond (.t 20)
 (.seq
 (.ops [
oP 2 (.move (oK 3))])
 .ret)
 .skip))
 (.seq
 (.seq
 (.ops [
oF 21 1 3,
oL 22 21,
oP 23 (.len (.t 22)),
oF 24 1 0,
oL 25 24,
oF 26 1 1,
oL 27 26,
oB 28 .mul 25 27,
oB 29 .neq 23 28])
 (.cond (.t 29)
 (.seq
 (.ops [
oP 2 (.move (oK 11))])
 .ret)
 .skip))
 (.seq
 (.seq
 (.ops [
oP 3 (.move (oK 0))])
 (.block 0
 (.loop body40)))
 (.seq
 (.ops [
oP 2 (.move (oK 0))])
 .ret)))))
def F41 : AFunc :=
 .fn 43 [.tmp 4]
 (.seq
 (.ops [
oP 2 (.box (.t 0)),
oP 3 (.box (.t 1)),
oP 4 (.move (oK 0))])
 (.seq
 (.seq
 (.ops [
oF 5 3 0,
oL 6 5,
oC 7 .neq 6 1,
oM 8 7,
oQ 9 8 true (.fieldAddr (.t 3) 0),
oQ 10 8 true (.load (.t 9) none),
oQ 11 8 true (.bin .neq (.t 10) (oK 2)),
oP 12 (.pick (.t 8) (.t 11) (.k (.bool false))),
oM 13 12,
oQ 14 13 true (.fieldAddr (.t 3) 0),
oQ 15 13 true (.load (.t 14) none),
oQ 16 13 true (.bin .neq (.t 15) (oK 3)),
oP 17 (.pick (.t 13) (.t 16) (.k (.bool false)))])
 (.cond (.t 17)
 (.seq
 (.ops [
oP 4 (.move (oK 2))])
 .ret)
 .skip))
 (.seq
 (.seq
 (.ops [
oF 18 3 1,
oL 19 18,
oC 20 .lss 19 0,
oM 21 20,
oQ 22 21 false (.fieldAddr (.t 3) 1),
oQ 23 21 false (.load (.t 22) none),
oQ 24 21 false (.fieldAddr (.t 2) 3),
oQ 25 21 false (.load (.t 24) none),
oQ 26 21 false (.len (.t 25)),
oQ 27 21 false (.bin .geq (.t 23) (.t 26)),
oP 28 (.pick (.t 21) (.k (.bool true)) (.t 27))])
 (.cond (.t 28)
 (.seq
 (.ops [
oP 4 (.move (oK 4))])
 .ret)
 .skip))
 (.seq
 (.seq
 (.ops [
oF 29 3 2,
oL 30 29,
oC 31 .lss 30 1,
oM 32 31,
oQ 33 32 false (.fieldAddr (.t 3) 2),
oQ 34 32 false (.load (.t 33) none),
oQ 35 32 false (.bin .gtr (.t 34) (oK 10)),
oP 36 (.pick (.t 32) (.k (.bool true)) (.t 35)),
oM 37 36,
oQ 38 37 false (.fieldAddr (.t 3) 3),
oQ 39 37 false (.load (.t 38) (some 2)),
oQ 40 37 false (.call (.k (.func (.func 43) ⟨[]⟩ ⟨[]⟩)) [.t 39, .k (.int .i64 0), .k (.int .i64 1000000000)] false),
oQ 41 37 false (.not (.t 40)),
oP 42 (.pick (.t 37) (.k (.bool true)) (.t 41))])
 (.cond (.t 42)
 (.seq
 (.ops [
oP 4 (.move (oK 3))])
 .ret)
 .skip))
 (.seq
 (.ops [
oP 4 (.move (oK 0))])
 .ret)))))
def F42 : AFunc :=
 .fn 24 [.tmp 6]
 (.seq
 (.ops [
oP 3 (.box (.t 0)),
oP 6 (.move (.k (.bool false)))])
 (.seq
 (.ops [
oF 7 3 0,
oL 8 7,
oF 9 3 1,
oL 10 9,
oB 11 .leq 8 10,
oM 12 11,
oQ 13 12 true (.fieldAddr (.t 3) 0),
oQ 14 12 true (.load (.t 13) none),
oN 15 12 true 1,
oQ 16 12 true (.bin .geq (.t 14) (.t 15)),
oP 17 (.pick (.t 12) (.t 16) (.k (.bool false))),
oM 18 17,
oQ 19 18 true (.fieldAddr (.t 3) 1),
oQ 20 18 true (.load (.t 19) none),
oN 21 18 true 2,
oQ 22 18 true (.bin .leq (.t 20) (.t 21)),
oP 23 (.pick (.t 18) (.t 22) (.k (.bool false))),
oM 6 23])
 .ret))
def F43 : AFunc :=
 .fn 24 [.tmp 6]
 (.seq
 (.ops [
oP 3 (.box (.t 0)),
oP 6 (.move (.k (.bool false)))])
 (.seq
 (.ops [
oF 7 3 0,
oL 8 7,
oF 9 3 1,
oL 10 9,
oB 11 .leq 8 10,
oM 12 11,
oQ 13 12 true (.fieldAddr (.t 3) 0),
oQ 14 12 true (.load (.t 13) none),
oN 15 12 true 1,
oQ 16 12 true (.bin .geq (.t 14) (.t 15)),
oP 17 (.pick (.t 12) (.t 16) (.k (.bool false))),
oM 18 17,
oQ 19 18 true (.fieldAddr (.t 3) 1),
oQ 20 18 true (.load (.t 19) none),
oN 21 18 true 2,
oQ 22 18 true (.bin .leq (.t 20) (.t 21)),
oP 23 (.pick (.t 18) (.t 22) (.k (.bool false))),
oM 6 23])
 .ret))
def F44 : AFunc :=
 .fn 18 [.tmp 6]
 (.seq
 (.ops [
oP 3 (.box (.t 0)),
oP 4 (.box (.t 1)),
oP 5 (.box (.t 2)),
oP 6 (.move (oK 0))])
 (.seq
 (.seq
 (.ops [
oD 8 3 4,
oA 9 37 [.t 8] false,
oM 7 9])
 (.seq
 (.ops [
oM 10 7,
oC 11 .neq 10 0])
 (.cond (.t 11)
 (.seq
 (.ops [
oM 12 7,
oM 6 12])
 .ret)
 .skip)))
 (.seq
 (.seq
 (.ops [
oD 13 4 2,
oA 14 42 [.t 13, .k (.int .i64 (-20000)), .k (.int .i64 20000)] false,
oP 15 (.not (.t 14))])
 (.cond (.t 15)
 (.seq
 (.ops [
oP 6 (.move (oK 3))])
 .ret)
 .skip))
 (.seq
 (.ops [
oD 16 5 6,
oA 17 13 [.t 16] false,
oM 6 17])
 .ret))))
def F45 : AFunc :=
 .fn 246 [.tmp 8]
 (.seq
 (.ops [
oP 4 (.box (.t 0)),
oP 5 (.box (.t 1)),
oP 6 (.box (.t 2)),
oP 8 (.move (.k (.slice none 0 0)))])
 (.seq
 (.ops [
oA 18 61 [] true,
oD 19 4 4,
oD 20 5 2,
oD 21 6 6,
oM 22 3,
oA 23 60 [.t 18, .t 19, .t 20, .t 21, .t 22] true,
oA 24 62 [] true,
oD 25 4 4,
oD 26 5 2,
oD 27 6 6,
oM 28 3,
oA 29 60 [.t 24, .t 25, .t 26, .t 27, .t 28] false,
oM 9 23,
oM 10 29])
 (.seq
 (.ops [
oF 30 4 3,
oL 31 30,
oP 32 (.len (.t 31)),
oP 33 (.makeS (.t 32) (.t 32) 8 64 [.int .i64 0, .int .i64 0, .int .i64 0, .int .i64 0, .int .i64 0, .int .i64 0, .int .i64 0, .int .i64 0]),
oM 11 33])
 (.seq
 (.seq
 (.ops [
oF 34 4 3,
oL 35 34,
oP 36 (.len (.t 35)),
oP 37 (.move (oK 0))])
 (.block 0
 (.loop
 (.seq
 (.ops [
oB 38 .lss 37 36])
 (.seq
 (.cond (.t 38)
 .skip
 (.exit 0))
 (.seq
 (.block 1
 (.seq
 (.ops [
oM 39 37,
oI 40 35 37 2,
oD 41 40 2,
oP 13 (.alloc [.int .i64 0, .int .i64 0]),
oM 12 39,
oT 13 41 2])
 (.seq
 (.ops [
oM 42 11,
oM 43 12,
oI 44 42 43 8,
oM 14 44])
 (.seq
 (.ops [
oM 45 14,
oM 46 10,
oP 47 (.nilCheck (.t 46)),
oF 48 47 16,
oL 49 48,
oM 50 12,
oI 51 49 50 1,
oL 52 51,
oM 53 9,
oP 54 (.nilCheck (.t 53)),
oF 55 54 16,
oL 56 55,
oM 57 12,
oI 58 56 57 1,
oL 59 58,
oP 60 (.build [.int .i64 0, .int .i64 0] [(0, 1, .t 52), (1, 1, .t 59)]),
oP 61 (.nilCheck (.t 45)),
oF 62 61 0,
oT 62 60 2])
 (.seq
 (.ops [
oM 63 14,
oM 64 14,
oF 65 13 0,
oL 66 65,
oF 67 13 1,
oL 68 67,
oP 69 (.nilCheck (.t 63)),
oF 70 69 4,
oF 71 70 0,
⟨none, none, [(.t 71, 1, .t 67, 1)], .store (.t 71) (.t 66) 1⟩,
oP 72 (.nilCheck (.t 64)),
oF 73 72 4,
oF 74 73 1,
oT 74 68 1])
 (.seq
 (.block 2
 (.seq
 (.ops [
oM 76 9,
oM 77 12,
oA 78 63 [.t 76, .t 77] false,
oM 75 78])
 (.cond (.t 75)
 (.seq
 (.ops [
oM 79 9,
oM 80 12,
oA 81 64 [.t 79, .t 80] false,
oM 15 81])
 (.seq
 (.ops [
oM 82 14,
oM 83 14,
oM 84 15,
oF 85 5 0,
oL 86 85,
oM 87 15,
oB 88 .add 86 87,
oP 89 (.nilCheck (.t 82)),
oF 90 89 2,
oF 91 90 0,
⟨none, none, [(.t 91, 1, .t 85, 1)], .store (.t 91) (.t 84) 1⟩,
oP 92 (.nilCheck (.t 83)),
oF 93 92 4,
oF 94 93 0,
oT 94 88 1])
 (.seq
 (.ops [
oM 95 14,
oM 96 15,
oM 97 15,
oB 98 .mul 96 97,
oC 99 .mul 98 981,
oM 100 9,
oM 101 12,
oA 102 66 [.t 100, .t 101] false,
oB 103 .quo 99 102,
oA 104 65 [.t 103] false,
oP 105 (.nilCheck (.t 95)),
oF 106 105 6,
oF 107 106 0,
oT 107 104 1])
 (.ops [
oM 108 14,
oP 109 (.nilCheck (.t 108)),
oF 110 109 4,
oF 111 110 1,
⟨none, none, [], .store (.t 111) (.k (.int .i64 (-1200000))) 1⟩]))))
 (.seq
 (.ops [
oM 113 9,
oP 114 (.nilCheck (.t 113)),
oF 115 114 18,
oL 116 115,
oM 117 12,
oI 118 116 117 1,
oL 119 118,
oC 120 .neq 119 (-1099511627776),
oM 112 120])
 (.cond (.t 112)
 (.seq
 (.ops [
oM 121 14,
oM 122 9,
oP 123 (.nilCheck (.t 122)),
oF 124 123 18,
oL 125 124,
oM 126 12,
oI 127 125 126 1,
oL 128 127,
oP 129 (.nilCheck (.t 121)),
oF 130 129 4,
oF 131 130 0,
oT 131 128 1])
 (.seq
 (.ops [
oM 132 14,
oM 133 14,
oP 134 (.nilCheck (.t 133)),
oF 135 134 4,
oF 136 135 0,
oL 137 136,
oF 138 13 1,
oL 139 138,
oB 140 .sub 137 139,
oP 141 (.nilCheck (.t 132)),
oF 142 141 2,
oF 143 142 0,
oT 143 140 1])
 (.ops [
oM 144 14,
oM 145 14,
oP 146 (.nilCheck (.t 145)),
oF 147 146 2,
oF 148 147 0,
oL 149 148,
oP 150 (.bin .mul (oK 981) (.t 149)),
oA 151 65 [.t 150] false,
oP 152 (.nilCheck (.t 144)),
oF 153 152 6,
oF 154 153 0,
oT 154 151 1])))
 .skip)))))
 (.seq
 (.seq
 (.ops [
oM 155 10,
oM 156 12,
oA 157 63 [.t 155, .t 156] false])
 (.cond (.t 157)
 (.seq
 (.ops [
oM 158 10,
oM 159 12,
oA 160 64 [.t 158, .t 159] false,
oM 16 160])
 (.seq
 (.ops [
oM 161 14,
oM 162 14,
oM 163 16,
oM 164 14,
oP 165 (.nilCheck (.t 164)),
oF 166 165 4,
oF 167 166 1,
oL 168 167,
oF 169 5 1,
oL 170 169,
oM 171 16,
oB 172 .add 170 171,
oP 173 (.max [.t 168, .t 172]),
oP 174 (.nilCheck (.t 161)),
oF 175 174 2,
oF 176 175 1,
⟨none, none, [(.t 176, 1, .t 169, 1)], .store (.t 176) (.t 163) 1⟩,
oP 177 (.nilCheck (.t 162)),
oF 178 177 4,
oF 179 178 1,
oT 179 173 1])
 (.ops [
oM 180 14,
oM 181 16,
oM 182 16,
oB 183 .mul 181 182,
oC 184 .mul 183 981,
oM 185 10,
oM 186 12,
oA 187 66 [.t 185, .t 186] false,
oP 188 (.max [.k (.int .i64 1), .t 187]),
oA 189 68 [.t 184, .t 188] false,
oA 190 67 [.t 189] false,
oP 191 (.nilCheck (.t 180)),
oF 192 191 6,
oF 193 192 1,
oT 193 190 1])))
 .skip))
 (.seq
 (.ops [
oM 194 10,
oP 195 (.nilCheck (.t 194)),
oF 196 195 19,
oL 197 196,
oM 198 12,
oI 199 197 198 1,
oL 200 199,
oM 17 200])
 (.seq
 (.ops [
oM 201 17,
oC 202 .neq 201 (-1099511627776)])
 (.cond (.t 202)
 (.seq
 (.ops [
oM 203 14,
oM 204 14,
oM 205 14,
oP 206 (.nilCheck (.t 205)),
oF 207 206 2,
oF 208 207 1,
oL 209 208,
oM 210 17,
oF 211 13 0,
oL 212 211,
oB 213 .sub 210 212,
oP 214 (.max [.t 209, .t 213]),
oM 215 14,
oP 216 (.nilCheck (.t 215)),
oF 217 216 4,
oF 218 217 1,
oL 219 218,
oM 220 17,
oP 221 (.max [.t 219, .t 220]),
oP 222 (.nilCheck (.t 203)),
oF 223 222 2,
oF 224 223 1,
oT 224 214 1,
oP 225 (.nilCheck (.t 204)),
oF 226 225 4,
oF 227 226 1,
oT 227 221 1])
 (.ops [
oM 228 14,
oM 229 14,
oP 230 (.nilCheck (.t 229)),
oF 231 230 6,
oF 232 231 1,
oL 233 232,
oM 234 17,
oF 235 13 0,
oL 236 235,
oB 237 .sub 234 236,
oP 238 (.bin .mul (oK 981) (.t 237)),
oA 239 67 [.t 238] true,
oP 240 (.max [.t 233, .t 239]),
oP 241 (.nilCheck (.t 228)),
oF 242 241 6,
oF 243 242 1,
oT 243 240 1]))
 .skip))))))))))
 (.ops [
oC 244 .add 37 1,
oM 37 244])))))))
 (.seq
 (.ops [
oM 245 11,
oM 8 245])
 .ret)))))
def F47 : AFunc :=
 .fn 16 [.cell 4 (some 2)]
 (.seq
 (.ops [
oP 2 (.box (.t 0)),
oP 3 (.box (.t 1)),
oP 4 (.alloc [.int .i64 0, .int .i64 0])])
 (.seq
 (.ops [
oF 5 2 0,
oL 6 5,
oF 7 3 0,
oL 8 7,
oP 9 (.min [.t 6, .t 8]),
oF 10 2 1,
oL 11 10,
oF 12 3 1,
oL 13 12,
oP 14 (.max [.t 11, .t 13]),
oP 15 (.build [.int .i64 0, .int .i64 0] [(0, 1, .t 9), (1, 1, .t 14)]),
oT 4 15 2])
 .ret))
def F49 : AFunc :=
 .fn 26 [.cell 8 (some 2)]
 (.seq
 (.ops [
oP 8 (.alloc [.int .i64 0, .int .i64 0])])
 (.seq
 (.ops [
oM 9 2,
oM 10 0,
oM 11 3,
oB 12 .rem 10 11,
oB 13 .add 9 12,
oM 14 2,
oM 15 1,
oM 16 3,
oB 17 .rem 15 16,
oB 18 .add 14 17,
oM 0 13,
oM 1 18])
 (.seq
 (.ops [
oM 19 0,
oM 20 1,
oP 21 (.min [.t 19, .t 20]),
oM 22 0,
oM 23 1,
oP 24 (.max [.t 22, .t 23]),
oA 25 25 [.t 21, .t 24] false,
oT 8 25 2])
 .ret)))
def F50 : AFunc :=
 .fn 24 [.tmp 4]
 (.seq
 (.ops [
oP 2 (.box (.t 0)),
oP 3 (.box (.t 1)),
oP 4 (.move (.k (.bool false)))])
 (.seq
 (.ops [
oF 5 2 0,
oL 6 5,
oF 7 3 0,
oL 8 7,
oB 9 .geq 6 8,
oM 10 9,
oQ 11 10 true (.fieldAddr (.t 2) 1),
oQ 12 10 true (.load (.t 11) none),
oQ 13 10 true (.fieldAddr (.t 3) 1),
oQ 14 10 true (.load (.t 13) none),
oQ 15 10 true (.bin .leq (.t 12) (.t 14)),
oP 16 (.pick (.t 10) (.t 15) (.k (.bool false))),
oM 17 16,
oQ 18 17 true (.fieldAddr (.t 2) 0),
oQ 19 17 true (.load (.t 18) none),
oQ 20 17 true (.fieldAddr (.t 2) 1),
oQ 21 17 true (.load (.t 20) none),
oQ 22 17 true (.bin .leq (.t 19) (.t 21)),
oP 23 (.pick (.t 17) (.t 22) (.k (.bool false))),
oM 4 23])
 .ret))
def F55 : AFunc :=
 .fn 15 [.tmp 6]
 (.seq
 (.ops [
oP 6 (.move (.k (.bool false)))])
 (.seq
 (.ops [
oM 7 0,
oM 8 1,
oB 9 .geq 7 8,
oM 10 9,
oN 11 10 true 0,
oN 12 10 true 2,
oQ 13 10 true (.bin .leq (.t 11) (.t 12)),
oP 14 (.pick (.t 10) (.t 13) (.k (.bool false))),
oM 6 14])
 .ret))
def F56 : AFunc :=
 .fn 9 [.tmp 4]
 (.seq
 (.ops [
oP 4 (.move (.k (.bool false)))])
 (.seq
 (.ops [
oM 5 0,
oM 6 1,
oA 7 82 [.t 5, .t 6] false,
oC 8 .geq 7 0,
oM 4 8])
 .ret))
def F57 : AFunc :=
 .fn 6 [.tmp 2]
 (.seq
 (.ops [
oP 1 (.box (.t 0)),
oP 2 (.move (.k (.bool false)))])
 (.seq
 (.ops [
oD 3 1 2,
oA 4 58 [.t 3, .k (.int .i64 1200000)] false,
oP 5 (.not (.t 4)),
oM 2 5])
 .ret))
def F58 : AFunc :=
 .fn 23 [.tmp 4]
 (.seq
 (.ops [
oP 2 (.box (.t 0)),
oP 4 (.move (.k (.bool false)))])
 (.seq
 (.ops [
oF 5 2 0,
oL 6 5,
oF 7 2 1,
oL 8 7,
oB 9 .leq 6 8,
oM 10 9,
oQ 11 10 true (.fieldAddr (.t 2) 0),
oQ 12 10 true (.load (.t 11) none),
oN 13 10 true 1,
oQ 14 10 true (.neg (.t 13)),
oQ 15 10 true (.bin .geq (.t 12) (.t 14)),
oP 16 (.pick (.t 10) (.t 15) (.k (.bool false))),
oM 17 16,
oQ 18 17 true (.fieldAddr (.t 2) 1),
oQ 19 17 true (.load (.t 18) none),
oN 20 17 true 1,
oQ 21 17 true (.bin .leq (.t 19) (.t 20)),
oP 22 (.pick (.t 17) (.t 21) (.k (.bool false))),
oM 4 22])
 .ret))
def F59 : AFunc :=
 .fn 15 [.tmp 6]
 (.seq
 (.ops [
oP 6 (.move (.k (.bool false)))])
 (.seq
 (.ops [
oM 7 0,
oM 8 1,
oB 9 .geq 7 8,
oM 10 9,
oN 11 10 true 0,
oN 12 10 true 2,
oQ 13 10 true (.bin .leq (.t 11) (.t 12)),
oP 14 (.pick (.t 10) (.t 13) (.k (.bool false))),
oM 6 14])
 .ret))
end Go.Ab.Wave
