/- The functions of dike's layer in abstract form: made by a program of ours. -/
import Derived.Test.YtlihoghjchbjlaaGreatZ00
set_option linter.unusedSimpArgs false
set_option linter.unusedVariables false
set_option linter.unusedSectionVars false
set_option maxRecDepth 100000
namespace Go.Ab.Dike
open Go.Ab
def body135i : ACode := (.seq
 (.ops [
oB 32 .lss 31 30])
 (.seq
 (.cond (.t 32)
 .skip
 (.exit 3))
 (.seq
 (.block 4
 (.seq
 (.ops [
oM 33 31,
oI 34 29 31 1,
oL 35 34,
oM 5 33,
oM 6 35])
 (.block 5
 (.seq
 (.ops [
oM 37 6,
oC 38 .lss 37 0,
oM 39 38,
oN 40 39 false 6,
oN 41 39 false 3,
oQ 42 39 false (.bin .geq (.t 40) (.t 41)),
oP 43 (.pick (.t 39) (.k (.bool true)) (.t 42)),
oM 36 43])
 (.cond (.t 36)
 (.seq
 (.ops [
oP 2 (.move (oK 4))])
 .ret)
 (.seq
 (.ops [
oF 45 4 1,
oL 46 45,
oM 47 5,
oP 48 (.reslice (.t 46) none (some (.t 47)) 1),
oM 49 6,
oA 50 169 [.t 48, .t 49] false,
oM 44 50])
 (.cond (.t 44)
 (.seq
 (.ops [
oP 2 (.move (oK 2))])
 .ret)
 .skip)))))))
 (.ops [
oC 51 .add 31 1,
oM 31 51]))))
def F135 : AFunc :=
 .fn 67 [.tmp 2]
 (.seq
 (.ops [
oP 2 (.move (oK 0))])
 (.seq
 (.seq
 (.ops [
oM 7 0,
oP 8 (.len (.t 7)),
oC 9 .gtr 8 32])
 (.cond (.t 9)
 (.seq
 (.ops [
oP 2 (.move (oK 9))])
 .ret)
 .skip))
 (.seq
 (.seq
 (.ops [
oM 10 0,
oP 11 (.len (.t 10)),
oP 12 (.move (oK 0))])
 (.block 0
 (.loop
 (.seq
 (.ops [
oB 13 .lss 12 11])
 (.seq
 (.cond (.t 13)
 .skip
 (.exit 0))
 (.seq
 (.block 1
 (.seq
 (.ops [
oM 14 12,
oI 15 10 12 7,
oD 16 15 7,
⟨some 4, none, [], .alloc [.string ⟨⟨[]⟩⟩, .slice none 0 0, .int .i64 0, .int .i64 0, .bool false, .bool false, .int .i64 0]⟩,
oM 3 14,
oT 4 16 7])
 (.seq
 (.block 2
 (.seq
 (.ops [
oF 18 4 0,
oL 19 18,
oA 20 166 [.t 19] false,
oP 21 (.not (.t 20)),
oM 17 21])
 (.cond (.t 17)
 (.seq
 (.ops [
oP 2 (.move (oK 10))])
 .ret)
 (.seq
 (.ops [
oM 23 0,
oM 24 3,
oP 25 (.reslice (.t 23) none (some (.t 24)) 7),
oP 26 (.makeFunc 168 [] [.t 4]),
oA 27 167 [.t 25, .t 26] false,
oM 22 27])
 (.cond (.t 22)
 (.seq
 (.ops [
oP 2 (.move (oK 5))])
 .ret)
 .skip)))))
 (.seq
 (.seq
 (.ops [
oF 28 4 1,
oL 29 28,
oP 30 (.len (.t 29)),
oP 31 (.move (oK 0))])
 (.block 3
 (.loop body135i)))
 (.seq
 (.ops [
oF 52 4 2,
oD 53 52 2,
oA 54 160 [.t 53, .k (.int .i64 0), .k (.int .i64 100000000)] false,
oP 55 (.not (.t 54)),
oM 56 55,
oQ 57 56 false (.fieldAddr (.t 4) 6),
oQ 58 56 false (.load (.t 57) none),
oQ 59 56 false (.bin .lss (.t 58) (oK 0)),
oP 60 (.pick (.t 56) (.k (.bool true)) (.t 59)),
oM 61 60,
oQ 62 61 false (.fieldAddr (.t 4) 6),
oQ 63 61 false (.load (.t 62) none),
oQ 64 61 false (.bin .gtr (.t 63) (oK 100)),
oP 65 (.pick (.t 61) (.k (.bool true)) (.t 64))])
 (.cond (.t 65)
 (.seq
 (.ops [
oP 2 (.move (oK 3))])
 .ret)
 .skip))))))
 (.ops [
oC 66 .add 12 1,
oM 12 66])))))))
 (.seq
 (.ops [
oP 2 (.move (oK 0))])
 .ret))))
def body137 : ACode := (.seq
 (.ops [
oB 67 .lss 66 65])
 (.seq
 (.cond (.t 67)
 .skip
 (.exit 0))
 (.seq
 (.block 1
 (.seq
 (.ops [
oM 68 66,
oI 69 64 66 1,
oL 70 69,
oM 8 68,
oM 9 70])
 (.seq
 (.ops [
oM 71 9,
oP 72 (.toInt .i64 (.t 71)),
oC 73 .rem 72 3000,
oM 10 73])
 (.seq
 (.ops [
oM 74 10,
oM 11 74])
 (.seq
 (.seq
 (.ops [
oF 75 2 8,
oL 76 75,
oP 77 (.len (.t 76)),
oC 78 .gtr 77 0])
 (.cond (.t 78)
 (.ops [
oM 79 11,
oF 80 2 8,
oL 81 80,
oM 82 8,
oF 83 2 8,
oL 84 83,
oP 85 (.len (.t 84)),
oB 86 .rem 82 85,
oI 87 81 86 1,
oL 88 87,
oP 89 (.toInt .i64 (.t 88)),
oB 90 .add 79 89,
oM 11 90])
 .skip))
 (.ops [
oM 91 7,
oM 92 10,
oM 93 11,
oA 94 141 [.t 92, .t 93] false,
oP 95 (.slit 1 2 [.int .i64 0, .int .i64 0] [(0, .t 94)]),
oP 96 (.append (.t 91) (.t 95) 2 16),
oM 7 96]))))))
 (.ops [
oC 97 .add 66 1,
oM 66 97]))))
def F137 : AFunc :=
 .fn 100 [.cell 4 (some 8), .tmp 5]
 (.seq
 (.ops [
oP 2 (.box (.t 0)),
oP 4 (.alloc [.int .i64 0, .int .i64 0, .int .i64 0, .int .i64 0, .int .i64 0, .int .i64 0, .int .i64 0, .int .i64 0]),
oP 5 (.move (.k (.slice none 0 0)))])
 (.seq
 (.ops [
oM 12 1,
oF 13 2 2,
oL 14 13,
oP 15 (.toInt .i64 (.t 14)),
oC 16 .rem 15 2000,
oF 17 2 6,
oL 18 17,
oP 19 (.toInt .i64 (.t 18)),
oC 20 .rem 19 30,
oF 21 2 6,
oL 22 21,
oP 23 (.toInt .i64 (.t 22)),
oC 24 .rem 23 30,
oF 25 2 3,
oP 26 (.idxA (.t 25) (oK 2) 3 1),
oL 27 26,
oP 28 (.toInt .i64 (.t 27)),
oC 29 .rem 28 30,
oB 30 .add 24 29,
oA 31 141 [.t 20, .t 30] true,
oP 32 (.build [.int .i64 0, .int .i64 0, .int .i64 0, .int .i64 0, .int .i64 0, .int .i64 0, .int .i64 0, .int .i64 0] [(0, 1, .t 12), (5, 1, .t 16), (6, 2, .t 31)]),
oP 6 (.alloc [.int .i64 0, .int .i64 0, .int .i64 0, .int .i64 0, .int .i64 0, .int .i64 0, .int .i64 0, .int .i64 0]),
oT 6 32 8])
 (.seq
 (.ops [
oF 33 2 0,
oL 34 33,
oP 35 (.toInt .i64 (.t 34)),
oC 36 .rem 35 2000,
oF 37 2 0,
oL 38 37,
oP 39 (.toInt .i64 (.t 38)),
oC 40 .rem 39 2000,
oF 41 2 3,
oP 42 (.idxA (.t 41) (oK 0) 3 1),
oL 43 42,
oP 44 (.toInt .i64 (.t 43)),
oB 45 .add 40 44,
oA 46 141 [.t 36, .t 45] false,
oF 47 6 1,
oT 47 46 2])
 (.seq
 (.ops [
oF 48 2 1,
oL 49 48,
oP 50 (.toInt .i64 (.t 49)),
oC 51 .rem 50 2000,
oF 52 2 1,
oL 53 52,
oP 54 (.toInt .i64 (.t 53)),
oC 55 .rem 54 2000,
oF 56 2 3,
oP 57 (.idxA (.t 56) (oK 1) 3 1),
oL 58 57,
oP 59 (.toInt .i64 (.t 58)),
oB 60 .add 55 59,
oA 61 141 [.t 51, .t 60] false,
oF 62 6 3,
oT 62 61 2])
 (.seq
 (.ops [
oP 7 (.move (.k (.slice none 0 0)))])
 (.seq
 (.seq
 (.ops [
oF 63 2 7,
oL 64 63,
oP 65 (.len (.t 64)),
oP 66 (.move (oK 0))])
 (.block 0
 (.loop body137)))
 (.seq
 (.ops [
oD 98 6 8,
oM 99 7,
oT 4 98 8,
oM 5 99])
 .ret)))))))
def F138 : AFunc :=
 .fn 5 [.tmp 2]
 (.seq
 (.ops [
oP 1 (.box (.t 0)),
oP 2 (.move (.k (.nilFunc)))])
 (.seq
 (.ops [
oP 3 (.alloc [.int .i64 0]),
⟨none, none, [], .store (.t 3) (.k (.int .i64 0)) 1⟩])
 (.seq
 (.ops [
oP 4 (.makeFunc 172 [] [.t 3, .t 1]),
oM 2 4])
 .ret)))
def body139 : ACode := (.seq
 (.ops [
oB 33 .lss 32 31])
 (.seq
 (.cond (.t 33)
 .skip
 (.exit 0))
 (.seq
 (.block 1
 (.seq
 (.ops [
oM 34 32,
oI 35 30 32 2,
oD 36 35 2,
oP 15 (.alloc [.int .i64 0, .int .i64 0]),
oM 14 34,
oT 15 36 2])
 (.seq
 (.ops [
oM 37 2,
oD 38 15 2,
oP 39 (.call (.t 37) [.t 38] false),
oM 16 39])
 (.seq
 (.seq
 (.ops [
oM 40 11,
oC 41 .lss 40 0,
oM 42 41,
oN 43 42 true 16,
oN 44 42 true 9,
oQ 45 42 true (.bin .gtr (.t 43) (.t 44)),
oN 46 42 true 45,
oN 47 46 false 16,
oN 48 46 false 10,
oQ 49 46 false (.bin .gtr (.t 47) (.t 48)),
oQ 50 42 true (.pick (.t 46) (.k (.bool true)) (.t 49)),
oP 51 (.pick (.t 42) (.t 50) (.k (.bool false)))])
 (.cond (.t 51)
 (.ops [
oM 52 14,
oM 11 52])
 .skip))
 (.seq
 (.seq
 (.ops [
oM 53 16,
oF 54 3 5,
oL 55 54,
oB 56 .gtr 53 55])
 (.cond (.t 56)
 (.seq
 (.ops [
oM 57 2,
oF 58 3 6,
oD 59 58 2,
oP 60 (.call (.t 57) [.t 59] false),
oM 17 60])
 (.ops [
oM 61 9,
oM 62 17,
oB 63 .sub 61 62,
oM 64 10,
oM 65 17,
oB 66 .sub 64 65,
oM 9 63,
oM 10 66]))
 .skip))
 (.ops [
oM 67 12,
oM 68 9,
oP 69 (.slit 1 1 [.int .i64 0] [(0, .t 68)]),
oP 70 (.append (.t 67) (.t 69) 1 8),
oM 71 13,
oM 72 10,
oP 73 (.slit 1 1 [.int .i64 0] [(0, .t 72)]),
oP 74 (.append (.t 71) (.t 73) 1 8),
oM 12 70,
oM 13 74]))))))
 (.ops [
oC 75 .add 32 1,
oM 32 75]))))
def F139 : AFunc :=
 .fn 79 [.tmp 6, .tmp 7, .tmp 8]
 (.seq
 (.ops [
oP 3 (.box (.t 0)),
oP 6 (.move (.k (.slice none 0 0))),
oP 7 (.move (.k (.slice none 0 0))),
oP 8 (.move (oK 0))])
 (.seq
 (.ops [
oM 18 2,
oF 19 3 1,
oD 20 19 2,
oP 21 (.callC (.t 18) (.t 18) [.t 20]),
oM 22 2,
oF 23 3 3,
⟨some 24, none, [(.t 18, 0, .t 23, 2)], .load (.t 23) (some 2)⟩,
oP 25 (.call (.t 22) [.t 24] false),
oM 9 21,
oM 10 25])
 (.seq
 (.ops [
oP 11 (.move (oK (-1)))])
 (.seq
 (.ops [
oM 26 9,
oP 27 (.slit 1 1 [.int .i64 0] [(0, .t 26)]),
oM 28 10,
oP 29 (.slit 1 1 [.int .i64 0] [(0, .t 28)]),
oM 12 27,
oM 13 29])
 (.seq
 (.seq
 (.ops [
oM 30 1,
oP 31 (.len (.t 30)),
oP 32 (.move (oK 0))])
 (.block 0
 (.loop body139)))
 (.seq
 (.ops [
oM 76 12,
oM 77 13,
oM 78 11,
oM 6 76,
oM 7 77,
oM 8 78])
 .ret))))))
def F140 : AFunc :=
 .fn 24 [.tmp 4]
 (.seq
 (.ops [
oP 2 (.box (.t 0)),
oP 3 (.box (.t 1)),
oP 4 (.move (.k (.bool false)))])
 (.seq
 (.ops [
oF 5 2 0,
oL 6 5,
oF 7 3 0,
oL 8 7,
oB 9 .geq 6 8,
oM 10 9,
oQ 11 10 true (.fieldAddr (.t 2) 1),
oQ 12 10 true (.load (.t 11) none),
oQ 13 10 true (.fieldAddr (.t 3) 1),
oQ 14 10 true (.load (.t 13) none),
oQ 15 10 true (.bin .leq (.t 12) (.t 14)),
oP 16 (.pick (.t 10) (.t 15) (.k (.bool false))),
oM 17 16,
oQ 18 17 true (.fieldAddr (.t 2) 0),
oQ 19 17 true (.load (.t 18) none),
oQ 20 17 true (.fieldAddr (.t 2) 1),
oQ 21 17 true (.load (.t 20) none),
oQ 22 17 true (.bin .leq (.t 19) (.t 21)),
oP 23 (.pick (.t 17) (.t 22) (.k (.bool false))),
oM 4 23])
 .ret))
def F141 : AFunc :=
 .fn 8 [.cell 4 (some 2)]
 (.seq
 (.ops [
oP 4 (.alloc [.int .i64 0, .int .i64 0])])
 (.seq
 (.ops [
oM 5 0,
oM 6 1,
oP 7 (.build [.int .i64 0, .int .i64 0] [(0, 1, .t 5), (1, 1, .t 6)]),
oT 4 7 2])
 .ret))
def F145 : AFunc :=
 .fn 7 [.tmp 0]
 (.seq
 (.ops [
oP 0 (.move (.k (.slice none 0 0)))])
 (.seq
 (.ops [
oA 1 141 [.k (.int .i64 10), .k (.int .i64 20)] false,
⟨some 2, none, [], .build [.string ⟨⟨[]⟩⟩, .slice none 0 0, .int .i64 0, .int .i64 0, .bool false, .bool false, .int .i64 0] [(0, 1, .k (.string ⟨⟨[97]⟩⟩)), (2, 2, .t 1)]⟩,
oP 3 (.slit 1 1 [.int .i64 0] [(0, .k (.int .i64 0))]),
oA 4 141 [.k (.int .i64 5), .k (.int .i64 30)] false,
⟨some 5, none, [], .build [.string ⟨⟨[]⟩⟩, .slice none 0 0, .int .i64 0, .int .i64 0, .bool false, .bool false, .int .i64 0] [(0, 1, .k (.string ⟨⟨[98]⟩⟩)), (1, 1, .t 3), (2, 2, .t 4), (4, 1, .k (.bool true))]⟩,
⟨some 6, none, [], .slit 2 7 [.string ⟨⟨[]⟩⟩, .slice none 0 0, .int .i64 0, .int .i64 0, .bool false, .bool false, .int .i64 0] [(0, .t 2), (1, .t 5)]⟩,
oM 0 6])
 .ret))
def F146 : AFunc :=
 .fn 45 [.tmp 4, .tmp 5]
 (.seq
 (.ops [
oP 4 (.move (.k (.pointer none))),
oP 5 (.move (oK 0))])
 (.seq
 (.seq
 (.ops [
oM 8 0,
oA 9 135 [.t 8] false,
oM 6 9])
 (.seq
 (.ops [
oM 10 6,
oC 11 .neq 10 0])
 (.cond (.t 11)
 (.seq
 (.ops [
oM 12 6,
oP 4 (.move (.k (.pointer none))),
oM 5 12])
 .ret)
 .skip)))
 (.seq
 (.seq
 (.ops [
oM 13 1,
oC 14 .lss 13 0,
oM 15 14,
oN 16 15 false 1,
oQ 17 15 false (.bin .gtr (.t 16) (oK 100)),
oP 18 (.pick (.t 15) (.k (.bool true)) (.t 17))])
 (.cond (.t 18)
 (.seq
 (.ops [
oP 4 (.move (.k (.pointer none))),
oP 5 (.move (oK 3))])
 .ret)
 .skip))
 (.seq
 (.ops [
oM 19 0,
oA 20 173 [.t 19] false,
oM 0 20])
 (.seq
 (.seq
 (.ops [
oM 21 0,
oP 22 (.len (.t 21)),
oP 23 (.move (oK 0))])
 (.block 0
 (.loop
 (.seq
 (.ops [
oB 24 .lss 23 22])
 (.seq
 (.cond (.t 24)
 .skip
 (.exit 0))
 (.seq
 (.block 1
 (.seq
 (.ops [
oM 25 23,
oM 7 25])
 (.ops [
oM 26 0,
oM 27 7,
oM 28 0,
oM 29 7,
oI 30 28 29 7,
oF 31 30 1,
oL 32 31,
oA 33 174 [.t 32] false,
oI 34 26 27 7,
oF 35 34 1,
oT 35 33 1])))
 (.ops [
oC 36 .add 23 1,
oM 23 36])))))))
 (.seq
 (.ops [
oM 37 0,
oM 38 0,
oP 39 (.len (.t 38)),
oP 40 (.makeS (.t 39) (.t 39) 1 1 [.bool false]),
oM 41 1,
oP 42 (.makeM),
oP 43 (.build [.bool false, .slice none 0 0, .slice none 0 0, .int .i64 0, .bool false, .map none, .int .i64 0] [(0, 1, .k (.bool true)), (1, 1, .t 37), (2, 1, .t 40), (3, 1, .t 41), (5, 1, .t 42)]),
oP 44 (.box (.t 43)),
oM 4 44,
oP 5 (.move (oK 0))])
 .ret))))))
def F147 : AFunc :=
 .fn 23 [.tmp 6]
 (.seq
 (.ops [
oP 3 (.box (.t 0)),
oP 4 (.box (.t 1)),
oP 6 (.move (oK 0))])
 (.seq
 (.ops [
oL 7 3,
oM 8 2,
oP 9 (.makeFunc 176 [] [.t 3, .t 4]),
oL 10 3,
oL 11 4,
oA 12 177 [.t 10, .t 11] true,
oP 13 (.makeFunc 178 [] [.t 3, .t 4]),
oP 14 (.build [.nilFunc, .int .i64 0] [(0, 1, .t 13), (1, 1, .k (.int .i64 5))]),
oP 15 (.makeFunc 179 [] [.t 3, .t 4]),
oP 16 (.build [.nilFunc, .int .i64 0] [(0, 1, .t 15), (1, 1, .k (.int .i64 6))]),
oP 17 (.makeFunc 182 [] [.t 3, .t 4]),
oP 18 (.build [.nilFunc, .int .i64 0] [(0, 1, .t 17), (1, 1, .k (.int .i64 6))]),
oP 19 (.makeFunc 183 [] [.t 3, .t 4]),
oP 20 (.build [.nilFunc, .int .i64 0] [(0, 1, .t 19), (1, 1, .k (.int .i64 18))]),
oP 21 (.slit 5 2 [.nilFunc, .int .i64 0] [(0, .t 12), (1, .t 14), (2, .t 16), (3, .t 18), (4, .t 20)]),
oA 22 175 [.t 7, .t 8, .t 9, .t 21] false,
oM 6 22])
 .ret))
def F148 : AFunc :=
 .fn 22 [.tmp 10]
 (.seq
 (.ops [
oP 5 (.box (.t 0)),
oP 6 (.box (.t 1)),
oP 7 (.box (.t 2)),
oP 8 (.box (.t 3)),
oP 10 (.move (oK 0))])
 (.seq
 (.ops [
oL 11 5,
oM 12 4,
oP 13 (.makeFunc 185 [] [.t 7, .t 8, .t 5, .t 6]),
oP 14 (.makeFunc 186 [] [.t 6, .t 7]),
oP 15 (.build [.nilFunc, .int .i64 0] [(0, 1, .t 14), (1, 1, .k (.int .i64 10))]),
oP 16 (.makeFunc 187 [] [.t 5, .t 6, .t 7]),
oP 17 (.build [.nilFunc, .int .i64 0] [(0, 1, .t 16), (1, 1, .k (.int .i64 2))]),
oP 18 (.makeFunc 188 [] [.t 5, .t 6]),
oP 19 (.build [.nilFunc, .int .i64 0] [(0, 1, .t 18), (1, 1, .k (.int .i64 9))]),
oP 20 (.slit 3 2 [.nilFunc, .int .i64 0] [(0, .t 15), (1, .t 17), (2, .t 19)]),
oA 21 184 [.t 11, .t 12, .t 13, .t 20] false,
oM 10 21])
 .ret))
def F149 : AFunc :=
 .fn 49 [.tmp 2, .tmp 3, .tmp 4]
 (.seq
 (.ops [
oP 2 (.move (.k (.bool false))),
oP 3 (.move (.k (.slice none 0 0))),
oP 4 (.move (oK 0))])
 (.seq
 (.seq
 (.ops [
oM 8 0,
oA 9 189 [.t 8] false,
oP 10 (.not (.t 9))])
 (.cond (.t 10)
 (.seq
 (.ops [
oP 2 (.move (.k (.bool false))),
oP 3 (.move (.k (.slice none 0 0))),
oP 4 (.move (oK 1))])
 .ret)
 .skip))
 (.seq
 (.ops [
oP 11 (.makeM),
oM 5 11])
 (.seq
 (.seq
 (.ops [
oM 12 0,
oP 13 (.nilCheck (.t 12)),
oF 14 13 5,
oL 15 14,
oP 16 (.rangeI (.t 15))])
 (.block 0
 (.loop
 (.seq
 (.ops [
oP 17 (.nextI (.t 16)),
oX 18 17 0])
 (.seq
 (.cond (.t 18)
 .skip
 (.exit 0))
 (.block 1
 (.seq
 (.ops [
oP 19 (.entryI (.t 16)),
oX 20 19 1,
⟨some 7, none, [], .alloc [.string ⟨⟨[]⟩⟩, .bool false]⟩,
oT 7 20 2])
 (.seq
 (.seq
 (.ops [
oF 21 7 1,
oL 22 21,
oP 23 (.not (.t 22))])
 (.cond (.t 23)
 (.seq
 (.ops [
oP 2 (.move (.k (.bool false))),
oP 3 (.move (.k (.slice none 0 0))),
oP 4 (.move (oK 0))])
 .ret)
 .skip))
 (.ops [
oM 24 5,
oF 25 7 0,
oL 26 25,
⟨none, none, [], .mapSet (.t 24) (.t 26) (.k (.bool true)) 1⟩])))))))))
 (.seq
 (.seq
 (.ops [
oM 27 0,
oP 28 (.nilCheck (.t 27)),
oF 29 28 4,
oL 30 29,
oM 31 30,
oN 32 31 false 5,
oQ 33 31 false (.lenM (.t 32)),
oQ 34 31 false (.bin .lss (.t 33) (oK 2)),
oP 35 (.pick (.t 31) (.k (.bool true)) (.t 34)),
oM 36 35,
oN 37 36 false 0,
oQ 38 36 false (.nilCheck (.t 37)),
oQ 39 36 false (.fieldAddr (.t 38) 2),
oQ 40 36 false (.load (.t 39) none),
oQ 41 36 false (.call (.k (.func (.func 190) ⟨[]⟩ ⟨[]⟩)) [.t 40, .k (.bool false)] false),
oP 42 (.pick (.t 36) (.k (.bool true)) (.t 41))])
 (.cond (.t 42)
 (.seq
 (.ops [
oP 2 (.move (.k (.bool false))),
oP 3 (.move (.k (.slice none 0 0))),
oP 4 (.move (oK 0))])
 .ret)
 .skip))
 (.seq
 (.ops [
oM 43 0,
oP 44 (.nilCheck (.t 43)),
oF 45 44 5,
oL 46 45,
oA 47 192 [.t 46] false,
oA 48 191 [.t 47] false,
oP 2 (.move (.k (.bool true))),
oM 3 48,
oP 4 (.move (oK 0))])
 .ret))))))
def F150 : AFunc :=
 .fn 16 [.tmp 6]
 (.seq
 (.ops [
oP 3 (.box (.t 0)),
oP 4 (.box (.t 1)),
oP 6 (.move (oK 0))])
 (.seq
 (.ops [
oL 7 3,
oM 8 2,
oP 9 (.makeFunc 193 [] [.t 4, .t 3]),
oP 10 (.makeFunc 194 [] [.t 3, .t 4]),
oP 11 (.build [.nilFunc, .int .i64 0] [(0, 1, .t 10), (1, 1, .k (.int .i64 6))]),
oP 12 (.makeFunc 195 [] [.t 4, .t 3]),
oP 13 (.build [.nilFunc, .int .i64 0] [(0, 1, .t 12), (1, 1, .k (.int .i64 6))]),
oP 14 (.slit 2 2 [.nilFunc, .int .i64 0] [(0, .t 11), (1, .t 13)]),
oA 15 175 [.t 7, .t 8, .t 9, .t 14] false,
oM 6 15])
 .ret))
def F151 : AFunc :=
 .fn 26 [.tmp 4]
 (.seq
 (.ops [
oP 4 (.move (.k (.bool false)))])
 (.seq
 (.seq
 (.ops [
oM 6 0,
oP 7 (.len (.t 6)),
oM 8 1,
oP 9 (.len (.t 8)),
oB 10 .neq 7 9])
 (.cond (.t 10)
 (.seq
 (.ops [
oP 4 (.move (.k (.bool false)))])
 .ret)
 .skip))
 (.seq
 (.seq
 (.ops [
oP 5 (.move (oK 0))])
 (.block 0
 (.loop
 (.seq
 (.seq
 (.ops [
oM 11 5,
oM 12 0,
oP 13 (.len (.t 12)),
oB 14 .lss 11 13])
 (.cond (.t 14)
 .skip
 (.exit 0)))
 (.seq
 (.block 1
 (.seq
 (.ops [
oM 17 0,
oM 18 5,
oI 19 17 18 1,
oL 20 19,
oM 21 1,
oM 22 5,
oI 23 21 22 1,
oL 24 23,
oP 25 (.strOp .neq (.t 20) (.t 24))])
 (.cond (.t 25)
 (.seq
 (.ops [
oP 4 (.move (.k (.bool false)))])
 .ret)
 .skip)))
 (.ops [
oM 15 5,
oC 16 .add 15 1,
oM 5 16]))))))
 (.seq
 (.ops [
oP 4 (.move (.k (.bool true)))])
 .ret))))
def F152 : AFunc :=
 .fn 24 [.tmp 2]
 (.seq
 (.ops [
oP 1 (.box (.t 0)),
oP 2 (.move (.k (.bool false)))])
 (.seq
 (.ops [
oF 3 1 1,
oD 4 3 2,
oA 5 154 [.t 4] false,
oM 6 5,
oQ 7 6 true (.fieldAddr (.t 1) 3),
oQ 8 6 true (.load (.t 7) (some 2)),
oQ 9 6 true (.call (.k (.func (.func 154) ⟨[]⟩ ⟨[]⟩)) [.t 8] false),
oP 10 (.pick (.t 6) (.t 9) (.k (.bool false))),
oM 11 10,
oQ 12 11 true (.fieldAddr (.t 1) 5),
oQ 13 11 true (.load (.t 12) none),
oQ 14 11 true (.fieldAddr (.t 1) 5),
oQ 15 11 true (.load (.t 14) none),
oQ 16 11 true (.build [.int .i64 0, .int .i64 0] [(0, 1, .t 13), (1, 1, .t 15)]),
oQ 17 11 true (.call (.k (.func (.func 154) ⟨[]⟩ ⟨[]⟩)) [.t 16] false),
oP 18 (.pick (.t 11) (.t 17) (.k (.bool false))),
oM 19 18,
oQ 20 19 true (.fieldAddr (.t 1) 6),
oQ 21 19 true (.load (.t 20) (some 2)),
oQ 22 19 true (.call (.k (.func (.func 160) ⟨[]⟩ ⟨[]⟩)) [.t 21, .k (.int .i64 0), .k (.int .i64 1000)] false),
oP 23 (.pick (.t 19) (.t 22) (.k (.bool false))),
oM 2 23])
 .ret))
def F153 : AFunc :=
 .fn 6 [.tmp 2]
 (.seq
 (.ops [
oP 1 (.box (.t 0)),
oP 2 (.move (.k (.bool false)))])
 (.seq
 (.ops [
oD 3 1 2,
oA 4 154 [.t 3] false,
oP 5 (.not (.t 4)),
oM 2 5])
 .ret))
def F154 : AFunc :=
 .fn 5 [.tmp 2]
 (.seq
 (.ops [
oP 1 (.box (.t 0)),
oP 2 (.move (.k (.bool false)))])
 (.seq
 (.ops [
oD 3 1 2,
oA 4 160 [.t 3, .k (.int .i64 (-20000)), .k (.int .i64 20000)] false,
oM 2 4])
 .ret))
def F155 : AFunc :=
 .fn 26 []
 (.seq
 (.ops [
oF 2 0 0,
oL 3 2,
oF 4 1 0,
oF 5 4 0,
oL 6 5,
oF 7 1 2,
oF 8 7 0,
oL 9 8,
oP 10 (.build [.int .i64 0, .int .i64 0] [(0, 1, .t 6), (1, 1, .t 9)]),
oP 11 (.slit 1 2 [.int .i64 0, .int .i64 0] [(0, .t 10)]),
oP 12 (.append (.t 3) (.t 11) 2 16),
oF 13 0 0,
oT 13 12 1])
 (.ops [
oF 14 0 1,
oL 15 14,
oF 16 1 0,
oF 17 16 1,
oL 18 17,
oF 19 1 2,
oF 20 19 1,
oL 21 20,
oP 22 (.build [.int .i64 0, .int .i64 0] [(0, 1, .t 18), (1, 1, .t 21)]),
oP 23 (.slit 1 2 [.int .i64 0, .int .i64 0] [(0, .t 22)]),
oP 24 (.append (.t 15) (.t 23) 2 16),
oF 25 0 1,
oT 25 24 1]))
def F156 : AFunc :=
 .fn 12 [.tmp 4]
 (.seq
 (.ops [
oP 2 (.box (.t 0)),
oP 4 (.move (.k (.bool false)))])
 (.seq
 (.ops [
oM 5 1,
oF 6 2 0,
oL 7 6,
oF 8 2 1,
oL 9 8,
oP 10 (.min [.t 7, .t 9]),
oB 11 .gtr 5 10,
oM 4 11])
 .ret))
def F157 : AFunc :=
 .fn 14 [.cell 4 (some 2)]
 (.seq
 (.ops [
oP 2 (.box (.t 0)),
oP 4 (.alloc [.int .i64 0, .int .i64 0])])
 (.seq
 (.ops [
oF 5 2 0,
oL 6 5,
oM 7 1,
oB 8 .sub 6 7,
oF 9 2 1,
oL 10 9,
oM 11 1,
oB 12 .sub 10 11,
oP 13 (.build [.int .i64 0, .int .i64 0] [(0, 1, .t 8), (1, 1, .t 12)]),
oT 4 13 2])
 .ret))
def F160 : AFunc :=
 .fn 24 [.tmp 6]
 (.seq
 (.ops [
oP 3 (.box (.t 0)),
oP 6 (.move (.k (.bool false)))])
 (.seq
 (.ops [
oF 7 3 0,
oL 8 7,
oF 9 3 1,
oL 10 9,
oB 11 .leq 8 10,
oM 12 11,
oQ 13 12 true (.fieldAddr (.t 3) 0),
oQ 14 12 true (.load (.t 13) none),
oN 15 12 true 1,
oQ 16 12 true (.bin .geq (.t 14) (.t 15)),
oP 17 (.pick (.t 12) (.t 16) (.k (.bool false))),
oM 18 17,
oQ 19 18 true (.fieldAddr (.t 3) 1),
oQ 20 18 true (.load (.t 19) none),
oN 21 18 true 2,
oQ 22 18 true (.bin .leq (.t 20) (.t 21)),
oP 23 (.pick (.t 18) (.t 22) (.k (.bool false))),
oM 6 23])
 .ret))
def F161 : AFunc :=
 .fn 8 [.tmp 2]
 (.seq
 (.ops [
oP 2 (.move (.k (.slice none 0 0)))])
 (.seq
 (.seq
 (.ops [
oM 3 0,
oP 4 (.eqNil 1 false (.t 3))])
 (.cond (.t 4)
 (.seq
 (.ops [
oP 2 (.move (.k (.slice none 0 0)))])
 .ret)
 .skip))
 (.seq
 (.ops [
oP 5 (.slit 0 2 [.int .i64 0, .int .i64 0] []),
oM 6 0,
oP 7 (.append (.t 5) (.t 6) 2 16),
oM 2 7])
 .ret)))
def F162 : AFunc :=
 .fn 5 [.tmp 2]
 (.seq
 (.ops [
oP 1 (.box (.t 0)),
oP 2 (.move (.k (.bool false)))])
 (.seq
 (.ops [
oD 3 1 2,
oA 4 160 [.t 3, .k (.int .i64 0), .k (.int .i64 1099511627776)] false,
oM 2 4])
 .ret))
def F163 : AFunc :=
 .fn 16 [.cell 4 (some 2)]
 (.seq
 (.ops [
oP 2 (.box (.t 0)),
oP 3 (.box (.t 1)),
oP 4 (.alloc [.int .i64 0, .int .i64 0])])
 (.seq
 (.ops [
oF 5 2 0,
oL 6 5,
oF 7 3 0,
oL 8 7,
oP 9 (.max [.t 6, .t 8]),
oF 10 2 1,
oL 11 10,
oF 12 3 1,
oL 13 12,
oP 14 (.max [.t 11, .t 13]),
oP 15 (.build [.int .i64 0, .int .i64 0] [(0, 1, .t 9), (1, 1, .t 14)]),
oT 4 15 2])
 .ret))
def F164 : AFunc :=
 .fn 22 [.tmp 8]
 (.seq
 (.ops [
oP 4 (.box (.t 0)),
oP 8 (.move (oK 0))])
 (.seq
 (.block 0
 (.seq
 (.ops [
oM 10 1,
oC 11 .eql 10 1099511627776,
oM 9 11])
 (.cond (.t 9)
 (.seq
 (.ops [
oP 8 (.move (oK 1099511627776))])
 .ret)
 (.seq
 (.ops [
oF 13 4 4,
oL 14 13,
oM 12 14])
 (.cond (.t 12)
 (.seq
 (.ops [
oM 15 1,
oM 16 2,
oM 17 3,
oA 18 197 [.t 15, .t 16, .t 17] false,
oM 8 18])
 .ret)
 .skip)))))
 (.seq
 (.ops [
oM 19 1,
oM 20 2,
oB 21 .add 19 20,
oM 8 21])
 .ret)))
def body166 : ACode := (.seq
 (.ops [
oB 10 .lss 9 8])
 (.seq
 (.cond (.t 10)
 .skip
 (.exit 0))
 (.seq
 (.block 1
 (.seq
 (.ops [
oM 11 9,
oI 12 7 9 1,
oL 13 12,
oM 3 11,
oM 4 13])
 (.seq
 (.ops [
oM 14 4,
oP 15 (.bin .geq (.t 14) (.k (.int .u8 97))),
oM 16 15,
oN 17 16 true 4,
oQ 18 16 true (.bin .leq (.t 17) (.k (.int .u8 122))),
oP 19 (.pick (.t 16) (.t 18) (.k (.bool false))),
oM 5 19])
 (.seq
 (.ops [
oM 20 5,
oP 21 (.not (.t 20)),
oM 22 21,
oN 23 22 true 3,
oQ 24 22 true (.bin .eql (.t 23) (oK 0)),
oN 25 22 true 24,
oN 26 25 false 4,
oQ 27 25 false (.bin .neq (.t 26) (.k (.int .u8 95))),
oN 28 25 false 27,
oN 29 28 true 4,
oQ 30 28 true (.bin .lss (.t 29) (.k (.int .u8 48))),
oN 31 28 true 30,
oN 32 31 false 4,
oQ 33 31 false (.bin .gtr (.t 32) (.k (.int .u8 57))),
oQ 34 28 true (.pick (.t 31) (.k (.bool true)) (.t 33)),
oQ 35 25 false (.pick (.t 28) (.t 34) (.k (.bool false))),
oQ 36 22 true (.pick (.t 25) (.k (.bool true)) (.t 35)),
oP 37 (.pick (.t 22) (.t 36) (.k (.bool false)))])
 (.cond (.t 37)
 (.seq
 (.ops [
oP 2 (.move (.k (.bool false)))])
 .ret)
 .skip)))))
 (.ops [
oC 38 .add 9 1,
oM 9 38]))))
def F166 : AFunc :=
 .fn 46 [.tmp 2]
 (.seq
 (.ops [
oP 2 (.move (.k (.bool false)))])
 (.seq
 (.seq
 (.ops [
oM 6 0,
oP 7 (.toBytes (.t 6)),
oP 8 (.len (.t 7)),
oP 9 (.move (oK 0))])
 (.block 0
 (.loop body166)))
 (.seq
 (.ops [
oM 39 0,
⟨some 40, none, [], .strOp .neq (.t 39) (.k (.string ⟨⟨[]⟩⟩))⟩,
oM 41 40,
oN 42 41 true 0,
oQ 43 41 true (.lenT (.t 42)),
oQ 44 41 true (.bin .leq (.t 43) (oK 12)),
oP 45 (.pick (.t 41) (.t 44) (.k (.bool false))),
oM 2 45])
 .ret)))
def F167 : AFunc :=
 .fn 9 [.tmp 4]
 (.seq
 (.ops [
oP 4 (.move (.k (.bool false)))])
 (.seq
 (.ops [
oM 5 0,
oM 6 1,
oA 7 198 [.t 5, .t 6] false,
oC 8 .geq 7 0,
oM 4 8])
 .ret))
def F168 : AFunc :=
 .fn 9 [.tmp 3]
 (.seq
 (.ops [
oP 2 (.box (.t 0)),
oP 3 (.move (.k (.bool false)))])
 (.seq
 (.ops [
oF 4 2 0,
oL 5 4,
oF 6 1 0,
oL 7 6,
oP 8 (.strOp .eql (.t 5) (.t 7)),
oM 3 8])
 .ret))
def F169 : AFunc :=
 .fn 9 [.tmp 4]
 (.seq
 (.ops [
oP 4 (.move (.k (.bool false)))])
 (.seq
 (.ops [
oM 5 0,
oM 6 1,
oA 7 199 [.t 5, .t 6] false,
oC 8 .geq 7 0,
oM 4 8])
 .ret))
def F172 : AFunc :=
 .fn 30 [.tmp 4]
 (.seq
 (.ops [
oP 3 (.box (.t 0)),
oP 4 (.move (oK 0))])
 (.seq
 (.ops [
oL 5 1,
oC 6 .add 5 1,
oT 1 6 1])
 (.seq
 (.seq
 (.ops [
oL 7 2,
oP 8 (.len (.t 7)),
oC 9 .eql 8 0])
 (.cond (.t 9)
 (.seq
 (.ops [
oF 10 3 0,
oL 11 10,
oM 4 11])
 .ret)
 .skip))
 (.seq
 (.ops [
oF 12 3 0,
oL 13 12,
oL 14 2,
oL 15 1,
oL 16 2,
oP 17 (.len (.t 16)),
oB 18 .rem 15 17,
oI 19 14 18 1,
oL 20 19,
oP 21 (.toInt .i64 (.t 20)),
oF 22 3 1,
oL 23 22,
oF 24 3 0,
oL 25 24,
oB 26 .sub 23 25,
oC 27 .add 26 1,
oB 28 .rem 21 27,
oB 29 .add 13 28,
oM 4 29])
 .ret))))
def F173 : AFunc :=
 .fn 8 [.tmp 2]
 (.seq
 (.ops [
oP 2 (.move (.k (.slice none 0 0)))])
 (.seq
 (.seq
 (.ops [
oM 3 0,
oP 4 (.eqNil 1 false (.t 3))])
 (.cond (.t 4)
 (.seq
 (.ops [
oP 2 (.move (.k (.slice none 0 0)))])
 .ret)
 .skip))
 (.seq
 (.ops [
⟨some 5, none, [], .slit 0 7 [.string ⟨⟨[]⟩⟩, .slice none 0 0, .int .i64 0, .int .i64 0, .bool false, .bool false, .int .i64 0] []⟩,
oM 6 0,
oP 7 (.append (.t 5) (.t 6) 7 72),
oM 2 7])
 .ret)))
def F174 : AFunc :=
 .fn 8 [.tmp 2]
 (.seq
 (.ops [
oP 2 (.move (.k (.slice none 0 0)))])
 (.seq
 (.seq
 (.ops [
oM 3 0,
oP 4 (.eqNil 1 false (.t 3))])
 (.cond (.t 4)
 (.seq
 (.ops [
oP 2 (.move (.k (.slice none 0 0)))])
 .ret)
 .skip))
 (.seq
 (.ops [
oP 5 (.slit 0 1 [.int .i64 0] []),
oM 6 0,
oP 7 (.append (.t 5) (.t 6) 1 8),
oM 2 7])
 .ret)))
def F175 : AFunc :=
 .fn 14 [.tmp 8]
 (.seq
 (.ops [
oP 4 (.box (.t 0)),
oP 6 (.box (.t 2)),
oP 8 (.move (oK 0))])
 (.seq
 (.ops [
oL 9 4,
oM 10 1,
oP 11 (.makeFunc 200 [] [.t 6, .t 4]),
oM 12 3,
oA 13 184 [.t 9, .t 10, .t 11, .t 12] false,
oM 8 13])
 .ret))
def F176 : AFunc :=
 .fn 23 []
 (.seq
 (.ops [
oL 2 0,
oP 3 (.nilCheck (.t 2)),
oF 4 3 2,
oL 5 4,
oL 6 1,
oI 7 5 6 1,
⟨none, none, [], .store (.t 7) (.k (.bool true)) 1⟩])
 (.ops [
oL 8 0,
oP 9 (.nilCheck (.t 8)),
oF 10 9 3,
oL 11 10,
oL 12 0,
oP 13 (.nilCheck (.t 12)),
oF 14 13 1,
oL 15 14,
oL 16 1,
oI 17 15 16 7,
oF 18 17 6,
oL 19 18,
oB 20 .sub 11 19,
oP 21 (.nilCheck (.t 8)),
oF 22 21 3,
oT 22 20 1]))
def F177 : AFunc :=
 .fn 7 [.cell 4 (some 2)]
 (.seq
 (.ops [
oP 2 (.box (.t 0)),
oP 3 (.box (.t 1)),
oP 4 (.alloc [.nilFunc, .int .i64 0])])
 (.seq
 (.ops [
oP 5 (.makeFunc 201 [] [.t 3, .t 2]),
oP 6 (.build [.nilFunc, .int .i64 0] [(0, 1, .t 5), (1, 1, .k (.int .i64 4))]),
oT 4 6 2])
 .ret))
def F178 : AFunc :=
 .fn 11 [.tmp 2]
 (.seq
 (.ops [
oP 2 (.move (.k (.bool false)))])
 (.seq
 (.ops [
oL 3 0,
oP 4 (.nilCheck (.t 3)),
oF 5 4 2,
oL 6 5,
oL 7 1,
oI 8 6 7 1,
oL 9 8,
oP 10 (.not (.t 9)),
oM 2 10])
 .ret))
def F179 : AFunc :=
 .fn 14 [.tmp 2]
 (.seq
 (.ops [
oP 2 (.move (.k (.bool false)))])
 (.seq
 (.ops [
oL 3 0,
oP 4 (.nilCheck (.t 3)),
oF 5 4 1,
oL 6 5,
oL 7 1,
oI 8 6 7 7,
oF 9 8 1,
oL 10 9,
oP 11 (.makeFunc 181 [] [.t 0]),
oA 12 180 [.t 10, .t 11] false,
oP 13 (.not (.t 12)),
oM 2 13])
 .ret))
def F180 : AFunc :=
 .fn 9 [.tmp 4]
 (.seq
 (.ops [
oP 4 (.move (.k (.bool false)))])
 (.seq
 (.ops [
oM 5 0,
oM 6 1,
oA 7 202 [.t 5, .t 6] false,
oC 8 .geq 7 0,
oM 4 8])
 .ret))
def F181 : AFunc :=
 .fn 12 [.tmp 3]
 (.seq
 (.ops [
oP 3 (.move (.k (.bool false)))])
 (.seq
 (.ops [
oL 4 1,
oP 5 (.nilCheck (.t 4)),
oF 6 5 2,
oL 7 6,
oM 8 0,
oI 9 7 8 1,
oL 10 9,
oP 11 (.not (.t 10)),
oM 3 11])
 .ret))
def F182 : AFunc :=
 .fn 19 [.tmp 2]
 (.seq
 (.ops [
oP 2 (.move (.k (.bool false)))])
 (.seq
 (.ops [
oL 3 0,
oP 4 (.nilCheck (.t 3)),
oF 5 4 1,
oL 6 5,
oL 7 1,
oI 8 6 7 7,
oF 9 8 5,
oL 10 9,
oP 11 (.not (.t 10)),
oM 12 11,
oQ 13 12 false (.load (.t 0) none),
oQ 14 12 false (.nilCheck (.t 13)),
oQ 15 12 false (.fieldAddr (.t 14) 4),
oQ 16 12 false (.load (.t 15) none),
oQ 17 12 false (.not (.t 16)),
oP 18 (.pick (.t 12) (.k (.bool true)) (.t 17)),
oM 2 18])
 .ret))
def F183 : AFunc :=
 .fn 16 [.tmp 2]
 (.seq
 (.ops [
oP 2 (.move (.k (.bool false)))])
 (.seq
 (.ops [
oL 3 0,
oP 4 (.nilCheck (.t 3)),
oF 5 4 3,
oL 6 5,
oL 7 0,
oP 8 (.nilCheck (.t 7)),
oF 9 8 1,
oL 10 9,
oL 11 1,
oI 12 10 11 7,
oF 13 12 6,
oL 14 13,
oB 15 .geq 6 14,
oM 2 15])
 .ret))
def F184 : AFunc :=
 .fn 48 [.tmp 8]
 (.seq
 (.ops [
oP 8 (.move (oK 0))])
 (.seq
 (.block 0
 (.seq
 (.ops [
oM 12 0,
oA 13 189 [.t 12] false,
oP 14 (.not (.t 13)),
oM 11 14])
 (.cond (.t 11)
 (.seq
 (.ops [
oP 8 (.move (oK 1))])
 .ret)
 (.seq
 (.ops [
oM 16 1,
oC 17 .lss 16 0,
oM 18 17,
oN 19 18 false 1,
oQ 20 18 false (.bin .gtr (.t 19) (oK 1000000000)),
oP 21 (.pick (.t 18) (.k (.bool true)) (.t 20)),
oM 15 21])
 (.cond (.t 15)
 (.seq
 (.ops [
oP 8 (.move (oK 3))])
 .ret)
 (.seq
 (.ops [
oM 23 1,
oM 24 0,
oP 25 (.nilCheck (.t 24)),
oF 26 25 6,
oL 27 26,
oB 28 .lss 23 27,
oM 22 28])
 (.cond (.t 22)
 (.seq
 (.ops [
oP 8 (.move (oK 17))])
 .ret)
 .skip)))))))
 (.seq
 (.seq
 (.ops [
oM 29 3,
oP 30 (.len (.t 29)),
oP 31 (.move (oK 0))])
 (.block 1
 (.loop
 (.seq
 (.ops [
oB 32 .lss 31 30])
 (.seq
 (.cond (.t 32)
 .skip
 (.exit 1))
 (.seq
 (.block 2
 (.seq
 (.ops [
oI 33 29 31 2,
oD 34 33 2,
oP 10 (.alloc [.nilFunc, .int .i64 0]),
oT 10 34 2])
 (.seq
 (.ops [
oF 35 10 0,
oL 36 35,
oP 37 (.call (.t 36) [] false),
oP 38 (.not (.t 37))])
 (.cond (.t 38)
 (.seq
 (.ops [
oF 39 10 1,
oL 40 39,
oM 8 40])
 .ret)
 .skip))))
 (.ops [
oC 41 .add 31 1,
oM 31 41])))))))
 (.seq
 (.ops [
oM 42 0,
oM 43 1,
oP 44 (.nilCheck (.t 42)),
oF 45 44 6,
oT 45 43 1])
 (.seq
 (.ops [
oM 46 2,
oP 47 (.call (.t 46) [] false)])
 (.seq
 (.ops [
oP 8 (.move (oK 0))])
 .ret))))))
def F185 : AFunc :=
 .fn 12 []
 (.ops [
oL 4 2,
oP 5 (.nilCheck (.t 4)),
oF 6 5 5,
oL 7 6,
oL 8 3,
oL 9 0,
oL 10 1,
⟨some 11, none, [], .build [.string ⟨⟨[]⟩⟩, .bool false] [(0, 1, .t 9), (1, 1, .t 10)]⟩,
⟨none, none, [], .mapSet (.t 7) (.t 8) (.t 11) 1⟩])
def F186 : AFunc :=
 .fn 9 [.tmp 2]
 (.seq
 (.ops [
oP 2 (.move (.k (.bool false)))])
 (.seq
 (.ops [
oL 3 0,
oA 4 166 [.t 3] false,
oM 5 4,
oQ 6 5 true (.load (.t 1) none),
oQ 7 5 true (.call (.k (.func (.func 166) ⟨[]⟩ ⟨[]⟩)) [.t 6] false),
oP 8 (.pick (.t 5) (.t 7) (.k (.bool false))),
oM 2 8])
 .ret))
def F187 : AFunc :=
 .fn 23 [.tmp 3]
 (.seq
 (.ops [
oP 3 (.move (.k (.bool false)))])
 (.seq
 (.ops [
oL 7 0,
oP 8 (.nilCheck (.t 7)),
oF 9 8 5,
oL 10 9,
oL 11 1,
⟨some 12, none, [], .lookup (.t 10) (.t 11) 1 (.agg ⟨[.string ⟨⟨[]⟩⟩, .bool false]⟩) true⟩,
oM 6 12,
oX 13 6 0,
oX 14 6 1,
⟨some 4, none, [], .alloc [.string ⟨⟨[]⟩⟩, .bool false]⟩,
oT 4 13 2,
oM 5 14])
 (.seq
 (.ops [
oM 15 5,
oP 16 (.not (.t 15)),
oM 17 16,
oQ 18 17 false (.fieldAddr (.t 4) 0),
oQ 19 17 false (.load (.t 18) none),
oQ 20 17 false (.load (.t 2) none),
oQ 21 17 false (.strOp .eql (.t 19) (.t 20)),
oP 22 (.pick (.t 17) (.k (.bool true)) (.t 21)),
oM 3 22])
 .ret)))
def F188 : AFunc :=
 .fn 23 [.tmp 2]
 (.seq
 (.ops [
oP 2 (.move (.k (.bool false)))])
 (.seq
 (.ops [
oL 6 0,
oP 7 (.nilCheck (.t 6)),
oF 8 7 5,
oL 9 8,
oL 10 1,
⟨some 11, none, [], .lookup (.t 9) (.t 10) 1 (.agg ⟨[.string ⟨⟨[]⟩⟩, .bool false]⟩) true⟩,
oM 5 11,
oX 12 5 0,
oX 13 5 1,
⟨some 3, none, [], .alloc [.string ⟨⟨[]⟩⟩, .bool false]⟩,
oT 3 12 2,
oM 4 13])
 (.seq
 (.ops [
oM 14 4,
oM 15 14,
oQ 16 15 false (.load (.t 0) none),
oQ 17 15 false (.nilCheck (.t 16)),
oQ 18 15 false (.fieldAddr (.t 17) 5),
oQ 19 15 false (.load (.t 18) none),
oQ 20 15 false (.lenM (.t 19)),
oQ 21 15 false (.bin .lss (.t 20) (oK 64)),
oP 22 (.pick (.t 15) (.k (.bool true)) (.t 21)),
oM 2 22])
 .ret)))
def F189 : AFunc :=
 .fn 11 [.tmp 2]
 (.seq
 (.ops [
oP 2 (.move (.k (.bool false)))])
 (.seq
 (.ops [
oM 3 0,
oP 4 (.eqNil 0 true (.t 3)),
oM 5 4,
oN 6 5 true 0,
oQ 7 5 true (.nilCheck (.t 6)),
oQ 8 5 true (.fieldAddr (.t 7) 0),
oQ 9 5 true (.load (.t 8) none),
oP 10 (.pick (.t 5) (.t 9) (.k (.bool false))),
oM 2 10])
 .ret))
def F190 : AFunc :=
 .fn 9 [.tmp 4]
 (.seq
 (.ops [
oP 4 (.move (.k (.bool false)))])
 (.seq
 (.ops [
oM 5 0,
oM 6 1,
oA 7 203 [.t 5, .t 6] false,
oC 8 .geq 7 0,
oM 4 8])
 .ret))
def F191 : AFunc :=
 .fn 9 [.tmp 2]
 (.seq
 (.ops [
oP 2 (.move (.k (.slice none 0 0)))])
 (.seq
 (.ops [
oM 4 0,
oA 5 204 [.t 4] false,
oM 3 5])
 (.seq
 (.ops [
oM 6 3,
oA 7 205 [.t 6] false])
 (.seq
 (.ops [
oM 8 3,
oM 2 8])
 .ret))))
def F192 : AFunc :=
 .fn 4 [.tmp 2]
 (.seq
 (.ops [
oP 1 (.box (.t 0)),
oP 2 (.move (.k (.nilFunc)))])
 (.seq
 (.ops [
oP 3 (.makeFunc 206 [] [.t 1]),
oM 2 3])
 .ret))
def F193 : AFunc :=
 .fn 6 []
 (.ops [
oL 2 1,
oL 3 0,
oP 4 (.nilCheck (.t 2)),
oF 5 4 4,
oT 5 3 1])
def F194 : AFunc :=
 .fn 9 [.tmp 2]
 (.seq
 (.ops [
oP 2 (.move (.k (.bool false)))])
 (.seq
 (.ops [
oL 3 0,
oP 4 (.nilCheck (.t 3)),
oF 5 4 4,
oL 6 5,
oL 7 1,
oP 8 (.beq true (.t 6) (.t 7)),
oM 2 8])
 .ret))
def F195 : AFunc :=
 .fn 10 [.tmp 2]
 (.seq
 (.ops [
oP 2 (.move (.k (.bool false)))])
 (.seq
 (.ops [
oL 3 0,
oP 4 (.not (.t 3)),
oM 5 4,
oQ 6 5 false (.load (.t 1) none),
oQ 7 5 false (.call (.k (.func (.func 196) ⟨[]⟩ ⟨[]⟩)) [.t 6] false),
oQ 8 5 false (.not (.t 7)),
oP 9 (.pick (.t 5) (.k (.bool true)) (.t 8)),
oM 2 9])
 .ret))
def F196 : AFunc :=
 .fn 27 [.tmp 2]
 (.seq
 (.ops [
oP 2 (.move (.k (.bool false)))])
 (.seq
 (.seq
 (.ops [
oM 5 0,
oP 6 (.nilCheck (.t 5)),
oF 7 6 2,
oL 8 7,
oP 9 (.len (.t 8)),
oP 10 (.move (oK 0))])
 (.block 0
 (.loop
 (.seq
 (.ops [
oB 11 .lss 10 9])
 (.seq
 (.cond (.t 11)
 .skip
 (.exit 0))
 (.seq
 (.block 1
 (.seq
 (.ops [
oM 12 10,
oI 13 8 10 1,
oL 14 13,
oM 3 12,
oM 4 14])
 (.seq
 (.ops [
oM 15 4,
oM 16 15,
oN 17 16 true 0,
oQ 18 16 true (.nilCheck (.t 17)),
oQ 19 16 true (.fieldAddr (.t 18) 1),
oQ 20 16 true (.load (.t 19) none),
oN 21 16 true 3,
oQ 22 16 true (.idxS (.t 20) (.t 21) 7),
oQ 23 16 true (.fieldAddr (.t 22) 5),
oQ 24 16 true (.load (.t 23) none),
oP 25 (.pick (.t 16) (.t 24) (.k (.bool false)))])
 (.cond (.t 25)
 (.seq
 (.ops [
oP 2 (.move (.k (.bool true)))])
 .ret)
 .skip))))
 (.ops [
oC 26 .add 10 1,
oM 10 26])))))))
 (.seq
 (.ops [
oP 2 (.move (.k (.bool false)))])
 .ret)))
def body197 : ACode := (.seq
 (.ops [
oB 13 .lss 12 11])
 (.seq
 (.cond (.t 13)
 .skip
 (.exit 0))
 (.seq
 (.block 1
 (.seq
 (.ops [
oI 14 10 12 2,
oD 15 14 2,
oP 8 (.alloc [.int .i64 0, .int .i64 0]),
oT 8 15 2])
 (.seq
 (.ops [
oM 16 0,
oF 17 8 0,
oL 18 17,
oP 19 (.max [.t 16, .t 18]),
oM 20 1,
oB 21 .add 19 20,
oM 9 21])
 (.seq
 (.ops [
oM 22 9,
oF 23 8 1,
oL 24 23,
oB 25 .leq 22 24])
 (.cond (.t 25)
 (.seq
 (.ops [
oM 26 9,
oM 6 26])
 .ret)
 .skip)))))
 (.ops [
oC 27 .add 12 1,
oM 12 27]))))
def F197 : AFunc :=
 .fn 28 [.tmp 6]
 (.seq
 (.ops [
oP 6 (.move (oK 0))])
 (.seq
 (.seq
 (.ops [
oM 10 2,
oP 11 (.len (.t 10)),
oP 12 (.move (oK 0))])
 (.block 0
 (.loop body197)))
 (.seq
 (.ops [
oP 6 (.move (oK 1099511627776))])
 .ret)))
def body198 : ACode := (.seq
 (.ops [
oB 9 .lss 8 7])
 (.seq
 (.cond (.t 9)
 .skip
 (.exit 0))
 (.seq
 (.block 1
 (.seq
 (.ops [
oM 10 8,
oM 5 10])
 (.seq
 (.ops [
oM 11 1,
oM 12 0,
oM 13 5,
oI 14 12 13 7,
oD 15 14 7,
oP 16 (.call (.t 11) [.t 15] false)])
 (.cond (.t 16)
 (.seq
 (.ops [
oM 17 5,
oM 4 17])
 .ret)
 .skip))))
 (.ops [
oC 18 .add 8 1,
oM 8 18]))))
def F198 : AFunc :=
 .fn 19 [.tmp 4]
 (.seq
 (.ops [
oP 4 (.move (oK 0))])
 (.seq
 (.seq
 (.ops [
oM 6 0,
oP 7 (.len (.t 6)),
oP 8 (.move (oK 0))])
 (.block 0
 (.loop body198)))
 (.seq
 (.ops [
oP 4 (.move (oK (-1)))])
 .ret)))
def body199 : ACode := (.seq
 (.ops [
oB 9 .lss 8 7])
 (.seq
 (.cond (.t 9)
 .skip
 (.exit 0))
 (.seq
 (.block 1
 (.seq
 (.ops [
oM 10 8,
oM 5 10])
 (.seq
 (.ops [
oM 11 1,
oM 12 0,
oM 13 5,
oI 14 12 13 1,
oL 15 14,
oB 16 .eql 11 15])
 (.cond (.t 16)
 (.seq
 (.ops [
oM 17 5,
oM 4 17])
 .ret)
 .skip))))
 (.ops [
oC 18 .add 8 1,
oM 8 18]))))
def F199 : AFunc :=
 .fn 19 [.tmp 4]
 (.seq
 (.ops [
oP 4 (.move (oK 0))])
 (.seq
 (.seq
 (.ops [
oM 6 0,
oP 7 (.len (.t 6)),
oP 8 (.move (oK 0))])
 (.block 0
 (.loop body199)))
 (.seq
 (.ops [
oP 4 (.move (oK (-1)))])
 .ret)))
def F200 : AFunc :=
 .fn 8 []
 (.seq
 (.ops [
oL 2 0,
oP 3 (.call (.t 2) [] false)])
 (.ops [
oL 4 1,
oP 5 (.nilCheck (.t 4)),
oF 6 5 5,
oL 7 6,
⟨none, none, [], .clearM (.t 7)⟩]))
def F201 : AFunc :=
 .fn 14 [.tmp 2]
 (.seq
 (.ops [
oP 2 (.move (.k (.bool false)))])
 (.seq
 (.ops [
oL 3 0,
oC 4 .geq 3 0,
oM 5 4,
oQ 6 5 true (.load (.t 0) none),
oQ 7 5 true (.load (.t 1) none),
oQ 8 5 true (.nilCheck (.t 7)),
oQ 9 5 true (.fieldAddr (.t 8) 1),
oQ 10 5 true (.load (.t 9) none),
oQ 11 5 true (.len (.t 10)),
oQ 12 5 true (.bin .lss (.t 6) (.t 11)),
oP 13 (.pick (.t 5) (.t 12) (.k (.bool false))),
oM 2 13])
 .ret))
def body202 : ACode := (.seq
 (.ops [
oB 9 .lss 8 7])
 (.seq
 (.cond (.t 9)
 .skip
 (.exit 0))
 (.seq
 (.block 1
 (.seq
 (.ops [
oM 10 8,
oM 5 10])
 (.seq
 (.ops [
oM 11 1,
oM 12 0,
oM 13 5,
oI 14 12 13 1,
oL 15 14,
oP 16 (.call (.t 11) [.t 15] false)])
 (.cond (.t 16)
 (.seq
 (.ops [
oM 17 5,
oM 4 17])
 .ret)
 .skip))))
 (.ops [
oC 18 .add 8 1,
oM 8 18]))))
def F202 : AFunc :=
 .fn 19 [.tmp 4]
 (.seq
 (.ops [
oP 4 (.move (oK 0))])
 (.seq
 (.seq
 (.ops [
oM 6 0,
oP 7 (.len (.t 6)),
oP 8 (.move (oK 0))])
 (.block 0
 (.loop body202)))
 (.seq
 (.ops [
oP 4 (.move (oK (-1)))])
 .ret)))
def body203 : ACode := (.seq
 (.ops [
oB 9 .lss 8 7])
 (.seq
 (.cond (.t 9)
 .skip
 (.exit 0))
 (.seq
 (.block 1
 (.seq
 (.ops [
oM 10 8,
oM 5 10])
 (.seq
 (.ops [
oM 11 1,
oM 12 0,
oM 13 5,
oI 14 12 13 1,
oL 15 14,
oP 16 (.beq false (.t 11) (.t 15))])
 (.cond (.t 16)
 (.seq
 (.ops [
oM 17 5,
oM 4 17])
 .ret)
 .skip))))
 (.ops [
oC 18 .add 8 1,
oM 8 18]))))
def F203 : AFunc :=
 .fn 19 [.tmp 4]
 (.seq
 (.ops [
oP 4 (.move (oK 0))])
 (.seq
 (.seq
 (.ops [
oM 6 0,
oP 7 (.len (.t 6)),
oP 8 (.move (oK 0))])
 (.block 0
 (.loop body203)))
 (.seq
 (.ops [
oP 4 (.move (oK (-1)))])
 .ret)))
def F204 : AFunc :=
 .fn 5 [.tmp 2]
 (.seq
 (.ops [
oP 2 (.move (.k (.slice none 0 0)))])
 (.seq
 (.ops [
oM 3 0,
oA 4 207 [.k (.slice none 0 0), .t 3] false,
oM 2 4])
 .ret))
def F205 : AFunc :=
 .fn 11 []
 (.seq
 (.ops [
oM 3 0,
oP 4 (.len (.t 3)),
oM 2 4])
 (.ops [
oM 5 0,
oM 6 2,
oM 7 2,
oP 8 (.toInt .u64 (.t 7)),
oA 9 209 [.t 8] false,
oA 10 208 [.t 5, .k (.int .i64 0), .t 6, .t 9] false]))
def F206 : AFunc :=
 .fn 14 []
 (.seq
 (.ops [
oL 4 1,
oP 5 (.rangeI (.t 4))])
 (.block 0
 (.loop
 (.seq
 (.ops [
oP 6 (.nextI (.t 5)),
oX 7 6 0])
 (.seq
 (.cond (.t 7)
 .skip
 (.exit 0))
 (.block 1
 (.seq
 (.ops [
oP 8 (.entryI (.t 5)),
oX 9 8 0,
oM 3 9])
 (.seq
 (.ops [
oM 10 0,
oM 11 3,
oP 12 (.call (.t 10) [.t 11] false),
oP 13 (.not (.t 12))])
 (.cond (.t 13)
 .ret
 .skip)))))))))
def F207 : AFunc :=
 .fn 13 [.tmp 4]
 (.seq
 (.ops [
oP 2 (.box (.t 0)),
oP 4 (.move (.k (.slice none 0 0)))])
 (.seq
 (.seq
 (.ops [
oM 6 1])
 (.block 0
 (.rangeF (.t 6) [7]
 (.ops [
oM 5 7])
 (.block 1
 (.ops [
oL 8 2,
oM 9 5,
⟨some 10, none, [], .slit 1 1 [.string ⟨⟨[]⟩⟩] [(0, .t 9)]⟩,
oP 11 (.append (.t 8) (.t 10) 1 16),
oT 2 11 1])))))
 (.seq
 (.ops [
oL 12 2,
oM 4 12])
 .ret)))
def F208 : AFunc :=
 .fn 134 []
 (.seq
 (.ops [
oP 8 (.move (.k (.bool true)))])
 (.seq
 (.ops [
oP 9 (.move (.k (.bool true)))])
 (.block 0
 (.loop
 (.block 1
 (.seq
 (.ops [
oM 19 2,
oM 20 1,
oB 21 .sub 19 20,
oM 10 21])
 (.seq
 (.seq
 (.ops [
oM 22 10,
oC 23 .leq 22 12])
 (.cond (.t 23)
 (.seq
 (.ops [
oM 24 0,
oM 25 1,
oM 26 2,
oA 27 210 [.t 24, .t 25, .t 26] false])
 .ret)
 .skip))
 (.seq
 (.seq
 (.ops [
oM 28 3,
oC 29 .eql 28 0])
 (.cond (.t 29)
 (.seq
 (.ops [
oM 30 0,
oM 31 1,
oM 32 2,
oA 33 211 [.t 30, .t 31, .t 32] false])
 .ret)
 .skip))
 (.seq
 (.seq
 (.ops [
oM 34 8,
oP 35 (.not (.t 34))])
 (.cond (.t 35)
 (.seq
 (.ops [
oM 36 0,
oM 37 1,
oM 38 2,
oA 39 212 [.t 36, .t 37, .t 38] false])
 (.ops [
oM 40 3,
oC 41 .sub 40 1,
oM 3 41]))
 .skip))
 (.seq
 (.ops [
oM 43 0,
oM 44 1,
oM 45 2,
oA 46 213 [.t 43, .t 44, .t 45] false,
oM 42 46,
oX 47 42 0,
oX 48 42 1,
oM 11 47,
oM 12 48])
 (.seq
 (.seq
 (.ops [
oM 49 12,
oC 50 .eql 49 2])
 (.cond (.t 50)
 (.seq
 (.ops [
oM 51 0,
oM 52 1,
oM 53 2,
oA 54 214 [.t 51, .t 52, .t 53] false])
 (.seq
 (.ops [
oM 55 2,
oC 56 .sub 55 1,
oM 57 11,
oM 58 1,
oB 59 .sub 57 58,
oB 60 .sub 56 59,
oM 11 60])
 (.ops [
oP 12 (.move (oK 1))])))
 .skip))
 (.seq
 (.seq
 (.ops [
oM 61 8,
oM 62 61,
oN 63 62 true 9,
oP 64 (.pick (.t 62) (.t 63) (.k (.bool false))),
oM 65 64,
oN 66 65 true 12,
oQ 67 65 true (.bin .eql (.t 66) (oK 1)),
oP 68 (.pick (.t 65) (.t 67) (.k (.bool false)))])
 (.cond (.t 68)
 (.seq
 (.ops [
oM 69 0,
oM 70 1,
oM 71 2,
oA 72 215 [.t 69, .t 70, .t 71] false])
 (.cond (.t 72)
 .ret
 .skip))
 .skip))
 (.seq
 (.seq
 (.ops [
oM 73 1,
oC 74 .gtr 73 0,
oM 75 74,
oN 76 75 true 0,
oN 77 75 true 1,
oQ 78 75 true (.bin .sub (.t 77) (oK 1)),
oQ 79 75 true (.idxS (.t 76) (.t 78) 1),
oQ 80 75 true (.load (.t 79) none),
oN 81 75 true 0,
oN 82 75 true 11,
oQ 83 75 true (.idxS (.t 81) (.t 82) 1),
oQ 84 75 true (.load (.t 83) none),
oQ 85 75 true (.call (.k (.func (.func 216) ⟨[]⟩ ⟨[]⟩)) [.t 80, .t 84] false),
oQ 86 75 true (.not (.t 85)),
oP 87 (.pick (.t 75) (.t 86) (.k (.bool false)))])
 (.cond (.t 87)
 (.seq
 (.ops [
oM 88 0,
oM 89 1,
oM 90 2,
oM 91 11,
oA 92 217 [.t 88, .t 89, .t 90, .t 91] false,
oM 13 92])
 (.seq
 (.ops [
oM 93 13,
oM 1 93])
 (.exit 1)))
 .skip))
 (.seq
 (.ops [
oM 95 0,
oM 96 1,
oM 97 2,
oM 98 11,
oA 99 218 [.t 95, .t 96, .t 97, .t 98] false,
oM 94 99,
oX 100 94 0,
oX 101 94 1,
oM 14 100,
oM 15 101])
 (.seq
 (.ops [
oM 102 15,
oM 9 102])
 (.seq
 (.ops [
oM 103 14,
oM 104 1,
oB 105 .sub 103 104,
oM 106 2,
oM 107 14,
oB 108 .sub 106 107,
oM 16 105,
oM 17 108])
 (.seq
 (.ops [
oM 109 10,
oC 110 .quo 109 8,
oM 18 110])
 (.seq
 (.ops [
oM 111 16,
oM 112 17,
oB 113 .lss 111 112])
 (.cond (.t 113)
 (.seq
 (.ops [
oM 114 16,
oM 115 18,
oB 116 .geq 114 115,
oM 8 116])
 (.seq
 (.ops [
oM 117 0,
oM 118 1,
oM 119 14,
oM 120 3,
oA 121 208 [.t 117, .t 118, .t 119, .t 120] false])
 (.ops [
oM 122 14,
oC 123 .add 122 1,
oM 1 123])))
 (.seq
 (.ops [
oM 124 17,
oM 125 18,
oB 126 .geq 124 125,
oM 8 126])
 (.seq
 (.ops [
oM 127 0,
oM 128 14,
oC 129 .add 128 1,
oM 130 2,
oM 131 3,
oA 132 208 [.t 127, .t 129, .t 130, .t 131] false])
 (.ops [
oM 133 14,
oM 2 133]))))))))))))))))))))))
def F209 : AFunc :=
 .fn 8 [.tmp 2]
 (.seq
 (.ops [
oP 2 (.move (oK 0))])
 (.seq
 (.cond (.k (.bool false))
 (.seq
 (.ops [
oM 3 0,
oP 4 (.toInt .u32 (.t 3)),
oA 5 219 [.t 4] false,
oM 2 5])
 .ret)
 .skip)
 (.seq
 (.ops [
oM 6 0,
oA 7 220 [.t 6] false,
oM 2 7])
 .ret)))
def body210i : ACode := (.seq
 (.seq
 (.ops [
oM 16 7,
oM 17 1,
oB 18 .gtr 16 17,
oM 19 18,
oN 20 19 true 0,
oN 21 19 true 7,
oQ 22 19 true (.idxS (.t 20) (.t 21) 1),
oQ 23 19 true (.load (.t 22) none),
oN 24 19 true 0,
oN 25 19 true 7,
oQ 26 19 true (.bin .sub (.t 25) (oK 1)),
oQ 27 19 true (.idxS (.t 24) (.t 26) 1),
oQ 28 19 true (.load (.t 27) none),
oQ 29 19 true (.call (.k (.func (.func 216) ⟨[]⟩ ⟨[]⟩)) [.t 23, .t 28] false),
oP 30 (.pick (.t 19) (.t 29) (.k (.bool false)))])
 (.cond (.t 30)
 .skip
 (.exit 2)))
 (.seq
 (.block 3
 (.ops [
oM 33 0,
oM 34 7,
oM 35 0,
oM 36 7,
oC 37 .sub 36 1,
oM 38 0,
oM 39 7,
oC 40 .sub 39 1,
oI 41 38 40 1,
oL 42 41,
oM 43 0,
oM 44 7,
oI 45 43 44 1,
oL 46 45,
oI 47 33 34 1,
oT 47 42 1,
oI 48 35 37 1,
oT 48 46 1]))
 (.ops [
oM 31 7,
oC 32 .sub 31 1,
oM 7 32])))
def F210 : AFunc :=
 .fn 49 []
 (.seq
 (.ops [
oM 8 1,
oC 9 .add 8 1,
oM 6 9])
 (.block 0
 (.loop
 (.seq
 (.seq
 (.ops [
oM 10 6,
oM 11 2,
oB 12 .lss 10 11])
 (.cond (.t 12)
 .skip
 (.exit 0)))
 (.seq
 (.block 1
 (.seq
 (.ops [
oM 15 6,
oM 7 15])
 (.block 2
 (.loop body210i))))
 (.ops [
oM 13 6,
oC 14 .add 13 1,
oM 6 14]))))))
def F211 : AFunc :=
 .fn 56 []
 (.seq
 (.ops [
oM 11 1,
oM 6 11])
 (.seq
 (.ops [
oP 7 (.move (oK 0))])
 (.seq
 (.ops [
oM 12 2,
oM 13 1,
oB 14 .sub 12 13,
oM 8 14])
 (.seq
 (.seq
 (.ops [
oM 15 8,
oC 16 .sub 15 1,
oC 17 .quo 16 2,
oM 9 17])
 (.block 0
 (.loop
 (.seq
 (.seq
 (.ops [
oM 18 9,
oC 19 .geq 18 0])
 (.cond (.t 19)
 .skip
 (.exit 0)))
 (.seq
 (.block 1
 (.ops [
oM 22 0,
oM 23 9,
oM 24 8,
oM 25 6,
oA 26 221 [.t 22, .t 23, .t 24, .t 25] false]))
 (.ops [
oM 20 9,
oC 21 .sub 20 1,
oM 9 21]))))))
 (.seq
 (.ops [
oM 27 8,
oC 28 .sub 27 1,
oM 10 28])
 (.block 2
 (.loop
 (.seq
 (.seq
 (.ops [
oM 29 10,
oC 30 .geq 29 0])
 (.cond (.t 30)
 .skip
 (.exit 2)))
 (.seq
 (.block 3
 (.seq
 (.ops [
oM 33 0,
oM 34 6,
oM 35 0,
oM 36 6,
oM 37 10,
oB 38 .add 36 37,
oM 39 0,
oM 40 6,
oM 41 10,
oB 42 .add 40 41,
oI 43 39 42 1,
oL 44 43,
oM 45 0,
oM 46 6,
oI 47 45 46 1,
oL 48 47,
oI 49 33 34 1,
oT 49 44 1,
oI 50 35 38 1,
oT 50 48 1])
 (.ops [
oM 51 0,
oM 52 7,
oM 53 10,
oM 54 6,
oA 55 221 [.t 51, .t 52, .t 53, .t 54] false])))
 (.ops [
oM 31 10,
oC 32 .sub 31 1,
oM 10 32]))))))))))
def F212 : AFunc :=
 .fn 65 []
 (.seq
 (.ops [
oM 11 2,
oM 12 1,
oB 13 .sub 11 12,
oM 6 13])
 (.seq
 (.ops [
oM 14 6,
oC 15 .geq 14 8])
 (.cond (.t 15)
 (.seq
 (.ops [
oM 16 6,
oP 17 (.toInt .u64 (.t 16)),
oP 7 (.alloc [.int .u64 0]),
oT 7 17 1])
 (.seq
 (.ops [
oM 18 6,
oA 19 222 [.t 18] false,
oM 8 19])
 (.seq
 (.ops [
oM 20 1,
oM 21 6,
oC 22 .quo 21 4,
oC 23 .mul 22 2,
oB 24 .add 20 23,
oC 25 .sub 24 1,
oM 9 25])
 (.block 0
 (.loop
 (.seq
 (.seq
 (.ops [
oM 26 9,
oM 27 1,
oM 28 6,
oC 29 .quo 28 4,
oC 30 .mul 29 2,
oB 31 .add 27 30,
oC 32 .add 31 1,
oB 33 .leq 26 32])
 (.cond (.t 33)
 .skip
 (.exit 0)))
 (.seq
 (.block 1
 (.seq
 (.ops [
oA 36 223 [.t 7] false,
oM 37 8,
oP 38 (.bin .sub (.t 37) (.k (.int .u64 1))),
oB 39 .and 36 38,
oP 40 (.toInt .i64 (.t 39)),
oM 10 40])
 (.seq
 (.seq
 (.ops [
oM 41 10,
oM 42 6,
oB 43 .geq 41 42])
 (.cond (.t 43)
 (.ops [
oM 44 10,
oM 45 6,
oB 46 .sub 44 45,
oM 10 46])
 .skip))
 (.ops [
oM 47 0,
oM 48 9,
oM 49 0,
oM 50 1,
oM 51 10,
oB 52 .add 50 51,
oM 53 0,
oM 54 1,
oM 55 10,
oB 56 .add 54 55,
oI 57 53 56 1,
oL 58 57,
oM 59 0,
oM 60 9,
oI 61 59 60 1,
oL 62 61,
oI 63 47 48 1,
oT 63 58 1,
oI 64 49 52 1,
oT 64 62 1]))))
 (.ops [
oM 34 9,
oC 35 .add 34 1,
oM 9 35]))))))))
 .skip)))
def F213 : AFunc :=
 .fn 57 [.tmp 6, .tmp 7]
 (.seq
 (.ops [
oP 6 (.move (oK 0)),
oP 7 (.move (oK 0))])
 (.seq
 (.ops [
oM 13 2,
oM 14 1,
oB 15 .sub 13 14,
oM 8 15])
 (.seq
 (.ops [
oP 9 (.alloc [.int .i64 0])])
 (.seq
 (.ops [
oM 16 1,
oM 17 8,
oC 18 .quo 17 4,
oC 19 .mul 18 1,
oB 20 .add 16 19,
oM 10 20])
 (.seq
 (.ops [
oM 21 1,
oM 22 8,
oC 23 .quo 22 4,
oC 24 .mul 23 2,
oB 25 .add 21 24,
oM 11 25])
 (.seq
 (.ops [
oM 26 1,
oM 27 8,
oC 28 .quo 27 4,
oC 29 .mul 28 3,
oB 30 .add 26 29,
oM 12 30])
 (.seq
 (.seq
 (.ops [
oM 31 8,
oC 32 .geq 31 8])
 (.cond (.t 32)
 (.seq
 (.seq
 (.ops [
oM 33 8,
oC 34 .geq 33 50])
 (.cond (.t 34)
 (.seq
 (.ops [
oM 35 0,
oM 36 10,
oA 37 224 [.t 35, .t 36, .t 9] false,
oM 10 37])
 (.seq
 (.ops [
oM 38 0,
oM 39 11,
oA 40 224 [.t 38, .t 39, .t 9] false,
oM 11 40])
 (.ops [
oM 41 0,
oM 42 12,
oA 43 224 [.t 41, .t 42, .t 9] false,
oM 12 43])))
 .skip))
 (.ops [
oM 44 0,
oM 45 10,
oM 46 11,
oM 47 12,
oA 48 225 [.t 44, .t 45, .t 46, .t 47, .t 9] false,
oM 11 48]))
 .skip))
 (.seq
 (.ops [
oL 49 9])
 (.block 0
 (.seq
 (.ops [
oC 52 .eql 49 0,
oM 51 52])
 (.cond (.t 51)
 (.seq
 (.ops [
oM 53 11,
oM 6 53,
oP 7 (.move (oK 1))])
 .ret)
 (.seq
 (.ops [
oC 55 .eql 49 12,
oM 54 55])
 (.cond (.t 54)
 (.seq
 (.ops [
oM 56 11,
oM 6 56,
oP 7 (.move (oK 2))])
 .ret)
 (.seq
 (.ops [
oM 50 11,
oM 6 50,
oP 7 (.move (oK 0))])
 .ret))))))))))))))
def F214 : AFunc :=
 .fn 32 []
 (.seq
 (.ops [
oM 8 1,
oM 6 8])
 (.seq
 (.ops [
oM 9 2,
oC 10 .sub 9 1,
oM 7 10])
 (.block 0
 (.loop
 (.seq
 (.seq
 (.ops [
oM 11 6,
oM 12 7,
oB 13 .lss 11 12])
 (.cond (.t 13)
 .skip
 (.exit 0)))
 (.block 1
 (.seq
 (.ops [
oM 14 0,
oM 15 6,
oM 16 0,
oM 17 7,
oM 18 0,
oM 19 7,
oI 20 18 19 1,
oL 21 20,
oM 22 0,
oM 23 6,
oI 24 22 23 1,
oL 25 24,
oI 26 14 15 1,
oT 26 21 1,
oI 27 16 17 1,
oT 27 25 1])
 (.seq
 (.ops [
oM 28 6,
oC 29 .add 28 1,
oM 6 29])
 (.ops [
oM 30 7,
oC 31 .sub 30 1,
oM 7 31])))))))))
def F215 : AFunc :=
 .fn 133 [.tmp 6]
 (.seq
 (.ops [
oP 6 (.move (.k (.bool false)))])
 (.seq
 (.ops [
oM 11 1,
oC 12 .add 11 1,
oM 7 12])
 (.seq
 (.seq
 (.ops [
oP 8 (.move (oK 0))])
 (.block 0
 (.loop
 (.seq
 (.seq
 (.ops [
oM 13 8,
oC 14 .lss 13 5])
 (.cond (.t 14)
 .skip
 (.exit 0)))
 (.seq
 (.block 1
 (.seq
 (.block 2
 (.loop
 (.seq
 (.seq
 (.ops [
oM 17 7,
oM 18 2,
oB 19 .lss 17 18,
oM 20 19,
oN 21 20 true 0,
oN 22 20 true 7,
oQ 23 20 true (.idxS (.t 21) (.t 22) 1),
oQ 24 20 true (.load (.t 23) none),
oN 25 20 true 0,
oN 26 20 true 7,
oQ 27 20 true (.bin .sub (.t 26) (oK 1)),
oQ 28 20 true (.idxS (.t 25) (.t 27) 1),
oQ 29 20 true (.load (.t 28) none),
oQ 30 20 true (.call (.k (.func (.func 216) ⟨[]⟩ ⟨[]⟩)) [.t 24, .t 29] false),
oQ 31 20 true (.not (.t 30)),
oP 32 (.pick (.t 20) (.t 31) (.k (.bool false)))])
 (.cond (.t 32)
 .skip
 (.exit 2)))
 (.block 3
 (.ops [
oM 33 7,
oC 34 .add 33 1,
oM 7 34])))))
 (.seq
 (.seq
 (.ops [
oM 35 7,
oM 36 2,
oB 37 .eql 35 36])
 (.cond (.t 37)
 (.seq
 (.ops [
oP 6 (.move (.k (.bool true)))])
 .ret)
 .skip))
 (.seq
 (.seq
 (.ops [
oM 38 2,
oM 39 1,
oB 40 .sub 38 39,
oC 41 .lss 40 50])
 (.cond (.t 41)
 (.seq
 (.ops [
oP 6 (.move (.k (.bool false)))])
 .ret)
 .skip))
 (.seq
 (.ops [
oM 42 0,
oM 43 7,
oM 44 0,
oM 45 7,
oC 46 .sub 45 1,
oM 47 0,
oM 48 7,
oC 49 .sub 48 1,
oI 50 47 49 1,
oL 51 50,
oM 52 0,
oM 53 7,
oI 54 52 53 1,
oL 55 54,
oI 56 42 43 1,
oT 56 51 1,
oI 57 44 46 1,
oT 57 55 1])
 (.seq
 (.seq
 (.ops [
oM 58 7,
oM 59 1,
oB 60 .sub 58 59,
oC 61 .geq 60 2])
 (.cond (.t 61)
 (.seq
 (.ops [
oM 62 7,
oC 63 .sub 62 1,
oM 9 63])
 (.block 4
 (.loop
 (.seq
 (.seq
 (.ops [
oM 64 9,
oC 65 .geq 64 1])
 (.cond (.t 65)
 .skip
 (.exit 4)))
 (.seq
 (.block 5
 (.seq
 (.seq
 (.ops [
oM 68 0,
oM 69 9,
oI 70 68 69 1,
oL 71 70,
oM 72 0,
oM 73 9,
oC 74 .sub 73 1,
oI 75 72 74 1,
oL 76 75,
oA 77 216 [.t 71, .t 76] false,
oP 78 (.not (.t 77))])
 (.cond (.t 78)
 (.exit 4)
 .skip))
 (.ops [
oM 79 0,
oM 80 9,
oM 81 0,
oM 82 9,
oC 83 .sub 82 1,
oM 84 0,
oM 85 9,
oC 86 .sub 85 1,
oI 87 84 86 1,
oL 88 87,
oM 89 0,
oM 90 9,
oI 91 89 90 1,
oL 92 91,
oI 93 79 80 1,
oT 93 88 1,
oI 94 81 83 1,
oT 94 92 1])))
 (.ops [
oM 66 9,
oC 67 .sub 66 1,
oM 9 67]))))))
 .skip))
 (.seq
 (.ops [
oM 95 2,
oM 96 7,
oB 97 .sub 95 96,
oC 98 .geq 97 2])
 (.cond (.t 98)
 (.seq
 (.ops [
oM 99 7,
oC 100 .add 99 1,
oM 10 100])
 (.block 6
 (.loop
 (.seq
 (.seq
 (.ops [
oM 101 10,
oM 102 2,
oB 103 .lss 101 102])
 (.cond (.t 103)
 .skip
 (.exit 6)))
 (.seq
 (.block 7
 (.seq
 (.seq
 (.ops [
oM 106 0,
oM 107 10,
oI 108 106 107 1,
oL 109 108,
oM 110 0,
oM 111 10,
oC 112 .sub 111 1,
oI 113 110 112 1,
oL 114 113,
oA 115 216 [.t 109, .t 114] false,
oP 116 (.not (.t 115))])
 (.cond (.t 116)
 (.exit 6)
 .skip))
 (.ops [
oM 117 0,
oM 118 10,
oM 119 0,
oM 120 10,
oC 121 .sub 120 1,
oM 122 0,
oM 123 10,
oC 124 .sub 123 1,
oI 125 122 124 1,
oL 126 125,
oM 127 0,
oM 128 10,
oI 129 127 128 1,
oL 130 129,
oI 131 117 118 1,
oT 131 126 1,
oI 132 119 121 1,
oT 132 130 1])))
 (.ops [
oM 104 10,
oC 105 .add 104 1,
oM 10 105]))))))
 .skip))))))))
 (.ops [
oM 15 8,
oC 16 .add 15 1,
oM 8 16]))))))
 (.seq
 (.ops [
oP 6 (.move (.k (.bool false)))])
 .ret))))
def F216 : AFunc :=
 .fn 17 [.tmp 4]
 (.seq
 (.ops [
oP 4 (.move (.k (.bool false)))])
 (.seq
 (.ops [
oM 5 0,
oA 6 226 [.t 5] false,
oM 7 6,
oN 8 7 true 1,
oQ 9 7 true (.call (.k (.func (.func 226) ⟨[]⟩ ⟨[]⟩)) [.t 8] false),
oQ 10 7 true (.not (.t 9)),
oP 11 (.pick (.t 7) (.t 10) (.k (.bool false))),
oM 12 11,
oN 13 12 false 0,
oN 14 12 false 1,
oQ 15 12 false (.strOp .lss (.t 13) (.t 14)),
oP 16 (.pick (.t 12) (.k (.bool true)) (.t 15)),
oM 4 16])
 .ret))
def F217 : AFunc :=
 .fn 84 [.tmp 8]
 (.seq
 (.ops [
oP 8 (.move (oK 0))])
 (.seq
 (.ops [
oM 11 0,
oM 12 1,
oM 13 0,
oM 14 3,
oM 15 0,
oM 16 3,
oI 17 15 16 1,
oL 18 17,
oM 19 0,
oM 20 1,
oI 21 19 20 1,
oL 22 21,
oI 23 11 12 1,
oT 23 18 1,
oI 24 13 14 1,
oT 24 22 1])
 (.seq
 (.ops [
oM 25 1,
oC 26 .add 25 1,
oM 27 2,
oC 28 .sub 27 1,
oM 9 26,
oM 10 28])
 (.seq
 (.block 0
 (.loop
 (.block 1
 (.seq
 (.block 2
 (.loop
 (.seq
 (.seq
 (.ops [
oM 29 9,
oM 30 10,
oB 31 .leq 29 30,
oM 32 31,
oN 33 32 true 0,
oN 34 32 true 1,
oQ 35 32 true (.idxS (.t 33) (.t 34) 1),
oQ 36 32 true (.load (.t 35) none),
oN 37 32 true 0,
oN 38 32 true 9,
oQ 39 32 true (.idxS (.t 37) (.t 38) 1),
oQ 40 32 true (.load (.t 39) none),
oQ 41 32 true (.call (.k (.func (.func 216) ⟨[]⟩ ⟨[]⟩)) [.t 36, .t 40] false),
oQ 42 32 true (.not (.t 41)),
oP 43 (.pick (.t 32) (.t 42) (.k (.bool false)))])
 (.cond (.t 43)
 .skip
 (.exit 2)))
 (.block 3
 (.ops [
oM 44 9,
oC 45 .add 44 1,
oM 9 45])))))
 (.seq
 (.block 4
 (.loop
 (.seq
 (.seq
 (.ops [
oM 46 9,
oM 47 10,
oB 48 .leq 46 47,
oM 49 48,
oN 50 49 true 0,
oN 51 49 true 1,
oQ 52 49 true (.idxS (.t 50) (.t 51) 1),
oQ 53 49 true (.load (.t 52) none),
oN 54 49 true 0,
oN 55 49 true 10,
oQ 56 49 true (.idxS (.t 54) (.t 55) 1),
oQ 57 49 true (.load (.t 56) none),
oQ 58 49 true (.call (.k (.func (.func 216) ⟨[]⟩ ⟨[]⟩)) [.t 53, .t 57] false),
oP 59 (.pick (.t 49) (.t 58) (.k (.bool false)))])
 (.cond (.t 59)
 .skip
 (.exit 4)))
 (.block 5
 (.ops [
oM 60 10,
oC 61 .sub 60 1,
oM 10 61])))))
 (.seq
 (.seq
 (.ops [
oM 62 9,
oM 63 10,
oB 64 .gtr 62 63])
 (.cond (.t 64)
 (.exit 0)
 .skip))
 (.seq
 (.ops [
oM 65 0,
oM 66 9,
oM 67 0,
oM 68 10,
oM 69 0,
oM 70 10,
oI 71 69 70 1,
oL 72 71,
oM 73 0,
oM 74 9,
oI 75 73 74 1,
oL 76 75,
oI 77 65 66 1,
oT 77 72 1,
oI 78 67 68 1,
oT 78 76 1])
 (.seq
 (.ops [
oM 79 9,
oC 80 .add 79 1,
oM 9 80])
 (.ops [
oM 81 10,
oC 82 .sub 81 1,
oM 10 82])))))))))
 (.seq
 (.ops [
oM 83 9,
oM 8 83])
 .ret)))))
def F218 : AFunc :=
 .fn 168 [.tmp 8, .tmp 9]
 (.seq
 (.ops [
oP 8 (.move (oK 0)),
oP 9 (.move (.k (.bool false)))])
 (.seq
 (.ops [
oM 12 0,
oM 13 1,
oM 14 0,
oM 15 3,
oM 16 0,
oM 17 3,
oI 18 16 17 1,
oL 19 18,
oM 20 0,
oM 21 1,
oI 22 20 21 1,
oL 23 22,
oI 24 12 13 1,
oT 24 19 1,
oI 25 14 15 1,
oT 25 23 1])
 (.seq
 (.ops [
oM 26 1,
oC 27 .add 26 1,
oM 28 2,
oC 29 .sub 28 1,
oM 10 27,
oM 11 29])
 (.seq
 (.block 0
 (.loop
 (.seq
 (.seq
 (.ops [
oM 30 10,
oM 31 11,
oB 32 .leq 30 31,
oM 33 32,
oN 34 33 true 0,
oN 35 33 true 10,
oQ 36 33 true (.idxS (.t 34) (.t 35) 1),
oQ 37 33 true (.load (.t 36) none),
oN 38 33 true 0,
oN 39 33 true 1,
oQ 40 33 true (.idxS (.t 38) (.t 39) 1),
oQ 41 33 true (.load (.t 40) none),
oQ 42 33 true (.call (.k (.func (.func 216) ⟨[]⟩ ⟨[]⟩)) [.t 37, .t 41] false),
oP 43 (.pick (.t 33) (.t 42) (.k (.bool false)))])
 (.cond (.t 43)
 .skip
 (.exit 0)))
 (.block 1
 (.ops [
oM 44 10,
oC 45 .add 44 1,
oM 10 45])))))
 (.seq
 (.block 2
 (.loop
 (.seq
 (.seq
 (.ops [
oM 46 10,
oM 47 11,
oB 48 .leq 46 47,
oM 49 48,
oN 50 49 true 0,
oN 51 49 true 11,
oQ 52 49 true (.idxS (.t 50) (.t 51) 1),
oQ 53 49 true (.load (.t 52) none),
oN 54 49 true 0,
oN 55 49 true 1,
oQ 56 49 true (.idxS (.t 54) (.t 55) 1),
oQ 57 49 true (.load (.t 56) none),
oQ 58 49 true (.call (.k (.func (.func 216) ⟨[]⟩ ⟨[]⟩)) [.t 53, .t 57] false),
oQ 59 49 true (.not (.t 58)),
oP 60 (.pick (.t 49) (.t 59) (.k (.bool false)))])
 (.cond (.t 60)
 .skip
 (.exit 2)))
 (.block 3
 (.ops [
oM 61 11,
oC 62 .sub 61 1,
oM 11 62])))))
 (.seq
 (.seq
 (.ops [
oM 63 10,
oM 64 11,
oB 65 .gtr 63 64])
 (.cond (.t 65)
 (.seq
 (.ops [
oM 66 0,
oM 67 11,
oM 68 0,
oM 69 1,
oM 70 0,
oM 71 1,
oI 72 70 71 1,
oL 73 72,
oM 74 0,
oM 75 11,
oI 76 74 75 1,
oL 77 76,
oI 78 66 67 1,
oT 78 73 1,
oI 79 68 69 1,
oT 79 77 1])
 (.seq
 (.ops [
oM 80 11,
oM 8 80,
oP 9 (.move (.k (.bool true)))])
 .ret))
 .skip))
 (.seq
 (.ops [
oM 81 0,
oM 82 10,
oM 83 0,
oM 84 11,
oM 85 0,
oM 86 11,
oI 87 85 86 1,
oL 88 87,
oM 89 0,
oM 90 10,
oI 91 89 90 1,
oL 92 91,
oI 93 81 82 1,
oT 93 88 1,
oI 94 83 84 1,
oT 94 92 1])
 (.seq
 (.ops [
oM 95 10,
oC 96 .add 95 1,
oM 10 96])
 (.seq
 (.ops [
oM 97 11,
oC 98 .sub 97 1,
oM 11 98])
 (.seq
 (.block 4
 (.loop
 (.block 5
 (.seq
 (.block 6
 (.loop
 (.seq
 (.seq
 (.ops [
oM 99 10,
oM 100 11,
oB 101 .leq 99 100,
oM 102 101,
oN 103 102 true 0,
oN 104 102 true 10,
oQ 105 102 true (.idxS (.t 103) (.t 104) 1),
oQ 106 102 true (.load (.t 105) none),
oN 107 102 true 0,
oN 108 102 true 1,
oQ 109 102 true (.idxS (.t 107) (.t 108) 1),
oQ 110 102 true (.load (.t 109) none),
oQ 111 102 true (.call (.k (.func (.func 216) ⟨[]⟩ ⟨[]⟩)) [.t 106, .t 110] false),
oP 112 (.pick (.t 102) (.t 111) (.k (.bool false)))])
 (.cond (.t 112)
 .skip
 (.exit 6)))
 (.block 7
 (.ops [
oM 113 10,
oC 114 .add 113 1,
oM 10 114])))))
 (.seq
 (.block 8
 (.loop
 (.seq
 (.seq
 (.ops [
oM 115 10,
oM 116 11,
oB 117 .leq 115 116,
oM 118 117,
oN 119 118 true 0,
oN 120 118 true 11,
oQ 121 118 true (.idxS (.t 119) (.t 120) 1),
oQ 122 118 true (.load (.t 121) none),
oN 123 118 true 0,
oN 124 118 true 1,
oQ 125 118 true (.idxS (.t 123) (.t 124) 1),
oQ 126 118 true (.load (.t 125) none),
oQ 127 118 true (.call (.k (.func (.func 216) ⟨[]⟩ ⟨[]⟩)) [.t 122, .t 126] false),
oQ 128 118 true (.not (.t 127)),
oP 129 (.pick (.t 118) (.t 128) (.k (.bool false)))])
 (.cond (.t 129)
 .skip
 (.exit 8)))
 (.block 9
 (.ops [
oM 130 11,
oC 131 .sub 130 1,
oM 11 131])))))
 (.seq
 (.seq
 (.ops [
oM 132 10,
oM 133 11,
oB 134 .gtr 132 133])
 (.cond (.t 134)
 (.exit 4)
 .skip))
 (.seq
 (.ops [
oM 135 0,
oM 136 10,
oM 137 0,
oM 138 11,
oM 139 0,
oM 140 11,
oI 141 139 140 1,
oL 142 141,
oM 143 0,
oM 144 10,
oI 145 143 144 1,
oL 146 145,
oI 147 135 136 1,
oT 147 142 1,
oI 148 137 138 1,
oT 148 146 1])
 (.seq
 (.ops [
oM 149 10,
oC 150 .add 149 1,
oM 10 150])
 (.ops [
oM 151 11,
oC 152 .sub 151 1,
oM 11 152])))))))))
 (.seq
 (.ops [
oM 153 0,
oM 154 11,
oM 155 0,
oM 156 1,
oM 157 0,
oM 158 1,
oI 159 157 158 1,
oL 160 159,
oM 161 0,
oM 162 11,
oI 163 161 162 1,
oL 164 163,
oI 165 153 154 1,
oT 165 160 1,
oI 166 155 156 1,
oT 166 164 1])
 (.seq
 (.ops [
oM 167 11,
oM 8 167,
oP 9 (.move (.k (.bool false)))])
 .ret))))))))))))
def F219 : AFunc :=
 .fn 19 [.tmp 2]
 (.seq
 (.ops [
oP 2 (.move (oK 0))])
 (.seq
 (.seq
 (.ops [
oM 3 0,
oP 4 (.bin .geq (.t 3) (.k (.int .u32 65536)))])
 (.cond (.t 4)
 (.seq
 (.ops [
oM 5 0,
oP 6 (.bin .shr (.t 5) (.k (.int .u64 16))),
oM 0 6])
 (.ops [
oP 2 (.move (oK 16))]))
 .skip))
 (.seq
 (.seq
 (.ops [
oM 7 0,
oP 8 (.bin .geq (.t 7) (.k (.int .u32 256)))])
 (.cond (.t 8)
 (.seq
 (.ops [
oM 9 0,
oP 10 (.bin .shr (.t 9) (.k (.int .u64 8))),
oM 0 10])
 (.ops [
oM 11 2,
oC 12 .add 11 8,
oM 2 12]))
 .skip))
 (.seq
 (.ops [
oM 13 2,
oM 14 0,
oP 15 (.toInt .u8 (.t 14)),
⟨some 16, none, [], .strIdx (.k (.string ⟨⟨[0, 1, 2, 2, 3, 3, 3, 3, 4, 4, 4, 4, 4, 4, 4, 4, 5, 5, 5, 5, 5, 5, 5, 5, 5, 5, 5, 5, 5, 5, 5, 5, 6, 6, 6, 6, 6, 6, 6, 6, 6, 6, 6, 6, 6, 6, 6, 6, 6, 6, 6, 6, 6, 6, 6, 6, 6, 6, 6, 6, 6, 6, 6, 6, 7, 7, 7, 7, 7, 7, 7, 7, 7, 7, 7, 7, 7, 7, 7, 7, 7, 7, 7, 7, 7, 7, 7, 7, 7, 7, 7, 7, 7, 7, 7, 7, 7, 7, 7, 7, 7, 7, 7, 7, 7, 7, 7, 7, 7, 7, 7, 7, 7, 7, 7, 7, 7, 7, 7, 7, 7, 7, 7, 7, 7, 7, 7, 7, 8, 8, 8, 8, 8, 8, 8, 8, 8, 8, 8, 8, 8, 8, 8, 8, 8, 8, 8, 8, 8, 8, 8, 8, 8, 8, 8, 8, 8, 8, 8, 8, 8, 8, 8, 8, 8, 8, 8, 8, 8, 8, 8, 8, 8, 8, 8, 8, 8, 8, 8, 8, 8, 8, 8, 8, 8, 8, 8, 8, 8, 8, 8, 8, 8, 8, 8, 8, 8, 8, 8, 8, 8, 8, 8, 8, 8, 8, 8, 8, 8, 8, 8, 8, 8, 8, 8, 8, 8, 8, 8, 8, 8, 8, 8, 8, 8, 8, 8, 8, 8, 8, 8, 8, 8, 8, 8, 8, 8, 8, 8, 8, 8, 8, 8, 8, 8, 8, 8, 8, 8, 8, 8, 8, 8, 8, 8, 8]⟩⟩)) (.t 15)⟩,
oP 17 (.toInt .i64 (.t 16)),
oB 18 .add 13 17,
oM 2 18])
 .ret))))
def F220 : AFunc :=
 .fn 25 [.tmp 2]
 (.seq
 (.ops [
oP 2 (.move (oK 0))])
 (.seq
 (.seq
 (.ops [
oM 3 0,
oP 4 (.bin .geq (.t 3) (.k (.int .u64 4294967296)))])
 (.cond (.t 4)
 (.seq
 (.ops [
oM 5 0,
oP 6 (.bin .shr (.t 5) (.k (.int .u64 32))),
oM 0 6])
 (.ops [
oP 2 (.move (oK 32))]))
 .skip))
 (.seq
 (.seq
 (.ops [
oM 7 0,
oP 8 (.bin .geq (.t 7) (.k (.int .u64 65536)))])
 (.cond (.t 8)
 (.seq
 (.ops [
oM 9 0,
oP 10 (.bin .shr (.t 9) (.k (.int .u64 16))),
oM 0 10])
 (.ops [
oM 11 2,
oC 12 .add 11 16,
oM 2 12]))
 .skip))
 (.seq
 (.seq
 (.ops [
oM 13 0,
oP 14 (.bin .geq (.t 13) (.k (.int .u64 256)))])
 (.cond (.t 14)
 (.seq
 (.ops [
oM 15 0,
oP 16 (.bin .shr (.t 15) (.k (.int .u64 8))),
oM 0 16])
 (.ops [
oM 17 2,
oC 18 .add 17 8,
oM 2 18]))
 .skip))
 (.seq
 (.ops [
oM 19 2,
oM 20 0,
oP 21 (.toInt .u8 (.t 20)),
⟨some 22, none, [], .strIdx (.k (.string ⟨⟨[0, 1, 2, 2, 3, 3, 3, 3, 4, 4, 4, 4, 4, 4, 4, 4, 5, 5, 5, 5, 5, 5, 5, 5, 5, 5, 5, 5, 5, 5, 5, 5, 6, 6, 6, 6, 6, 6, 6, 6, 6, 6, 6, 6, 6, 6, 6, 6, 6, 6, 6, 6, 6, 6, 6, 6, 6, 6, 6, 6, 6, 6, 6, 6, 7, 7, 7, 7, 7, 7, 7, 7, 7, 7, 7, 7, 7, 7, 7, 7, 7, 7, 7, 7, 7, 7, 7, 7, 7, 7, 7, 7, 7, 7, 7, 7, 7, 7, 7, 7, 7, 7, 7, 7, 7, 7, 7, 7, 7, 7, 7, 7, 7, 7, 7, 7, 7, 7, 7, 7, 7, 7, 7, 7, 7, 7, 7, 7, 8, 8, 8, 8, 8, 8, 8, 8, 8, 8, 8, 8, 8, 8, 8, 8, 8, 8, 8, 8, 8, 8, 8, 8, 8, 8, 8, 8, 8, 8, 8, 8, 8, 8, 8, 8, 8, 8, 8, 8, 8, 8, 8, 8, 8, 8, 8, 8, 8, 8, 8, 8, 8, 8, 8, 8, 8, 8, 8, 8, 8, 8, 8, 8, 8, 8, 8, 8, 8, 8, 8, 8, 8, 8, 8, 8, 8, 8, 8, 8, 8, 8, 8, 8, 8, 8, 8, 8, 8, 8, 8, 8, 8, 8, 8, 8, 8, 8, 8, 8, 8, 8, 8, 8, 8, 8, 8, 8, 8, 8, 8, 8, 8, 8, 8, 8, 8, 8, 8, 8, 8, 8, 8, 8, 8, 8, 8, 8]⟩⟩)) (.t 21)⟩,
oP 23 (.toInt .i64 (.t 22)),
oB 24 .add 19 23,
oM 2 24])
 .ret)))))
def F221 : AFunc :=
 .fn 76 []
 (.seq
 (.ops [
oM 10 1,
oM 8 10])
 (.block 0
 (.loop
 (.block 1
 (.seq
 (.ops [
oM 11 8,
oP 12 (.bin .mul (oK 2) (.t 11)),
oC 13 .add 12 1,
oM 9 13])
 (.seq
 (.seq
 (.ops [
oM 14 9,
oM 15 2,
oB 16 .geq 14 15])
 (.cond (.t 16)
 (.exit 0)
 .skip))
 (.seq
 (.seq
 (.ops [
oM 17 9,
oC 18 .add 17 1,
oM 19 2,
oB 20 .lss 18 19,
oM 21 20,
oN 22 21 true 0,
oN 23 21 true 3,
oN 24 21 true 9,
oQ 25 21 true (.bin .add (.t 23) (.t 24)),
oQ 26 21 true (.idxS (.t 22) (.t 25) 1),
oQ 27 21 true (.load (.t 26) none),
oN 28 21 true 0,
oN 29 21 true 3,
oN 30 21 true 9,
oQ 31 21 true (.bin .add (.t 29) (.t 30)),
oQ 32 21 true (.bin .add (.t 31) (oK 1)),
oQ 33 21 true (.idxS (.t 28) (.t 32) 1),
oQ 34 21 true (.load (.t 33) none),
oQ 35 21 true (.call (.k (.func (.func 216) ⟨[]⟩ ⟨[]⟩)) [.t 27, .t 34] false),
oP 36 (.pick (.t 21) (.t 35) (.k (.bool false)))])
 (.cond (.t 36)
 (.ops [
oM 37 9,
oC 38 .add 37 1,
oM 9 38])
 .skip))
 (.seq
 (.seq
 (.ops [
oM 39 0,
oM 40 3,
oM 41 8,
oB 42 .add 40 41,
oI 43 39 42 1,
oL 44 43,
oM 45 0,
oM 46 3,
oM 47 9,
oB 48 .add 46 47,
oI 49 45 48 1,
oL 50 49,
oA 51 216 [.t 44, .t 50] false,
oP 52 (.not (.t 51))])
 (.cond (.t 52)
 .ret
 .skip))
 (.seq
 (.ops [
oM 53 0,
oM 54 3,
oM 55 8,
oB 56 .add 54 55,
oM 57 0,
oM 58 3,
oM 59 9,
oB 60 .add 58 59,
oM 61 0,
oM 62 3,
oM 63 9,
oB 64 .add 62 63,
oI 65 61 64 1,
oL 66 65,
oM 67 0,
oM 68 3,
oM 69 8,
oB 70 .add 68 69,
oI 71 67 70 1,
oL 72 71,
oI 73 53 56 1,
oT 73 66 1,
oI 74 57 60 1,
oT 74 72 1])
 (.ops [
oM 75 9,
oM 8 75]))))))))))
def F222 : AFunc :=
 .fn 7 [.tmp 2]
 (.seq
 (.ops [
oP 2 (.move (.k (.int .u64 0)))])
 (.seq
 (.ops [
oM 3 0,
oP 4 (.toInt .u64 (.t 3)),
oA 5 209 [.t 4] false,
oP 6 (.bin .shl (.k (.int .u64 1)) (.t 5)),
oM 2 6])
 .ret))
def F223 : AFunc :=
 .fn 33 [.tmp 2]
 (.seq
 (.ops [
oP 2 (.move (.k (.int .u64 0)))])
 (.seq
 (.ops [
oM 3 0,
oP 4 (.nilCheck (.t 3)),
oL 5 4,
oM 6 0,
oP 7 (.nilCheck (.t 6)),
oL 8 7,
oP 9 (.bin .shl (.t 8) (.k (.int .u64 13))),
oB 10 .xor 5 9,
oP 11 (.nilCheck (.t 3)),
oT 11 10 1])
 (.seq
 (.ops [
oM 12 0,
oP 13 (.nilCheck (.t 12)),
oL 14 13,
oM 15 0,
oP 16 (.nilCheck (.t 15)),
oL 17 16,
oP 18 (.bin .shr (.t 17) (.k (.int .u64 7))),
oB 19 .xor 14 18,
oP 20 (.nilCheck (.t 12)),
oT 20 19 1])
 (.seq
 (.ops [
oM 21 0,
oP 22 (.nilCheck (.t 21)),
oL 23 22,
oM 24 0,
oP 25 (.nilCheck (.t 24)),
oL 26 25,
oP 27 (.bin .shl (.t 26) (.k (.int .u64 17))),
oB 28 .xor 23 27,
oP 29 (.nilCheck (.t 21)),
oT 29 28 1])
 (.seq
 (.ops [
oM 30 0,
oP 31 (.nilCheck (.t 30)),
oL 32 31,
oM 2 32])
 .ret)))))
def F224 : AFunc :=
 .fn 15 [.tmp 6]
 (.seq
 (.ops [
oP 6 (.move (oK 0))])
 (.seq
 (.ops [
oM 7 0,
oM 8 1,
oC 9 .sub 8 1,
oM 10 1,
oM 11 1,
oC 12 .add 11 1,
oM 13 2,
oA 14 225 [.t 7, .t 9, .t 10, .t 12, .t 13] false,
oM 6 14])
 .ret))
def F225 : AFunc :=
 .fn 36 [.tmp 10]
 (.seq
 (.ops [
oP 10 (.move (oK 0))])
 (.seq
 (.ops [
oM 12 0,
oM 13 1,
oM 14 2,
oM 15 4,
oA 16 227 [.t 12, .t 13, .t 14, .t 15] false,
oM 11 16,
oX 17 11 0,
oX 18 11 1,
oM 1 17,
oM 2 18])
 (.seq
 (.ops [
oM 20 0,
oM 21 2,
oM 22 3,
oM 23 4,
oA 24 227 [.t 20, .t 21, .t 22, .t 23] false,
oM 19 24,
oX 25 19 0,
oX 26 19 1,
oM 2 25,
oM 3 26])
 (.seq
 (.ops [
oM 28 0,
oM 29 1,
oM 30 2,
oM 31 4,
oA 32 227 [.t 28, .t 29, .t 30, .t 31] false,
oM 27 32,
oX 33 27 0,
oX 34 27 1,
oM 1 33,
oM 2 34])
 (.seq
 (.ops [
oM 35 2,
oM 10 35])
 .ret)))))
def F226 : AFunc :=
 .fn 6 [.tmp 2]
 (.seq
 (.ops [
oP 2 (.move (.k (.bool false)))])
 (.seq
 (.ops [
oM 3 0,
oM 4 0,
oP 5 (.strOp .neq (.t 3) (.t 4)),
oM 2 5])
 .ret))
def F227 : AFunc :=
 .fn 28 [.tmp 8, .tmp 9]
 (.seq
 (.ops [
oP 8 (.move (oK 0)),
oP 9 (.move (oK 0))])
 (.seq
 (.seq
 (.ops [
oM 10 0,
oM 11 2,
oI 12 10 11 1,
oL 13 12,
oM 14 0,
oM 15 1,
oI 16 14 15 1,
oL 17 16,
oA 18 216 [.t 13, .t 17] false])
 (.cond (.t 18)
 (.seq
 (.ops [
oM 19 3,
oP 20 (.nilCheck (.t 19)),
oL 21 20,
oC 22 .add 21 1,
oP 23 (.nilCheck (.t 19)),
oT 23 22 1])
 (.seq
 (.ops [
oM 24 2,
oM 25 1,
oM 8 24,
oM 9 25])
 .ret))
 .skip))
 (.seq
 (.ops [
oM 26 1,
oM 27 2,
oM 8 26,
oM 9 27])
 .ret)))
end Go.Ab.Dike
