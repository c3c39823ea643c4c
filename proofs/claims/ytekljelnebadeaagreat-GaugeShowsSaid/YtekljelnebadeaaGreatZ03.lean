/- Plain facts about regions: what an operation depends on, what it leaves alone, what is ahead of what. -/
import Derived.Test.YtekljelnebadeaaGreatZ02
import Derived.Test.YtekljelnebadeaaGreatZ00
set_option linter.unusedSimpArgs false
set_option linter.unusedVariables false
set_option linter.unusedSectionVars false
set_option maxRecDepth 100000
namespace Go.Ab.Gauge
open Go.Ab
def F517 : AFunc :=
 .fn 57 [.tmp 6, .tmp 7]
 (.seq
 (.ops [
oP 6 (.move (oK 0)),
oP 7 (.move (oK 0))])
 (.seq
 (.ops [
oM 13 2,
oM 14 1,
oB 15 .sub 13 14,
oM 8 15])
 (.seq
 (.ops [
oP 9 (.alloc [.int .i64 0])])
 (.seq
 (.ops [
oM 16 1,
oM 17 8,
oC 18 .quo 17 4,
oC 19 .mul 18 1,
oB 20 .add 16 19,
oM 10 20])
 (.seq
 (.ops [
oM 21 1,
oM 22 8,
oC 23 .quo 22 4,
oC 24 .mul 23 2,
oB 25 .add 21 24,
oM 11 25])
 (.seq
 (.ops [
oM 26 1,
oM 27 8,
oC 28 .quo 27 4,
oC 29 .mul 28 3,
oB 30 .add 26 29,
oM 12 30])
 (.seq
 (.seq
 (.ops [
oM 31 8,
oC 32 .geq 31 8])
 (.cond (.t 32)
 (.seq
 (.seq
 (.ops [
oM 33 8,
oC 34 .geq 33 50])
 (.cond (.t 34)
 (.seq
 (.ops [
oM 35 0,
oM 36 10,
oA 37 529 [.t 35, .t 36, .t 9] false,
oM 10 37])
 (.seq
 (.ops [
oM 38 0,
oM 39 11,
oA 40 529 [.t 38, .t 39, .t 9] false,
oM 11 40])
 (.ops [
oM 41 0,
oM 42 12,
oA 43 529 [.t 41, .t 42, .t 9] false,
oM 12 43])))
 .skip))
 (.ops [
oM 44 0,
oM 45 10,
oM 46 11,
oM 47 12,
oA 48 530 [.t 44, .t 45, .t 46, .t 47, .t 9] false,
oM 11 48]))
 .skip))
 (.seq
 (.ops [
oL 49 9])
 (.block 0
 (.seq
 (.ops [
oC 52 .eql 49 0,
oM 51 52])
 (.cond (.t 51)
 (.seq
 (.ops [
oM 53 11,
oM 6 53,
oP 7 (.move (oK 1))])
 .ret)
 (.seq
 (.ops [
oC 55 .eql 49 12,
oM 54 55])
 (.cond (.t 54)
 (.seq
 (.ops [
oM 56 11,
oM 6 56,
oP 7 (.move (oK 2))])
 .ret)
 (.seq
 (.ops [
oM 50 11,
oM 6 50,
oP 7 (.move (oK 0))])
 .ret))))))))))))))
def F518 : AFunc :=
 .fn 32 []
 (.seq
 (.ops [
oM 8 1,
oM 6 8])
 (.seq
 (.ops [
oM 9 2,
oC 10 .sub 9 1,
oM 7 10])
 (.block 0
 (.loop
 (.seq
 (.seq
 (.ops [
oM 11 6,
oM 12 7,
oB 13 .lss 11 12])
 (.cond (.t 13)
 .skip
 (.exit 0)))
 (.block 1
 (.seq
 (.ops [
oM 14 0,
oM 15 6,
oM 16 0,
oM 17 7,
oM 18 0,
oM 19 7,
oI 20 18 19 1,
oL 21 20,
oM 22 0,
oM 23 6,
oI 24 22 23 1,
oL 25 24,
oI 26 14 15 1,
oT 26 21 1,
oI 27 16 17 1,
oT 27 25 1])
 (.seq
 (.ops [
oM 28 6,
oC 29 .add 28 1,
oM 6 29])
 (.ops [
oM 30 7,
oC 31 .sub 30 1,
oM 7 31])))))))))
def F519 : AFunc :=
 .fn 133 [.tmp 6]
 (.seq
 (.ops [
oP 6 (.move (.k (.bool false)))])
 (.seq
 (.ops [
oM 11 1,
oC 12 .add 11 1,
oM 7 12])
 (.seq
 (.seq
 (.ops [
oP 8 (.move (oK 0))])
 (.block 0
 (.loop
 (.seq
 (.seq
 (.ops [
oM 13 8,
oC 14 .lss 13 5])
 (.cond (.t 14)
 .skip
 (.exit 0)))
 (.seq
 (.block 1
 (.seq
 (.block 2
 (.loop
 (.seq
 (.seq
 (.ops [
oM 17 7,
oM 18 2,
oB 19 .lss 17 18,
oM 20 19,
oN 21 20 true 0,
oN 22 20 true 7,
oQ 23 20 true (.idxS (.t 21) (.t 22) 1),
oQ 24 20 true (.load (.t 23) none),
oN 25 20 true 0,
oN 26 20 true 7,
oQ 27 20 true (.bin .sub (.t 26) (oK 1)),
oQ 28 20 true (.idxS (.t 25) (.t 27) 1),
oQ 29 20 true (.load (.t 28) none),
oQ 30 20 true (.call (.k (.func (.func 520) ⟨[]⟩ ⟨[]⟩)) [.t 24, .t 29] false),
oQ 31 20 true (.not (.t 30)),
oP 32 (.pick (.t 20) (.t 31) (.k (.bool false)))])
 (.cond (.t 32)
 .skip
 (.exit 2)))
 (.block 3
 (.ops [
oM 33 7,
oC 34 .add 33 1,
oM 7 34])))))
 (.seq
 (.seq
 (.ops [
oM 35 7,
oM 36 2,
oB 37 .eql 35 36])
 (.cond (.t 37)
 (.seq
 (.ops [
oP 6 (.move (.k (.bool true)))])
 .ret)
 .skip))
 (.seq
 (.seq
 (.ops [
oM 38 2,
oM 39 1,
oB 40 .sub 38 39,
oC 41 .lss 40 50])
 (.cond (.t 41)
 (.seq
 (.ops [
oP 6 (.move (.k (.bool false)))])
 .ret)
 .skip))
 (.seq
 (.ops [
oM 42 0,
oM 43 7,
oM 44 0,
oM 45 7,
oC 46 .sub 45 1,
oM 47 0,
oM 48 7,
oC 49 .sub 48 1,
oI 50 47 49 1,
oL 51 50,
oM 52 0,
oM 53 7,
oI 54 52 53 1,
oL 55 54,
oI 56 42 43 1,
oT 56 51 1,
oI 57 44 46 1,
oT 57 55 1])
 (.seq
 (.seq
 (.ops [
oM 58 7,
oM 59 1,
oB 60 .sub 58 59,
oC 61 .geq 60 2])
 (.cond (.t 61)
 (.seq
 (.ops [
oM 62 7,
oC 63 .sub 62 1,
oM 9 63])
 (.block 4
 (.loop
 (.seq
 (.seq
 (.ops [
oM 64 9,
oC 65 .geq 64 1])
 (.cond (.t 65)
 .skip
 (.exit 4)))
 (.seq
 (.block 5
 (.seq
 (.seq
 (.ops [
oM 68 0,
oM 69 9,
oI 70 68 69 1,
oL 71 70,
oM 72 0,
oM 73 9,
oC 74 .sub 73 1,
oI 75 72 74 1,
oL 76 75,
oA 77 520 [.t 71, .t 76] false,
oP 78 (.not (.t 77))])
 (.cond (.t 78)
 (.exit 4)
 .skip))
 (.ops [
oM 79 0,
oM 80 9,
oM 81 0,
oM 82 9,
oC 83 .sub 82 1,
oM 84 0,
oM 85 9,
oC 86 .sub 85 1,
oI 87 84 86 1,
oL 88 87,
oM 89 0,
oM 90 9,
oI 91 89 90 1,
oL 92 91,
oI 93 79 80 1,
oT 93 88 1,
oI 94 81 83 1,
oT 94 92 1])))
 (.ops [
oM 66 9,
oC 67 .sub 66 1,
oM 9 67]))))))
 .skip))
 (.seq
 (.ops [
oM 95 2,
oM 96 7,
oB 97 .sub 95 96,
oC 98 .geq 97 2])
 (.cond (.t 98)
 (.seq
 (.ops [
oM 99 7,
oC 100 .add 99 1,
oM 10 100])
 (.block 6
 (.loop
 (.seq
 (.seq
 (.ops [
oM 101 10,
oM 102 2,
oB 103 .lss 101 102])
 (.cond (.t 103)
 .skip
 (.exit 6)))
 (.seq
 (.block 7
 (.seq
 (.seq
 (.ops [
oM 106 0,
oM 107 10,
oI 108 106 107 1,
oL 109 108,
oM 110 0,
oM 111 10,
oC 112 .sub 111 1,
oI 113 110 112 1,
oL 114 113,
oA 115 520 [.t 109, .t 114] false,
oP 116 (.not (.t 115))])
 (.cond (.t 116)
 (.exit 6)
 .skip))
 (.ops [
oM 117 0,
oM 118 10,
oM 119 0,
oM 120 10,
oC 121 .sub 120 1,
oM 122 0,
oM 123 10,
oC 124 .sub 123 1,
oI 125 122 124 1,
oL 126 125,
oM 127 0,
oM 128 10,
oI 129 127 128 1,
oL 130 129,
oI 131 117 118 1,
oT 131 126 1,
oI 132 119 121 1,
oT 132 130 1])))
 (.ops [
oM 104 10,
oC 105 .add 104 1,
oM 10 105]))))))
 .skip))))))))
 (.ops [
oM 15 8,
oC 16 .add 15 1,
oM 8 16]))))))
 (.seq
 (.ops [
oP 6 (.move (.k (.bool false)))])
 .ret))))
def F520 : AFunc :=
 .fn 17 [.tmp 4]
 (.seq
 (.ops [
oP 4 (.move (.k (.bool false)))])
 (.seq
 (.ops [
oM 5 0,
oA 6 531 [.t 5] false,
oM 7 6,
oN 8 7 true 1,
oQ 9 7 true (.call (.k (.func (.func 531) ⟨[]⟩ ⟨[]⟩)) [.t 8] false),
oQ 10 7 true (.not (.t 9)),
oP 11 (.pick (.t 7) (.t 10) (.k (.bool false))),
oM 12 11,
oN 13 12 false 0,
oN 14 12 false 1,
oQ 15 12 false (.bin .lss (.t 13) (.t 14)),
oP 16 (.pick (.t 12) (.k (.bool true)) (.t 15)),
oM 4 16])
 .ret))
def F521 : AFunc :=
 .fn 84 [.tmp 8]
 (.seq
 (.ops [
oP 8 (.move (oK 0))])
 (.seq
 (.ops [
oM 11 0,
oM 12 1,
oM 13 0,
oM 14 3,
oM 15 0,
oM 16 3,
oI 17 15 16 1,
oL 18 17,
oM 19 0,
oM 20 1,
oI 21 19 20 1,
oL 22 21,
oI 23 11 12 1,
oT 23 18 1,
oI 24 13 14 1,
oT 24 22 1])
 (.seq
 (.ops [
oM 25 1,
oC 26 .add 25 1,
oM 27 2,
oC 28 .sub 27 1,
oM 9 26,
oM 10 28])
 (.seq
 (.block 0
 (.loop
 (.block 1
 (.seq
 (.block 2
 (.loop
 (.seq
 (.seq
 (.ops [
oM 29 9,
oM 30 10,
oB 31 .leq 29 30,
oM 32 31,
oN 33 32 true 0,
oN 34 32 true 1,
oQ 35 32 true (.idxS (.t 33) (.t 34) 1),
oQ 36 32 true (.load (.t 35) none),
oN 37 32 true 0,
oN 38 32 true 9,
oQ 39 32 true (.idxS (.t 37) (.t 38) 1),
oQ 40 32 true (.load (.t 39) none),
oQ 41 32 true (.call (.k (.func (.func 520) ⟨[]⟩ ⟨[]⟩)) [.t 36, .t 40] false),
oQ 42 32 true (.not (.t 41)),
oP 43 (.pick (.t 32) (.t 42) (.k (.bool false)))])
 (.cond (.t 43)
 .skip
 (.exit 2)))
 (.block 3
 (.ops [
oM 44 9,
oC 45 .add 44 1,
oM 9 45])))))
 (.seq
 (.block 4
 (.loop
 (.seq
 (.seq
 (.ops [
oM 46 9,
oM 47 10,
oB 48 .leq 46 47,
oM 49 48,
oN 50 49 true 0,
oN 51 49 true 1,
oQ 52 49 true (.idxS (.t 50) (.t 51) 1),
oQ 53 49 true (.load (.t 52) none),
oN 54 49 true 0,
oN 55 49 true 10,
oQ 56 49 true (.idxS (.t 54) (.t 55) 1),
oQ 57 49 true (.load (.t 56) none),
oQ 58 49 true (.call (.k (.func (.func 520) ⟨[]⟩ ⟨[]⟩)) [.t 53, .t 57] false),
oP 59 (.pick (.t 49) (.t 58) (.k (.bool false)))])
 (.cond (.t 59)
 .skip
 (.exit 4)))
 (.block 5
 (.ops [
oM 60 10,
oC 61 .sub 60 1,
oM 10 61])))))
 (.seq
 (.seq
 (.ops [
oM 62 9,
oM 63 10,
oB 64 .gtr 62 63])
 (.cond (.t 64)
 (.exit 0)
 .skip))
 (.seq
 (.ops [
oM 65 0,
oM 66 9,
oM 67 0,
oM 68 10,
oM 69 0,
oM 70 10,
oI 71 69 70 1,
oL 72 71,
oM 73 0,
oM 74 9,
oI 75 73 74 1,
oL 76 75,
oI 77 65 66 1,
oT 77 72 1,
oI 78 67 68 1,
oT 78 76 1])
 (.seq
 (.ops [
oM 79 9,
oC 80 .add 79 1,
oM 9 80])
 (.ops [
oM 81 10,
oC 82 .sub 81 1,
oM 10 82])))))))))
 (.seq
 (.ops [
oM 83 9,
oM 8 83])
 .ret)))))
def F522 : AFunc :=
 .fn 168 [.tmp 8, .tmp 9]
 (.seq
 (.ops [
oP 8 (.move (oK 0)),
oP 9 (.move (.k (.bool false)))])
 (.seq
 (.ops [
oM 12 0,
oM 13 1,
oM 14 0,
oM 15 3,
oM 16 0,
oM 17 3,
oI 18 16 17 1,
oL 19 18,
oM 20 0,
oM 21 1,
oI 22 20 21 1,
oL 23 22,
oI 24 12 13 1,
oT 24 19 1,
oI 25 14 15 1,
oT 25 23 1])
 (.seq
 (.ops [
oM 26 1,
oC 27 .add 26 1,
oM 28 2,
oC 29 .sub 28 1,
oM 10 27,
oM 11 29])
 (.seq
 (.block 0
 (.loop
 (.seq
 (.seq
 (.ops [
oM 30 10,
oM 31 11,
oB 32 .leq 30 31,
oM 33 32,
oN 34 33 true 0,
oN 35 33 true 10,
oQ 36 33 true (.idxS (.t 34) (.t 35) 1),
oQ 37 33 true (.load (.t 36) none),
oN 38 33 true 0,
oN 39 33 true 1,
oQ 40 33 true (.idxS (.t 38) (.t 39) 1),
oQ 41 33 true (.load (.t 40) none),
oQ 42 33 true (.call (.k (.func (.func 520) ⟨[]⟩ ⟨[]⟩)) [.t 37, .t 41] false),
oP 43 (.pick (.t 33) (.t 42) (.k (.bool false)))])
 (.cond (.t 43)
 .skip
 (.exit 0)))
 (.block 1
 (.ops [
oM 44 10,
oC 45 .add 44 1,
oM 10 45])))))
 (.seq
 (.block 2
 (.loop
 (.seq
 (.seq
 (.ops [
oM 46 10,
oM 47 11,
oB 48 .leq 46 47,
oM 49 48,
oN 50 49 true 0,
oN 51 49 true 11,
oQ 52 49 true (.idxS (.t 50) (.t 51) 1),
oQ 53 49 true (.load (.t 52) none),
oN 54 49 true 0,
oN 55 49 true 1,
oQ 56 49 true (.idxS (.t 54) (.t 55) 1),
oQ 57 49 true (.load (.t 56) none),
oQ 58 49 true (.call (.k (.func (.func 520) ⟨[]⟩ ⟨[]⟩)) [.t 53, .t 57] false),
oQ 59 49 true (.not (.t 58)),
oP 60 (.pick (.t 49) (.t 59) (.k (.bool false)))])
 (.cond (.t 60)
 .skip
 (.exit 2)))
 (.block 3
 (.ops [
oM 61 11,
oC 62 .sub 61 1,
oM 11 62])))))
 (.seq
 (.seq
 (.ops [
oM 63 10,
oM 64 11,
oB 65 .gtr 63 64])
 (.cond (.t 65)
 (.seq
 (.ops [
oM 66 0,
oM 67 11,
oM 68 0,
oM 69 1,
oM 70 0,
oM 71 1,
oI 72 70 71 1,
oL 73 72,
oM 74 0,
oM 75 11,
oI 76 74 75 1,
oL 77 76,
oI 78 66 67 1,
oT 78 73 1,
oI 79 68 69 1,
oT 79 77 1])
 (.seq
 (.ops [
oM 80 11,
oM 8 80,
oP 9 (.move (.k (.bool true)))])
 .ret))
 .skip))
 (.seq
 (.ops [
oM 81 0,
oM 82 10,
oM 83 0,
oM 84 11,
oM 85 0,
oM 86 11,
oI 87 85 86 1,
oL 88 87,
oM 89 0,
oM 90 10,
oI 91 89 90 1,
oL 92 91,
oI 93 81 82 1,
oT 93 88 1,
oI 94 83 84 1,
oT 94 92 1])
 (.seq
 (.ops [
oM 95 10,
oC 96 .add 95 1,
oM 10 96])
 (.seq
 (.ops [
oM 97 11,
oC 98 .sub 97 1,
oM 11 98])
 (.seq
 (.block 4
 (.loop
 (.block 5
 (.seq
 (.block 6
 (.loop
 (.seq
 (.seq
 (.ops [
oM 99 10,
oM 100 11,
oB 101 .leq 99 100,
oM 102 101,
oN 103 102 true 0,
oN 104 102 true 10,
oQ 105 102 true (.idxS (.t 103) (.t 104) 1),
oQ 106 102 true (.load (.t 105) none),
oN 107 102 true 0,
oN 108 102 true 1,
oQ 109 102 true (.idxS (.t 107) (.t 108) 1),
oQ 110 102 true (.load (.t 109) none),
oQ 111 102 true (.call (.k (.func (.func 520) ⟨[]⟩ ⟨[]⟩)) [.t 106, .t 110] false),
oP 112 (.pick (.t 102) (.t 111) (.k (.bool false)))])
 (.cond (.t 112)
 .skip
 (.exit 6)))
 (.block 7
 (.ops [
oM 113 10,
oC 114 .add 113 1,
oM 10 114])))))
 (.seq
 (.block 8
 (.loop
 (.seq
 (.seq
 (.ops [
oM 115 10,
oM 116 11,
oB 117 .leq 115 116,
oM 118 117,
oN 119 118 true 0,
oN 120 118 true 11,
oQ 121 118 true (.idxS (.t 119) (.t 120) 1),
oQ 122 118 true (.load (.t 121) none),
oN 123 118 true 0,
oN 124 118 true 1,
oQ 125 118 true (.idxS (.t 123) (.t 124) 1),
oQ 126 118 true (.load (.t 125) none),
oQ 127 118 true (.call (.k (.func (.func 520) ⟨[]⟩ ⟨[]⟩)) [.t 122, .t 126] false),
oQ 128 118 true (.not (.t 127)),
oP 129 (.pick (.t 118) (.t 128) (.k (.bool false)))])
 (.cond (.t 129)
 .skip
 (.exit 8)))
 (.block 9
 (.ops [
oM 130 11,
oC 131 .sub 130 1,
oM 11 131])))))
 (.seq
 (.seq
 (.ops [
oM 132 10,
oM 133 11,
oB 134 .gtr 132 133])
 (.cond (.t 134)
 (.exit 4)
 .skip))
 (.seq
 (.ops [
oM 135 0,
oM 136 10,
oM 137 0,
oM 138 11,
oM 139 0,
oM 140 11,
oI 141 139 140 1,
oL 142 141,
oM 143 0,
oM 144 10,
oI 145 143 144 1,
oL 146 145,
oI 147 135 136 1,
oT 147 142 1,
oI 148 137 138 1,
oT 148 146 1])
 (.seq
 (.ops [
oM 149 10,
oC 150 .add 149 1,
oM 10 150])
 (.ops [
oM 151 11,
oC 152 .sub 151 1,
oM 11 152])))))))))
 (.seq
 (.ops [
oM 153 0,
oM 154 11,
oM 155 0,
oM 156 1,
oM 157 0,
oM 158 1,
oI 159 157 158 1,
oL 160 159,
oM 161 0,
oM 162 11,
oI 163 161 162 1,
oL 164 163,
oI 165 153 154 1,
oT 165 160 1,
oI 166 155 156 1,
oT 166 164 1])
 (.seq
 (.ops [
oM 167 11,
oM 8 167,
oP 9 (.move (.k (.bool false)))])
 .ret))))))))))))
def F219 : AFunc :=
 .fn 19 [.tmp 2]
 (.seq
 (.ops [
oP 2 (.move (oK 0))])
 (.seq
 (.seq
 (.ops [
oM 3 0,
oP 4 (.bin .geq (.t 3) (.k (.int .u32 65536)))])
 (.cond (.t 4)
 (.seq
 (.ops [
oM 5 0,
oP 6 (.bin .shr (.t 5) (.k (.int .u64 16))),
oM 0 6])
 (.ops [
oP 2 (.move (oK 16))]))
 .skip))
 (.seq
 (.seq
 (.ops [
oM 7 0,
oP 8 (.bin .geq (.t 7) (.k (.int .u32 256)))])
 (.cond (.t 8)
 (.seq
 (.ops [
oM 9 0,
oP 10 (.bin .shr (.t 9) (.k (.int .u64 8))),
oM 0 10])
 (.ops [
oM 11 2,
oC 12 .add 11 8,
oM 2 12]))
 .skip))
 (.seq
 (.ops [
oM 13 2,
oM 14 0,
oP 15 (.toInt .u8 (.t 14)),
⟨some 16, none, [], .strIdx (.k (.string ⟨⟨[0, 1, 2, 2, 3, 3, 3, 3, 4, 4, 4, 4, 4, 4, 4, 4, 5, 5, 5, 5, 5, 5, 5, 5, 5, 5, 5, 5, 5, 5, 5, 5, 6, 6, 6, 6, 6, 6, 6, 6, 6, 6, 6, 6, 6, 6, 6, 6, 6, 6, 6, 6, 6, 6, 6, 6, 6, 6, 6, 6, 6, 6, 6, 6, 7, 7, 7, 7, 7, 7, 7, 7, 7, 7, 7, 7, 7, 7, 7, 7, 7, 7, 7, 7, 7, 7, 7, 7, 7, 7, 7, 7, 7, 7, 7, 7, 7, 7, 7, 7, 7, 7, 7, 7, 7, 7, 7, 7, 7, 7, 7, 7, 7, 7, 7, 7, 7, 7, 7, 7, 7, 7, 7, 7, 7, 7, 7, 7, 8, 8, 8, 8, 8, 8, 8, 8, 8, 8, 8, 8, 8, 8, 8, 8, 8, 8, 8, 8, 8, 8, 8, 8, 8, 8, 8, 8, 8, 8, 8, 8, 8, 8, 8, 8, 8, 8, 8, 8, 8, 8, 8, 8, 8, 8, 8, 8, 8, 8, 8, 8, 8, 8, 8, 8, 8, 8, 8, 8, 8, 8, 8, 8, 8, 8, 8, 8, 8, 8, 8, 8, 8, 8, 8, 8, 8, 8, 8, 8, 8, 8, 8, 8, 8, 8, 8, 8, 8, 8, 8, 8, 8, 8, 8, 8, 8, 8, 8, 8, 8, 8, 8, 8, 8, 8, 8, 8, 8, 8, 8, 8, 8, 8, 8, 8, 8, 8, 8, 8, 8, 8, 8, 8, 8, 8, 8, 8]⟩⟩)) (.t 15)⟩,
oP 17 (.toInt .i64 (.t 16)),
oB 18 .add 13 17,
oM 2 18])
 .ret))))
def F220 : AFunc :=
 .fn 25 [.tmp 2]
 (.seq
 (.ops [
oP 2 (.move (oK 0))])
 (.seq
 (.seq
 (.ops [
oM 3 0,
oP 4 (.bin .geq (.t 3) (.k (.int .u64 4294967296)))])
 (.cond (.t 4)
 (.seq
 (.ops [
oM 5 0,
oP 6 (.bin .shr (.t 5) (.k (.int .u64 32))),
oM 0 6])
 (.ops [
oP 2 (.move (oK 32))]))
 .skip))
 (.seq
 (.seq
 (.ops [
oM 7 0,
oP 8 (.bin .geq (.t 7) (.k (.int .u64 65536)))])
 (.cond (.t 8)
 (.seq
 (.ops [
oM 9 0,
oP 10 (.bin .shr (.t 9) (.k (.int .u64 16))),
oM 0 10])
 (.ops [
oM 11 2,
oC 12 .add 11 16,
oM 2 12]))
 .skip))
 (.seq
 (.seq
 (.ops [
oM 13 0,
oP 14 (.bin .geq (.t 13) (.k (.int .u64 256)))])
 (.cond (.t 14)
 (.seq
 (.ops [
oM 15 0,
oP 16 (.bin .shr (.t 15) (.k (.int .u64 8))),
oM 0 16])
 (.ops [
oM 17 2,
oC 18 .add 17 8,
oM 2 18]))
 .skip))
 (.seq
 (.ops [
oM 19 2,
oM 20 0,
oP 21 (.toInt .u8 (.t 20)),
⟨some 22, none, [], .strIdx (.k (.string ⟨⟨[0, 1, 2, 2, 3, 3, 3, 3, 4, 4, 4, 4, 4, 4, 4, 4, 5, 5, 5, 5, 5, 5, 5, 5, 5, 5, 5, 5, 5, 5, 5, 5, 6, 6, 6, 6, 6, 6, 6, 6, 6, 6, 6, 6, 6, 6, 6, 6, 6, 6, 6, 6, 6, 6, 6, 6, 6, 6, 6, 6, 6, 6, 6, 6, 7, 7, 7, 7, 7, 7, 7, 7, 7, 7, 7, 7, 7, 7, 7, 7, 7, 7, 7, 7, 7, 7, 7, 7, 7, 7, 7, 7, 7, 7, 7, 7, 7, 7, 7, 7, 7, 7, 7, 7, 7, 7, 7, 7, 7, 7, 7, 7, 7, 7, 7, 7, 7, 7, 7, 7, 7, 7, 7, 7, 7, 7, 7, 7, 8, 8, 8, 8, 8, 8, 8, 8, 8, 8, 8, 8, 8, 8, 8, 8, 8, 8, 8, 8, 8, 8, 8, 8, 8, 8, 8, 8, 8, 8, 8, 8, 8, 8, 8, 8, 8, 8, 8, 8, 8, 8, 8, 8, 8, 8, 8, 8, 8, 8, 8, 8, 8, 8, 8, 8, 8, 8, 8, 8, 8, 8, 8, 8, 8, 8, 8, 8, 8, 8, 8, 8, 8, 8, 8, 8, 8, 8, 8, 8, 8, 8, 8, 8, 8, 8, 8, 8, 8, 8, 8, 8, 8, 8, 8, 8, 8, 8, 8, 8, 8, 8, 8, 8, 8, 8, 8, 8, 8, 8, 8, 8, 8, 8, 8, 8, 8, 8, 8, 8, 8, 8, 8, 8, 8, 8, 8, 8]⟩⟩)) (.t 21)⟩,
oP 23 (.toInt .i64 (.t 22)),
oB 24 .add 19 23,
oM 2 24])
 .ret)))))
def F523 : AFunc :=
 .fn 21 [.cell 2 (some 2)]
 (.seq
 (.ops [
oP 2 (.alloc [.int .i64 0, .int .i64 0])])
 (.seq
 (.ops [
oM 4 0,
oM 5 0,
oA 6 508 [.t 5, .k (.int .i64 3600)] false,
oP 7 (.bin .mul (oK 3600) (.t 6)),
oB 8 .sub 4 7,
oM 3 8])
 (.seq
 (.ops [
oM 9 3,
oM 10 3,
oP 11 (.bin .sub (oK 3600) (.t 10)),
oP 12 (.min [.t 9, .t 11]),
oM 3 12])
 (.seq
 (.seq
 (.ops [
oM 13 3,
oC 14 .gtr 13 900])
 (.cond (.t 14)
 (.seq
 (.ops [
oM 15 3,
oP 16 (.bin .sub (oK 1800) (.t 15)),
oA 17 532 [.t 16] false,
oA 18 533 [.t 17] false,
oT 2 18 2])
 .ret)
 .skip))
 (.seq
 (.ops [
oM 19 3,
oA 20 532 [.t 19] false,
oT 2 20 2])
 .ret)))))
def F524 : AFunc :=
 .fn 20 [.cell 4 (some 2)]
 (.seq
 (.ops [
oP 2 (.box (.t 0)),
oP 3 (.box (.t 1)),
oP 4 (.alloc [.int .i64 0, .int .i64 0])])
 (.seq
 (.ops [
oF 5 2 0,
oF 6 5 0,
oL 7 6,
oF 8 3 0,
oF 9 8 0,
oL 10 9,
oP 11 (.min [.t 7, .t 10]),
oF 12 2 0,
oF 13 12 1,
oL 14 13,
oF 15 3 0,
oF 16 15 1,
oL 17 16,
oP 18 (.max [.t 14, .t 17]),
oA 19 489 [.t 11, .t 18] false,
oT 4 19 2])
 .ret))
def F525 : AFunc :=
 .fn 18 [.tmp 3]
 (.seq
 (.ops [
oP 3 (.move (.k (.bool false)))])
 (.seq
 (.ops [
oF 4 1 0,
oF 5 4 1,
oL 6 5,
oM 7 0,
oB 8 .sub 6 7,
oA 9 508 [.t 8, .k (.int .i64 3600)] true,
oF 10 1 0,
oF 11 10 0,
oL 12 11,
oM 13 0,
oB 14 .sub 12 13,
oC 15 .sub 14 1,
oA 16 508 [.t 15, .k (.int .i64 3600)] false,
oB 17 .gtr 9 16,
oM 3 17])
 .ret))
def F93 : AFunc :=
 .fn 30 [.tmp 4, .tmp 5]
 (.seq
 (.ops [
oP 4 (.move (.k (.int .u64 0))),
oP 5 (.move (.k (.int .u64 0)))])
 (.seq
 (.cond (.k (.bool false))
 (.seq
 (.ops [
oM 11 0,
oP 12 (.toInt .u32 (.t 11)),
oM 13 1,
oP 14 (.toInt .u32 (.t 13)),
oA 15 107 [.t 12, .t 14] false,
oM 10 15,
oX 16 10 0,
oX 17 10 1,
oM 6 16,
oM 7 17])
 (.seq
 (.ops [
oM 18 6,
oP 19 (.toInt .u64 (.t 18)),
oM 20 7,
oP 21 (.toInt .u64 (.t 20)),
oM 4 19,
oM 5 21])
 .ret))
 .skip)
 (.seq
 (.ops [
oM 23 0,
oM 24 1,
oA 25 108 [.t 23, .t 24] false,
oM 22 25,
oX 26 22 0,
oX 27 22 1,
oM 8 26,
oM 9 27])
 (.seq
 (.ops [
oM 28 8,
oM 29 9,
oM 4 28,
oM 5 29])
 .ret))))
def F94 : AFunc :=
 .fn 14 [.tmp 5]
 (.seq
 (.ops [
oP 5 (.move (.k (.bool false)))])
 (.seq
 (.ops [
oL 6 2,
oM 7 0,
oA 8 63 [.t 6, .t 7] false,
oM 9 8,
oQ 10 9 true (.load (.t 2) none),
oN 11 9 true 1,
oQ 12 9 true (.call (.k (.func (.func 63) ⟨[]⟩ ⟨[]⟩)) [.t 10, .t 11] false),
oP 13 (.pick (.t 9) (.t 12) (.k (.bool false))),
oM 5 13])
 .ret))
def F95 : AFunc :=
 .fn 65 []
 (.seq
 (.ops [
oP 4 (.box (.t 0)),
oP 6 (.box (.t 2)),
oP 7 (.box (.t 3))])
 (.seq
 (.ops [
oP 8 (.alloc [.slice none 0 0])])
 (.seq
 (.seq
 (.ops [
oL 14 4,
oP 15 (.len (.t 14)),
oP 16 (.move (oK 0))])
 (.block 0
 (.loop
 (.seq
 (.ops [
oB 17 .lss 16 15])
 (.seq
 (.cond (.t 17)
 .skip
 (.exit 0))
 (.seq
 (.block 1
 (.seq
 (.ops [
oM 18 16,
oM 9 18])
 (.ops [
oL 19 8,
oM 20 9,
oP 21 (.slit 1 1 [.int .i64 0] [(0, .t 20)]),
oP 22 (.append (.t 19) (.t 21) 1 8),
oT 8 22 1])))
 (.ops [
oC 23 .add 16 1,
oM 16 23])))))))
 (.block 2
 (.loop
 (.seq
 (.seq
 (.ops [
oL 24 8,
oP 25 (.len (.t 24)),
oC 26 .gtr 25 0])
 (.cond (.t 26)
 .skip
 (.exit 2)))
 (.block 3
 (.seq
 (.ops [
oL 27 8,
oP 28 (.idxS (.t 27) (oK 0) 1),
oL 29 28,
oP 10 (.alloc [.int .i64 0]),
oT 10 29 1])
 (.seq
 (.ops [
oL 30 8,
oP 31 (.reslice (.t 30) (some (oK 1)) none 1),
oT 8 31 1])
 (.seq
 (.ops [
oM 32 1,
oL 33 10,
oP 34 (.call (.t 32) [.t 33] false)])
 (.block 4
 (.rangeF (.t 34) [35]
 (.ops [
oM 11 35])
 (.block 5
 (.seq
 (.ops [
oL 37 7,
oL 38 10,
oM 39 11,
oL 40 4,
oL 41 10,
oI 42 40 41 1,
oL 43 42,
oP 44 (.call (.t 37) [.t 38, .t 39, .t 43] false),
oM 36 44,
oX 45 36 0,
oX 46 36 1,
oM 12 45,
oM 13 46])
 (.seq
 (.ops [
oM 47 13,
oM 48 47,
oQ 49 48 true (.load (.t 6) none),
oN 50 48 true 12,
oQ 51 48 true (.load (.t 4) none),
oN 52 48 true 11,
oQ 53 48 true (.idxS (.t 51) (.t 52) 1),
oQ 54 48 true (.load (.t 53) none),
oQ 55 48 true (.call (.t 49) [.t 50, .t 54] false),
oP 56 (.pick (.t 48) (.t 55) (.k (.bool false)))])
 (.cond (.t 56)
 (.seq
 (.ops [
oL 57 4,
oM 58 11,
oM 59 12,
oI 60 57 58 1,
oT 60 59 1])
 (.ops [
oL 61 8,
oM 62 11,
oP 63 (.slit 1 1 [.int .i64 0] [(0, .t 62)]),
oP 64 (.append (.t 61) (.t 63) 1 8),
oT 8 64 1]))
 .skip))))))))))))))))
def F96 : AFunc :=
 .fn 6 [.tmp 4]
 (.seq
 (.ops [
oP 2 (.box (.t 0)),
oP 3 (.box (.t 1)),
oP 4 (.move (.k (.nilFunc)))])
 (.seq
 (.ops [
oP 5 (.makeFunc 109 [] [.t 2, .t 3]),
oM 4 5])
 .ret))
def F97 : AFunc :=
 .fn 8 [.tmp 4]
 (.seq
 (.ops [
oP 4 (.move (.k (.bool false)))])
 (.seq
 (.ops [
oM 5 0,
oM 6 1,
oB 7 .lss 5 6,
oM 4 7])
 .ret))
def F98 : AFunc :=
 .fn 25 [.tmp 8, .tmp 9]
 (.seq
 (.ops [
oP 8 (.move (oK 0)),
oP 9 (.move (.k (.bool false)))])
 (.seq
 (.seq
 (.ops [
oL 10 3,
oM 11 0,
oM 12 1,
oP 13 (.call (.t 10) [.t 11, .t 12] false),
oP 14 (.not (.t 13)),
oM 15 14,
oN 16 15 false 2,
oQ 17 15 false (.bin .eql (.t 16) (oK 1099511627776)),
oP 18 (.pick (.t 15) (.k (.bool true)) (.t 17))])
 (.cond (.t 18)
 (.seq
 (.ops [
oP 8 (.move (oK 0)),
oP 9 (.move (.k (.bool false)))])
 .ret)
 .skip))
 (.seq
 (.ops [
oM 19 2,
oL 20 4,
oM 21 0,
oM 22 1,
oA 23 99 [.t 20, .t 21, .t 22] false,
oB 24 .add 19 23,
oM 8 24,
oP 9 (.move (.k (.bool true)))])
 .ret)))
def F99 : AFunc :=
 .fn 42 [.tmp 6]
 (.seq
 (.ops [
oP 6 (.move (oK 0))])
 (.seq
 (.ops [
oM 9 0,
oP 10 (.nilCheck (.t 9)),
oF 11 10 4,
oF 12 11 2,
oL 13 12,
oM 14 0,
oP 15 (.nilCheck (.t 14)),
oF 16 15 4,
oF 17 16 2,
oL 18 17,
oB 19 .mul 13 18,
oC 20 .mul 19 10000000000,
oM 21 0,
oM 22 1,
oA 23 87 [.t 21, .t 22] true,
oM 24 0,
oM 25 2,
oA 26 87 [.t 24, .t 25] true,
oP 27 (.min [.t 23, .t 26]),
oP 28 (.bin .mul (oK 981) (.t 27)),
oM 7 20,
oM 8 28])
 (.seq
 (.seq
 (.ops [
oM 29 0,
oP 30 (.nilCheck (.t 29)),
oF 31 30 0,
oF 32 31 3,
oL 33 32])
 (.cond (.t 33)
 (.seq
 (.ops [
oM 34 7,
oM 35 8,
oB 36 .quo 34 35,
oA 37 65 [.t 36] false,
oM 6 37])
 .ret)
 .skip))
 (.seq
 (.ops [
oM 38 7,
oM 39 8,
oA 40 68 [.t 38, .t 39] false,
oA 41 67 [.t 40] false,
oM 6 41])
 .ret))))
def F100 : AFunc :=
 .fn 8 [.tmp 4]
 (.seq
 (.ops [
oP 4 (.move (.k (.bool false)))])
 (.seq
 (.ops [
oM 5 0,
oM 6 1,
oB 7 .gtr 5 6,
oM 4 7])
 .ret))
def F101 : AFunc :=
 .fn 36 [.tmp 8, .tmp 9]
 (.seq
 (.ops [
oP 8 (.move (oK 0)),
oP 9 (.move (.k (.bool false)))])
 (.seq
 (.ops [
oL 10 3,
oP 11 (.nilCheck (.t 10)),
oF 12 11 0,
oF 13 12 1,
oL 14 13,
oM 15 2,
oL 16 3,
oP 17 (.nilCheck (.t 16)),
oF 18 17 0,
oD 19 18 4,
oL 20 3,
oP 21 (.nilCheck (.t 20)),
oF 22 21 10,
oF 23 22 0,
oD 24 23 2,
oA 25 91 [.t 19, .t 24] true,
oB 26 .mul 15 25,
oP 27 (.call (.t 14) [.t 26, .k (.int .i64 1024)] true),
oL 28 4,
oM 29 0,
oM 30 1,
oP 31 (.call (.t 28) [.t 29, .t 30] false),
oM 32 31,
oN 33 32 true 2,
oQ 34 32 true (.bin .gtr (.t 33) (oK 0)),
oP 35 (.pick (.t 32) (.t 34) (.k (.bool false))),
oM 8 27,
oM 9 35])
 .ret))
def F102 : AFunc :=
 .fn 57 [.tmp 5, .tmp 6]
 (.seq
 (.ops [
oP 5 (.move (oK 0)),
oP 6 (.move (.k (.bool false)))])
 (.seq
 (.ops [
oL 8 2,
oP 9 (.nilCheck (.t 8)),
oF 10 9 18,
oL 11 10,
oM 12 0,
oI 13 11 12 1,
oL 14 13,
oL 15 2,
oP 16 (.nilCheck (.t 15)),
oF 17 16 0,
oD 18 17 4,
oL 19 2,
oP 20 (.nilCheck (.t 19)),
oF 21 20 10,
oF 22 21 4,
oD 23 22 2,
oA 24 90 [.t 18, .t 23] true,
oB 25 .sub 14 24,
oM 7 25])
 (.seq
 (.ops [
oM 26 7,
oL 27 2,
oP 28 (.nilCheck (.t 27)),
oF 29 28 18,
oL 30 29,
oM 31 0,
oI 32 30 31 1,
oL 33 32,
oC 34 .neq 33 (-1099511627776),
oM 35 34,
oQ 36 35 true (.load (.t 2) none),
oN 37 35 true 1,
oQ 38 35 true (.call (.k (.func (.func 103) ⟨[]⟩ ⟨[]⟩)) [.t 36, .t 37] false),
oP 39 (.pick (.t 35) (.t 38) (.k (.bool false))),
oM 40 39,
oN 41 40 true 7,
oQ 42 40 true (.load (.t 2) none),
oQ 43 40 true (.nilCheck (.t 42)),
oQ 44 40 true (.fieldAddr (.t 43) 0),
oQ 45 40 true (.load (.t 44) (some 4)),
oQ 46 40 true (.load (.t 2) none),
oQ 47 40 true (.nilCheck (.t 46)),
oQ 48 40 true (.fieldAddr (.t 47) 4),
oQ 49 40 true (.fieldAddr (.t 48) 3),
oQ 50 40 true (.load (.t 49) none),
oN 51 40 true 1,
oQ 52 40 true (.idxS (.t 50) (.t 51) 2),
oQ 53 40 true (.load (.t 52) (some 2)),
oQ 54 40 true (.call (.k (.func (.func 90) ⟨[]⟩ ⟨[]⟩)) [.t 45, .t 53] false),
oQ 55 40 true (.bin .gtr (.t 41) (.t 54)),
oP 56 (.pick (.t 40) (.t 55) (.k (.bool false))),
oM 5 26,
oM 6 56])
 .ret)))
def F103 : AFunc :=
 .fn 9 [.tmp 4]
 (.seq
 (.ops [
oP 4 (.move (.k (.bool false)))])
 (.seq
 (.ops [
oM 5 0,
oM 6 1,
oA 7 66 [.t 5, .t 6] false,
oC 8 .leq 7 0,
oM 4 8])
 .ret))
def F104 : AFunc :=
 .fn 37 [.tmp 8, .tmp 9]
 (.seq
 (.ops [
oP 8 (.move (oK 0)),
oP 9 (.move (.k (.bool false)))])
 (.seq
 (.ops [
oL 13 3,
oM 14 0,
oM 15 1,
oP 16 (.call (.t 13) [.t 14, .t 15] false),
oM 12 16,
oX 17 12 0,
oX 18 12 1,
oM 10 17,
oM 11 18])
 (.seq
 (.seq
 (.ops [
oM 19 11])
 (.cond (.t 19)
 (.ops [
oL 20 4,
oP 21 (.nilCheck (.t 20)),
oF 22 21 19,
oL 23 22,
oM 24 1,
oL 25 4,
oP 26 (.nilCheck (.t 25)),
oF 27 26 19,
oL 28 27,
oM 29 1,
oI 30 28 29 1,
oL 31 30,
oM 32 10,
oP 33 (.max [.t 31, .t 32]),
oI 34 23 24 1,
oT 34 33 1])
 .skip))
 (.seq
 (.ops [
oM 35 10,
oM 36 11,
oM 8 35,
oM 9 36])
 .ret))))
def F105 : AFunc :=
 .fn 38 [.tmp 8, .tmp 9]
 (.seq
 (.ops [
oP 8 (.move (oK 0)),
oP 9 (.move (.k (.bool false)))])
 (.seq
 (.ops [
oL 13 3,
oM 14 0,
oM 15 1,
oP 16 (.call (.t 13) [.t 14, .t 15] false),
oM 12 16,
oX 17 12 0,
oX 18 12 1,
oM 10 17,
oM 11 18])
 (.seq
 (.ops [
oM 19 2,
oL 20 4,
oP 21 (.nilCheck (.t 20)),
oF 22 21 0,
oD 23 22 4,
oL 24 4,
oP 25 (.nilCheck (.t 24)),
oF 26 25 10,
oF 27 26 2,
oD 28 27 2,
oA 29 90 [.t 23, .t 28] true,
oL 30 4,
oP 31 (.nilCheck (.t 30)),
oF 32 31 4,
oF 33 32 2,
oL 34 33,
oB 35 .mul 29 34,
oB 36 .add 19 35,
oM 37 11,
oM 8 36,
oM 9 37])
 .ret)))
def F106 : AFunc :=
 .sqrt
def F528 : AFunc :=
 .fn 76 []
 (.seq
 (.ops [
oM 10 1,
oM 8 10])
 (.block 0
 (.loop
 (.block 1
 (.seq
 (.ops [
oM 11 8,
oP 12 (.bin .mul (oK 2) (.t 11)),
oC 13 .add 12 1,
oM 9 13])
 (.seq
 (.seq
 (.ops [
oM 14 9,
oM 15 2,
oB 16 .geq 14 15])
 (.cond (.t 16)
 (.exit 0)
 .skip))
 (.seq
 (.seq
 (.ops [
oM 17 9,
oC 18 .add 17 1,
oM 19 2,
oB 20 .lss 18 19,
oM 21 20,
oN 22 21 true 0,
oN 23 21 true 3,
oN 24 21 true 9,
oQ 25 21 true (.bin .add (.t 23) (.t 24)),
oQ 26 21 true (.idxS (.t 22) (.t 25) 1),
oQ 27 21 true (.load (.t 26) none),
oN 28 21 true 0,
oN 29 21 true 3,
oN 30 21 true 9,
oQ 31 21 true (.bin .add (.t 29) (.t 30)),
oQ 32 21 true (.bin .add (.t 31) (oK 1)),
oQ 33 21 true (.idxS (.t 28) (.t 32) 1),
oQ 34 21 true (.load (.t 33) none),
oQ 35 21 true (.call (.k (.func (.func 520) ⟨[]⟩ ⟨[]⟩)) [.t 27, .t 34] false),
oP 36 (.pick (.t 21) (.t 35) (.k (.bool false)))])
 (.cond (.t 36)
 (.ops [
oM 37 9,
oC 38 .add 37 1,
oM 9 38])
 .skip))
 (.seq
 (.seq
 (.ops [
oM 39 0,
oM 40 3,
oM 41 8,
oB 42 .add 40 41,
oI 43 39 42 1,
oL 44 43,
oM 45 0,
oM 46 3,
oM 47 9,
oB 48 .add 46 47,
oI 49 45 48 1,
oL 50 49,
oA 51 520 [.t 44, .t 50] false,
oP 52 (.not (.t 51))])
 (.cond (.t 52)
 .ret
 .skip))
 (.seq
 (.ops [
oM 53 0,
oM 54 3,
oM 55 8,
oB 56 .add 54 55,
oM 57 0,
oM 58 3,
oM 59 9,
oB 60 .add 58 59,
oM 61 0,
oM 62 3,
oM 63 9,
oB 64 .add 62 63,
oI 65 61 64 1,
oL 66 65,
oM 67 0,
oM 68 3,
oM 69 8,
oB 70 .add 68 69,
oI 71 67 70 1,
oL 72 71,
oI 73 53 56 1,
oT 73 66 1,
oI 74 57 60 1,
oT 74 72 1])
 (.ops [
oM 75 9,
oM 8 75]))))))))))
def F222 : AFunc :=
 .fn 7 [.tmp 2]
 (.seq
 (.ops [
oP 2 (.move (.k (.int .u64 0)))])
 (.seq
 (.ops [
oM 3 0,
oP 4 (.toInt .u64 (.t 3)),
oA 5 209 [.t 4] false,
oP 6 (.bin .shl (.k (.int .u64 1)) (.t 5)),
oM 2 6])
 .ret))
def F223 : AFunc :=
 .fn 33 [.tmp 2]
 (.seq
 (.ops [
oP 2 (.move (.k (.int .u64 0)))])
 (.seq
 (.ops [
oM 3 0,
oP 4 (.nilCheck (.t 3)),
oL 5 4,
oM 6 0,
oP 7 (.nilCheck (.t 6)),
oL 8 7,
oP 9 (.bin .shl (.t 8) (.k (.int .u64 13))),
oB 10 .xor 5 9,
oP 11 (.nilCheck (.t 3)),
oT 11 10 1])
 (.seq
 (.ops [
oM 12 0,
oP 13 (.nilCheck (.t 12)),
oL 14 13,
oM 15 0,
oP 16 (.nilCheck (.t 15)),
oL 17 16,
oP 18 (.bin .shr (.t 17) (.k (.int .u64 7))),
oB 19 .xor 14 18,
oP 20 (.nilCheck (.t 12)),
oT 20 19 1])
 (.seq
 (.ops [
oM 21 0,
oP 22 (.nilCheck (.t 21)),
oL 23 22,
oM 24 0,
oP 25 (.nilCheck (.t 24)),
oL 26 25,
oP 27 (.bin .shl (.t 26) (.k (.int .u64 17))),
oB 28 .xor 23 27,
oP 29 (.nilCheck (.t 21)),
oT 29 28 1])
 (.seq
 (.ops [
oM 30 0,
oP 31 (.nilCheck (.t 30)),
oL 32 31,
oM 2 32])
 .ret)))))
def F529 : AFunc :=
 .fn 15 [.tmp 6]
 (.seq
 (.ops [
oP 6 (.move (oK 0))])
 (.seq
 (.ops [
oM 7 0,
oM 8 1,
oC 9 .sub 8 1,
oM 10 1,
oM 11 1,
oC 12 .add 11 1,
oM 13 2,
oA 14 530 [.t 7, .t 9, .t 10, .t 12, .t 13] false,
oM 6 14])
 .ret))
def F530 : AFunc :=
 .fn 36 [.tmp 10]
 (.seq
 (.ops [
oP 10 (.move (oK 0))])
 (.seq
 (.ops [
oM 12 0,
oM 13 1,
oM 14 2,
oM 15 4,
oA 16 535 [.t 12, .t 13, .t 14, .t 15] false,
oM 11 16,
oX 17 11 0,
oX 18 11 1,
oM 1 17,
oM 2 18])
 (.seq
 (.ops [
oM 20 0,
oM 21 2,
oM 22 3,
oM 23 4,
oA 24 535 [.t 20, .t 21, .t 22, .t 23] false,
oM 19 24,
oX 25 19 0,
oX 26 19 1,
oM 2 25,
oM 3 26])
 (.seq
 (.ops [
oM 28 0,
oM 29 1,
oM 30 2,
oM 31 4,
oA 32 535 [.t 28, .t 29, .t 30, .t 31] false,
oM 27 32,
oX 33 27 0,
oX 34 27 1,
oM 1 33,
oM 2 34])
 (.seq
 (.ops [
oM 35 2,
oM 10 35])
 .ret)))))
def F531 : AFunc :=
 .fn 6 [.tmp 2]
 (.seq
 (.ops [
oP 2 (.move (.k (.bool false)))])
 (.seq
 (.ops [
oM 3 0,
oM 4 0,
oB 5 .neq 3 4,
oM 2 5])
 .ret))
def F532 : AFunc :=
 .fn 38 [.cell 2 (some 2)]
 (.seq
 (.ops [
oP 2 (.alloc [.int .i64 0, .int .i64 0])])
 (.seq
 (.seq
 (.ops [
oM 5 0])
 (.block 0
 (.seq
 (.ops [
oC 7 .eql 5 0,
oM 6 7])
 (.cond (.t 6)
 (.seq
 (.ops [
oA 8 489 [.k (.int .i64 65536), .k (.int .i64 65536)] false,
oT 2 8 2])
 .ret)
 (.seq
 (.ops [
oC 10 .eql 5 600,
oM 9 10])
 (.cond (.t 9)
 (.seq
 (.ops [
oA 11 489 [.k (.int .i64 32768), .k (.int .i64 32768)] false,
oT 2 11 2])
 .ret)
 (.seq
 (.ops [
oC 13 .eql 5 900,
oM 12 13])
 (.cond (.t 12)
 (.seq
 (.ops [
oA 14 489 [.k (.int .i64 0), .k (.int .i64 0)] false,
oT 2 14 2])
 .ret)
 .skip))))))))
 (.seq
 (.ops [
oP 3 (.move (.k (.int .u64 0)))])
 (.seq
 (.seq
 (.ops [
oM 15 0,
oC 16 .leq 15 450])
 (.cond (.t 16)
 (.ops [
oM 17 0,
oA 18 538 [.t 17] false,
oA 19 537 [.t 18, .k (.int .u64 4611686018427387904), .k (.int .u64 0)] false,
oA 20 536 [.t 19] false,
oM 3 20])
 (.seq
 (.ops [
oM 21 0,
oP 22 (.bin .sub (oK 900) (.t 21)),
oA 23 538 [.t 22] false,
oM 4 23])
 (.ops [
oM 24 4,
oM 25 4,
oA 26 537 [.t 24, .t 25, .k (.int .u64 1)] false,
oA 27 536 [.t 26] false,
oM 3 27]))))
 (.seq
 (.ops [
oM 28 3,
oP 29 (.bin .sub (.t 28) (.k (.int .u64 1024))),
oP 30 (.bin .shr (.t 29) (.k (.int .u64 46))),
oP 31 (.toInt .i64 (.t 30)),
oM 32 3,
oP 33 (.bin .add (.t 32) (.k (.int .u64 1024))),
oP 34 (.bin .shr (.t 33) (.k (.int .u64 46))),
oP 35 (.toInt .i64 (.t 34)),
oC 36 .add 35 1,
oA 37 489 [.t 31, .t 36] false,
oT 2 37 2])
 .ret)))))
def F533 : AFunc :=
 .fn 12 [.cell 2 (some 2)]
 (.seq
 (.ops [
oP 1 (.box (.t 0)),
oP 2 (.alloc [.int .i64 0, .int .i64 0])])
 (.seq
 (.ops [
oF 3 1 0,
oF 4 3 1,
oL 5 4,
oP 6 (.neg (.t 5)),
oF 7 1 0,
oF 8 7 0,
oL 9 8,
oP 10 (.neg (.t 9)),
oA 11 489 [.t 6, .t 10] false,
oT 2 11 2])
 .ret))
def F107 : AFunc :=
 .fn 17 [.tmp 4, .tmp 5]
 (.seq
 (.ops [
oP 4 (.move (.k (.int .u32 0))),
oP 5 (.move (.k (.int .u32 0)))])
 (.seq
 (.ops [
oM 7 0,
oP 8 (.toInt .u64 (.t 7)),
oM 9 1,
oP 10 (.toInt .u64 (.t 9)),
oB 11 .mul 8 10,
oM 6 11])
 (.seq
 (.ops [
oM 12 6,
oP 13 (.bin .shr (.t 12) (.k (.int .u64 32))),
oP 14 (.toInt .u32 (.t 13)),
oM 15 6,
oP 16 (.toInt .u32 (.t 15)),
oM 4 14,
oM 5 16])
 .ret)))
def F108 : AFunc :=
 .fn 51 [.tmp 4, .tmp 5]
 (.seq
 (.ops [
oP 4 (.move (.k (.int .u64 0))),
oP 5 (.move (.k (.int .u64 0)))])
 (.seq
 (.ops [
oM 14 0,
oP 15 (.bin .and (.t 14) (.k (.int .u64 4294967295))),
oM 6 15])
 (.seq
 (.ops [
oM 16 0,
oP 17 (.bin .shr (.t 16) (.k (.int .u64 32))),
oM 7 17])
 (.seq
 (.ops [
oM 18 1,
oP 19 (.bin .and (.t 18) (.k (.int .u64 4294967295))),
oM 8 19])
 (.seq
 (.ops [
oM 20 1,
oP 21 (.bin .shr (.t 20) (.k (.int .u64 32))),
oM 9 21])
 (.seq
 (.ops [
oM 22 6,
oM 23 8,
oB 24 .mul 22 23,
oM 10 24])
 (.seq
 (.ops [
oM 25 7,
oM 26 8,
oB 27 .mul 25 26,
oM 28 10,
oP 29 (.bin .shr (.t 28) (.k (.int .u64 32))),
oB 30 .add 27 29,
oM 11 30])
 (.seq
 (.ops [
oM 31 11,
oP 32 (.bin .and (.t 31) (.k (.int .u64 4294967295))),
oM 12 32])
 (.seq
 (.ops [
oM 33 11,
oP 34 (.bin .shr (.t 33) (.k (.int .u64 32))),
oM 13 34])
 (.seq
 (.ops [
oM 35 12,
oM 36 6,
oM 37 9,
oB 38 .mul 36 37,
oB 39 .add 35 38,
oM 12 39])
 (.seq
 (.ops [
oM 40 7,
oM 41 9,
oB 42 .mul 40 41,
oM 43 13,
oB 44 .add 42 43,
oM 45 12,
oP 46 (.bin .shr (.t 45) (.k (.int .u64 32))),
oB 47 .add 44 46,
oM 4 47])
 (.seq
 (.ops [
oM 48 0,
oM 49 1,
oB 50 .mul 48 49,
oM 5 50])
 .ret))))))))))))
def F109 : AFunc :=
 .fn 28 []
 (.seq
 (.ops [
oL 9 1,
oP 10 (.nilCheck (.t 9)),
oF 11 10 4,
oD 12 11 4,
oL 13 2,
oA 14 110 [.t 12, .t 13] false,
oM 8 14,
oX 15 8 0,
oX 16 8 1,
oM 4 15,
oM 5 16])
 (.seq
 (.ops [
oM 17 4,
oP 18 (.len (.t 17)),
oP 19 (.move (oK 0))])
 (.block 0
 (.loop
 (.seq
 (.ops [
oB 20 .lss 19 18])
 (.seq
 (.cond (.t 20)
 .skip
 (.exit 0))
 (.seq
 (.block 1
 (.seq
 (.ops [
oI 21 17 19 1,
oL 22 21,
oM 7 22])
 (.seq
 (.ops [
oM 23 0,
oM 24 7,
oP 25 (.call (.t 23) [.t 24] false),
oP 26 (.not (.t 25))])
 (.cond (.t 26)
 .ret
 .skip))))
 (.ops [
oC 27 .add 19 1,
oM 19 27]))))))))
def F110 : AFunc :=
 .fn 23 [.tmp 4, .tmp 5]
 (.seq
 (.ops [
oP 2 (.box (.t 0)),
oP 4 (.move (.k (.slice none 0 0))),
oP 5 (.move (oK 0))])
 (.seq
 (.seq
 (.ops [
oD 7 2 4,
oA 8 37 [.t 7] false,
oM 6 8])
 (.seq
 (.ops [
oM 9 6,
oC 10 .neq 9 0])
 (.cond (.t 10)
 (.seq
 (.ops [
oM 11 6,
oP 4 (.move (.k (.slice none 0 0))),
oM 5 11])
 .ret)
 .skip)))
 (.seq
 (.seq
 (.ops [
oM 12 1,
oF 13 2 3,
oL 14 13,
oP 15 (.len (.t 14)),
oC 16 .sub 15 1,
oA 17 55 [.t 12, .k (.int .i64 0), .t 16] false,
oP 18 (.not (.t 17))])
 (.cond (.t 18)
 (.seq
 (.ops [
oP 4 (.move (.k (.slice none 0 0))),
oP 5 (.move (oK 4))])
 .ret)
 .skip))
 (.seq
 (.ops [
oD 19 2 4,
oM 20 1,
oA 21 112 [.t 19, .t 20] false,
oA 22 111 [.t 21] false,
oM 4 22,
oP 5 (.move (oK 0))])
 .ret))))
def F535 : AFunc :=
 .fn 28 [.tmp 8, .tmp 9]
 (.seq
 (.ops [
oP 8 (.move (oK 0)),
oP 9 (.move (oK 0))])
 (.seq
 (.seq
 (.ops [
oM 10 0,
oM 11 2,
oI 12 10 11 1,
oL 13 12,
oM 14 0,
oM 15 1,
oI 16 14 15 1,
oL 17 16,
oA 18 520 [.t 13, .t 17] false])
 (.cond (.t 18)
 (.seq
 (.ops [
oM 19 3,
oP 20 (.nilCheck (.t 19)),
oL 21 20,
oC 22 .add 21 1,
oP 23 (.nilCheck (.t 19)),
oT 23 22 1])
 (.seq
 (.ops [
oM 24 2,
oM 25 1,
oM 8 24,
oM 9 25])
 .ret))
 .skip))
 (.seq
 (.ops [
oM 26 1,
oM 27 2,
oM 8 26,
oM 9 27])
 .ret)))
def body536 : ACode := (.seq
 (.block 1
 (.seq
 (.ops [
oM 8 0,
oP 9 (.call (.t 8) [] false),
oM 5 9])
 (.seq
 (.seq
 (.ops [
oM 10 5,
oP 11 (.bin .eql (.t 10) (.k (.int .u64 0)))])
 (.cond (.t 11)
 (.seq
 (.ops [
oP 12 (.idxA (.t 3) (oK 0) 2 1),
oL 13 12,
oP 14 (.idxA (.t 3) (oK 1) 2 1),
oL 15 14,
oB 16 .sub 13 15,
oM 2 16])
 .ret)
 .skip))
 (.ops [
oM 17 4,
oC 18 .rem 17 2,
oP 19 (.idxA (.t 3) (.t 18) 2 1),
oL 20 19,
oM 21 5,
oB 22 .add 20 21,
oP 23 (.idxA (.t 3) (.t 18) 2 1),
oT 23 22 1]))))
 (.ops [
oM 6 4,
oC 7 .add 6 1,
oM 4 7]))
def F536 : AFunc :=
 .fn 24 [.tmp 2]
 (.seq
 (.ops [
oP 2 (.move (.k (.int .u64 0)))])
 (.seq
 (.ops [
oP 3 (.alloc [.int .u64 0, .int .u64 0])])
 (.seq
 (.ops [
oP 4 (.move (oK 0))])
 (.block 0
 (.loop body536)))))
def F537 : AFunc :=
 .fn 14 [.tmp 6]
 (.seq
 (.ops [
oP 5 (.box (.t 2)),
oP 6 (.move (.k (.nilFunc)))])
 (.seq
 (.ops [
oM 9 0,
oM 10 0,
oA 11 540 [.t 9, .t 10] false,
oM 12 1,
oP 7 (.alloc [.int .u64 0]),
oP 8 (.alloc [.int .u64 0]),
oT 7 11 1,
oT 8 12 1])
 (.seq
 (.ops [
oP 13 (.makeFunc 541 [] [.t 8, .t 7, .t 5]),
oM 6 13])
 .ret)))
def F538 : AFunc :=
 .fn 20 [.tmp 2]
 (.seq
 (.ops [
oP 2 (.move (.k (.int .u64 0)))])
 (.seq
 (.ops [
oM 8 0,
oP 9 (.toInt .u64 (.t 8)),
oA 10 108 [.k (.int .u64 14488038916154245684), .t 9] false,
oM 7 10,
oX 11 7 0,
oX 12 7 1,
oM 3 11,
oM 4 12])
 (.seq
 (.ops [
oM 14 3,
oM 15 4,
oA 16 542 [.t 14, .t 15, .k (.int .u64 1800)] false,
oM 13 16,
oX 17 13 0,
oX 18 13 1,
oM 5 17,
oM 6 18])
 (.seq
 (.ops [
oM 19 5,
oM 2 19])
 .ret))))
def F111 : AFunc :=
 .fn 5 [.tmp 2]
 (.seq
 (.ops [
oP 2 (.move (.k (.slice none 0 0)))])
 (.seq
 (.ops [
oM 3 0,
oA 4 113 [.k (.slice none 0 0), .t 3] false,
oM 2 4])
 .ret))
def F112 : AFunc :=
 .fn 6 [.tmp 4]
 (.seq
 (.ops [
oP 2 (.box (.t 0)),
oP 3 (.box (.t 1)),
oP 4 (.move (.k (.nilFunc)))])
 (.seq
 (.ops [
oP 5 (.makeFunc 114 [] [.t 3, .t 2]),
oM 4 5])
 .ret))
def F540 : AFunc :=
 .fn 18 [.tmp 4]
 (.seq
 (.ops [
oP 4 (.move (.k (.int .u64 0)))])
 (.seq
 (.ops [
oM 8 0,
oM 9 1,
oA 10 108 [.t 8, .t 9] false,
oM 7 10,
oX 11 7 0,
oX 12 7 1,
oM 5 11,
oM 6 12])
 (.seq
 (.ops [
oM 13 5,
oP 14 (.bin .shl (.t 13) (.k (.int .u64 2))),
oM 15 6,
oP 16 (.bin .shr (.t 15) (.k (.int .u64 62))),
oB 17 .or 14 16,
oM 4 17])
 .ret)))
def F541 : AFunc :=
 .fn 18 [.tmp 3]
 (.seq
 (.ops [
oP 3 (.move (.k (.int .u64 0)))])
 (.seq
 (.ops [
oL 5 0,
oM 4 5])
 (.seq
 (.ops [
oL 6 0,
oL 7 1,
oA 8 540 [.t 6, .t 7] true,
oL 9 2,
oP 10 (.bin .add (.t 9) (.k (.int .u64 1))),
oL 11 2,
oP 12 (.bin .add (.t 11) (.k (.int .u64 2))),
oB 13 .mul 10 12,
oB 14 .quo 8 13,
oT 0 14 1])
 (.seq
 (.ops [
oL 15 2,
oP 16 (.bin .add (.t 15) (.k (.int .u64 2))),
oT 2 16 1])
 (.seq
 (.ops [
oM 17 4,
oM 3 17])
 .ret)))))
def F542 : AFunc :=
 .fn 135 [.tmp 6, .tmp 7]
 (.seq
 (.ops [
oP 6 (.move (.k (.int .u64 0))),
oP 7 (.move (.k (.int .u64 0)))])
 (.seq
 (.seq
 (.ops [
oM 19 2,
oP 20 (.bin .eql (.t 19) (.k (.int .u64 0)))])
 (.cond (.t 20)
 (.ops [
oP 21 (.fail),
⟨none, none, [], .fail⟩])
 .skip))
 (.seq
 (.seq
 (.ops [
oM 22 2,
oM 23 0,
oB 24 .leq 22 23])
 (.cond (.t 24)
 (.ops [
oP 25 (.fail),
⟨none, none, [], .fail⟩])
 .skip))
 (.seq
 (.seq
 (.ops [
oM 26 0,
oP 27 (.bin .eql (.t 26) (.k (.int .u64 0)))])
 (.cond (.t 27)
 (.seq
 (.ops [
oM 28 1,
oM 29 2,
oB 30 .quo 28 29,
oM 31 1,
oM 32 2,
oB 33 .rem 31 32,
oM 6 30,
oM 7 33])
 .ret)
 .skip))
 (.seq
 (.ops [
oM 34 2,
oA 35 543 [.t 34] false,
oP 36 (.toInt .u64 (.t 35)),
oM 8 36])
 (.seq
 (.ops [
oM 37 2,
oM 38 8,
oB 39 .shl 37 38,
oM 2 39])
 (.seq
 (.ops [
oM 40 2,
oP 41 (.bin .shr (.t 40) (.k (.int .u64 32))),
oM 9 41])
 (.seq
 (.ops [
oM 42 2,
oP 43 (.bin .and (.t 42) (.k (.int .u64 4294967295))),
oM 10 43])
 (.seq
 (.ops [
oM 44 0,
oM 45 8,
oB 46 .shl 44 45,
oM 47 1,
oM 48 8,
oP 49 (.bin .sub (.k (.int .u64 64)) (.t 48)),
oB 50 .shr 47 49,
oB 51 .or 46 50,
oM 11 51])
 (.seq
 (.ops [
oM 52 1,
oM 53 8,
oB 54 .shl 52 53,
oM 12 54])
 (.seq
 (.ops [
oM 55 12,
oP 56 (.bin .shr (.t 55) (.k (.int .u64 32))),
oM 13 56])
 (.seq
 (.ops [
oM 57 12,
oP 58 (.bin .and (.t 57) (.k (.int .u64 4294967295))),
oM 14 58])
 (.seq
 (.ops [
oM 59 11,
oM 60 9,
oB 61 .quo 59 60,
oM 15 61])
 (.seq
 (.ops [
oM 62 11,
oM 63 15,
oM 64 9,
oB 65 .mul 63 64,
oB 66 .sub 62 65,
oM 16 66])
 (.seq
 (.block 0
 (.loop
 (.seq
 (.seq
 (.ops [
oM 67 15,
oP 68 (.bin .geq (.t 67) (.k (.int .u64 4294967296))),
oM 69 68,
oN 70 69 false 15,
oN 71 69 false 10,
oQ 72 69 false (.bin .mul (.t 70) (.t 71)),
oN 73 69 false 16,
oQ 74 69 false (.bin .mul (.k (.int .u64 4294967296)) (.t 73)),
oN 75 69 false 13,
oQ 76 69 false (.bin .add (.t 74) (.t 75)),
oQ 77 69 false (.bin .gtr (.t 72) (.t 76)),
oP 78 (.pick (.t 69) (.k (.bool true)) (.t 77))])
 (.cond (.t 78)
 .skip
 (.exit 0)))
 (.block 1
 (.seq
 (.ops [
oM 79 15,
oP 80 (.bin .sub (.t 79) (.k (.int .u64 1))),
oM 15 80])
 (.seq
 (.ops [
oM 81 16,
oM 82 9,
oB 83 .add 81 82,
oM 16 83])
 (.seq
 (.ops [
oM 84 16,
oP 85 (.bin .geq (.t 84) (.k (.int .u64 4294967296)))])
 (.cond (.t 85)
 (.exit 0)
 .skip))))))))
 (.seq
 (.ops [
oM 86 11,
oP 87 (.bin .mul (.t 86) (.k (.int .u64 4294967296))),
oM 88 13,
oB 89 .add 87 88,
oM 90 15,
oM 91 2,
oB 92 .mul 90 91,
oB 93 .sub 89 92,
oM 17 93])
 (.seq
 (.ops [
oM 94 17,
oM 95 9,
oB 96 .quo 94 95,
oM 18 96])
 (.seq
 (.ops [
oM 97 17,
oM 98 18,
oM 99 9,
oB 100 .mul 98 99,
oB 101 .sub 97 100,
oM 16 101])
 (.seq
 (.block 2
 (.loop
 (.seq
 (.seq
 (.ops [
oM 102 18,
oP 103 (.bin .geq (.t 102) (.k (.int .u64 4294967296))),
oM 104 103,
oN 105 104 false 18,
oN 106 104 false 10,
oQ 107 104 false (.bin .mul (.t 105) (.t 106)),
oN 108 104 false 16,
oQ 109 104 false (.bin .mul (.k (.int .u64 4294967296)) (.t 108)),
oN 110 104 false 14,
oQ 111 104 false (.bin .add (.t 109) (.t 110)),
oQ 112 104 false (.bin .gtr (.t 107) (.t 111)),
oP 113 (.pick (.t 104) (.k (.bool true)) (.t 112))])
 (.cond (.t 113)
 .skip
 (.exit 2)))
 (.block 3
 (.seq
 (.ops [
oM 114 18,
oP 115 (.bin .sub (.t 114) (.k (.int .u64 1))),
oM 18 115])
 (.seq
 (.ops [
oM 116 16,
oM 117 9,
oB 118 .add 116 117,
oM 16 118])
 (.seq
 (.ops [
oM 119 16,
oP 120 (.bin .geq (.t 119) (.k (.int .u64 4294967296)))])
 (.cond (.t 120)
 (.exit 2)
 .skip))))))))
 (.seq
 (.ops [
oM 121 15,
oP 122 (.bin .mul (.t 121) (.k (.int .u64 4294967296))),
oM 123 18,
oB 124 .add 122 123,
oM 125 17,
oP 126 (.bin .mul (.t 125) (.k (.int .u64 4294967296))),
oM 127 14,
oB 128 .add 126 127,
oM 129 18,
oM 130 2,
oB 131 .mul 129 130,
oB 132 .sub 128 131,
oM 133 8,
oB 134 .shr 132 133,
oM 6 124,
oM 7 134])
 .ret))))))))))))))))))))
def F113 : AFunc :=
 .fn 13 [.tmp 4]
 (.seq
 (.ops [
oP 2 (.box (.t 0)),
oP 4 (.move (.k (.slice none 0 0)))])
 (.seq
 (.seq
 (.ops [
oM 6 1])
 (.block 0
 (.rangeF (.t 6) [7]
 (.ops [
oM 5 7])
 (.block 1
 (.ops [
oL 8 2,
oM 9 5,
oP 10 (.slit 1 1 [.int .i64 0] [(0, .t 9)]),
oP 11 (.append (.t 8) (.t 10) 1 8),
oT 2 11 1])))))
 (.seq
 (.ops [
oL 12 2,
oM 4 12])
 .ret)))
def F114 : AFunc :=
 .fn 60 []
 (.seq
 (.ops [
oL 10 1,
oF 11 2 0,
oL 12 11,
oB 13 .rem 10 12,
oL 14 1,
oF 15 2 0,
oL 16 15,
oB 17 .quo 14 16,
oM 4 13,
oM 5 17])
 (.seq
 (.ops [
oP 18 (.build [.int .i64 0, .int .i64 0] [(0, 1, .k (.int .i64 1)), (1, 1, .k (.int .i64 0))]),
oP 19 (.build [.int .i64 0, .int .i64 0] [(0, 1, .k (.int .i64 0)), (1, 1, .k (.int .i64 1))]),
oP 20 (.build [.int .i64 0, .int .i64 0] [(0, 1, .k (.int .i64 (-1))), (1, 1, .k (.int .i64 0))]),
oP 21 (.build [.int .i64 0, .int .i64 0] [(0, 1, .k (.int .i64 0)), (1, 1, .k (.int .i64 (-1)))]),
oP 22 (.slit 4 2 [.int .i64 0, .int .i64 0] [(0, .t 18), (1, .t 19), (2, .t 20), (3, .t 21)]),
oP 23 (.len (.t 22)),
oP 24 (.move (oK 0))])
 (.block 0
 (.loop
 (.seq
 (.ops [
oB 25 .lss 24 23])
 (.seq
 (.cond (.t 25)
 .skip
 (.exit 0))
 (.seq
 (.block 1
 (.seq
 (.ops [
oI 26 22 24 2,
oD 27 26 2,
oP 7 (.alloc [.int .i64 0, .int .i64 0]),
oT 7 27 2])
 (.seq
 (.ops [
oM 28 4,
oP 29 (.idxA (.t 7) (oK 0) 2 1),
oL 30 29,
oB 31 .add 28 30,
oM 32 5,
oP 33 (.idxA (.t 7) (oK 1) 2 1),
oL 34 33,
oB 35 .add 32 34,
oM 8 31,
oM 9 35])
 (.seq
 (.ops [
oM 36 8,
oF 37 2 0,
oL 38 37,
oC 39 .sub 38 1,
oA 40 55 [.t 36, .k (.int .i64 0), .t 39] false,
oM 41 40,
oN 42 41 true 9,
oQ 43 41 true (.fieldAddr (.t 2) 1),
oQ 44 41 true (.load (.t 43) none),
oQ 45 41 true (.bin .sub (.t 44) (oK 1)),
oQ 46 41 true (.call (.k (.func (.func 55) ⟨[]⟩ ⟨[]⟩)) [.t 42, .k (.int .i64 0), .t 45] false),
oP 47 (.pick (.t 41) (.t 46) (.k (.bool false))),
oM 48 47,
oN 49 48 true 0,
oN 50 48 true 9,
oQ 51 48 true (.fieldAddr (.t 2) 0),
oQ 52 48 true (.load (.t 51) none),
oQ 53 48 true (.bin .mul (.t 50) (.t 52)),
oN 54 48 true 8,
oQ 55 48 true (.bin .add (.t 53) (.t 54)),
oQ 56 48 true (.call (.t 49) [.t 55] false),
oQ 57 48 true (.not (.t 56)),
oP 58 (.pick (.t 48) (.t 57) (.k (.bool false)))])
 (.cond (.t 58)
 .ret
 .skip)))))
 (.ops [
oC 59 .add 24 1,
oM 24 59]))))))))
def F543 : AFunc :=
 .fn 6 [.tmp 2]
 (.seq
 (.ops [
oP 2 (.move (oK 0))])
 (.seq
 (.ops [
oM 3 0,
oA 4 220 [.t 3] false,
oP 5 (.bin .sub (oK 64) (.t 4)),
oM 2 5])
 .ret))
def labs : List Nat := [0, 0, 1, 391, 392, 393, 394, 395, 396, 397, 398, 399, 400, 401, 402, 403, 404, 405, 406, 407, 408, 409, 410, 411, 412, 413, 414, 415, 416, 417, 418, 419, 420, 421, 422, 423, 424, 425, 426, 427, 428, 429, 430, 431, 432, 433, 434, 435, 436, 437, 438, 439, 440, 441, 442, 443, 444, 445, 446, 447, 40, 448, 449, 450, 15, 451, 452, 453, 454, 455, 456, 457, 458, 459, 41, 460, 461, 462, 463, 174, 464, 465, 466, 467, 468, 16, 469, 470, 471, 472, 473, 474, 475, 37, 476, 13, 477, 478, 479, 480, 59, 481, 43, 482, 483, 484, 485, 486, 17, 487, 488, 489, 490, 44, 38, 45, 39, 491, 492, 493, 494, 495, 55, 56, 57, 58, 42, 496, 497, 498, 499, 500, 46, 12, 28, 501, 502, 503, 60, 61, 62, 63, 64, 65, 66, 67, 68, 504, 209, 82, 505, 506, 507, 508, 509, 510, 511, 512, 51, 52, 53, 54, 513, 83, 84, 85, 86, 87, 88, 89, 90, 91, 514, 515, 516, 517, 518, 519, 520, 521, 522, 219, 220, 523, 524, 525, 526, 527, 69, 70, 71, 72, 73, 74, 75, 76, 77, 78, 79, 80, 81, 93, 94, 95, 96, 97, 98, 99, 100, 101, 102, 103, 104, 105, 106, 528, 222, 223, 529, 530, 531, 532, 533, 534, 92, 107, 108, 109, 110, 535, 536, 537, 538, 539, 111, 112, 540, 541, 542, 113, 114, 543, 0, 0, 0, 0, 0, 0, 0, 0, 0, 0, 0, 0, 0, 0, 0, 0, 0]
def lab (f : Nat) : Nat := labs.getD f 0
def AP (n : Nat) : Option AFunc :=
 (cond (Nat.blt n 272) (cond (Nat.blt n 136) (cond (Nat.blt n 68) (cond (Nat.blt n 34) (cond (Nat.blt n 17) (cond (Nat.blt n 8) (cond (Nat.blt n 4) (cond (Nat.blt n 2) (cond (Nat.blt n 1) none none) (cond (Nat.blt n 3) none none)) (cond (Nat.blt n 6) (cond (Nat.blt n 5) none none) (cond (Nat.blt n 7) none none))) (cond (Nat.blt n 12) (cond (Nat.blt n 10) (cond (Nat.blt n 9) none none) (cond (Nat.blt n 11) none none)) (cond (Nat.blt n 14) (cond (Nat.blt n 13) none (some F13)) (cond (Nat.blt n 15) none (cond (Nat.blt n 16) (some F15) (some F16)))))) (cond (Nat.blt n 25) (cond (Nat.blt n 21) (cond (Nat.blt n 19) (cond (Nat.blt n 18) none none) (cond (Nat.blt n 20) none none)) (cond (Nat.blt n 23) (cond (Nat.blt n 22) none none) (cond (Nat.blt n 24) none none))) (cond (Nat.blt n 29) (cond (Nat.blt n 27) (cond (Nat.blt n 26) none none) (cond (Nat.blt n 28) none none)) (cond (Nat.blt n 31) (cond (Nat.blt n 30) none none) (cond (Nat.blt n 32) none (cond (Nat.blt n 33) none none)))))) (cond (Nat.blt n 51) (cond (Nat.blt n 42) (cond (Nat.blt n 38) (cond (Nat.blt n 36) (cond (Nat.blt n 35) none none) (cond (Nat.blt n 37) none (some F37))) (cond (Nat.blt n 40) (cond (Nat.blt n 39) (some F38) (some F39)) (cond (Nat.blt n 41) (some F40) none))) (cond (Nat.blt n 46) (cond (Nat.blt n 44) (cond (Nat.blt n 43) (some F42) (some F43)) (cond (Nat.blt n 45) (some F44) (some F45))) (cond (Nat.blt n 48) (cond (Nat.blt n 47) none none) (cond (Nat.blt n 49) none (cond (Nat.blt n 50) none none))))) (cond (Nat.blt n 59) (cond (Nat.blt n 55) (cond (Nat.blt n 53) (cond (Nat.blt n 52) none none) (cond (Nat.blt n 54) none none)) (cond (Nat.blt n 57) (cond (Nat.blt n 56) (some F55) (some F56)) (cond (Nat.blt n 58) (some F57) (some F58)))) (cond (Nat.blt n 63) (cond (Nat.blt n 61) (cond (Nat.blt n 60) (some F59) (some F60)) (cond (Nat.blt n 62) (some F61) (some F62))) (cond (Nat.blt n 65) (cond (Nat.blt n 64) (some F63) (some F64)) (cond (Nat.blt n 66) (some F65) (cond (Nat.blt n 67) (some F66) (some F67)))))))) (cond (Nat.blt n 102) (cond (Nat.blt n 85) (cond (Nat.blt n 76) (cond (Nat.blt n 72) (cond (Nat.blt n 70) (cond (Nat.blt n 69) (some F68) none) (cond (Nat.blt n 71) none none)) (cond (Nat.blt n 74) (cond (Nat.blt n 73) none none) (cond (Nat.blt n 75) none none))) (cond (Nat.blt n 80) (cond (Nat.blt n 78) (cond (Nat.blt n 77) none none) (cond (Nat.blt n 79) none none)) (cond (Nat.blt n 82) (cond (Nat.blt n 81) none none) (cond (Nat.blt n 83) (some F82) (cond (Nat.blt n 84) (some F83) (some F84)))))) (cond (Nat.blt n 93) (cond (Nat.blt n 89) (cond (Nat.blt n 87) (cond (Nat.blt n 86) (some F85) (some F86)) (cond (Nat.blt n 88) (some F87) (some F88))) (cond (Nat.blt n 91) (cond (Nat.blt n 90) (some F89) (some F90)) (cond (Nat.blt n 92) (some F91) none))) (cond (Nat.blt n 97) (cond (Nat.blt n 95) (cond (Nat.blt n 94) (some F93) (some F94)) (cond (Nat.blt n 96) (some F95) (some F96))) (cond (Nat.blt n 99) (cond (Nat.blt n 98) (some F97) (some F98)) (cond (Nat.blt n 100) (some F99) (cond (Nat.blt n 101) (some F100) (some F101))))))) (cond (Nat.blt n 119) (cond (Nat.blt n 110) (cond (Nat.blt n 106) (cond (Nat.blt n 104) (cond (Nat.blt n 103) (some F102) (some F103)) (cond (Nat.blt n 105) (some F104) (some F105))) (cond (Nat.blt n 108) (cond (Nat.blt n 107) (some F106) (some F107)) (cond (Nat.blt n 109) (some F108) (some F109)))) (cond (Nat.blt n 114) (cond (Nat.blt n 112) (cond (Nat.blt n 111) (some F110) (some F111)) (cond (Nat.blt n 113) (some F112) (some F113))) (cond (Nat.blt n 116) (cond (Nat.blt n 115) (some F114) none) (cond (Nat.blt n 117) none (cond (Nat.blt n 118) none none))))) (cond (Nat.blt n 127) (cond (Nat.blt n 123) (cond (Nat.blt n 121) (cond (Nat.blt n 120) none none) (cond (Nat.blt n 122) none none)) (cond (Nat.blt n 125) (cond (Nat.blt n 124) none none) (cond (Nat.blt n 126) none none))) (cond (Nat.blt n 131) (cond (Nat.blt n 129) (cond (Nat.blt n 128) none none) (cond (Nat.blt n 130) none none)) (cond (Nat.blt n 133) (cond (Nat.blt n 132) none none) (cond (Nat.blt n 134) none (cond (Nat.blt n 135) none none)))))))) (cond (Nat.blt n 204) (cond (Nat.blt n 170) (cond (Nat.blt n 153) (cond (Nat.blt n 144) (cond (Nat.blt n 140) (cond (Nat.blt n 138) (cond (Nat.blt n 137) none none) (cond (Nat.blt n 139) none none)) (cond (Nat.blt n 142) (cond (Nat.blt n 141) none none) (cond (Nat.blt n 143) none none))) (cond (Nat.blt n 148) (cond (Nat.blt n 146) (cond (Nat.blt n 145) none none) (cond (Nat.blt n 147) none none)) (cond (Nat.blt n 150) (cond (Nat.blt n 149) none none) (cond (Nat.blt n 151) none (cond (Nat.blt n 152) none none))))) (cond (Nat.blt n 161) (cond (Nat.blt n 157) (cond (Nat.blt n 155) (cond (Nat.blt n 154) none none) (cond (Nat.blt n 156) none none)) (cond (Nat.blt n 159) (cond (Nat.blt n 158) none none) (cond (Nat.blt n 160) none none))) (cond (Nat.blt n 165) (cond (Nat.blt n 163) (cond (Nat.blt n 162) none none) (cond (Nat.blt n 164) none none)) (cond (Nat.blt n 167) (cond (Nat.blt n 166) none none) (cond (Nat.blt n 168) none (cond (Nat.blt n 169) none none)))))) (cond (Nat.blt n 187) (cond (Nat.blt n 178) (cond (Nat.blt n 174) (cond (Nat.blt n 172) (cond (Nat.blt n 171) none none) (cond (Nat.blt n 173) none none)) (cond (Nat.blt n 176) (cond (Nat.blt n 175) (some F174) none) (cond (Nat.blt n 177) none none))) (cond (Nat.blt n 182) (cond (Nat.blt n 180) (cond (Nat.blt n 179) none none) (cond (Nat.blt n 181) none none)) (cond (Nat.blt n 184) (cond (Nat.blt n 183) none none) (cond (Nat.blt n 185) none (cond (Nat.blt n 186) none none))))) (cond (Nat.blt n 195) (cond (Nat.blt n 191) (cond (Nat.blt n 189) (cond (Nat.blt n 188) none none) (cond (Nat.blt n 190) none none)) (cond (Nat.blt n 193) (cond (Nat.blt n 192) none none) (cond (Nat.blt n 194) none none))) (cond (Nat.blt n 199) (cond (Nat.blt n 197) (cond (Nat.blt n 196) none none) (cond (Nat.blt n 198) none none)) (cond (Nat.blt n 201) (cond (Nat.blt n 200) none none) (cond (Nat.blt n 202) none (cond (Nat.blt n 203) none none))))))) (cond (Nat.blt n 238) (cond (Nat.blt n 221) (cond (Nat.blt n 212) (cond (Nat.blt n 208) (cond (Nat.blt n 206) (cond (Nat.blt n 205) none none) (cond (Nat.blt n 207) none none)) (cond (Nat.blt n 210) (cond (Nat.blt n 209) none (some F209)) (cond (Nat.blt n 211) none none))) (cond (Nat.blt n 216) (cond (Nat.blt n 214) (cond (Nat.blt n 213) none none) (cond (Nat.blt n 215) none none)) (cond (Nat.blt n 218) (cond (Nat.blt n 217) none none) (cond (Nat.blt n 219) none (cond (Nat.blt n 220) (some F219) (some F220)))))) (cond (Nat.blt n 229) (cond (Nat.blt n 225) (cond (Nat.blt n 223) (cond (Nat.blt n 222) none (some F222)) (cond (Nat.blt n 224) (some F223) none)) (cond (Nat.blt n 227) (cond (Nat.blt n 226) none none) (cond (Nat.blt n 228) none none))) (cond (Nat.blt n 233) (cond (Nat.blt n 231) (cond (Nat.blt n 230) none none) (cond (Nat.blt n 232) none none)) (cond (Nat.blt n 235) (cond (Nat.blt n 234) none none) (cond (Nat.blt n 236) none (cond (Nat.blt n 237) none none)))))) (cond (Nat.blt n 255) (cond (Nat.blt n 246) (cond (Nat.blt n 242) (cond (Nat.blt n 240) (cond (Nat.blt n 239) none none) (cond (Nat.blt n 241) none none)) (cond (Nat.blt n 244) (cond (Nat.blt n 243) none none) (cond (Nat.blt n 245) none none))) (cond (Nat.blt n 250) (cond (Nat.blt n 248) (cond (Nat.blt n 247) none none) (cond (Nat.blt n 249) none none)) (cond (Nat.blt n 252) (cond (Nat.blt n 251) none none) (cond (Nat.blt n 253) none (cond (Nat.blt n 254) none none))))) (cond (Nat.blt n 263) (cond (Nat.blt n 259) (cond (Nat.blt n 257) (cond (Nat.blt n 256) none none) (cond (Nat.blt n 258) none none)) (cond (Nat.blt n 261) (cond (Nat.blt n 260) none none) (cond (Nat.blt n 262) none none))) (cond (Nat.blt n 267) (cond (Nat.blt n 265) (cond (Nat.blt n 264) none none) (cond (Nat.blt n 266) none none)) (cond (Nat.blt n 269) (cond (Nat.blt n 268) none none) (cond (Nat.blt n 270) none (cond (Nat.blt n 271) none none))))))))) (cond (Nat.blt n 408) (cond (Nat.blt n 340) (cond (Nat.blt n 306) (cond (Nat.blt n 289) (cond (Nat.blt n 280) (cond (Nat.blt n 276) (cond (Nat.blt n 274) (cond (Nat.blt n 273) none none) (cond (Nat.blt n 275) none none)) (cond (Nat.blt n 278) (cond (Nat.blt n 277) none none) (cond (Nat.blt n 279) none none))) (cond (Nat.blt n 284) (cond (Nat.blt n 282) (cond (Nat.blt n 281) none none) (cond (Nat.blt n 283) none none)) (cond (Nat.blt n 286) (cond (Nat.blt n 285) none none) (cond (Nat.blt n 287) none (cond (Nat.blt n 288) none none))))) (cond (Nat.blt n 297) (cond (Nat.blt n 293) (cond (Nat.blt n 291) (cond (Nat.blt n 290) none none) (cond (Nat.blt n 292) none none)) (cond (Nat.blt n 295) (cond (Nat.blt n 294) none none) (cond (Nat.blt n 296) none none))) (cond (Nat.blt n 301) (cond (Nat.blt n 299) (cond (Nat.blt n 298) none none) (cond (Nat.blt n 300) none none)) (cond (Nat.blt n 303) (cond (Nat.blt n 302) none none) (cond (Nat.blt n 304) none (cond (Nat.blt n 305) none none)))))) (cond (Nat.blt n 323) (cond (Nat.blt n 314) (cond (Nat.blt n 310) (cond (Nat.blt n 308) (cond (Nat.blt n 307) none none) (cond (Nat.blt n 309) none none)) (cond (Nat.blt n 312) (cond (Nat.blt n 311) none none) (cond (Nat.blt n 313) none none))) (cond (Nat.blt n 318) (cond (Nat.blt n 316) (cond (Nat.blt n 315) none none) (cond (Nat.blt n 317) none none)) (cond (Nat.blt n 320) (cond (Nat.blt n 319) none none) (cond (Nat.blt n 321) none (cond (Nat.blt n 322) none none))))) (cond (Nat.blt n 331) (cond (Nat.blt n 327) (cond (Nat.blt n 325) (cond (Nat.blt n 324) none none) (cond (Nat.blt n 326) none none)) (cond (Nat.blt n 329) (cond (Nat.blt n 328) none none) (cond (Nat.blt n 330) none none))) (cond (Nat.blt n 335) (cond (Nat.blt n 333) (cond (Nat.blt n 332) none none) (cond (Nat.blt n 334) none none)) (cond (Nat.blt n 337) (cond (Nat.blt n 336) none none) (cond (Nat.blt n 338) none (cond (Nat.blt n 339) none none))))))) (cond (Nat.blt n 374) (cond (Nat.blt n 357) (cond (Nat.blt n 348) (cond (Nat.blt n 344) (cond (Nat.blt n 342) (cond (Nat.blt n 341) none none) (cond (Nat.blt n 343) none none)) (cond (Nat.blt n 346) (cond (Nat.blt n 345) none none) (cond (Nat.blt n 347) none none))) (cond (Nat.blt n 352) (cond (Nat.blt n 350) (cond (Nat.blt n 349) none none) (cond (Nat.blt n 351) none none)) (cond (Nat.blt n 354) (cond (Nat.blt n 353) none none) (cond (Nat.blt n 355) none (cond (Nat.blt n 356) none none))))) (cond (Nat.blt n 365) (cond (Nat.blt n 361) (cond (Nat.blt n 359) (cond (Nat.blt n 358) none none) (cond (Nat.blt n 360) none none)) (cond (Nat.blt n 363) (cond (Nat.blt n 362) none none) (cond (Nat.blt n 364) none none))) (cond (Nat.blt n 369) (cond (Nat.blt n 367) (cond (Nat.blt n 366) none none) (cond (Nat.blt n 368) none none)) (cond (Nat.blt n 371) (cond (Nat.blt n 370) none none) (cond (Nat.blt n 372) none (cond (Nat.blt n 373) none none)))))) (cond (Nat.blt n 391) (cond (Nat.blt n 382) (cond (Nat.blt n 378) (cond (Nat.blt n 376) (cond (Nat.blt n 375) none none) (cond (Nat.blt n 377) none none)) (cond (Nat.blt n 380) (cond (Nat.blt n 379) none none) (cond (Nat.blt n 381) none none))) (cond (Nat.blt n 386) (cond (Nat.blt n 384) (cond (Nat.blt n 383) none none) (cond (Nat.blt n 385) none none)) (cond (Nat.blt n 388) (cond (Nat.blt n 387) none none) (cond (Nat.blt n 389) none (cond (Nat.blt n 390) none none))))) (cond (Nat.blt n 399) (cond (Nat.blt n 395) (cond (Nat.blt n 393) (cond (Nat.blt n 392) none none) (cond (Nat.blt n 394) (some F393) none)) (cond (Nat.blt n 397) (cond (Nat.blt n 396) none none) (cond (Nat.blt n 398) none none))) (cond (Nat.blt n 403) (cond (Nat.blt n 401) (cond (Nat.blt n 400) none none) (cond (Nat.blt n 402) (some F401) (some F402))) (cond (Nat.blt n 405) (cond (Nat.blt n 404) (some F403) none) (cond (Nat.blt n 406) (some F405) (cond (Nat.blt n 407) none (some F407))))))))) (cond (Nat.blt n 476) (cond (Nat.blt n 442) (cond (Nat.blt n 425) (cond (Nat.blt n 416) (cond (Nat.blt n 412) (cond (Nat.blt n 410) (cond (Nat.blt n 409) none (some F409)) (cond (Nat.blt n 411) (some F410) (some F411))) (cond (Nat.blt n 414) (cond (Nat.blt n 413) (some F412) (some F413)) (cond (Nat.blt n 415) none none))) (cond (Nat.blt n 420) (cond (Nat.blt n 418) (cond (Nat.blt n 417) none none) (cond (Nat.blt n 419) (some F418) none)) (cond (Nat.blt n 422) (cond (Nat.blt n 421) none none) (cond (Nat.blt n 423) (some F422) (cond (Nat.blt n 424) (some F423) (some F424)))))) (cond (Nat.blt n 433) (cond (Nat.blt n 429) (cond (Nat.blt n 427) (cond (Nat.blt n 426) none none) (cond (Nat.blt n 428) none (some F428))) (cond (Nat.blt n 431) (cond (Nat.blt n 430) none (some F430)) (cond (Nat.blt n 432) none none))) (cond (Nat.blt n 437) (cond (Nat.blt n 435) (cond (Nat.blt n 434) none none) (cond (Nat.blt n 436) none none)) (cond (Nat.blt n 439) (cond (Nat.blt n 438) (some F437) (some F438)) (cond (Nat.blt n 440) (some F439) (cond (Nat.blt n 441) (some F440) (some F441))))))) (cond (Nat.blt n 459) (cond (Nat.blt n 450) (cond (Nat.blt n 446) (cond (Nat.blt n 444) (cond (Nat.blt n 443) (some F442) none) (cond (Nat.blt n 445) (some F444) (some F445))) (cond (Nat.blt n 448) (cond (Nat.blt n 447) (some F446) (some F447)) (cond (Nat.blt n 449) (some F448) (some F449)))) (cond (Nat.blt n 454) (cond (Nat.blt n 452) (cond (Nat.blt n 451) (some F450) (some F451)) (cond (Nat.blt n 453) none none)) (cond (Nat.blt n 456) (cond (Nat.blt n 455) none (some F455)) (cond (Nat.blt n 457) (some F456) (cond (Nat.blt n 458) (some F457) (some F458)))))) (cond (Nat.blt n 467) (cond (Nat.blt n 463) (cond (Nat.blt n 461) (cond (Nat.blt n 460) (some F459) none) (cond (Nat.blt n 462) none (some F462))) (cond (Nat.blt n 465) (cond (Nat.blt n 464) (some F463) (some F464)) (cond (Nat.blt n 466) (some F465) (some F466)))) (cond (Nat.blt n 471) (cond (Nat.blt n 469) (cond (Nat.blt n 468) none (some F468)) (cond (Nat.blt n 470) none (some F470))) (cond (Nat.blt n 473) (cond (Nat.blt n 472) (some F471) (some F472)) (cond (Nat.blt n 474) (some F473) (cond (Nat.blt n 475) (some F474) (some F475)))))))) (cond (Nat.blt n 510) (cond (Nat.blt n 493) (cond (Nat.blt n 484) (cond (Nat.blt n 480) (cond (Nat.blt n 478) (cond (Nat.blt n 477) (some F476) (some F477)) (cond (Nat.blt n 479) (some F478) (some F479))) (cond (Nat.blt n 482) (cond (Nat.blt n 481) (some F480) (some F481)) (cond (Nat.blt n 483) none none))) (cond (Nat.blt n 488) (cond (Nat.blt n 486) (cond (Nat.blt n 485) (some F484) none) (cond (Nat.blt n 487) none (some F487))) (cond (Nat.blt n 490) (cond (Nat.blt n 489) (some F488) (some F489)) (cond (Nat.blt n 491) (some F490) (cond (Nat.blt n 492) none (some F492)))))) (cond (Nat.blt n 501) (cond (Nat.blt n 497) (cond (Nat.blt n 495) (cond (Nat.blt n 494) (some F493) (some F494)) (cond (Nat.blt n 496) (some F495) (some F496))) (cond (Nat.blt n 499) (cond (Nat.blt n 498) (some F497) (some F498)) (cond (Nat.blt n 500) none none))) (cond (Nat.blt n 505) (cond (Nat.blt n 503) (cond (Nat.blt n 502) (some F501) (some F502)) (cond (Nat.blt n 504) (some F503) (some F504))) (cond (Nat.blt n 507) (cond (Nat.blt n 506) (some F505) (some F506)) (cond (Nat.blt n 508) (some F507) (cond (Nat.blt n 509) (some F508) (some F509))))))) (cond (Nat.blt n 527) (cond (Nat.blt n 518) (cond (Nat.blt n 514) (cond (Nat.blt n 512) (cond (Nat.blt n 511) none none) (cond (Nat.blt n 513) none (some F513))) (cond (Nat.blt n 516) (cond (Nat.blt n 515) (some F514) (some F515)) (cond (Nat.blt n 517) (some F516) (some F517)))) (cond (Nat.blt n 522) (cond (Nat.blt n 520) (cond (Nat.blt n 519) (some F518) (some F519)) (cond (Nat.blt n 521) (some F520) (some F521))) (cond (Nat.blt n 524) (cond (Nat.blt n 523) (some F522) (some F523)) (cond (Nat.blt n 525) (some F524) (cond (Nat.blt n 526) (some F525) none))))) (cond (Nat.blt n 536) (cond (Nat.blt n 531) (cond (Nat.blt n 529) (cond (Nat.blt n 528) none (some F528)) (cond (Nat.blt n 530) (some F529) (some F530))) (cond (Nat.blt n 533) (cond (Nat.blt n 532) (some F531) (some F532)) (cond (Nat.blt n 534) (some F533) (cond (Nat.blt n 535) none (some F535))))) (cond (Nat.blt n 540) (cond (Nat.blt n 538) (cond (Nat.blt n 537) (some F536) (some F537)) (cond (Nat.blt n 539) (some F538) none)) (cond (Nat.blt n 542) (cond (Nat.blt n 541) (some F540) (some F541)) (cond (Nat.blt n 543) (some F542) (cond (Nat.blt n 544) (some F543) none))))))))))
end Go.Ab.Gauge
namespace Go.Ab
theorem map_ev_congr {T T' : List Value} : ∀ {l : List Opd}, (∀ x ∈ l, ev T x = ev T' x) → l.map (ev T) = l.map (ev T') := fun h => List.map_congr_left h
theorem boundA_congr {T T' : List Value} {d : Nat} {x : Option Opd} (h : ∀ y ∈ x.toList, ev T y = ev T' y) : boundA T d x = boundA T' d x := by
  cases x with
  | none => rfl
  | some y => simp [boundA, h y (by simp)]
theorem opA_congr {o : AOp} {T T' : List Value} (h : ∀ x ∈ o.opds, ev T x = ev T' x) (cv : CallFn) (g : Nat) (A : Hp) : opA o cv g T A = opA o cv g T' A := by
  cases o <;> simp only [AOp.opds, List.mem_cons, List.not_mem_nil, or_false, forall_eq_or_imp, forall_eq, List.mem_append] at h <;> simp only [opA]
  case move x => rw [h]
  case pick c a b => rw [h.1, h.2.1, h.2.2]
  case nilCheck x => rw [h]
  case bin op x y => rw [h.1, h.2]
  case beq n x y => rw [h.1, h.2]
  case eqv n s x y => rw [h.1, h.2]
  case eqNil k n x => rw [h]
  case neg x => rw [h]
  case not x => rw [h]
  case toInt k x => rw [h]
  case toF64 x => rw [h]
  case makeFunc f a b => rw [map_ev_congr fun x hx => h x (.inl hx), map_ev_congr fun x hx => h x (.inr hx)]
  case build z ps =>
    have : (ps.map fun p => (p.1, p.2.1, ev T p.2.2)) = ps.map fun p => (p.1, p.2.1, ev T' p.2.2) := List.map_congr_left fun p hp => by rw [h p.2.2 (List.mem_map.2 ⟨p, hp, rfl⟩)]
    rw [this]
  case fieldAddr x n => rw [h]
  case field x n s => rw [h]
  case idxS x i n => rw [h.1, h.2]
  case idxA x i n m => rw [h.1, h.2]
  case index x i n m g => rw [h.1, h.2]
  case reslice3 x lo hi mx n => rw [h.1, h.2.1, h.2.2.1, h.2.2.2]
  case reslice x lo hi n =>
    have h1 := boundA_congr (T := T) (T' := T') (d := 0) (x := lo) fun y hy => h.2 y (.inl hy)
    have h2 : (fun n => boundA T n hi) = fun n => boundA T' n hi := funext fun n => boundA_congr fun y hy => h.2 y (.inr hy)
    rw [h.1, h1, h2]
  case extract x n => rw [h]
  case len x => rw [h]
  case lenT x => rw [h]
  case min l => rw [map_ev_congr h]
  case max l => rw [map_ev_congr h]
  case box x => rw [h]
  case slit n e z ps =>
    have : (ps.map fun p => (p.1 * e, e, ev T p.2)) = ps.map fun p => (p.1 * e, e, ev T' p.2) := List.map_congr_left fun p hp => by rw [h p.2 (List.mem_map.2 ⟨p, hp, rfl⟩)]
    rw [this]
  case makeS l c e b z => rw [h.1, h.2]
  case load x s => rw [h]
  case store x v n => rw [h.1, h.2]
  case append s x e b => rw [h.1, h.2]
  case copy d s e => rw [h.1, h.2]
  case call f l ro => rw [h.1, map_ev_congr h.2]
  case callC c f l => rw [h.1, h.2.1, map_ev_congr h.2.2]
  case strOp op x y => rw [h.1, h.2]
  case strIdx x i => rw [h.1, h.2]
  case toBytes x => rw [h]
  case toStr x => rw [h]
  case lookup x k kt z ok => rw [h.1, h.2]
  case mapSet x k v kt => rw [h.1, h.2.1, h.2.2]
  case lenM x => rw [h]
  case clearM x => rw [h]
  case clearS x z => rw [h]
  case strSl x lo hi =>
    have h1 := boundA_congr (T := T) (T' := T') (d := 0) (x := lo) fun y hy => h.2 y (.inl hy)
    have h2 : (fun n => boundA T n hi) = fun n => boundA T' n hi := funext fun n => boundA_congr fun y hy => h.2 y (.inr hy)
    rw [h.1, h1, h2]
  case sliceData x => rw [h]
  case appendT s x => rw [h.1, h.2]
  case mkStr p n => rw [h.1, h.2]
def CallKeeps (cv : CallFn) : Prop := ∀ (g : Nat) (f : Value) (args : List Value) (A : Hp) (v : Value) (A' : Hp), cv g f args A = some (v, A') → A.n ≤ A'.n ∧ ∀ x, x < A.n → x < g → A'.get x = A.get x
theorem pureV_heap {r : Option Value} {A A' : Hp} {v : Value} (h : pureV r A = some (v, A')) : r = some v ∧ A' = A := by
  cases r with
  | none => simp [pureV] at h
  | some u => simp [pureV] at h; exact ⟨by rw [h.1], h.2.symm⟩
theorem opA_mem0 {o : AOp} (hm : o.mem = 0) {cv : CallFn} {g : Nat} {T : List Value} {A A' : Hp} {v : Value} (h : opA o cv g T A = some (v, A')) : A' = A ∧ ∀ g' B, opA o cv g' T B = some (v, B) := by
  cases o <;> simp only [AOp.mem] at hm <;> try (cases hm; done)
  case call f l ro => cases ro <;> simp at hm
  case fail => cases h
  case rangeI => cases h
  case nextI => cases h
  case entryI => cases h
  case move x => cases h; exact ⟨rfl, fun _ _ => rfl⟩
  case makeFunc f a b => cases h; exact ⟨rfl, fun _ _ => rfl⟩
  all_goals
    obtain ⟨h1, h2⟩ := pureV_heap h
    exact ⟨h2, fun _ B => by simp only [opA, h1, pureV, Option.map_some]⟩
theorem opA_load {x : Opd} {s : Option Nat} {cv : CallFn} {g : Nat} {T : List Value} {A A' : Hp} {v : Value} (h : opA (.load x s) cv g T A = some (v, A')) : A' = A ∧ loadA A (ev T x) s = some v :=
  (pureV_heap h).symm
theorem opA_mem2 {o : AOp} (hm : o.mem = 2) {cv : CallFn} {g : Nat} {T : List Value} {A A' : Hp} {v : Value} (h : opA o cv g T A = some (v, A')) : (∃ b, A' = A.push b) ∧ ∀ g', opA o cv g' T A = some (v, A') := by
  cases o <;> simp only [AOp.mem] at hm <;> try (cases hm; done)
  case call f l ro => cases ro <;> simp at hm
  case alloc z => cases h; exact ⟨⟨_, rfl⟩, fun _ => rfl⟩
  case box x => cases h; exact ⟨⟨_, rfl⟩, fun _ => rfl⟩
  case slit n e z ps =>
    refine ⟨?_, fun _ => h⟩
    simp only [opA, slitA] at h
    split at h
    · cases h; exact ⟨_, rfl⟩
    · cases h
  case makeS l c e b z =>
    refine ⟨?_, fun _ => h⟩
    simp only [opA, makeSA] at h
    split at h
    · split at h
      · cases h; exact ⟨_, rfl⟩
      · cases h
    · cases h
  case makeM => cases h; exact ⟨⟨_, rfl⟩, fun _ => rfl⟩
  case allocB => cases h; exact ⟨⟨_, rfl⟩, fun _ => rfl⟩
  case toBytes x =>
    refine ⟨?_, fun _ => h⟩
    simp only [opA, toBytesA] at h
    split at h
    · cases h; exact ⟨_, rfl⟩
    · cases h
theorem writeA_some {g x o : Nat} {A A' : Hp} {vs : List Value} (h : writeA g A x o vs = some A') :
    g ≤ x ∧ ∃ cs, A.get x = some (.cells cs false) ∧ o + vs.length ≤ cs.length ∧ A' = A.set x (some (.cells (setRange cs o vs) false)) := by
  unfold writeA at h
  split at h
  · rename_i hg
    split at h
    · rename_i cs hcs
      split at h
      · rename_i hb
        cases h
        exact ⟨hg, cs, hcs, hb.1, rfl⟩
      · cases h
    · cases h
  · cases h
theorem opA_store {x y : Opd} {n : Nat} {cv : CallFn} {g : Nat} {T : List Value} {A A' : Hp} {v : Value} (h : opA (.store x y n) cv g T A = some (v, A')) :
    ∃ b o vs, ev T x = .pointer (some ⟨b, o, none⟩) ∧ vs.length = n ∧ writeA g A b o vs = some A' := by
  simp only [opA, storeV, Option.map_eq_some_iff] at h
  obtain ⟨A1, h, he⟩ := h
  cases he
  unfold storeA at h
  split at h
  · rename_i b o heq
    split at h
    · rename_i hl
      exact ⟨b, o, _, heq, hl, h⟩
    · cases h
  · cases h
theorem stillBut_some {A A' : Hp} {f v : Value} {r : Option (Value × Hp)} (h : stillBut A f r = some (v, A')) : r = some (v, A') ∧ OnlyC A f A' := by
  cases r with
  | none => cases h
  | some p =>
    obtain ⟨v1, A1⟩ := p
    simp only [stillBut] at h
    split at h
    · rename_i hc; cases h; exact ⟨rfl, hc⟩
    · cases h
theorem stillBut_of {A A' : Hp} {f v : Value} {r : Option (Value × Hp)} (h : r = some (v, A')) (hc : OnlyC A f A') : stillBut A f r = some (v, A') := by
  subst h
  simp only [stillBut, if_pos hc]
theorem mapSetA_some {g kt : Nat} {A A' : Hp} {x k v : Value} (h : mapSetA g A kt x k v = some A') : ∃ r l l', x = .map (some r) ∧ A.get r = some (.map l none) ∧ g ≤ r ∧ keyFits kt k = true ∧ setM k v l = some l' ∧ A' = A.set r (some (.map l' none)) := by
  unfold mapSetA at h
  split at h
  · rename_i r
    split at h
    · rename_i l hl
      split at h
      · rename_i hg
        simp only [Option.map_eq_some_iff] at h
        obtain ⟨l', h1, rfl⟩ := h
        exact ⟨r, l, l', rfl, hl, hg.1, hg.2, h1, rfl⟩
      · cases h
    · cases h
  · cases h
theorem clearMA_some {g : Nat} {A A' : Hp} {x : Value} (h : clearMA g A x = some A') : (x = .map none ∧ A' = A) ∨ ∃ r l, x = .map (some r) ∧ A.get r = some (.map l none) ∧ g ≤ r ∧ A' = A.set r (some (.map [] none)) := by
  unfold clearMA at h
  split at h
  · cases h; exact .inl ⟨rfl, rfl⟩
  · rename_i r
    split at h
    · rename_i l hl
      split at h
      · rename_i hg
        cases h
        exact .inr ⟨r, l, rfl, hl, hg, rfl⟩
      · cases h
    · cases h
  · cases h
theorem appendTA_some {g : Nat} {A A' : Hp} {s x v : Value} (h : appendTA g A s x = some (v, A')) :
    ∃ u, x = .string u ∧ ((u.size = 0 ∧ v = s ∧ A' = A ∧ (s = .slice none 0 0 ∨ ∃ b m c l, s = .slice (some ⟨b, 0, some 1⟩) m c ∧ A.get b = some (.bytes l) ∧ l.length = m)) ∨
      (u.size ≠ 0 ∧ u.size ≤ room ∧ s = .slice none 0 0 ∧ v = .slice (some ⟨A.n, 0, some 1⟩) u.size u.size ∧ A' = A.push (.bytes u.data.toList)) ∨
      ∃ b m c l, u.size ≠ 0 ∧ s = .slice (some ⟨b, 0, some 1⟩) m c ∧ A.get b = some (.bytes l) ∧ g ≤ b ∧ m + u.size ≤ room ∧ l.length = m ∧ v = .slice (some ⟨A.n, 0, some 1⟩) (m + u.size) (m + u.size) ∧ A' = (A.set b none).push (.bytes (l ++ u.data.toList))) := by
  unfold appendTA at h
  split at h
  · rename_i u
    refine ⟨u, rfl, ?_⟩
    split at h
    · split at h
      · rename_i h0; cases h; exact .inl ⟨h0, rfl, rfl, .inl rfl⟩
      · rename_i h0
        split at h
        · rename_i h1; cases h; exact .inr (.inl ⟨h0, h1, rfl, rfl, rfl⟩)
        · cases h
    · rename_i b m c
      split at h
      · rename_i l hl
        split at h
        · rename_i hg
          split at h
          · rename_i h0; cases h; exact .inl ⟨h0, rfl, rfl, .inr ⟨b, m, c, l, rfl, hl, hg.2.2⟩⟩
          · rename_i h0; cases h; exact .inr (.inr ⟨b, m, c, l, h0, rfl, hl, hg.1, hg.2.1, hg.2.2, rfl, rfl⟩)
        · cases h
      · cases h
    · cases h
  · cases h
theorem mkStrA_some {g : Nat} {A A' : Hp} {p n v : Value} (h : mkStrA g A p n = some (v, A')) :
    (p = .pointer none ∧ n = .int .i64 0 ∧ v = .string ⟨⟨[]⟩⟩ ∧ A' = A) ∨ ∃ b l, p = .pointer (some ⟨b, 0, none⟩) ∧ n = .int .i64 l.length ∧ A.get b = some (.bytes l) ∧ g ≤ b ∧ 0 < l.length ∧ l.length ≤ room ∧ v = .string ⟨⟨l⟩⟩ ∧ A' = A.set b none := by
  unfold mkStrA at h
  split at h
  · cases h; exact .inl ⟨rfl, rfl, rfl, rfl⟩
  · rename_i b n
    split at h
    · rename_i l hl
      split at h
      · rename_i hg
        cases h
        exact .inr ⟨b, l, rfl, by rw [hg.2.1], hl, hg.1, by have := hg.2.2.1; omega, by have := hg.2.2.2; omega, rfl, rfl⟩
      · cases h
    · cases h
  · cases h
theorem opA_len {o : AOp} {cv : CallFn} (hcv : CallKeeps cv) {g : Nat} {T : List Value} {A A' : Hp} {v : Value} (h : opA o cv g T A = some (v, A')) : A.n ≤ A'.n := by
  by_cases h0 : o.mem = 0
  · rw [(opA_mem0 h0 h).1]; exact Nat.le_refl _
  · by_cases h2 : o.mem = 2
    · obtain ⟨⟨b, rfl⟩, _⟩ := opA_mem2 h2 h; simp
    · cases o <;> simp only [AOp.mem, not_true_eq_false] at h0 h2
      case load x s => rw [(opA_load h).1]; exact Nat.le_refl _
      case store x y n =>
        obtain ⟨b, o, vs, _, _, hw⟩ := opA_store h
        obtain ⟨_, cs, _, _, rfl⟩ := writeA_some hw
        simp
      case append s x e by_ =>
        simp only [opA, appendA] at h
        repeat' (split at h)
        all_goals try (cases h; done)
        all_goals try (cases h; exact Nat.le_refl _)
        all_goals try (cases h; simp; done)
        simp only [Option.map_eq_some_iff] at h
        obtain ⟨A1, hw, he⟩ := h
        cases he
        obtain ⟨_, cs, _, _, rfl⟩ := writeA_some hw
        simp
      case copy d s e =>
        simp only [opA, copyA] at h
        repeat' (split at h)
        all_goals try (cases h; done)
        · simp only [Option.map_eq_some_iff] at h
          obtain ⟨A1, hw, he⟩ := h
          cases he
          obtain ⟨_, cs, _, _, rfl⟩ := writeA_some hw
          simp
        · cases h; exact Nat.le_refl _
      case call f l ro => exact (hcv _ _ _ _ _ _ h).1
      case callC c f l => exact (hcv _ _ _ _ _ _ (stillBut_some h).1).1
      case toStr y => rw [(pureV_heap h).2]; exact Nat.le_refl _
      case lookup x k kt z ok => rw [(pureV_heap h).2]; exact Nat.le_refl _
      case lenM x => rw [(pureV_heap h).2]; exact Nat.le_refl _
      case mapSet x k v kt =>
        simp only [opA, storeV, Option.map_eq_some_iff] at h
        obtain ⟨A1, h, he⟩ := h
        cases he
        obtain ⟨r, l, l', _, _, _, _, _, rfl⟩ := mapSetA_some h
        simp
      case clearS x z =>
        simp only [opA, clearSA] at h
        repeat' (split at h)
        all_goals try (cases h; done)
        all_goals try (cases h; exact Nat.le_refl _)
        simp only [Option.map_eq_some_iff] at h
        obtain ⟨A1, hw, he⟩ := h
        cases he
        obtain ⟨_, cs, _, _, rfl⟩ := writeA_some hw
        simp
      case clearM x =>
        simp only [opA, Option.map_eq_some_iff] at h
        obtain ⟨A1, h, he⟩ := h
        cases he
        rcases clearMA_some h with ⟨_, rfl⟩ | ⟨r, l, _, _, _, rfl⟩ <;> simp
      case appendT s x =>
        obtain ⟨u, _, ⟨_, _, rfl, _⟩ | ⟨_, _, _, _, rfl⟩ | ⟨b, m, c, l, _, _, _, _, _, _, _, rfl⟩⟩ := appendTA_some h <;> simp
      case mkStr p n =>
        rcases mkStrA_some h with ⟨_, _, _, rfl⟩ | ⟨b, l, _, _, _, _, _, _, _, rfl⟩ <;> simp
theorem opA_still {o : AOp} {cv : CallFn} (hcv : CallKeeps cv) (hm : o.mem ≠ 3 ∧ o.mem ≠ 4 ∧ o.mem ≠ 5 ∧ o.mem ≠ 7) {g : Nat} {T : List Value} {A A' : Hp} {v : Value} (h : opA o cv g T A = some (v, A')) :
    ∀ x, x < A.n → A'.get x = A.get x := by
  intro x hx
  by_cases h0 : o.mem = 0
  · rw [(opA_mem0 h0 h).1]
  · by_cases h2 : o.mem = 2
    · obtain ⟨⟨b, rfl⟩, _⟩ := opA_mem2 h2 h
      rw [Hp.get_push, if_neg (by omega)]
    · cases o <;> simp only [AOp.mem, not_true_eq_false, ne_eq, false_and, and_false] at h0 h2 hm
      case load y s => rw [(opA_load h).1]
      case toStr y => rw [(pureV_heap h).2]
      case lookup x k kt z ok => rw [(pureV_heap h).2]
      case lenM x => rw [(pureV_heap h).2]
      case call f l ro =>
        cases ro with
        | false => simp at hm
        | true => exact (hcv _ _ _ _ _ _ h).2 x hx hx
theorem opA_keeps {o : AOp} {cv : CallFn} (hcv : CallKeeps cv) {g : Nat} {T : List Value} {A A' : Hp} {v : Value} (h : opA o cv g T A = some (v, A')) : ∀ x, x < A.n → x < g → A'.get x = A.get x := by
  intro x hx hg
  by_cases hm : o.mem ≠ 3 ∧ o.mem ≠ 4 ∧ o.mem ≠ 5 ∧ o.mem ≠ 7
  · exact opA_still hcv hm h x hx
  · have wr : ∀ {b off : Nat} {vs : List Value} {B : Hp}, writeA g A b off vs = some B → B.get x = A.get x := fun hw => by
      obtain ⟨hgb, cs, hcs, _, rfl⟩ := writeA_some hw
      rw [Hp.get_set hcs, if_neg (by omega)]
    cases o <;> simp only [AOp.mem] at hm <;> try (exfalso; revert hm; decide)
    case store y z n =>
      obtain ⟨b, o, vs, _, _, hw⟩ := opA_store h
      exact wr hw
    case append s y e by_ =>
      simp only [opA, appendA] at h
      repeat' (split at h)
      all_goals try (cases h; done)
      all_goals try (cases h; rfl)
      · cases h; rw [Hp.get_push, if_neg (by omega)]
      · cases h
        rename_i b off es m c cs _ hcs hc _
        rw [Hp.get_push, if_neg (by simp; omega), Hp.get_set hcs, if_neg (by omega)]
      · simp only [Option.map_eq_some_iff] at h
        obtain ⟨A1, hw, he⟩ := h
        cases he
        exact wr hw
    case copy d s e =>
      simp only [opA, copyA] at h
      repeat' (split at h)
      all_goals try (cases h; done)
      · simp only [Option.map_eq_some_iff] at h
        obtain ⟨A1, hw, he⟩ := h
        cases he
        exact wr hw
      · cases h; rfl
    case call f l ro =>
      cases ro with
      | false => exact (hcv _ _ _ _ _ _ h).2 x hx hg
      | true => exact (hcv _ _ _ _ _ _ h).2 x hx hx
    case callC c f l => exact (hcv _ _ _ _ _ _ (stillBut_some h).1).2 x hx hg
    case mapSet x k v kt =>
      simp only [opA, storeV, Option.map_eq_some_iff] at h
      obtain ⟨A1, h, he⟩ := h
      cases he
      obtain ⟨r, l, l', _, hl, hgr, _, _, rfl⟩ := mapSetA_some h
      rw [Hp.get_set hl, if_neg (by omega)]
    case clearS y z =>
      simp only [opA, clearSA] at h
      repeat' (split at h)
      all_goals try (cases h; done)
      all_goals try (cases h; rfl)
      simp only [Option.map_eq_some_iff] at h
      obtain ⟨A1, hw, he⟩ := h
      cases he
      exact wr hw
    case clearM x =>
      simp only [opA, Option.map_eq_some_iff] at h
      obtain ⟨A1, h, he⟩ := h
      cases he
      rcases clearMA_some h with ⟨_, rfl⟩ | ⟨r, l, _, hl, hgr, rfl⟩
      · rfl
      · rw [Hp.get_set hl, if_neg (by omega)]
    case appendT s y =>
      obtain ⟨u, _, ⟨_, _, rfl, _⟩ | ⟨_, _, _, _, rfl⟩ | ⟨b, m, c, l, _, _, hb, hgb, _, _, _, rfl⟩⟩ := appendTA_some h
      · rfl
      · rw [Hp.get_push, if_neg (by omega)]
      · rw [Hp.get_push, if_neg (by simp; omega), Hp.get_set hb, if_neg (by omega)]
    case mkStr p n =>
      rcases mkStrA_some h with ⟨_, _, _, rfl⟩ | ⟨b, l, _, _, hb, hgb, _, _, _, rfl⟩
      · rfl
      · rw [Hp.get_set hb, if_neg (by omega)]
theorem befStep_bit (acc : List Nat) (l : List Nat) (i : Nat) : (befStep acc l).testBit i = true ↔ ∃ e ∈ l, e = i ∨ (acc.getD e 0).testBit i = true := by
  unfold befStep
  have key : ∀ (l : List Nat) (s : Nat), (l.foldl (fun s e => s ||| 2 ^ e ||| acc.getD e 0) s).testBit i = true ↔ s.testBit i = true ∨ ∃ e ∈ l, e = i ∨ (acc.getD e 0).testBit i = true := by
    intro l
    induction l with
    | nil => intro s; simp
    | cons e l ih =>
      intro s
      rw [List.foldl_cons, ih]
      simp only [Nat.testBit_or, Nat.testBit_two_pow, Bool.or_eq_true, decide_eq_true_eq, List.mem_cons, exists_eq_or_imp]
      constructor
      · rintro ((( h | h) | h) | h)
        · exact .inl h
        · exact .inr (.inl (.inl h))
        · exact .inr (.inl (.inr h))
        · exact .inr (.inr h)
      · rintro (h | (h | h) | h)
        · exact .inl (.inl (.inl h))
        · exact .inl (.inl (.inr h))
        · exact .inl (.inr h)
        · exact .inr h
  have := key l 0
  simpa using this
theorem snoc_ind {α : Type} {P : List α → Prop} (h0 : P []) (h1 : ∀ l a, P l → P (l ++ [a])) (l : List α) : P l := by
  have : ∀ l : List α, P l.reverse := fun l => by
    induction l with
    | nil => exact h0
    | cons a l ih => rw [List.reverse_cons]; exact h1 _ _ ih
  have := this l.reverse
  rwa [List.reverse_reverse] at this
theorem befA_snoc (aft : List (List Nat)) (l : List Nat) : befA (aft ++ [l]) = befA aft ++ [befStep (befA aft) l] := by simp [befA]
theorem befA_length (aft : List (List Nat)) : (befA aft).length = aft.length := by
  refine snoc_ind (P := fun aft => (befA aft).length = aft.length) rfl (fun aft l ih => ?_) aft
  rw [befA_snoc]; simp [ih]
theorem befA_get (aft : List (List Nat)) : ∀ j, j < aft.length → (befA aft).getD j 0 = befStep (befA (aft.take j)) (aft.getD j []) := by
  refine snoc_ind (P := fun aft => ∀ j, j < aft.length → (befA aft).getD j 0 = befStep (befA (aft.take j)) (aft.getD j [])) (by intro j h; simp at h) (fun aft l ih => ?_) aft
  · intro j h
    rw [befA_snoc]
    by_cases hj : j < aft.length
    · have e1 : (befA aft ++ [befStep (befA aft) l]).getD j 0 = (befA aft).getD j 0 := by
        simp [List.getD, List.getElem?_append_left (show j < (befA aft).length by rw [befA_length]; exact hj)]
      have e2 : (aft ++ [l]).getD j [] = aft.getD j [] := by simp [List.getD, List.getElem?_append_left hj]
      rw [e1, ih j hj, e2, List.take_append_of_le_length (by omega)]
    · have hj : j = aft.length := by simp at h; omega
      subst hj
      have e1 : (befA aft ++ [befStep (befA aft) l]).getD aft.length 0 = befStep (befA aft) l := by
        simp [List.getD, befA_length]
      have e2 : (aft ++ [l]).getD aft.length [] = l := by simp [List.getD]
      rw [e1, e2, List.take_left]
theorem befA_take (aft : List (List Nat)) (k j : Nat) (hj : j < k) (hk : k ≤ aft.length) : (befA (aft.take k)).getD j 0 = (befA aft).getD j 0 := by
  rw [befA_get aft j (by omega), befA_get (aft.take k) j (by simp; omega)]
  rw [List.take_take, show min j k = j by omega]
  congr 1
  simp [List.getD, hj]
theorem bef_closed {aft : List (List Nat)} (hback : ∀ j, j < aft.length → ∀ e ∈ aft.getD j [], e < j) {S : Nat → Prop} (hS : ∀ j, j < aft.length → S j → ∀ e ∈ aft.getD j [], S e) :
    ∀ j, j < aft.length → S j → ∀ i, ((befA aft).getD j 0).testBit i = true → S i := by
  intro j
  induction j using Nat.strongRecOn with
  | _ j ih =>
    intro hj hSj i hi
    rw [befA_get aft j hj, befStep_bit] at hi
    obtain ⟨e, he, h | h⟩ := hi
    · subst h; exact hS j hj hSj e he
    · have hlt := hback j hj e he
      rw [befA_take aft j e hlt (by omega)] at h
      exact ih e hlt (by omega) (hS j hj hSj e he) i h
theorem bef_lt {aft : List (List Nat)} (hback : ∀ j, j < aft.length → ∀ e ∈ aft.getD j [], e < j) : ∀ j, j < aft.length → ∀ i, ((befA aft).getD j 0).testBit i = true → i < j := by
  intro j
  induction j using Nat.strongRecOn with
  | _ j ih =>
    intro hj i hi
    rw [befA_get aft j hj, befStep_bit] at hi
    obtain ⟨e, he, h | h⟩ := hi
    · subst h; exact hback j hj e he
    · have hlt := hback j hj e he
      rw [befA_take aft j e hlt (by omega)] at h
      have := ih e hlt (by omega) i h
      omega
def Step (cv : CallFn) (g : Nat) (o : AOper) (s s' : List Value × Hp) : Prop :=
  (wantedA o.guard s.1 = true ∧ o.apart.all (apartA s.1) = true ∧ ∃ v, opA o.op cv g s.1 s.2 = some (v, s'.2) ∧ s'.1 = putA o.dst s.1 v) ∨
  (wantedA o.guard s.1 = false ∧ s'.2 = s.2 ∧ s'.1 = putA o.dst s.1 undef)
theorem operA_step {cv : CallFn} {g : Nat} {o : AOper} {next : List Value → Hp → Option (List Value × Hp)} {T : List Value} {A : Hp} {r : List Value × Hp} (h : operA o next cv g T A = some r) :
    ∃ s', Step cv g o (T, A) s' ∧ next s'.1 s'.2 = some r := by
  unfold operA at h
  split at h
  · rename_i hw
    split at h
    · rename_i ha
      split at h
      · rename_i v A' hv
        rw [forceV_eq] at h
        exact ⟨(putA o.dst T v, A'), .inl ⟨hw, ha, v, hv, rfl⟩, h⟩
      · cases h
    · cases h
  · rename_i hw
    exact ⟨(putA o.dst T undef, A), .inr ⟨by simpa using hw, rfl, rfl⟩, h⟩
theorem opsA_states {cv : CallFn} {g : Nat} : ∀ {al : List AOper} {T : List Value} {A : Hp} {r : List Value × Hp}, opsA cv g al T A = some r →
    ∃ st : Nat → List Value × Hp, st 0 = (T, A) ∧ st al.length = r ∧ ∀ i o, al[i]? = some o → Step cv g o (st i) (st (i + 1)) := by
  intro al
  induction al with
  | nil => intro T A r h; simp at h; exact ⟨fun _ => (T, A), rfl, h, by simp⟩
  | cons o al ih =>
    intro T A r h
    rw [opsA_cons] at h
    obtain ⟨s', hs, hn⟩ := operA_step h
    obtain ⟨st, h0, h1, h2⟩ := ih hn
    refine ⟨fun i => match i with | 0 => (T, A) | i + 1 => st i, rfl, h1, fun i o' hi => ?_⟩
    cases i with
    | zero => simp at hi; subst hi; show Step cv g o (T, A) (st 0); rw [h0]; exact hs
    | succ i => exact h2 i o' (by simpa using hi)
end Go.Ab
