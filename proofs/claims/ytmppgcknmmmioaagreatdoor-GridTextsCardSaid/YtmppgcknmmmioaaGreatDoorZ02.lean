/- What the executor leaves alone: names below its guard. -/
import Derived.Test.YtmppgcknmmmioaaGreatDoorZ01
import Derived.Test.YtmppgcknmmmioaaGreatDoorZ00
set_option linter.unusedSimpArgs false
set_option linter.unusedVariables false
set_option linter.unusedSectionVars false
set_option maxRecDepth 100000
namespace Go.Ab.Grid
open Go.Ab
def F326 : AFunc :=
 .fn 8 [.cell 2 (some 4)]
 (.seq
 (.ops [
oP 1 (.box (.t 0)),
oP 2 (.alloc [.int .i64 0, .int .i64 0, .int .i64 0, .slice none 0 0])])
 (.seq
 (.ops [
oF 3 1 3,
oL 4 3,
oA 5 161 [.t 4] false,
oF 6 1 3,
oT 6 5 1])
 (.seq
 (.ops [
oD 7 1 4,
oT 2 7 4])
 .ret)))
def F327 : AFunc :=
 .fn 24 [.cell 4 (some 2), .tmp 5]
 (.seq
 (.ops [
oP 2 (.box (.t 0)),
oP 3 (.box (.t 1)),
oP 4 (.alloc [.int .i64 0, .int .i64 0]),
oP 5 (.move (.k (.bool false)))])
 (.seq
 (.ops [
oF 7 2 0,
oL 8 7,
oF 9 3 0,
oL 10 9,
oP 11 (.max [.t 8, .t 10]),
oF 12 2 1,
oL 13 12,
oF 14 3 1,
oL 15 14,
oP 16 (.min [.t 13, .t 15]),
oP 17 (.build [.int .i64 0, .int .i64 0] [(0, 1, .t 11), (1, 1, .t 16)]),
oP 6 (.alloc [.int .i64 0, .int .i64 0]),
oT 6 17 2])
 (.seq
 (.ops [
oD 18 6 2,
oF 19 6 0,
oL 20 19,
oF 21 6 1,
oL 22 21,
oB 23 .leq 20 22,
⟨none, none, [(.t 4, 2, .t 19, 1), (.t 4, 2, .t 21, 1)], .store (.t 4) (.t 18) 2⟩,
oM 5 23])
 .ret)))
def F329 : AFunc :=
 .fn 92 []
 (.seq
 (.ops [
oP 15 (.build [.slice none 0 0, .nilFunc] [(1, 1, .k (.func (.func 330) ⟨[]⟩ ⟨[]⟩))]),
oP 6 (.alloc [.slice none 0 0, .nilFunc]),
oT 6 15 2])
 (.seq
 (.ops [
oF 16 2 3,
oL 17 16,
oP 18 (.len (.t 17)),
oP 19 (.makeS (.t 18) (.t 18) 1 8 [.int .i64 0]),
oP 7 (.alloc [.slice none 0 0]),
oT 7 19 1])
 (.seq
 (.seq
 (.ops [
oF 20 2 3,
oL 21 20,
oP 22 (.len (.t 21)),
oP 23 (.move (oK 0))])
 (.block 0
 (.loop
 (.seq
 (.ops [
oB 24 .lss 23 22])
 (.seq
 (.cond (.t 24)
 .skip
 (.exit 0))
 (.seq
 (.block 1
 (.seq
 (.ops [
oM 25 23,
oI 26 21 23 2,
oD 27 26 2,
oP 9 (.alloc [.int .i64 0, .int .i64 0]),
oM 8 25,
oT 9 27 2])
 (.seq
 (.ops [
oL 28 7,
oM 29 8,
oM 30 0,
oD 31 9 2,
oP 32 (.call (.t 30) [.t 31] true),
oI 33 28 29 1,
oT 33 32 1])
 (.ops [
oM 34 8,
oL 35 7,
oM 36 8,
oI 37 35 36 1,
oL 38 37,
oP 39 (.build [.int .i64 0, .int .i64 0] [(0, 1, .t 34), (1, 1, .t 38)]),
oA 40 277 [.t 6, .t 39] false]))))
 (.ops [
oC 41 .add 23 1,
oM 23 41])))))))
 (.seq
 (.block 2
 (.loop
 (.seq
 (.seq
 (.ops [
oF 42 6 0,
oL 43 42,
oP 44 (.len (.t 43)),
oC 45 .gtr 44 0])
 (.cond (.t 45)
 .skip
 (.exit 2)))
 (.block 3
 (.seq
 (.ops [
oA 46 278 [.t 6] false,
oP 10 (.alloc [.int .i64 0, .int .i64 0]),
oT 10 46 2])
 (.seq
 (.ops [
oD 47 2 4,
oF 48 10 0,
oL 49 48,
oA 50 112 [.t 47, .t 49] false])
 (.block 4
 (.rangeF (.t 50) [51]
 (.ops [
oM 11 51])
 (.block 5
 (.seq
 (.ops [
oF 52 10 1,
oL 53 52,
oL 54 3,
oB 55 .add 53 54,
oM 12 55])
 (.seq
 (.ops [
oF 56 10 1,
oL 57 56,
oL 58 7,
oF 59 10 0,
oL 60 59,
oI 61 58 60 1,
oL 62 61,
oB 63 .eql 57 62,
oM 64 63,
oN 65 64 true 12,
oQ 66 64 true (.load (.t 7) none),
oN 67 64 true 11,
oQ 68 64 true (.idxS (.t 66) (.t 67) 1),
oQ 69 64 true (.load (.t 68) none),
oQ 70 64 true (.bin .lss (.t 65) (.t 69)),
oP 71 (.pick (.t 64) (.t 70) (.k (.bool false)))])
 (.cond (.t 71)
 (.seq
 (.ops [
oL 72 7,
oM 73 11,
oM 74 12,
oI 75 72 73 1,
oT 75 74 1])
 (.ops [
oM 76 11,
oM 77 12,
oP 78 (.build [.int .i64 0, .int .i64 0] [(0, 1, .t 76), (1, 1, .t 77)]),
oA 79 277 [.t 6, .t 78] false]))
 .skip))))))))))))
 (.seq
 (.ops [
oL 80 7,
oP 81 (.len (.t 80)),
oP 82 (.move (oK 0))])
 (.block 6
 (.loop
 (.seq
 (.ops [
oB 83 .lss 82 81])
 (.seq
 (.cond (.t 83)
 .skip
 (.exit 6))
 (.seq
 (.block 7
 (.seq
 (.ops [
oM 84 82,
oI 85 80 82 1,
oL 86 85,
oM 13 84,
oM 14 86])
 (.ops [
oM 87 1,
oM 88 13,
oM 89 14,
oP 90 (.call (.t 87) [.t 88, .t 89] false)])))
 (.ops [
oC 91 .add 82 1,
oM 82 91])))))))))))
def F330 : AFunc :=
 .fn 10 [.tmp 4]
 (.seq
 (.ops [
oP 2 (.box (.t 0)),
oP 3 (.box (.t 1)),
oP 4 (.move (.k (.bool false)))])
 (.seq
 (.ops [
oF 5 2 1,
oL 6 5,
oF 7 3 1,
oL 8 7,
oB 9 .lss 6 8,
oM 4 9])
 .ret))
def body277 : ACode := (.seq
 (.seq
 (.ops [
oM 20 4,
oC 21 .gtr 20 0,
oM 22 21,
oN 23 22 true 0,
oQ 24 22 true (.nilCheck (.t 23)),
oQ 25 22 true (.fieldAddr (.t 24) 1),
oQ 26 22 true (.load (.t 25) none),
oN 27 22 true 0,
oQ 28 22 true (.nilCheck (.t 27)),
oQ 29 22 true (.fieldAddr (.t 28) 0),
oQ 30 22 true (.load (.t 29) none),
oN 31 22 true 4,
oQ 32 22 true (.idxS (.t 30) (.t 31) 2),
oQ 33 22 true (.load (.t 32) (some 2)),
oN 34 22 true 0,
oQ 35 22 true (.nilCheck (.t 34)),
oQ 36 22 true (.fieldAddr (.t 35) 0),
oQ 37 22 true (.load (.t 36) none),
oN 38 22 true 4,
oQ 39 22 true (.bin .sub (.t 38) (oK 1)),
oQ 40 22 true (.bin .quo (.t 39) (oK 2)),
oQ 41 22 true (.idxS (.t 37) (.t 40) 2),
oQ 42 22 true (.load (.t 41) (some 2)),
oQ 43 22 true (.call (.t 26) [.t 33, .t 42] false),
oP 44 (.pick (.t 22) (.t 43) (.k (.bool false)))])
 (.cond (.t 44)
 .skip
 (.exit 0)))
 (.block 1
 (.seq
 (.ops [
oM 45 0,
oP 46 (.nilCheck (.t 45)),
oF 47 46 0,
oL 48 47,
oM 49 4,
oM 50 0,
oP 51 (.nilCheck (.t 50)),
oF 52 51 0,
oL 53 52,
oM 54 4,
oC 55 .sub 54 1,
oC 56 .quo 55 2,
oM 57 0,
oP 58 (.nilCheck (.t 57)),
oF 59 58 0,
oL 60 59,
oM 61 4,
oC 62 .sub 61 1,
oC 63 .quo 62 2,
oI 64 60 63 2,
oD 65 64 2,
oM 66 0,
oP 67 (.nilCheck (.t 66)),
oF 68 67 0,
oL 69 68,
oM 70 4,
oI 71 69 70 2,
oD 72 71 2,
oI 73 48 49 2,
oT 73 65 2,
oI 74 53 56 2,
oT 74 72 2])
 (.ops [
oM 75 4,
oC 76 .sub 75 1,
oC 77 .quo 76 2,
oM 4 77]))))
def F277 : AFunc :=
 .fn 78 []
 (.seq
 (.ops [
oP 3 (.box (.t 1))])
 (.seq
 (.ops [
oM 5 0,
oP 6 (.nilCheck (.t 5)),
oF 7 6 0,
oL 8 7,
oP 9 (.len (.t 8)),
oM 4 9])
 (.seq
 (.ops [
oM 10 0,
oM 11 0,
oP 12 (.nilCheck (.t 11)),
oF 13 12 0,
oL 14 13,
oD 15 3 2,
oP 16 (.slit 1 2 [.int .i64 0, .int .i64 0] [(0, .t 15)]),
oP 17 (.append (.t 14) (.t 16) 2 16),
oP 18 (.nilCheck (.t 10)),
oF 19 18 0,
oT 19 17 1])
 (.block 0
 (.loop body277)))))
def body278c : ACode := (.seq
 (.ops [
oB 52 .lss 51 50])
 (.seq
 (.cond (.t 52)
 .skip
 (.exit 2))
 (.seq
 (.block 3
 (.seq
 (.ops [
oI 53 49 51 1,
oL 54 53,
oM 8 54])
 (.seq
 (.ops [
oM 55 8,
oM 56 4,
oB 57 .lss 55 56,
oM 58 57,
oN 59 58 true 0,
oQ 60 58 true (.nilCheck (.t 59)),
oQ 61 58 true (.fieldAddr (.t 60) 1),
oQ 62 58 true (.load (.t 61) none),
oN 63 58 true 0,
oQ 64 58 true (.nilCheck (.t 63)),
oQ 65 58 true (.fieldAddr (.t 64) 0),
oQ 66 58 true (.load (.t 65) none),
oN 67 58 true 8,
oQ 68 58 true (.idxS (.t 66) (.t 67) 2),
oQ 69 58 true (.load (.t 68) (some 2)),
oN 70 58 true 0,
oQ 71 58 true (.nilCheck (.t 70)),
oQ 72 58 true (.fieldAddr (.t 71) 0),
oQ 73 58 true (.load (.t 72) none),
oN 74 58 true 6,
oQ 75 58 true (.idxS (.t 73) (.t 74) 2),
oQ 76 58 true (.load (.t 75) (some 2)),
oQ 77 58 true (.call (.t 62) [.t 69, .t 76] false),
oP 78 (.pick (.t 58) (.t 77) (.k (.bool false)))])
 (.cond (.t 78)
 (.ops [
oM 79 8,
oM 6 79])
 .skip))))
 (.ops [
oC 80 .add 51 1,
oM 51 80]))))
def F278 : AFunc :=
 .fn 112 [.cell 2 (some 2)]
 (.seq
 (.ops [
oP 2 (.alloc [.int .i64 0, .int .i64 0])])
 (.seq
 (.ops [
oM 9 0,
oP 10 (.nilCheck (.t 9)),
oF 11 10 0,
oL 12 11,
oP 13 (.idxS (.t 12) (oK 0) 2),
oD 14 13 2,
oM 15 0,
oP 16 (.nilCheck (.t 15)),
oF 17 16 0,
oL 18 17,
oP 19 (.len (.t 18)),
oC 20 .sub 19 1,
oP 3 (.alloc [.int .i64 0, .int .i64 0]),
⟨none, none, [(.t 3, 2, .t 17, 1)], .store (.t 3) (.t 14) 2⟩,
oM 4 20])
 (.seq
 (.ops [
oM 21 0,
oP 22 (.nilCheck (.t 21)),
oF 23 22 0,
oL 24 23,
oM 25 0,
oP 26 (.nilCheck (.t 25)),
oF 27 26 0,
oL 28 27,
oM 29 4,
oI 30 28 29 2,
oD 31 30 2,
oP 32 (.idxS (.t 24) (oK 0) 2),
oT 32 31 2])
 (.seq
 (.ops [
oM 33 0,
oM 34 0,
oP 35 (.nilCheck (.t 34)),
oF 36 35 0,
oL 37 36,
oM 38 4,
oP 39 (.reslice (.t 37) none (some (.t 38)) 2),
oP 40 (.nilCheck (.t 33)),
oF 41 40 0,
oT 41 39 1])
 (.seq
 (.ops [
oP 5 (.move (oK 0))])
 (.block 0
 (.loop
 (.block 1
 (.seq
 (.ops [
oM 42 5,
oM 6 42])
 (.seq
 (.seq
 (.ops [
oM 43 5,
oP 44 (.bin .mul (oK 2) (.t 43)),
oC 45 .add 44 1,
oM 46 5,
oP 47 (.bin .mul (oK 2) (.t 46)),
oC 48 .add 47 2,
oP 49 (.slit 2 1 [.int .i64 0] [(0, .t 45), (1, .t 48)]),
oP 50 (.len (.t 49)),
oP 51 (.move (oK 0))])
 (.block 2
 (.loop body278c)))
 (.seq
 (.seq
 (.ops [
oM 81 6,
oM 82 5,
oB 83 .eql 81 82])
 (.cond (.t 83)
 (.seq
 (.ops [
oD 84 3 2,
oT 2 84 2])
 .ret)
 .skip))
 (.seq
 (.ops [
oM 85 0,
oP 86 (.nilCheck (.t 85)),
oF 87 86 0,
oL 88 87,
oM 89 5,
oM 90 0,
oP 91 (.nilCheck (.t 90)),
oF 92 91 0,
oL 93 92,
oM 94 6,
oM 95 0,
oP 96 (.nilCheck (.t 95)),
oF 97 96 0,
oL 98 97,
oM 99 6,
oI 100 98 99 2,
oD 101 100 2,
oM 102 0,
oP 103 (.nilCheck (.t 102)),
oF 104 103 0,
oL 105 104,
oM 106 5,
oI 107 105 106 2,
oD 108 107 2,
oI 109 88 89 2,
oT 109 101 2,
oI 110 93 94 2,
oT 110 108 2])
 (.ops [
oM 111 6,
oM 5 111])))))))))))))
def F331 : AFunc :=
 .fn 11 []
 (.ops [
oF 5 2 3,
oL 6 5,
oM 7 0,
oM 8 1,
oI 9 6 7 2,
oF 10 9 1,
oT 10 8 1])
def F332 : AFunc :=
 .fn 6 [.tmp 2]
 (.seq
 (.ops [
oP 1 (.box (.t 0)),
oP 2 (.move (oK 0))])
 (.seq
 (.ops [
oF 3 1 0,
oL 4 3,
oP 5 (.neg (.t 4)),
oM 2 5])
 .ret))
def F333 : AFunc :=
 .fn 12 []
 (.ops [
oF 5 2 3,
oL 6 5,
oM 7 0,
oM 8 1,
oP 9 (.neg (.t 8)),
oI 10 6 7 2,
oF 11 10 0,
oT 11 9 1])
def F334 : AFunc :=
 .fn 8 [.tmp 2]
 (.seq
 (.ops [
oP 1 (.box (.t 0)),
oP 2 (.move (.k (.bool false)))])
 (.seq
 (.ops [
oF 3 1 0,
oL 4 3,
oF 5 1 1,
oL 6 5,
oB 7 .gtr 4 6,
oM 2 7])
 .ret))
def F335 : AFunc :=
 .fn 7 []
 (.ops [
oM 3 0,
⟨some 4, none, [], .call (.k (.func (.func 337) ⟨[]⟩ ⟨[]⟩)) [.t 3, .k (.string ⟨⟨[32]⟩⟩)] false⟩,
⟨some 5, none, [], .strOp .add (.t 4) (.k (.string ⟨⟨[10]⟩⟩))⟩,
oA 6 336 [.t 1, .t 5] false])
def F336 : AFunc :=
 .fn 19 [.tmp 4, .tmp 5]
 (.seq
 (.ops [
oP 4 (.move (oK 0)),
oP 5 (.move (.k (.nilIface)))])
 (.seq
 (.ops [
oM 6 0,
oA 7 350 [.t 6] false])
 (.seq
 (.ops [
oM 8 0,
oM 9 0,
oP 10 (.nilCheck (.t 9)),
oF 11 10 1,
oL 12 11,
oM 13 1,
oP 14 (.appendT (.t 12) (.t 13)),
oP 15 (.nilCheck (.t 8)),
oF 16 15 1,
oT 16 14 1])
 (.seq
 (.ops [
oM 17 1,
oP 18 (.lenT (.t 17)),
oM 4 18,
oP 5 (.move (.k (.nilIface)))])
 .ret))))
def F337 : AFunc :=
 .fn 75 [.tmp 4]
 (.seq
 (.ops [
⟨some 4, none, [], .move (.k (.string ⟨⟨[]⟩⟩))⟩])
 (.seq
 (.seq
 (.ops [
oM 11 0,
oP 12 (.len (.t 11))])
 (.block 0
 (.seq
 (.ops [
oC 14 .eql 12 0,
oM 13 14])
 (.cond (.t 13)
 (.seq
 (.ops [
⟨some 4, none, [], .move (.k (.string ⟨⟨[]⟩⟩))⟩])
 .ret)
 (.seq
 (.ops [
oC 16 .eql 12 1,
oM 15 16])
 (.cond (.t 15)
 (.seq
 (.ops [
oM 17 0,
oP 18 (.idxS (.t 17) (oK 0) 1),
oL 19 18,
oM 4 19])
 .ret)
 .skip))))))
 (.seq
 (.ops [
oP 5 (.move (oK 0))])
 (.seq
 (.seq
 (.ops [
oM 20 1,
oP 21 (.lenT (.t 20)),
oC 22 .gtr 21 0])
 (.cond (.t 22)
 (.seq
 (.seq
 (.ops [
oM 23 1,
oP 24 (.lenT (.t 23)),
oM 25 0,
oP 26 (.len (.t 25)),
oC 27 .sub 26 1,
oP 28 (.bin .quo (oK 9223372036854775807) (.t 27)),
oB 29 .geq 24 28])
 (.cond (.t 29)
 (.ops [
oP 30 (.fail),
⟨none, none, [], .fail⟩])
 .skip))
 (.ops [
oM 31 5,
oM 32 1,
oP 33 (.lenT (.t 32)),
oM 34 0,
oP 35 (.len (.t 34)),
oC 36 .sub 35 1,
oB 37 .mul 33 36,
oB 38 .add 31 37,
oM 5 38]))
 .skip))
 (.seq
 (.seq
 (.ops [
oM 39 0,
oP 40 (.len (.t 39)),
oP 41 (.move (oK 0))])
 (.block 1
 (.loop
 (.seq
 (.ops [
oB 42 .lss 41 40])
 (.seq
 (.cond (.t 42)
 .skip
 (.exit 1))
 (.seq
 (.block 2
 (.seq
 (.ops [
oI 43 39 41 1,
oL 44 43,
oM 7 44])
 (.seq
 (.seq
 (.ops [
oM 45 7,
oP 46 (.lenT (.t 45)),
oM 47 5,
oP 48 (.bin .sub (oK 9223372036854775807) (.t 47)),
oB 49 .gtr 46 48])
 (.cond (.t 49)
 (.ops [
oP 50 (.fail),
⟨none, none, [], .fail⟩])
 .skip))
 (.ops [
oM 51 5,
oM 52 7,
oP 53 (.lenT (.t 52)),
oB 54 .add 51 53,
oM 5 54]))))
 (.ops [
oC 55 .add 41 1,
oM 41 55])))))))
 (.seq
 (.ops [
oP 8 (.allocB)])
 (.seq
 (.ops [
oM 56 5,
oA 57 351 [.t 8, .t 56] false])
 (.seq
 (.ops [
oM 58 0,
oP 59 (.idxS (.t 58) (oK 0) 1),
oL 60 59,
oA 61 336 [.t 8, .t 60] false])
 (.seq
 (.seq
 (.ops [
oM 62 0,
oP 63 (.reslice (.t 62) (some (oK 1)) none 1),
oP 64 (.len (.t 63)),
oP 65 (.move (oK 0))])
 (.block 3
 (.loop
 (.seq
 (.ops [
oB 66 .lss 65 64])
 (.seq
 (.cond (.t 66)
 .skip
 (.exit 3))
 (.seq
 (.block 4
 (.seq
 (.ops [
oI 67 63 65 1,
oL 68 67,
oM 10 68])
 (.seq
 (.ops [
oM 69 1,
oA 70 336 [.t 8, .t 69] false])
 (.ops [
oM 71 10,
oA 72 336 [.t 8, .t 71] false]))))
 (.ops [
oC 73 .add 65 1,
oM 65 73])))))))
 (.seq
 (.ops [
oA 74 340 [.t 8] false,
oM 4 74])
 .ret))))))))))
def F338 : AFunc :=
 .fn 5 [.tmp 2]
 (.seq
 (.ops [
⟨some 2, none, [], .move (.k (.string ⟨⟨[]⟩⟩))⟩])
 (.seq
 (.ops [
oM 3 0,
oA 4 352 [.t 3] false,
oM 2 4])
 .ret))
def F339 : AFunc :=
 .fn 19 [.tmp 2]
 (.seq
 (.ops [
oP 1 (.box (.t 0)),
⟨some 2, none, [], .move (.k (.string ⟨⟨[]⟩⟩))⟩])
 (.seq
 (.seq
 (.ops [
oF 3 1 0,
oL 4 3,
oF 5 1 1,
oL 6 5,
oB 7 .eql 4 6])
 (.cond (.t 7)
 (.seq
 (.ops [
oF 8 1 0,
oL 9 8,
oA 10 338 [.t 9] false,
oM 2 10])
 .ret)
 .skip))
 (.seq
 (.ops [
oF 11 1 0,
oL 12 11,
oA 13 338 [.t 12] true,
⟨some 14, none, [], .strOp .add (.t 13) (.k (.string ⟨⟨[46, 46]⟩⟩))⟩,
oF 15 1 1,
oL 16 15,
oA 17 338 [.t 16] false,
oP 18 (.strOp .add (.t 14) (.t 17)),
oM 2 18])
 .ret)))
def F340 : AFunc :=
 .fn 14 [.tmp 2]
 (.seq
 (.ops [
⟨some 2, none, [], .move (.k (.string ⟨⟨[]⟩⟩))⟩])
 (.seq
 (.ops [
oM 3 0,
oP 4 (.nilCheck (.t 3)),
oF 5 4 1,
oL 6 5,
oP 7 (.sliceData (.t 6)),
oM 8 0,
oP 9 (.nilCheck (.t 8)),
oF 10 9 1,
oL 11 10,
oP 12 (.len (.t 11)),
oP 13 (.mkStr (.t 7) (.t 12)),
oM 2 13])
 .ret))
def F341 : AFunc :=
 .fn 22 [.tmp 2]
 (.seq
 (.ops [
⟨some 2, none, [], .move (.k (.string ⟨⟨[]⟩⟩))⟩])
 (.seq
 (.seq
 (.ops [
oM 3 0,
oC 4 .lss 3 0])
 (.cond (.t 4)
 (.seq
 (.ops [
oM 5 0,
oP 6 (.neg (.t 5)),
oA 7 341 [.t 6] false,
⟨some 8, none, [], .strOp .add (.k (.string ⟨⟨[45]⟩⟩)) (.t 7)⟩,
oM 2 8])
 .ret)
 .skip))
 (.seq
 (.seq
 (.ops [
oM 9 0,
oC 10 .lss 9 10])
 (.cond (.t 10)
 (.seq
 (.ops [
oM 11 0,
oM 12 0,
oC 13 .add 12 1,
⟨some 14, none, [], .strSl (.k (.string ⟨⟨[48, 49, 50, 51, 52, 53, 54, 55, 56, 57]⟩⟩)) (some (.t 11)) (some (.t 13))⟩,
oM 2 14])
 .ret)
 .skip))
 (.seq
 (.ops [
oM 15 0,
oC 16 .quo 15 10,
oA 17 341 [.t 16] false,
oM 18 0,
oC 19 .rem 18 10,
oA 20 341 [.t 19] false,
oP 21 (.strOp .add (.t 17) (.t 20)),
oM 2 21])
 .ret))))
def F342 : AFunc :=
 .fn 4 [.tmp 2]
 (.seq
 (.ops [
oP 1 (.box (.t 0)),
oP 2 (.move (.k (.nilFunc)))])
 (.seq
 (.ops [
oP 3 (.makeFunc 353 [] [.t 1]),
oM 2 3])
 .ret))
def F343 : AFunc :=
 .lib
def F344 : AFunc :=
 .fn 13 [.tmp 4, .tmp 5, .tmp 6]
 (.seq
 (.ops [
⟨some 4, none, [], .move (.k (.string ⟨⟨[]⟩⟩))⟩,
⟨some 5, none, [], .move (.k (.string ⟨⟨[]⟩⟩))⟩,
oP 6 (.move (.k (.bool false)))])
 (.seq
 (.ops [
oM 7 0,
oM 8 1,
oA 9 357 [.t 7, .t 8] false,
oX 10 9 0,
oX 11 9 1,
oX 12 9 2,
oM 4 10,
oM 5 11,
oM 6 12])
 .ret))
def F345 : AFunc :=
 .fn 18 [.tmp 2, .tmp 3]
 (.seq
 (.ops [
oP 2 (.move (oK 0)),
oP 3 (.move (.k (.nilIface)))])
 (.seq
 (.ops [
oM 7 0,
oA 8 358 [.t 7] false,
oM 6 8,
oX 9 6 0,
oX 10 6 1,
oM 4 9,
oM 5 10])
 (.seq
 (.seq
 (.ops [
oM 11 5,
oP 12 (.eqNil 4 true (.t 11))])
 (.cond (.t 12)
 (.seq
 (.ops [
oM 13 4,
oM 14 0,
oM 15 5,
⟨some 16, none, [], .call (.k (.func (.func 359) ⟨[]⟩ ⟨[]⟩)) [.k (.string ⟨⟨[65, 116, 111, 105]⟩⟩), .t 14, .k (.int .i64 0), .k (.int .i64 0), .t 15] false⟩,
oM 2 13,
oM 3 16])
 .ret)
 .skip))
 (.seq
 (.ops [
oM 17 4,
oM 2 17,
oP 3 (.move (.k (.nilIface)))])
 .ret))))
def body346 : ACode := (.seq
 (.seq
 (.ops [
oM 8 7,
oM 9 0,
oP 10 (.lenT (.t 9)),
oB 11 .leq 8 10])
 (.cond (.t 11)
 .skip
 (.exit 0)))
 (.seq
 (.block 1
 (.seq
 (.ops [
oM 14 7,
oM 15 0,
oP 16 (.lenT (.t 15)),
oB 17 .eql 14 16,
oM 18 17,
oN 19 18 false 0,
oN 20 18 false 7,
oQ 21 18 false (.strIdx (.t 19) (.t 20)),
oN 22 18 false 1,
oQ 23 18 false (.bin .eql (.t 21) (.t 22)),
oP 24 (.pick (.t 18) (.k (.bool true)) (.t 23))])
 (.cond (.t 24)
 (.seq
 (.ops [
oM 25 5,
oM 26 0,
oM 27 6,
oM 28 7,
oP 29 (.strSl (.t 26) (some (.t 27)) (some (.t 28))),
⟨some 30, none, [], .slit 1 1 [.string ⟨⟨[]⟩⟩] [(0, .t 29)]⟩,
oP 31 (.append (.t 25) (.t 30) 1 16),
oM 5 31])
 (.ops [
oM 32 7,
oC 33 .add 32 1,
oM 6 33]))
 .skip)))
 (.ops [
oM 12 7,
oC 13 .add 12 1,
oM 7 13])))
def F346 : AFunc :=
 .fn 35 [.tmp 4]
 (.seq
 (.ops [
oP 4 (.move (.k (.slice none 0 0)))])
 (.seq
 (.ops [
oP 5 (.move (.k (.slice none 0 0)))])
 (.seq
 (.ops [
oP 6 (.move (oK 0))])
 (.seq
 (.seq
 (.ops [
oP 7 (.move (oK 0))])
 (.block 0
 (.loop body346)))
 (.seq
 (.ops [
oM 34 5,
oM 4 34])
 .ret)))))
def body347 : ACode := (.seq
 (.seq
 (.ops [
oM 25 9,
oM 26 8,
oP 27 (.lenT (.t 26)),
oB 28 .lss 25 27])
 (.cond (.t 28)
 .skip
 (.exit 0)))
 (.seq
 (.block 1
 (.seq
 (.seq
 (.ops [
oM 31 8,
oM 32 9,
oP 33 (.strIdx (.t 31) (.t 32)),
oP 34 (.bin .lss (.t 33) (.k (.int .u8 48))),
oM 35 34,
oN 36 35 false 8,
oN 37 35 false 9,
oQ 38 35 false (.strIdx (.t 36) (.t 37)),
oQ 39 35 false (.bin .gtr (.t 38) (.k (.int .u8 57))),
oP 40 (.pick (.t 35) (.k (.bool true)) (.t 39))])
 (.cond (.t 40)
 (.seq
 (.ops [
oP 4 (.move (oK 0)),
oP 5 (.move (.k (.bool false)))])
 .ret)
 .skip))
 (.ops [
oM 41 6,
oP 42 (.bin .mul (oK 10) (.t 41)),
oM 43 8,
oM 44 9,
oP 45 (.strIdx (.t 43) (.t 44)),
oP 46 (.bin .sub (.t 45) (.k (.int .u8 48))),
oP 47 (.toInt .i64 (.t 46)),
oB 48 .add 42 47,
oM 6 48])))
 (.ops [
oM 29 9,
oC 30 .add 29 1,
oM 9 30])))
def F347 : AFunc :=
 .fn 64 [.tmp 4, .tmp 5]
 (.seq
 (.ops [
oP 4 (.move (oK 0)),
oP 5 (.move (.k (.bool false)))])
 (.seq
 (.seq
 (.ops [
oM 10 0,
oP 11 (.lenT (.t 10)),
oC 12 .gtr 11 12])
 (.cond (.t 12)
 (.seq
 (.ops [
oP 4 (.move (oK 0)),
oP 5 (.move (.k (.bool false)))])
 .ret)
 .skip))
 (.seq
 (.ops [
oM 13 0,
oP 14 (.lenT (.t 13)),
oC 15 .gtr 14 1,
oM 16 15,
oN 17 16 true 0,
oQ 18 16 true (.strIdx (.t 17) (oK 0)),
oQ 19 16 true (.bin .eql (.t 18) (.k (.int .u8 45))),
oP 20 (.pick (.t 16) (.t 19) (.k (.bool false))),
oP 6 (.move (oK 0)),
oM 7 20])
 (.seq
 (.ops [
oM 21 0,
oM 8 21])
 (.seq
 (.seq
 (.ops [
oM 22 7])
 (.cond (.t 22)
 (.ops [
oM 23 0,
oP 24 (.strSl (.t 23) (some (oK 1)) none),
oM 8 24])
 .skip))
 (.seq
 (.seq
 (.ops [
oP 9 (.move (oK 0))])
 (.block 0
 (.loop body347)))
 (.seq
 (.seq
 (.ops [
oM 49 7])
 (.cond (.t 49)
 (.ops [
oM 50 6,
oP 51 (.neg (.t 50)),
oM 6 51])
 .skip))
 (.seq
 (.ops [
oM 52 6,
oM 53 6,
oM 54 1,
oP 55 (.neg (.t 54)),
oM 56 1,
oA 57 59 [.t 53, .t 55, .t 56] false,
oM 58 57,
oN 59 58 true 6,
oQ 60 58 true (.call (.k (.func (.func 341) ⟨[]⟩ ⟨[]⟩)) [.t 59] false),
oN 61 58 true 0,
oQ 62 58 true (.strOp .eql (.t 60) (.t 61)),
oP 63 (.pick (.t 58) (.t 62) (.k (.bool false))),
oM 4 52,
oM 5 63])
 .ret))))))))
def body348 : ACode := (.seq
 (.seq
 (.ops [
oM 11 4,
oC 12 .add 11 1,
oM 13 0,
oP 14 (.lenT (.t 13)),
oB 15 .lss 12 14])
 (.cond (.t 15)
 .skip
 (.exit 0)))
 (.seq
 (.block 1
 (.seq
 (.ops [
oM 18 0,
oM 19 4,
oM 20 4,
oC 21 .add 20 2,
oP 22 (.strSl (.t 18) (some (.t 19)) (some (.t 21))),
⟨some 23, none, [], .strOp .eql (.t 22) (.k (.string ⟨⟨[46, 46]⟩⟩))⟩])
 (.cond (.t 23)
 (.seq
 (.ops [
oM 25 0,
oM 26 4,
oP 27 (.strSl (.t 25) none (some (.t 26))),
oA 28 347 [.t 27, .k (.int .i64 1200000)] false,
oM 24 28,
oX 29 24 0,
oX 30 24 1,
oM 5 29,
oM 6 30])
 (.seq
 (.ops [
oM 32 0,
oM 33 4,
oC 34 .add 33 2,
oP 35 (.strSl (.t 32) (some (.t 34)) none),
oA 36 347 [.t 35, .k (.int .i64 1200000)] false,
oM 31 36,
oX 37 31 0,
oX 38 31 1,
oM 7 37,
oM 8 38])
 (.seq
 (.ops [
oM 39 5,
oM 40 7,
oP 41 (.build [.int .i64 0, .int .i64 0] [(0, 1, .t 39), (1, 1, .t 40)]),
oM 42 6,
oM 43 42,
oN 44 43 true 8,
oP 45 (.pick (.t 43) (.t 44) (.k (.bool false))),
oT 2 41 2,
oM 3 45])
 .ret)))
 .skip)))
 (.ops [
oM 16 4,
oC 17 .add 16 1,
oM 4 17])))
def F348 : AFunc :=
 .fn 55 [.cell 2 (some 2), .tmp 3]
 (.seq
 (.ops [
oP 2 (.alloc [.int .i64 0, .int .i64 0]),
oP 3 (.move (.k (.bool false)))])
 (.seq
 (.seq
 (.ops [
oP 4 (.move (oK 0))])
 (.block 0
 (.loop body348)))
 (.seq
 (.ops [
oM 47 0,
oA 48 347 [.t 47, .k (.int .i64 1200000)] false,
oM 46 48,
oX 49 46 0,
oX 50 46 1,
oM 9 49,
oM 10 50])
 (.seq
 (.ops [
oM 51 9,
oM 52 9,
oP 53 (.build [.int .i64 0, .int .i64 0] [(0, 1, .t 51), (1, 1, .t 52)]),
oM 54 10,
oT 2 53 2,
oM 3 54])
 .ret))))
def F113 : AFunc :=
 .fn 13 [.tmp 4]
 (.seq
 (.ops [
oP 2 (.box (.t 0)),
oP 4 (.move (.k (.slice none 0 0)))])
 (.seq
 (.seq
 (.ops [
oM 6 1])
 (.block 0
 (.rangeF (.t 6) [7]
 (.ops [
oM 5 7])
 (.block 1
 (.ops [
oL 8 2,
oM 9 5,
oP 10 (.slit 1 1 [.int .i64 0] [(0, .t 9)]),
oP 11 (.append (.t 8) (.t 10) 1 8),
oT 2 11 1])))))
 (.seq
 (.ops [
oL 12 2,
oM 4 12])
 .ret)))
def body114 : ACode := (.seq
 (.ops [
oB 25 .lss 24 23])
 (.seq
 (.cond (.t 25)
 .skip
 (.exit 0))
 (.seq
 (.block 1
 (.seq
 (.ops [
oI 26 22 24 2,
oD 27 26 2,
oP 7 (.alloc [.int .i64 0, .int .i64 0]),
oT 7 27 2])
 (.seq
 (.ops [
oM 28 4,
oP 29 (.idxA (.t 7) (oK 0) 2 1),
oL 30 29,
oB 31 .add 28 30,
oM 32 5,
oP 33 (.idxA (.t 7) (oK 1) 2 1),
oL 34 33,
oB 35 .add 32 34,
oM 8 31,
oM 9 35])
 (.seq
 (.ops [
oM 36 8,
oF 37 2 0,
oL 38 37,
oC 39 .sub 38 1,
oA 40 55 [.t 36, .k (.int .i64 0), .t 39] false,
oM 41 40,
oN 42 41 true 9,
oQ 43 41 true (.fieldAddr (.t 2) 1),
oQ 44 41 true (.load (.t 43) none),
oQ 45 41 true (.bin .sub (.t 44) (oK 1)),
oQ 46 41 true (.call (.k (.func (.func 55) ⟨[]⟩ ⟨[]⟩)) [.t 42, .k (.int .i64 0), .t 45] false),
oP 47 (.pick (.t 41) (.t 46) (.k (.bool false))),
oM 48 47,
oN 49 48 true 0,
oN 50 48 true 9,
oQ 51 48 true (.fieldAddr (.t 2) 0),
oQ 52 48 true (.load (.t 51) none),
oQ 53 48 true (.bin .mul (.t 50) (.t 52)),
oN 54 48 true 8,
oQ 55 48 true (.bin .add (.t 53) (.t 54)),
oQ 56 48 true (.call (.t 49) [.t 55] false),
oQ 57 48 true (.not (.t 56)),
oP 58 (.pick (.t 48) (.t 57) (.k (.bool false)))])
 (.cond (.t 58)
 .ret
 .skip)))))
 (.ops [
oC 59 .add 24 1,
oM 24 59]))))
def F114 : AFunc :=
 .fn 60 []
 (.seq
 (.ops [
oL 10 1,
oF 11 2 0,
oL 12 11,
oB 13 .rem 10 12,
oL 14 1,
oF 15 2 0,
oL 16 15,
oB 17 .quo 14 16,
oM 4 13,
oM 5 17])
 (.seq
 (.ops [
oP 18 (.build [.int .i64 0, .int .i64 0] [(0, 1, .k (.int .i64 1)), (1, 1, .k (.int .i64 0))]),
oP 19 (.build [.int .i64 0, .int .i64 0] [(0, 1, .k (.int .i64 0)), (1, 1, .k (.int .i64 1))]),
oP 20 (.build [.int .i64 0, .int .i64 0] [(0, 1, .k (.int .i64 (-1))), (1, 1, .k (.int .i64 0))]),
oP 21 (.build [.int .i64 0, .int .i64 0] [(0, 1, .k (.int .i64 0)), (1, 1, .k (.int .i64 (-1)))]),
oP 22 (.slit 4 2 [.int .i64 0, .int .i64 0] [(0, .t 18), (1, .t 19), (2, .t 20), (3, .t 21)]),
oP 23 (.len (.t 22)),
oP 24 (.move (oK 0))])
 (.block 0
 (.loop body114))))
def body82 : ACode := (.seq
 (.ops [
oB 9 .lss 8 7])
 (.seq
 (.cond (.t 9)
 .skip
 (.exit 0))
 (.seq
 (.block 1
 (.seq
 (.ops [
oM 10 8,
oM 5 10])
 (.seq
 (.ops [
oM 11 1,
oM 12 0,
oM 13 5,
oI 14 12 13 2,
oD 15 14 2,
oP 16 (.call (.t 11) [.t 15] false)])
 (.cond (.t 16)
 (.seq
 (.ops [
oM 17 5,
oM 4 17])
 .ret)
 .skip))))
 (.ops [
oC 18 .add 8 1,
oM 8 18]))))
def F82 : AFunc :=
 .fn 19 [.tmp 4]
 (.seq
 (.ops [
oP 4 (.move (oK 0))])
 (.seq
 (.seq
 (.ops [
oM 6 0,
oP 7 (.len (.t 6)),
oP 8 (.move (oK 0))])
 (.block 0
 (.loop body82)))
 (.seq
 (.ops [
oP 4 (.move (oK (-1)))])
 .ret)))
def F180 : AFunc :=
 .fn 9 [.tmp 4]
 (.seq
 (.ops [
oP 4 (.move (.k (.bool false)))])
 (.seq
 (.ops [
oM 5 0,
oM 6 1,
oA 7 202 [.t 5, .t 6] false,
oC 8 .geq 7 0,
oM 4 8])
 .ret))
def F272 : AFunc :=
 .fn 11 [.tmp 3]
 (.seq
 (.ops [
oP 3 (.move (.k (.bool false)))])
 (.seq
 (.ops [
oM 4 0,
oF 5 1 3,
oL 6 5,
oP 7 (.len (.t 6)),
oC 8 .sub 7 1,
oA 9 55 [.t 4, .k (.int .i64 0), .t 8] false,
oP 10 (.not (.t 9)),
oM 3 10])
 .ret))
def body83 : ACode := (.seq
 (.seq
 (.ops [
oM 34 8,
oM 35 7,
oP 36 (.len (.t 35)),
oB 37 .lss 34 36])
 (.cond (.t 37)
 .skip
 (.exit 0)))
 (.block 1
 (.ops [
oM 38 8,
oM 39 7,
oM 40 8,
oP 41 (.reslice (.t 39) (some (.t 40)) none 1),
oM 42 7,
oM 43 8,
oP 44 (.reslice (.t 42) none (some (.t 43)) 1),
oP 45 (.copy (.t 41) (.t 44) 1),
oB 46 .add 38 45,
oM 8 46])))
def F83 : AFunc :=
 .fn 48 [.tmp 4]
 (.seq
 (.ops [
oP 4 (.move (.k (.slice none 0 0)))])
 (.seq
 (.seq
 (.ops [
oM 9 1,
oC 10 .lss 9 0])
 (.cond (.t 10)
 (.ops [
oP 11 (.fail),
⟨none, none, [], .fail⟩])
 .skip))
 (.seq
 (.ops [
oM 13 0,
oP 14 (.len (.t 13)),
oP 15 (.toInt .u64 (.t 14)),
oM 16 1,
oP 17 (.toInt .u64 (.t 16)),
oA 18 93 [.t 15, .t 17] false,
oM 12 18,
oX 19 12 0,
oX 20 12 1,
oM 5 19,
oM 6 20])
 (.seq
 (.seq
 (.ops [
oM 21 5,
oP 22 (.bin .gtr (.t 21) (.k (.int .u64 0))),
oM 23 22,
oN 24 23 false 6,
oQ 25 23 false (.bin .gtr (.t 24) (.k (.int .u64 9223372036854775807))),
oP 26 (.pick (.t 23) (.k (.bool true)) (.t 25))])
 (.cond (.t 26)
 (.ops [
oP 27 (.fail),
⟨none, none, [], .fail⟩])
 .skip))
 (.seq
 (.ops [
oM 28 6,
oP 29 (.toInt .i64 (.t 28)),
oP 30 (.makeS (.t 29) (.t 29) 1 8 [.int .i64 0]),
oM 7 30])
 (.seq
 (.ops [
oM 31 7,
oM 32 0,
oP 33 (.copy (.t 31) (.t 32) 1),
oM 8 33])
 (.seq
 (.block 0
 (.loop body83))
 (.seq
 (.ops [
oM 47 7,
oM 4 47])
 .ret))))))))
def F275 : AFunc :=
 .fn 10 [.tmp 4]
 (.seq
 (.ops [
oP 2 (.box (.t 0)),
oP 3 (.box (.t 1)),
oP 4 (.move (.k (.bool false)))])
 (.seq
 (.ops [
oF 5 2 1,
oL 6 5,
oF 7 3 1,
oL 8 7,
oB 9 .lss 6 8,
oM 4 9])
 .ret))
def F276 : AFunc :=
 .fn 39 []
 (.seq
 (.ops [
oL 10 2,
oM 11 0,
oP 12 (.call (.t 10) [.t 11] false),
oM 9 12,
oX 13 9 0,
oX 14 9 1,
oM 7 13,
oM 8 14])
 (.seq
 (.ops [
oM 15 8,
oM 16 15,
oN 17 16 true 7,
oN 18 16 true 1,
oQ 19 16 true (.max [.t 17, .t 18]),
oQ 20 16 true (.load (.t 3) none),
oN 21 16 true 0,
oQ 22 16 true (.idxS (.t 20) (.t 21) 1),
oQ 23 16 true (.load (.t 22) none),
oQ 24 16 true (.bin .lss (.t 19) (.t 23)),
oP 25 (.pick (.t 16) (.t 24) (.k (.bool false)))])
 (.cond (.t 25)
 (.seq
 (.ops [
oL 26 3,
oM 27 0,
oM 28 7,
oM 29 1,
oP 30 (.max [.t 28, .t 29]),
oI 31 26 27 1,
oT 31 30 1])
 (.ops [
oM 32 0,
oL 33 3,
oM 34 0,
oI 35 33 34 1,
oL 36 35,
oP 37 (.build [.int .i64 0, .int .i64 0] [(0, 1, .t 32), (1, 1, .t 36)]),
oA 38 277 [.t 4, .t 37] false]))
 .skip)))
def F169 : AFunc :=
 .fn 9 [.tmp 4]
 (.seq
 (.ops [
oP 4 (.move (.k (.bool false)))])
 (.seq
 (.ops [
oM 5 0,
oM 6 1,
oA 7 199 [.t 5, .t 6] false,
oC 8 .geq 7 0,
oM 4 8])
 .ret))
def F349 : AFunc :=
 .fn 17 [.tmp 5, .tmp 6]
 (.seq
 (.ops [
oP 5 (.move (oK 0)),
oP 6 (.move (.k (.bool false)))])
 (.seq
 (.ops [
oL 7 1,
oF 8 2 3,
oL 9 8,
oM 10 0,
oI 11 9 10 2,
oD 12 11 2,
oP 13 (.call (.t 7) [.t 12] true),
oM 14 0,
oL 15 3,
oB 16 .neq 14 15,
oM 5 13,
oM 6 16])
 .ret))
def F161 : AFunc :=
 .fn 8 [.tmp 2]
 (.seq
 (.ops [
oP 2 (.move (.k (.slice none 0 0)))])
 (.seq
 (.seq
 (.ops [
oM 3 0,
oP 4 (.eqNil 1 false (.t 3))])
 (.cond (.t 4)
 (.seq
 (.ops [
oP 2 (.move (.k (.slice none 0 0)))])
 .ret)
 .skip))
 (.seq
 (.ops [
oP 5 (.slit 0 2 [.int .i64 0, .int .i64 0] []),
oM 6 0,
oP 7 (.append (.t 5) (.t 6) 2 16),
oM 2 7])
 .ret)))
def F350 : AFunc :=
 .lib
def F351 : AFunc :=
 .lib
def F352 : AFunc :=
 .fn 5 [.tmp 2]
 (.seq
 (.ops [
⟨some 2, none, [], .move (.k (.string ⟨⟨[]⟩⟩))⟩])
 (.seq
 (.ops [
oM 3 0,
oA 4 361 [.t 3, .k (.int .i64 10)] false,
oM 2 4])
 .ret))
def body353 : ACode := (.seq
 (.seq
 (.ops [
oL 5 1,
oP 6 (.lenT (.t 5)),
oC 7 .gtr 6 0])
 (.cond (.t 7)
 .skip
 (.exit 0)))
 (.block 1
 (.seq
 (.ops [
⟨some 3, none, [], .move (.k (.string ⟨⟨[]⟩⟩))⟩])
 (.seq
 (.seq
 (.ops [
oL 8 1,
oA 9 354 [.t 8, .k (.int .u8 10)] false,
oM 4 9])
 (.seq
 (.ops [
oM 10 4,
oC 11 .geq 10 0])
 (.cond (.t 11)
 (.ops [
oL 12 1,
oM 13 4,
oC 14 .add 13 1,
oP 15 (.strSl (.t 12) none (some (.t 14))),
oL 16 1,
oM 17 4,
oC 18 .add 17 1,
oP 19 (.strSl (.t 16) (some (.t 18)) none),
oM 3 15,
oT 1 19 1])
 (.ops [
oL 20 1,
oM 3 20,
⟨none, none, [], .store (.t 1) (.k (.string ⟨⟨[]⟩⟩)) 1⟩]))))
 (.seq
 (.ops [
oM 21 0,
oM 22 3,
oP 23 (.call (.t 21) [.t 22] false),
oP 24 (.not (.t 23))])
 (.cond (.t 24)
 .ret
 .skip))))))
def F353 : AFunc :=
 .fn 25 []
 (.block 0
 (.loop body353))
def F354 : AFunc :=
 .fn 8 [.tmp 4]
 (.seq
 (.ops [
oP 4 (.move (oK 0))])
 (.seq
 (.ops [
oM 5 0,
oM 6 1,
oA 7 362 [.t 5, .t 6] false,
oM 4 7])
 .ret))
def F357 : AFunc :=
 .fn 23 [.tmp 4, .tmp 5, .tmp 6]
 (.seq
 (.ops [
⟨some 4, none, [], .move (.k (.string ⟨⟨[]⟩⟩))⟩,
⟨some 5, none, [], .move (.k (.string ⟨⟨[]⟩⟩))⟩,
oP 6 (.move (.k (.bool false)))])
 (.seq
 (.seq
 (.ops [
oM 8 0,
oM 9 1,
oA 10 364 [.t 8, .t 9] false,
oM 7 10])
 (.seq
 (.ops [
oM 11 7,
oC 12 .geq 11 0])
 (.cond (.t 12)
 (.seq
 (.ops [
oM 13 0,
oM 14 7,
oP 15 (.strSl (.t 13) none (some (.t 14))),
oM 16 0,
oM 17 7,
oM 18 1,
oP 19 (.lenT (.t 18)),
oB 20 .add 17 19,
oP 21 (.strSl (.t 16) (some (.t 20)) none),
oM 4 15,
oM 5 21,
oP 6 (.move (.k (.bool true)))])
 .ret)
 .skip)))
 (.seq
 (.ops [
oM 22 0,
oM 4 22,
⟨some 5, none, [], .move (.k (.string ⟨⟨[]⟩⟩))⟩,
oP 6 (.move (.k (.bool false)))])
 .ret)))
def F358 : AFunc :=
 .fn 77 [.tmp 2, .tmp 3]
 (.seq
 (.ops [
oP 2 (.move (oK 0)),
oP 3 (.move (.k (.nilIface)))])
 (.seq
 (.ops [
oM 11 0,
oP 12 (.lenT (.t 11)),
oM 4 12])
 (.seq
 (.seq
 (.ops [
oP 13 (.move (.k (.bool false))),
oN 14 13 true 4,
oQ 15 13 true (.bin .lss (oK 0) (.t 14)),
oN 16 13 true 15,
oN 17 16 true 4,
oQ 18 16 true (.bin .lss (.t 17) (oK 10)),
oQ 19 13 true (.pick (.t 16) (.t 18) (.k (.bool false))),
oP 20 (.pick (.t 13) (.t 19) (.k (.bool false))),
oM 21 20,
oQ 22 21 false (.move (.k (.bool true))),
oN 23 22 true 4,
oQ 24 22 true (.bin .lss (oK 0) (.t 23)),
oN 25 22 true 24,
oN 26 25 true 4,
oQ 27 25 true (.bin .lss (.t 26) (oK 19)),
oQ 28 22 true (.pick (.t 25) (.t 27) (.k (.bool false))),
oQ 29 21 false (.pick (.t 22) (.t 28) (.k (.bool false))),
oP 30 (.pick (.t 21) (.k (.bool true)) (.t 29))])
 (.cond (.t 30)
 (.seq
 (.ops [
oM 31 0,
oM 5 31])
 (.seq
 (.seq
 (.ops [
oM 32 0,
oP 33 (.strIdx (.t 32) (oK 0)),
oP 34 (.bin .eql (.t 33) (.k (.int .u8 45))),
oM 35 34,
oN 36 35 false 0,
oQ 37 35 false (.strIdx (.t 36) (oK 0)),
oQ 38 35 false (.bin .eql (.t 37) (.k (.int .u8 43))),
oP 39 (.pick (.t 35) (.k (.bool true)) (.t 38))])
 (.cond (.t 39)
 (.seq
 (.ops [
oM 40 0,
oP 41 (.strSl (.t 40) (some (oK 1)) none),
oM 0 41])
 (.seq
 (.ops [
oM 42 0,
oP 43 (.lenT (.t 42)),
oC 44 .lss 43 1])
 (.cond (.t 44)
 (.seq
 (.ops [
oP 45 (.fail),
oP 2 (.move (oK 0)),
oM 3 45])
 .ret)
 .skip)))
 .skip))
 (.seq
 (.ops [
oP 6 (.move (oK 0))])
 (.seq
 (.seq
 (.ops [
oM 46 0,
oP 47 (.toBytes (.t 46)),
oP 48 (.len (.t 47)),
oP 49 (.move (oK 0))])
 (.block 0
 (.loop
 (.seq
 (.ops [
oB 50 .lss 49 48])
 (.seq
 (.cond (.t 50)
 .skip
 (.exit 0))
 (.seq
 (.block 1
 (.seq
 (.ops [
oI 51 47 49 1,
oL 52 51,
oM 8 52])
 (.seq
 (.ops [
oM 53 8,
oP 54 (.bin .sub (.t 53) (.k (.int .u8 48))),
oM 8 54])
 (.seq
 (.seq
 (.ops [
oM 55 8,
oP 56 (.bin .gtr (.t 55) (.k (.int .u8 9)))])
 (.cond (.t 56)
 (.seq
 (.ops [
oP 57 (.fail),
oP 2 (.move (oK 0)),
oM 3 57])
 .ret)
 .skip))
 (.ops [
oM 58 6,
oC 59 .mul 58 10,
oM 60 8,
oP 61 (.toInt .i64 (.t 60)),
oB 62 .add 59 61,
oM 6 62])))))
 (.ops [
oC 63 .add 49 1,
oM 49 63])))))))
 (.seq
 (.seq
 (.ops [
oM 64 5,
oP 65 (.strIdx (.t 64) (oK 0)),
oP 66 (.bin .eql (.t 65) (.k (.int .u8 45)))])
 (.cond (.t 66)
 (.ops [
oM 67 6,
oP 68 (.neg (.t 67)),
oM 6 68])
 .skip))
 (.seq
 (.ops [
oM 69 6,
oM 2 69,
oP 3 (.move (.k (.nilIface)))])
 .ret))))))
 .skip))
 (.seq
 (.ops [
oM 71 0,
oA 72 365 [.t 71, .k (.int .i64 10), .k (.int .i64 0)] false,
oM 70 72,
oX 73 70 0,
oX 74 70 1,
oM 9 73,
oM 10 74])
 (.seq
 (.ops [
oM 75 9,
oM 76 10,
oM 2 75,
oM 3 76])
 .ret)))))
def F359 : AFunc :=
 .lib
def body202 : ACode := (.seq
 (.ops [
oB 9 .lss 8 7])
 (.seq
 (.cond (.t 9)
 .skip
 (.exit 0))
 (.seq
 (.block 1
 (.seq
 (.ops [
oM 10 8,
oM 5 10])
 (.seq
 (.ops [
oM 11 1,
oM 12 0,
oM 13 5,
oI 14 12 13 1,
oL 15 14,
oP 16 (.call (.t 11) [.t 15] false)])
 (.cond (.t 16)
 (.seq
 (.ops [
oM 17 5,
oM 4 17])
 .ret)
 .skip))))
 (.ops [
oC 18 .add 8 1,
oM 8 18]))))
def F202 : AFunc :=
 .fn 19 [.tmp 4]
 (.seq
 (.ops [
oP 4 (.move (oK 0))])
 (.seq
 (.seq
 (.ops [
oM 6 0,
oP 7 (.len (.t 6)),
oP 8 (.move (oK 0))])
 (.block 0
 (.loop body202)))
 (.seq
 (.ops [
oP 4 (.move (oK (-1)))])
 .ret)))
def F93 : AFunc :=
 .fn 30 [.tmp 4, .tmp 5]
 (.seq
 (.ops [
oP 4 (.move (.k (.int .u64 0))),
oP 5 (.move (.k (.int .u64 0)))])
 (.seq
 (.cond (.k (.bool false))
 (.seq
 (.ops [
oM 11 0,
oP 12 (.toInt .u32 (.t 11)),
oM 13 1,
oP 14 (.toInt .u32 (.t 13)),
oA 15 107 [.t 12, .t 14] false,
oM 10 15,
oX 16 10 0,
oX 17 10 1,
oM 6 16,
oM 7 17])
 (.seq
 (.ops [
oM 18 6,
oP 19 (.toInt .u64 (.t 18)),
oM 20 7,
oP 21 (.toInt .u64 (.t 20)),
oM 4 19,
oM 5 21])
 .ret))
 .skip)
 (.seq
 (.ops [
oM 23 0,
oM 24 1,
oA 25 108 [.t 23, .t 24] false,
oM 22 25,
oX 26 22 0,
oX 27 22 1,
oM 8 26,
oM 9 27])
 (.seq
 (.ops [
oM 28 8,
oM 29 9,
oM 4 28,
oM 5 29])
 .ret))))
def F199 : AFunc :=
 .fn 19 [.tmp 4]
 (.seq
 (.ops [
oP 4 (.move (oK 0))])
 (.seq
 (.seq
 (.ops [
oM 6 0,
oP 7 (.len (.t 6)),
oP 8 (.move (oK 0))])
 (.block 0
 (.loop
 (.seq
 (.ops [
oB 9 .lss 8 7])
 (.seq
 (.cond (.t 9)
 .skip
 (.exit 0))
 (.seq
 (.block 1
 (.seq
 (.ops [
oM 10 8,
oM 5 10])
 (.seq
 (.ops [
oM 11 1,
oM 12 0,
oM 13 5,
oI 14 12 13 1,
oL 15 14,
oB 16 .eql 11 15])
 (.cond (.t 16)
 (.seq
 (.ops [
oM 17 5,
oM 4 17])
 .ret)
 .skip))))
 (.ops [
oC 18 .add 8 1,
oM 8 18])))))))
 (.seq
 (.ops [
oP 4 (.move (oK (-1)))])
 .ret)))
def F361 : AFunc :=
 .lib
def F362 : AFunc :=
 .fn 8 [.tmp 4]
 (.seq
 (.ops [
oP 4 (.move (oK 0))])
 (.seq
 (.ops [
oM 5 0,
oM 6 1,
oA 7 0 [.t 5, .t 6] false,
oM 4 7])
 .ret))
def F364 : AFunc :=
 .lib
def F365 : AFunc :=
 .lib
def F107 : AFunc :=
 .fn 17 [.tmp 4, .tmp 5]
 (.seq
 (.ops [
oP 4 (.move (.k (.int .u32 0))),
oP 5 (.move (.k (.int .u32 0)))])
 (.seq
 (.ops [
oM 7 0,
oP 8 (.toInt .u64 (.t 7)),
oM 9 1,
oP 10 (.toInt .u64 (.t 9)),
oB 11 .mul 8 10,
oM 6 11])
 (.seq
 (.ops [
oM 12 6,
oP 13 (.bin .shr (.t 12) (.k (.int .u64 32))),
oP 14 (.toInt .u32 (.t 13)),
oM 15 6,
oP 16 (.toInt .u32 (.t 15)),
oM 4 14,
oM 5 16])
 .ret)))
def F108 : AFunc :=
 .fn 51 [.tmp 4, .tmp 5]
 (.seq
 (.ops [
oP 4 (.move (.k (.int .u64 0))),
oP 5 (.move (.k (.int .u64 0)))])
 (.seq
 (.ops [
oM 14 0,
oP 15 (.bin .and (.t 14) (.k (.int .u64 4294967295))),
oM 6 15])
 (.seq
 (.ops [
oM 16 0,
oP 17 (.bin .shr (.t 16) (.k (.int .u64 32))),
oM 7 17])
 (.seq
 (.ops [
oM 18 1,
oP 19 (.bin .and (.t 18) (.k (.int .u64 4294967295))),
oM 8 19])
 (.seq
 (.ops [
oM 20 1,
oP 21 (.bin .shr (.t 20) (.k (.int .u64 32))),
oM 9 21])
 (.seq
 (.ops [
oM 22 6,
oM 23 8,
oB 24 .mul 22 23,
oM 10 24])
 (.seq
 (.ops [
oM 25 7,
oM 26 8,
oB 27 .mul 25 26,
oM 28 10,
oP 29 (.bin .shr (.t 28) (.k (.int .u64 32))),
oB 30 .add 27 29,
oM 11 30])
 (.seq
 (.ops [
oM 31 11,
oP 32 (.bin .and (.t 31) (.k (.int .u64 4294967295))),
oM 12 32])
 (.seq
 (.ops [
oM 33 11,
oP 34 (.bin .shr (.t 33) (.k (.int .u64 32))),
oM 13 34])
 (.seq
 (.ops [
oM 35 12,
oM 36 6,
oM 37 9,
oB 38 .mul 36 37,
oB 39 .add 35 38,
oM 12 39])
 (.seq
 (.ops [
oM 40 7,
oM 41 9,
oB 42 .mul 40 41,
oM 43 13,
oB 44 .add 42 43,
oM 45 12,
oP 46 (.bin .shr (.t 45) (.k (.int .u64 32))),
oB 47 .add 44 46,
oM 4 47])
 (.seq
 (.ops [
oM 48 0,
oM 49 1,
oB 50 .mul 48 49,
oM 5 50])
 .ret))))))))))))
def labs : List Nat := [0, 0, 1, 279, 280, 281, 282, 283, 284, 285, 286, 287, 288, 289, 110, 290, 37, 40, 291, 292, 265, 293, 294, 253, 295, 296, 297, 298, 299, 300, 301, 302, 303, 304, 305, 306, 307, 308, 309, 310, 311, 312, 313, 314, 315, 316, 317, 318, 319, 320, 55, 111, 112, 59, 73, 56, 57, 58, 266, 267, 268, 269, 270, 271, 321, 322, 323, 324, 273, 274, 325, 326, 327, 328, 329, 330, 277, 278, 331, 332, 333, 334, 335, 336, 337, 338, 339, 340, 341, 342, 343, 344, 345, 346, 347, 348, 113, 114, 82, 180, 272, 83, 275, 276, 169, 349, 161, 350, 351, 352, 353, 354, 355, 356, 357, 358, 359, 202, 93, 199, 0, 360, 361, 362, 363, 364, 365, 366, 367, 368, 369, 107, 108, 0, 370, 371, 372, 373, 0, 374, 375, 0, 376, 377, 378, 379, 380, 381, 220, 382, 383, 384, 385, 386, 387, 388, 389, 0, 0, 0, 0, 0, 0, 0, 0, 0, 0, 0, 0, 0, 0, 0, 0, 0, 0, 0, 0, 0, 0, 0, 0, 0, 0, 0, 0, 0, 0, 0, 0, 390]
def lab (f : Nat) : Nat := cond (Nat.beq f 3000000) 119 (labs.getD f 0)
def AP (n : Nat) : Option AFunc :=
 (cond (Nat.blt n 196) (cond (Nat.blt n 98) (cond (Nat.blt n 49) (cond (Nat.blt n 24) (cond (Nat.blt n 12) (cond (Nat.blt n 6) (cond (Nat.blt n 3) (cond (Nat.blt n 1) none (cond (Nat.blt n 2) none none)) (cond (Nat.blt n 4) none (cond (Nat.blt n 5) none none))) (cond (Nat.blt n 9) (cond (Nat.blt n 7) none (cond (Nat.blt n 8) none none)) (cond (Nat.blt n 10) none (cond (Nat.blt n 11) none none)))) (cond (Nat.blt n 18) (cond (Nat.blt n 15) (cond (Nat.blt n 13) none (cond (Nat.blt n 14) none none)) (cond (Nat.blt n 16) none (cond (Nat.blt n 17) none none))) (cond (Nat.blt n 21) (cond (Nat.blt n 19) none (cond (Nat.blt n 20) none none)) (cond (Nat.blt n 22) none (cond (Nat.blt n 23) none none))))) (cond (Nat.blt n 36) (cond (Nat.blt n 30) (cond (Nat.blt n 27) (cond (Nat.blt n 25) none (cond (Nat.blt n 26) none none)) (cond (Nat.blt n 28) none (cond (Nat.blt n 29) none none))) (cond (Nat.blt n 33) (cond (Nat.blt n 31) none (cond (Nat.blt n 32) none none)) (cond (Nat.blt n 34) none (cond (Nat.blt n 35) none none)))) (cond (Nat.blt n 42) (cond (Nat.blt n 39) (cond (Nat.blt n 37) none (cond (Nat.blt n 38) (some F37) none)) (cond (Nat.blt n 40) none (cond (Nat.blt n 41) (some F40) none))) (cond (Nat.blt n 45) (cond (Nat.blt n 43) none (cond (Nat.blt n 44) none none)) (cond (Nat.blt n 47) (cond (Nat.blt n 46) none none) (cond (Nat.blt n 48) none none)))))) (cond (Nat.blt n 73) (cond (Nat.blt n 61) (cond (Nat.blt n 55) (cond (Nat.blt n 52) (cond (Nat.blt n 50) none (cond (Nat.blt n 51) none none)) (cond (Nat.blt n 53) none (cond (Nat.blt n 54) none none))) (cond (Nat.blt n 58) (cond (Nat.blt n 56) (some F55) (cond (Nat.blt n 57) (some F56) (some F57))) (cond (Nat.blt n 59) (some F58) (cond (Nat.blt n 60) (some F59) none)))) (cond (Nat.blt n 67) (cond (Nat.blt n 64) (cond (Nat.blt n 62) none (cond (Nat.blt n 63) none none)) (cond (Nat.blt n 65) none (cond (Nat.blt n 66) none none))) (cond (Nat.blt n 70) (cond (Nat.blt n 68) none (cond (Nat.blt n 69) none none)) (cond (Nat.blt n 71) none (cond (Nat.blt n 72) none none))))) (cond (Nat.blt n 85) (cond (Nat.blt n 79) (cond (Nat.blt n 76) (cond (Nat.blt n 74) none (cond (Nat.blt n 75) none none)) (cond (Nat.blt n 77) none (cond (Nat.blt n 78) none none))) (cond (Nat.blt n 82) (cond (Nat.blt n 80) none (cond (Nat.blt n 81) none none)) (cond (Nat.blt n 83) (some F82) (cond (Nat.blt n 84) (some F83) none)))) (cond (Nat.blt n 91) (cond (Nat.blt n 88) (cond (Nat.blt n 86) none (cond (Nat.blt n 87) none none)) (cond (Nat.blt n 89) none (cond (Nat.blt n 90) none none))) (cond (Nat.blt n 94) (cond (Nat.blt n 92) none (cond (Nat.blt n 93) none (some F93))) (cond (Nat.blt n 96) (cond (Nat.blt n 95) none none) (cond (Nat.blt n 97) none none))))))) (cond (Nat.blt n 147) (cond (Nat.blt n 122) (cond (Nat.blt n 110) (cond (Nat.blt n 104) (cond (Nat.blt n 101) (cond (Nat.blt n 99) none (cond (Nat.blt n 100) none none)) (cond (Nat.blt n 102) none (cond (Nat.blt n 103) none none))) (cond (Nat.blt n 107) (cond (Nat.blt n 105) none (cond (Nat.blt n 106) none none)) (cond (Nat.blt n 108) (some F107) (cond (Nat.blt n 109) (some F108) none)))) (cond (Nat.blt n 116) (cond (Nat.blt n 113) (cond (Nat.blt n 111) (some F110) (cond (Nat.blt n 112) (some F111) (some F112))) (cond (Nat.blt n 114) (some F113) (cond (Nat.blt n 115) (some F114) none))) (cond (Nat.blt n 119) (cond (Nat.blt n 117) none (cond (Nat.blt n 118) none none)) (cond (Nat.blt n 120) none (cond (Nat.blt n 121) none none))))) (cond (Nat.blt n 134) (cond (Nat.blt n 128) (cond (Nat.blt n 125) (cond (Nat.blt n 123) none (cond (Nat.blt n 124) none none)) (cond (Nat.blt n 126) none (cond (Nat.blt n 127) none none))) (cond (Nat.blt n 131) (cond (Nat.blt n 129) none (cond (Nat.blt n 130) none none)) (cond (Nat.blt n 132) none (cond (Nat.blt n 133) none none)))) (cond (Nat.blt n 140) (cond (Nat.blt n 137) (cond (Nat.blt n 135) none (cond (Nat.blt n 136) none none)) (cond (Nat.blt n 138) none (cond (Nat.blt n 139) none none))) (cond (Nat.blt n 143) (cond (Nat.blt n 141) none (cond (Nat.blt n 142) none none)) (cond (Nat.blt n 145) (cond (Nat.blt n 144) none none) (cond (Nat.blt n 146) none none)))))) (cond (Nat.blt n 171) (cond (Nat.blt n 159) (cond (Nat.blt n 153) (cond (Nat.blt n 150) (cond (Nat.blt n 148) none (cond (Nat.blt n 149) none none)) (cond (Nat.blt n 151) none (cond (Nat.blt n 152) none none))) (cond (Nat.blt n 156) (cond (Nat.blt n 154) none (cond (Nat.blt n 155) none none)) (cond (Nat.blt n 157) none (cond (Nat.blt n 158) none none)))) (cond (Nat.blt n 165) (cond (Nat.blt n 162) (cond (Nat.blt n 160) none (cond (Nat.blt n 161) none (some F161))) (cond (Nat.blt n 163) none (cond (Nat.blt n 164) none none))) (cond (Nat.blt n 168) (cond (Nat.blt n 166) none (cond (Nat.blt n 167) none none)) (cond (Nat.blt n 169) none (cond (Nat.blt n 170) (some F169) none))))) (cond (Nat.blt n 183) (cond (Nat.blt n 177) (cond (Nat.blt n 174) (cond (Nat.blt n 172) none (cond (Nat.blt n 173) none none)) (cond (Nat.blt n 175) none (cond (Nat.blt n 176) none none))) (cond (Nat.blt n 180) (cond (Nat.blt n 178) none (cond (Nat.blt n 179) none none)) (cond (Nat.blt n 181) (some F180) (cond (Nat.blt n 182) none none)))) (cond (Nat.blt n 189) (cond (Nat.blt n 186) (cond (Nat.blt n 184) none (cond (Nat.blt n 185) none none)) (cond (Nat.blt n 187) none (cond (Nat.blt n 188) none none))) (cond (Nat.blt n 192) (cond (Nat.blt n 190) none (cond (Nat.blt n 191) none none)) (cond (Nat.blt n 194) (cond (Nat.blt n 193) none none) (cond (Nat.blt n 195) none none)))))))) (cond (Nat.blt n 294) (cond (Nat.blt n 245) (cond (Nat.blt n 220) (cond (Nat.blt n 208) (cond (Nat.blt n 202) (cond (Nat.blt n 199) (cond (Nat.blt n 197) none (cond (Nat.blt n 198) none none)) (cond (Nat.blt n 200) (some F199) (cond (Nat.blt n 201) none none))) (cond (Nat.blt n 205) (cond (Nat.blt n 203) (some F202) (cond (Nat.blt n 204) none none)) (cond (Nat.blt n 206) none (cond (Nat.blt n 207) none none)))) (cond (Nat.blt n 214) (cond (Nat.blt n 211) (cond (Nat.blt n 209) none (cond (Nat.blt n 210) none none)) (cond (Nat.blt n 212) none (cond (Nat.blt n 213) none none))) (cond (Nat.blt n 217) (cond (Nat.blt n 215) none (cond (Nat.blt n 216) none none)) (cond (Nat.blt n 218) none (cond (Nat.blt n 219) none none))))) (cond (Nat.blt n 232) (cond (Nat.blt n 226) (cond (Nat.blt n 223) (cond (Nat.blt n 221) none (cond (Nat.blt n 222) none none)) (cond (Nat.blt n 224) none (cond (Nat.blt n 225) none none))) (cond (Nat.blt n 229) (cond (Nat.blt n 227) none (cond (Nat.blt n 228) none none)) (cond (Nat.blt n 230) none (cond (Nat.blt n 231) none none)))) (cond (Nat.blt n 238) (cond (Nat.blt n 235) (cond (Nat.blt n 233) none (cond (Nat.blt n 234) none none)) (cond (Nat.blt n 236) none (cond (Nat.blt n 237) none none))) (cond (Nat.blt n 241) (cond (Nat.blt n 239) none (cond (Nat.blt n 240) none none)) (cond (Nat.blt n 243) (cond (Nat.blt n 242) none none) (cond (Nat.blt n 244) none none)))))) (cond (Nat.blt n 269) (cond (Nat.blt n 257) (cond (Nat.blt n 251) (cond (Nat.blt n 248) (cond (Nat.blt n 246) none (cond (Nat.blt n 247) none none)) (cond (Nat.blt n 249) none (cond (Nat.blt n 250) none none))) (cond (Nat.blt n 254) (cond (Nat.blt n 252) none (cond (Nat.blt n 253) none (some F253))) (cond (Nat.blt n 255) none (cond (Nat.blt n 256) none none)))) (cond (Nat.blt n 263) (cond (Nat.blt n 260) (cond (Nat.blt n 258) none (cond (Nat.blt n 259) none none)) (cond (Nat.blt n 261) none (cond (Nat.blt n 262) none none))) (cond (Nat.blt n 266) (cond (Nat.blt n 264) none (cond (Nat.blt n 265) none (some F265))) (cond (Nat.blt n 267) (some F266) (cond (Nat.blt n 268) (some F267) (some F268)))))) (cond (Nat.blt n 281) (cond (Nat.blt n 275) (cond (Nat.blt n 272) (cond (Nat.blt n 270) (some F269) (cond (Nat.blt n 271) (some F270) (some F271))) (cond (Nat.blt n 273) (some F272) (cond (Nat.blt n 274) (some F273) (some F274)))) (cond (Nat.blt n 278) (cond (Nat.blt n 276) (some F275) (cond (Nat.blt n 277) (some F276) (some F277))) (cond (Nat.blt n 279) (some F278) (cond (Nat.blt n 280) none none)))) (cond (Nat.blt n 287) (cond (Nat.blt n 284) (cond (Nat.blt n 282) none (cond (Nat.blt n 283) none (some F283))) (cond (Nat.blt n 285) none (cond (Nat.blt n 286) none none))) (cond (Nat.blt n 290) (cond (Nat.blt n 288) none (cond (Nat.blt n 289) none (some F289))) (cond (Nat.blt n 292) (cond (Nat.blt n 291) none (some F291)) (cond (Nat.blt n 293) none none))))))) (cond (Nat.blt n 343) (cond (Nat.blt n 318) (cond (Nat.blt n 306) (cond (Nat.blt n 300) (cond (Nat.blt n 297) (cond (Nat.blt n 295) (some F294) (cond (Nat.blt n 296) none (some F296))) (cond (Nat.blt n 298) (some F297) (cond (Nat.blt n 299) none (some F299)))) (cond (Nat.blt n 303) (cond (Nat.blt n 301) none (cond (Nat.blt n 302) (some F301) (some F302))) (cond (Nat.blt n 304) none (cond (Nat.blt n 305) (some F304) none)))) (cond (Nat.blt n 312) (cond (Nat.blt n 309) (cond (Nat.blt n 307) (some F306) (cond (Nat.blt n 308) (some F307) (some F308))) (cond (Nat.blt n 310) (some F309) (cond (Nat.blt n 311) none none))) (cond (Nat.blt n 315) (cond (Nat.blt n 313) none (cond (Nat.blt n 314) none none)) (cond (Nat.blt n 316) none (cond (Nat.blt n 317) none none))))) (cond (Nat.blt n 330) (cond (Nat.blt n 324) (cond (Nat.blt n 321) (cond (Nat.blt n 319) none (cond (Nat.blt n 320) none (some F320))) (cond (Nat.blt n 322) none (cond (Nat.blt n 323) none none))) (cond (Nat.blt n 327) (cond (Nat.blt n 325) (some F324) (cond (Nat.blt n 326) none (some F326))) (cond (Nat.blt n 328) (some F327) (cond (Nat.blt n 329) none (some F329))))) (cond (Nat.blt n 336) (cond (Nat.blt n 333) (cond (Nat.blt n 331) (some F330) (cond (Nat.blt n 332) (some F331) (some F332))) (cond (Nat.blt n 334) (some F333) (cond (Nat.blt n 335) (some F334) (some F335)))) (cond (Nat.blt n 339) (cond (Nat.blt n 337) (some F336) (cond (Nat.blt n 338) (some F337) (some F338))) (cond (Nat.blt n 341) (cond (Nat.blt n 340) (some F339) (some F340)) (cond (Nat.blt n 342) (some F341) (some F342))))))) (cond (Nat.blt n 367) (cond (Nat.blt n 355) (cond (Nat.blt n 349) (cond (Nat.blt n 346) (cond (Nat.blt n 344) (some F343) (cond (Nat.blt n 345) (some F344) (some F345))) (cond (Nat.blt n 347) (some F346) (cond (Nat.blt n 348) (some F347) (some F348)))) (cond (Nat.blt n 352) (cond (Nat.blt n 350) (some F349) (cond (Nat.blt n 351) (some F350) (some F351))) (cond (Nat.blt n 353) (some F352) (cond (Nat.blt n 354) (some F353) (some F354))))) (cond (Nat.blt n 361) (cond (Nat.blt n 358) (cond (Nat.blt n 356) none (cond (Nat.blt n 357) none (some F357))) (cond (Nat.blt n 359) (some F358) (cond (Nat.blt n 360) (some F359) none))) (cond (Nat.blt n 364) (cond (Nat.blt n 362) (some F361) (cond (Nat.blt n 363) (some F362) none)) (cond (Nat.blt n 365) (some F364) (cond (Nat.blt n 366) (some F365) none))))) (cond (Nat.blt n 379) (cond (Nat.blt n 373) (cond (Nat.blt n 370) (cond (Nat.blt n 368) none (cond (Nat.blt n 369) none none)) (cond (Nat.blt n 371) none (cond (Nat.blt n 372) none none))) (cond (Nat.blt n 376) (cond (Nat.blt n 374) none (cond (Nat.blt n 375) none none)) (cond (Nat.blt n 377) none (cond (Nat.blt n 378) none none)))) (cond (Nat.blt n 385) (cond (Nat.blt n 382) (cond (Nat.blt n 380) none (cond (Nat.blt n 381) none none)) (cond (Nat.blt n 383) none (cond (Nat.blt n 384) none none))) (cond (Nat.blt n 388) (cond (Nat.blt n 386) none (cond (Nat.blt n 387) none none)) (cond (Nat.blt n 390) (cond (Nat.blt n 389) none none) (cond (Nat.blt n 391) none none)))))))))
end Go.Ab.Grid
namespace Go.Ab
theorem map_ev_congr {T T' : List Value} : ∀ {l : List Opd}, (∀ x ∈ l, ev T x = ev T' x) → l.map (ev T) = l.map (ev T') := fun h => List.map_congr_left h
theorem boundA_congr {T T' : List Value} {d : Nat} {x : Option Opd} (h : ∀ y ∈ x.toList, ev T y = ev T' y) : boundA T d x = boundA T' d x := by
  cases x with
  | none => rfl
  | some y => simp [boundA, h y (by simp)]
theorem opA_congr {o : AOp} {T T' : List Value} (h : ∀ x ∈ o.opds, ev T x = ev T' x) (cv : CallFn) (g : Nat) (A : Hp) : opA o cv g T A = opA o cv g T' A := by
  cases o <;> simp only [AOp.opds, List.mem_cons, List.not_mem_nil, or_false, forall_eq_or_imp, forall_eq, List.mem_append] at h <;> simp only [opA]
  case move x => rw [h]
  case pick c a b => rw [h.1, h.2.1, h.2.2]
  case nilCheck x => rw [h]
  case bin op x y => rw [h.1, h.2]
  case beq n x y => rw [h.1, h.2]
  case eqv n s x y => rw [h.1, h.2]
  case eqNil k n x => rw [h]
  case neg x => rw [h]
  case not x => rw [h]
  case toInt k x => rw [h]
  case toF64 x => rw [h]
  case makeFunc f a b => rw [map_ev_congr fun x hx => h x (.inl hx), map_ev_congr fun x hx => h x (.inr hx)]
  case build z ps =>
    have : (ps.map fun p => (p.1, p.2.1, ev T p.2.2)) = ps.map fun p => (p.1, p.2.1, ev T' p.2.2) := List.map_congr_left fun p hp => by rw [h p.2.2 (List.mem_map.2 ⟨p, hp, rfl⟩)]
    rw [this]
  case fieldAddr x n => rw [h]
  case field x n s => rw [h]
  case idxS x i n => rw [h.1, h.2]
  case idxA x i n m => rw [h.1, h.2]
  case index x i n m g => rw [h.1, h.2]
  case reslice x lo hi n =>
    have h1 := boundA_congr (T := T) (T' := T') (d := 0) (x := lo) fun y hy => h.2 y (.inl hy)
    have h2 : (fun n => boundA T n hi) = fun n => boundA T' n hi := funext fun n => boundA_congr fun y hy => h.2 y (.inr hy)
    rw [h.1, h1, h2]
  case extract x n => rw [h]
  case len x => rw [h]
  case lenT x => rw [h]
  case min l => rw [map_ev_congr h]
  case max l => rw [map_ev_congr h]
  case box x => rw [h]
  case slit n e z ps =>
    have : (ps.map fun p => (p.1 * e, e, ev T p.2)) = ps.map fun p => (p.1 * e, e, ev T' p.2) := List.map_congr_left fun p hp => by rw [h p.2 (List.mem_map.2 ⟨p, hp, rfl⟩)]
    rw [this]
  case makeS l c e b z => rw [h.1, h.2]
  case load x s => rw [h]
  case store x v n => rw [h.1, h.2]
  case append s x e b => rw [h.1, h.2]
  case copy d s e => rw [h.1, h.2]
  case call f l ro => rw [h.1, map_ev_congr h.2]
  case callC c f l => rw [h.1, h.2.1, map_ev_congr h.2.2]
  case strOp op x y => rw [h.1, h.2]
  case strIdx x i => rw [h.1, h.2]
  case toBytes x => rw [h]
  case toStr x => rw [h]
  case lookup x k kt z ok => rw [h.1, h.2]
  case mapSet x k v kt => rw [h.1, h.2.1, h.2.2]
  case lenM x => rw [h]
  case clearM x => rw [h]
  case strSl x lo hi =>
    have h1 := boundA_congr (T := T) (T' := T') (d := 0) (x := lo) fun y hy => h.2 y (.inl hy)
    have h2 : (fun n => boundA T n hi) = fun n => boundA T' n hi := funext fun n => boundA_congr fun y hy => h.2 y (.inr hy)
    rw [h.1, h1, h2]
  case sliceData x => rw [h]
  case appendT s x => rw [h.1, h.2]
  case mkStr p n => rw [h.1, h.2]
def CallKeeps (cv : CallFn) : Prop := ∀ (g : Nat) (f : Value) (args : List Value) (A : Hp) (v : Value) (A' : Hp), cv g f args A = some (v, A') → A.n ≤ A'.n ∧ ∀ x, x < A.n → x < g → A'.get x = A.get x
theorem pureV_heap {r : Option Value} {A A' : Hp} {v : Value} (h : pureV r A = some (v, A')) : r = some v ∧ A' = A := by
  cases r with
  | none => simp [pureV] at h
  | some u => simp [pureV] at h; exact ⟨by rw [h.1], h.2.symm⟩
theorem opA_mem0 {o : AOp} (hm : o.mem = 0) {cv : CallFn} {g : Nat} {T : List Value} {A A' : Hp} {v : Value} (h : opA o cv g T A = some (v, A')) : A' = A ∧ ∀ g' B, opA o cv g' T B = some (v, B) := by
  cases o <;> simp only [AOp.mem] at hm <;> try (cases hm; done)
  case call f l ro => cases ro <;> simp at hm
  case fail => cases h
  case rangeI => cases h
  case nextI => cases h
  case entryI => cases h
  case move x => cases h; exact ⟨rfl, fun _ _ => rfl⟩
  case makeFunc f a b => cases h; exact ⟨rfl, fun _ _ => rfl⟩
  all_goals
    obtain ⟨h1, h2⟩ := pureV_heap h
    exact ⟨h2, fun _ B => by simp only [opA, h1, pureV, Option.map_some]⟩
theorem opA_load {x : Opd} {s : Option Nat} {cv : CallFn} {g : Nat} {T : List Value} {A A' : Hp} {v : Value} (h : opA (.load x s) cv g T A = some (v, A')) : A' = A ∧ loadA A (ev T x) s = some v :=
  (pureV_heap h).symm
theorem opA_mem2 {o : AOp} (hm : o.mem = 2) {cv : CallFn} {g : Nat} {T : List Value} {A A' : Hp} {v : Value} (h : opA o cv g T A = some (v, A')) : (∃ b, A' = A.push b) ∧ ∀ g', opA o cv g' T A = some (v, A') := by
  cases o <;> simp only [AOp.mem] at hm <;> try (cases hm; done)
  case call f l ro => cases ro <;> simp at hm
  case alloc z => cases h; exact ⟨⟨_, rfl⟩, fun _ => rfl⟩
  case box x => cases h; exact ⟨⟨_, rfl⟩, fun _ => rfl⟩
  case slit n e z ps =>
    refine ⟨?_, fun _ => h⟩
    simp only [opA, slitA] at h
    split at h
    · cases h; exact ⟨_, rfl⟩
    · cases h
  case makeS l c e b z =>
    refine ⟨?_, fun _ => h⟩
    simp only [opA, makeSA] at h
    split at h
    · split at h
      · cases h; exact ⟨_, rfl⟩
      · cases h
    · cases h
  case makeM => cases h; exact ⟨⟨_, rfl⟩, fun _ => rfl⟩
  case allocB => cases h; exact ⟨⟨_, rfl⟩, fun _ => rfl⟩
  case toBytes x =>
    refine ⟨?_, fun _ => h⟩
    simp only [opA, toBytesA] at h
    split at h
    · cases h; exact ⟨_, rfl⟩
    · cases h
theorem writeA_some {g x o : Nat} {A A' : Hp} {vs : List Value} (h : writeA g A x o vs = some A') :
    g ≤ x ∧ ∃ cs, A.get x = some (.cells cs false) ∧ o + vs.length ≤ cs.length ∧ A' = A.set x (some (.cells (setRange cs o vs) false)) := by
  unfold writeA at h
  split at h
  · rename_i hg
    split at h
    · rename_i cs hcs
      split at h
      · rename_i hb
        cases h
        exact ⟨hg, cs, hcs, hb.1, rfl⟩
      · cases h
    · cases h
  · cases h
theorem opA_store {x y : Opd} {n : Nat} {cv : CallFn} {g : Nat} {T : List Value} {A A' : Hp} {v : Value} (h : opA (.store x y n) cv g T A = some (v, A')) :
    ∃ b o vs, ev T x = .pointer (some ⟨b, o, none⟩) ∧ vs.length = n ∧ writeA g A b o vs = some A' := by
  simp only [opA, storeV, Option.map_eq_some_iff] at h
  obtain ⟨A1, h, he⟩ := h
  cases he
  unfold storeA at h
  split at h
  · rename_i b o heq
    split at h
    · rename_i hl
      exact ⟨b, o, _, heq, hl, h⟩
    · cases h
  · cases h
theorem stillBut_some {A A' : Hp} {f v : Value} {r : Option (Value × Hp)} (h : stillBut A f r = some (v, A')) : r = some (v, A') ∧ OnlyC A f A' := by
  cases r with
  | none => cases h
  | some p =>
    obtain ⟨v1, A1⟩ := p
    simp only [stillBut] at h
    split at h
    · rename_i hc; cases h; exact ⟨rfl, hc⟩
    · cases h
theorem stillBut_of {A A' : Hp} {f v : Value} {r : Option (Value × Hp)} (h : r = some (v, A')) (hc : OnlyC A f A') : stillBut A f r = some (v, A') := by
  subst h
  simp only [stillBut, if_pos hc]
theorem mapSetA_some {g kt : Nat} {A A' : Hp} {x k v : Value} (h : mapSetA g A kt x k v = some A') : ∃ r l l', x = .map (some r) ∧ A.get r = some (.map l none) ∧ g ≤ r ∧ keyFits kt k = true ∧ setM k v l = some l' ∧ A' = A.set r (some (.map l' none)) := by
  unfold mapSetA at h
  split at h
  · rename_i r
    split at h
    · rename_i l hl
      split at h
      · rename_i hg
        simp only [Option.map_eq_some_iff] at h
        obtain ⟨l', h1, rfl⟩ := h
        exact ⟨r, l, l', rfl, hl, hg.1, hg.2, h1, rfl⟩
      · cases h
    · cases h
  · cases h
theorem clearMA_some {g : Nat} {A A' : Hp} {x : Value} (h : clearMA g A x = some A') : (x = .map none ∧ A' = A) ∨ ∃ r l, x = .map (some r) ∧ A.get r = some (.map l none) ∧ g ≤ r ∧ A' = A.set r (some (.map [] none)) := by
  unfold clearMA at h
  split at h
  · cases h; exact .inl ⟨rfl, rfl⟩
  · rename_i r
    split at h
    · rename_i l hl
      split at h
      · rename_i hg
        cases h
        exact .inr ⟨r, l, rfl, hl, hg, rfl⟩
      · cases h
    · cases h
  · cases h
theorem appendTA_some {g : Nat} {A A' : Hp} {s x v : Value} (h : appendTA g A s x = some (v, A')) :
    ∃ u, x = .string u ∧ ((u.size = 0 ∧ v = s ∧ A' = A ∧ (s = .slice none 0 0 ∨ ∃ b m c l, s = .slice (some ⟨b, 0, some 1⟩) m c ∧ A.get b = some (.bytes l) ∧ l.length = m)) ∨
      (u.size ≠ 0 ∧ u.size ≤ room ∧ s = .slice none 0 0 ∧ v = .slice (some ⟨A.n, 0, some 1⟩) u.size u.size ∧ A' = A.push (.bytes u.data.toList)) ∨
      ∃ b m c l, u.size ≠ 0 ∧ s = .slice (some ⟨b, 0, some 1⟩) m c ∧ A.get b = some (.bytes l) ∧ g ≤ b ∧ m + u.size ≤ room ∧ l.length = m ∧ v = .slice (some ⟨A.n, 0, some 1⟩) (m + u.size) (m + u.size) ∧ A' = (A.set b none).push (.bytes (l ++ u.data.toList))) := by
  unfold appendTA at h
  split at h
  · rename_i u
    refine ⟨u, rfl, ?_⟩
    split at h
    · split at h
      · rename_i h0; cases h; exact .inl ⟨h0, rfl, rfl, .inl rfl⟩
      · rename_i h0
        split at h
        · rename_i h1; cases h; exact .inr (.inl ⟨h0, h1, rfl, rfl, rfl⟩)
        · cases h
    · rename_i b m c
      split at h
      · rename_i l hl
        split at h
        · rename_i hg
          split at h
          · rename_i h0; cases h; exact .inl ⟨h0, rfl, rfl, .inr ⟨b, m, c, l, rfl, hl, hg.2.2⟩⟩
          · rename_i h0; cases h; exact .inr (.inr ⟨b, m, c, l, h0, rfl, hl, hg.1, hg.2.1, hg.2.2, rfl, rfl⟩)
        · cases h
      · cases h
    · cases h
  · cases h
theorem mkStrA_some {g : Nat} {A A' : Hp} {p n v : Value} (h : mkStrA g A p n = some (v, A')) :
    (p = .pointer none ∧ n = .int .i64 0 ∧ v = .string ⟨⟨[]⟩⟩ ∧ A' = A) ∨ ∃ b l, p = .pointer (some ⟨b, 0, none⟩) ∧ n = .int .i64 l.length ∧ A.get b = some (.bytes l) ∧ g ≤ b ∧ 0 < l.length ∧ l.length ≤ room ∧ v = .string ⟨⟨l⟩⟩ ∧ A' = A.set b none := by
  unfold mkStrA at h
  split at h
  · cases h; exact .inl ⟨rfl, rfl, rfl, rfl⟩
  · rename_i b n
    split at h
    · rename_i l hl
      split at h
      · rename_i hg
        cases h
        exact .inr ⟨b, l, rfl, by rw [hg.2.1], hl, hg.1, by have := hg.2.2.1; omega, by have := hg.2.2.2; omega, rfl, rfl⟩
      · cases h
    · cases h
  · cases h
theorem opA_len {o : AOp} {cv : CallFn} (hcv : CallKeeps cv) {g : Nat} {T : List Value} {A A' : Hp} {v : Value} (h : opA o cv g T A = some (v, A')) : A.n ≤ A'.n := by
  by_cases h0 : o.mem = 0
  · rw [(opA_mem0 h0 h).1]; exact Nat.le_refl _
  · by_cases h2 : o.mem = 2
    · obtain ⟨⟨b, rfl⟩, _⟩ := opA_mem2 h2 h; simp
    · cases o <;> simp only [AOp.mem, not_true_eq_false] at h0 h2
      case load x s => rw [(opA_load h).1]; exact Nat.le_refl _
      case store x y n =>
        obtain ⟨b, o, vs, _, _, hw⟩ := opA_store h
        obtain ⟨_, cs, _, _, rfl⟩ := writeA_some hw
        simp
      case append s x e by_ =>
        simp only [opA, appendA] at h
        repeat' (split at h)
        all_goals try (cases h; done)
        all_goals try (cases h; exact Nat.le_refl _)
        all_goals try (cases h; simp; done)
        simp only [Option.map_eq_some_iff] at h
        obtain ⟨A1, hw, he⟩ := h
        cases he
        obtain ⟨_, cs, _, _, rfl⟩ := writeA_some hw
        simp
      case copy d s e =>
        simp only [opA, copyA] at h
        repeat' (split at h)
        all_goals try (cases h; done)
        · simp only [Option.map_eq_some_iff] at h
          obtain ⟨A1, hw, he⟩ := h
          cases he
          obtain ⟨_, cs, _, _, rfl⟩ := writeA_some hw
          simp
        · cases h; exact Nat.le_refl _
      case call f l ro => exact (hcv _ _ _ _ _ _ h).1
      case callC c f l => exact (hcv _ _ _ _ _ _ (stillBut_some h).1).1
      case toStr y => rw [(pureV_heap h).2]; exact Nat.le_refl _
      case lookup x k kt z ok => rw [(pureV_heap h).2]; exact Nat.le_refl _
      case lenM x => rw [(pureV_heap h).2]; exact Nat.le_refl _
      case mapSet x k v kt =>
        simp only [opA, storeV, Option.map_eq_some_iff] at h
        obtain ⟨A1, h, he⟩ := h
        cases he
        obtain ⟨r, l, l', _, _, _, _, _, rfl⟩ := mapSetA_some h
        simp
      case clearM x =>
        simp only [opA, Option.map_eq_some_iff] at h
        obtain ⟨A1, h, he⟩ := h
        cases he
        rcases clearMA_some h with ⟨_, rfl⟩ | ⟨r, l, _, _, _, rfl⟩ <;> simp
      case appendT s x =>
        obtain ⟨u, _, ⟨_, _, rfl, _⟩ | ⟨_, _, _, _, rfl⟩ | ⟨b, m, c, l, _, _, _, _, _, _, _, rfl⟩⟩ := appendTA_some h <;> simp
      case mkStr p n =>
        rcases mkStrA_some h with ⟨_, _, _, rfl⟩ | ⟨b, l, _, _, _, _, _, _, _, rfl⟩ <;> simp
theorem opA_still {o : AOp} {cv : CallFn} (hcv : CallKeeps cv) (hm : o.mem ≠ 3 ∧ o.mem ≠ 4 ∧ o.mem ≠ 5 ∧ o.mem ≠ 7) {g : Nat} {T : List Value} {A A' : Hp} {v : Value} (h : opA o cv g T A = some (v, A')) :
    ∀ x, x < A.n → A'.get x = A.get x := by
  intro x hx
  by_cases h0 : o.mem = 0
  · rw [(opA_mem0 h0 h).1]
  · by_cases h2 : o.mem = 2
    · obtain ⟨⟨b, rfl⟩, _⟩ := opA_mem2 h2 h
      rw [Hp.get_push, if_neg (by omega)]
    · cases o <;> simp only [AOp.mem, not_true_eq_false, ne_eq, false_and, and_false] at h0 h2 hm
      case load y s => rw [(opA_load h).1]
      case toStr y => rw [(pureV_heap h).2]
      case lookup x k kt z ok => rw [(pureV_heap h).2]
      case lenM x => rw [(pureV_heap h).2]
      case call f l ro =>
        cases ro with
        | false => simp at hm
        | true => exact (hcv _ _ _ _ _ _ h).2 x hx hx
theorem opA_keeps {o : AOp} {cv : CallFn} (hcv : CallKeeps cv) {g : Nat} {T : List Value} {A A' : Hp} {v : Value} (h : opA o cv g T A = some (v, A')) : ∀ x, x < A.n → x < g → A'.get x = A.get x := by
  intro x hx hg
  by_cases hm : o.mem ≠ 3 ∧ o.mem ≠ 4 ∧ o.mem ≠ 5 ∧ o.mem ≠ 7
  · exact opA_still hcv hm h x hx
  · have wr : ∀ {b off : Nat} {vs : List Value} {B : Hp}, writeA g A b off vs = some B → B.get x = A.get x := fun hw => by
      obtain ⟨hgb, cs, hcs, _, rfl⟩ := writeA_some hw
      rw [Hp.get_set hcs, if_neg (by omega)]
    cases o <;> simp only [AOp.mem] at hm <;> try (exfalso; revert hm; decide)
    case store y z n =>
      obtain ⟨b, o, vs, _, _, hw⟩ := opA_store h
      exact wr hw
    case append s y e by_ =>
      simp only [opA, appendA] at h
      repeat' (split at h)
      all_goals try (cases h; done)
      all_goals try (cases h; rfl)
      · cases h; rw [Hp.get_push, if_neg (by omega)]
      · cases h
        rename_i b off es m c cs _ hcs hc _
        rw [Hp.get_push, if_neg (by simp; omega), Hp.get_set hcs, if_neg (by omega)]
      · simp only [Option.map_eq_some_iff] at h
        obtain ⟨A1, hw, he⟩ := h
        cases he
        exact wr hw
    case copy d s e =>
      simp only [opA, copyA] at h
      repeat' (split at h)
      all_goals try (cases h; done)
      · simp only [Option.map_eq_some_iff] at h
        obtain ⟨A1, hw, he⟩ := h
        cases he
        exact wr hw
      · cases h; rfl
    case call f l ro =>
      cases ro with
      | false => exact (hcv _ _ _ _ _ _ h).2 x hx hg
      | true => exact (hcv _ _ _ _ _ _ h).2 x hx hx
    case callC c f l => exact (hcv _ _ _ _ _ _ (stillBut_some h).1).2 x hx hg
    case mapSet x k v kt =>
      simp only [opA, storeV, Option.map_eq_some_iff] at h
      obtain ⟨A1, h, he⟩ := h
      cases he
      obtain ⟨r, l, l', _, hl, hgr, _, _, rfl⟩ := mapSetA_some h
      rw [Hp.get_set hl, if_neg (by omega)]
    case clearM x =>
      simp only [opA, Option.map_eq_some_iff] at h
      obtain ⟨A1, h, he⟩ := h
      cases he
      rcases clearMA_some h with ⟨_, rfl⟩ | ⟨r, l, _, hl, hgr, rfl⟩
      · rfl
      · rw [Hp.get_set hl, if_neg (by omega)]
    case appendT s y =>
      obtain ⟨u, _, ⟨_, _, rfl, _⟩ | ⟨_, _, _, _, rfl⟩ | ⟨b, m, c, l, _, _, hb, hgb, _, _, _, rfl⟩⟩ := appendTA_some h
      · rfl
      · rw [Hp.get_push, if_neg (by omega)]
      · rw [Hp.get_push, if_neg (by simp; omega), Hp.get_set hb, if_neg (by omega)]
    case mkStr p n =>
      rcases mkStrA_some h with ⟨_, _, _, rfl⟩ | ⟨b, l, _, _, hb, hgb, _, _, _, rfl⟩
      · rfl
      · rw [Hp.get_set hb, if_neg (by omega)]
theorem befStep_bit (acc : List Nat) (l : List Nat) (i : Nat) : (befStep acc l).testBit i = true ↔ ∃ e ∈ l, e = i ∨ (acc.getD e 0).testBit i = true := by
  unfold befStep
  have key : ∀ (l : List Nat) (s : Nat), (l.foldl (fun s e => s ||| 2 ^ e ||| acc.getD e 0) s).testBit i = true ↔ s.testBit i = true ∨ ∃ e ∈ l, e = i ∨ (acc.getD e 0).testBit i = true := by
    intro l
    induction l with
    | nil => intro s; simp
    | cons e l ih =>
      intro s
      rw [List.foldl_cons, ih]
      simp only [Nat.testBit_or, Nat.testBit_two_pow, Bool.or_eq_true, decide_eq_true_eq, List.mem_cons, exists_eq_or_imp]
      constructor
      · rintro ((( h | h) | h) | h)
        · exact .inl h
        · exact .inr (.inl (.inl h))
        · exact .inr (.inl (.inr h))
        · exact .inr (.inr h)
      · rintro (h | (h | h) | h)
        · exact .inl (.inl (.inl h))
        · exact .inl (.inl (.inr h))
        · exact .inl (.inr h)
        · exact .inr h
  have := key l 0
  simpa using this
theorem snoc_ind {α : Type} {P : List α → Prop} (h0 : P []) (h1 : ∀ l a, P l → P (l ++ [a])) (l : List α) : P l := by
  have : ∀ l : List α, P l.reverse := fun l => by
    induction l with
    | nil => exact h0
    | cons a l ih => rw [List.reverse_cons]; exact h1 _ _ ih
  have := this l.reverse
  rwa [List.reverse_reverse] at this
theorem befA_snoc (aft : List (List Nat)) (l : List Nat) : befA (aft ++ [l]) = befA aft ++ [befStep (befA aft) l] := by simp [befA]
theorem befA_length (aft : List (List Nat)) : (befA aft).length = aft.length := by
  refine snoc_ind (P := fun aft => (befA aft).length = aft.length) rfl (fun aft l ih => ?_) aft
  rw [befA_snoc]; simp [ih]
theorem befA_get (aft : List (List Nat)) : ∀ j, j < aft.length → (befA aft).getD j 0 = befStep (befA (aft.take j)) (aft.getD j []) := by
  refine snoc_ind (P := fun aft => ∀ j, j < aft.length → (befA aft).getD j 0 = befStep (befA (aft.take j)) (aft.getD j [])) (by intro j h; simp at h) (fun aft l ih => ?_) aft
  · intro j h
    rw [befA_snoc]
    by_cases hj : j < aft.length
    · have e1 : (befA aft ++ [befStep (befA aft) l]).getD j 0 = (befA aft).getD j 0 := by
        simp [List.getD, List.getElem?_append_left (show j < (befA aft).length by rw [befA_length]; exact hj)]
      have e2 : (aft ++ [l]).getD j [] = aft.getD j [] := by simp [List.getD, List.getElem?_append_left hj]
      rw [e1, ih j hj, e2, List.take_append_of_le_length (by omega)]
    · have hj : j = aft.length := by simp at h; omega
      subst hj
      have e1 : (befA aft ++ [befStep (befA aft) l]).getD aft.length 0 = befStep (befA aft) l := by
        simp [List.getD, befA_length]
      have e2 : (aft ++ [l]).getD aft.length [] = l := by simp [List.getD]
      rw [e1, e2, List.take_left]
theorem befA_take (aft : List (List Nat)) (k j : Nat) (hj : j < k) (hk : k ≤ aft.length) : (befA (aft.take k)).getD j 0 = (befA aft).getD j 0 := by
  rw [befA_get aft j (by omega), befA_get (aft.take k) j (by simp; omega)]
  rw [List.take_take, show min j k = j by omega]
  congr 1
  simp [List.getD, hj]
theorem bef_closed {aft : List (List Nat)} (hback : ∀ j, j < aft.length → ∀ e ∈ aft.getD j [], e < j) {S : Nat → Prop} (hS : ∀ j, j < aft.length → S j → ∀ e ∈ aft.getD j [], S e) :
    ∀ j, j < aft.length → S j → ∀ i, ((befA aft).getD j 0).testBit i = true → S i := by
  intro j
  induction j using Nat.strongRecOn with
  | _ j ih =>
    intro hj hSj i hi
    rw [befA_get aft j hj, befStep_bit] at hi
    obtain ⟨e, he, h | h⟩ := hi
    · subst h; exact hS j hj hSj e he
    · have hlt := hback j hj e he
      rw [befA_take aft j e hlt (by omega)] at h
      exact ih e hlt (by omega) (hS j hj hSj e he) i h
theorem bef_lt {aft : List (List Nat)} (hback : ∀ j, j < aft.length → ∀ e ∈ aft.getD j [], e < j) : ∀ j, j < aft.length → ∀ i, ((befA aft).getD j 0).testBit i = true → i < j := by
  intro j
  induction j using Nat.strongRecOn with
  | _ j ih =>
    intro hj i hi
    rw [befA_get aft j hj, befStep_bit] at hi
    obtain ⟨e, he, h | h⟩ := hi
    · subst h; exact hback j hj e he
    · have hlt := hback j hj e he
      rw [befA_take aft j e hlt (by omega)] at h
      have := ih e hlt (by omega) i h
      omega
def Step (cv : CallFn) (g : Nat) (o : AOper) (s s' : List Value × Hp) : Prop :=
  (wantedA o.guard s.1 = true ∧ o.apart.all (apartA s.1) = true ∧ ∃ v, opA o.op cv g s.1 s.2 = some (v, s'.2) ∧ s'.1 = putA o.dst s.1 v) ∨
  (wantedA o.guard s.1 = false ∧ s'.2 = s.2 ∧ s'.1 = putA o.dst s.1 undef)
theorem operA_step {cv : CallFn} {g : Nat} {o : AOper} {next : List Value → Hp → Option (List Value × Hp)} {T : List Value} {A : Hp} {r : List Value × Hp} (h : operA o next cv g T A = some r) :
    ∃ s', Step cv g o (T, A) s' ∧ next s'.1 s'.2 = some r := by
  unfold operA at h
  split at h
  · rename_i hw
    split at h
    · rename_i ha
      split at h
      · rename_i v A' hv
        rw [forceV_eq] at h
        exact ⟨(putA o.dst T v, A'), .inl ⟨hw, ha, v, hv, rfl⟩, h⟩
      · cases h
    · cases h
  · rename_i hw
    exact ⟨(putA o.dst T undef, A), .inr ⟨by simpa using hw, rfl, rfl⟩, h⟩
theorem opsA_states {cv : CallFn} {g : Nat} : ∀ {al : List AOper} {T : List Value} {A : Hp} {r : List Value × Hp}, opsA cv g al T A = some r →
    ∃ st : Nat → List Value × Hp, st 0 = (T, A) ∧ st al.length = r ∧ ∀ i o, al[i]? = some o → Step cv g o (st i) (st (i + 1)) := by
  intro al
  induction al with
  | nil => intro T A r h; simp at h; exact ⟨fun _ => (T, A), rfl, h, by simp⟩
  | cons o al ih =>
    intro T A r h
    rw [opsA_cons] at h
    obtain ⟨s', hs, hn⟩ := operA_step h
    obtain ⟨st, h0, h1, h2⟩ := ih hn
    refine ⟨fun i => match i with | 0 => (T, A) | i + 1 => st i, rfl, h1, fun i o' hi => ?_⟩
    cases i with
    | zero => simp at hi; subst hi; show Step cv g o (T, A) (st 0); rw [h0]; exact hs
    | succ i => exact h2 i o' (by simpa using hi)
end Go.Ab
namespace Go.Ab
def HK (g : Nat) (A A' : Hp) : Prop := A.n ≤ A'.n ∧ ∀ x, x < A.n → x < g → A'.get x = A.get x
theorem HK.refl (g : Nat) (A : Hp) : HK g A A := ⟨Nat.le_refl _, fun _ _ _ => rfl⟩
theorem HK.trans {g : Nat} {A A1 A2 : Hp} (h1 : HK g A A1) (h2 : HK g A1 A2) : HK g A A2 :=
  ⟨Nat.le_trans h1.1 h2.1, fun x hx hg => by rw [h2.2 x (Nat.lt_of_lt_of_le hx h1.1) hg, h1.2 x hx hg]⟩
theorem HK.push (g : Nat) (A : Hp) (b : ABlk) : HK g A (A.push b) := ⟨by simp, fun x hx _ => by rw [Hp.get_push, if_neg (by omega)]⟩
theorem HK.set {g : Nat} {A A1 : Hp} (h : HK g A A1) {x : Nat} {b0 : ABlk} (hx : A1.get x = some b0) (hg : g ≤ x ∨ A.n ≤ x) (b : Option ABlk) : HK g A (A1.set x b) :=
  ⟨h.1, fun y hy hyg => by rw [Hp.get_set hx, if_neg (by omega)]; exact h.2 y hy hyg⟩
def SK (g : Nat) (st st' : St) : Prop := HK g st.A st'.A ∧ ∃ ns, st'.D = ns ++ st.D ∧ ∀ x ∈ ns, st.A.n ≤ x
theorem SK.refl (g : Nat) (st : St) : SK g st st := ⟨HK.refl _ _, [], rfl, by simp⟩
theorem SK.trans {g : Nat} {s s1 s2 : St} (h1 : SK g s s1) (h2 : SK g s1 s2) : SK g s s2 := by
  obtain ⟨k1, n1, e1, m1⟩ := h1
  obtain ⟨k2, n2, e2, m2⟩ := h2
  refine ⟨k1.trans k2, n2 ++ n1, by rw [e2, e1, List.append_assoc], fun x hx => ?_⟩
  rcases List.mem_append.1 hx with h | h
  · exact Nat.le_trans k1.1 (m2 x h)
  · exact m1 x h
def RunKeeps (run : RunFn) : Prop := ∀ (g : Nat) (rd : Option Nat) (st : St) (ex : Ex) (st' : St), run g rd st = some (ex, st') → SK g st st'
def FnKeeps (cf : Nat → Nat → List Value → Hp → Option (Value × Hp)) : Prop := ∀ (g f : Nat) (args : List Value) (A : Hp) (v : Value) (A' : Hp), cf g f args A = some (v, A') → HK g A A'
theorem takeMarks_keeps {g : Nat} {A : Hp} : ∀ {D : List Nat} {A1 A' : Hp}, HK g A A1 → (∀ x ∈ D, A.n ≤ x) → takeMarks A1 D = some A' → HK g A A' := by
  intro D
  induction D with
  | nil => intro A1 A' h _ ht; simp [takeMarks] at ht; rw [← ht]; exact h
  | cons x D ih =>
    intro A1 A' h hD ht
    simp only [takeMarks] at ht
    split at ht
    · rename_i hx
      exact ih (h.set hx (.inr (hD x (by simp))) none) (fun y hy => hD y (by simp [hy])) ht
    · cases ht
theorem enterA_keeps {run : ACode → RunFn} (hr : ∀ c, RunKeeps (run c)) {g : Nat} {args : List Value} {A A' : Hp} {v : Value} {af : Option AFunc} (h : enterA run g args A af = some (v, A')) : HK g A A' := by
  unfold enterA at h
  split at h
  · unfold finishA at h
    split at h
    · cases h
    · rename_i ex st' _ heq
      split at h
      · rename_i A1 hA1
        simp only [Option.map_eq_some_iff] at h
        obtain ⟨u, _, he⟩ := h
        cases he
        obtain ⟨k, ns, e, m⟩ := hr _ _ _ _ _ _ heq
        refine takeMarks_keeps k (fun x hx => m x ?_) hA1
        rw [e] at hx; simpa using hx
      · cases h
    · cases h
  · rw [(pureV_heap h).2]; exact HK.refl _ _
  · cases h
  · cases h
theorem callF_keeps {AP : Nat → Option AFunc} {K : Nat → Option Spec} {run : ACode → RunFn} (hK : ∀ h S, K h = some S → ∀ g args A v A', S g args A = some (v, A') → HK g A A') (hr : ∀ c, RunKeeps (run c)) : FnKeeps (callF AP K run) := by
  intro g f args A v A' h
  unfold callF at h
  split at h
  · rename_i S hS
    exact hK f S hS g args A v A' h
  · exact enterA_keeps hr h
theorem yieldA_keeps {run : ACode → RunFn} (hr : ∀ c, RunKeeps (run c)) {g l : Nat} {args : List Value} {A A' : Hp} {v : Value} (h : yieldA run g l args A = some (v, A')) : HK g A A' := by
  unfold yieldA at h
  split at h
  · rename_i r hl
    split at h
    · rename_i hg
      unfold beginRoundA at h
      split at h
      · rename_i st1 heq
        have k1 := (hr _ _ _ _ _ _ heq).1
        split at h
        · rename_i r1 hl1
          split at h
          · unfold endRoundA at h
            split at h
            · rename_i ex st2 heq2
              have k2 := (hr _ _ _ _ _ _ heq2).1
              split at h
              · rename_i r2 hl2
                cases h
                exact ((k1.set hl1 (.inl hg.2) _).trans k2).set hl2 (.inl hg.2) _
              · cases h
            · cases h
          · cases h
        · cases h
      · cases h
    · cases h
  · cases h
theorem callV_keeps {AP : Nat → Option AFunc} {K : Nat → Option Spec} {run : ACode → RunFn} (hK : ∀ h S, K h = some S → ∀ g args A v A', S g args A = some (v, A') → HK g A A') (hr : ∀ c, RunKeeps (run c)) : CallKeeps (callV AP K run) := by
  intro g f args A v A' h
  unfold callV at h
  split at h
  · exact callF_keeps hK hr _ _ _ _ _ _ h
  · exact yieldA_keeps hr h
  · cases h
theorem operA_keeps {cv : CallFn} (hcv : CallKeeps cv) {o : AOper} {next : List Value → Hp → Option (List Value × Hp)} {g : Nat} {T T' : List Value} {A A' : Hp}
    (hn : ∀ T1 A1, next T1 A1 = some (T', A') → HK g A1 A') (h : operA o next cv g T A = some (T', A')) : HK g A A' := by
  unfold operA at h
  split at h
  · split at h
    · split at h
      · rename_i v A1 hv
        rw [forceV_eq] at h
        exact HK.trans ⟨opA_len hcv hv, opA_keeps hcv hv⟩ (hn _ _ h)
      · cases h
    · cases h
  · exact hn _ _ h
theorem opsA_keeps {cv : CallFn} (hcv : CallKeeps cv) {g : Nat} : ∀ {l : List AOper} {T T' : List Value} {A A' : Hp}, opsA cv g l T A = some (T', A') → HK g A A' := by
  intro l
  induction l with
  | nil => intro T T' A A' h; simp at h; rw [← h.2]; exact HK.refl _ _
  | cons o l ih =>
    intro T T' A A' h
    rw [opsA_cons] at h
    exact operA_keeps hcv (fun _ _ h => ih h) h
theorem seqA_keeps {b : RunFn} (hb : RunKeeps b) {g : Nat} {rd : Option Nat} {st : St} {r : Option (Ex × St)} (hr : ∀ ex st', r = some (ex, st') → SK g st st') {ex : Ex} {st' : St} (h : seqA b g rd r = some (ex, st')) : SK g st st' := by
  unfold seqA at h
  split at h
  · exact (hr _ _ rfl).trans (hb _ _ _ _ _ h)
  · exact hr _ _ h
theorem iterA_keeps {body : RunFn} (hb : RunKeeps body) : ∀ m, RunKeeps (iterA body m) := by
  intro m
  induction m with
  | zero => intro g rd st ex st' h; cases h
  | succ m ih =>
    intro g rd st ex st' h
    exact seqA_keeps ih (fun ex st' h => hb _ _ _ _ _ h) (show seqA (iterA body m) g rd (body g rd st) = some (ex, st') from h)
theorem endLoopA_keeps {g l : Nat} {T : List Value} {D : List Nat} {st : St} {r : Option (Value × Hp)} (hr : ∀ v A3, r = some (v, A3) → HK g st.A A3) (hl : st.A.n ≤ l) (hD : ∃ ns, D = ns ++ st.D ∧ ∀ x ∈ ns, st.A.n ≤ x) {ex : Ex} {st' : St}
    (h : endLoopA l T D r = some (ex, st')) : SK g st st' := by
  unfold endLoopA at h
  split at h
  · rename_i v A3
    split at h
    · rename_i r' hl'
      have k := (hr _ _ rfl).set hl' (.inr hl) (some (.loop { r' with state := .exhausted }))
      split at h
      · cases h
      · split at h <;> cases h <;> exact ⟨k, hD⟩
    · cases h
  · cases h
theorem codeA_keeps {cv : CallFn} {cf : Nat → Nat → List Value → Hp → Option (Value × Hp)} (hcv : CallKeeps cv) (hcf : FnKeeps cf) (m : Nat) : ∀ c, RunKeeps (codeA cv cf m c) := by
  intro c
  induction c with
  | skip => intro g rd st ex st' h; cases h; exact SK.refl _ _
  | ops l =>
    intro g rd st ex st' h
    replace h : opsSt cv g l st = some (ex, st') := h
    simp only [opsSt, Option.map_eq_some_iff] at h
    obtain ⟨⟨T', A'⟩, h, he⟩ := h
    cases he
    exact ⟨opsA_keeps hcv h, [], rfl, by simp⟩
  | seq a b iha ihb =>
    intro g rd st ex st' h
    exact seqA_keeps ihb (fun ex st' h => iha _ _ _ _ _ h) (show seqA (codeA cv cf m b) g rd (codeA cv cf m a g rd st) = some (ex, st') from h)
  | cond c a b iha ihb =>
    intro g rd st ex st' h
    replace h : condA (codeA cv cf m a) (codeA cv cf m b) g rd st (ev st.T c) = some (ex, st') := h
    unfold condA at h
    split at h
    · exact iha _ _ _ _ _ h
    · exact ihb _ _ _ _ _ h
    · cases h
  | block id c ih =>
    intro g rd st ex st' h
    replace h : inBlk id (codeA cv cf m c g rd st) = some (ex, st') := h
    unfold inBlk at h
    split at h
    · rename_i i st1 heq
      have k := ih _ _ _ _ _ heq
      split at h <;> (cases h; exact k)
    · exact ih _ _ _ _ _ h
  | loop c ih => exact iterA_keeps ih m
  | exit id => intro g rd st ex st' h; cases h; exact SK.refl _ _
  | ret => intro g rd st ex st' h; cases h; exact SK.refl _ _
  | rangeF f ps assign body _ _ =>
    intro g rd st ex st' h
    replace h : rangeA cf ps assign body g rd st (ev st.T f) = some (ex, st') := h
    unfold rangeA at h
    split at h
    · split at h
      · refine endLoopA_keeps (fun v A3 h3 => ?_) (Nat.le_succ _) ⟨[st.A.n], rfl, by simp⟩ h
        exact ((HK.push g st.A _).trans (HK.push g _ _)).trans (hcf _ _ _ _ _ _ h3)
      · split at h
        · refine endLoopA_keeps (fun v A3 h3 => ?_) (Nat.le_refl _) ⟨[], rfl, by simp⟩ h
          exact (HK.push g st.A _).trans (hcf _ _ _ _ _ _ h3)
        · cases h
    · cases h
theorem exec_keeps {AP : Nat → Option AFunc} {K : Nat → Option Spec} (hK : ∀ h S, K h = some S → ∀ g args A v A', S g args A = some (v, A') → HK g A A') (m : Nat) : ∀ d c, RunKeeps (exec AP K m d c) := by
  intro d
  induction d with
  | zero => intro c g rd st ex st' h; cases h
  | succ d ih => exact codeA_keeps (callV_keeps hK ih) (callF_keeps hK ih) m
end Go.Ab
