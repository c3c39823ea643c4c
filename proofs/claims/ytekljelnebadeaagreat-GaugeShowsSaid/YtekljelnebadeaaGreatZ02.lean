/- The program's functions in abstract form: made by a program of ours. -/
import Derived.Test.YtekljelnebadeaaGreatZ01
set_option linter.unusedSimpArgs false
set_option linter.unusedVariables false
set_option linter.unusedSectionVars false
set_option maxRecDepth 100000
namespace Go.Ab.Gauge
open Go.Ab
def F455 : AFunc :=
 .fn 24 [.tmp 4]
 (.seq
 (.ops [
oP 2 (.box (.t 0)),
oP 4 (.move (oK 0))])
 (.seq
 (.ops [
oP 5 (.move (oK 0))])
 (.seq
 (.seq
 (.ops [
oM 8 1,
oP 9 (.len (.t 8)),
oP 10 (.move (oK 0))])
 (.block 0
 (.loop
 (.seq
 (.ops [
oB 11 .lss 10 9])
 (.seq
 (.cond (.t 11)
 .skip
 (.exit 0))
 (.seq
 (.block 1
 (.seq
 (.ops [
oI 12 8 10 1,
oL 13 12,
oM 7 13])
 (.seq
 (.ops [
oF 14 2 3,
oL 15 14,
oM 16 7,
oI 17 15 16 1,
oL 18 17,
oP 19 (.not (.t 18))])
 (.cond (.t 19)
 (.ops [
oM 20 5,
oC 21 .add 20 1,
oM 5 21])
 .skip))))
 (.ops [
oC 22 .add 10 1,
oM 10 22])))))))
 (.seq
 (.ops [
oM 23 5,
oM 4 23])
 .ret))))
def F456 : AFunc :=
 .fn 6 [.cell 2 (some 2)]
 (.seq
 (.ops [
oP 2 (.alloc [.int .i64 0, .int .i64 0])])
 (.seq
 (.ops [
oM 3 0,
oM 4 0,
oP 5 (.build [.int .i64 0, .int .i64 0] [(0, 1, .t 3), (1, 1, .t 4)]),
oT 2 5 2])
 .ret))
def F457 : AFunc :=
 .fn 78 [.tmp 4, .tmp 5]
 (.seq
 (.ops [
oP 3 (.box (.t 1)),
oP 4 (.move (.k (.slice none 0 0))),
oP 5 (.move (oK 0))])
 (.seq
 (.seq
 (.ops [
oF 12 3 3,
oD 13 12 2,
oA 14 476 [.t 13, .k (.int .i64 0), .k (.int .i64 1000000000)] false,
oP 15 (.not (.t 14))])
 (.cond (.t 15)
 (.seq
 (.ops [
oM 17 0,
oP 18 (.nilCheck (.t 17)),
oF 19 18 0,
oF 20 19 0,
oD 21 20 4,
oM 22 0,
oP 23 (.nilCheck (.t 22)),
oF 24 23 13,
oD 25 24 2,
oM 26 0,
oP 27 (.nilCheck (.t 26)),
oF 28 27 0,
oF 29 28 6,
oD 30 29 6,
oD 31 3 5,
oA 32 16 [.t 21, .t 25, .t 30, .t 31] false,
oM 16 32,
oX 33 16 0,
oX 34 16 1,
oM 6 33,
oM 7 34])
 (.seq
 (.ops [
oM 35 7,
oP 4 (.move (.k (.slice none 0 0))),
oM 5 35])
 .ret))
 .skip))
 (.seq
 (.ops [
oP 36 (.build [.int .i64 0, .int .i64 0] []),
oF 37 3 3,
oT 37 36 2])
 (.seq
 (.seq
 (.ops [
oM 39 0,
oP 40 (.nilCheck (.t 39)),
oF 41 40 15,
oL 42 41,
oD 43 3 5,
oP 44 (.lookup (.t 42) (.t 43) 3072 (.slice none 0 0) true),
oM 38 44,
oX 45 38 0,
oX 46 38 1,
oM 8 45,
oM 9 46])
 (.seq
 (.ops [
oM 47 9])
 (.cond (.t 47)
 (.seq
 (.ops [
oM 48 8,
oM 4 48,
oP 5 (.move (oK 0))])
 .ret)
 .skip)))
 (.seq
 (.ops [
oM 50 0,
oP 51 (.nilCheck (.t 50)),
oF 52 51 0,
oF 53 52 0,
oD 54 53 4,
oM 55 0,
oP 56 (.nilCheck (.t 55)),
oF 57 56 13,
oD 58 57 2,
oM 59 0,
oP 60 (.nilCheck (.t 59)),
oF 61 60 0,
oF 62 61 6,
oD 63 62 6,
oD 64 3 5,
oA 65 16 [.t 54, .t 58, .t 63, .t 64] false,
oM 49 65,
oX 66 49 0,
oX 67 49 1,
oM 10 66,
oM 11 67])
 (.seq
 (.seq
 (.ops [
oM 68 11,
oC 69 .eql 68 0])
 (.cond (.t 69)
 (.ops [
oM 70 0,
oP 71 (.nilCheck (.t 70)),
oF 72 71 15,
oL 73 72,
oD 74 3 5,
oM 75 10,
⟨none, none, [], .mapSet (.t 73) (.t 74) (.t 75) 3072⟩])
 .skip))
 (.seq
 (.ops [
oM 76 10,
oM 77 11,
oM 4 76,
oM 5 77])
 .ret)))))))
def F458 : AFunc :=
 .fn 15 [.tmp 6]
 (.seq
 (.ops [
oP 6 (.move (.k (.bool false)))])
 (.seq
 (.ops [
oM 7 0,
oM 8 1,
oB 9 .geq 7 8,
oM 10 9,
oN 11 10 true 0,
oN 12 10 true 2,
oQ 13 10 true (.bin .leq (.t 11) (.t 12)),
oP 14 (.pick (.t 10) (.t 13) (.k (.bool false))),
oM 6 14])
 .ret))
def F459 : AFunc :=
 .fn 125 [.tmp 6]
 (.seq
 (.ops [
oP 3 (.box (.t 0)),
oP 4 (.box (.t 1)),
oP 6 (.move (.k (.bool false)))])
 (.seq
 (.ops [
oM 11 2,
oF 12 4 0,
oF 13 12 0,
oL 14 13,
oB 15 .add 11 14,
oM 16 2,
oF 17 4 0,
oF 18 17 1,
oL 19 18,
oB 20 .add 16 19,
oM 7 15,
oM 8 20])
 (.seq
 (.ops [
oF 21 3 21,
oF 22 21 0,
oL 23 22,
oF 24 4 2,
oF 25 24 1,
oL 26 25,
oB 27 .sub 23 26,
oF 28 3 21,
oF 29 28 1,
oL 30 29,
oF 31 4 2,
oF 32 31 1,
oL 33 32,
oB 34 .add 30 33,
oP 35 (.build [.int .i64 0, .int .i64 0] [(0, 1, .t 27), (1, 1, .t 34)]),
oP 9 (.alloc [.int .i64 0, .int .i64 0]),
oT 9 35 2])
 (.seq
 (.ops [
oM 36 7,
oF 37 3 15,
oF 38 37 1,
oL 39 38,
oB 40 .leq 36 39,
oM 10 40])
 (.seq
 (.seq
 (.ops [
oF 41 3 0,
oF 42 41 0,
oL 43 42])
 (.block 0
 (.seq
 (.ops [
oC 45 .eql 43 1,
oM 44 45])
 (.cond (.t 44)
 (.seq
 (.ops [
oF 46 3 19,
oD 47 46 2,
oF 48 3 21,
oD 49 48 2,
oA 50 484 [.t 47, .t 49] false,
oM 51 50,
oN 52 51 false 10,
oN 53 51 false 52,
oQ 54 53 true (.fieldAddr (.t 3) 19),
oQ 55 53 true (.load (.t 54) (some 2)),
oQ 56 53 true (.load (.t 9) (some 2)),
oQ 57 53 true (.call (.k (.func (.func 484) ⟨[]⟩ ⟨[]⟩)) [.t 55, .t 56] false),
oQ 58 51 false (.pick (.t 53) (.t 57) (.k (.bool false))),
oP 59 (.pick (.t 51) (.k (.bool true)) (.t 58)),
oM 6 59])
 .ret)
 (.seq
 (.ops [
oC 61 .eql 43 2,
oM 60 61])
 (.cond (.t 60)
 (.seq
 (.block 1
 (.seq
 (.ops [
oM 63 10,
oP 64 (.not (.t 63)),
oM 62 64])
 (.cond (.t 62)
 (.ops [
oF 65 3 21,
oD 66 65 2,
oT 9 66 2])
 (.seq
 (.ops [
oF 68 3 17,
oF 69 68 0,
oL 70 69,
oM 71 7,
oB 72 .leq 70 71,
oM 73 72,
oN 74 73 true 8,
oQ 75 73 true (.fieldAddr (.t 3) 17),
oQ 76 73 true (.fieldAddr (.t 75) 1),
oQ 77 73 true (.load (.t 76) none),
oQ 78 73 true (.bin .leq (.t 74) (.t 77)),
oP 79 (.pick (.t 73) (.t 78) (.k (.bool false))),
oM 67 79])
 (.cond (.t 67)
 (.ops [
oF 80 3 21,
oF 81 80 0,
oL 82 81,
oF 83 4 2,
oF 84 83 0,
oL 85 84,
oB 86 .add 82 85,
oF 87 9 0,
oT 87 86 1])
 .skip)))))
 (.seq
 (.ops [
oF 88 3 19,
oD 89 88 2,
oD 90 9 2,
oA 91 484 [.t 89, .t 90] false,
oM 6 91])
 .ret))
 (.seq
 (.ops [
oC 93 .eql 43 3,
oM 92 93])
 (.cond (.t 92)
 (.seq
 (.ops [
oF 94 4 2,
oF 95 94 1,
oL 96 95,
oF 97 3 6,
oF 98 97 8,
oL 99 98,
oB 100 .geq 96 99,
oM 101 100,
oN 102 101 true 10,
oP 103 (.pick (.t 101) (.t 102) (.k (.bool false))),
oM 104 103,
oN 105 104 true 8,
oQ 106 104 true (.fieldAddr (.t 3) 15),
oQ 107 104 true (.fieldAddr (.t 106) 0),
oQ 108 104 true (.load (.t 107) none),
oQ 109 104 true (.bin .geq (.t 105) (.t 108)),
oP 110 (.pick (.t 104) (.t 109) (.k (.bool false))),
oM 6 110])
 .ret)
 .skip))))))))
 (.seq
 (.ops [
oF 111 4 2,
oF 112 111 0,
oL 113 112,
oF 114 3 6,
oF 115 114 8,
oL 116 115,
oB 117 .lss 113 116,
oM 118 117,
oN 119 118 false 8,
oQ 120 118 false (.fieldAddr (.t 3) 15),
oQ 121 118 false (.fieldAddr (.t 120) 0),
oQ 122 118 false (.load (.t 121) none),
oQ 123 118 false (.bin .gtr (.t 119) (.t 122)),
oP 124 (.pick (.t 118) (.k (.bool true)) (.t 123)),
oM 6 124])
 .ret))))))
def F462 : AFunc :=
 .fn 29 [.tmp 6, .tmp 7]
 (.seq
 (.ops [
oP 3 (.box (.t 0)),
oP 4 (.box (.t 1)),
oP 6 (.move (.k (.pointer none))),
oP 7 (.move (oK 0))])
 (.seq
 (.ops [
oD 11 3 13,
oD 12 4 4,
oA 13 437 [.t 11, .t 12] false,
oM 10 13,
oX 14 10 0,
oX 15 10 1,
oM 8 14,
oM 9 15])
 (.seq
 (.seq
 (.ops [
oM 16 9,
oC 17 .eql 16 0,
oM 18 17,
oN 19 18 true 2,
oQ 20 18 true (.fieldAddr (.t 4) 2),
oQ 21 18 true (.load (.t 20) none),
oQ 22 18 true (.len (.t 21)),
oQ 23 18 true (.bin .sub (.t 22) (oK 1)),
oQ 24 18 true (.call (.k (.func (.func 458) ⟨[]⟩ ⟨[]⟩)) [.t 19, .k (.int .i64 0), .t 23] false),
oQ 25 18 true (.not (.t 24)),
oP 26 (.pick (.t 18) (.t 25) (.k (.bool false)))])
 (.cond (.t 26)
 (.seq
 (.ops [
oP 6 (.move (.k (.pointer none))),
oP 7 (.move (oK 4))])
 .ret)
 .skip))
 (.seq
 (.ops [
oM 27 8,
oM 28 9,
oM 6 27,
oM 7 28])
 .ret))))
def F463 : AFunc :=
 .fn 33 [.tmp 6]
 (.seq
 (.ops [
oP 6 (.move (.k (.slice none 0 0)))])
 (.seq
 (.ops [
oM 8 0,
oM 9 1,
oM 10 2,
oM 11 0,
oP 12 (.len (.t 11)),
oP 13 (.reslice3 (.t 8) (.t 9) (.t 10) (.t 12) 1)])
 (.seq
 (.seq
 (.ops [
oM 14 1,
oM 15 2,
oB 16 .eql 14 15])
 (.cond (.t 16)
 (.seq
 (.ops [
oM 17 0,
oM 6 17])
 .ret)
 .skip))
 (.seq
 (.ops [
oM 18 0,
oP 19 (.len (.t 18)),
oM 7 19])
 (.seq
 (.ops [
oM 20 0,
oM 21 1,
oP 22 (.reslice (.t 20) none (some (.t 21)) 1),
oM 23 0,
oM 24 2,
oP 25 (.reslice (.t 23) (some (.t 24)) none 1),
oP 26 (.append (.t 22) (.t 25) 1 8),
oM 0 26])
 (.seq
 (.ops [
oM 27 0,
oM 28 0,
oP 29 (.len (.t 28)),
oM 30 7,
oP 31 (.reslice (.t 27) (some (.t 29)) (some (.t 30)) 1),
⟨none, none, [], .clearS (.t 31) [.int .i64 0]⟩])
 (.seq
 (.ops [
oM 32 0,
oM 6 32])
 .ret)))))))
def F174 : AFunc :=
 .fn 8 [.tmp 2]
 (.seq
 (.ops [
oP 2 (.move (.k (.slice none 0 0)))])
 (.seq
 (.seq
 (.ops [
oM 3 0,
oP 4 (.eqNil 1 false (.t 3))])
 (.cond (.t 4)
 (.seq
 (.ops [
oP 2 (.move (.k (.slice none 0 0)))])
 .ret)
 .skip))
 (.seq
 (.ops [
oP 5 (.slit 0 1 [.int .i64 0] []),
oM 6 0,
oP 7 (.append (.t 5) (.t 6) 1 8),
oM 2 7])
 .ret)))
def F464 : AFunc :=
 .fn 14 [.tmp 6]
 (.seq
 (.ops [
oP 3 (.box (.t 0)),
oP 4 (.box (.t 1)),
oP 5 (.box (.t 2)),
oP 6 (.move (.k (.bool false)))])
 (.seq
 (.ops [
oL 7 3,
oP 8 (.nilCheck (.t 7)),
oF 9 8 5,
oL 10 9,
oP 11 (.makeFunc 487 [] [.t 4, .t 5, .t 3]),
oA 12 442 [.t 10, .t 11] false,
oP 13 (.not (.t 12)),
oM 6 13])
 .ret))
def F465 : AFunc :=
 .fn 25 [.tmp 4]
 (.seq
 (.ops [
oP 4 (.move (.k (.slice none 0 0)))])
 (.seq
 (.seq
 (.ops [
oM 7 0,
oP 8 (.len (.t 7)),
oC 9 .sub 8 1,
oM 5 9])
 (.block 0
 (.loop
 (.seq
 (.seq
 (.ops [
oM 10 5,
oC 11 .geq 10 0])
 (.cond (.t 11)
 .skip
 (.exit 0)))
 (.seq
 (.block 1
 (.seq
 (.ops [
oM 14 0,
oA 15 174 [.t 14] false,
oM 16 5,
oM 17 5,
oC 18 .add 17 1,
oA 19 463 [.t 15, .t 16, .t 18] false,
oM 6 19])
 (.seq
 (.ops [
oM 20 1,
oM 21 6,
oP 22 (.call (.t 20) [.t 21] false)])
 (.cond (.t 22)
 (.ops [
oM 23 6,
oM 0 23])
 .skip))))
 (.ops [
oM 12 5,
oC 13 .sub 12 1,
oM 5 13]))))))
 (.seq
 (.ops [
oM 24 0,
oM 4 24])
 .ret)))
def F466 : AFunc :=
 .fn 9 [.tmp 4]
 (.seq
 (.ops [
oP 4 (.move (.k (.bool false)))])
 (.seq
 (.ops [
oL 5 1,
oL 6 2,
oM 7 0,
oA 8 464 [.t 5, .t 6, .t 7] false,
oM 4 8])
 .ret))
def body468 : ACode := (.seq
 (.ops [
oB 23 .lss 22 21])
 (.seq
 (.cond (.t 23)
 .skip
 (.exit 0))
 (.seq
 (.block 1
 (.seq
 (.ops [
oI 24 20 22 3,
oD 25 24 3,
oP 7 (.alloc [.int .i64 0, .int .i64 0, .int .i64 0]),
oT 7 25 3])
 (.ops [
oD 26 5 2,
oF 27 7 0,
oL 28 27,
oA 29 489 [.k (.int .i64 (-1)), .k (.int .i64 1)] true,
oA 30 490 [.t 26, .t 28, .t 29] false,
oT 5 30 2])))
 (.ops [
oC 31 .add 22 1,
oM 22 31]))))
def F468 : AFunc :=
 .fn 34 [.cell 2 (some 2), .tmp 3]
 (.seq
 (.ops [
oP 1 (.box (.t 0)),
oP 2 (.alloc [.int .i64 0, .int .i64 0]),
oP 3 (.move (oK 0))])
 (.seq
 (.seq
 (.ops [
oD 8 1 2,
oA 9 488 [.t 8] false,
oM 4 9])
 (.seq
 (.ops [
oM 10 4,
oC 11 .neq 10 0])
 (.cond (.t 11)
 (.seq
 (.ops [
oP 12 (.build [.int .i64 0, .int .i64 0] []),
oM 13 4,
oT 2 12 2,
oM 3 13])
 .ret)
 .skip)))
 (.seq
 (.ops [
oF 14 1 0,
oL 15 14,
oF 16 1 0,
oL 17 16,
oA 18 489 [.t 15, .t 17] false,
oP 5 (.alloc [.int .i64 0, .int .i64 0]),
oT 5 18 2])
 (.seq
 (.seq
 (.ops [
oF 19 1 1,
oL 20 19,
oP 21 (.len (.t 20)),
oP 22 (.move (oK 0))])
 (.block 0
 (.loop body468)))
 (.seq
 (.ops [
oF 32 5 0,
oD 33 32 2,
oT 2 33 2,
oP 3 (.move (oK 0))])
 .ret)))))
def F16 : AFunc :=
 .fn 32 [.tmp 8, .tmp 9]
 (.seq
 (.ops [
oP 4 (.box (.t 0)),
oP 5 (.box (.t 1)),
oP 6 (.box (.t 2)),
oP 7 (.box (.t 3)),
oP 8 (.move (.k (.slice none 0 0))),
oP 9 (.move (oK 0))])
 (.seq
 (.seq
 (.ops [
oD 12 4 4,
oD 13 5 2,
oD 14 6 6,
oA 15 44 [.t 12, .t 13, .t 14] false,
oM 10 15])
 (.seq
 (.ops [
oM 16 10,
oC 17 .neq 16 0])
 (.cond (.t 17)
 (.seq
 (.ops [
oM 18 10,
oP 8 (.move (.k (.slice none 0 0))),
oM 9 18])
 .ret)
 .skip)))
 (.seq
 (.seq
 (.ops [
oD 19 4 4,
oD 20 7 5,
oA 21 38 [.t 19, .t 20] false,
oM 11 21])
 (.seq
 (.ops [
oM 22 11,
oC 23 .neq 22 0])
 (.cond (.t 23)
 (.seq
 (.ops [
oM 24 11,
oP 8 (.move (.k (.slice none 0 0))),
oM 9 24])
 .ret)
 .skip)))
 (.seq
 (.ops [
oD 25 4 4,
oD 26 5 2,
oD 27 6 6,
oD 28 4 4,
oD 29 7 5,
oA 30 39 [.t 28, .t 29] true,
oA 31 45 [.t 25, .t 26, .t 27, .t 30] false,
oM 8 31,
oP 9 (.move (oK 0))])
 .ret))))
def F470 : AFunc :=
 .fn 8 [.tmp 6]
 (.seq
 (.ops [
oP 3 (.box (.t 0)),
oP 4 (.box (.t 1)),
oP 5 (.box (.t 2)),
oP 6 (.move (.k (.nilFunc)))])
 (.seq
 (.ops [
oP 7 (.makeFunc 492 [] [.t 3, .t 5, .t 4]),
oM 6 7])
 .ret))
def F471 : AFunc :=
 .fn 15 [.tmp 2]
 (.seq
 (.ops [
oP 1 (.box (.t 0)),
oP 2 (.move (.k (.bool false)))])
 (.seq
 (.seq
 (.ops [
oF 3 1 0,
oF 4 3 0,
oL 5 4])
 (.block 0
 (.seq
 (.ops [
oC 7 .eql 5 3,
oM 6 7])
 (.cond (.t 6)
 (.seq
 (.ops [
oP 2 (.move (.k (.bool false)))])
 .ret)
 (.seq
 (.ops [
oC 9 .eql 5 4,
oM 8 9])
 (.cond (.t 8)
 (.seq
 (.ops [
oP 2 (.move (.k (.bool true)))])
 .ret)
 .skip))))))
 (.seq
 (.ops [
oF 10 1 19,
oD 11 10 2,
oF 12 1 21,
oD 13 12 2,
oA 14 484 [.t 11, .t 13] false,
oM 2 14])
 .ret)))
def F472 : AFunc :=
 .fn 24 []
 (.seq
 (.ops [
oL 5 1,
oP 6 (.nilCheck (.t 5)),
oF 7 6 5,
oL 8 7,
oP 9 (.len (.t 8)),
oP 10 (.move (oK 0))])
 (.block 0
 (.loop
 (.seq
 (.ops [
oB 11 .lss 10 9])
 (.seq
 (.cond (.t 11)
 .skip
 (.exit 0))
 (.seq
 (.block 1
 (.seq
 (.ops [
oI 12 8 10 4,
oD 13 12 4,
oP 4 (.alloc [.int .i64 0, .int .i64 0, .int .i64 0, .slice none 0 0]),
oT 4 13 4])
 (.seq
 (.ops [
oL 14 1,
oD 15 4 4,
oA 16 473 [.t 14, .t 15] false,
oM 17 16,
oN 18 17 true 0,
oQ 19 17 true (.load (.t 4) (some 4)),
oQ 20 17 true (.call (.t 18) [.t 19] false),
oQ 21 17 true (.not (.t 20)),
oP 22 (.pick (.t 17) (.t 21) (.k (.bool false)))])
 (.cond (.t 22)
 .ret
 .skip))))
 (.ops [
oC 23 .add 10 1,
oM 10 23])))))))
def F473 : AFunc :=
 .fn 17 [.tmp 4]
 (.seq
 (.ops [
oP 3 (.box (.t 1)),
oP 4 (.move (.k (.bool false)))])
 (.seq
 (.ops [
oD 5 3 4,
oM 6 0,
oP 7 (.nilCheck (.t 6)),
oF 8 7 4,
oL 9 8,
oA 10 455 [.t 5, .t 9] true,
oM 11 0,
oP 12 (.nilCheck (.t 11)),
oF 13 12 0,
oF 14 13 3,
oL 15 14,
oB 16 .leq 10 15,
oM 4 16])
 .ret))
def F474 : AFunc :=
 .fn 13 [.tmp 4]
 (.seq
 (.ops [
oP 2 (.box (.t 0)),
oP 4 (.move (.k (.slice none 0 0)))])
 (.seq
 (.seq
 (.ops [
oM 6 1])
 (.block 0
 (.rangeF (.t 6) [7]
 (.ops [
oP 5 (.alloc [.int .i64 0, .int .i64 0, .int .i64 0, .slice none 0 0]),
oT 5 7 4])
 (.block 1
 (.ops [
oL 8 2,
oD 9 5 4,
oP 10 (.slit 1 4 [.int .i64 0, .int .i64 0, .int .i64 0, .slice none 0 0] [(0, .t 9)]),
oP 11 (.append (.t 8) (.t 10) 4 48),
oT 2 11 1])))))
 (.seq
 (.ops [
oL 12 2,
oM 4 12])
 .ret)))
def F475 : AFunc :=
 .fn 19 [.tmp 4]
 (.seq
 (.ops [
oP 4 (.move (oK 0))])
 (.seq
 (.seq
 (.ops [
oM 6 0,
oP 7 (.len (.t 6)),
oP 8 (.move (oK 0))])
 (.block 0
 (.loop
 (.seq
 (.ops [
oB 9 .lss 8 7])
 (.seq
 (.cond (.t 9)
 .skip
 (.exit 0))
 (.seq
 (.block 1
 (.seq
 (.ops [
oM 10 8,
oM 5 10])
 (.seq
 (.ops [
oM 11 1,
oM 12 0,
oM 13 5,
oI 14 12 13 4,
oD 15 14 4,
oP 16 (.call (.t 11) [.t 15] false)])
 (.cond (.t 16)
 (.seq
 (.ops [
oM 17 5,
oM 4 17])
 .ret)
 .skip))))
 (.ops [
oC 18 .add 8 1,
oM 8 18])))))))
 (.seq
 (.ops [
oP 4 (.move (oK (-1)))])
 .ret)))
def F37 : AFunc :=
 .fn 34 [.tmp 2]
 (.seq
 (.ops [
oP 1 (.box (.t 0)),
oP 2 (.move (oK 0))])
 (.seq
 (.block 0
 (.seq
 (.ops [
oF 4 1 0,
oL 5 4,
oA 6 55 [.t 5, .k (.int .i64 1), .k (.int .i64 24)] false,
oP 7 (.not (.t 6)),
oM 8 7,
oQ 9 8 false (.fieldAddr (.t 1) 1),
oQ 10 8 false (.load (.t 9) none),
oQ 11 8 false (.call (.k (.func (.func 55) ⟨[]⟩ ⟨[]⟩)) [.t 10, .k (.int .i64 1), .k (.int .i64 24)] false),
oQ 12 8 false (.not (.t 11)),
oP 13 (.pick (.t 8) (.k (.bool true)) (.t 12)),
oM 14 13,
oQ 15 14 false (.fieldAddr (.t 1) 2),
oQ 16 14 false (.load (.t 15) none),
oQ 17 14 false (.call (.k (.func (.func 55) ⟨[]⟩ ⟨[]⟩)) [.t 16, .k (.int .i64 1), .k (.int .i64 10000)] false),
oQ 18 14 false (.not (.t 17)),
oP 19 (.pick (.t 14) (.k (.bool true)) (.t 18)),
oM 3 19])
 (.cond (.t 3)
 (.seq
 (.ops [
oP 2 (.move (oK 3))])
 .ret)
 (.seq
 (.ops [
oF 21 1 3,
oL 22 21,
oP 23 (.len (.t 22)),
oF 24 1 0,
oL 25 24,
oF 26 1 1,
oL 27 26,
oB 28 .mul 25 27,
oB 29 .neq 23 28,
oM 20 29])
 (.cond (.t 20)
 (.seq
 (.ops [
oP 2 (.move (oK 11))])
 .ret)
 (.seq
 (.ops [
oF 31 1 3,
oL 32 31,
oP 33 (.call (.k (.func (.func 56) ⟨[]⟩ ⟨[]⟩)) [.t 32, .k (.func (.func 57) ⟨[]⟩ ⟨[]⟩)] false),
oM 30 33])
 (.cond (.t 30)
 (.seq
 (.ops [
oP 2 (.move (oK 3))])
 .ret)
 .skip)))))))
 (.seq
 (.ops [
oP 2 (.move (oK 0))])
 .ret)))
def F476 : AFunc :=
 .fn 24 [.tmp 6]
 (.seq
 (.ops [
oP 3 (.box (.t 0)),
oP 6 (.move (.k (.bool false)))])
 (.seq
 (.ops [
oF 7 3 0,
oL 8 7,
oM 9 1,
oB 10 .geq 8 9,
oM 11 10,
oQ 12 11 true (.fieldAddr (.t 3) 0),
oQ 13 11 true (.load (.t 12) none),
oQ 14 11 true (.fieldAddr (.t 3) 1),
oQ 15 11 true (.load (.t 14) none),
oQ 16 11 true (.bin .leq (.t 13) (.t 15)),
oP 17 (.pick (.t 11) (.t 16) (.k (.bool false))),
oM 18 17,
oQ 19 18 true (.fieldAddr (.t 3) 1),
oQ 20 18 true (.load (.t 19) none),
oN 21 18 true 2,
oQ 22 18 true (.bin .leq (.t 20) (.t 21)),
oP 23 (.pick (.t 18) (.t 22) (.k (.bool false))),
oM 6 23])
 .ret))
def F13 : AFunc :=
 .fn 19 [.tmp 2]
 (.seq
 (.ops [
oP 1 (.box (.t 0)),
oP 2 (.move (oK 0))])
 (.seq
 (.seq
 (.ops [
oF 3 1 0,
oD 4 3 2,
oA 5 42 [.t 4, .k (.int .i64 1), .k (.int .i64 1024)] false,
oP 6 (.not (.t 5)),
oM 7 6,
oQ 8 7 false (.fieldAddr (.t 1) 2),
oQ 9 7 false (.load (.t 8) (some 2)),
oQ 10 7 false (.call (.k (.func (.func 42) ⟨[]⟩ ⟨[]⟩)) [.t 9, .k (.int .i64 10), .k (.int .i64 100000)] false),
oQ 11 7 false (.not (.t 10)),
oP 12 (.pick (.t 7) (.k (.bool true)) (.t 11)),
oM 13 12,
oQ 14 13 false (.fieldAddr (.t 1) 4),
oQ 15 13 false (.load (.t 14) (some 2)),
oQ 16 13 false (.call (.k (.func (.func 42) ⟨[]⟩ ⟨[]⟩)) [.t 15, .k (.int .i64 0), .k (.int .i64 1000)] false),
oQ 17 13 false (.not (.t 16)),
oP 18 (.pick (.t 13) (.k (.bool true)) (.t 17))])
 (.cond (.t 18)
 (.seq
 (.ops [
oP 2 (.move (oK 3))])
 .ret)
 .skip))
 (.seq
 (.ops [
oP 2 (.move (oK 0))])
 .ret)))
def F477 : AFunc :=
 .fn 66 [.tmp 4]
 (.seq
 (.ops [
oP 3 (.box (.t 1)),
oP 4 (.move (oK 0))])
 (.seq
 (.block 0
 (.seq
 (.ops [
oF 6 3 0,
oL 7 6,
oM 8 0,
oP 9 (.nilCheck (.t 8)),
oF 10 9 0,
oF 11 10 0,
oF 12 11 3,
oL 13 12,
oP 14 (.len (.t 13)),
oC 15 .sub 14 1,
oA 16 458 [.t 7, .k (.int .i64 0), .t 15] false,
oP 17 (.not (.t 16)),
oM 5 17])
 (.cond (.t 5)
 (.seq
 (.ops [
oP 4 (.move (oK 4))])
 .ret)
 (.seq
 (.ops [
oM 19 0,
oP 20 (.nilCheck (.t 19)),
oF 21 20 13,
oF 22 21 0,
oL 23 22,
oM 24 0,
oP 25 (.nilCheck (.t 24)),
oF 26 25 0,
oF 27 26 0,
oF 28 27 3,
oL 29 28,
oF 30 3 0,
oL 31 30,
oI 32 29 31 2,
oF 33 32 1,
oL 34 33,
oB 35 .sub 23 34,
oC 36 .lss 35 1,
oM 18 36])
 (.cond (.t 18)
 (.seq
 (.ops [
oP 4 (.move (oK 19))])
 .ret)
 (.seq
 (.ops [
oF 38 3 1,
oD 39 38 2,
oA 40 476 [.t 39, .k (.int .i64 (-100000000)), .k (.int .i64 100000000)] false,
oP 41 (.not (.t 40)),
oM 42 41,
oQ 43 42 false (.fieldAddr (.t 3) 3),
oQ 44 42 false (.load (.t 43) (some 2)),
oQ 45 42 false (.call (.k (.func (.func 476) ⟨[]⟩ ⟨[]⟩)) [.t 44, .k (.int .i64 (-10000)), .k (.int .i64 10000)] false),
oQ 46 42 false (.not (.t 45)),
oP 47 (.pick (.t 42) (.k (.bool true)) (.t 46)),
oM 48 47,
oQ 49 48 false (.fieldAddr (.t 3) 5),
oQ 50 48 false (.load (.t 49) (some 2)),
oQ 51 48 false (.call (.k (.func (.func 476) ⟨[]⟩ ⟨[]⟩)) [.t 50, .k (.int .i64 (-1000)), .k (.int .i64 1000)] false),
oQ 52 48 false (.not (.t 51)),
oP 53 (.pick (.t 48) (.k (.bool true)) (.t 52)),
oM 54 53,
oQ 55 54 false (.fieldAddr (.t 3) 7),
oQ 56 54 false (.load (.t 55) none),
oQ 57 54 false (.call (.k (.func (.func 458) ⟨[]⟩ ⟨[]⟩)) [.t 56, .k (.int .i64 0), .k (.int .i64 1000000000)] false),
oQ 58 54 false (.not (.t 57)),
oP 59 (.pick (.t 54) (.k (.bool true)) (.t 58)),
oM 60 59,
oQ 61 60 false (.fieldAddr (.t 3) 8),
oQ 62 60 false (.load (.t 61) none),
oQ 63 60 false (.call (.k (.func (.func 458) ⟨[]⟩ ⟨[]⟩)) [.t 62, .k (.int .i64 0), .k (.int .i64 5000)] false),
oQ 64 60 false (.not (.t 63)),
oP 65 (.pick (.t 60) (.k (.bool true)) (.t 64)),
oM 37 65])
 (.cond (.t 37)
 (.seq
 (.ops [
oP 4 (.move (oK 3))])
 .ret)
 .skip)))))))
 (.seq
 (.ops [
oP 4 (.move (oK 0))])
 .ret)))
def F478 : AFunc :=
 .fn 56 [.cell 4 (some 2)]
 (.seq
 (.ops [
oP 2 (.box (.t 0)),
oP 3 (.box (.t 1)),
oP 4 (.alloc [.int .i64 0, .int .i64 0])])
 (.seq
 (.ops [
oP 11 (.build [.int .i64 0, .int .i64 0] [(0, 1, .k (.int .i64 1099511627776)), (1, 1, .k (.int .i64 (-1099511627776)))]),
oP 5 (.alloc [.int .i64 0, .int .i64 0]),
oT 5 11 2])
 (.seq
 (.seq
 (.ops [
oF 12 2 5,
oF 13 12 0,
oL 14 13,
oF 15 2 5,
oF 16 15 1,
oL 17 16,
oP 18 (.slit 2 1 [.int .i64 0] [(0, .t 14), (1, .t 17)]),
oP 19 (.len (.t 18)),
oP 20 (.move (oK 0))])
 (.block 0
 (.loop
 (.seq
 (.ops [
oB 21 .lss 20 19])
 (.seq
 (.cond (.t 21)
 .skip
 (.exit 0))
 (.seq
 (.block 1
 (.seq
 (.ops [
oI 22 18 20 1,
oL 23 22,
oM 7 23])
 (.seq
 (.ops [
oF 24 3 0,
oL 25 24,
oF 26 3 1,
oL 27 26,
oP 28 (.slit 2 1 [.int .i64 0] [(0, .t 25), (1, .t 27)]),
oP 29 (.len (.t 28)),
oP 30 (.move (oK 0))])
 (.block 2
 (.loop
 (.seq
 (.ops [
oB 31 .lss 30 29])
 (.seq
 (.cond (.t 31)
 .skip
 (.exit 2))
 (.seq
 (.block 3
 (.seq
 (.ops [
oI 32 28 30 1,
oL 33 32,
oM 9 33])
 (.seq
 (.ops [
oM 34 7,
oM 35 9,
oF 36 2 7,
oL 37 36,
oB 38 .sub 35 37,
oB 39 .mul 34 38,
oM 10 39])
 (.ops [
oF 40 5 0,
oL 41 40,
oM 42 10,
oA 43 496 [.t 42, .k (.int .i64 86400000)] true,
oP 44 (.min [.t 41, .t 43]),
oF 45 5 1,
oL 46 45,
oM 47 10,
oP 48 (.neg (.t 47)),
oA 49 496 [.t 48, .k (.int .i64 86400000)] true,
oP 50 (.neg (.t 49)),
oP 51 (.max [.t 46, .t 50]),
oP 52 (.build [.int .i64 0, .int .i64 0] [(0, 1, .t 44), (1, 1, .t 51)]),
oT 5 52 2]))))
 (.ops [
oC 53 .add 30 1,
oM 30 53])))))))))
 (.ops [
oC 54 .add 20 1,
oM 20 54])))))))
 (.seq
 (.ops [
oD 55 5 2,
oT 4 55 2])
 .ret))))
def F479 : AFunc :=
 .fn 20 [.cell 4 (some 2), .tmp 5]
 (.seq
 (.ops [
oP 2 (.box (.t 0)),
oP 3 (.box (.t 1)),
oP 4 (.alloc [.int .i64 0, .int .i64 0]),
oP 5 (.move (oK 0))])
 (.seq
 (.seq
 (.ops [
oD 7 2 2,
oD 8 3 2,
oP 9 (.build [.int .i64 0, .int .i64 0] [(0, 2, .t 8)]),
oA 10 497 [.t 7, .t 9] false,
oM 6 10])
 (.seq
 (.ops [
oM 11 6,
oC 12 .neq 11 0])
 (.cond (.t 12)
 (.seq
 (.ops [
oP 13 (.build [.int .i64 0, .int .i64 0] []),
oM 14 6,
oT 4 13 2,
oM 5 14])
 .ret)
 .skip)))
 (.seq
 (.ops [
oD 15 2 2,
oD 16 3 2,
oP 17 (.build [.int .i64 0, .int .i64 0] [(0, 2, .t 16)]),
oA 18 498 [.t 15, .t 17] false,
oP 19 (.field (.t 18) 0 (some 2)),
oT 4 19 2,
oP 5 (.move (oK 0))])
 .ret)))
def F480 : AFunc :=
 .fn 17 [.tmp 4]
 (.seq
 (.ops [
oP 4 (.move (oK 0))])
 (.seq
 (.ops [
oM 6 0,
oM 7 1,
oB 8 .quo 6 7,
oM 5 8])
 (.seq
 (.seq
 (.ops [
oM 9 5,
oM 10 1,
oB 11 .mul 9 10,
oM 12 0,
oB 13 .gtr 11 12])
 (.cond (.t 13)
 (.ops [
oM 14 5,
oC 15 .sub 14 1,
oM 5 15])
 .skip))
 (.seq
 (.ops [
oM 16 5,
oM 4 16])
 .ret))))
def F59 : AFunc :=
 .fn 15 [.tmp 6]
 (.seq
 (.ops [
oP 6 (.move (.k (.bool false)))])
 (.seq
 (.ops [
oM 7 0,
oM 8 1,
oB 9 .geq 7 8,
oM 10 9,
oN 11 10 true 0,
oN 12 10 true 2,
oQ 13 10 true (.bin .leq (.t 11) (.t 12)),
oP 14 (.pick (.t 10) (.t 13) (.k (.bool false))),
oM 6 14])
 .ret))
def body481 : ACode := (.seq
 (.seq
 (.ops [
oM 13 6,
oF 14 1 1,
oL 15 14,
oP 16 (.len (.t 15)),
oB 17 .lss 13 16])
 (.cond (.t 17)
 .skip
 (.exit 0)))
 (.seq
 (.block 1
 (.ops [
oM 20 5,
oF 21 1 1,
oL 22 21,
oM 23 6,
oI 24 22 23 3,
oF 25 24 0,
oL 26 25,
oB 27 .add 20 26,
oM 5 27]))
 (.ops [
oM 18 6,
oC 19 .add 18 1,
oM 6 19])))
def F481 : AFunc :=
 .fn 37 [.cell 2 (some 2), .tmp 3]
 (.seq
 (.ops [
oP 1 (.box (.t 0)),
oP 2 (.alloc [.int .i64 0, .int .i64 0]),
oP 3 (.move (oK 0))])
 (.seq
 (.ops [
oD 7 1 2,
oA 8 448 [.t 7] false,
oM 4 8])
 (.seq
 (.seq
 (.ops [
oM 9 4,
oC 10 .neq 9 0])
 (.cond (.t 10)
 (.seq
 (.ops [
oP 11 (.build [.int .i64 0, .int .i64 0] []),
oM 12 4,
oT 2 11 2,
oM 3 12])
 .ret)
 .skip))
 (.seq
 (.ops [
oP 5 (.move (oK 0))])
 (.seq
 (.seq
 (.ops [
oP 6 (.move (oK 0))])
 (.block 0
 (.loop body481)))
 (.seq
 (.ops [
oF 28 1 0,
oL 29 28,
oM 30 5,
oB 31 .sub 29 30,
oF 32 1 0,
oL 33 32,
oM 34 5,
oB 35 .add 33 34,
oP 36 (.build [.int .i64 0, .int .i64 0] [(0, 1, .t 31), (1, 1, .t 35)]),
oT 2 36 2,
oP 3 (.move (oK 0))])
 .ret))))))
def F43 : AFunc :=
 .fn 24 [.tmp 6]
 (.seq
 (.ops [
oP 3 (.box (.t 0)),
oP 6 (.move (.k (.bool false)))])
 (.seq
 (.ops [
oF 7 3 0,
oL 8 7,
oF 9 3 1,
oL 10 9,
oB 11 .leq 8 10,
oM 12 11,
oQ 13 12 true (.fieldAddr (.t 3) 0),
oQ 14 12 true (.load (.t 13) none),
oN 15 12 true 1,
oQ 16 12 true (.bin .geq (.t 14) (.t 15)),
oP 17 (.pick (.t 12) (.t 16) (.k (.bool false))),
oM 18 17,
oQ 19 18 true (.fieldAddr (.t 3) 1),
oQ 20 18 true (.load (.t 19) none),
oN 21 18 true 2,
oQ 22 18 true (.bin .leq (.t 20) (.t 21)),
oP 23 (.pick (.t 18) (.t 22) (.k (.bool false))),
oM 6 23])
 .ret))
def F484 : AFunc :=
 .fn 17 [.tmp 4]
 (.seq
 (.ops [
oP 2 (.box (.t 0)),
oP 3 (.box (.t 1)),
oP 4 (.move (.k (.bool false)))])
 (.seq
 (.ops [
oF 5 2 0,
oL 6 5,
oF 7 3 1,
oL 8 7,
oB 9 .leq 6 8,
oM 10 9,
oQ 11 10 true (.fieldAddr (.t 3) 0),
oQ 12 10 true (.load (.t 11) none),
oQ 13 10 true (.fieldAddr (.t 2) 1),
oQ 14 10 true (.load (.t 13) none),
oQ 15 10 true (.bin .leq (.t 12) (.t 14)),
oP 16 (.pick (.t 10) (.t 15) (.k (.bool false))),
oM 4 16])
 .ret))
def F487 : AFunc :=
 .fn 22 [.tmp 5]
 (.seq
 (.ops [
oP 4 (.box (.t 0)),
oP 5 (.move (.k (.bool false)))])
 (.seq
 (.ops [
oF 6 4 3,
oL 7 6,
oL 8 1,
oI 9 7 8 1,
oL 10 9,
oM 11 10,
oQ 12 11 true (.load (.t 4) (some 4)),
oQ 13 11 true (.load (.t 2) none),
oQ 14 11 true (.call (.k (.func (.func 455) ⟨[]⟩ ⟨[]⟩)) [.t 12, .t 13] true),
oQ 15 11 true (.load (.t 3) none),
oQ 16 11 true (.nilCheck (.t 15)),
oQ 17 11 true (.fieldAddr (.t 16) 0),
oQ 18 11 true (.fieldAddr (.t 17) 3),
oQ 19 11 true (.load (.t 18) none),
oQ 20 11 true (.bin .leq (.t 14) (.t 19)),
oP 21 (.pick (.t 11) (.t 20) (.k (.bool false))),
oM 5 21])
 .ret))
def F488 : AFunc :=
 .fn 20 [.tmp 2]
 (.seq
 (.ops [
oP 1 (.box (.t 0)),
oP 2 (.move (oK 0))])
 (.seq
 (.block 0
 (.seq
 (.ops [
oF 4 1 0,
oL 5 4,
oP 6 (.max [.t 5, .k (.int .i64 (-10000))]),
oF 7 1 0,
oL 8 7,
oP 9 (.min [.t 8, .k (.int .i64 10000)]),
oB 10 .neq 6 9,
oM 3 10])
 (.cond (.t 3)
 (.seq
 (.ops [
oP 2 (.move (oK 3))])
 .ret)
 (.seq
 (.ops [
oF 12 1 1,
oL 13 12,
oP 14 (.len (.t 13)),
oC 15 .gtr 14 16,
oM 11 15])
 (.cond (.t 11)
 (.seq
 (.ops [
oP 2 (.move (oK 9))])
 .ret)
 (.seq
 (.ops [
oF 17 1 1,
oL 18 17,
oP 19 (.call (.k (.func (.func 501) ⟨[]⟩ ⟨[]⟩)) [.t 18, .k (.func (.func 502) ⟨[]⟩ ⟨[]⟩)] false),
oM 16 19])
 (.cond (.t 16)
 (.seq
 (.ops [
oP 2 (.move (oK 3))])
 .ret)
 .skip)))))))
 (.seq
 (.ops [
oP 2 (.move (oK 0))])
 .ret)))
def F489 : AFunc :=
 .fn 9 [.cell 4 (some 2)]
 (.seq
 (.ops [
oP 4 (.alloc [.int .i64 0, .int .i64 0])])
 (.seq
 (.ops [
oM 5 0,
oM 6 1,
oP 7 (.build [.int .i64 0, .int .i64 0] [(0, 1, .t 5), (1, 1, .t 6)]),
oP 8 (.build [.int .i64 0, .int .i64 0] [(0, 2, .t 7)]),
oT 4 8 2])
 .ret))
def F490 : AFunc :=
 .fn 26 [.cell 6 (some 2)]
 (.seq
 (.ops [
oP 3 (.box (.t 0)),
oP 5 (.box (.t 2)),
oP 6 (.alloc [.int .i64 0, .int .i64 0])])
 (.seq
 (.ops [
oF 7 3 0,
oF 8 7 0,
oL 9 8,
oM 10 1,
oF 11 5 0,
oF 12 11 0,
oL 13 12,
oB 14 .mul 10 13,
oB 15 .add 9 14,
oF 16 3 0,
oF 17 16 1,
oL 18 17,
oM 19 1,
oF 20 5 0,
oF 21 20 1,
oL 22 21,
oB 23 .mul 19 22,
oB 24 .add 18 23,
oA 25 489 [.t 15, .t 24] false,
oT 6 25 2])
 .ret))
def F44 : AFunc :=
 .fn 18 [.tmp 6]
 (.seq
 (.ops [
oP 3 (.box (.t 0)),
oP 4 (.box (.t 1)),
oP 5 (.box (.t 2)),
oP 6 (.move (oK 0))])
 (.seq
 (.seq
 (.ops [
oD 8 3 4,
oA 9 37 [.t 8] false,
oM 7 9])
 (.seq
 (.ops [
oM 10 7,
oC 11 .neq 10 0])
 (.cond (.t 11)
 (.seq
 (.ops [
oM 12 7,
oM 6 12])
 .ret)
 .skip)))
 (.seq
 (.seq
 (.ops [
oD 13 4 2,
oA 14 42 [.t 13, .k (.int .i64 (-20000)), .k (.int .i64 20000)] false,
oP 15 (.not (.t 14))])
 (.cond (.t 15)
 (.seq
 (.ops [
oP 6 (.move (oK 3))])
 .ret)
 .skip))
 (.seq
 (.ops [
oD 16 5 6,
oA 17 13 [.t 16] false,
oM 6 17])
 .ret))))
def F38 : AFunc :=
 .fn 41 [.tmp 4]
 (.seq
 (.ops [
oP 2 (.box (.t 0)),
oP 3 (.box (.t 1)),
oP 4 (.move (oK 0))])
 (.seq
 (.block 0
 (.seq
 (.ops [
oF 6 3 0,
oL 7 6,
oC 8 .lss 7 1,
oM 9 8,
oQ 10 9 false (.fieldAddr (.t 3) 0),
oQ 11 9 false (.load (.t 10) none),
oQ 12 9 false (.bin .gtr (.t 11) (oK 3)),
oP 13 (.pick (.t 9) (.k (.bool true)) (.t 12)),
oM 5 13])
 (.cond (.t 5)
 (.seq
 (.ops [
oP 4 (.move (oK 2))])
 .ret)
 (.seq
 (.ops [
oF 15 3 1,
oL 16 15,
oC 17 .lss 16 0,
oM 18 17,
oQ 19 18 false (.fieldAddr (.t 3) 1),
oQ 20 18 false (.load (.t 19) none),
oQ 21 18 false (.fieldAddr (.t 2) 3),
oQ 22 18 false (.load (.t 21) none),
oQ 23 18 false (.len (.t 22)),
oQ 24 18 false (.bin .geq (.t 20) (.t 23)),
oP 25 (.pick (.t 18) (.k (.bool true)) (.t 24)),
oM 14 25])
 (.cond (.t 14)
 (.seq
 (.ops [
oP 4 (.move (oK 4))])
 .ret)
 (.seq
 (.ops [
oF 27 3 2,
oL 28 27,
oC 29 .lss 28 1,
oM 30 29,
oQ 31 30 false (.fieldAddr (.t 3) 2),
oQ 32 30 false (.load (.t 31) none),
oQ 33 30 false (.bin .gtr (.t 32) (oK 10)),
oP 34 (.pick (.t 30) (.k (.bool true)) (.t 33)),
oM 35 34,
oQ 36 35 false (.fieldAddr (.t 3) 3),
oQ 37 35 false (.load (.t 36) (some 2)),
oQ 38 35 false (.call (.k (.func (.func 42) ⟨[]⟩ ⟨[]⟩)) [.t 37, .k (.int .i64 0), .k (.int .i64 1000000000)] false),
oQ 39 35 false (.not (.t 38)),
oP 40 (.pick (.t 35) (.k (.bool true)) (.t 39)),
oM 26 40])
 (.cond (.t 26)
 (.seq
 (.ops [
oP 4 (.move (oK 3))])
 .ret)
 .skip)))))))
 (.seq
 (.ops [
oP 4 (.move (oK 0))])
 .ret)))
def F45 : AFunc :=
 .fn 246 [.tmp 8]
 (.seq
 (.ops [
oP 4 (.box (.t 0)),
oP 5 (.box (.t 1)),
oP 6 (.box (.t 2)),
oP 8 (.move (.k (.slice none 0 0)))])
 (.seq
 (.ops [
oA 18 61 [] true,
oD 19 4 4,
oD 20 5 2,
oD 21 6 6,
oM 22 3,
oA 23 60 [.t 18, .t 19, .t 20, .t 21, .t 22] true,
oA 24 62 [] true,
oD 25 4 4,
oD 26 5 2,
oD 27 6 6,
oM 28 3,
oA 29 60 [.t 24, .t 25, .t 26, .t 27, .t 28] false,
oM 9 23,
oM 10 29])
 (.seq
 (.ops [
oF 30 4 3,
oL 31 30,
oP 32 (.len (.t 31)),
oP 33 (.makeS (.t 32) (.t 32) 8 64 [.int .i64 0, .int .i64 0, .int .i64 0, .int .i64 0, .int .i64 0, .int .i64 0, .int .i64 0, .int .i64 0]),
oM 11 33])
 (.seq
 (.seq
 (.ops [
oF 34 4 3,
oL 35 34,
oP 36 (.len (.t 35)),
oP 37 (.move (oK 0))])
 (.block 0
 (.loop
 (.seq
 (.ops [
oB 38 .lss 37 36])
 (.seq
 (.cond (.t 38)
 .skip
 (.exit 0))
 (.seq
 (.block 1
 (.seq
 (.ops [
oM 39 37,
oI 40 35 37 2,
oD 41 40 2,
oP 13 (.alloc [.int .i64 0, .int .i64 0]),
oM 12 39,
oT 13 41 2])
 (.seq
 (.ops [
oM 42 11,
oM 43 12,
oI 44 42 43 8,
oM 14 44])
 (.seq
 (.ops [
oM 45 14,
oM 46 10,
oP 47 (.nilCheck (.t 46)),
oF 48 47 16,
oL 49 48,
oM 50 12,
oI 51 49 50 1,
oL 52 51,
oM 53 9,
oP 54 (.nilCheck (.t 53)),
oF 55 54 16,
oL 56 55,
oM 57 12,
oI 58 56 57 1,
oL 59 58,
oP 60 (.build [.int .i64 0, .int .i64 0] [(0, 1, .t 52), (1, 1, .t 59)]),
oP 61 (.nilCheck (.t 45)),
oF 62 61 0,
oT 62 60 2])
 (.seq
 (.ops [
oM 63 14,
oM 64 14,
oF 65 13 0,
oL 66 65,
oF 67 13 1,
oL 68 67,
oP 69 (.nilCheck (.t 63)),
oF 70 69 4,
oF 71 70 0,
⟨none, none, [(.t 71, 1, .t 67, 1)], .store (.t 71) (.t 66) 1⟩,
oP 72 (.nilCheck (.t 64)),
oF 73 72 4,
oF 74 73 1,
oT 74 68 1])
 (.seq
 (.block 2
 (.seq
 (.ops [
oM 76 9,
oM 77 12,
oA 78 63 [.t 76, .t 77] false,
oM 75 78])
 (.cond (.t 75)
 (.seq
 (.ops [
oM 79 9,
oM 80 12,
oA 81 64 [.t 79, .t 80] false,
oM 15 81])
 (.seq
 (.ops [
oM 82 14,
oM 83 14,
oM 84 15,
oF 85 5 0,
oL 86 85,
oM 87 15,
oB 88 .add 86 87,
oP 89 (.nilCheck (.t 82)),
oF 90 89 2,
oF 91 90 0,
⟨none, none, [(.t 91, 1, .t 85, 1)], .store (.t 91) (.t 84) 1⟩,
oP 92 (.nilCheck (.t 83)),
oF 93 92 4,
oF 94 93 0,
oT 94 88 1])
 (.seq
 (.ops [
oM 95 14,
oM 96 15,
oM 97 15,
oB 98 .mul 96 97,
oC 99 .mul 98 981,
oM 100 9,
oM 101 12,
oA 102 66 [.t 100, .t 101] false,
oB 103 .quo 99 102,
oA 104 65 [.t 103] false,
oP 105 (.nilCheck (.t 95)),
oF 106 105 6,
oF 107 106 0,
oT 107 104 1])
 (.ops [
oM 108 14,
oP 109 (.nilCheck (.t 108)),
oF 110 109 4,
oF 111 110 1,
⟨none, none, [], .store (.t 111) (.k (.int .i64 (-1200000))) 1⟩]))))
 (.seq
 (.ops [
oM 113 9,
oP 114 (.nilCheck (.t 113)),
oF 115 114 18,
oL 116 115,
oM 117 12,
oI 118 116 117 1,
oL 119 118,
oC 120 .neq 119 (-1099511627776),
oM 112 120])
 (.cond (.t 112)
 (.seq
 (.ops [
oM 121 14,
oM 122 9,
oP 123 (.nilCheck (.t 122)),
oF 124 123 18,
oL 125 124,
oM 126 12,
oI 127 125 126 1,
oL 128 127,
oP 129 (.nilCheck (.t 121)),
oF 130 129 4,
oF 131 130 0,
oT 131 128 1])
 (.seq
 (.ops [
oM 132 14,
oM 133 14,
oP 134 (.nilCheck (.t 133)),
oF 135 134 4,
oF 136 135 0,
oL 137 136,
oF 138 13 1,
oL 139 138,
oB 140 .sub 137 139,
oP 141 (.nilCheck (.t 132)),
oF 142 141 2,
oF 143 142 0,
oT 143 140 1])
 (.ops [
oM 144 14,
oM 145 14,
oP 146 (.nilCheck (.t 145)),
oF 147 146 2,
oF 148 147 0,
oL 149 148,
oP 150 (.bin .mul (oK 981) (.t 149)),
oA 151 65 [.t 150] false,
oP 152 (.nilCheck (.t 144)),
oF 153 152 6,
oF 154 153 0,
oT 154 151 1])))
 .skip)))))
 (.seq
 (.seq
 (.ops [
oM 155 10,
oM 156 12,
oA 157 63 [.t 155, .t 156] false])
 (.cond (.t 157)
 (.seq
 (.ops [
oM 158 10,
oM 159 12,
oA 160 64 [.t 158, .t 159] false,
oM 16 160])
 (.seq
 (.ops [
oM 161 14,
oM 162 14,
oM 163 16,
oM 164 14,
oP 165 (.nilCheck (.t 164)),
oF 166 165 4,
oF 167 166 1,
oL 168 167,
oF 169 5 1,
oL 170 169,
oM 171 16,
oB 172 .add 170 171,
oP 173 (.max [.t 168, .t 172]),
oP 174 (.nilCheck (.t 161)),
oF 175 174 2,
oF 176 175 1,
⟨none, none, [(.t 176, 1, .t 169, 1)], .store (.t 176) (.t 163) 1⟩,
oP 177 (.nilCheck (.t 162)),
oF 178 177 4,
oF 179 178 1,
oT 179 173 1])
 (.ops [
oM 180 14,
oM 181 16,
oM 182 16,
oB 183 .mul 181 182,
oC 184 .mul 183 981,
oM 185 10,
oM 186 12,
oA 187 66 [.t 185, .t 186] false,
oP 188 (.max [.k (.int .i64 1), .t 187]),
oA 189 68 [.t 184, .t 188] false,
oA 190 67 [.t 189] false,
oP 191 (.nilCheck (.t 180)),
oF 192 191 6,
oF 193 192 1,
oT 193 190 1])))
 .skip))
 (.seq
 (.ops [
oM 194 10,
oP 195 (.nilCheck (.t 194)),
oF 196 195 19,
oL 197 196,
oM 198 12,
oI 199 197 198 1,
oL 200 199,
oM 17 200])
 (.seq
 (.ops [
oM 201 17,
oC 202 .neq 201 (-1099511627776)])
 (.cond (.t 202)
 (.seq
 (.ops [
oM 203 14,
oM 204 14,
oM 205 14,
oP 206 (.nilCheck (.t 205)),
oF 207 206 2,
oF 208 207 1,
oL 209 208,
oM 210 17,
oF 211 13 0,
oL 212 211,
oB 213 .sub 210 212,
oP 214 (.max [.t 209, .t 213]),
oM 215 14,
oP 216 (.nilCheck (.t 215)),
oF 217 216 4,
oF 218 217 1,
oL 219 218,
oM 220 17,
oP 221 (.max [.t 219, .t 220]),
oP 222 (.nilCheck (.t 203)),
oF 223 222 2,
oF 224 223 1,
oT 224 214 1,
oP 225 (.nilCheck (.t 204)),
oF 226 225 4,
oF 227 226 1,
oT 227 221 1])
 (.ops [
oM 228 14,
oM 229 14,
oP 230 (.nilCheck (.t 229)),
oF 231 230 6,
oF 232 231 1,
oL 233 232,
oM 234 17,
oF 235 13 0,
oL 236 235,
oB 237 .sub 234 236,
oP 238 (.bin .mul (oK 981) (.t 237)),
oA 239 67 [.t 238] true,
oP 240 (.max [.t 233, .t 239]),
oP 241 (.nilCheck (.t 228)),
oF 242 241 6,
oF 243 242 1,
oT 243 240 1]))
 .skip))))))))))
 (.ops [
oC 244 .add 37 1,
oM 37 244])))))))
 (.seq
 (.ops [
oM 245 11,
oM 8 245])
 .ret)))))
def F39 : AFunc :=
 .fn 89 [.tmp 4]
 (.seq
 (.ops [
oP 2 (.box (.t 0)),
oP 3 (.box (.t 1)),
oP 4 (.move (.k (.slice none 0 0)))])
 (.seq
 (.ops [
oF 13 3 2,
oL 14 13,
oP 15 (.bin .shl (oK 1) (.t 14)),
oM 5 15,
oP 6 (.move (oK 0))])
 (.seq
 (.ops [
oM 16 5,
oC 17 .quo 16 2,
oM 18 5,
oP 19 (.build [.int .i64 0, .int .i64 0] [(0, 1, .t 17), (1, 1, .t 18)]),
oP 7 (.alloc [.int .i64 0, .int .i64 0]),
oT 7 19 2])
 (.seq
 (.seq
 (.ops [
oF 20 3 0,
oL 21 20])
 (.block 0
 (.seq
 (.ops [
oC 23 .eql 21 1,
oM 22 23])
 (.cond (.t 22)
 (.ops [
oF 24 3 2,
oL 25 24,
oC 26 .quo 25 4,
oM 6 26])
 (.seq
 (.ops [
oC 28 .eql 21 2,
oM 27 28])
 (.cond (.t 27)
 (.ops [
oM 29 5,
oM 30 5,
oP 31 (.bin .mul (oK 2) (.t 30)),
oP 32 (.build [.int .i64 0, .int .i64 0] [(0, 1, .t 29), (1, 1, .t 31)]),
oT 7 32 2])
 (.seq
 (.ops [
oC 34 .eql 21 3,
oM 33 34])
 (.cond (.t 33)
 (.ops [
oP 6 (.move (oK 1))])
 .skip))))))))
 (.seq
 (.ops [
oP 8 (.move (.k (.slice none 0 0)))])
 (.seq
 (.ops [
oF 35 3 1,
oL 36 35,
oF 37 2 0,
oL 38 37,
oB 39 .rem 36 38,
oF 40 3 1,
oL 41 40,
oF 42 2 0,
oL 43 42,
oB 44 .quo 41 43,
oM 9 39,
oM 10 44])
 (.seq
 (.seq
 (.ops [
oM 45 10,
oM 46 6,
oB 47 .sub 45 46,
oP 48 (.max [.k (.int .i64 0), .t 47]),
oM 11 48])
 (.block 1
 (.loop
 (.seq
 (.seq
 (.ops [
oM 49 11,
oF 50 2 1,
oL 51 50,
oC 52 .sub 51 1,
oM 53 10,
oM 54 6,
oB 55 .add 53 54,
oP 56 (.min [.t 52, .t 55]),
oB 57 .leq 49 56])
 (.cond (.t 57)
 .skip
 (.exit 1)))
 (.seq
 (.block 2
 (.seq
 (.ops [
oM 60 9,
oM 61 6,
oB 62 .sub 60 61,
oP 63 (.max [.k (.int .i64 0), .t 62]),
oM 12 63])
 (.block 3
 (.loop
 (.seq
 (.seq
 (.ops [
oM 64 12,
oF 65 2 0,
oL 66 65,
oC 67 .sub 66 1,
oM 68 9,
oM 69 6,
oB 70 .add 68 69,
oP 71 (.min [.t 67, .t 70]),
oB 72 .leq 64 71])
 (.cond (.t 72)
 .skip
 (.exit 3)))
 (.seq
 (.block 4
 (.ops [
oM 75 8,
oM 76 11,
oF 77 2 0,
oL 78 77,
oB 79 .mul 76 78,
oM 80 12,
oB 81 .add 79 80,
oF 82 3 3,
oD 83 82 2,
oD 84 7 2,
oP 85 (.build [.int .i64 0, .int .i64 0, .int .i64 0, .int .i64 0, .int .i64 0] [(0, 1, .t 81), (1, 2, .t 83), (3, 2, .t 84)]),
oP 86 (.slit 1 5 [.int .i64 0, .int .i64 0, .int .i64 0, .int .i64 0, .int .i64 0] [(0, .t 85)]),
oP 87 (.append (.t 75) (.t 86) 5 40),
oM 8 87]))
 (.ops [
oM 73 12,
oC 74 .add 73 1,
oM 12 74])))))))
 (.ops [
oM 58 11,
oC 59 .add 58 1,
oM 11 59]))))))
 (.seq
 (.ops [
oM 88 8,
oM 4 88])
 .ret))))))))
def F492 : AFunc :=
 .fn 101 []
 (.seq
 (.ops [
oF 12 1 3,
oF 13 12 0,
oL 14 13,
oF 15 1 3,
oF 16 15 1,
oL 17 16,
oC 18 .add 17 1,
oP 19 (.slit 2 1 [.int .i64 0] [(0, .t 14), (1, .t 18)]),
oP 5 (.alloc [.slice none 0 0]),
oT 5 19 1])
 (.seq
 (.ops [
oP 20 (.makeFunc 493 [] [.t 1, .t 5]),
oM 6 20])
 (.seq
 (.seq
 (.ops [
oL 21 2,
oP 22 (.len (.t 21)),
oP 23 (.move (oK 0))])
 (.block 0
 (.loop
 (.seq
 (.ops [
oB 24 .lss 23 22])
 (.seq
 (.cond (.t 24)
 .skip
 (.exit 0))
 (.seq
 (.block 1
 (.seq
 (.ops [
oI 25 21 23 23,
oD 26 25 23,
oP 8 (.alloc [.int .i64 0, .int .i64 0, .int .i64 0, .int .i64 0, .int .i64 0, .int .i64 0, .int .i64 0, .int .i64 0, .int .i64 0, .int .i64 0, .int .i64 0, .int .i64 0, .int .i64 0, .int .i64 0, .int .i64 0, .int .i64 0, .int .i64 0, .int .i64 0, .int .i64 0, .int .i64 0, .int .i64 0, .int .i64 0, .int .i64 0]),
oT 8 26 23])
 (.seq
 (.ops [
oL 27 3,
oF 28 8 6,
oF 29 28 0,
oL 30 29,
oI 31 27 30 8,
oF 32 31 0,
oD 33 32 2,
oP 9 (.alloc [.int .i64 0, .int .i64 0]),
oT 9 33 2])
 (.seq
 (.ops [
oM 34 6,
oF 35 8 15,
oF 36 35 1,
oL 37 36,
oF 38 9 0,
oL 39 38,
oB 40 .sub 37 39,
oC 41 .add 40 1,
oP 42 (.call (.t 34) [.t 41] false)])
 (.seq
 (.ops [
oM 43 6,
oF 44 8 15,
oF 45 44 0,
oL 46 45,
oF 47 9 1,
oL 48 47,
oB 49 .sub 46 48,
oP 50 (.call (.t 43) [.t 49] false)])
 (.seq
 (.ops [
oM 51 6,
oF 52 8 15,
oF 53 52 0,
oL 54 53,
oF 55 9 1,
oL 56 55,
oB 57 .sub 54 56,
oC 58 .add 57 1,
oP 59 (.call (.t 51) [.t 58] false)])
 (.seq
 (.ops [
oM 60 6,
oF 61 8 17,
oF 62 61 0,
oL 63 62,
oF 64 9 0,
oL 65 64,
oB 66 .sub 63 65,
oP 67 (.call (.t 60) [.t 66] false)])
 (.ops [
oM 68 6,
oF 69 8 17,
oF 70 69 1,
oL 71 70,
oF 72 9 1,
oL 73 72,
oB 74 .sub 71 73,
oC 75 .add 74 1,
oP 76 (.call (.t 68) [.t 75] false)]))))))))
 (.ops [
oC 77 .add 23 1,
oM 23 77])))))))
 (.seq
 (.ops [
oL 78 5,
oA 79 494 [.t 78] false])
 (.seq
 (.ops [
oL 80 5,
oA 81 495 [.t 80] false,
oT 5 81 1])
 (.seq
 (.ops [
oL 82 5,
oP 83 (.reslice (.t 82) (some (oK 1)) none 1),
oP 84 (.len (.t 83)),
oP 85 (.move (oK 0))])
 (.block 2
 (.loop
 (.seq
 (.ops [
oB 86 .lss 85 84])
 (.seq
 (.cond (.t 86)
 .skip
 (.exit 2))
 (.seq
 (.block 3
 (.seq
 (.ops [
oM 87 85,
oI 88 83 85 1,
oL 89 88,
oM 10 87,
oM 11 89])
 (.seq
 (.ops [
oM 90 0,
oL 91 5,
oM 92 10,
oI 93 91 92 1,
oL 94 93,
oM 95 11,
oC 96 .sub 95 1,
oP 97 (.build [.int .i64 0, .int .i64 0] [(0, 1, .t 94), (1, 1, .t 96)]),
oP 98 (.call (.t 90) [.t 97] false),
oP 99 (.not (.t 98))])
 (.cond (.t 99)
 .ret
 .skip))))
 (.ops [
oC 100 .add 85 1,
oM 85 100]))))))))))))
def F493 : AFunc :=
 .fn 20 []
 (.seq
 (.ops [
oM 4 0,
oF 5 1 3,
oF 6 5 0,
oL 7 6,
oB 8 .gtr 4 7,
oM 9 8,
oN 10 9 true 0,
oQ 11 9 true (.fieldAddr (.t 1) 3),
oQ 12 9 true (.fieldAddr (.t 11) 1),
oQ 13 9 true (.load (.t 12) none),
oQ 14 9 true (.bin .leq (.t 10) (.t 13)),
oP 15 (.pick (.t 9) (.t 14) (.k (.bool false)))])
 (.cond (.t 15)
 (.ops [
oL 16 2,
oM 17 0,
oP 18 (.slit 1 1 [.int .i64 0] [(0, .t 17)]),
oP 19 (.append (.t 16) (.t 18) 1 8),
oT 2 19 1])
 .skip))
def F494 : AFunc :=
 .fn 11 []
 (.seq
 (.ops [
oM 3 0,
oP 4 (.len (.t 3)),
oM 2 4])
 (.ops [
oM 5 0,
oM 6 2,
oM 7 2,
oP 8 (.toInt .u64 (.t 7)),
oA 9 209 [.t 8] false,
oA 10 504 [.t 5, .k (.int .i64 0), .t 6, .t 9] false]))
def F495 : AFunc :=
 .fn 61 [.tmp 2]
 (.seq
 (.ops [
oP 2 (.move (.k (.slice none 0 0)))])
 (.seq
 (.seq
 (.ops [
oM 6 0,
oP 7 (.len (.t 6)),
oC 8 .lss 7 2])
 (.cond (.t 8)
 (.seq
 (.ops [
oM 9 0,
oM 2 9])
 .ret)
 .skip))
 (.seq
 (.seq
 (.ops [
oP 3 (.move (oK 1))])
 (.block 0
 (.loop
 (.seq
 (.seq
 (.ops [
oM 10 3,
oM 11 0,
oP 12 (.len (.t 11)),
oB 13 .lss 10 12])
 (.cond (.t 13)
 .skip
 (.exit 0)))
 (.seq
 (.block 1
 (.seq
 (.ops [
oM 16 0,
oM 17 3,
oI 18 16 17 1,
oL 19 18,
oM 20 0,
oM 21 3,
oC 22 .sub 21 1,
oI 23 20 22 1,
oL 24 23,
oB 25 .eql 19 24])
 (.cond (.t 25)
 (.seq
 (.ops [
oM 26 0,
oM 27 3,
oP 28 (.reslice (.t 26) (some (.t 27)) none 1),
oM 4 28])
 (.seq
 (.seq
 (.ops [
oP 5 (.move (oK 1))])
 (.block 2
 (.loop
 (.seq
 (.seq
 (.ops [
oM 29 5,
oM 30 4,
oP 31 (.len (.t 30)),
oB 32 .lss 29 31])
 (.cond (.t 32)
 .skip
 (.exit 2)))
 (.seq
 (.block 3
 (.seq
 (.ops [
oM 35 4,
oM 36 5,
oI 37 35 36 1,
oL 38 37,
oM 39 4,
oM 40 5,
oC 41 .sub 40 1,
oI 42 39 41 1,
oL 43 42,
oB 44 .neq 38 43])
 (.cond (.t 44)
 (.seq
 (.ops [
oM 45 0,
oM 46 3,
oM 47 4,
oM 48 5,
oI 49 47 48 1,
oL 50 49,
oI 51 45 46 1,
oT 51 50 1])
 (.ops [
oM 52 3,
oC 53 .add 52 1,
oM 3 53]))
 .skip)))
 (.ops [
oM 33 5,
oC 34 .add 33 1,
oM 5 34]))))))
 (.seq
 (.ops [
oM 54 0,
oM 55 3,
oP 56 (.reslice (.t 54) (some (.t 55)) none 1),
⟨none, none, [], .clearS (.t 56) [.int .i64 0]⟩])
 (.seq
 (.ops [
oM 57 0,
oM 58 3,
oP 59 (.reslice (.t 57) none (some (.t 58)) 1),
oM 2 59])
 .ret))))
 .skip)))
 (.ops [
oM 14 3,
oC 15 .add 14 1,
oM 3 15]))))))
 (.seq
 (.ops [
oM 60 0,
oM 2 60])
 .ret))))
def F55 : AFunc :=
 .fn 15 [.tmp 6]
 (.seq
 (.ops [
oP 6 (.move (.k (.bool false)))])
 (.seq
 (.ops [
oM 7 0,
oM 8 1,
oB 9 .geq 7 8,
oM 10 9,
oN 11 10 true 0,
oN 12 10 true 2,
oQ 13 10 true (.bin .leq (.t 11) (.t 12)),
oP 14 (.pick (.t 10) (.t 13) (.k (.bool false))),
oM 6 14])
 .ret))
def F56 : AFunc :=
 .fn 9 [.tmp 4]
 (.seq
 (.ops [
oP 4 (.move (.k (.bool false)))])
 (.seq
 (.ops [
oM 5 0,
oM 6 1,
oA 7 82 [.t 5, .t 6] false,
oC 8 .geq 7 0,
oM 4 8])
 .ret))
def F57 : AFunc :=
 .fn 6 [.tmp 2]
 (.seq
 (.ops [
oP 1 (.box (.t 0)),
oP 2 (.move (.k (.bool false)))])
 (.seq
 (.ops [
oD 3 1 2,
oA 4 58 [.t 3, .k (.int .i64 1200000)] false,
oP 5 (.not (.t 4)),
oM 2 5])
 .ret))
def F58 : AFunc :=
 .fn 23 [.tmp 4]
 (.seq
 (.ops [
oP 2 (.box (.t 0)),
oP 4 (.move (.k (.bool false)))])
 (.seq
 (.ops [
oF 5 2 0,
oL 6 5,
oF 7 2 1,
oL 8 7,
oB 9 .leq 6 8,
oM 10 9,
oQ 11 10 true (.fieldAddr (.t 2) 0),
oQ 12 10 true (.load (.t 11) none),
oN 13 10 true 1,
oQ 14 10 true (.neg (.t 13)),
oQ 15 10 true (.bin .geq (.t 12) (.t 14)),
oP 16 (.pick (.t 10) (.t 15) (.k (.bool false))),
oM 17 16,
oQ 18 17 true (.fieldAddr (.t 2) 1),
oQ 19 17 true (.load (.t 18) none),
oN 20 17 true 1,
oQ 21 17 true (.bin .leq (.t 19) (.t 20)),
oP 22 (.pick (.t 17) (.t 21) (.k (.bool false))),
oM 4 22])
 .ret))
def F42 : AFunc :=
 .fn 24 [.tmp 6]
 (.seq
 (.ops [
oP 3 (.box (.t 0)),
oP 6 (.move (.k (.bool false)))])
 (.seq
 (.ops [
oF 7 3 0,
oL 8 7,
oF 9 3 1,
oL 10 9,
oB 11 .leq 8 10,
oM 12 11,
oQ 13 12 true (.fieldAddr (.t 3) 0),
oQ 14 12 true (.load (.t 13) none),
oN 15 12 true 1,
oQ 16 12 true (.bin .geq (.t 14) (.t 15)),
oP 17 (.pick (.t 12) (.t 16) (.k (.bool false))),
oM 18 17,
oQ 19 18 true (.fieldAddr (.t 3) 1),
oQ 20 18 true (.load (.t 19) none),
oN 21 18 true 2,
oQ 22 18 true (.bin .leq (.t 20) (.t 21)),
oP 23 (.pick (.t 18) (.t 22) (.k (.bool false))),
oM 6 23])
 .ret))
def F496 : AFunc :=
 .fn 16 [.tmp 4]
 (.seq
 (.ops [
oP 4 (.move (oK 0))])
 (.seq
 (.ops [
oM 6 0,
oM 7 1,
oB 8 .quo 6 7,
oM 5 8])
 (.seq
 (.seq
 (.ops [
oM 9 0,
oM 10 1,
oB 11 .rem 9 10,
oC 12 .lss 11 0])
 (.cond (.t 12)
 (.ops [
oM 13 5,
oC 14 .sub 13 1,
oM 5 14])
 .skip))
 (.seq
 (.ops [
oM 15 5,
oM 4 15])
 .ret))))
def F497 : AFunc :=
 .fn 14 [.tmp 4]
 (.seq
 (.ops [
oP 2 (.box (.t 0)),
oP 3 (.box (.t 1)),
oP 4 (.move (oK 0))])
 (.seq
 (.seq
 (.ops [
oD 6 2 2,
oA 7 488 [.t 6] false,
oM 5 7])
 (.seq
 (.ops [
oM 8 5,
oC 9 .neq 8 0])
 (.cond (.t 9)
 (.seq
 (.ops [
oM 10 5,
oM 4 10])
 .ret)
 .skip)))
 (.seq
 (.seq
 (.ops [
oD 11 3 2,
oA 12 505 [.t 11, .k (.int .i64 0), .k (.int .i64 1000000000)] false,
oP 13 (.not (.t 12))])
 (.cond (.t 13)
 (.seq
 (.ops [
oP 4 (.move (oK 3))])
 .ret)
 .skip))
 (.seq
 (.ops [
oP 4 (.move (oK 0))])
 .ret))))
def body498 : ACode := (.seq
 (.ops [
oB 12 .lss 11 10])
 (.seq
 (.cond (.t 12)
 .skip
 (.exit 0))
 (.seq
 (.block 1
 (.seq
 (.ops [
oI 13 9 11 3,
oD 14 13 3,
oP 7 (.alloc [.int .i64 0, .int .i64 0, .int .i64 0]),
oT 7 14 3])
 (.ops [
oD 15 5 2,
oF 16 7 0,
oL 17 16,
oD 18 7 3,
oD 19 3 2,
oA 20 507 [.t 18, .t 19] true,
oA 21 506 [.t 20] true,
oA 22 490 [.t 15, .t 17, .t 21] false,
oT 5 22 2])))
 (.ops [
oC 23 .add 11 1,
oM 11 23]))))
def F498 : AFunc :=
 .fn 39 [.cell 4 (some 2)]
 (.seq
 (.ops [
oP 2 (.box (.t 0)),
oP 3 (.box (.t 1)),
oP 4 (.alloc [.int .i64 0, .int .i64 0])])
 (.seq
 (.ops [
oP 5 (.alloc [.int .i64 0, .int .i64 0])])
 (.seq
 (.seq
 (.ops [
oF 8 2 1,
oL 9 8,
oP 10 (.len (.t 9)),
oP 11 (.move (oK 0))])
 (.block 0
 (.loop body498)))
 (.seq
 (.ops [
oF 24 2 0,
oL 25 24,
oF 26 5 0,
oF 27 26 0,
oL 28 27,
oA 29 508 [.t 28, .k (.int .i64 65536)] true,
oB 30 .add 25 29,
oF 31 2 0,
oL 32 31,
oF 33 5 0,
oF 34 33 1,
oL 35 34,
oA 36 509 [.t 35, .k (.int .i64 65536)] true,
oB 37 .add 32 36,
oA 38 489 [.t 30, .t 37] false,
oT 4 38 2])
 .ret))))
def F501 : AFunc :=
 .fn 9 [.tmp 4]
 (.seq
 (.ops [
oP 4 (.move (.k (.bool false)))])
 (.seq
 (.ops [
oM 5 0,
oM 6 1,
oA 7 513 [.t 5, .t 6] false,
oC 8 .geq 7 0,
oM 4 8])
 .ret))
def F502 : AFunc :=
 .fn 6 [.tmp 2]
 (.seq
 (.ops [
oP 1 (.box (.t 0)),
oP 2 (.move (.k (.bool false)))])
 (.seq
 (.ops [
oD 3 1 3,
oA 4 503 [.t 3] false,
oP 5 (.not (.t 4)),
oM 2 5])
 .ret))
def F503 : AFunc :=
 .fn 31 [.tmp 2]
 (.seq
 (.ops [
oP 1 (.box (.t 0)),
oP 2 (.move (.k (.bool false)))])
 (.seq
 (.ops [
oF 3 1 0,
oL 4 3,
oC 5 .geq 4 0,
oM 6 5,
oQ 7 6 true (.fieldAddr (.t 1) 0),
oQ 8 6 true (.load (.t 7) none),
oQ 9 6 true (.bin .leq (.t 8) (oK 1000)),
oP 10 (.pick (.t 6) (.t 9) (.k (.bool false))),
oM 11 10,
oQ 12 11 true (.fieldAddr (.t 1) 1),
oQ 13 11 true (.load (.t 12) none),
oQ 14 11 true (.bin .geq (.t 13) (oK 1)),
oP 15 (.pick (.t 11) (.t 14) (.k (.bool false))),
oM 16 15,
oQ 17 16 true (.fieldAddr (.t 1) 1),
oQ 18 16 true (.load (.t 17) none),
oQ 19 16 true (.bin .leq (.t 18) (oK 1000000000)),
oP 20 (.pick (.t 16) (.t 19) (.k (.bool false))),
oM 21 20,
oQ 22 21 true (.fieldAddr (.t 1) 2),
oQ 23 21 true (.load (.t 22) none),
oQ 24 21 true (.bin .geq (.t 23) (oK 0)),
oP 25 (.pick (.t 21) (.t 24) (.k (.bool false))),
oM 26 25,
oQ 27 26 true (.fieldAddr (.t 1) 2),
oQ 28 26 true (.load (.t 27) none),
oQ 29 26 true (.bin .lss (.t 28) (oK 3600)),
oP 30 (.pick (.t 26) (.t 29) (.k (.bool false))),
oM 2 30])
 .ret))
def F60 : AFunc :=
 .fn 39 [.tmp 10]
 (.seq
 (.ops [
oP 5 (.box (.t 0)),
oP 6 (.box (.t 1)),
oP 7 (.box (.t 2)),
oP 8 (.box (.t 3)),
oP 10 (.move (.k (.pointer none)))])
 (.seq
 (.ops [
oF 13 6 3,
oL 14 13,
oP 15 (.len (.t 14)),
oM 11 15])
 (.seq
 (.ops [
oD 16 5 4,
oD 17 6 4,
oD 18 7 2,
oD 19 8 6,
oP 20 (.slit 1 1 [.int .i64 0] [(0, .k (.int .i64 1099511627776))]),
oM 21 11,
oA 22 83 [.t 20, .t 21] true,
oM 23 11,
oP 24 (.makeS (.t 23) (.t 23) 1 8 [.int .i64 0]),
oP 25 (.slit 1 1 [.int .i64 0] [(0, .k (.int .i64 (-1099511627776)))]),
oM 26 11,
oA 27 83 [.t 25, .t 26] true,
oP 28 (.slit 1 1 [.int .i64 0] [(0, .k (.int .i64 (-1099511627776)))]),
oM 29 11,
oA 30 83 [.t 28, .t 29] true,
oP 31 (.build [.nilFunc, .nilFunc, .nilFunc, .bool false, .int .i64 0, .int .i64 0, .int .i64 0, .slice none 0 0, .int .i64 0, .int .i64 0, .int .i64 0, .int .i64 0, .int .i64 0, .int .i64 0, .int .i64 0, .int .i64 0, .slice none 0 0, .slice none 0 0, .slice none 0 0, .slice none 0 0] [(0, 4, .t 16), (4, 4, .t 17), (8, 2, .t 18), (10, 6, .t 19), (16, 1, .t 22), (17, 1, .t 24), (18, 1, .t 27), (19, 1, .t 30)]),
oP 32 (.box (.t 31)),
oM 12 32])
 (.seq
 (.ops [
oM 33 12,
oM 34 4,
oA 35 84 [.t 33, .t 34] false])
 (.seq
 (.ops [
oM 36 12,
oA 37 85 [.t 36] false])
 (.seq
 (.ops [
oM 38 12,
oM 10 38])
 .ret))))))
def F61 : AFunc :=
 .fn 2 [.cell 0 (some 4)]
 (.seq
 (.ops [
oP 0 (.alloc [.nilFunc, .nilFunc, .nilFunc, .bool false])])
 (.seq
 (.ops [
oP 1 (.build [.nilFunc, .nilFunc, .nilFunc, .bool false] [(0, 1, .k (.func (.func 65) ⟨[]⟩ ⟨[]⟩)), (1, 1, .k (.func (.func 86) ⟨[]⟩ ⟨[]⟩)), (2, 1, .k (.func (.func 67) ⟨[]⟩ ⟨[]⟩)), (3, 1, .k (.bool false))]),
oT 0 1 4])
 .ret))
def F62 : AFunc :=
 .fn 2 [.cell 0 (some 4)]
 (.seq
 (.ops [
oP 0 (.alloc [.nilFunc, .nilFunc, .nilFunc, .bool false])])
 (.seq
 (.ops [
oP 1 (.build [.nilFunc, .nilFunc, .nilFunc, .bool false] [(0, 1, .k (.func (.func 67) ⟨[]⟩ ⟨[]⟩)), (1, 1, .k (.func (.func 68) ⟨[]⟩ ⟨[]⟩)), (2, 1, .k (.func (.func 65) ⟨[]⟩ ⟨[]⟩)), (3, 1, .k (.bool true))]),
oT 0 1 4])
 .ret))
def F63 : AFunc :=
 .fn 9 [.tmp 4]
 (.seq
 (.ops [
oP 4 (.move (.k (.bool false)))])
 (.seq
 (.ops [
oM 5 0,
oM 6 1,
oA 7 87 [.t 5, .t 6] false,
oC 8 .geq 7 1,
oM 4 8])
 .ret))
def F64 : AFunc :=
 .fn 36 [.tmp 4]
 (.seq
 (.ops [
oP 4 (.move (oK 0))])
 (.seq
 (.ops [
oM 6 0,
oM 7 1,
oA 8 66 [.t 6, .t 7] false,
oM 5 8])
 (.seq
 (.seq
 (.ops [
oM 9 0,
oP 10 (.nilCheck (.t 9)),
oF 11 10 0,
oF 12 11 3,
oL 13 12])
 (.cond (.t 13)
 (.ops [
oM 14 5,
oP 15 (.max [.k (.int .i64 1), .t 14]),
oM 5 15])
 .skip))
 (.seq
 (.ops [
oM 16 0,
oP 17 (.nilCheck (.t 16)),
oF 18 17 0,
oF 19 18 1,
oL 20 19,
oM 21 0,
oP 22 (.nilCheck (.t 21)),
oF 23 22 17,
oL 24 23,
oM 25 1,
oI 26 24 25 1,
oL 27 26,
oM 28 0,
oP 29 (.nilCheck (.t 28)),
oF 30 29 0,
oF 31 30 2,
oL 32 31,
oM 33 5,
oA 34 88 [.t 32, .t 33] true,
oP 35 (.call (.t 20) [.t 27, .t 34] false),
oM 4 35])
 .ret))))
def F65 : AFunc :=
 .fn 25 [.tmp 2]
 (.seq
 (.ops [
oP 2 (.move (oK 0))])
 (.seq
 (.ops [
oM 4 0,
oP 5 (.toF64 (.t 4)),
oA 6 89 [.t 5] false,
oP 7 (.toInt .i64 (.t 6)),
oM 3 7])
 (.seq
 (.block 0
 (.loop
 (.seq
 (.seq
 (.ops [
oM 8 3,
oM 9 3,
oB 10 .mul 8 9,
oM 11 0,
oB 12 .gtr 10 11])
 (.cond (.t 12)
 .skip
 (.exit 0)))
 (.block 1
 (.ops [
oM 13 3,
oC 14 .sub 13 1,
oM 3 14])))))
 (.seq
 (.block 2
 (.loop
 (.seq
 (.seq
 (.ops [
oM 15 3,
oC 16 .add 15 1,
oM 17 3,
oC 18 .add 17 1,
oB 19 .mul 16 18,
oM 20 0,
oB 21 .leq 19 20])
 (.cond (.t 21)
 .skip
 (.exit 2)))
 (.block 3
 (.ops [
oM 22 3,
oC 23 .add 22 1,
oM 3 23])))))
 (.seq
 (.ops [
oM 24 3,
oM 2 24])
 .ret)))))
def F66 : AFunc :=
 .fn 28 [.tmp 4]
 (.seq
 (.ops [
oP 4 (.move (oK 0))])
 (.seq
 (.ops [
oM 5 0,
oP 6 (.nilCheck (.t 5)),
oF 7 6 0,
oD 8 7 4,
oM 9 0,
oP 10 (.nilCheck (.t 9)),
oF 11 10 8,
oD 12 11 2,
oA 13 90 [.t 8, .t 12] true,
oM 14 0,
oP 15 (.nilCheck (.t 14)),
oF 16 15 0,
oD 17 16 4,
oM 18 0,
oP 19 (.nilCheck (.t 18)),
oF 20 19 4,
oF 21 20 3,
oL 22 21,
oM 23 1,
oI 24 22 23 2,
oD 25 24 2,
oA 26 91 [.t 17, .t 25] false,
oB 27 .sub 13 26,
oM 4 27])
 .ret))
def F67 : AFunc :=
 .fn 9 [.tmp 2]
 (.seq
 (.ops [
oP 2 (.move (oK 0))])
 (.seq
 (.seq
 (.ops [
oM 3 0,
oC 4 .eql 3 0])
 (.cond (.t 4)
 (.seq
 (.ops [
oP 2 (.move (oK 0))])
 .ret)
 .skip))
 (.seq
 (.ops [
oM 5 0,
oC 6 .sub 5 1,
oA 7 65 [.t 6] false,
oC 8 .add 7 1,
oM 2 8])
 .ret)))
def F68 : AFunc :=
 .fn 11 [.tmp 4]
 (.seq
 (.ops [
oP 4 (.move (oK 0))])
 (.seq
 (.ops [
oM 5 0,
oM 6 1,
oB 7 .add 5 6,
oC 8 .sub 7 1,
oM 9 1,
oB 10 .quo 8 9,
oM 4 10])
 .ret))
def F504 : AFunc :=
 .fn 134 []
 (.seq
 (.ops [
oP 8 (.move (.k (.bool true)))])
 (.seq
 (.ops [
oP 9 (.move (.k (.bool true)))])
 (.block 0
 (.loop
 (.block 1
 (.seq
 (.ops [
oM 19 2,
oM 20 1,
oB 21 .sub 19 20,
oM 10 21])
 (.seq
 (.seq
 (.ops [
oM 22 10,
oC 23 .leq 22 12])
 (.cond (.t 23)
 (.seq
 (.ops [
oM 24 0,
oM 25 1,
oM 26 2,
oA 27 514 [.t 24, .t 25, .t 26] false])
 .ret)
 .skip))
 (.seq
 (.seq
 (.ops [
oM 28 3,
oC 29 .eql 28 0])
 (.cond (.t 29)
 (.seq
 (.ops [
oM 30 0,
oM 31 1,
oM 32 2,
oA 33 515 [.t 30, .t 31, .t 32] false])
 .ret)
 .skip))
 (.seq
 (.seq
 (.ops [
oM 34 8,
oP 35 (.not (.t 34))])
 (.cond (.t 35)
 (.seq
 (.ops [
oM 36 0,
oM 37 1,
oM 38 2,
oA 39 516 [.t 36, .t 37, .t 38] false])
 (.ops [
oM 40 3,
oC 41 .sub 40 1,
oM 3 41]))
 .skip))
 (.seq
 (.ops [
oM 43 0,
oM 44 1,
oM 45 2,
oA 46 517 [.t 43, .t 44, .t 45] false,
oM 42 46,
oX 47 42 0,
oX 48 42 1,
oM 11 47,
oM 12 48])
 (.seq
 (.seq
 (.ops [
oM 49 12,
oC 50 .eql 49 2])
 (.cond (.t 50)
 (.seq
 (.ops [
oM 51 0,
oM 52 1,
oM 53 2,
oA 54 518 [.t 51, .t 52, .t 53] false])
 (.seq
 (.ops [
oM 55 2,
oC 56 .sub 55 1,
oM 57 11,
oM 58 1,
oB 59 .sub 57 58,
oB 60 .sub 56 59,
oM 11 60])
 (.ops [
oP 12 (.move (oK 1))])))
 .skip))
 (.seq
 (.seq
 (.ops [
oM 61 8,
oM 62 61,
oN 63 62 true 9,
oP 64 (.pick (.t 62) (.t 63) (.k (.bool false))),
oM 65 64,
oN 66 65 true 12,
oQ 67 65 true (.bin .eql (.t 66) (oK 1)),
oP 68 (.pick (.t 65) (.t 67) (.k (.bool false)))])
 (.cond (.t 68)
 (.seq
 (.ops [
oM 69 0,
oM 70 1,
oM 71 2,
oA 72 519 [.t 69, .t 70, .t 71] false])
 (.cond (.t 72)
 .ret
 .skip))
 .skip))
 (.seq
 (.seq
 (.ops [
oM 73 1,
oC 74 .gtr 73 0,
oM 75 74,
oN 76 75 true 0,
oN 77 75 true 1,
oQ 78 75 true (.bin .sub (.t 77) (oK 1)),
oQ 79 75 true (.idxS (.t 76) (.t 78) 1),
oQ 80 75 true (.load (.t 79) none),
oN 81 75 true 0,
oN 82 75 true 11,
oQ 83 75 true (.idxS (.t 81) (.t 82) 1),
oQ 84 75 true (.load (.t 83) none),
oQ 85 75 true (.call (.k (.func (.func 520) ⟨[]⟩ ⟨[]⟩)) [.t 80, .t 84] false),
oQ 86 75 true (.not (.t 85)),
oP 87 (.pick (.t 75) (.t 86) (.k (.bool false)))])
 (.cond (.t 87)
 (.seq
 (.ops [
oM 88 0,
oM 89 1,
oM 90 2,
oM 91 11,
oA 92 521 [.t 88, .t 89, .t 90, .t 91] false,
oM 13 92])
 (.seq
 (.ops [
oM 93 13,
oM 1 93])
 (.exit 1)))
 .skip))
 (.seq
 (.ops [
oM 95 0,
oM 96 1,
oM 97 2,
oM 98 11,
oA 99 522 [.t 95, .t 96, .t 97, .t 98] false,
oM 94 99,
oX 100 94 0,
oX 101 94 1,
oM 14 100,
oM 15 101])
 (.seq
 (.ops [
oM 102 15,
oM 9 102])
 (.seq
 (.ops [
oM 103 14,
oM 104 1,
oB 105 .sub 103 104,
oM 106 2,
oM 107 14,
oB 108 .sub 106 107,
oM 16 105,
oM 17 108])
 (.seq
 (.ops [
oM 109 10,
oC 110 .quo 109 8,
oM 18 110])
 (.seq
 (.ops [
oM 111 16,
oM 112 17,
oB 113 .lss 111 112])
 (.cond (.t 113)
 (.seq
 (.ops [
oM 114 16,
oM 115 18,
oB 116 .geq 114 115,
oM 8 116])
 (.seq
 (.ops [
oM 117 0,
oM 118 1,
oM 119 14,
oM 120 3,
oA 121 504 [.t 117, .t 118, .t 119, .t 120] false])
 (.ops [
oM 122 14,
oC 123 .add 122 1,
oM 1 123])))
 (.seq
 (.ops [
oM 124 17,
oM 125 18,
oB 126 .geq 124 125,
oM 8 126])
 (.seq
 (.ops [
oM 127 0,
oM 128 14,
oC 129 .add 128 1,
oM 130 2,
oM 131 3,
oA 132 504 [.t 127, .t 129, .t 130, .t 131] false])
 (.ops [
oM 133 14,
oM 2 133]))))))))))))))))))))))
def F209 : AFunc :=
 .fn 8 [.tmp 2]
 (.seq
 (.ops [
oP 2 (.move (oK 0))])
 (.seq
 (.cond (.k (.bool false))
 (.seq
 (.ops [
oM 3 0,
oP 4 (.toInt .u32 (.t 3)),
oA 5 219 [.t 4] false,
oM 2 5])
 .ret)
 .skip)
 (.seq
 (.ops [
oM 6 0,
oA 7 220 [.t 6] false,
oM 2 7])
 .ret)))
def body82 : ACode := (.seq
 (.ops [
oB 9 .lss 8 7])
 (.seq
 (.cond (.t 9)
 .skip
 (.exit 0))
 (.seq
 (.block 1
 (.seq
 (.ops [
oM 10 8,
oM 5 10])
 (.seq
 (.ops [
oM 11 1,
oM 12 0,
oM 13 5,
oI 14 12 13 2,
oD 15 14 2,
oP 16 (.call (.t 11) [.t 15] false)])
 (.cond (.t 16)
 (.seq
 (.ops [
oM 17 5,
oM 4 17])
 .ret)
 .skip))))
 (.ops [
oC 18 .add 8 1,
oM 8 18]))))
def F82 : AFunc :=
 .fn 19 [.tmp 4]
 (.seq
 (.ops [
oP 4 (.move (oK 0))])
 (.seq
 (.seq
 (.ops [
oM 6 0,
oP 7 (.len (.t 6)),
oP 8 (.move (oK 0))])
 (.block 0
 (.loop body82)))
 (.seq
 (.ops [
oP 4 (.move (oK (-1)))])
 .ret)))
def F505 : AFunc :=
 .fn 28 [.tmp 6]
 (.seq
 (.ops [
oP 3 (.box (.t 0)),
oP 6 (.move (.k (.bool false)))])
 (.seq
 (.ops [
oF 7 3 0,
oF 8 7 0,
oL 9 8,
oF 10 3 0,
oF 11 10 1,
oL 12 11,
oB 13 .leq 9 12,
oM 14 13,
oQ 15 14 true (.fieldAddr (.t 3) 0),
oQ 16 14 true (.fieldAddr (.t 15) 0),
oQ 17 14 true (.load (.t 16) none),
oN 18 14 true 1,
oQ 19 14 true (.bin .geq (.t 17) (.t 18)),
oP 20 (.pick (.t 14) (.t 19) (.k (.bool false))),
oM 21 20,
oQ 22 21 true (.fieldAddr (.t 3) 0),
oQ 23 21 true (.fieldAddr (.t 22) 1),
oQ 24 21 true (.load (.t 23) none),
oN 25 21 true 2,
oQ 26 21 true (.bin .leq (.t 24) (.t 25)),
oP 27 (.pick (.t 21) (.t 26) (.k (.bool false))),
oM 6 27])
 .ret))
def F506 : AFunc :=
 .fn 24 [.cell 2 (some 2)]
 (.seq
 (.ops [
oP 1 (.box (.t 0)),
oP 2 (.alloc [.int .i64 0, .int .i64 0])])
 (.seq
 (.ops [
oF 5 1 0,
oF 6 5 0,
oL 7 6,
oA 8 523 [.t 7] true,
oF 9 1 0,
oF 10 9 1,
oL 11 10,
oA 12 523 [.t 11] true,
oA 13 524 [.t 8, .t 12] true,
oP 3 (.alloc [.int .i64 0, .int .i64 0]),
oT 3 13 2])
 (.seq
 (.ops [
oP 14 (.makeFunc 525 [] [.t 1]),
oM 4 14])
 (.seq
 (.seq
 (.ops [
oM 15 4,
oP 16 (.call (.t 15) [.k (.int .i64 0)] false)])
 (.cond (.t 16)
 (.ops [
oF 17 3 0,
oF 18 17 1,
⟨none, none, [], .store (.t 18) (.k (.int .i64 65536)) 1⟩])
 .skip))
 (.seq
 (.seq
 (.ops [
oM 19 4,
oP 20 (.call (.t 19) [.k (.int .i64 1800)] false)])
 (.cond (.t 20)
 (.ops [
oF 21 3 0,
oF 22 21 0,
⟨none, none, [], .store (.t 22) (.k (.int .i64 (-65536))) 1⟩])
 .skip))
 (.seq
 (.ops [
oD 23 3 2,
oT 2 23 2])
 .ret))))))
def F507 : AFunc :=
 .fn 26 [.cell 4 (some 2)]
 (.seq
 (.ops [
oP 2 (.box (.t 0)),
oP 3 (.box (.t 1)),
oP 4 (.alloc [.int .i64 0, .int .i64 0])])
 (.seq
 (.ops [
oF 5 3 0,
oF 6 5 0,
oL 7 6,
oP 8 (.bin .mul (oK 3600) (.t 7)),
oF 9 2 1,
oL 10 9,
oA 11 508 [.t 8, .t 10] true,
oF 12 2 2,
oL 13 12,
oB 14 .sub 11 13,
oF 15 3 0,
oF 16 15 1,
oL 17 16,
oP 18 (.bin .mul (oK 3600) (.t 17)),
oF 19 2 1,
oL 20 19,
oA 21 509 [.t 18, .t 20] true,
oF 22 2 2,
oL 23 22,
oB 24 .sub 21 23,
oA 25 489 [.t 14, .t 24] false,
oT 4 25 2])
 .ret))
def F508 : AFunc :=
 .fn 18 [.tmp 4]
 (.seq
 (.ops [
oP 4 (.move (oK 0))])
 (.seq
 (.ops [
oM 7 0,
oM 8 1,
oB 9 .quo 7 8,
oM 10 0,
oM 11 1,
oB 12 .rem 10 11,
oM 5 9,
oM 6 12])
 (.seq
 (.seq
 (.ops [
oM 13 6,
oC 14 .lss 13 0])
 (.cond (.t 14)
 (.ops [
oM 15 5,
oC 16 .sub 15 1,
oM 5 16])
 .skip))
 (.seq
 (.ops [
oM 17 5,
oM 4 17])
 .ret))))
def F509 : AFunc :=
 .fn 10 [.tmp 4]
 (.seq
 (.ops [
oP 4 (.move (oK 0))])
 (.seq
 (.ops [
oM 5 0,
oP 6 (.neg (.t 5)),
oM 7 1,
oA 8 508 [.t 6, .t 7] false,
oP 9 (.neg (.t 8)),
oM 4 9])
 .ret))
def body513 : ACode := (.seq
 (.ops [
oB 9 .lss 8 7])
 (.seq
 (.cond (.t 9)
 .skip
 (.exit 0))
 (.seq
 (.block 1
 (.seq
 (.ops [
oM 10 8,
oM 5 10])
 (.seq
 (.ops [
oM 11 1,
oM 12 0,
oM 13 5,
oI 14 12 13 3,
oD 15 14 3,
oP 16 (.call (.t 11) [.t 15] false)])
 (.cond (.t 16)
 (.seq
 (.ops [
oM 17 5,
oM 4 17])
 .ret)
 .skip))))
 (.ops [
oC 18 .add 8 1,
oM 8 18]))))
def F513 : AFunc :=
 .fn 19 [.tmp 4]
 (.seq
 (.ops [
oP 4 (.move (oK 0))])
 (.seq
 (.seq
 (.ops [
oM 6 0,
oP 7 (.len (.t 6)),
oP 8 (.move (oK 0))])
 (.block 0
 (.loop body513)))
 (.seq
 (.ops [
oP 4 (.move (oK (-1)))])
 .ret)))
def F83 : AFunc :=
 .fn 48 [.tmp 4]
 (.seq
 (.ops [
oP 4 (.move (.k (.slice none 0 0)))])
 (.seq
 (.seq
 (.ops [
oM 9 1,
oC 10 .lss 9 0])
 (.cond (.t 10)
 (.ops [
oP 11 (.fail),
⟨none, none, [], .fail⟩])
 .skip))
 (.seq
 (.ops [
oM 13 0,
oP 14 (.len (.t 13)),
oP 15 (.toInt .u64 (.t 14)),
oM 16 1,
oP 17 (.toInt .u64 (.t 16)),
oA 18 93 [.t 15, .t 17] false,
oM 12 18,
oX 19 12 0,
oX 20 12 1,
oM 5 19,
oM 6 20])
 (.seq
 (.seq
 (.ops [
oM 21 5,
oP 22 (.bin .gtr (.t 21) (.k (.int .u64 0))),
oM 23 22,
oN 24 23 false 6,
oQ 25 23 false (.bin .gtr (.t 24) (.k (.int .u64 9223372036854775807))),
oP 26 (.pick (.t 23) (.k (.bool true)) (.t 25))])
 (.cond (.t 26)
 (.ops [
oP 27 (.fail),
⟨none, none, [], .fail⟩])
 .skip))
 (.seq
 (.ops [
oM 28 6,
oP 29 (.toInt .i64 (.t 28)),
oP 30 (.makeS (.t 29) (.t 29) 1 8 [.int .i64 0]),
oM 7 30])
 (.seq
 (.ops [
oM 31 7,
oM 32 0,
oP 33 (.copy (.t 31) (.t 32) 1),
oM 8 33])
 (.seq
 (.block 0
 (.loop
 (.seq
 (.seq
 (.ops [
oM 34 8,
oM 35 7,
oP 36 (.len (.t 35)),
oB 37 .lss 34 36])
 (.cond (.t 37)
 .skip
 (.exit 0)))
 (.block 1
 (.ops [
oM 38 8,
oM 39 7,
oM 40 8,
oP 41 (.reslice (.t 39) (some (.t 40)) none 1),
oM 42 7,
oM 43 8,
oP 44 (.reslice (.t 42) none (some (.t 43)) 1),
oP 45 (.copy (.t 41) (.t 44) 1),
oB 46 .add 38 45,
oM 8 46])))))
 (.seq
 (.ops [
oM 47 7,
oM 4 47])
 .ret))))))))
def F84 : AFunc :=
 .fn 89 []
 (.seq
 (.ops [
oP 2 (.box (.t 0))])
 (.seq
 (.seq
 (.ops [
oM 8 1,
oP 9 (.len (.t 8)),
oP 10 (.move (oK 0))])
 (.block 0
 (.loop
 (.seq
 (.ops [
oB 11 .lss 10 9])
 (.seq
 (.cond (.t 11)
 .skip
 (.exit 0))
 (.seq
 (.block 1
 (.seq
 (.ops [
oI 12 8 10 5,
oD 13 12 5,
oP 5 (.alloc [.int .i64 0, .int .i64 0, .int .i64 0, .int .i64 0, .int .i64 0]),
oT 5 13 5])
 (.seq
 (.ops [
oF 14 5 0,
oL 15 14,
oM 6 15])
 (.seq
 (.ops [
oL 16 2,
oM 17 6,
oA 18 63 [.t 16, .t 17] false])
 (.cond (.t 18)
 (.seq
 (.ops [
oL 19 2,
oP 20 (.nilCheck (.t 19)),
oF 21 20 16,
oL 22 21,
oM 23 6,
oL 24 2,
oP 25 (.nilCheck (.t 24)),
oF 26 25 16,
oL 27 26,
oM 28 6,
oI 29 27 28 1,
oL 30 29,
oL 31 2,
oP 32 (.nilCheck (.t 31)),
oF 33 32 0,
oD 34 33 4,
oF 35 5 1,
oD 36 35 2,
oA 37 90 [.t 34, .t 36] true,
oP 38 (.min [.t 30, .t 37]),
oI 39 22 23 1,
oT 39 38 1])
 (.ops [
oL 40 2,
oP 41 (.nilCheck (.t 40)),
oF 42 41 17,
oL 43 42,
oM 44 6,
oL 45 2,
oP 46 (.nilCheck (.t 45)),
oF 47 46 17,
oL 48 47,
oM 49 6,
oI 50 48 49 1,
oL 51 50,
oL 52 2,
oP 53 (.nilCheck (.t 52)),
oF 54 53 0,
oD 55 54 4,
oF 56 5 3,
oD 57 56 2,
oA 58 91 [.t 55, .t 57] true,
oL 59 2,
oP 60 (.nilCheck (.t 59)),
oF 61 60 0,
oF 62 61 0,
oL 63 62,
oL 64 2,
oM 65 6,
oA 66 87 [.t 64, .t 65] true,
oA 67 88 [.t 63, .t 66] true,
oB 68 .mul 58 67,
oP 69 (.max [.t 51, .t 68]),
oI 70 43 44 1,
oT 70 69 1]))
 .skip)))))
 (.ops [
oC 71 .add 10 1,
oM 10 71])))))))
 (.seq
 (.ops [
oP 72 (.makeFunc 94 [] [.t 2]),
oP 7 (.alloc [.nilFunc]),
oT 7 72 1])
 (.seq
 (.ops [
oL 73 2,
oP 74 (.nilCheck (.t 73)),
oF 75 74 16,
oL 76 75,
oL 77 2,
oP 78 (.makeFunc 96 [.t 77] []),
oP 79 (.makeFunc 98 [] [.t 7, .t 2]),
oP 80 (.call (.k (.func (.func 95) ⟨[]⟩ ⟨[]⟩)) [.t 76, .t 78, .k (.func (.func 97) ⟨[]⟩ ⟨[]⟩), .t 79] false)])
 (.ops [
oL 81 2,
oP 82 (.nilCheck (.t 81)),
oF 83 82 17,
oL 84 83,
oL 85 2,
oP 86 (.makeFunc 96 [.t 85] []),
oP 87 (.makeFunc 101 [] [.t 2, .t 7]),
oP 88 (.call (.k (.func (.func 95) ⟨[]⟩ ⟨[]⟩)) [.t 84, .t 86, .k (.func (.func 100) ⟨[]⟩ ⟨[]⟩), .t 87] false)])))))
def F85 : AFunc :=
 .fn 54 []
 (.seq
 (.ops [
oP 1 (.box (.t 0))])
 (.seq
 (.seq
 (.ops [
oL 5 1,
oP 6 (.nilCheck (.t 5)),
oF 7 6 16,
oL 8 7,
oP 9 (.len (.t 8)),
oP 10 (.move (oK 0))])
 (.block 0
 (.loop
 (.seq
 (.ops [
oB 11 .lss 10 9])
 (.seq
 (.cond (.t 11)
 .skip
 (.exit 0))
 (.seq
 (.block 1
 (.seq
 (.ops [
oM 12 10,
oI 13 8 10 1,
oL 14 13,
oM 2 12,
oM 3 14])
 (.seq
 (.ops [
oM 15 3,
oC 16 .lss 15 1099511627776])
 (.cond (.t 16)
 (.ops [
oL 17 1,
oP 18 (.nilCheck (.t 17)),
oF 19 18 18,
oL 20 19,
oM 21 2,
oL 22 1,
oP 23 (.nilCheck (.t 22)),
oF 24 23 0,
oD 25 24 4,
oL 26 1,
oP 27 (.nilCheck (.t 26)),
oF 28 27 8,
oD 29 28 2,
oA 30 91 [.t 25, .t 29] true,
oL 31 1,
oM 32 2,
oA 33 64 [.t 31, .t 32] true,
oB 34 .add 30 33,
oI 35 20 21 1,
oT 35 34 1])
 .skip))))
 (.ops [
oC 36 .add 10 1,
oM 10 36])))))))
 (.seq
 (.ops [
oP 37 (.makeFunc 102 [] [.t 1]),
oP 4 (.alloc [.nilFunc]),
oT 4 37 1])
 (.seq
 (.ops [
oL 38 1,
oP 39 (.nilCheck (.t 38)),
oF 40 39 18,
oL 41 40,
oL 42 1,
oP 43 (.makeFunc 96 [.t 42] []),
oP 44 (.makeFunc 104 [] [.t 4, .t 1]),
oP 45 (.call (.k (.func (.func 95) ⟨[]⟩ ⟨[]⟩)) [.t 41, .t 43, .k (.func (.func 100) ⟨[]⟩ ⟨[]⟩), .t 44] false)])
 (.ops [
oL 46 1,
oP 47 (.nilCheck (.t 46)),
oF 48 47 16,
oL 49 48,
oL 50 1,
oP 51 (.makeFunc 96 [.t 50] []),
oP 52 (.makeFunc 105 [] [.t 4, .t 1]),
oP 53 (.call (.k (.func (.func 95) ⟨[]⟩ ⟨[]⟩)) [.t 49, .t 51, .k (.func (.func 97) ⟨[]⟩ ⟨[]⟩), .t 52] false)])))))
def F86 : AFunc :=
 .fn 8 [.tmp 4]
 (.seq
 (.ops [
oP 4 (.move (oK 0))])
 (.seq
 (.ops [
oM 5 0,
oM 6 1,
oB 7 .quo 5 6,
oM 4 7])
 .ret))
def F87 : AFunc :=
 .fn 28 [.tmp 4]
 (.seq
 (.ops [
oP 4 (.move (oK 0))])
 (.seq
 (.ops [
oM 5 0,
oP 6 (.nilCheck (.t 5)),
oF 7 6 0,
oD 8 7 4,
oM 9 0,
oP 10 (.nilCheck (.t 9)),
oF 11 10 8,
oD 12 11 2,
oA 13 91 [.t 8, .t 12] true,
oM 14 0,
oP 15 (.nilCheck (.t 14)),
oF 16 15 0,
oD 17 16 4,
oM 18 0,
oP 19 (.nilCheck (.t 18)),
oF 20 19 4,
oF 21 20 3,
oL 22 21,
oM 23 1,
oI 24 22 23 2,
oD 25 24 2,
oA 26 90 [.t 17, .t 25] false,
oB 27 .sub 13 26,
oM 4 27])
 .ret))
def F88 : AFunc :=
 .fn 11 [.tmp 4]
 (.seq
 (.ops [
oP 4 (.move (oK 0))])
 (.seq
 (.ops [
oM 5 0,
oM 6 0,
oM 7 1,
oP 8 (.bin .shl (.t 7) (.k (.int .u64 40))),
oP 9 (.call (.t 6) [.t 8] false),
oP 10 (.call (.t 5) [.t 9] false),
oM 4 10])
 .ret))
def F89 : AFunc :=
 .fn 5 [.tmp 2]
 (.seq
 (.ops [
oP 2 (.move (.k (.float .f64 0)))])
 (.seq
 (.ops [
oM 3 0,
oA 4 106 [.t 3] false,
oM 2 4])
 .ret))
def F90 : AFunc :=
 .fn 11 [.tmp 4]
 (.seq
 (.ops [
oP 2 (.box (.t 0)),
oP 3 (.box (.t 1)),
oP 4 (.move (oK 0))])
 (.seq
 (.seq
 (.ops [
oF 5 2 3,
oL 6 5])
 (.cond (.t 6)
 (.seq
 (.ops [
oF 7 3 0,
oL 8 7,
oM 4 8])
 .ret)
 .skip))
 (.seq
 (.ops [
oF 9 3 1,
oL 10 9,
oM 4 10])
 .ret)))
def F91 : AFunc :=
 .fn 11 [.tmp 4]
 (.seq
 (.ops [
oP 2 (.box (.t 0)),
oP 3 (.box (.t 1)),
oP 4 (.move (oK 0))])
 (.seq
 (.seq
 (.ops [
oF 5 2 3,
oL 6 5])
 (.cond (.t 6)
 (.seq
 (.ops [
oF 7 3 1,
oL 8 7,
oM 4 8])
 .ret)
 .skip))
 (.seq
 (.ops [
oF 9 3 0,
oL 10 9,
oM 4 10])
 .ret)))
def F514 : AFunc :=
 .fn 49 []
 (.seq
 (.ops [
oM 8 1,
oC 9 .add 8 1,
oM 6 9])
 (.block 0
 (.loop
 (.seq
 (.seq
 (.ops [
oM 10 6,
oM 11 2,
oB 12 .lss 10 11])
 (.cond (.t 12)
 .skip
 (.exit 0)))
 (.seq
 (.block 1
 (.seq
 (.ops [
oM 15 6,
oM 7 15])
 (.block 2
 (.loop
 (.seq
 (.seq
 (.ops [
oM 16 7,
oM 17 1,
oB 18 .gtr 16 17,
oM 19 18,
oN 20 19 true 0,
oN 21 19 true 7,
oQ 22 19 true (.idxS (.t 20) (.t 21) 1),
oQ 23 19 true (.load (.t 22) none),
oN 24 19 true 0,
oN 25 19 true 7,
oQ 26 19 true (.bin .sub (.t 25) (oK 1)),
oQ 27 19 true (.idxS (.t 24) (.t 26) 1),
oQ 28 19 true (.load (.t 27) none),
oQ 29 19 true (.call (.k (.func (.func 520) ⟨[]⟩ ⟨[]⟩)) [.t 23, .t 28] false),
oP 30 (.pick (.t 19) (.t 29) (.k (.bool false)))])
 (.cond (.t 30)
 .skip
 (.exit 2)))
 (.seq
 (.block 3
 (.ops [
oM 33 0,
oM 34 7,
oM 35 0,
oM 36 7,
oC 37 .sub 36 1,
oM 38 0,
oM 39 7,
oC 40 .sub 39 1,
oI 41 38 40 1,
oL 42 41,
oM 43 0,
oM 44 7,
oI 45 43 44 1,
oL 46 45,
oI 47 33 34 1,
oT 47 42 1,
oI 48 35 37 1,
oT 48 46 1]))
 (.ops [
oM 31 7,
oC 32 .sub 31 1,
oM 7 32])))))))
 (.ops [
oM 13 6,
oC 14 .add 13 1,
oM 6 14]))))))
def F515 : AFunc :=
 .fn 56 []
 (.seq
 (.ops [
oM 11 1,
oM 6 11])
 (.seq
 (.ops [
oP 7 (.move (oK 0))])
 (.seq
 (.ops [
oM 12 2,
oM 13 1,
oB 14 .sub 12 13,
oM 8 14])
 (.seq
 (.seq
 (.ops [
oM 15 8,
oC 16 .sub 15 1,
oC 17 .quo 16 2,
oM 9 17])
 (.block 0
 (.loop
 (.seq
 (.seq
 (.ops [
oM 18 9,
oC 19 .geq 18 0])
 (.cond (.t 19)
 .skip
 (.exit 0)))
 (.seq
 (.block 1
 (.ops [
oM 22 0,
oM 23 9,
oM 24 8,
oM 25 6,
oA 26 528 [.t 22, .t 23, .t 24, .t 25] false]))
 (.ops [
oM 20 9,
oC 21 .sub 20 1,
oM 9 21]))))))
 (.seq
 (.ops [
oM 27 8,
oC 28 .sub 27 1,
oM 10 28])
 (.block 2
 (.loop
 (.seq
 (.seq
 (.ops [
oM 29 10,
oC 30 .geq 29 0])
 (.cond (.t 30)
 .skip
 (.exit 2)))
 (.seq
 (.block 3
 (.seq
 (.ops [
oM 33 0,
oM 34 6,
oM 35 0,
oM 36 6,
oM 37 10,
oB 38 .add 36 37,
oM 39 0,
oM 40 6,
oM 41 10,
oB 42 .add 40 41,
oI 43 39 42 1,
oL 44 43,
oM 45 0,
oM 46 6,
oI 47 45 46 1,
oL 48 47,
oI 49 33 34 1,
oT 49 44 1,
oI 50 35 38 1,
oT 50 48 1])
 (.ops [
oM 51 0,
oM 52 7,
oM 53 10,
oM 54 6,
oA 55 528 [.t 51, .t 52, .t 53, .t 54] false])))
 (.ops [
oM 31 10,
oC 32 .sub 31 1,
oM 10 32]))))))))))
def F516 : AFunc :=
 .fn 65 []
 (.seq
 (.ops [
oM 11 2,
oM 12 1,
oB 13 .sub 11 12,
oM 6 13])
 (.seq
 (.ops [
oM 14 6,
oC 15 .geq 14 8])
 (.cond (.t 15)
 (.seq
 (.ops [
oM 16 6,
oP 17 (.toInt .u64 (.t 16)),
oP 7 (.alloc [.int .u64 0]),
oT 7 17 1])
 (.seq
 (.ops [
oM 18 6,
oA 19 222 [.t 18] false,
oM 8 19])
 (.seq
 (.ops [
oM 20 1,
oM 21 6,
oC 22 .quo 21 4,
oC 23 .mul 22 2,
oB 24 .add 20 23,
oC 25 .sub 24 1,
oM 9 25])
 (.block 0
 (.loop
 (.seq
 (.seq
 (.ops [
oM 26 9,
oM 27 1,
oM 28 6,
oC 29 .quo 28 4,
oC 30 .mul 29 2,
oB 31 .add 27 30,
oC 32 .add 31 1,
oB 33 .leq 26 32])
 (.cond (.t 33)
 .skip
 (.exit 0)))
 (.seq
 (.block 1
 (.seq
 (.ops [
oA 36 223 [.t 7] false,
oM 37 8,
oP 38 (.bin .sub (.t 37) (.k (.int .u64 1))),
oB 39 .and 36 38,
oP 40 (.toInt .i64 (.t 39)),
oM 10 40])
 (.seq
 (.seq
 (.ops [
oM 41 10,
oM 42 6,
oB 43 .geq 41 42])
 (.cond (.t 43)
 (.ops [
oM 44 10,
oM 45 6,
oB 46 .sub 44 45,
oM 10 46])
 .skip))
 (.ops [
oM 47 0,
oM 48 9,
oM 49 0,
oM 50 1,
oM 51 10,
oB 52 .add 50 51,
oM 53 0,
oM 54 1,
oM 55 10,
oB 56 .add 54 55,
oI 57 53 56 1,
oL 58 57,
oM 59 0,
oM 60 9,
oI 61 59 60 1,
oL 62 61,
oI 63 47 48 1,
oT 63 58 1,
oI 64 49 52 1,
oT 64 62 1]))))
 (.ops [
oM 34 9,
oC 35 .add 34 1,
oM 9 35]))))))))
 .skip)))
end Go.Ab.Gauge
