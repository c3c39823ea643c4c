/- The program's functions in abstract form: made by a program of ours. -/
import Derived.Test.YtekljelnebadeaaGreatZ00
set_option linter.unusedSimpArgs false
set_option linter.unusedVariables false
set_option linter.unusedSectionVars false
set_option maxRecDepth 100000
namespace Go.Ab.Gauge
open Go.Ab
def F393 : AFunc :=
 .fn 54 [.tmp 4]
 (.seq
 (.ops [
oP 2 (.box (.t 0)),
oP 3 (.box (.t 1)),
oP 4 (.move (.k (.bool false)))])
 (.seq
 (.seq
 (.ops [
oD 11 2 13,
oA 12 409 [.t 11] false,
oP 13 (.not (.t 12))])
 (.cond (.t 13)
 (.seq
 (.ops [
oA 14 401 [] false,
oM 4 14])
 .ret)
 .skip))
 (.seq
 (.ops [
oD 16 2 13,
oD 17 3 6,
oA 18 407 [.t 16, .t 17] false,
oM 15 18,
oX 19 15 0,
oX 20 15 1,
oX 21 15 2,
oP 5 (.alloc [.int .i64 0, .int .i64 0]),
oP 6 (.alloc [.int .i64 0, .int .i64 0]),
oT 5 19 2,
oT 6 20 2,
oM 7 21])
 (.seq
 (.ops [
oD 23 2 13,
oA 24 411 [.t 23] true,
oD 25 3 6,
oA 26 410 [.t 24, .t 25] true,
oM 22 26,
oX 27 22 0,
oX 28 22 1,
oX 29 22 2,
oP 8 (.alloc [.int .i64 0, .int .i64 0]),
oP 9 (.alloc [.int .i64 0, .int .i64 0]),
oT 8 27 2,
oT 9 28 2,
oM 10 29])
 (.seq
 (.ops [
oD 30 2 13,
oA 31 412 [.t 30] true,
oD 32 2 13,
oA 33 411 [.t 32] false,
oA 34 413 [.t 33] false,
oB 35 .eql 31 34,
oM 36 35,
oQ 37 36 true (.load (.t 5) (some 2)),
oQ 38 36 true (.load (.t 8) (some 2)),
oQ 39 36 true (.eqv false [0, 0] (.t 37) (.t 38)),
oP 40 (.pick (.t 36) (.t 39) (.k (.bool false))),
oM 41 40,
oQ 42 41 true (.load (.t 6) (some 2)),
oQ 43 41 true (.load (.t 9) (some 2)),
oQ 44 41 true (.eqv false [0, 0] (.t 42) (.t 43)),
oP 45 (.pick (.t 41) (.t 44) (.k (.bool false))),
oM 46 45,
oN 47 46 true 7,
oN 48 46 true 10,
oQ 49 46 true (.bin .eql (.t 47) (.t 48)),
oP 50 (.pick (.t 46) (.t 49) (.k (.bool false))),
oM 51 50,
oQ 52 51 true (.call (.k (.func (.func 401) ⟨[]⟩ ⟨[]⟩)) [] false),
oP 53 (.pick (.t 51) (.t 52) (.k (.bool false))),
oM 4 53])
 .ret)))))
def F401 : AFunc :=
 .fn 62 [.tmp 0]
 (.seq
 (.ops [
oP 0 (.move (.k (.bool false)))])
 (.seq
 (.ops [
oA 10 422 [] false,
oA 11 423 [] false,
oA 12 402 [.t 10, .t 11] false,
oM 9 12,
oX 13 9 0,
oX 14 9 1,
oX 15 9 2,
oM 1 13,
oM 2 14,
oM 3 15])
 (.seq
 (.ops [
oA 17 422 [] false,
oA 18 423 [] false,
oA 19 403 [.t 17, .t 18] false,
oM 16 19,
oX 20 16 0,
oX 21 16 1,
oM 4 20,
oM 5 21])
 (.seq
 (.ops [
oA 23 422 [] false,
oA 24 423 [] false,
oA 25 428 [.t 23, .t 24, .k (.int .i64 1)] false,
oM 22 25,
oX 26 22 0,
oX 27 22 1,
oX 28 22 2,
oM 6 26,
oM 7 27,
oM 8 28])
 (.seq
 (.ops [
oM 29 3,
oC 30 .eql 29 0,
oM 31 30,
oN 32 31 true 5,
oQ 33 31 true (.bin .eql (.t 32) (oK 0)),
oP 34 (.pick (.t 31) (.t 33) (.k (.bool false))),
oM 35 34,
oN 36 35 true 8,
oQ 37 35 true (.bin .eql (.t 36) (oK 0)),
oP 38 (.pick (.t 35) (.t 37) (.k (.bool false))),
oM 39 38,
oN 40 39 true 7,
oP 41 (.pick (.t 39) (.t 40) (.k (.bool false))),
oM 42 41,
oN 43 42 true 2,
oQ 44 42 true (.not (.t 43)),
oP 45 (.pick (.t 42) (.t 44) (.k (.bool false))),
oM 46 45,
oN 47 46 true 1,
oQ 48 46 true (.call (.k (.func (.func 424) ⟨[]⟩ ⟨[]⟩)) [.k (.int .i64 4036), .k (.int .i64 4037)] false),
oQ 49 46 true (.slit 1 5 [.int .i64 0, .int .i64 0, .int .i64 0, .int .i64 0, .int .i64 0] [(0, .t 48)]),
oQ 50 46 true (.call (.k (.func (.func 405) ⟨[]⟩ ⟨[]⟩)) [.t 47, .t 49] false),
oP 51 (.pick (.t 46) (.t 50) (.k (.bool false))),
oM 52 51,
oN 53 52 true 4,
oQ 54 52 true (.slit 3 1 [.int .i64 0] [(0, .k (.int .i64 1)), (1, .k (.int .i64 3)), (2, .k (.int .i64 1))]),
oQ 55 52 true (.call (.k (.func (.func 430) ⟨[]⟩ ⟨[]⟩)) [.t 53, .t 54] false),
oP 56 (.pick (.t 52) (.t 55) (.k (.bool false))),
oM 57 56,
oN 58 57 true 6,
oQ 59 57 true (.slit 2 1 [.int .i64 0] [(0, .k (.int .i64 0)), (1, .k (.int .i64 2))]),
oQ 60 57 true (.call (.k (.func (.func 430) ⟨[]⟩ ⟨[]⟩)) [.t 58, .t 59] false),
oP 61 (.pick (.t 57) (.t 60) (.k (.bool false))),
oM 0 61])
 .ret)))))
def F402 : AFunc :=
 .fn 59 [.tmp 4, .tmp 5, .tmp 6]
 (.seq
 (.ops [
oP 2 (.box (.t 0)),
oP 3 (.box (.t 1)),
oP 4 (.move (.k (.slice none 0 0))),
oP 5 (.move (.k (.bool false))),
oP 6 (.move (oK 0))])
 (.seq
 (.ops [
oD 15 2 13,
oD 16 3 4,
oA 17 437 [.t 15, .t 16] false,
oM 14 17,
oX 18 14 0,
oX 19 14 1,
oM 7 18,
oM 8 19])
 (.seq
 (.seq
 (.ops [
oM 20 8,
oC 21 .neq 20 0])
 (.cond (.t 21)
 (.seq
 (.ops [
oM 22 8,
oP 4 (.move (.k (.slice none 0 0))),
oP 5 (.move (.k (.bool false))),
oM 6 22])
 .ret)
 .skip))
 (.seq
 (.ops [
oP 9 (.alloc [.slice none 0 0])])
 (.seq
 (.ops [
oP 10 (.alloc [.bool false]),
oP 11 (.alloc [.int .i64 0]),
⟨none, none, [], .store (.t 10) (.k (.bool false)) 1⟩,
⟨none, none, [], .store (.t 11) (.k (.int .i64 (-1))) 1⟩])
 (.seq
 (.seq
 (.ops [
oM 23 7,
oA 24 438 [.t 23] false])
 (.block 0
 (.rangeF (.t 24) [25]
 (.ops [
oP 12 (.alloc [.int .i64 0, .int .i64 0, .int .i64 0, .slice none 0 0]),
oT 12 25 4])
 (.block 1
 (.seq
 (.ops [
oF 26 12 0,
oL 27 26])
 (.block 2
 (.seq
 (.ops [
oC 43 .eql 27 (-1),
oM 42 43])
 (.cond (.t 42)
 (.ops [
⟨none, none, [], .store (.t 10) (.k (.bool true)) 1⟩])
 (.seq
 (.ops [
oL 45 11,
oB 46 .eql 27 45,
oM 44 46])
 (.cond (.t 44)
 (.ops [
oL 47 9,
oL 48 9,
oP 49 (.len (.t 48)),
oC 50 .sub 49 1,
oF 51 12 1,
oF 52 51 1,
oL 53 52,
oI 54 47 50 5,
oF 55 54 3,
oF 56 55 1,
oT 56 53 1])
 (.seq
 (.ops [
oF 28 12 0,
oL 29 28,
oT 11 29 1])
 (.seq
 (.ops [
oF 30 3 0,
oL 31 30,
oL 32 11,
oI 33 31 32 5,
oD 34 33 5,
oP 13 (.alloc [.int .i64 0, .int .i64 0, .int .i64 0, .int .i64 0, .int .i64 0]),
oT 13 34 5])
 (.seq
 (.ops [
oF 35 12 1,
oD 36 35 2,
oF 37 13 3,
oT 37 36 2])
 (.ops [
oL 38 9,
oD 39 13 5,
oP 40 (.slit 1 5 [.int .i64 0, .int .i64 0, .int .i64 0, .int .i64 0, .int .i64 0] [(0, .t 39)]),
oP 41 (.append (.t 38) (.t 40) 5 40),
oT 9 41 1]))))))))))))))
 (.seq
 (.ops [
oL 57 9,
oL 58 10,
oM 4 57,
oM 5 58,
oP 6 (.move (oK 0))])
 .ret)))))))
def F403 : AFunc :=
 .fn 58 [.tmp 4, .tmp 5]
 (.seq
 (.ops [
oP 2 (.box (.t 0)),
oP 3 (.box (.t 1)),
oP 4 (.move (.k (.slice none 0 0))),
oP 5 (.move (oK 0))])
 (.seq
 (.ops [
oD 15 2 13,
oD 16 3 4,
oA 17 437 [.t 15, .t 16] false,
oM 14 17,
oX 18 14 0,
oX 19 14 1,
oM 6 18,
oM 7 19])
 (.seq
 (.seq
 (.ops [
oM 20 7,
oC 21 .neq 20 0])
 (.cond (.t 21)
 (.seq
 (.ops [
oM 22 7,
oP 4 (.move (.k (.slice none 0 0))),
oM 5 22])
 .ret)
 .skip))
 (.seq
 (.ops [
oM 23 6,
oA 24 438 [.t 23] false,
oA 25 439 [.t 24] false,
oM 8 25])
 (.seq
 (.ops [
oP 9 (.move (.k (.slice none 0 0)))])
 (.seq
 (.seq
 (.ops [
oM 26 6,
oP 27 (.nilCheck (.t 26)),
oF 28 27 4,
oL 29 28,
oP 30 (.len (.t 29)),
oP 31 (.move (oK 0))])
 (.block 0
 (.loop
 (.seq
 (.ops [
oB 32 .lss 31 30])
 (.seq
 (.cond (.t 32)
 .skip
 (.exit 0))
 (.seq
 (.block 1
 (.seq
 (.ops [
oI 33 29 31 1,
oL 34 33,
oP 11 (.alloc [.int .i64 0]),
oT 11 34 1])
 (.seq
 (.ops [
oP 35 (.makeFunc 440 [] [.t 11]),
oM 12 35])
 (.seq
 (.ops [
oP 36 (.makeFunc 441 [] [.t 11]),
oM 13 36])
 (.block 2
 (.seq
 (.ops [
oM 41 8,
oM 42 12,
oA 43 442 [.t 41, .t 42] false,
oP 44 (.not (.t 43)),
oM 40 44])
 (.cond (.t 40)
 (.ops [
oM 45 9,
oP 46 (.slit 1 1 [.int .i64 0] [(0, .k (.int .i64 3))]),
oP 47 (.append (.t 45) (.t 46) 1 8),
oM 9 47])
 (.seq
 (.ops [
oM 49 8,
oM 50 13,
oA 51 442 [.t 49, .t 50] false,
oP 52 (.not (.t 51)),
oM 48 52])
 (.cond (.t 48)
 (.ops [
oM 53 9,
oP 54 (.slit 1 1 [.int .i64 0] [(0, .k (.int .i64 1))]),
oP 55 (.append (.t 53) (.t 54) 1 8),
oM 9 55])
 (.ops [
oM 37 9,
oP 38 (.slit 1 1 [.int .i64 0] [(0, .k (.int .i64 2))]),
oP 39 (.append (.t 37) (.t 38) 1 8),
oM 9 39]))))))))))
 (.ops [
oC 56 .add 31 1,
oM 31 56])))))))
 (.seq
 (.ops [
oM 57 9,
oM 4 57,
oP 5 (.move (oK 0))])
 .ret)))))))
def F405 : AFunc :=
 .fn 26 [.tmp 4]
 (.seq
 (.ops [
oP 4 (.move (.k (.bool false)))])
 (.seq
 (.seq
 (.ops [
oM 6 0,
oP 7 (.len (.t 6)),
oM 8 1,
oP 9 (.len (.t 8)),
oB 10 .neq 7 9])
 (.cond (.t 10)
 (.seq
 (.ops [
oP 4 (.move (.k (.bool false)))])
 .ret)
 .skip))
 (.seq
 (.seq
 (.ops [
oP 5 (.move (oK 0))])
 (.block 0
 (.loop
 (.seq
 (.seq
 (.ops [
oM 11 5,
oM 12 0,
oP 13 (.len (.t 12)),
oB 14 .lss 11 13])
 (.cond (.t 14)
 .skip
 (.exit 0)))
 (.seq
 (.block 1
 (.seq
 (.ops [
oM 17 0,
oM 18 5,
oI 19 17 18 5,
oD 20 19 5,
oM 21 1,
oM 22 5,
oI 23 21 22 5,
oD 24 23 5,
oP 25 (.eqv true [0, 0, 0, 0, 0] (.t 20) (.t 24))])
 (.cond (.t 25)
 (.seq
 (.ops [
oP 4 (.move (.k (.bool false)))])
 .ret)
 .skip)))
 (.ops [
oM 15 5,
oC 16 .add 15 1,
oM 5 16]))))))
 (.seq
 (.ops [
oP 4 (.move (.k (.bool true)))])
 .ret))))
def F407 : AFunc :=
 .fn 30 [.cell 4 (some 2), .cell 5 (some 2), .tmp 6]
 (.seq
 (.ops [
oP 2 (.box (.t 0)),
oP 3 (.box (.t 1)),
oP 4 (.alloc [.int .i64 0, .int .i64 0]),
oP 5 (.alloc [.int .i64 0, .int .i64 0]),
oP 6 (.move (oK 0))])
 (.seq
 (.ops [
oD 10 2 13,
oA 11 444 [.t 10] false,
oM 9 11,
oX 12 9 0,
oX 13 9 1,
oM 7 12,
oM 6 13])
 (.seq
 (.seq
 (.ops [
oM 14 6,
oC 15 .neq 14 0])
 (.cond (.t 15)
 (.seq
 (.ops [
oP 16 (.build [.int .i64 0, .int .i64 0] []),
oP 17 (.build [.int .i64 0, .int .i64 0] []),
oM 18 6,
oT 4 16 2,
oT 5 17 2,
oM 6 18])
 .ret)
 .skip))
 (.seq
 (.ops [
oM 20 7,
oD 21 3 6,
oA 22 445 [.t 20, .t 21] false,
oM 19 22,
oX 23 19 0,
oX 24 19 1,
oP 8 (.alloc [.int .i64 0, .int .i64 0, .int .i64 0, .int .i64 0, .int .i64 0, .int .i64 0, .int .i64 0, .int .i64 0, .int .i64 0, .int .i64 0, .int .i64 0, .int .i64 0, .int .i64 0, .int .i64 0, .int .i64 0, .int .i64 0, .int .i64 0, .int .i64 0, .int .i64 0, .int .i64 0, .int .i64 0, .int .i64 0, .int .i64 0]),
oT 8 23 23,
oM 6 24])
 (.seq
 (.ops [
oF 25 8 15,
oD 26 25 2,
oF 27 8 19,
oD 28 27 2,
oM 29 6,
⟨none, none, [(.t 4, 2, .t 27, 2)], .store (.t 4) (.t 26) 2⟩,
oT 5 28 2,
oM 6 29])
 .ret)))))
def F409 : AFunc :=
 .fn 21 [.tmp 2]
 (.seq
 (.ops [
oP 1 (.box (.t 0)),
oP 2 (.move (.k (.bool false)))])
 (.seq
 (.ops [
oF 3 1 0,
oF 4 3 3,
oL 5 4,
oP 6 (.len (.t 5)),
oC 7 .leq 6 600,
oM 8 7,
oQ 9 8 true (.fieldAddr (.t 1) 4),
oQ 10 8 true (.fieldAddr (.t 9) 1),
oQ 11 8 true (.load (.t 10) none),
oQ 12 8 true (.len (.t 11)),
oQ 13 8 true (.bin .leq (.t 12) (oK 20)),
oP 14 (.pick (.t 8) (.t 13) (.k (.bool false))),
oM 15 14,
oQ 16 15 true (.fieldAddr (.t 1) 12),
oQ 17 15 true (.load (.t 16) none),
oQ 18 15 true (.len (.t 17)),
oQ 19 15 true (.bin .leq (.t 18) (oK 40)),
oP 20 (.pick (.t 15) (.t 19) (.k (.bool false))),
oM 2 20])
 .ret))
def F410 : AFunc :=
 .fn 28 [.cell 4 (some 2), .cell 5 (some 2), .tmp 6]
 (.seq
 (.ops [
oP 2 (.box (.t 0)),
oP 3 (.box (.t 1)),
oP 4 (.alloc [.int .i64 0, .int .i64 0]),
oP 5 (.alloc [.int .i64 0, .int .i64 0]),
oP 6 (.move (oK 0))])
 (.seq
 (.ops [
oD 9 2 13,
oA 10 413 [.t 9] false,
oM 7 10])
 (.seq
 (.seq
 (.ops [
oM 11 7,
oC 12 .eql 11 0])
 (.cond (.t 12)
 (.ops [
oD 13 2 13,
oD 14 3 6,
oA 15 446 [.t 13, .t 14] false,
oM 7 15])
 .skip))
 (.seq
 (.seq
 (.ops [
oM 16 7,
oC 17 .neq 16 0])
 (.cond (.t 17)
 (.seq
 (.ops [
oP 18 (.build [.int .i64 0, .int .i64 0] []),
oP 19 (.build [.int .i64 0, .int .i64 0] []),
oM 20 7,
oT 4 18 2,
oT 5 19 2,
oM 6 20])
 .ret)
 .skip))
 (.seq
 (.ops [
oD 21 2 13,
oD 22 3 6,
oA 23 447 [.t 21, .t 22] false,
oP 8 (.alloc [.int .i64 0, .int .i64 0, .int .i64 0, .int .i64 0, .int .i64 0, .int .i64 0, .int .i64 0, .int .i64 0, .int .i64 0, .int .i64 0, .int .i64 0, .int .i64 0, .int .i64 0, .int .i64 0, .int .i64 0, .int .i64 0]),
oT 8 23 16])
 (.seq
 (.ops [
oF 24 8 10,
oD 25 24 2,
oF 26 8 14,
oD 27 26 2,
⟨none, none, [(.t 4, 2, .t 26, 2)], .store (.t 4) (.t 25) 2⟩,
oT 5 27 2,
oP 6 (.move (oK 0))])
 .ret))))))
def body411b : ACode := (.seq
 (.seq
 (.ops [
oM 36 5,
oF 37 1 12,
oL 38 37,
oP 39 (.len (.t 38)),
oB 40 .lss 36 39])
 (.cond (.t 40)
 .skip
 (.exit 2)))
 (.seq
 (.block 3
 (.ops [
oF 43 3 12,
oL 44 43,
oF 45 1 12,
oL 46 45,
oM 47 5,
oI 48 46 47 9,
oD 49 48 9,
oP 50 (.slit 1 9 [.int .i64 0, .int .i64 0, .int .i64 0, .int .i64 0, .int .i64 0, .int .i64 0, .int .i64 0, .int .i64 0, .int .i64 0] [(0, .t 49)]),
oP 51 (.append (.t 44) (.t 50) 9 72),
oF 52 3 12,
oT 52 51 1]))
 (.ops [
oM 41 5,
oC 42 .add 41 1,
oM 5 42])))
def body411a : ACode := (.seq
 (.seq
 (.ops [
oM 15 4,
oF 16 1 4,
oF 17 16 1,
oL 18 17,
oP 19 (.len (.t 18)),
oB 20 .lss 15 19])
 (.cond (.t 20)
 .skip
 (.exit 0)))
 (.seq
 (.block 1
 (.ops [
oF 23 3 4,
oF 24 23 1,
oL 25 24,
oF 26 1 4,
oF 27 26 1,
oL 28 27,
oM 29 4,
oI 30 28 29 3,
oD 31 30 3,
oP 32 (.slit 1 3 [.int .i64 0, .int .i64 0, .int .i64 0] [(0, .t 31)]),
oP 33 (.append (.t 25) (.t 32) 3 24),
oF 34 3 4,
oF 35 34 1,
oT 35 33 1]))
 (.ops [
oM 21 4,
oC 22 .add 21 1,
oM 4 22])))
def F411 : AFunc :=
 .fn 54 [.cell 2 (some 13)]
 (.seq
 (.ops [
oP 1 (.box (.t 0)),
oP 2 (.alloc [.int .i64 0, .int .i64 0, .int .i64 0, .slice none 0 0, .int .i64 0, .slice none 0 0, .int .i64 0, .int .i64 0, .int .i64 0, .int .i64 0, .int .i64 0, .int .i64 0, .slice none 0 0])])
 (.seq
 (.ops [
oF 6 1 0,
oD 7 6 4,
oF 8 1 6,
oD 9 8 6,
oF 10 1 4,
oF 11 10 0,
oL 12 11,
oP 13 (.build [.int .i64 0, .slice none 0 0] [(0, 1, .t 12)]),
oP 14 (.build [.int .i64 0, .int .i64 0, .int .i64 0, .slice none 0 0, .int .i64 0, .slice none 0 0, .int .i64 0, .int .i64 0, .int .i64 0, .int .i64 0, .int .i64 0, .int .i64 0, .slice none 0 0] [(0, 4, .t 7), (6, 6, .t 9), (4, 2, .t 13)]),
oP 3 (.alloc [.int .i64 0, .int .i64 0, .int .i64 0, .slice none 0 0, .int .i64 0, .slice none 0 0, .int .i64 0, .int .i64 0, .int .i64 0, .int .i64 0, .int .i64 0, .int .i64 0, .slice none 0 0]),
oT 3 14 13])
 (.seq
 (.seq
 (.ops [
oP 4 (.move (oK 0))])
 (.block 0
 (.loop body411a)))
 (.seq
 (.seq
 (.ops [
oP 5 (.move (oK 0))])
 (.block 2
 (.loop body411b)))
 (.seq
 (.ops [
oD 53 3 13,
oT 2 53 13])
 .ret)))))
def F412 : AFunc :=
 .fn 11 [.tmp 2]
 (.seq
 (.ops [
oP 1 (.box (.t 0)),
oP 2 (.move (oK 0))])
 (.seq
 (.ops [
oD 6 1 13,
oA 7 444 [.t 6] false,
oM 5 7,
oX 8 5 0,
oX 9 5 1,
oM 3 8,
oM 4 9])
 (.seq
 (.ops [
oM 10 4,
oM 2 10])
 .ret)))
def body413 : ACode := (.seq
 (.seq
 (.ops [
oM 31 4,
oF 32 1 12,
oL 33 32,
oP 34 (.len (.t 33)),
oB 35 .lss 31 34])
 (.cond (.t 35)
 .skip
 (.exit 0)))
 (.seq
 (.block 1
 (.seq
 (.ops [
oF 38 1 12,
oL 39 38,
oM 40 4,
oI 41 39 40 9,
oD 42 41 9,
oP 5 (.alloc [.int .i64 0, .int .i64 0, .int .i64 0, .int .i64 0, .int .i64 0, .int .i64 0, .int .i64 0, .int .i64 0, .int .i64 0]),
oT 5 42 9])
 (.seq
 (.seq
 (.ops [
oF 43 5 0,
oL 44 43,
oF 45 1 0,
oF 46 45 3,
oL 47 46,
oP 48 (.len (.t 47)),
oC 49 .sub 48 1,
oA 50 451 [.t 44, .k (.int .i64 0), .t 49] false,
oP 51 (.not (.t 50))])
 (.cond (.t 51)
 (.seq
 (.ops [
oP 2 (.move (oK 4))])
 .ret)
 .skip))
 (.seq
 (.seq
 (.ops [
oD 52 1 13,
oA 53 450 [.t 52] true,
oP 54 (.field (.t 53) 0 none),
oF 55 1 0,
oF 56 55 3,
oL 57 56,
oF 58 5 0,
oL 59 58,
oI 60 57 59 2,
oF 61 60 1,
oL 62 61,
oB 63 .sub 54 62,
oC 64 .lss 63 1])
 (.cond (.t 64)
 (.seq
 (.ops [
oP 2 (.move (oK 19))])
 .ret)
 .skip))
 (.seq
 (.ops [
oF 65 5 1,
oD 66 65 2,
oA 67 449 [.t 66, .k (.int .i64 (-100000000)), .k (.int .i64 100000000)] false,
oP 68 (.not (.t 67)),
oM 69 68,
oQ 70 69 false (.fieldAddr (.t 5) 3),
oQ 71 69 false (.load (.t 70) (some 2)),
oQ 72 69 false (.call (.k (.func (.func 449) ⟨[]⟩ ⟨[]⟩)) [.t 71, .k (.int .i64 (-10000)), .k (.int .i64 10000)] false),
oQ 73 69 false (.not (.t 72)),
oP 74 (.pick (.t 69) (.k (.bool true)) (.t 73)),
oM 75 74,
oQ 76 75 false (.fieldAddr (.t 5) 5),
oQ 77 75 false (.load (.t 76) (some 2)),
oQ 78 75 false (.call (.k (.func (.func 449) ⟨[]⟩ ⟨[]⟩)) [.t 77, .k (.int .i64 (-1000)), .k (.int .i64 1000)] false),
oQ 79 75 false (.not (.t 78)),
oP 80 (.pick (.t 75) (.k (.bool true)) (.t 79)),
oM 81 80,
oQ 82 81 false (.fieldAddr (.t 5) 7),
oQ 83 81 false (.load (.t 82) none),
oQ 84 81 false (.call (.k (.func (.func 451) ⟨[]⟩ ⟨[]⟩)) [.t 83, .k (.int .i64 0), .k (.int .i64 1000000000)] false),
oQ 85 81 false (.not (.t 84)),
oP 86 (.pick (.t 81) (.k (.bool true)) (.t 85)),
oM 87 86,
oQ 88 87 false (.fieldAddr (.t 5) 8),
oQ 89 87 false (.load (.t 88) none),
oQ 90 87 false (.call (.k (.func (.func 451) ⟨[]⟩ ⟨[]⟩)) [.t 89, .k (.int .i64 0), .k (.int .i64 5000)] false),
oQ 91 87 false (.not (.t 90)),
oP 92 (.pick (.t 87) (.k (.bool true)) (.t 91))])
 (.cond (.t 92)
 (.seq
 (.ops [
oP 2 (.move (oK 3))])
 .ret)
 .skip))))))
 (.ops [
oM 36 4,
oC 37 .add 36 1,
oM 4 37])))
def F413 : AFunc :=
 .fn 93 [.tmp 2]
 (.seq
 (.ops [
oP 1 (.box (.t 0)),
oP 2 (.move (oK 0))])
 (.seq
 (.ops [
oF 6 1 0,
oD 7 6 4,
oA 8 40 [.t 7] false,
oM 3 8])
 (.seq
 (.seq
 (.ops [
oM 9 3,
oC 10 .eql 9 0])
 (.cond (.t 10)
 (.ops [
oF 11 1 4,
oD 12 11 2,
oA 13 448 [.t 12] false,
oM 3 13])
 .skip))
 (.seq
 (.seq
 (.ops [
oM 14 3,
oC 15 .neq 14 0])
 (.cond (.t 15)
 (.seq
 (.ops [
oM 16 3,
oM 2 16])
 .ret)
 .skip))
 (.seq
 (.seq
 (.ops [
oD 17 1 13,
oA 18 450 [.t 17] false,
oA 19 449 [.t 18, .k (.int .i64 (-20000)), .k (.int .i64 20000)] false,
oP 20 (.not (.t 19))])
 (.cond (.t 20)
 (.seq
 (.ops [
oP 2 (.move (oK 3))])
 .ret)
 .skip))
 (.seq
 (.ops [
oF 21 1 6,
oD 22 21 6,
oA 23 15 [.t 22] false,
oM 3 23])
 (.seq
 (.seq
 (.ops [
oM 24 3,
oC 25 .neq 24 0])
 (.cond (.t 25)
 (.seq
 (.ops [
oM 26 3,
oM 2 26])
 .ret)
 .skip))
 (.seq
 (.seq
 (.ops [
oF 27 1 12,
oL 28 27,
oP 29 (.len (.t 28)),
oC 30 .gtr 29 32])
 (.cond (.t 30)
 (.seq
 (.ops [
oP 2 (.move (oK 9))])
 .ret)
 .skip))
 (.seq
 (.seq
 (.ops [
oP 4 (.move (oK 0))])
 (.block 0
 (.loop body413)))
 (.seq
 (.ops [
oP 2 (.move (oK 0))])
 .ret))))))))))
def F418 : AFunc :=
 .fn 19 [.cell 10 (some 6)]
 (.seq
 (.ops [
oP 10 (.alloc [.int .i64 0, .int .i64 0, .int .i64 0, .int .i64 0, .int .i64 0, .int .i64 0])])
 (.seq
 (.ops [
oM 11 0,
oM 12 1,
oM 13 2,
oM 14 3,
oP 15 (.build [.int .i64 0, .int .i64 0] [(0, 1, .t 13), (1, 1, .t 14)]),
oM 16 4,
oA 17 456 [.t 16] false,
oP 18 (.build [.int .i64 0, .int .i64 0, .int .i64 0, .int .i64 0, .int .i64 0, .int .i64 0] [(0, 1, .t 11), (1, 1, .t 12), (2, 2, .t 15), (4, 2, .t 17)]),
oT 10 18 6])
 .ret))
def F422 : AFunc :=
 .fn 15 [.cell 0 (some 13)]
 (.seq
 (.ops [
oP 0 (.alloc [.int .i64 0, .int .i64 0, .int .i64 0, .slice none 0 0, .int .i64 0, .slice none 0 0, .int .i64 0, .int .i64 0, .int .i64 0, .int .i64 0, .int .i64 0, .int .i64 0, .slice none 0 0])])
 (.seq
 (.ops [
oA 1 456 [.k (.int .i64 (-40000))] false,
oA 2 456 [.k (.int .i64 (-40000))] false,
oA 3 456 [.k (.int .i64 (-1000))] false,
oA 4 456 [.k (.int .i64 300)] false,
oP 5 (.slit 4 2 [.int .i64 0, .int .i64 0] [(0, .t 1), (1, .t 2), (2, .t 3), (3, .t 4)]),
oP 6 (.build [.int .i64 0, .int .i64 0, .int .i64 0, .slice none 0 0] [(0, 1, .k (.int .i64 4)), (1, 1, .k (.int .i64 1)), (2, 1, .k (.int .i64 1000)), (3, 1, .t 5)]),
oA 7 456 [.k (.int .i64 1024)] false,
oA 8 456 [.k (.int .i64 100)] false,
oA 9 456 [.k (.int .i64 10)] false,
oP 10 (.build [.int .i64 0, .int .i64 0, .int .i64 0, .int .i64 0, .int .i64 0, .int .i64 0] [(0, 2, .t 7), (2, 2, .t 8), (4, 2, .t 9)]),
oP 11 (.build [.int .i64 0, .int .i64 0, .int .i64 0, .int .i64 0, .int .i64 0, .int .i64 0, .int .i64 0, .int .i64 0, .int .i64 0] [(0, 1, .k (.int .i64 1)), (8, 1, .k (.int .i64 20))]),
oP 12 (.build [.int .i64 0, .int .i64 0, .int .i64 0, .int .i64 0, .int .i64 0, .int .i64 0, .int .i64 0, .int .i64 0, .int .i64 0] [(0, 1, .k (.int .i64 2)), (8, 1, .k (.int .i64 20))]),
oP 13 (.slit 2 9 [.int .i64 0, .int .i64 0, .int .i64 0, .int .i64 0, .int .i64 0, .int .i64 0, .int .i64 0, .int .i64 0, .int .i64 0] [(0, .t 11), (1, .t 12)]),
oP 14 (.build [.int .i64 0, .int .i64 0, .int .i64 0, .slice none 0 0, .int .i64 0, .slice none 0 0, .int .i64 0, .int .i64 0, .int .i64 0, .int .i64 0, .int .i64 0, .int .i64 0, .slice none 0 0] [(0, 4, .t 6), (6, 6, .t 10), (12, 1, .t 13)]),
oT 0 14 13])
 .ret))
def F423 : AFunc :=
 .fn 8 [.cell 0 (some 4)]
 (.seq
 (.ops [
oP 0 (.alloc [.slice none 0 0, .bool false, .slice none 0 0, .int .i64 0])])
 (.seq
 (.ops [
oA 1 424 [.k (.int .i64 0), .k (.int .i64 100000)] false,
oP 2 (.slit 1 5 [.int .i64 0, .int .i64 0, .int .i64 0, .int .i64 0, .int .i64 0] [(0, .t 1)]),
oA 3 418 [.k (.int .i64 3), .k (.int .i64 0), .k (.int .i64 20000), .k (.int .i64 20000), .k (.int .i64 0)] false,
oA 4 418 [.k (.int .i64 3), .k (.int .i64 1), .k (.int .i64 200000), .k (.int .i64 200000), .k (.int .i64 0)] false,
oA 5 418 [.k (.int .i64 3), .k (.int .i64 1), .k (.int .i64 120963), .k (.int .i64 120963), .k (.int .i64 0)] false,
oP 6 (.slit 3 6 [.int .i64 0, .int .i64 0, .int .i64 0, .int .i64 0, .int .i64 0, .int .i64 0] [(0, .t 3), (1, .t 4), (2, .t 5)]),
oP 7 (.build [.slice none 0 0, .bool false, .slice none 0 0, .int .i64 0] [(0, 1, .t 2), (2, 1, .t 6), (3, 1, .k (.int .i64 1))]),
oT 0 7 4])
 .ret))
def F424 : AFunc :=
 .fn 9 [.cell 4 (some 5)]
 (.seq
 (.ops [
oP 4 (.alloc [.int .i64 0, .int .i64 0, .int .i64 0, .int .i64 0, .int .i64 0])])
 (.seq
 (.ops [
oM 5 0,
oM 6 1,
oP 7 (.build [.int .i64 0, .int .i64 0] [(0, 1, .t 5), (1, 1, .t 6)]),
oP 8 (.build [.int .i64 0, .int .i64 0, .int .i64 0, .int .i64 0, .int .i64 0] [(0, 1, .k (.int .i64 2)), (2, 1, .k (.int .i64 7)), (3, 2, .t 7)]),
oT 4 8 5])
 .ret))
def F428 : AFunc :=
 .fn 39 [.tmp 6, .tmp 7, .tmp 8]
 (.seq
 (.ops [
oP 3 (.box (.t 0)),
oP 4 (.box (.t 1)),
oP 5 (.box (.t 2)),
oP 6 (.move (.k (.slice none 0 0))),
oP 7 (.move (.k (.bool false))),
oP 8 (.move (oK 0))])
 (.seq
 (.ops [
oD 13 3 13,
oD 14 4 4,
oL 15 5,
oA 16 462 [.t 13, .t 14, .t 15] false,
oM 12 16,
oX 17 12 0,
oX 18 12 1,
oP 9 (.alloc [.pointer none]),
oT 9 17 1,
oM 10 18])
 (.seq
 (.seq
 (.ops [
oM 19 10,
oC 20 .neq 19 0])
 (.cond (.t 20)
 (.seq
 (.ops [
oM 21 10,
oP 6 (.move (.k (.slice none 0 0))),
oP 7 (.move (.k (.bool false))),
oM 8 21])
 .ret)
 .skip))
 (.seq
 (.ops [
oL 22 9,
oP 23 (.nilCheck (.t 22)),
oF 24 23 4,
oL 25 24,
oA 26 174 [.t 25] true,
oL 27 5,
oL 28 5,
oC 29 .add 28 1,
oA 30 463 [.t 26, .t 27, .t 29] false,
oM 11 30])
 (.seq
 (.seq
 (.ops [
oL 31 9,
oL 32 5,
oM 33 11,
oA 34 464 [.t 31, .t 32, .t 33] false,
oP 35 (.not (.t 34))])
 (.cond (.t 35)
 (.seq
 (.ops [
oP 6 (.move (.k (.slice none 0 0))),
oP 7 (.move (.k (.bool false))),
oP 8 (.move (oK 0))])
 .ret)
 .skip))
 (.seq
 (.ops [
oM 36 11,
oP 37 (.makeFunc 466 [] [.t 9, .t 5]),
oA 38 465 [.t 36, .t 37] false,
oM 6 38,
oP 7 (.move (.k (.bool true))),
oP 8 (.move (oK 0))])
 .ret))))))
def F430 : AFunc :=
 .fn 26 [.tmp 4]
 (.seq
 (.ops [
oP 4 (.move (.k (.bool false)))])
 (.seq
 (.seq
 (.ops [
oM 6 0,
oP 7 (.len (.t 6)),
oM 8 1,
oP 9 (.len (.t 8)),
oB 10 .neq 7 9])
 (.cond (.t 10)
 (.seq
 (.ops [
oP 4 (.move (.k (.bool false)))])
 .ret)
 .skip))
 (.seq
 (.seq
 (.ops [
oP 5 (.move (oK 0))])
 (.block 0
 (.loop
 (.seq
 (.seq
 (.ops [
oM 11 5,
oM 12 0,
oP 13 (.len (.t 12)),
oB 14 .lss 11 13])
 (.cond (.t 14)
 .skip
 (.exit 0)))
 (.seq
 (.block 1
 (.seq
 (.ops [
oM 17 0,
oM 18 5,
oI 19 17 18 1,
oL 20 19,
oM 21 1,
oM 22 5,
oI 23 21 22 1,
oL 24 23,
oB 25 .neq 20 24])
 (.cond (.t 25)
 (.seq
 (.ops [
oP 4 (.move (.k (.bool false)))])
 .ret)
 .skip)))
 (.ops [
oM 15 5,
oC 16 .add 15 1,
oM 5 16]))))))
 (.seq
 (.ops [
oP 4 (.move (.k (.bool true)))])
 .ret))))
def F437 : AFunc :=
 .fn 184 [.tmp 4, .tmp 5]
 (.seq
 (.ops [
oP 2 (.box (.t 0)),
oP 3 (.box (.t 1)),
oP 4 (.move (.k (.pointer none))),
oP 5 (.move (oK 0))])
 (.seq
 (.ops [
oD 30 2 13,
oA 31 444 [.t 30] false,
oM 29 31,
oX 32 29 0,
oX 33 29 1,
oM 6 32,
oM 7 33])
 (.seq
 (.seq
 (.ops [
oM 34 7,
oC 35 .neq 34 0])
 (.cond (.t 35)
 (.seq
 (.ops [
oM 36 7,
oP 4 (.move (.k (.pointer none))),
oM 5 36])
 .ret)
 .skip))
 (.seq
 (.seq
 (.ops [
oF 37 3 0,
oL 38 37,
oP 39 (.len (.t 38)),
oC 40 .gtr 39 256])
 (.cond (.t 40)
 (.seq
 (.ops [
oP 4 (.move (.k (.pointer none))),
oP 5 (.move (oK 9))])
 .ret)
 .skip))
 (.seq
 (.seq
 (.ops [
oF 41 3 0,
oL 42 41,
oP 43 (.len (.t 42)),
oP 44 (.move (oK 0))])
 (.block 0
 (.loop
 (.seq
 (.ops [
oB 45 .lss 44 43])
 (.seq
 (.cond (.t 45)
 .skip
 (.exit 0))
 (.seq
 (.block 1
 (.seq
 (.ops [
oI 46 42 44 5,
oD 47 46 5,
oP 9 (.alloc [.int .i64 0, .int .i64 0, .int .i64 0, .int .i64 0, .int .i64 0]),
oT 9 47 5])
 (.seq
 (.ops [
oM 49 6,
oD 50 9 5,
oA 51 457 [.t 49, .t 50] false,
oM 48 51,
oX 52 48 0,
oX 53 48 1,
oM 10 52,
oM 11 53])
 (.seq
 (.ops [
oM 54 11,
oC 55 .neq 54 0])
 (.cond (.t 55)
 (.seq
 (.ops [
oM 56 11,
oP 4 (.move (.k (.pointer none))),
oM 5 56])
 .ret)
 .skip)))))
 (.ops [
oC 57 .add 44 1,
oM 44 57])))))))
 (.seq
 (.seq
 (.ops [
oF 58 3 2,
oL 59 58,
oP 60 (.len (.t 59)),
oC 61 .gtr 60 40])
 (.cond (.t 61)
 (.seq
 (.ops [
oP 4 (.move (.k (.pointer none))),
oP 5 (.move (oK 9))])
 .ret)
 .skip))
 (.seq
 (.ops [
oD 62 3 4,
oP 63 (.build [.slice none 0 0, .bool false, .slice none 0 0, .int .i64 0, .slice none 0 0, .slice none 0 0] [(0, 4, .t 62)]),
oP 64 (.box (.t 63)),
oP 12 (.alloc [.pointer none]),
oT 12 64 1])
 (.seq
 (.ops [
oP 13 (.alloc [.slice none 0 0])])
 (.seq
 (.seq
 (.ops [
oF 65 3 2,
oL 66 65,
oP 67 (.len (.t 66)),
oP 68 (.move (oK 0))])
 (.block 2
 (.loop
 (.seq
 (.ops [
oB 69 .lss 68 67])
 (.seq
 (.cond (.t 69)
 .skip
 (.exit 2))
 (.seq
 (.block 3
 (.seq
 (.ops [
oM 70 68,
oI 71 66 68 6,
oD 72 71 6,
oP 15 (.alloc [.int .i64 0, .int .i64 0, .int .i64 0, .int .i64 0, .int .i64 0, .int .i64 0]),
oM 14 70,
oT 15 72 6])
 (.seq
 (.ops [
oM 74 6,
oD 75 15 6,
oA 76 445 [.t 74, .t 75] false,
oM 73 76,
oX 77 73 0,
oX 78 73 1,
oP 16 (.alloc [.int .i64 0, .int .i64 0, .int .i64 0, .int .i64 0, .int .i64 0, .int .i64 0, .int .i64 0, .int .i64 0, .int .i64 0, .int .i64 0, .int .i64 0, .int .i64 0, .int .i64 0, .int .i64 0, .int .i64 0, .int .i64 0, .int .i64 0, .int .i64 0, .int .i64 0, .int .i64 0, .int .i64 0, .int .i64 0, .int .i64 0]),
oT 16 77 23,
oM 17 78])
 (.seq
 (.seq
 (.ops [
oM 79 17,
oC 80 .neq 79 0])
 (.cond (.t 80)
 (.seq
 (.ops [
oM 81 17,
oP 4 (.move (.k (.pointer none))),
oM 5 81])
 .ret)
 .skip))
 (.ops [
oL 82 12,
oL 83 13,
oD 84 16 23,
oP 85 (.slit 1 23 [.int .i64 0, .int .i64 0, .int .i64 0, .int .i64 0, .int .i64 0, .int .i64 0, .int .i64 0, .int .i64 0, .int .i64 0, .int .i64 0, .int .i64 0, .int .i64 0, .int .i64 0, .int .i64 0, .int .i64 0, .int .i64 0, .int .i64 0, .int .i64 0, .int .i64 0, .int .i64 0, .int .i64 0, .int .i64 0, .int .i64 0] [(0, .t 84)]),
⟨some 86, none, [(.t 83, 0, .t 12, 1)], .append (.t 83) (.t 85) 23 184⟩,
⟨some 87, none, [(.t 83, 0, .t 12, 1)], .load (.t 12) none⟩,
oP 88 (.nilCheck (.t 87)),
oF 89 88 4,
⟨some 90, none, [(.t 83, 0, .t 89, 1)], .load (.t 89) none⟩,
oM 91 14,
oP 92 (.slit 1 1 [.int .i64 0] [(0, .t 91)]),
⟨some 93, none, [(.t 90, 0, .t 12, 1)], .append (.t 90) (.t 92) 1 8⟩,
⟨none, none, [(.t 13, 1, .t 12, 1)], .store (.t 13) (.t 86) 1⟩,
oP 94 (.nilCheck (.t 82)),
oF 95 94 4,
oT 95 93 1])))))
 (.ops [
oC 96 .add 68 1,
oM 68 96])))))))
 (.seq
 (.seq
 (.ops [
oF 97 3 3,
oL 98 97,
oA 99 458 [.t 98, .k (.int .i64 0), .k (.int .i64 8)] false,
oP 100 (.not (.t 99))])
 (.cond (.t 100)
 (.seq
 (.ops [
oP 4 (.move (.k (.pointer none))),
oP 5 (.move (oK 3))])
 .ret)
 .skip))
 (.seq
 (.seq
 (.ops [
oF 101 3 0,
oL 102 101,
oP 103 (.len (.t 102)),
oP 104 (.move (oK 0))])
 (.block 4
 (.loop
 (.seq
 (.ops [
oB 105 .lss 104 103])
 (.seq
 (.cond (.t 105)
 .skip
 (.exit 4))
 (.seq
 (.block 5
 (.seq
 (.ops [
oM 106 104,
oI 107 102 104 5,
oD 108 107 5,
oP 18 (.alloc [.int .i64 0]),
oP 19 (.alloc [.int .i64 0, .int .i64 0, .int .i64 0, .int .i64 0, .int .i64 0]),
oT 18 106 1,
oT 19 108 5])
 (.seq
 (.ops [
oM 110 6,
oD 111 19 5,
oA 112 457 [.t 110, .t 111] false,
oM 109 112,
oX 113 109 0,
oX 114 109 1,
oP 20 (.alloc [.slice none 0 0]),
oT 20 113 1,
oM 21 114])
 (.seq
 (.ops [
oD 115 19 5,
oL 116 20,
oL 117 13,
oA 118 470 [.t 115, .t 116, .t 117] false])
 (.block 6
 (.rangeF (.t 118) [119]
 (.ops [
oP 22 (.alloc [.int .i64 0, .int .i64 0]),
oT 22 119 2])
 (.block 7
 (.seq
 (.ops [
oL 120 18,
oD 121 22 2,
oP 122 (.build [.int .i64 0, .int .i64 0, .int .i64 0, .slice none 0 0] [(0, 1, .t 120), (1, 2, .t 121)]),
oP 23 (.alloc [.int .i64 0, .int .i64 0, .int .i64 0, .slice none 0 0]),
oT 23 122 4])
 (.seq
 (.seq
 (.ops [
oL 123 13,
oP 124 (.len (.t 123)),
oP 125 (.move (oK 0))])
 (.block 8
 (.loop
 (.seq
 (.ops [
oB 126 .lss 125 124])
 (.seq
 (.cond (.t 126)
 .skip
 (.exit 8))
 (.seq
 (.block 9
 (.seq
 (.ops [
oI 127 123 125 23,
oD 128 127 23,
oP 25 (.alloc [.int .i64 0, .int .i64 0, .int .i64 0, .int .i64 0, .int .i64 0, .int .i64 0, .int .i64 0, .int .i64 0, .int .i64 0, .int .i64 0, .int .i64 0, .int .i64 0, .int .i64 0, .int .i64 0, .int .i64 0, .int .i64 0, .int .i64 0, .int .i64 0, .int .i64 0, .int .i64 0, .int .i64 0, .int .i64 0, .int .i64 0]),
oT 25 128 23])
 (.ops [
oF 129 23 3,
oL 130 129,
oD 131 25 23,
oL 132 20,
oF 133 25 6,
oF 134 133 0,
oL 135 134,
oI 136 132 135 8,
oD 137 136 8,
oF 138 22 0,
oL 139 138,
oA 140 459 [.t 131, .t 137, .t 139] true,
oP 141 (.slit 1 1 [.bool false] [(0, .t 140)]),
oP 142 (.append (.t 130) (.t 141) 1 1),
oF 143 23 3,
oT 143 142 1])))
 (.ops [
oC 144 .add 125 1,
oM 125 144])))))))
 (.ops [
oL 145 12,
oL 146 12,
oP 147 (.nilCheck (.t 146)),
oF 148 147 5,
oL 149 148,
oD 150 23 4,
oP 151 (.slit 1 4 [.int .i64 0, .int .i64 0, .int .i64 0, .slice none 0 0] [(0, .t 150)]),
⟨some 152, none, [(.t 149, 0, .t 12, 1)], .append (.t 149) (.t 151) 4 48⟩,
oP 153 (.nilCheck (.t 145)),
oF 154 153 5,
oT 154 152 1]))))))))))
 (.ops [
oC 155 .add 104 1,
oM 104 155])))))))
 (.seq
 (.seq
 (.ops [
oF 156 3 1,
oL 157 156])
 (.cond (.t 157)
 (.seq
 (.ops [
oP 158 (.build [.int .i64 0, .int .i64 0, .int .i64 0, .slice none 0 0] [(0, 1, .k (.int .i64 (-1)))]),
oP 26 (.alloc [.int .i64 0, .int .i64 0, .int .i64 0, .slice none 0 0]),
oT 26 158 4])
 (.seq
 (.seq
 (.ops [
oL 159 13,
oP 160 (.len (.t 159)),
oP 161 (.move (oK 0))])
 (.block 10
 (.loop
 (.seq
 (.ops [
oB 162 .lss 161 160])
 (.seq
 (.cond (.t 162)
 .skip
 (.exit 10))
 (.seq
 (.block 11
 (.seq
 (.ops [
oI 163 159 161 23,
oD 164 163 23,
oP 28 (.alloc [.int .i64 0, .int .i64 0, .int .i64 0, .int .i64 0, .int .i64 0, .int .i64 0, .int .i64 0, .int .i64 0, .int .i64 0, .int .i64 0, .int .i64 0, .int .i64 0, .int .i64 0, .int .i64 0, .int .i64 0, .int .i64 0, .int .i64 0, .int .i64 0, .int .i64 0, .int .i64 0, .int .i64 0, .int .i64 0, .int .i64 0]),
oT 28 164 23])
 (.ops [
oF 165 26 3,
oL 166 165,
oD 167 28 23,
oA 168 471 [.t 167] true,
oP 169 (.slit 1 1 [.bool false] [(0, .t 168)]),
oP 170 (.append (.t 166) (.t 169) 1 1),
oF 171 26 3,
oT 171 170 1])))
 (.ops [
oC 172 .add 161 1,
oM 161 172])))))))
 (.ops [
oL 173 12,
oL 174 12,
oP 175 (.nilCheck (.t 174)),
oF 176 175 5,
oL 177 176,
oD 178 26 4,
oP 179 (.slit 1 4 [.int .i64 0, .int .i64 0, .int .i64 0, .slice none 0 0] [(0, .t 178)]),
⟨some 180, none, [(.t 177, 0, .t 12, 1)], .append (.t 177) (.t 179) 4 48⟩,
oP 181 (.nilCheck (.t 173)),
oF 182 181 5,
oT 182 180 1])))
 .skip))
 (.seq
 (.ops [
oL 183 12,
oM 4 183,
oP 5 (.move (oK 0))])
 .ret)))))))))))))
def F438 : AFunc :=
 .fn 4 [.tmp 2]
 (.seq
 (.ops [
oP 1 (.box (.t 0)),
oP 2 (.move (.k (.nilFunc)))])
 (.seq
 (.ops [
oP 3 (.makeFunc 472 [] [.t 1]),
oM 2 3])
 .ret))
def F439 : AFunc :=
 .fn 5 [.tmp 2]
 (.seq
 (.ops [
oP 2 (.move (.k (.slice none 0 0)))])
 (.seq
 (.ops [
oM 3 0,
oA 4 474 [.k (.slice none 0 0), .t 3] false,
oM 2 4])
 .ret))
def F440 : AFunc :=
 .fn 9 [.tmp 3]
 (.seq
 (.ops [
oP 2 (.box (.t 0)),
oP 3 (.move (.k (.bool false)))])
 (.seq
 (.ops [
oF 4 2 3,
oL 5 4,
oL 6 1,
oI 7 5 6 1,
oL 8 7,
oM 3 8])
 .ret))
def F441 : AFunc :=
 .fn 10 [.tmp 3]
 (.seq
 (.ops [
oP 2 (.box (.t 0)),
oP 3 (.move (.k (.bool false)))])
 (.seq
 (.ops [
oF 4 2 3,
oL 5 4,
oL 6 1,
oI 7 5 6 1,
oL 8 7,
oP 9 (.not (.t 8)),
oM 3 9])
 .ret))
def F442 : AFunc :=
 .fn 9 [.tmp 4]
 (.seq
 (.ops [
oP 4 (.move (.k (.bool false)))])
 (.seq
 (.ops [
oM 5 0,
oM 6 1,
oA 7 475 [.t 5, .t 6] false,
oC 8 .geq 7 0,
oM 4 8])
 .ret))
def body444 : ACode := (.seq
 (.ops [
oB 49 .lss 48 47])
 (.seq
 (.cond (.t 49)
 .skip
 (.exit 0))
 (.seq
 (.block 1
 (.seq
 (.ops [
oI 50 46 48 9,
oD 51 50 9,
oP 10 (.alloc [.int .i64 0, .int .i64 0, .int .i64 0, .int .i64 0, .int .i64 0, .int .i64 0, .int .i64 0, .int .i64 0, .int .i64 0]),
oT 10 51 9])
 (.seq
 (.ops [
oM 52 8,
oD 53 10 9,
oA 54 477 [.t 52, .t 53] false,
oM 11 54])
 (.seq
 (.ops [
oM 55 11,
oC 56 .neq 55 0])
 (.cond (.t 56)
 (.seq
 (.ops [
oM 57 11,
oP 2 (.move (.k (.pointer none))),
oM 3 57])
 .ret)
 .skip)))))
 (.ops [
oC 58 .add 48 1,
oM 48 58]))))
def F444 : AFunc :=
 .fn 60 [.tmp 2, .tmp 3]
 (.seq
 (.ops [
oP 1 (.box (.t 0)),
oP 2 (.move (.k (.pointer none))),
oP 3 (.move (oK 0))])
 (.seq
 (.seq
 (.ops [
oF 12 1 0,
oD 13 12 4,
oA 14 37 [.t 13] false,
oM 4 14])
 (.seq
 (.ops [
oM 15 4,
oC 16 .neq 15 0])
 (.cond (.t 16)
 (.seq
 (.ops [
oM 17 4,
oP 2 (.move (.k (.pointer none))),
oM 3 17])
 .ret)
 .skip)))
 (.seq
 (.ops [
oF 19 1 4,
oD 20 19 2,
oA 21 468 [.t 20] false,
oM 18 21,
oX 22 18 0,
oX 23 18 1,
oP 5 (.alloc [.int .i64 0, .int .i64 0]),
oT 5 22 2,
oM 6 23])
 (.seq
 (.seq
 (.ops [
oM 24 6,
oC 25 .neq 24 0])
 (.cond (.t 25)
 (.seq
 (.ops [
oM 26 6,
oP 2 (.move (.k (.pointer none))),
oM 3 26])
 .ret)
 .skip))
 (.seq
 (.seq
 (.ops [
oD 27 5 2,
oA 28 476 [.t 27, .k (.int .i64 (-20000)), .k (.int .i64 20000)] false,
oP 29 (.not (.t 28))])
 (.cond (.t 29)
 (.seq
 (.ops [
oP 2 (.move (.k (.pointer none))),
oP 3 (.move (oK 3))])
 .ret)
 .skip))
 (.seq
 (.seq
 (.ops [
oF 30 1 6,
oD 31 30 6,
oA 32 13 [.t 31] false,
oM 7 32])
 (.seq
 (.ops [
oM 33 7,
oC 34 .neq 33 0])
 (.cond (.t 34)
 (.seq
 (.ops [
oM 35 7,
oP 2 (.move (.k (.pointer none))),
oM 3 35])
 .ret)
 .skip)))
 (.seq
 (.seq
 (.ops [
oF 36 1 12,
oL 37 36,
oP 38 (.len (.t 37)),
oC 39 .gtr 38 32])
 (.cond (.t 39)
 (.seq
 (.ops [
oP 2 (.move (.k (.pointer none))),
oP 3 (.move (oK 9))])
 .ret)
 .skip))
 (.seq
 (.ops [
oD 40 1 13,
oD 41 5 2,
oP 42 (.makeM),
oP 43 (.build [.int .i64 0, .int .i64 0, .int .i64 0, .slice none 0 0, .int .i64 0, .slice none 0 0, .int .i64 0, .int .i64 0, .int .i64 0, .int .i64 0, .int .i64 0, .int .i64 0, .slice none 0 0, .int .i64 0, .int .i64 0, .map none] [(0, 13, .t 40), (13, 2, .t 41), (15, 1, .t 42)]),
oP 44 (.box (.t 43)),
oM 8 44])
 (.seq
 (.seq
 (.ops [
oF 45 1 12,
oL 46 45,
oP 47 (.len (.t 46)),
oP 48 (.move (oK 0))])
 (.block 0
 (.loop body444)))
 (.seq
 (.ops [
oM 59 8,
oM 2 59,
oP 3 (.move (oK 0))])
 .ret))))))))))
def F445 : AFunc :=
 .fn 132 [.cell 4 (some 23), .tmp 5]
 (.seq
 (.ops [
oP 3 (.box (.t 1)),
oP 4 (.alloc [.int .i64 0, .int .i64 0, .int .i64 0, .int .i64 0, .int .i64 0, .int .i64 0, .int .i64 0, .int .i64 0, .int .i64 0, .int .i64 0, .int .i64 0, .int .i64 0, .int .i64 0, .int .i64 0, .int .i64 0, .int .i64 0, .int .i64 0, .int .i64 0, .int .i64 0, .int .i64 0, .int .i64 0, .int .i64 0, .int .i64 0]),
oP 5 (.move (oK 0))])
 (.seq
 (.block 0
 (.seq
 (.ops [
oF 12 3 0,
oL 13 12,
oA 14 458 [.t 13, .k (.int .i64 1), .k (.int .i64 4)] false,
oP 15 (.not (.t 14)),
oM 11 15])
 (.cond (.t 11)
 (.seq
 (.ops [
oP 16 (.build [.int .i64 0, .int .i64 0, .int .i64 0, .int .i64 0, .int .i64 0, .int .i64 0, .int .i64 0, .int .i64 0, .int .i64 0, .int .i64 0, .int .i64 0, .int .i64 0, .int .i64 0, .int .i64 0, .int .i64 0, .int .i64 0, .int .i64 0, .int .i64 0, .int .i64 0, .int .i64 0, .int .i64 0, .int .i64 0, .int .i64 0] []),
oT 4 16 23,
oP 5 (.move (oK 2))])
 .ret)
 (.seq
 (.ops [
oF 18 3 1,
oL 19 18,
oM 20 0,
oP 21 (.nilCheck (.t 20)),
oF 22 21 0,
oF 23 22 12,
oL 24 23,
oP 25 (.len (.t 24)),
oC 26 .sub 25 1,
oA 27 458 [.t 19, .k (.int .i64 0), .t 26] false,
oP 28 (.not (.t 27)),
oM 17 28])
 (.cond (.t 17)
 (.seq
 (.ops [
oP 29 (.build [.int .i64 0, .int .i64 0, .int .i64 0, .int .i64 0, .int .i64 0, .int .i64 0, .int .i64 0, .int .i64 0, .int .i64 0, .int .i64 0, .int .i64 0, .int .i64 0, .int .i64 0, .int .i64 0, .int .i64 0, .int .i64 0, .int .i64 0, .int .i64 0, .int .i64 0, .int .i64 0, .int .i64 0, .int .i64 0, .int .i64 0] []),
oT 4 29 23,
oP 5 (.move (oK 4))])
 .ret)
 (.seq
 (.ops [
oF 31 3 2,
oD 32 31 2,
oA 33 476 [.t 32, .k (.int .i64 (-100000000)), .k (.int .i64 1100000000)] false,
oP 34 (.not (.t 33)),
oM 35 34,
oQ 36 35 false (.fieldAddr (.t 3) 4),
oQ 37 35 false (.load (.t 36) (some 2)),
oQ 38 35 false (.call (.k (.func (.func 476) ⟨[]⟩ ⟨[]⟩)) [.t 37, .k (.int .i64 (-20000)), .k (.int .i64 20000)] false),
oQ 39 35 false (.not (.t 38)),
oP 40 (.pick (.t 35) (.k (.bool true)) (.t 39)),
oM 30 40])
 (.cond (.t 30)
 (.seq
 (.ops [
oP 41 (.build [.int .i64 0, .int .i64 0, .int .i64 0, .int .i64 0, .int .i64 0, .int .i64 0, .int .i64 0, .int .i64 0, .int .i64 0, .int .i64 0, .int .i64 0, .int .i64 0, .int .i64 0, .int .i64 0, .int .i64 0, .int .i64 0, .int .i64 0, .int .i64 0, .int .i64 0, .int .i64 0, .int .i64 0, .int .i64 0, .int .i64 0] []),
oT 4 41 23,
oP 5 (.move (oK 3))])
 .ret)
 .skip)))))))
 (.seq
 (.ops [
oM 42 0,
oP 43 (.nilCheck (.t 42)),
oF 44 43 0,
oF 45 44 12,
oL 46 45,
oF 47 3 1,
oL 48 47,
oI 49 46 48 9,
oD 50 49 9,
oP 6 (.alloc [.int .i64 0, .int .i64 0, .int .i64 0, .int .i64 0, .int .i64 0, .int .i64 0, .int .i64 0, .int .i64 0, .int .i64 0]),
oT 6 50 9])
 (.seq
 (.ops [
oD 51 3 6,
oD 52 6 9,
oP 53 (.build [.int .i64 0, .int .i64 0, .int .i64 0, .int .i64 0, .int .i64 0, .int .i64 0, .int .i64 0, .int .i64 0, .int .i64 0, .int .i64 0, .int .i64 0, .int .i64 0, .int .i64 0, .int .i64 0, .int .i64 0, .int .i64 0, .int .i64 0, .int .i64 0, .int .i64 0, .int .i64 0, .int .i64 0, .int .i64 0, .int .i64 0] [(0, 6, .t 51), (6, 9, .t 52)]),
oP 7 (.alloc [.int .i64 0, .int .i64 0, .int .i64 0, .int .i64 0, .int .i64 0, .int .i64 0, .int .i64 0, .int .i64 0, .int .i64 0, .int .i64 0, .int .i64 0, .int .i64 0, .int .i64 0, .int .i64 0, .int .i64 0, .int .i64 0, .int .i64 0, .int .i64 0, .int .i64 0, .int .i64 0, .int .i64 0, .int .i64 0, .int .i64 0]),
oT 7 53 23])
 (.seq
 (.ops [
oF 54 3 2,
oF 55 54 0,
oL 56 55,
oF 57 6 1,
oF 58 57 0,
oL 59 58,
oB 60 .add 56 59,
oF 61 3 2,
oF 62 61 1,
oL 63 62,
oF 64 6 1,
oF 65 64 1,
oL 66 65,
oB 67 .add 63 66,
oP 68 (.build [.int .i64 0, .int .i64 0] [(0, 1, .t 60), (1, 1, .t 67)]),
oF 69 7 15,
oT 69 68 2])
 (.seq
 (.ops [
oF 70 3 2,
oF 71 70 0,
oL 72 71,
oF 73 6 1,
oF 74 73 1,
oL 75 74,
oB 76 .add 72 75,
oF 77 3 2,
oF 78 77 1,
oL 79 78,
oF 80 6 1,
oF 81 80 0,
oL 82 81,
oB 83 .add 79 82,
oP 84 (.build [.int .i64 0, .int .i64 0] [(0, 1, .t 76), (1, 1, .t 83)]),
oF 85 7 17,
oT 85 84 2])
 (.seq
 (.seq
 (.ops [
oF 86 7 15,
oD 87 86 2,
oA 88 476 [.t 87, .k (.int .i64 0), .k (.int .i64 1000000000)] false,
oP 89 (.not (.t 88))])
 (.cond (.t 89)
 (.seq
 (.ops [
oP 90 (.build [.int .i64 0, .int .i64 0, .int .i64 0, .int .i64 0, .int .i64 0, .int .i64 0, .int .i64 0, .int .i64 0, .int .i64 0, .int .i64 0, .int .i64 0, .int .i64 0, .int .i64 0, .int .i64 0, .int .i64 0, .int .i64 0, .int .i64 0, .int .i64 0, .int .i64 0, .int .i64 0, .int .i64 0, .int .i64 0, .int .i64 0] []),
oT 4 90 23,
oP 5 (.move (oK 3))])
 .ret)
 .skip))
 (.seq
 (.ops [
oD 91 6 9,
oF 92 7 15,
oD 93 92 2,
oA 94 478 [.t 91, .t 93] false,
oP 8 (.alloc [.int .i64 0, .int .i64 0]),
oT 8 94 2])
 (.seq
 (.ops [
oF 95 3 4,
oF 96 95 0,
oL 97 96,
oF 98 6 3,
oF 99 98 0,
oL 100 99,
oB 101 .add 97 100,
oF 102 8 0,
oL 103 102,
oB 104 .add 101 103,
oF 105 3 4,
oF 106 105 1,
oL 107 106,
oF 108 6 3,
oF 109 108 1,
oL 110 109,
oB 111 .add 107 110,
oF 112 8 1,
oL 113 112,
oB 114 .add 111 113,
oP 115 (.build [.int .i64 0, .int .i64 0] [(0, 1, .t 104), (1, 1, .t 114)]),
oF 116 7 19,
oT 116 115 2])
 (.seq
 (.ops [
oM 118 0,
oP 119 (.nilCheck (.t 118)),
oF 120 119 0,
oF 121 120 4,
oD 122 121 2,
oF 123 7 15,
oD 124 123 2,
oA 125 479 [.t 122, .t 124] true,
oM 117 125,
oX 126 117 0,
oX 127 117 1,
oP 9 (.alloc [.int .i64 0, .int .i64 0]),
oT 9 126 2,
oM 10 127])
 (.seq
 (.ops [
oD 128 9 2,
oF 129 7 21,
oT 129 128 2])
 (.seq
 (.ops [
oD 130 7 23,
oM 131 10,
oT 4 130 23,
oM 5 131])
 .ret))))))))))))
def F446 : AFunc :=
 .fn 35 [.tmp 4]
 (.seq
 (.ops [
oP 2 (.box (.t 0)),
oP 3 (.box (.t 1)),
oP 4 (.move (oK 0))])
 (.seq
 (.seq
 (.ops [
oF 5 3 0,
oL 6 5,
oA 7 451 [.t 6, .k (.int .i64 1), .k (.int .i64 4)] false,
oP 8 (.not (.t 7))])
 (.cond (.t 8)
 (.seq
 (.ops [
oP 4 (.move (oK 2))])
 .ret)
 .skip))
 (.seq
 (.seq
 (.ops [
oF 9 3 1,
oL 10 9,
oF 11 2 12,
oL 12 11,
oP 13 (.len (.t 12)),
oC 14 .sub 13 1,
oA 15 451 [.t 10, .k (.int .i64 0), .t 14] false,
oP 16 (.not (.t 15))])
 (.cond (.t 16)
 (.seq
 (.ops [
oP 4 (.move (oK 4))])
 .ret)
 .skip))
 (.seq
 (.seq
 (.ops [
oF 17 3 2,
oD 18 17 2,
oA 19 449 [.t 18, .k (.int .i64 (-100000000)), .k (.int .i64 1100000000)] false,
oP 20 (.not (.t 19)),
oM 21 20,
oQ 22 21 false (.fieldAddr (.t 3) 4),
oQ 23 21 false (.load (.t 22) (some 2)),
oQ 24 21 false (.call (.k (.func (.func 449) ⟨[]⟩ ⟨[]⟩)) [.t 23, .k (.int .i64 (-20000)), .k (.int .i64 20000)] false),
oQ 25 21 false (.not (.t 24)),
oP 26 (.pick (.t 21) (.k (.bool true)) (.t 25)),
oM 27 26,
oQ 28 27 false (.load (.t 2) (some 13)),
oQ 29 27 false (.load (.t 3) (some 6)),
oQ 30 27 false (.call (.k (.func (.func 447) ⟨[]⟩ ⟨[]⟩)) [.t 28, .t 29] false),
oQ 31 27 false (.field (.t 30) 10 (some 2)),
oQ 32 27 false (.call (.k (.func (.func 449) ⟨[]⟩ ⟨[]⟩)) [.t 31, .k (.int .i64 0), .k (.int .i64 1000000000)] false),
oQ 33 27 false (.not (.t 32)),
oP 34 (.pick (.t 27) (.k (.bool true)) (.t 33))])
 (.cond (.t 34)
 (.seq
 (.ops [
oP 4 (.move (oK 3))])
 .ret)
 .skip))
 (.seq
 (.ops [
oP 4 (.move (oK 0))])
 .ret)))))
def F447 : AFunc :=
 .fn 131 [.cell 4 (some 16)]
 (.seq
 (.ops [
oP 2 (.box (.t 0)),
oP 3 (.box (.t 1)),
oP 4 (.alloc [.int .i64 0, .int .i64 0, .int .i64 0, .int .i64 0, .int .i64 0, .int .i64 0, .int .i64 0, .int .i64 0, .int .i64 0, .int .i64 0, .int .i64 0, .int .i64 0, .int .i64 0, .int .i64 0, .int .i64 0, .int .i64 0])])
 (.seq
 (.ops [
oF 11 2 12,
oL 12 11,
oF 13 3 1,
oL 14 13,
oI 15 12 14 9,
oD 16 15 9,
oP 5 (.alloc [.int .i64 0, .int .i64 0, .int .i64 0, .int .i64 0, .int .i64 0, .int .i64 0, .int .i64 0, .int .i64 0, .int .i64 0]),
oT 5 16 9])
 (.seq
 (.ops [
oF 17 3 0,
oL 18 17,
oD 19 5 9,
oP 20 (.build [.int .i64 0, .int .i64 0, .int .i64 0, .int .i64 0, .int .i64 0, .int .i64 0, .int .i64 0, .int .i64 0, .int .i64 0, .int .i64 0, .int .i64 0, .int .i64 0, .int .i64 0, .int .i64 0, .int .i64 0, .int .i64 0] [(0, 1, .t 18), (1, 9, .t 19)]),
oP 6 (.alloc [.int .i64 0, .int .i64 0, .int .i64 0, .int .i64 0, .int .i64 0, .int .i64 0, .int .i64 0, .int .i64 0, .int .i64 0, .int .i64 0, .int .i64 0, .int .i64 0, .int .i64 0, .int .i64 0, .int .i64 0, .int .i64 0]),
oT 6 20 16])
 (.seq
 (.ops [
oF 21 3 2,
oF 22 21 0,
oL 23 22,
oF 24 5 1,
oF 25 24 0,
oL 26 25,
oB 27 .add 23 26,
oF 28 3 2,
oF 29 28 1,
oL 30 29,
oF 31 5 1,
oF 32 31 1,
oL 33 32,
oB 34 .add 30 33,
oP 35 (.build [.int .i64 0, .int .i64 0] [(0, 1, .t 27), (1, 1, .t 34)]),
oF 36 6 10,
oT 36 35 2])
 (.seq
 (.ops [
oF 37 3 2,
oF 38 37 0,
oL 39 38,
oF 40 5 1,
oF 41 40 1,
oL 42 41,
oB 43 .add 39 42,
oF 44 3 2,
oF 45 44 1,
oL 46 45,
oF 47 5 1,
oF 48 47 0,
oL 49 48,
oB 50 .add 46 49,
oP 51 (.build [.int .i64 0, .int .i64 0] [(0, 1, .t 43), (1, 1, .t 50)]),
oF 52 6 12,
oT 52 51 2])
 (.seq
 (.ops [
oF 53 6 10,
oF 54 53 0,
oL 55 54,
oF 56 5 7,
oL 57 56,
oB 58 .sub 55 57,
oF 59 6 10,
oF 60 59 1,
oL 61 60,
oF 62 5 7,
oL 63 62,
oB 64 .sub 61 63,
oM 7 58,
oM 8 64])
 (.seq
 (.ops [
oF 65 5 5,
oF 66 65 0,
oL 67 66,
oM 68 7,
oB 69 .mul 67 68,
oF 70 5 5,
oF 71 70 0,
oL 72 71,
oM 73 8,
oB 74 .mul 72 73,
oF 75 5 5,
oF 76 75 1,
oL 77 76,
oM 78 7,
oB 79 .mul 77 78,
oF 80 5 5,
oF 81 80 1,
oL 82 81,
oM 83 8,
oB 84 .mul 82 83,
oP 85 (.min [.t 69, .t 74, .t 79, .t 84]),
oM 9 85])
 (.seq
 (.ops [
oF 86 5 5,
oF 87 86 0,
oL 88 87,
oM 89 7,
oB 90 .mul 88 89,
oF 91 5 5,
oF 92 91 0,
oL 93 92,
oM 94 8,
oB 95 .mul 93 94,
oF 96 5 5,
oF 97 96 1,
oL 98 97,
oM 99 7,
oB 100 .mul 98 99,
oF 101 5 5,
oF 102 101 1,
oL 103 102,
oM 104 8,
oB 105 .mul 103 104,
oP 106 (.max [.t 90, .t 95, .t 100, .t 105]),
oM 10 106])
 (.seq
 (.ops [
oF 107 3 4,
oF 108 107 0,
oL 109 108,
oF 110 5 3,
oF 111 110 0,
oL 112 111,
oB 113 .add 109 112,
oM 114 9,
oA 115 480 [.t 114, .k (.int .i64 86400000)] true,
oB 116 .add 113 115,
oF 117 3 4,
oF 118 117 1,
oL 119 118,
oF 120 5 3,
oF 121 120 1,
oL 122 121,
oB 123 .add 119 122,
oM 124 10,
oP 125 (.neg (.t 124)),
oA 126 480 [.t 125, .k (.int .i64 86400000)] true,
oB 127 .sub 123 126,
oP 128 (.build [.int .i64 0, .int .i64 0] [(0, 1, .t 116), (1, 1, .t 127)]),
oF 129 6 14,
oT 129 128 2])
 (.seq
 (.ops [
oD 130 6 16,
oT 4 130 16])
 .ret))))))))))
def body40 : ACode := (.seq
 (.seq
 (.ops [
oM 30 3,
oF 31 1 3,
oL 32 31,
oP 33 (.len (.t 32)),
oB 34 .lss 30 33])
 (.cond (.t 34)
 .skip
 (.exit 0)))
 (.seq
 (.block 1
 (.seq
 (.ops [
oF 37 1 3,
oL 38 37,
oM 39 3,
oI 40 38 39 2,
oD 41 40 2,
oP 4 (.alloc [.int .i64 0, .int .i64 0]),
oT 4 41 2])
 (.seq
 (.ops [
oF 42 4 0,
oL 43 42,
oF 44 4 1,
oL 45 44,
oB 46 .gtr 43 45,
oM 47 46,
oQ 48 47 false (.fieldAddr (.t 4) 0),
oQ 49 47 false (.load (.t 48) none),
oQ 50 47 false (.bin .lss (.t 49) (oK (-1200000))),
oP 51 (.pick (.t 47) (.k (.bool true)) (.t 50)),
oM 52 51,
oQ 53 52 false (.fieldAddr (.t 4) 1),
oQ 54 52 false (.load (.t 53) none),
oQ 55 52 false (.bin .gtr (.t 54) (oK 1200000)),
oP 56 (.pick (.t 52) (.k (.bool true)) (.t 55))])
 (.cond (.t 56)
 (.seq
 (.ops [
oP 2 (.move (oK 3))])
 .ret)
 .skip))))
 (.ops [
oM 35 3,
oC 36 .add 35 1,
oM 3 36])))
def F40 : AFunc :=
 .fn 57 [.tmp 2]
 (.seq
 (.ops [
oP 1 (.box (.t 0)),
oP 2 (.move (oK 0))])
 (.seq
 (.seq
 (.ops [
oF 5 1 0,
oL 6 5,
oA 7 59 [.t 6, .k (.int .i64 1), .k (.int .i64 24)] false,
oP 8 (.not (.t 7)),
oM 9 8,
oQ 10 9 false (.fieldAddr (.t 1) 1),
oQ 11 9 false (.load (.t 10) none),
oQ 12 9 false (.call (.k (.func (.func 59) ⟨[]⟩ ⟨[]⟩)) [.t 11, .k (.int .i64 1), .k (.int .i64 24)] false),
oQ 13 9 false (.not (.t 12)),
oP 14 (.pick (.t 9) (.k (.bool true)) (.t 13)),
oM 15 14,
oQ 16 15 false (.fieldAddr (.t 1) 2),
oQ 17 15 false (.load (.t 16) none),
oQ 18 15 false (.call (.k (.func (.func 59) ⟨[]⟩ ⟨[]⟩)) [.t 17, .k (.int .i64 1), .k (.int .i64 10000)] false),
oQ 19 15 false (.not (.t 18)),
oP 20 (.pick (.t 15) (.k (.bool true)) (.t 19))])
 (.cond (.t 20)
 (.seq
 (.ops [
oP 2 (.move (oK 3))])
 .ret)
 .skip))
 (.seq
 (.seq
 (.ops [
oF 21 1 3,
oL 22 21,
oP 23 (.len (.t 22)),
oF 24 1 0,
oL 25 24,
oF 26 1 1,
oL 27 26,
oB 28 .mul 25 27,
oB 29 .neq 23 28])
 (.cond (.t 29)
 (.seq
 (.ops [
oP 2 (.move (oK 11))])
 .ret)
 .skip))
 (.seq
 (.seq
 (.ops [
oP 3 (.move (oK 0))])
 (.block 0
 (.loop body40)))
 (.seq
 (.ops [
oP 2 (.move (oK 0))])
 .ret)))))
def body448 : ACode := (.seq
 (.seq
 (.ops [
oM 17 3,
oF 18 1 1,
oL 19 18,
oP 20 (.len (.t 19)),
oB 21 .lss 17 20])
 (.cond (.t 21)
 .skip
 (.exit 0)))
 (.seq
 (.block 1
 (.seq
 (.ops [
oF 24 1 1,
oL 25 24,
oM 26 3,
oI 27 25 26 3,
oD 28 27 3,
oP 4 (.alloc [.int .i64 0, .int .i64 0, .int .i64 0]),
oT 4 28 3])
 (.seq
 (.ops [
oF 29 4 0,
oL 30 29,
oC 31 .lss 30 0,
oM 32 31,
oQ 33 32 false (.fieldAddr (.t 4) 0),
oQ 34 32 false (.load (.t 33) none),
oQ 35 32 false (.bin .gtr (.t 34) (oK 1000)),
oP 36 (.pick (.t 32) (.k (.bool true)) (.t 35)),
oM 37 36,
oQ 38 37 false (.fieldAddr (.t 4) 1),
oQ 39 37 false (.load (.t 38) none),
oQ 40 37 false (.bin .lss (.t 39) (oK 1)),
oP 41 (.pick (.t 37) (.k (.bool true)) (.t 40)),
oM 42 41,
oQ 43 42 false (.fieldAddr (.t 4) 1),
oQ 44 42 false (.load (.t 43) none),
oQ 45 42 false (.bin .gtr (.t 44) (oK 1000000000)),
oP 46 (.pick (.t 42) (.k (.bool true)) (.t 45)),
oM 47 46,
oQ 48 47 false (.fieldAddr (.t 4) 2),
oQ 49 47 false (.load (.t 48) none),
oQ 50 47 false (.bin .lss (.t 49) (oK 0)),
oP 51 (.pick (.t 47) (.k (.bool true)) (.t 50)),
oM 52 51,
oQ 53 52 false (.fieldAddr (.t 4) 2),
oQ 54 52 false (.load (.t 53) none),
oQ 55 52 false (.bin .geq (.t 54) (oK 3600)),
oP 56 (.pick (.t 52) (.k (.bool true)) (.t 55))])
 (.cond (.t 56)
 (.seq
 (.ops [
oP 2 (.move (oK 3))])
 .ret)
 .skip))))
 (.ops [
oM 22 3,
oC 23 .add 22 1,
oM 3 23])))
def F448 : AFunc :=
 .fn 57 [.tmp 2]
 (.seq
 (.ops [
oP 1 (.box (.t 0)),
oP 2 (.move (oK 0))])
 (.seq
 (.seq
 (.ops [
oF 5 1 0,
oL 6 5,
oC 7 .lss 6 (-10000),
oM 8 7,
oQ 9 8 false (.fieldAddr (.t 1) 0),
oQ 10 8 false (.load (.t 9) none),
oQ 11 8 false (.bin .gtr (.t 10) (oK 10000)),
oP 12 (.pick (.t 8) (.k (.bool true)) (.t 11))])
 (.cond (.t 12)
 (.seq
 (.ops [
oP 2 (.move (oK 3))])
 .ret)
 .skip))
 (.seq
 (.seq
 (.ops [
oF 13 1 1,
oL 14 13,
oP 15 (.len (.t 14)),
oC 16 .gtr 15 16])
 (.cond (.t 16)
 (.seq
 (.ops [
oP 2 (.move (oK 9))])
 .ret)
 .skip))
 (.seq
 (.seq
 (.ops [
oP 3 (.move (oK 0))])
 (.block 0
 (.loop body448)))
 (.seq
 (.ops [
oP 2 (.move (oK 0))])
 .ret)))))
def F449 : AFunc :=
 .fn 24 [.tmp 6]
 (.seq
 (.ops [
oP 3 (.box (.t 0)),
oP 6 (.move (.k (.bool false)))])
 (.seq
 (.ops [
oF 7 3 0,
oL 8 7,
oF 9 3 1,
oL 10 9,
oB 11 .leq 8 10,
oM 12 11,
oQ 13 12 true (.fieldAddr (.t 3) 0),
oQ 14 12 true (.load (.t 13) none),
oN 15 12 true 1,
oQ 16 12 true (.bin .geq (.t 14) (.t 15)),
oP 17 (.pick (.t 12) (.t 16) (.k (.bool false))),
oM 18 17,
oQ 19 18 true (.fieldAddr (.t 3) 1),
oQ 20 18 true (.load (.t 19) none),
oN 21 18 true 2,
oQ 22 18 true (.bin .leq (.t 20) (.t 21)),
oP 23 (.pick (.t 18) (.t 22) (.k (.bool false))),
oM 6 23])
 .ret))
def F450 : AFunc :=
 .fn 12 [.cell 2 (some 2)]
 (.seq
 (.ops [
oP 1 (.box (.t 0)),
oP 2 (.alloc [.int .i64 0, .int .i64 0])])
 (.seq
 (.ops [
oF 6 1 4,
oD 7 6 2,
oA 8 481 [.t 7] false,
oM 5 8,
oX 9 5 0,
oX 10 5 1,
oP 3 (.alloc [.int .i64 0, .int .i64 0]),
oT 3 9 2,
oM 4 10])
 (.seq
 (.ops [
oD 11 3 2,
oT 2 11 2])
 .ret)))
def F15 : AFunc :=
 .fn 19 [.tmp 2]
 (.seq
 (.ops [
oP 1 (.box (.t 0)),
oP 2 (.move (oK 0))])
 (.seq
 (.seq
 (.ops [
oF 3 1 0,
oD 4 3 2,
oA 5 43 [.t 4, .k (.int .i64 1), .k (.int .i64 1024)] false,
oP 6 (.not (.t 5)),
oM 7 6,
oQ 8 7 false (.fieldAddr (.t 1) 2),
oQ 9 7 false (.load (.t 8) (some 2)),
oQ 10 7 false (.call (.k (.func (.func 43) ⟨[]⟩ ⟨[]⟩)) [.t 9, .k (.int .i64 10), .k (.int .i64 100000)] false),
oQ 11 7 false (.not (.t 10)),
oP 12 (.pick (.t 7) (.k (.bool true)) (.t 11)),
oM 13 12,
oQ 14 13 false (.fieldAddr (.t 1) 4),
oQ 15 13 false (.load (.t 14) (some 2)),
oQ 16 13 false (.call (.k (.func (.func 43) ⟨[]⟩ ⟨[]⟩)) [.t 15, .k (.int .i64 0), .k (.int .i64 1000)] false),
oQ 17 13 false (.not (.t 16)),
oP 18 (.pick (.t 13) (.k (.bool true)) (.t 17))])
 (.cond (.t 18)
 (.seq
 (.ops [
oP 2 (.move (oK 3))])
 .ret)
 .skip))
 (.seq
 (.ops [
oP 2 (.move (oK 0))])
 .ret)))
def F451 : AFunc :=
 .fn 15 [.tmp 6]
 (.seq
 (.ops [
oP 6 (.move (.k (.bool false)))])
 (.seq
 (.ops [
oM 7 0,
oM 8 1,
oB 9 .geq 7 8,
oM 10 9,
oN 11 10 true 0,
oN 12 10 true 2,
oQ 13 10 true (.bin .leq (.t 11) (.t 12)),
oP 14 (.pick (.t 10) (.t 13) (.k (.bool false))),
oM 6 14])
 .ret))
end Go.Ab.Gauge
