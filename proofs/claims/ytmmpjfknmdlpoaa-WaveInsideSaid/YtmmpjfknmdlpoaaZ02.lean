/- How abstract values and heaps stand for the model's own, and what a piece of code leaves as it was. -/
import Derived.Test.YtmmpjfknmdlpoaaZ01
import Derived.Test.YtmmpjfknmdlpoaaZ00
import Derived.OrdersIn
import Derived.RangeFuncNested
import Derived.Laws.AppendOwn
import Derived.Laws.MakeOwn
import Derived.Laws.StructEq
import Derived.Laws.CopyOwn
set_option linter.unusedSimpArgs false
set_option linter.unusedVariables false
set_option linter.unusedSectionVars false
set_option maxRecDepth 100000
namespace Go.Ab.Wave
open Go.Ab
def F60 : AFunc :=
 .fn 39 [.tmp 10]
 (.seq
 (.ops [
oP 5 (.box (.t 0)),
oP 6 (.box (.t 1)),
oP 7 (.box (.t 2)),
oP 8 (.box (.t 3)),
oP 10 (.move (.k (.pointer none)))])
 (.seq
 (.ops [
oF 13 6 3,
oL 14 13,
oP 15 (.len (.t 14)),
oM 11 15])
 (.seq
 (.ops [
oD 16 5 4,
oD 17 6 4,
oD 18 7 2,
oD 19 8 6,
oP 20 (.slit 1 1 [.int .i64 0] [(0, .k (.int .i64 1099511627776))]),
oM 21 11,
oA 22 83 [.t 20, .t 21] true,
oM 23 11,
oP 24 (.makeS (.t 23) (.t 23) 1 8 [.int .i64 0]),
oP 25 (.slit 1 1 [.int .i64 0] [(0, .k (.int .i64 (-1099511627776)))]),
oM 26 11,
oA 27 83 [.t 25, .t 26] true,
oP 28 (.slit 1 1 [.int .i64 0] [(0, .k (.int .i64 (-1099511627776)))]),
oM 29 11,
oA 30 83 [.t 28, .t 29] true,
oP 31 (.build [.nilFunc, .nilFunc, .nilFunc, .bool false, .int .i64 0, .int .i64 0, .int .i64 0, .slice none 0 0, .int .i64 0, .int .i64 0, .int .i64 0, .int .i64 0, .int .i64 0, .int .i64 0, .int .i64 0, .int .i64 0, .slice none 0 0, .slice none 0 0, .slice none 0 0, .slice none 0 0] [(0, 4, .t 16), (4, 4, .t 17), (8, 2, .t 18), (10, 6, .t 19), (16, 1, .t 22), (17, 1, .t 24), (18, 1, .t 27), (19, 1, .t 30)]),
oP 32 (.box (.t 31)),
oM 12 32])
 (.seq
 (.ops [
oM 33 12,
oM 34 4,
oA 35 84 [.t 33, .t 34] false])
 (.seq
 (.ops [
oM 36 12,
oA 37 85 [.t 36] false])
 (.seq
 (.ops [
oM 38 12,
oM 10 38])
 .ret))))))
def F61 : AFunc :=
 .fn 2 [.cell 0 (some 4)]
 (.seq
 (.ops [
oP 0 (.alloc [.nilFunc, .nilFunc, .nilFunc, .bool false])])
 (.seq
 (.ops [
oP 1 (.build [.nilFunc, .nilFunc, .nilFunc, .bool false] [(0, 1, .k (.func (.func 65) ⟨[]⟩ ⟨[]⟩)), (1, 1, .k (.func (.func 86) ⟨[]⟩ ⟨[]⟩)), (2, 1, .k (.func (.func 67) ⟨[]⟩ ⟨[]⟩)), (3, 1, .k (.bool false))]),
oT 0 1 4])
 .ret))
def F62 : AFunc :=
 .fn 2 [.cell 0 (some 4)]
 (.seq
 (.ops [
oP 0 (.alloc [.nilFunc, .nilFunc, .nilFunc, .bool false])])
 (.seq
 (.ops [
oP 1 (.build [.nilFunc, .nilFunc, .nilFunc, .bool false] [(0, 1, .k (.func (.func 67) ⟨[]⟩ ⟨[]⟩)), (1, 1, .k (.func (.func 68) ⟨[]⟩ ⟨[]⟩)), (2, 1, .k (.func (.func 65) ⟨[]⟩ ⟨[]⟩)), (3, 1, .k (.bool true))]),
oT 0 1 4])
 .ret))
def F63 : AFunc :=
 .fn 9 [.tmp 4]
 (.seq
 (.ops [
oP 4 (.move (.k (.bool false)))])
 (.seq
 (.ops [
oM 5 0,
oM 6 1,
oA 7 87 [.t 5, .t 6] false,
oC 8 .geq 7 1,
oM 4 8])
 .ret))
def F64 : AFunc :=
 .fn 36 [.tmp 4]
 (.seq
 (.ops [
oP 4 (.move (oK 0))])
 (.seq
 (.ops [
oM 6 0,
oM 7 1,
oA 8 66 [.t 6, .t 7] false,
oM 5 8])
 (.seq
 (.seq
 (.ops [
oM 9 0,
oP 10 (.nilCheck (.t 9)),
oF 11 10 0,
oF 12 11 3,
oL 13 12])
 (.cond (.t 13)
 (.ops [
oM 14 5,
oP 15 (.max [.k (.int .i64 1), .t 14]),
oM 5 15])
 .skip))
 (.seq
 (.ops [
oM 16 0,
oP 17 (.nilCheck (.t 16)),
oF 18 17 0,
oF 19 18 1,
oL 20 19,
oM 21 0,
oP 22 (.nilCheck (.t 21)),
oF 23 22 17,
oL 24 23,
oM 25 1,
oI 26 24 25 1,
oL 27 26,
oM 28 0,
oP 29 (.nilCheck (.t 28)),
oF 30 29 0,
oF 31 30 2,
oL 32 31,
oM 33 5,
oA 34 88 [.t 32, .t 33] true,
oP 35 (.call (.t 20) [.t 27, .t 34] false),
oM 4 35])
 .ret))))
def body65a : ACode := (.seq
 (.seq
 (.ops [
oM 8 3,
oM 9 3,
oB 10 .mul 8 9,
oM 11 0,
oB 12 .gtr 10 11])
 (.cond (.t 12)
 .skip
 (.exit 0)))
 (.block 1
 (.ops [
oM 13 3,
oC 14 .sub 13 1,
oM 3 14])))
def body65b : ACode := (.seq
 (.seq
 (.ops [
oM 15 3,
oC 16 .add 15 1,
oM 17 3,
oC 18 .add 17 1,
oB 19 .mul 16 18,
oM 20 0,
oB 21 .leq 19 20])
 (.cond (.t 21)
 .skip
 (.exit 2)))
 (.block 3
 (.ops [
oM 22 3,
oC 23 .add 22 1,
oM 3 23])))
def F65 : AFunc :=
 .fn 25 [.tmp 2]
 (.seq
 (.ops [
oP 2 (.move (oK 0))])
 (.seq
 (.ops [
oM 4 0,
oP 5 (.toF64 (.t 4)),
oA 6 89 [.t 5] false,
oP 7 (.toInt .i64 (.t 6)),
oM 3 7])
 (.seq
 (.block 0
 (.loop body65a))
 (.seq
 (.block 2
 (.loop body65b))
 (.seq
 (.ops [
oM 24 3,
oM 2 24])
 .ret)))))
def F66 : AFunc :=
 .fn 28 [.tmp 4]
 (.seq
 (.ops [
oP 4 (.move (oK 0))])
 (.seq
 (.ops [
oM 5 0,
oP 6 (.nilCheck (.t 5)),
oF 7 6 0,
oD 8 7 4,
oM 9 0,
oP 10 (.nilCheck (.t 9)),
oF 11 10 8,
oD 12 11 2,
oA 13 90 [.t 8, .t 12] true,
oM 14 0,
oP 15 (.nilCheck (.t 14)),
oF 16 15 0,
oD 17 16 4,
oM 18 0,
oP 19 (.nilCheck (.t 18)),
oF 20 19 4,
oF 21 20 3,
oL 22 21,
oM 23 1,
oI 24 22 23 2,
oD 25 24 2,
oA 26 91 [.t 17, .t 25] false,
oB 27 .sub 13 26,
oM 4 27])
 .ret))
def F67 : AFunc :=
 .fn 9 [.tmp 2]
 (.seq
 (.ops [
oP 2 (.move (oK 0))])
 (.seq
 (.seq
 (.ops [
oM 3 0,
oC 4 .eql 3 0])
 (.cond (.t 4)
 (.seq
 (.ops [
oP 2 (.move (oK 0))])
 .ret)
 .skip))
 (.seq
 (.ops [
oM 5 0,
oC 6 .sub 5 1,
oA 7 65 [.t 6] false,
oC 8 .add 7 1,
oM 2 8])
 .ret)))
def F68 : AFunc :=
 .fn 11 [.tmp 4]
 (.seq
 (.ops [
oP 4 (.move (oK 0))])
 (.seq
 (.ops [
oM 5 0,
oM 6 1,
oB 7 .add 5 6,
oC 8 .sub 7 1,
oM 9 1,
oB 10 .quo 8 9,
oM 4 10])
 .ret))
def body82 : ACode := (.seq
  (.ops [
 oB 9 .lss 8 7])
  (.seq
  (.cond (.t 9)
  .skip
  (.exit 0))
  (.seq
  (.block 1
  (.seq
  (.ops [
 oM 10 8,
 oM 5 10])
  (.seq
  (.ops [
 oM 11 1,
 oM 12 0,
 oM 13 5,
 oI 14 12 13 2,
 oD 15 14 2,
 oP 16 (.call (.t 11) [.t 15] false)])
  (.cond (.t 16)
  (.seq
  (.ops [
 oM 17 5,
 oM 4 17])
  .ret)
  .skip))))
  (.ops [
 oC 18 .add 8 1,
 oM 8 18]))))
def F82 : AFunc :=
 .fn 19 [.tmp 4]
 (.seq
 (.ops [
oP 4 (.move (oK 0))])
 (.seq
 (.seq
 (.ops [
oM 6 0,
oP 7 (.len (.t 6)),
oP 8 (.move (oK 0))])
 (.block 0
 (.loop body82)))
 (.seq
 (.ops [
oP 4 (.move (oK (-1)))])
 .ret)))
def body83 : ACode := (.seq
 (.seq
 (.ops [
oM 34 8,
oM 35 7,
oP 36 (.len (.t 35)),
oB 37 .lss 34 36])
 (.cond (.t 37)
 .skip
 (.exit 0)))
 (.block 1
 (.ops [
oM 38 8,
oM 39 7,
oM 40 8,
oP 41 (.reslice (.t 39) (some (.t 40)) none 1),
oM 42 7,
oM 43 8,
oP 44 (.reslice (.t 42) none (some (.t 43)) 1),
oP 45 (.copy (.t 41) (.t 44) 1),
oB 46 .add 38 45,
oM 8 46])))
def F83 : AFunc :=
 .fn 48 [.tmp 4]
 (.seq
 (.ops [
oP 4 (.move (.k (.slice none 0 0)))])
 (.seq
 (.seq
 (.ops [
oM 9 1,
oC 10 .lss 9 0])
 (.cond (.t 10)
 (.ops [
oP 11 (.fail),
⟨none, none, [], .fail⟩])
 .skip))
 (.seq
 (.ops [
oM 13 0,
oP 14 (.len (.t 13)),
oP 15 (.toInt .u64 (.t 14)),
oM 16 1,
oP 17 (.toInt .u64 (.t 16)),
oA 18 93 [.t 15, .t 17] false,
oM 12 18,
oX 19 12 0,
oX 20 12 1,
oM 5 19,
oM 6 20])
 (.seq
 (.seq
 (.ops [
oM 21 5,
oP 22 (.bin .gtr (.t 21) (.k (.int .u64 0))),
oM 23 22,
oN 24 23 false 6,
oQ 25 23 false (.bin .gtr (.t 24) (.k (.int .u64 9223372036854775807))),
oP 26 (.pick (.t 23) (.k (.bool true)) (.t 25))])
 (.cond (.t 26)
 (.ops [
oP 27 (.fail),
⟨none, none, [], .fail⟩])
 .skip))
 (.seq
 (.ops [
oM 28 6,
oP 29 (.toInt .i64 (.t 28)),
oP 30 (.makeS (.t 29) (.t 29) 1 8 [.int .i64 0]),
oM 7 30])
 (.seq
 (.ops [
oM 31 7,
oM 32 0,
oP 33 (.copy (.t 31) (.t 32) 1),
oM 8 33])
 (.seq
 (.block 0
 (.loop body83))
 (.seq
 (.ops [
oM 47 7,
oM 4 47])
 .ret))))))))
def body84 : ACode := (.seq
 (.ops [
oB 11 .lss 10 9])
 (.seq
 (.cond (.t 11)
 .skip
 (.exit 0))
 (.seq
 (.block 1
 (.seq
 (.ops [
oI 12 8 10 5,
oD 13 12 5,
oP 5 (.alloc [.int .i64 0, .int .i64 0, .int .i64 0, .int .i64 0, .int .i64 0]),
oT 5 13 5])
 (.seq
 (.ops [
oF 14 5 0,
oL 15 14,
oM 6 15])
 (.seq
 (.ops [
oL 16 2,
oM 17 6,
oA 18 63 [.t 16, .t 17] false])
 (.cond (.t 18)
 (.seq
 (.ops [
oL 19 2,
oP 20 (.nilCheck (.t 19)),
oF 21 20 16,
oL 22 21,
oM 23 6,
oL 24 2,
oP 25 (.nilCheck (.t 24)),
oF 26 25 16,
oL 27 26,
oM 28 6,
oI 29 27 28 1,
oL 30 29,
oL 31 2,
oP 32 (.nilCheck (.t 31)),
oF 33 32 0,
oD 34 33 4,
oF 35 5 1,
oD 36 35 2,
oA 37 90 [.t 34, .t 36] true,
oP 38 (.min [.t 30, .t 37]),
oI 39 22 23 1,
oT 39 38 1])
 (.ops [
oL 40 2,
oP 41 (.nilCheck (.t 40)),
oF 42 41 17,
oL 43 42,
oM 44 6,
oL 45 2,
oP 46 (.nilCheck (.t 45)),
oF 47 46 17,
oL 48 47,
oM 49 6,
oI 50 48 49 1,
oL 51 50,
oL 52 2,
oP 53 (.nilCheck (.t 52)),
oF 54 53 0,
oD 55 54 4,
oF 56 5 3,
oD 57 56 2,
oA 58 91 [.t 55, .t 57] true,
oL 59 2,
oP 60 (.nilCheck (.t 59)),
oF 61 60 0,
oF 62 61 0,
oL 63 62,
oL 64 2,
oM 65 6,
oA 66 87 [.t 64, .t 65] true,
oA 67 88 [.t 63, .t 66] true,
oB 68 .mul 58 67,
oP 69 (.max [.t 51, .t 68]),
oI 70 43 44 1,
oT 70 69 1]))
 .skip)))))
 (.ops [
oC 71 .add 10 1,
oM 10 71]))))
def F84 : AFunc :=
 .fn 89 []
 (.seq
 (.ops [
oP 2 (.box (.t 0))])
 (.seq
 (.seq
 (.ops [
oM 8 1,
oP 9 (.len (.t 8)),
oP 10 (.move (oK 0))])
 (.block 0
 (.loop body84)))
 (.seq
 (.ops [
oP 72 (.makeFunc 94 [] [.t 2]),
oP 7 (.alloc [.nilFunc]),
oT 7 72 1])
 (.seq
 (.ops [
oL 73 2,
oP 74 (.nilCheck (.t 73)),
oF 75 74 16,
oL 76 75,
oL 77 2,
oP 78 (.makeFunc 96 [.t 77] []),
oP 79 (.makeFunc 98 [] [.t 7, .t 2]),
oP 80 (.call (.k (.func (.func 95) ⟨[]⟩ ⟨[]⟩)) [.t 76, .t 78, .k (.func (.func 97) ⟨[]⟩ ⟨[]⟩), .t 79] false)])
 (.ops [
oL 81 2,
oP 82 (.nilCheck (.t 81)),
oF 83 82 17,
oL 84 83,
oL 85 2,
oP 86 (.makeFunc 96 [.t 85] []),
oP 87 (.makeFunc 101 [] [.t 2, .t 7]),
oP 88 (.call (.k (.func (.func 95) ⟨[]⟩ ⟨[]⟩)) [.t 84, .t 86, .k (.func (.func 100) ⟨[]⟩ ⟨[]⟩), .t 87] false)])))))
def body85 : ACode := (.seq
 (.ops [
oB 11 .lss 10 9])
 (.seq
 (.cond (.t 11)
 .skip
 (.exit 0))
 (.seq
 (.block 1
 (.seq
 (.ops [
oM 12 10,
oI 13 8 10 1,
oL 14 13,
oM 2 12,
oM 3 14])
 (.seq
 (.ops [
oM 15 3,
oC 16 .lss 15 1099511627776])
 (.cond (.t 16)
 (.ops [
oL 17 1,
oP 18 (.nilCheck (.t 17)),
oF 19 18 18,
oL 20 19,
oM 21 2,
oL 22 1,
oP 23 (.nilCheck (.t 22)),
oF 24 23 0,
oD 25 24 4,
oL 26 1,
oP 27 (.nilCheck (.t 26)),
oF 28 27 8,
oD 29 28 2,
oA 30 91 [.t 25, .t 29] true,
oL 31 1,
oM 32 2,
oA 33 64 [.t 31, .t 32] true,
oB 34 .add 30 33,
oI 35 20 21 1,
oT 35 34 1])
 .skip))))
 (.ops [
oC 36 .add 10 1,
oM 10 36]))))
def F85 : AFunc :=
 .fn 54 []
 (.seq
 (.ops [
oP 1 (.box (.t 0))])
 (.seq
 (.seq
 (.ops [
oL 5 1,
oP 6 (.nilCheck (.t 5)),
oF 7 6 16,
oL 8 7,
oP 9 (.len (.t 8)),
oP 10 (.move (oK 0))])
 (.block 0
 (.loop body85)))
 (.seq
 (.ops [
oP 37 (.makeFunc 102 [] [.t 1]),
oP 4 (.alloc [.nilFunc]),
oT 4 37 1])
 (.seq
 (.ops [
oL 38 1,
oP 39 (.nilCheck (.t 38)),
oF 40 39 18,
oL 41 40,
oL 42 1,
oP 43 (.makeFunc 96 [.t 42] []),
oP 44 (.makeFunc 104 [] [.t 4, .t 1]),
oP 45 (.call (.k (.func (.func 95) ⟨[]⟩ ⟨[]⟩)) [.t 41, .t 43, .k (.func (.func 100) ⟨[]⟩ ⟨[]⟩), .t 44] false)])
 (.ops [
oL 46 1,
oP 47 (.nilCheck (.t 46)),
oF 48 47 16,
oL 49 48,
oL 50 1,
oP 51 (.makeFunc 96 [.t 50] []),
oP 52 (.makeFunc 105 [] [.t 4, .t 1]),
oP 53 (.call (.k (.func (.func 95) ⟨[]⟩ ⟨[]⟩)) [.t 49, .t 51, .k (.func (.func 97) ⟨[]⟩ ⟨[]⟩), .t 52] false)])))))
def F86 : AFunc :=
 .fn 8 [.tmp 4]
 (.seq
 (.ops [
oP 4 (.move (oK 0))])
 (.seq
 (.ops [
oM 5 0,
oM 6 1,
oB 7 .quo 5 6,
oM 4 7])
 .ret))
def F87 : AFunc :=
 .fn 28 [.tmp 4]
 (.seq
 (.ops [
oP 4 (.move (oK 0))])
 (.seq
 (.ops [
oM 5 0,
oP 6 (.nilCheck (.t 5)),
oF 7 6 0,
oD 8 7 4,
oM 9 0,
oP 10 (.nilCheck (.t 9)),
oF 11 10 8,
oD 12 11 2,
oA 13 91 [.t 8, .t 12] true,
oM 14 0,
oP 15 (.nilCheck (.t 14)),
oF 16 15 0,
oD 17 16 4,
oM 18 0,
oP 19 (.nilCheck (.t 18)),
oF 20 19 4,
oF 21 20 3,
oL 22 21,
oM 23 1,
oI 24 22 23 2,
oD 25 24 2,
oA 26 90 [.t 17, .t 25] false,
oB 27 .sub 13 26,
oM 4 27])
 .ret))
def F88 : AFunc :=
 .fn 11 [.tmp 4]
 (.seq
 (.ops [
oP 4 (.move (oK 0))])
 (.seq
 (.ops [
oM 5 0,
oM 6 0,
oM 7 1,
oP 8 (.bin .shl (.t 7) (.k (.int .u64 40))),
oP 9 (.call (.t 6) [.t 8] false),
oP 10 (.call (.t 5) [.t 9] false),
oM 4 10])
 .ret))
def F89 : AFunc :=
 .fn 5 [.tmp 2]
 (.seq
 (.ops [
oP 2 (.move (.k (.float .f64 0)))])
 (.seq
 (.ops [
oM 3 0,
oA 4 106 [.t 3] false,
oM 2 4])
 .ret))
def F90 : AFunc :=
 .fn 11 [.tmp 4]
 (.seq
 (.ops [
oP 2 (.box (.t 0)),
oP 3 (.box (.t 1)),
oP 4 (.move (oK 0))])
 (.seq
 (.seq
 (.ops [
oF 5 2 3,
oL 6 5])
 (.cond (.t 6)
 (.seq
 (.ops [
oF 7 3 0,
oL 8 7,
oM 4 8])
 .ret)
 .skip))
 (.seq
 (.ops [
oF 9 3 1,
oL 10 9,
oM 4 10])
 .ret)))
def F91 : AFunc :=
 .fn 11 [.tmp 4]
 (.seq
 (.ops [
oP 2 (.box (.t 0)),
oP 3 (.box (.t 1)),
oP 4 (.move (oK 0))])
 (.seq
 (.seq
 (.ops [
oF 5 2 3,
oL 6 5])
 (.cond (.t 6)
 (.seq
 (.ops [
oF 7 3 1,
oL 8 7,
oM 4 8])
 .ret)
 .skip))
 (.seq
 (.ops [
oF 9 3 0,
oL 10 9,
oM 4 10])
 .ret)))
def F93 : AFunc :=
 .fn 30 [.tmp 4, .tmp 5]
 (.seq
 (.ops [
oP 4 (.move (.k (.int .u64 0))),
oP 5 (.move (.k (.int .u64 0)))])
 (.seq
 (.cond (.k (.bool false))
 (.seq
 (.ops [
oM 11 0,
oP 12 (.toInt .u32 (.t 11)),
oM 13 1,
oP 14 (.toInt .u32 (.t 13)),
oA 15 107 [.t 12, .t 14] false,
oM 10 15,
oX 16 10 0,
oX 17 10 1,
oM 6 16,
oM 7 17])
 (.seq
 (.ops [
oM 18 6,
oP 19 (.toInt .u64 (.t 18)),
oM 20 7,
oP 21 (.toInt .u64 (.t 20)),
oM 4 19,
oM 5 21])
 .ret))
 .skip)
 (.seq
 (.ops [
oM 23 0,
oM 24 1,
oA 25 108 [.t 23, .t 24] false,
oM 22 25,
oX 26 22 0,
oX 27 22 1,
oM 8 26,
oM 9 27])
 (.seq
 (.ops [
oM 28 8,
oM 29 9,
oM 4 28,
oM 5 29])
 .ret))))
def F94 : AFunc :=
 .fn 14 [.tmp 5]
 (.seq
 (.ops [
oP 5 (.move (.k (.bool false)))])
 (.seq
 (.ops [
oL 6 2,
oM 7 0,
oA 8 63 [.t 6, .t 7] false,
oM 9 8,
oQ 10 9 true (.load (.t 2) none),
oN 11 9 true 1,
oQ 12 9 true (.call (.k (.func (.func 63) ⟨[]⟩ ⟨[]⟩)) [.t 10, .t 11] false),
oP 13 (.pick (.t 9) (.t 12) (.k (.bool false))),
oM 5 13])
 .ret))
def body95a : ACode := (.seq
 (.ops [
oB 17 .lss 16 15])
 (.seq
 (.cond (.t 17)
 .skip
 (.exit 0))
 (.seq
 (.block 1
 (.seq
 (.ops [
oM 18 16,
oM 9 18])
 (.ops [
oL 19 8,
oM 20 9,
oP 21 (.slit 1 1 [.int .i64 0] [(0, .t 20)]),
oP 22 (.append (.t 19) (.t 21) 1 8),
oT 8 22 1])))
 (.ops [
oC 23 .add 16 1,
oM 16 23]))))
def body95b : ACode := (.seq
 (.seq
 (.ops [
oL 24 8,
oP 25 (.len (.t 24)),
oC 26 .gtr 25 0])
 (.cond (.t 26)
 .skip
 (.exit 2)))
 (.block 3
 (.seq
 (.ops [
oL 27 8,
oP 28 (.idxS (.t 27) (oK 0) 1),
oL 29 28,
oP 10 (.alloc [.int .i64 0]),
oT 10 29 1])
 (.seq
 (.ops [
oL 30 8,
oP 31 (.reslice (.t 30) (some (oK 1)) none 1),
oT 8 31 1])
 (.seq
 (.ops [
oM 32 1,
oL 33 10,
oP 34 (.call (.t 32) [.t 33] false)])
 (.block 4
 (.rangeF (.t 34) [35]
 (.ops [
oM 11 35])
 (.block 5
 (.seq
 (.ops [
oL 37 7,
oL 38 10,
oM 39 11,
oL 40 4,
oL 41 10,
oI 42 40 41 1,
oL 43 42,
oP 44 (.call (.t 37) [.t 38, .t 39, .t 43] false),
oM 36 44,
oX 45 36 0,
oX 46 36 1,
oM 12 45,
oM 13 46])
 (.seq
 (.ops [
oM 47 13,
oM 48 47,
oQ 49 48 true (.load (.t 6) none),
oN 50 48 true 12,
oQ 51 48 true (.load (.t 4) none),
oN 52 48 true 11,
oQ 53 48 true (.idxS (.t 51) (.t 52) 1),
oQ 54 48 true (.load (.t 53) none),
oQ 55 48 true (.call (.t 49) [.t 50, .t 54] false),
oP 56 (.pick (.t 48) (.t 55) (.k (.bool false)))])
 (.cond (.t 56)
 (.seq
 (.ops [
oL 57 4,
oM 58 11,
oM 59 12,
oI 60 57 58 1,
oT 60 59 1])
 (.ops [
oL 61 8,
oM 62 11,
oP 63 (.slit 1 1 [.int .i64 0] [(0, .t 62)]),
oP 64 (.append (.t 61) (.t 63) 1 8),
oT 8 64 1]))
 .skip)))))))))))
def F95 : AFunc :=
 .fn 65 []
 (.seq
 (.ops [
oP 4 (.box (.t 0)),
oP 6 (.box (.t 2)),
oP 7 (.box (.t 3))])
 (.seq
 (.ops [
oP 8 (.alloc [.slice none 0 0])])
 (.seq
 (.seq
 (.ops [
oL 14 4,
oP 15 (.len (.t 14)),
oP 16 (.move (oK 0))])
 (.block 0
 (.loop body95a)))
 (.block 2
 (.loop body95b)))))
def F96 : AFunc :=
 .fn 6 [.tmp 4]
 (.seq
 (.ops [
oP 2 (.box (.t 0)),
oP 3 (.box (.t 1)),
oP 4 (.move (.k (.nilFunc)))])
 (.seq
 (.ops [
oP 5 (.makeFunc 109 [] [.t 2, .t 3]),
oM 4 5])
 .ret))
def F97 : AFunc :=
 .fn 8 [.tmp 4]
 (.seq
 (.ops [
oP 4 (.move (.k (.bool false)))])
 (.seq
 (.ops [
oM 5 0,
oM 6 1,
oB 7 .lss 5 6,
oM 4 7])
 .ret))
def F98 : AFunc :=
 .fn 25 [.tmp 8, .tmp 9]
 (.seq
 (.ops [
oP 8 (.move (oK 0)),
oP 9 (.move (.k (.bool false)))])
 (.seq
 (.seq
 (.ops [
oL 10 3,
oM 11 0,
oM 12 1,
oP 13 (.call (.t 10) [.t 11, .t 12] false),
oP 14 (.not (.t 13)),
oM 15 14,
oN 16 15 false 2,
oQ 17 15 false (.bin .eql (.t 16) (oK 1099511627776)),
oP 18 (.pick (.t 15) (.k (.bool true)) (.t 17))])
 (.cond (.t 18)
 (.seq
 (.ops [
oP 8 (.move (oK 0)),
oP 9 (.move (.k (.bool false)))])
 .ret)
 .skip))
 (.seq
 (.ops [
oM 19 2,
oL 20 4,
oM 21 0,
oM 22 1,
oA 23 99 [.t 20, .t 21, .t 22] false,
oB 24 .add 19 23,
oM 8 24,
oP 9 (.move (.k (.bool true)))])
 .ret)))
def F99 : AFunc :=
 .fn 42 [.tmp 6]
 (.seq
 (.ops [
oP 6 (.move (oK 0))])
 (.seq
 (.ops [
oM 9 0,
oP 10 (.nilCheck (.t 9)),
oF 11 10 4,
oF 12 11 2,
oL 13 12,
oM 14 0,
oP 15 (.nilCheck (.t 14)),
oF 16 15 4,
oF 17 16 2,
oL 18 17,
oB 19 .mul 13 18,
oC 20 .mul 19 10000000000,
oM 21 0,
oM 22 1,
oA 23 87 [.t 21, .t 22] true,
oM 24 0,
oM 25 2,
oA 26 87 [.t 24, .t 25] true,
oP 27 (.min [.t 23, .t 26]),
oP 28 (.bin .mul (oK 981) (.t 27)),
oM 7 20,
oM 8 28])
 (.seq
 (.seq
 (.ops [
oM 29 0,
oP 30 (.nilCheck (.t 29)),
oF 31 30 0,
oF 32 31 3,
oL 33 32])
 (.cond (.t 33)
 (.seq
 (.ops [
oM 34 7,
oM 35 8,
oB 36 .quo 34 35,
oA 37 65 [.t 36] false,
oM 6 37])
 .ret)
 .skip))
 (.seq
 (.ops [
oM 38 7,
oM 39 8,
oA 40 68 [.t 38, .t 39] false,
oA 41 67 [.t 40] false,
oM 6 41])
 .ret))))
def F100 : AFunc :=
 .fn 8 [.tmp 4]
 (.seq
 (.ops [
oP 4 (.move (.k (.bool false)))])
 (.seq
 (.ops [
oM 5 0,
oM 6 1,
oB 7 .gtr 5 6,
oM 4 7])
 .ret))
def F101 : AFunc :=
 .fn 36 [.tmp 8, .tmp 9]
 (.seq
 (.ops [
oP 8 (.move (oK 0)),
oP 9 (.move (.k (.bool false)))])
 (.seq
 (.ops [
oL 10 3,
oP 11 (.nilCheck (.t 10)),
oF 12 11 0,
oF 13 12 1,
oL 14 13,
oM 15 2,
oL 16 3,
oP 17 (.nilCheck (.t 16)),
oF 18 17 0,
oD 19 18 4,
oL 20 3,
oP 21 (.nilCheck (.t 20)),
oF 22 21 10,
oF 23 22 0,
oD 24 23 2,
oA 25 91 [.t 19, .t 24] true,
oB 26 .mul 15 25,
oP 27 (.call (.t 14) [.t 26, .k (.int .i64 1024)] true),
oL 28 4,
oM 29 0,
oM 30 1,
oP 31 (.call (.t 28) [.t 29, .t 30] false),
oM 32 31,
oN 33 32 true 2,
oQ 34 32 true (.bin .gtr (.t 33) (oK 0)),
oP 35 (.pick (.t 32) (.t 34) (.k (.bool false))),
oM 8 27,
oM 9 35])
 .ret))
def F102 : AFunc :=
 .fn 57 [.tmp 5, .tmp 6]
 (.seq
 (.ops [
oP 5 (.move (oK 0)),
oP 6 (.move (.k (.bool false)))])
 (.seq
 (.ops [
oL 8 2,
oP 9 (.nilCheck (.t 8)),
oF 10 9 18,
oL 11 10,
oM 12 0,
oI 13 11 12 1,
oL 14 13,
oL 15 2,
oP 16 (.nilCheck (.t 15)),
oF 17 16 0,
oD 18 17 4,
oL 19 2,
oP 20 (.nilCheck (.t 19)),
oF 21 20 10,
oF 22 21 4,
oD 23 22 2,
oA 24 90 [.t 18, .t 23] true,
oB 25 .sub 14 24,
oM 7 25])
 (.seq
 (.ops [
oM 26 7,
oL 27 2,
oP 28 (.nilCheck (.t 27)),
oF 29 28 18,
oL 30 29,
oM 31 0,
oI 32 30 31 1,
oL 33 32,
oC 34 .neq 33 (-1099511627776),
oM 35 34,
oQ 36 35 true (.load (.t 2) none),
oN 37 35 true 1,
oQ 38 35 true (.call (.k (.func (.func 103) ⟨[]⟩ ⟨[]⟩)) [.t 36, .t 37] false),
oP 39 (.pick (.t 35) (.t 38) (.k (.bool false))),
oM 40 39,
oN 41 40 true 7,
oQ 42 40 true (.load (.t 2) none),
oQ 43 40 true (.nilCheck (.t 42)),
oQ 44 40 true (.fieldAddr (.t 43) 0),
oQ 45 40 true (.load (.t 44) (some 4)),
oQ 46 40 true (.load (.t 2) none),
oQ 47 40 true (.nilCheck (.t 46)),
oQ 48 40 true (.fieldAddr (.t 47) 4),
oQ 49 40 true (.fieldAddr (.t 48) 3),
oQ 50 40 true (.load (.t 49) none),
oN 51 40 true 1,
oQ 52 40 true (.idxS (.t 50) (.t 51) 2),
oQ 53 40 true (.load (.t 52) (some 2)),
oQ 54 40 true (.call (.k (.func (.func 90) ⟨[]⟩ ⟨[]⟩)) [.t 45, .t 53] false),
oQ 55 40 true (.bin .gtr (.t 41) (.t 54)),
oP 56 (.pick (.t 40) (.t 55) (.k (.bool false))),
oM 5 26,
oM 6 56])
 .ret)))
def F103 : AFunc :=
 .fn 9 [.tmp 4]
 (.seq
 (.ops [
oP 4 (.move (.k (.bool false)))])
 (.seq
 (.ops [
oM 5 0,
oM 6 1,
oA 7 66 [.t 5, .t 6] false,
oC 8 .leq 7 0,
oM 4 8])
 .ret))
def F104 : AFunc :=
 .fn 37 [.tmp 8, .tmp 9]
 (.seq
 (.ops [
oP 8 (.move (oK 0)),
oP 9 (.move (.k (.bool false)))])
 (.seq
 (.ops [
oL 13 3,
oM 14 0,
oM 15 1,
oP 16 (.call (.t 13) [.t 14, .t 15] false),
oM 12 16,
oX 17 12 0,
oX 18 12 1,
oM 10 17,
oM 11 18])
 (.seq
 (.seq
 (.ops [
oM 19 11])
 (.cond (.t 19)
 (.ops [
oL 20 4,
oP 21 (.nilCheck (.t 20)),
oF 22 21 19,
oL 23 22,
oM 24 1,
oL 25 4,
oP 26 (.nilCheck (.t 25)),
oF 27 26 19,
oL 28 27,
oM 29 1,
oI 30 28 29 1,
oL 31 30,
oM 32 10,
oP 33 (.max [.t 31, .t 32]),
oI 34 23 24 1,
oT 34 33 1])
 .skip))
 (.seq
 (.ops [
oM 35 10,
oM 36 11,
oM 8 35,
oM 9 36])
 .ret))))
def F105 : AFunc :=
 .fn 38 [.tmp 8, .tmp 9]
 (.seq
 (.ops [
oP 8 (.move (oK 0)),
oP 9 (.move (.k (.bool false)))])
 (.seq
 (.ops [
oL 13 3,
oM 14 0,
oM 15 1,
oP 16 (.call (.t 13) [.t 14, .t 15] false),
oM 12 16,
oX 17 12 0,
oX 18 12 1,
oM 10 17,
oM 11 18])
 (.seq
 (.ops [
oM 19 2,
oL 20 4,
oP 21 (.nilCheck (.t 20)),
oF 22 21 0,
oD 23 22 4,
oL 24 4,
oP 25 (.nilCheck (.t 24)),
oF 26 25 10,
oF 27 26 2,
oD 28 27 2,
oA 29 90 [.t 23, .t 28] true,
oL 30 4,
oP 31 (.nilCheck (.t 30)),
oF 32 31 4,
oF 33 32 2,
oL 34 33,
oB 35 .mul 29 34,
oB 36 .add 19 35,
oM 37 11,
oM 8 36,
oM 9 37])
 .ret)))
def F106 : AFunc :=
 .sqrt
def F107 : AFunc :=
 .fn 17 [.tmp 4, .tmp 5]
 (.seq
 (.ops [
oP 4 (.move (.k (.int .u32 0))),
oP 5 (.move (.k (.int .u32 0)))])
 (.seq
 (.ops [
oM 7 0,
oP 8 (.toInt .u64 (.t 7)),
oM 9 1,
oP 10 (.toInt .u64 (.t 9)),
oB 11 .mul 8 10,
oM 6 11])
 (.seq
 (.ops [
oM 12 6,
oP 13 (.bin .shr (.t 12) (.k (.int .u64 32))),
oP 14 (.toInt .u32 (.t 13)),
oM 15 6,
oP 16 (.toInt .u32 (.t 15)),
oM 4 14,
oM 5 16])
 .ret)))
def F108 : AFunc :=
 .fn 51 [.tmp 4, .tmp 5]
 (.seq
 (.ops [
oP 4 (.move (.k (.int .u64 0))),
oP 5 (.move (.k (.int .u64 0)))])
 (.seq
 (.ops [
oM 14 0,
oP 15 (.bin .and (.t 14) (.k (.int .u64 4294967295))),
oM 6 15])
 (.seq
 (.ops [
oM 16 0,
oP 17 (.bin .shr (.t 16) (.k (.int .u64 32))),
oM 7 17])
 (.seq
 (.ops [
oM 18 1,
oP 19 (.bin .and (.t 18) (.k (.int .u64 4294967295))),
oM 8 19])
 (.seq
 (.ops [
oM 20 1,
oP 21 (.bin .shr (.t 20) (.k (.int .u64 32))),
oM 9 21])
 (.seq
 (.ops [
oM 22 6,
oM 23 8,
oB 24 .mul 22 23,
oM 10 24])
 (.seq
 (.ops [
oM 25 7,
oM 26 8,
oB 27 .mul 25 26,
oM 28 10,
oP 29 (.bin .shr (.t 28) (.k (.int .u64 32))),
oB 30 .add 27 29,
oM 11 30])
 (.seq
 (.ops [
oM 31 11,
oP 32 (.bin .and (.t 31) (.k (.int .u64 4294967295))),
oM 12 32])
 (.seq
 (.ops [
oM 33 11,
oP 34 (.bin .shr (.t 33) (.k (.int .u64 32))),
oM 13 34])
 (.seq
 (.ops [
oM 35 12,
oM 36 6,
oM 37 9,
oB 38 .mul 36 37,
oB 39 .add 35 38,
oM 12 39])
 (.seq
 (.ops [
oM 40 7,
oM 41 9,
oB 42 .mul 40 41,
oM 43 13,
oB 44 .add 42 43,
oM 45 12,
oP 46 (.bin .shr (.t 45) (.k (.int .u64 32))),
oB 47 .add 44 46,
oM 4 47])
 (.seq
 (.ops [
oM 48 0,
oM 49 1,
oB 50 .mul 48 49,
oM 5 50])
 .ret))))))))))))
def body109 : ACode := (.seq
 (.ops [
oB 20 .lss 19 18])
 (.seq
 (.cond (.t 20)
 .skip
 (.exit 0))
 (.seq
 (.block 1
 (.seq
 (.ops [
oI 21 17 19 1,
oL 22 21,
oM 7 22])
 (.seq
 (.ops [
oM 23 0,
oM 24 7,
oP 25 (.call (.t 23) [.t 24] false),
oP 26 (.not (.t 25))])
 (.cond (.t 26)
 .ret
 .skip))))
 (.ops [
oC 27 .add 19 1,
oM 19 27]))))
def F109 : AFunc :=
 .fn 28 []
 (.seq
 (.ops [
oL 9 1,
oP 10 (.nilCheck (.t 9)),
oF 11 10 4,
oD 12 11 4,
oL 13 2,
oA 14 110 [.t 12, .t 13] false,
oM 8 14,
oX 15 8 0,
oX 16 8 1,
oM 4 15,
oM 5 16])
 (.seq
 (.ops [
oM 17 4,
oP 18 (.len (.t 17)),
oP 19 (.move (oK 0))])
 (.block 0
 (.loop body109))))
def F110 : AFunc :=
 .fn 23 [.tmp 4, .tmp 5]
 (.seq
 (.ops [
oP 2 (.box (.t 0)),
oP 4 (.move (.k (.slice none 0 0))),
oP 5 (.move (oK 0))])
 (.seq
 (.seq
 (.ops [
oD 7 2 4,
oA 8 37 [.t 7] false,
oM 6 8])
 (.seq
 (.ops [
oM 9 6,
oC 10 .neq 9 0])
 (.cond (.t 10)
 (.seq
 (.ops [
oM 11 6,
oP 4 (.move (.k (.slice none 0 0))),
oM 5 11])
 .ret)
 .skip)))
 (.seq
 (.seq
 (.ops [
oM 12 1,
oF 13 2 3,
oL 14 13,
oP 15 (.len (.t 14)),
oC 16 .sub 15 1,
oA 17 55 [.t 12, .k (.int .i64 0), .t 16] false,
oP 18 (.not (.t 17))])
 (.cond (.t 18)
 (.seq
 (.ops [
oP 4 (.move (.k (.slice none 0 0))),
oP 5 (.move (oK 4))])
 .ret)
 .skip))
 (.seq
 (.ops [
oD 19 2 4,
oM 20 1,
oA 21 112 [.t 19, .t 20] false,
oA 22 111 [.t 21] false,
oM 4 22,
oP 5 (.move (oK 0))])
 .ret))))
def F111 : AFunc :=
 .fn 5 [.tmp 2]
 (.seq
 (.ops [
oP 2 (.move (.k (.slice none 0 0)))])
 (.seq
 (.ops [
oM 3 0,
oA 4 113 [.k (.slice none 0 0), .t 3] false,
oM 2 4])
 .ret))
def F112 : AFunc :=
 .fn 6 [.tmp 4]
 (.seq
 (.ops [
oP 2 (.box (.t 0)),
oP 3 (.box (.t 1)),
oP 4 (.move (.k (.nilFunc)))])
 (.seq
 (.ops [
oP 5 (.makeFunc 114 [] [.t 3, .t 2]),
oM 4 5])
 .ret))
def F113 : AFunc :=
 .fn 13 [.tmp 4]
 (.seq
 (.ops [
oP 2 (.box (.t 0)),
oP 4 (.move (.k (.slice none 0 0)))])
 (.seq
 (.seq
 (.ops [
oM 6 1])
 (.block 0
 (.rangeF (.t 6) [7]
 (.ops [
oM 5 7])
 (.block 1
 (.ops [
oL 8 2,
oM 9 5,
oP 10 (.slit 1 1 [.int .i64 0] [(0, .t 9)]),
oP 11 (.append (.t 8) (.t 10) 1 8),
oT 2 11 1])))))
 (.seq
 (.ops [
oL 12 2,
oM 4 12])
 .ret)))
def body114 : ACode := (.seq
 (.ops [
oB 25 .lss 24 23])
 (.seq
 (.cond (.t 25)
 .skip
 (.exit 0))
 (.seq
 (.block 1
 (.seq
 (.ops [
oI 26 22 24 2,
oD 27 26 2,
oP 7 (.alloc [.int .i64 0, .int .i64 0]),
oT 7 27 2])
 (.seq
 (.ops [
oM 28 4,
oP 29 (.idxA (.t 7) (oK 0) 2 1),
oL 30 29,
oB 31 .add 28 30,
oM 32 5,
oP 33 (.idxA (.t 7) (oK 1) 2 1),
oL 34 33,
oB 35 .add 32 34,
oM 8 31,
oM 9 35])
 (.seq
 (.ops [
oM 36 8,
oF 37 2 0,
oL 38 37,
oC 39 .sub 38 1,
oA 40 55 [.t 36, .k (.int .i64 0), .t 39] false,
oM 41 40,
oN 42 41 true 9,
oQ 43 41 true (.fieldAddr (.t 2) 1),
oQ 44 41 true (.load (.t 43) none),
oQ 45 41 true (.bin .sub (.t 44) (oK 1)),
oQ 46 41 true (.call (.k (.func (.func 55) ⟨[]⟩ ⟨[]⟩)) [.t 42, .k (.int .i64 0), .t 45] false),
oP 47 (.pick (.t 41) (.t 46) (.k (.bool false))),
oM 48 47,
oN 49 48 true 0,
oN 50 48 true 9,
oQ 51 48 true (.fieldAddr (.t 2) 0),
oQ 52 48 true (.load (.t 51) none),
oQ 53 48 true (.bin .mul (.t 50) (.t 52)),
oN 54 48 true 8,
oQ 55 48 true (.bin .add (.t 53) (.t 54)),
oQ 56 48 true (.call (.t 49) [.t 55] false),
oQ 57 48 true (.not (.t 56)),
oP 58 (.pick (.t 48) (.t 57) (.k (.bool false)))])
 (.cond (.t 58)
 .ret
 .skip)))))
 (.ops [
oC 59 .add 24 1,
oM 24 59]))))
def F114 : AFunc :=
 .fn 60 []
 (.seq
 (.ops [
oL 10 1,
oF 11 2 0,
oL 12 11,
oB 13 .rem 10 12,
oL 14 1,
oF 15 2 0,
oL 16 15,
oB 17 .quo 14 16,
oM 4 13,
oM 5 17])
 (.seq
 (.ops [
oP 18 (.build [.int .i64 0, .int .i64 0] [(0, 1, .k (.int .i64 1)), (1, 1, .k (.int .i64 0))]),
oP 19 (.build [.int .i64 0, .int .i64 0] [(0, 1, .k (.int .i64 0)), (1, 1, .k (.int .i64 1))]),
oP 20 (.build [.int .i64 0, .int .i64 0] [(0, 1, .k (.int .i64 (-1))), (1, 1, .k (.int .i64 0))]),
oP 21 (.build [.int .i64 0, .int .i64 0] [(0, 1, .k (.int .i64 0)), (1, 1, .k (.int .i64 (-1)))]),
oP 22 (.slit 4 2 [.int .i64 0, .int .i64 0] [(0, .t 18), (1, .t 19), (2, .t 20), (3, .t 21)]),
oP 23 (.len (.t 22)),
oP 24 (.move (oK 0))])
 (.block 0
 (.loop body114))))
def labs : List Nat := [0, 0, 1, 2, 3, 4, 5, 6, 7, 8, 9, 10, 11, 12, 13, 14, 15, 16, 17, 18, 19, 20, 21, 22, 23, 24, 25, 26, 27, 28, 29, 30, 31, 32, 33, 34, 35, 36, 37, 38, 39, 40, 41, 42, 43, 44, 45, 46, 47, 48, 49, 50, 51, 52, 53, 54, 55, 56, 57, 58, 59, 60, 61, 62, 63, 64, 65, 66, 67, 68, 69, 70, 71, 72, 73, 74, 75, 76, 77, 78, 79, 80, 81, 82, 83, 84, 85, 86, 87, 88, 89, 90, 91, 92, 93, 94, 95, 96, 97, 98, 99, 100, 101, 102, 103, 104, 105, 106, 107, 108, 109, 110, 111, 112, 113, 114, 0, 0, 0, 0, 0, 0, 0, 0, 0, 0, 0, 0, 0, 0, 0, 0]
def lab (f : Nat) : Nat := cond (Nat.beq f 1000160) 99999 (labs.getD f 0)
def AP (n : Nat) : Option AFunc :=
 (cond (Nat.blt n 58) (cond (Nat.blt n 29) (cond (Nat.blt n 14) (cond (Nat.blt n 7) (cond (Nat.blt n 3) (cond (Nat.blt n 1) none (cond (Nat.blt n 2) none (some F2))) (cond (Nat.blt n 5) (cond (Nat.blt n 4) none (some F4)) (cond (Nat.blt n 6) none none))) (cond (Nat.blt n 10) (cond (Nat.blt n 8) (some F7) (cond (Nat.blt n 9) none none)) (cond (Nat.blt n 12) (cond (Nat.blt n 11) (some F10) (some F11)) (cond (Nat.blt n 13) (some F12) (some F13))))) (cond (Nat.blt n 21) (cond (Nat.blt n 17) (cond (Nat.blt n 15) (some F14) (cond (Nat.blt n 16) (some F15) (some F16))) (cond (Nat.blt n 19) (cond (Nat.blt n 18) none none) (cond (Nat.blt n 20) (some F19) none))) (cond (Nat.blt n 25) (cond (Nat.blt n 23) (cond (Nat.blt n 22) (some F21) (some F22)) (cond (Nat.blt n 24) (some F23) (some F24))) (cond (Nat.blt n 27) (cond (Nat.blt n 26) (some F25) (some F26)) (cond (Nat.blt n 28) (some F27) none))))) (cond (Nat.blt n 43) (cond (Nat.blt n 36) (cond (Nat.blt n 32) (cond (Nat.blt n 30) (some F29) (cond (Nat.blt n 31) (some F30) (some F31))) (cond (Nat.blt n 34) (cond (Nat.blt n 33) none none) (cond (Nat.blt n 35) none (some F35)))) (cond (Nat.blt n 39) (cond (Nat.blt n 37) (some F36) (cond (Nat.blt n 38) (some F37) (some F38))) (cond (Nat.blt n 41) (cond (Nat.blt n 40) (some F39) (some F40)) (cond (Nat.blt n 42) (some F41) (some F42))))) (cond (Nat.blt n 50) (cond (Nat.blt n 46) (cond (Nat.blt n 44) (some F43) (cond (Nat.blt n 45) (some F44) (some F45))) (cond (Nat.blt n 48) (cond (Nat.blt n 47) none (some F47)) (cond (Nat.blt n 49) none (some F49)))) (cond (Nat.blt n 54) (cond (Nat.blt n 52) (cond (Nat.blt n 51) (some F50) none) (cond (Nat.blt n 53) none none)) (cond (Nat.blt n 56) (cond (Nat.blt n 55) none (some F55)) (cond (Nat.blt n 57) (some F56) (some F57))))))) (cond (Nat.blt n 87) (cond (Nat.blt n 72) (cond (Nat.blt n 65) (cond (Nat.blt n 61) (cond (Nat.blt n 59) (some F58) (cond (Nat.blt n 60) (some F59) (some F60))) (cond (Nat.blt n 63) (cond (Nat.blt n 62) (some F61) (some F62)) (cond (Nat.blt n 64) (some F63) (some F64)))) (cond (Nat.blt n 68) (cond (Nat.blt n 66) (some F65) (cond (Nat.blt n 67) (some F66) (some F67))) (cond (Nat.blt n 70) (cond (Nat.blt n 69) (some F68) none) (cond (Nat.blt n 71) none none)))) (cond (Nat.blt n 79) (cond (Nat.blt n 75) (cond (Nat.blt n 73) none (cond (Nat.blt n 74) none none)) (cond (Nat.blt n 77) (cond (Nat.blt n 76) none none) (cond (Nat.blt n 78) none none))) (cond (Nat.blt n 83) (cond (Nat.blt n 81) (cond (Nat.blt n 80) none none) (cond (Nat.blt n 82) none (some F82))) (cond (Nat.blt n 85) (cond (Nat.blt n 84) (some F83) (some F84)) (cond (Nat.blt n 86) (some F85) (some F86)))))) (cond (Nat.blt n 101) (cond (Nat.blt n 94) (cond (Nat.blt n 90) (cond (Nat.blt n 88) (some F87) (cond (Nat.blt n 89) (some F88) (some F89))) (cond (Nat.blt n 92) (cond (Nat.blt n 91) (some F90) (some F91)) (cond (Nat.blt n 93) none (some F93)))) (cond (Nat.blt n 97) (cond (Nat.blt n 95) (some F94) (cond (Nat.blt n 96) (some F95) (some F96))) (cond (Nat.blt n 99) (cond (Nat.blt n 98) (some F97) (some F98)) (cond (Nat.blt n 100) (some F99) (some F100))))) (cond (Nat.blt n 108) (cond (Nat.blt n 104) (cond (Nat.blt n 102) (some F101) (cond (Nat.blt n 103) (some F102) (some F103))) (cond (Nat.blt n 106) (cond (Nat.blt n 105) (some F104) (some F105)) (cond (Nat.blt n 107) (some F106) (some F107)))) (cond (Nat.blt n 112) (cond (Nat.blt n 110) (cond (Nat.blt n 109) (some F108) (some F109)) (cond (Nat.blt n 111) (some F110) (some F111))) (cond (Nat.blt n 114) (cond (Nat.blt n 113) (some F112) (some F113)) (cond (Nat.blt n 115) (some F114) none)))))))
end Go.Ab.Wave
namespace Go.Ab
theorem map_ev_congr {T T' : List Value} : ∀ {l : List Opd}, (∀ x ∈ l, ev T x = ev T' x) → l.map (ev T) = l.map (ev T') := fun h => List.map_congr_left h
theorem boundA_congr {T T' : List Value} {d : Nat} {x : Option Opd} (h : ∀ y ∈ x.toList, ev T y = ev T' y) : boundA T d x = boundA T' d x := by
  cases x with
  | none => rfl
  | some y => simp [boundA, h y (by simp)]
theorem opA_congr {o : AOp} {T T' : List Value} (h : ∀ x ∈ o.opds, ev T x = ev T' x) (cv : CallFn) (g : Nat) (A : Hp) : opA o cv g T A = opA o cv g T' A := by
  cases o <;> simp only [AOp.opds, List.mem_cons, List.not_mem_nil, or_false, forall_eq_or_imp, forall_eq, List.mem_append] at h <;> simp only [opA]
  case move x => rw [h]
  case pick c a b => rw [h.1, h.2.1, h.2.2]
  case nilCheck x => rw [h]
  case bin op x y => rw [h.1, h.2]
  case beq n x y => rw [h.1, h.2]
  case eqv n s x y => rw [h.1, h.2]
  case eqNil k n x => rw [h]
  case neg x => rw [h]
  case not x => rw [h]
  case toInt k x => rw [h]
  case toF64 x => rw [h]
  case makeFunc f a b => rw [map_ev_congr fun x hx => h x (.inl hx), map_ev_congr fun x hx => h x (.inr hx)]
  case build z ps =>
    have : (ps.map fun p => (p.1, p.2.1, ev T p.2.2)) = ps.map fun p => (p.1, p.2.1, ev T' p.2.2) := List.map_congr_left fun p hp => by rw [h p.2.2 (List.mem_map.2 ⟨p, hp, rfl⟩)]
    rw [this]
  case fieldAddr x n => rw [h]
  case field x n s => rw [h]
  case idxS x i n => rw [h.1, h.2]
  case idxA x i n m => rw [h.1, h.2]
  case index x i n m g => rw [h.1, h.2]
  case reslice x lo hi n =>
    have h1 := boundA_congr (T := T) (T' := T') (d := 0) (x := lo) fun y hy => h.2 y (.inl hy)
    have h2 : (fun n => boundA T n hi) = fun n => boundA T' n hi := funext fun n => boundA_congr fun y hy => h.2 y (.inr hy)
    rw [h.1, h1, h2]
  case extract x n => rw [h]
  case len x => rw [h]
  case lenT x => rw [h]
  case min l => rw [map_ev_congr h]
  case max l => rw [map_ev_congr h]
  case box x => rw [h]
  case slit n e z ps =>
    have : (ps.map fun p => (p.1 * e, e, ev T p.2)) = ps.map fun p => (p.1 * e, e, ev T' p.2) := List.map_congr_left fun p hp => by rw [h p.2 (List.mem_map.2 ⟨p, hp, rfl⟩)]
    rw [this]
  case makeS l c e b z => rw [h.1, h.2]
  case load x s => rw [h]
  case store x v n => rw [h.1, h.2]
  case append s x e b => rw [h.1, h.2]
  case copy d s e => rw [h.1, h.2]
  case call f l ro => rw [h.1, map_ev_congr h.2]
  case callC f l => rw [h.1, map_ev_congr h.2]
def CallKeeps (cv : CallFn) : Prop := ∀ (g : Nat) (f : Value) (args : List Value) (A : Hp) (v : Value) (A' : Hp), cv g f args A = some (v, A') → A.n ≤ A'.n ∧ ∀ x, x < A.n → x < g → A'.get x = A.get x
theorem pureV_heap {r : Option Value} {A A' : Hp} {v : Value} (h : pureV r A = some (v, A')) : r = some v ∧ A' = A := by
  cases r with
  | none => simp [pureV] at h
  | some u => simp [pureV] at h; exact ⟨by rw [h.1], h.2.symm⟩
theorem opA_mem0 {o : AOp} (hm : o.mem = 0) {cv : CallFn} {g : Nat} {T : List Value} {A A' : Hp} {v : Value} (h : opA o cv g T A = some (v, A')) : A' = A ∧ ∀ g' B, opA o cv g' T B = some (v, B) := by
  cases o <;> simp only [AOp.mem] at hm <;> try (cases hm; done)
  case call f l ro => cases ro <;> simp at hm
  case fail => cases h
  case move x => cases h; exact ⟨rfl, fun _ _ => rfl⟩
  case makeFunc f a b => cases h; exact ⟨rfl, fun _ _ => rfl⟩
  all_goals
    obtain ⟨h1, h2⟩ := pureV_heap h
    exact ⟨h2, fun _ B => by simp only [opA, h1, pureV, Option.map_some]⟩
theorem opA_load {x : Opd} {s : Option Nat} {cv : CallFn} {g : Nat} {T : List Value} {A A' : Hp} {v : Value} (h : opA (.load x s) cv g T A = some (v, A')) : A' = A ∧ loadA A (ev T x) s = some v :=
  (pureV_heap h).symm
theorem opA_mem2 {o : AOp} (hm : o.mem = 2) {cv : CallFn} {g : Nat} {T : List Value} {A A' : Hp} {v : Value} (h : opA o cv g T A = some (v, A')) : (∃ b, A' = A.push b) ∧ ∀ g', opA o cv g' T A = some (v, A') := by
  cases o <;> simp only [AOp.mem] at hm <;> try (cases hm; done)
  case call f l ro => cases ro <;> simp at hm
  case alloc z => cases h; exact ⟨⟨_, rfl⟩, fun _ => rfl⟩
  case box x => cases h; exact ⟨⟨_, rfl⟩, fun _ => rfl⟩
  case slit n e z ps =>
    refine ⟨?_, fun _ => h⟩
    simp only [opA, slitA] at h
    split at h
    · cases h; exact ⟨_, rfl⟩
    · cases h
  case makeS l c e b z =>
    refine ⟨?_, fun _ => h⟩
    simp only [opA, makeSA] at h
    split at h
    · split at h
      · cases h; exact ⟨_, rfl⟩
      · cases h
    · cases h
theorem writeA_some {g x o : Nat} {A A' : Hp} {vs : List Value} (h : writeA g A x o vs = some A') :
    g ≤ x ∧ ∃ cs, A.get x = some (.cells cs false) ∧ o + vs.length ≤ cs.length ∧ A' = A.set x (some (.cells (setRange cs o vs) false)) := by
  unfold writeA at h
  split at h
  · rename_i hg
    split at h
    · rename_i cs hcs
      split at h
      · rename_i hb
        cases h
        exact ⟨hg, cs, hcs, hb.1, rfl⟩
      · cases h
    · cases h
  · cases h
theorem opA_store {x y : Opd} {n : Nat} {cv : CallFn} {g : Nat} {T : List Value} {A A' : Hp} {v : Value} (h : opA (.store x y n) cv g T A = some (v, A')) :
    ∃ b o vs, ev T x = .pointer (some ⟨b, o, none⟩) ∧ vs.length = n ∧ writeA g A b o vs = some A' := by
  simp only [opA, storeV, Option.map_eq_some_iff] at h
  obtain ⟨A1, h, he⟩ := h
  cases he
  unfold storeA at h
  split at h
  · rename_i b o heq
    split at h
    · rename_i hl
      exact ⟨b, o, _, heq, hl, h⟩
    · cases h
  · cases h
theorem stillBut_some {A A' : Hp} {f v : Value} {r : Option (Value × Hp)} (h : stillBut A f r = some (v, A')) : r = some (v, A') ∧ OnlyC A f A' := by
  cases r with
  | none => cases h
  | some p =>
    obtain ⟨v1, A1⟩ := p
    simp only [stillBut] at h
    split at h
    · rename_i hc; cases h; exact ⟨rfl, hc⟩
    · cases h
theorem stillBut_of {A A' : Hp} {f v : Value} {r : Option (Value × Hp)} (h : r = some (v, A')) (hc : OnlyC A f A') : stillBut A f r = some (v, A') := by
  subst h
  simp only [stillBut, if_pos hc]
theorem opA_len {o : AOp} {cv : CallFn} (hcv : CallKeeps cv) {g : Nat} {T : List Value} {A A' : Hp} {v : Value} (h : opA o cv g T A = some (v, A')) : A.n ≤ A'.n := by
  by_cases h0 : o.mem = 0
  · rw [(opA_mem0 h0 h).1]; exact Nat.le_refl _
  · by_cases h2 : o.mem = 2
    · obtain ⟨⟨b, rfl⟩, _⟩ := opA_mem2 h2 h; simp
    · cases o <;> simp only [AOp.mem, not_true_eq_false] at h0 h2
      case load x s => rw [(opA_load h).1]; exact Nat.le_refl _
      case store x y n =>
        obtain ⟨b, o, vs, _, _, hw⟩ := opA_store h
        obtain ⟨_, cs, _, _, rfl⟩ := writeA_some hw
        simp
      case append s x e by_ =>
        simp only [opA, appendA] at h
        repeat' (split at h)
        all_goals try (cases h; done)
        all_goals try (cases h; exact Nat.le_refl _)
        all_goals try (cases h; simp; done)
        simp only [Option.map_eq_some_iff] at h
        obtain ⟨A1, hw, he⟩ := h
        cases he
        obtain ⟨_, cs, _, _, rfl⟩ := writeA_some hw
        simp
      case copy d s e =>
        simp only [opA, copyA] at h
        repeat' (split at h)
        all_goals try (cases h; done)
        · simp only [Option.map_eq_some_iff] at h
          obtain ⟨A1, hw, he⟩ := h
          cases he
          obtain ⟨_, cs, _, _, rfl⟩ := writeA_some hw
          simp
        · cases h; exact Nat.le_refl _
      case call f l ro => exact (hcv _ _ _ _ _ _ h).1
      case callC f l => exact (hcv _ _ _ _ _ _ (stillBut_some h).1).1
theorem opA_still {o : AOp} {cv : CallFn} (hcv : CallKeeps cv) (hm : o.mem ≠ 3 ∧ o.mem ≠ 4 ∧ o.mem ≠ 5 ∧ o.mem ≠ 7) {g : Nat} {T : List Value} {A A' : Hp} {v : Value} (h : opA o cv g T A = some (v, A')) :
    ∀ x, x < A.n → A'.get x = A.get x := by
  intro x hx
  by_cases h0 : o.mem = 0
  · rw [(opA_mem0 h0 h).1]
  · by_cases h2 : o.mem = 2
    · obtain ⟨⟨b, rfl⟩, _⟩ := opA_mem2 h2 h
      rw [Hp.get_push, if_neg (by omega)]
    · cases o <;> simp only [AOp.mem, not_true_eq_false, ne_eq, false_and, and_false] at h0 h2 hm
      case load y s => rw [(opA_load h).1]
      case call f l ro =>
        cases ro with
        | false => simp at hm
        | true => exact (hcv _ _ _ _ _ _ h).2 x hx hx
theorem opA_keeps {o : AOp} {cv : CallFn} (hcv : CallKeeps cv) {g : Nat} {T : List Value} {A A' : Hp} {v : Value} (h : opA o cv g T A = some (v, A')) : ∀ x, x < A.n → x < g → A'.get x = A.get x := by
  intro x hx hg
  by_cases hm : o.mem ≠ 3 ∧ o.mem ≠ 4 ∧ o.mem ≠ 5 ∧ o.mem ≠ 7
  · exact opA_still hcv hm h x hx
  · have wr : ∀ {b off : Nat} {vs : List Value} {B : Hp}, writeA g A b off vs = some B → B.get x = A.get x := fun hw => by
      obtain ⟨hgb, cs, hcs, _, rfl⟩ := writeA_some hw
      rw [Hp.get_set hcs, if_neg (by omega)]
    cases o <;> simp only [AOp.mem] at hm <;> try (exfalso; revert hm; decide)
    case store y z n =>
      obtain ⟨b, o, vs, _, _, hw⟩ := opA_store h
      exact wr hw
    case append s y e by_ =>
      simp only [opA, appendA] at h
      repeat' (split at h)
      all_goals try (cases h; done)
      all_goals try (cases h; rfl)
      · cases h; rw [Hp.get_push, if_neg (by omega)]
      · cases h
        rename_i b off es m c cs _ hcs hc _
        rw [Hp.get_push, if_neg (by simp; omega), Hp.get_set hcs, if_neg (by omega)]
      · simp only [Option.map_eq_some_iff] at h
        obtain ⟨A1, hw, he⟩ := h
        cases he
        exact wr hw
    case copy d s e =>
      simp only [opA, copyA] at h
      repeat' (split at h)
      all_goals try (cases h; done)
      · simp only [Option.map_eq_some_iff] at h
        obtain ⟨A1, hw, he⟩ := h
        cases he
        exact wr hw
      · cases h; rfl
    case call f l ro =>
      cases ro with
      | false => exact (hcv _ _ _ _ _ _ h).2 x hx hg
      | true => exact (hcv _ _ _ _ _ _ h).2 x hx hx
    case callC f l => exact (hcv _ _ _ _ _ _ (stillBut_some h).1).2 x hx hg
theorem befStep_bit (acc : List Nat) (l : List Nat) (i : Nat) : (befStep acc l).testBit i = true ↔ ∃ e ∈ l, e = i ∨ (acc.getD e 0).testBit i = true := by
  unfold befStep
  have key : ∀ (l : List Nat) (s : Nat), (l.foldl (fun s e => s ||| 2 ^ e ||| acc.getD e 0) s).testBit i = true ↔ s.testBit i = true ∨ ∃ e ∈ l, e = i ∨ (acc.getD e 0).testBit i = true := by
    intro l
    induction l with
    | nil => intro s; simp
    | cons e l ih =>
      intro s
      rw [List.foldl_cons, ih]
      simp only [Nat.testBit_or, Nat.testBit_two_pow, Bool.or_eq_true, decide_eq_true_eq, List.mem_cons, exists_eq_or_imp]
      constructor
      · rintro ((( h | h) | h) | h)
        · exact .inl h
        · exact .inr (.inl (.inl h))
        · exact .inr (.inl (.inr h))
        · exact .inr (.inr h)
      · rintro (h | (h | h) | h)
        · exact .inl (.inl (.inl h))
        · exact .inl (.inl (.inr h))
        · exact .inl (.inr h)
        · exact .inr h
  have := key l 0
  simpa using this
theorem snoc_ind {α : Type} {P : List α → Prop} (h0 : P []) (h1 : ∀ l a, P l → P (l ++ [a])) (l : List α) : P l := by
  have : ∀ l : List α, P l.reverse := fun l => by
    induction l with
    | nil => exact h0
    | cons a l ih => rw [List.reverse_cons]; exact h1 _ _ ih
  have := this l.reverse
  rwa [List.reverse_reverse] at this
theorem befA_snoc (aft : List (List Nat)) (l : List Nat) : befA (aft ++ [l]) = befA aft ++ [befStep (befA aft) l] := by simp [befA]
theorem befA_length (aft : List (List Nat)) : (befA aft).length = aft.length := by
  refine snoc_ind (P := fun aft => (befA aft).length = aft.length) rfl (fun aft l ih => ?_) aft
  rw [befA_snoc]; simp [ih]
theorem befA_get (aft : List (List Nat)) : ∀ j, j < aft.length → (befA aft).getD j 0 = befStep (befA (aft.take j)) (aft.getD j []) := by
  refine snoc_ind (P := fun aft => ∀ j, j < aft.length → (befA aft).getD j 0 = befStep (befA (aft.take j)) (aft.getD j [])) (by intro j h; simp at h) (fun aft l ih => ?_) aft
  · intro j h
    rw [befA_snoc]
    by_cases hj : j < aft.length
    · have e1 : (befA aft ++ [befStep (befA aft) l]).getD j 0 = (befA aft).getD j 0 := by
        simp [List.getD, List.getElem?_append_left (show j < (befA aft).length by rw [befA_length]; exact hj)]
      have e2 : (aft ++ [l]).getD j [] = aft.getD j [] := by simp [List.getD, List.getElem?_append_left hj]
      rw [e1, ih j hj, e2, List.take_append_of_le_length (by omega)]
    · have hj : j = aft.length := by simp at h; omega
      subst hj
      have e1 : (befA aft ++ [befStep (befA aft) l]).getD aft.length 0 = befStep (befA aft) l := by
        simp [List.getD, befA_length]
      have e2 : (aft ++ [l]).getD aft.length [] = l := by simp [List.getD]
      rw [e1, e2, List.take_left]
theorem befA_take (aft : List (List Nat)) (k j : Nat) (hj : j < k) (hk : k ≤ aft.length) : (befA (aft.take k)).getD j 0 = (befA aft).getD j 0 := by
  rw [befA_get aft j (by omega), befA_get (aft.take k) j (by simp; omega)]
  rw [List.take_take, show min j k = j by omega]
  congr 1
  simp [List.getD, hj]
theorem bef_closed {aft : List (List Nat)} (hback : ∀ j, j < aft.length → ∀ e ∈ aft.getD j [], e < j) {S : Nat → Prop} (hS : ∀ j, j < aft.length → S j → ∀ e ∈ aft.getD j [], S e) :
    ∀ j, j < aft.length → S j → ∀ i, ((befA aft).getD j 0).testBit i = true → S i := by
  intro j
  induction j using Nat.strongRecOn with
  | _ j ih =>
    intro hj hSj i hi
    rw [befA_get aft j hj, befStep_bit] at hi
    obtain ⟨e, he, h | h⟩ := hi
    · subst h; exact hS j hj hSj e he
    · have hlt := hback j hj e he
      rw [befA_take aft j e hlt (by omega)] at h
      exact ih e hlt (by omega) (hS j hj hSj e he) i h
theorem bef_lt {aft : List (List Nat)} (hback : ∀ j, j < aft.length → ∀ e ∈ aft.getD j [], e < j) : ∀ j, j < aft.length → ∀ i, ((befA aft).getD j 0).testBit i = true → i < j := by
  intro j
  induction j using Nat.strongRecOn with
  | _ j ih =>
    intro hj i hi
    rw [befA_get aft j hj, befStep_bit] at hi
    obtain ⟨e, he, h | h⟩ := hi
    · subst h; exact hback j hj e he
    · have hlt := hback j hj e he
      rw [befA_take aft j e hlt (by omega)] at h
      have := ih e hlt (by omega) i h
      omega
def Step (cv : CallFn) (g : Nat) (o : AOper) (s s' : List Value × Hp) : Prop :=
  (wantedA o.guard s.1 = true ∧ o.apart.all (apartA s.1) = true ∧ ∃ v, opA o.op cv g s.1 s.2 = some (v, s'.2) ∧ s'.1 = putA o.dst s.1 v) ∨
  (wantedA o.guard s.1 = false ∧ s'.2 = s.2 ∧ s'.1 = putA o.dst s.1 undef)
theorem operA_step {cv : CallFn} {g : Nat} {o : AOper} {next : List Value → Hp → Option (List Value × Hp)} {T : List Value} {A : Hp} {r : List Value × Hp} (h : operA o next cv g T A = some r) :
    ∃ s', Step cv g o (T, A) s' ∧ next s'.1 s'.2 = some r := by
  unfold operA at h
  split at h
  · rename_i hw
    split at h
    · rename_i ha
      split at h
      · rename_i v A' hv
        rw [forceV_eq] at h
        exact ⟨(putA o.dst T v, A'), .inl ⟨hw, ha, v, hv, rfl⟩, h⟩
      · cases h
    · cases h
  · rename_i hw
    exact ⟨(putA o.dst T undef, A), .inr ⟨by simpa using hw, rfl, rfl⟩, h⟩
theorem opsA_states {cv : CallFn} {g : Nat} : ∀ {al : List AOper} {T : List Value} {A : Hp} {r : List Value × Hp}, opsA cv g al T A = some r →
    ∃ st : Nat → List Value × Hp, st 0 = (T, A) ∧ st al.length = r ∧ ∀ i o, al[i]? = some o → Step cv g o (st i) (st (i + 1)) := by
  intro al
  induction al with
  | nil => intro T A r h; simp at h; exact ⟨fun _ => (T, A), rfl, h, by simp⟩
  | cons o al ih =>
    intro T A r h
    rw [opsA_cons] at h
    obtain ⟨s', hs, hn⟩ := operA_step h
    obtain ⟨st, h0, h1, h2⟩ := ih hn
    refine ⟨fun i => match i with | 0 => (T, A) | i + 1 => st i, rfl, h1, fun i o' hi => ?_⟩
    cases i with
    | zero => simp at hi; subst hi; show Step cv g o (T, A) (st 0); rw [h0]; exact hs
    | succ i => exact h2 i o' (by simpa using hi)
end Go.Ab
namespace Go.Ab
def HK (g : Nat) (A A' : Hp) : Prop := A.n ≤ A'.n ∧ ∀ x, x < A.n → x < g → A'.get x = A.get x
theorem HK.refl (g : Nat) (A : Hp) : HK g A A := ⟨Nat.le_refl _, fun _ _ _ => rfl⟩
theorem HK.trans {g : Nat} {A A1 A2 : Hp} (h1 : HK g A A1) (h2 : HK g A1 A2) : HK g A A2 :=
  ⟨Nat.le_trans h1.1 h2.1, fun x hx hg => by rw [h2.2 x (Nat.lt_of_lt_of_le hx h1.1) hg, h1.2 x hx hg]⟩
theorem HK.push (g : Nat) (A : Hp) (b : ABlk) : HK g A (A.push b) := ⟨by simp, fun x hx _ => by rw [Hp.get_push, if_neg (by omega)]⟩
theorem HK.set {g : Nat} {A A1 : Hp} (h : HK g A A1) {x : Nat} {b0 : ABlk} (hx : A1.get x = some b0) (hg : g ≤ x ∨ A.n ≤ x) (b : Option ABlk) : HK g A (A1.set x b) :=
  ⟨h.1, fun y hy hyg => by rw [Hp.get_set hx, if_neg (by omega)]; exact h.2 y hy hyg⟩
def SK (g : Nat) (st st' : St) : Prop := HK g st.A st'.A ∧ ∃ ns, st'.D = ns ++ st.D ∧ ∀ x ∈ ns, st.A.n ≤ x
theorem SK.refl (g : Nat) (st : St) : SK g st st := ⟨HK.refl _ _, [], rfl, by simp⟩
theorem SK.trans {g : Nat} {s s1 s2 : St} (h1 : SK g s s1) (h2 : SK g s1 s2) : SK g s s2 := by
  obtain ⟨k1, n1, e1, m1⟩ := h1
  obtain ⟨k2, n2, e2, m2⟩ := h2
  refine ⟨k1.trans k2, n2 ++ n1, by rw [e2, e1, List.append_assoc], fun x hx => ?_⟩
  rcases List.mem_append.1 hx with h | h
  · exact Nat.le_trans k1.1 (m2 x h)
  · exact m1 x h
def RunKeeps (run : RunFn) : Prop := ∀ (g : Nat) (rd : Option Nat) (st : St) (ex : Ex) (st' : St), run g rd st = some (ex, st') → SK g st st'
def FnKeeps (cf : Nat → Nat → List Value → Hp → Option (Value × Hp)) : Prop := ∀ (g f : Nat) (args : List Value) (A : Hp) (v : Value) (A' : Hp), cf g f args A = some (v, A') → HK g A A'
theorem takeMarks_keeps {g : Nat} {A : Hp} : ∀ {D : List Nat} {A1 A' : Hp}, HK g A A1 → (∀ x ∈ D, A.n ≤ x) → takeMarks A1 D = some A' → HK g A A' := by
  intro D
  induction D with
  | nil => intro A1 A' h _ ht; simp [takeMarks] at ht; rw [← ht]; exact h
  | cons x D ih =>
    intro A1 A' h hD ht
    simp only [takeMarks] at ht
    split at ht
    · rename_i hx
      exact ih (h.set hx (.inr (hD x (by simp))) none) (fun y hy => hD y (by simp [hy])) ht
    · cases ht
theorem enterA_keeps {run : ACode → RunFn} (hr : ∀ c, RunKeeps (run c)) {g : Nat} {args : List Value} {A A' : Hp} {v : Value} {af : Option AFunc} (h : enterA run g args A af = some (v, A')) : HK g A A' := by
  unfold enterA at h
  split at h
  · unfold finishA at h
    split at h
    · cases h
    · rename_i ex st' _ heq
      split at h
      · rename_i A1 hA1
        simp only [Option.map_eq_some_iff] at h
        obtain ⟨u, _, he⟩ := h
        cases he
        obtain ⟨k, ns, e, m⟩ := hr _ _ _ _ _ _ heq
        refine takeMarks_keeps k (fun x hx => m x ?_) hA1
        rw [e] at hx; simpa using hx
      · cases h
    · cases h
  · rw [(pureV_heap h).2]; exact HK.refl _ _
  · cases h
theorem callF_keeps {AP : Nat → Option AFunc} {K : Nat → Option Spec} {run : ACode → RunFn} (hK : ∀ h S, K h = some S → ∀ g args A v A', S g args A = some (v, A') → HK g A A') (hr : ∀ c, RunKeeps (run c)) : FnKeeps (callF AP K run) := by
  intro g f args A v A' h
  unfold callF at h
  split at h
  · rename_i S hS
    exact hK f S hS g args A v A' h
  · exact enterA_keeps hr h
theorem yieldA_keeps {run : ACode → RunFn} (hr : ∀ c, RunKeeps (run c)) {g l : Nat} {args : List Value} {A A' : Hp} {v : Value} (h : yieldA run g l args A = some (v, A')) : HK g A A' := by
  unfold yieldA at h
  split at h
  · rename_i r hl
    split at h
    · rename_i hg
      unfold beginRoundA at h
      split at h
      · rename_i st1 heq
        have k1 := (hr _ _ _ _ _ _ heq).1
        split at h
        · rename_i r1 hl1
          split at h
          · unfold endRoundA at h
            split at h
            · rename_i ex st2 heq2
              have k2 := (hr _ _ _ _ _ _ heq2).1
              split at h
              · rename_i r2 hl2
                cases h
                exact ((k1.set hl1 (.inl hg.2) _).trans k2).set hl2 (.inl hg.2) _
              · cases h
            · cases h
          · cases h
        · cases h
      · cases h
    · cases h
  · cases h
theorem callV_keeps {AP : Nat → Option AFunc} {K : Nat → Option Spec} {run : ACode → RunFn} (hK : ∀ h S, K h = some S → ∀ g args A v A', S g args A = some (v, A') → HK g A A') (hr : ∀ c, RunKeeps (run c)) : CallKeeps (callV AP K run) := by
  intro g f args A v A' h
  unfold callV at h
  split at h
  · exact callF_keeps hK hr _ _ _ _ _ _ h
  · exact yieldA_keeps hr h
  · cases h
theorem operA_keeps {cv : CallFn} (hcv : CallKeeps cv) {o : AOper} {next : List Value → Hp → Option (List Value × Hp)} {g : Nat} {T T' : List Value} {A A' : Hp}
    (hn : ∀ T1 A1, next T1 A1 = some (T', A') → HK g A1 A') (h : operA o next cv g T A = some (T', A')) : HK g A A' := by
  unfold operA at h
  split at h
  · split at h
    · split at h
      · rename_i v A1 hv
        rw [forceV_eq] at h
        exact HK.trans ⟨opA_len hcv hv, opA_keeps hcv hv⟩ (hn _ _ h)
      · cases h
    · cases h
  · exact hn _ _ h
theorem opsA_keeps {cv : CallFn} (hcv : CallKeeps cv) {g : Nat} : ∀ {l : List AOper} {T T' : List Value} {A A' : Hp}, opsA cv g l T A = some (T', A') → HK g A A' := by
  intro l
  induction l with
  | nil => intro T T' A A' h; simp at h; rw [← h.2]; exact HK.refl _ _
  | cons o l ih =>
    intro T T' A A' h
    rw [opsA_cons] at h
    exact operA_keeps hcv (fun _ _ h => ih h) h
theorem seqA_keeps {b : RunFn} (hb : RunKeeps b) {g : Nat} {rd : Option Nat} {st : St} {r : Option (Ex × St)} (hr : ∀ ex st', r = some (ex, st') → SK g st st') {ex : Ex} {st' : St} (h : seqA b g rd r = some (ex, st')) : SK g st st' := by
  unfold seqA at h
  split at h
  · exact (hr _ _ rfl).trans (hb _ _ _ _ _ h)
  · exact hr _ _ h
theorem iterA_keeps {body : RunFn} (hb : RunKeeps body) : ∀ m, RunKeeps (iterA body m) := by
  intro m
  induction m with
  | zero => intro g rd st ex st' h; cases h
  | succ m ih =>
    intro g rd st ex st' h
    exact seqA_keeps ih (fun ex st' h => hb _ _ _ _ _ h) (show seqA (iterA body m) g rd (body g rd st) = some (ex, st') from h)
theorem endLoopA_keeps {g l : Nat} {T : List Value} {D : List Nat} {st : St} {r : Option (Value × Hp)} (hr : ∀ v A3, r = some (v, A3) → HK g st.A A3) (hl : st.A.n ≤ l) (hD : ∃ ns, D = ns ++ st.D ∧ ∀ x ∈ ns, st.A.n ≤ x) {ex : Ex} {st' : St}
    (h : endLoopA l T D r = some (ex, st')) : SK g st st' := by
  unfold endLoopA at h
  split at h
  · rename_i v A3
    split at h
    · rename_i r' hl'
      have k := (hr _ _ rfl).set hl' (.inr hl) (some (.loop { r' with state := .exhausted }))
      split at h
      · cases h
      · split at h <;> cases h <;> exact ⟨k, hD⟩
    · cases h
  · cases h
theorem codeA_keeps {cv : CallFn} {cf : Nat → Nat → List Value → Hp → Option (Value × Hp)} (hcv : CallKeeps cv) (hcf : FnKeeps cf) (m : Nat) : ∀ c, RunKeeps (codeA cv cf m c) := by
  intro c
  induction c with
  | skip => intro g rd st ex st' h; cases h; exact SK.refl _ _
  | ops l =>
    intro g rd st ex st' h
    replace h : opsSt cv g l st = some (ex, st') := h
    simp only [opsSt, Option.map_eq_some_iff] at h
    obtain ⟨⟨T', A'⟩, h, he⟩ := h
    cases he
    exact ⟨opsA_keeps hcv h, [], rfl, by simp⟩
  | seq a b iha ihb =>
    intro g rd st ex st' h
    exact seqA_keeps ihb (fun ex st' h => iha _ _ _ _ _ h) (show seqA (codeA cv cf m b) g rd (codeA cv cf m a g rd st) = some (ex, st') from h)
  | cond c a b iha ihb =>
    intro g rd st ex st' h
    replace h : condA (codeA cv cf m a) (codeA cv cf m b) g rd st (ev st.T c) = some (ex, st') := h
    unfold condA at h
    split at h
    · exact iha _ _ _ _ _ h
    · exact ihb _ _ _ _ _ h
    · cases h
  | block id c ih =>
    intro g rd st ex st' h
    replace h : inBlk id (codeA cv cf m c g rd st) = some (ex, st') := h
    unfold inBlk at h
    split at h
    · rename_i i st1 heq
      have k := ih _ _ _ _ _ heq
      split at h <;> (cases h; exact k)
    · exact ih _ _ _ _ _ h
  | loop c ih => exact iterA_keeps ih m
  | exit id => intro g rd st ex st' h; cases h; exact SK.refl _ _
  | ret => intro g rd st ex st' h; cases h; exact SK.refl _ _
  | rangeF f ps assign body _ _ =>
    intro g rd st ex st' h
    replace h : rangeA cf ps assign body g rd st (ev st.T f) = some (ex, st') := h
    unfold rangeA at h
    split at h
    · split at h
      · refine endLoopA_keeps (fun v A3 h3 => ?_) (Nat.le_succ _) ⟨[st.A.n], rfl, by simp⟩ h
        exact ((HK.push g st.A _).trans (HK.push g _ _)).trans (hcf _ _ _ _ _ _ h3)
      · split at h
        · refine endLoopA_keeps (fun v A3 h3 => ?_) (Nat.le_refl _) ⟨[], rfl, by simp⟩ h
          exact (HK.push g st.A _).trans (hcf _ _ _ _ _ _ h3)
        · cases h
    · cases h
theorem exec_keeps {AP : Nat → Option AFunc} {K : Nat → Option Spec} (hK : ∀ h S, K h = some S → ∀ g args A v A', S g args A = some (v, A') → HK g A A') (m : Nat) : ∀ d c, RunKeeps (exec AP K m d c) := by
  intro d
  induction d with
  | zero => intro c g rd st ex st' h; cases h
  | succ d ih => exact codeA_keeps (callV_keeps hK ih) (callF_keeps hK ih) m
end Go.Ab
namespace Go.Ab
def sz (P : Program) (t : TypeId) : Option Nat := (P.info? t).map (·.size)
def zeroOf (P : Program) (t : TypeId) : Option (List Value) := (P.info? t).bind fun i => i.zero.bind fun z => if z.cells.toList.all simple = true ∧ z.cells.toList.length = i.size then some z.cells.toList else none
def isAggA (P : Program) (t : TypeId) : Option Bool :=
  match P.underlying t with
  | some (.struct _) => some true
  | some (.array _ _) => some true
  | some _ => some false
  | none => none
def cellsA (P : Program) (t : TypeId) : Option (Option Nat) :=
  match isAggA P t with
  | some true => (sz P t).map some
  | some false => some none
  | none => none
def intT (P : Program) : Nat → TypeId → Option (List Bool)
  | 0, _ => none
  | d + 1, t =>
    match P.underlying t with
    | some (.int _) => some [false]
    | some .bool => some [true]
    | some (.array n e) => match intT P d e with
      | some s => if sz P e = some s.length then some (List.replicate n s).flatten else none
      | none => none
    | some (.struct fs) =>
      if fs.toList.all (fun f => f.name != "_") = true ∧ P.stoodInHeld t = false then
        fs.toList.foldlM (fun acc f => if f.offset = acc.length then (intT P d f.type).bind fun s => if sz P f.type = some s.length then some (acc ++ s) else none else none) []
      else none
    | _ => none
section
variable (P : Program) (lab : Nat → Nat) (nt : Nat)
def compOpd : Operand → Option Opd
  | .tmp t => if t < nt then some (.t t) else none
  | .const v => if flat v then some (.k v) else none
  | .global _ => none
  | .func f => some (.k (.func (.func (lab f)) #[] #[]))
def compOpds (l : List Operand) : Option (List Opd) := l.mapM (compOpd lab nt)
def compOptOpd : Option Operand → Option (Option Opd)
  | none => some none
  | some x => (compOpd lab nt x).map some
def isNilC (kind : Nat) : Operand → Bool
  | .const (.pointer none) => kind == 0
  | .const (.slice none 0 0) => kind == 1
  | .const .nilFunc => kind == 2
  | _ => false
def compNil (kind : Nat) (op : BinOp) (x y : Operand) : Option AOp :=
  if isNilC kind y then
    match op with
    | .eql => (compOpd lab nt x).map fun a => .eqNil kind false a
    | .neq => (compOpd lab nt x).map fun a => .eqNil kind true a
    | _ => none
  else none
def compBin (op : BinOp) (t : TypeId) (x y : Operand) : Option AOp :=
  match P.underlying t with
  | some (.int _) => (compOpd lab nt x).bind fun a => (compOpd lab nt y).map fun b => .bin op a b
  | some .bool => match op with
    | .eql => (compOpd lab nt x).bind fun a => (compOpd lab nt y).map fun b => .beq false a b
    | .neq => (compOpd lab nt x).bind fun a => (compOpd lab nt y).map fun b => .beq true a b
    | _ => none
  | some (.struct _) | some (.array _ _) =>
    match intT P 20 t with
    | some sh =>
      if P.eqGuardType P.depth t = false then
        match op with
        | .eql => (compOpd lab nt x).bind fun a => (compOpd lab nt y).map fun b => .eqv false sh a b
        | .neq => (compOpd lab nt x).bind fun a => (compOpd lab nt y).map fun b => .eqv true sh a b
        | _ => none
      else none
    | none => none
  | some (.pointer _) => compNil lab nt 0 op x y
  | some (.slice _) => compNil lab nt 1 op x y
  | some (.func _ _ _) => compNil lab nt 2 op x y
  | _ => none
def partPlace (t : TypeId) (i : Nat) : Option (Nat × Nat) :=
  match P.underlying t with
  | some (.struct fs) => match fs[i]? with
    | some f => (sz P f.type).map fun s => (f.offset, s)
    | none => none
  | some (.array _ e) => (sz P e).map fun s => (i * s, s)
  | _ => none
def allSized (t : TypeId) : Bool :=
  match P.underlying t with
  | some (.struct fs) => fs.toList.all fun f => (sz P f.type).isSome
  | some (.array _ e) => (sz P e).isSome
  | _ => false
def compParts (t : TypeId) : List (Nat × Operand) → Option (List (Nat × Nat × Opd))
  | [] => some []
  | (i, x) :: rest => match partPlace P t i, compOpd lab nt x, compParts t rest with
    | some (o, s), some a, some r => some ((o, s, a) :: r)
    | _, _, _ => none
def compParts1 : List (Nat × Operand) → Option (List (Nat × Opd))
  | [] => some []
  | (i, x) :: rest => match compOpd lab nt x, compParts1 rest with
    | some a, some r => some ((i, a) :: r)
    | _, _ => none
def elemOf (t : TypeId) : Option TypeId :=
  match P.underlying t with
  | some (.slice e) => some e
  | _ => none
def cwOf : Bool := Nat.beq (lab (1000000 + nt)) 99999
def Opd.isTmp : Opd → Bool
  | .t _ => true
  | .k _ => false
def compCall (c : Call) (ro : Bool) : Option AOp :=
  match c.callee with
  | .builtin .len => match c.args.toList, c.argTypes.toList with
    | [x], [t] => match P.underlying t with
      | some (.slice _) => (compOpd lab nt x).map fun a => .len a
      | some .string => (compOpd lab nt x).map fun a => .lenT a
      | _ => none
    | _, _ => none
  | .builtin .min => (compOpds lab nt c.args.toList).map fun l => .min l
  | .builtin .max => (compOpds lab nt c.args.toList).map fun l => .max l
  | .builtin .append => match c.args.toList, c.argTypes.toList with
    | [s, x], [t, t'] =>
      if t = t' then
        match elemOf P t with
        | some e => match P.info? e, zeroOf P e, compOpd lab nt s, compOpd lab nt x with
          | some i, some _, some a, some b => some (.append a b i.size i.bytes)
          | _, _, _, _ => none
        | none => none
      else none
    | _, _ => none
  | .builtin .copy => match c.args.toList, c.argTypes.toList with
    | [d, s], t :: _ => match elemOf P t with
      | some e => match sz P e, compOpd lab nt d, compOpd lab nt s with
        | some n, some a, some b => some (.copy a b n)
        | _, _, _ => none
      | none => none
    | _, _ => none
  | .value f => match compOpd lab nt f, compOpds lab nt c.args.toList with
    | some a, some l => some (if ro && cwOf lab nt && a.isTmp then .callC a l else .call a l ro)
    | _, _ => none
  | _ => none
def compOp (ro : Bool) : Op → Option AOp
  | .move x => (compOpd lab nt x).map fun a => .move a
  | .assign x => (compOpd lab nt x).map fun a => .move a
  | .pick c a b => match compOpd lab nt c, compOpd lab nt a, compOpd lab nt b with
    | some c, some a, some b => some (.pick c a b)
    | _, _, _ => none
  | .nilCheck x => (compOpd lab nt x).map fun a => .nilCheck a
  | .binOp op t x y _ => compBin P lab nt op t x y
  | .unOp op _ x => match op with
    | .neg => (compOpd lab nt x).map fun a => .neg a
    | .not => (compOpd lab nt x).map fun a => .not a
    | _ => none
  | .convert src dst x => match P.underlying src, P.underlying dst with
    | some _, some (.int k) => (compOpd lab nt x).map fun a => .toInt k a
    | some _, some (.float .f64) => (compOpd lab nt x).map fun a => .toF64 a
    | _, _ => none
  | .makeFunc (.func f) first captured => match compOpds lab nt first.toList, compOpds lab nt captured.toList with
    | some a, some b => some (.makeFunc (lab f) a b)
    | _, _ => none
  | .build t parts => match zeroOf P t, compParts P lab nt t parts.toList with
    | some z, some l => if allSized P t then some (.build z l) else none
    | _, _ => none
  | .fieldAddr s x f => match P.underlying s with
    | some (.struct fs) => match fs[f]? with
      | some fd => match sz P fd.type, compOpd lab nt x with
        | some n, some a => if n = 0 then none else some (.fieldAddr a fd.offset)
        | _, _ => none
      | none => none
    | _ => none
  | .field s x f => match P.underlying s with
    | some (.struct fs) => match fs[f]? with
      | some fd => match cellsA P fd.type, compOpd lab nt x with
        | some n, some a => some (.field a fd.offset n)
        | _, _ => none
      | none => none
    | _ => none
  | .indexAddr t x i => match P.underlying t with
    | some (.slice e) => match sz P e, compOpd lab nt x, compOpd lab nt i with
      | some s, some a, some b => some (.idxS a b s)
      | _, _, _ => none
    | some (.array n e) => match sz P e, compOpd lab nt x, compOpd lab nt i with
      | some s, some a, some b => some (.idxA a b n s)
      | _, _, _ => none
    | _ => none
  | .index t x i => match P.underlying t with
    | some (.array n e) => match sz P e, isAggA P e, compOpd lab nt x, compOpd lab nt i with
      | some s, some ag, some a, some b => some (.index a b n s ag)
      | _, _, _, _ => none
    | _ => none
  | .slice t x lo hi none => match elemOf P t with
    | some e => match sz P e, compOpd lab nt x, compOptOpd lab nt lo, compOptOpd lab nt hi with
      | some s, some a, some l, some h => some (.reslice a l h s)
      | _, _, _, _ => none
    | none => none
  | .extract x i => (compOpd lab nt x).map fun a => .extract a i
  | .alloc t => (zeroOf P t).map fun z => .alloc z
  | .box _ x => (compOpd lab nt x).map fun a => .box a
  | .buildSlice t n parts => match elemOf P t with
    | some e => match sz P e, zeroOf P e, compParts1 lab nt parts.toList with
      | some s, some z, some l => if n * s ≤ 16777216 then some (.slit n s z l) else none
      | _, _, _ => none
    | none => none
  | .makeSlice t l c => match elemOf P t with
    | some e => match P.info? e, zeroOf P e, compOpd lab nt l, compOpd lab nt c with
      | some i, some z, some a, some b => some (.makeS a b i.size i.bytes z)
      | _, _, _, _ => none
    | none => none
  | .load t x => match cellsA P t, compOpd lab nt x with
    | some n, some a => some (.load a n)
    | _, _ => none
  | .store t x v => match sz P t, compOpd lab nt x, compOpd lab nt v with
    | some n, some a, some b => some (.store a b n)
    | _, _, _ => none
  | .call c => compCall P lab nt c ro
  | _ => some .fail
def isCall : Op → Bool
  | .call { callee := .value _, .. } => true
  | _ => false
def dstOf (ops : List Oper) (i : Nat) : Option Nat := (ops[i]?).bind (·.dst)
def edgesOf (o : Oper) : List Nat := (o.after.toList.filter fun e => Region.binds .any e).map (·.on)
def addrOf (ops : List Oper) (i : Nat) : Option (Bool × Opd × Nat) :=
  match ops[i]? with
  | some o => match o.op with
    | .load t (.tmp x) => (cellsA P t).map fun n => (false, .t x, n.getD 1)
    | .store t (.tmp x) _ => (sz P t).map fun n => (true, .t x, n)
    | _ => none
  | none => none
def calleeT (ops : List Oper) (i : Nat) : Option Nat :=
  match ops[i]? with
  | some o => match o.op with
    | .call { callee := .value (.tmp f), .. } => some f
    | _ => none
  | none => none
def heldPair (ops : List Oper) (i j : Nat) : List (Opd × Nat × Opd × Nat) :=
  match calleeT ops i, addrOf P ops j with
  | some f, some (false, a, n) => [(.t f, 0, a, n)]
  | _, _ => []
def heldPairs (ops : List Oper) (bef : List Nat) (i : Nat) : List Nat → List (Opd × Nat × Opd × Nat)
  | [] => []
  | j :: rest => (if ordered bef i j then [] else heldPair P ops i j ++ heldPair P ops j i) ++ heldPairs ops bef i rest
def apartPairs (ops : List Oper) (bef : List Nat) (i : Nat) : List Nat → List (Opd × Nat × Opd × Nat)
  | [] => []
  | j :: rest =>
    match addrOf P ops i, addrOf P ops j with
    | some (s, a, n), some (s', b, m) => if !ordered bef i j && s != s' then (a, n, b, m) :: apartPairs ops bef i rest else apartPairs ops bef i rest
    | _, _ => apartPairs ops bef i rest
def aloneCall (ops : List Oper) (bef : List Nat) (i : Nat) : Bool :=
  (List.range ops.length).all fun j => j == i || ordered bef i j || match ops[j]? with
    | some o => match o.op with
      | .load .. => false
      | .store .. => false
      | .alloc .. => false
      | .box .. => false
      | .buildSlice .. => false
      | .makeSlice .. => false
      | .call { callee := .value _, .. } => false
      | .call { callee := .builtin .append, .. } => false
      | .call { callee := .builtin .copy, .. } => false
      | _ => true
    | none => true
def compGuard (ops : List Oper) : Option (Nat × Bool) → Option (Option (Nat × Bool))
  | none => some none
  | some (j, b) => match dstOf ops j with
    | some d => if d < nt then some (some (d, b)) else none
    | none => none
def compDst : Option Nat → Bool
  | none => true
  | some d => d < nt
def compOper (ops : List Oper) (ro : Bool) (ap : List (Opd × Nat × Opd × Nat)) (o : Oper) : Option AOper :=
  match compOp P lab nt ro o.op, compGuard nt ops o.guard with
  | some a, some g => if compDst nt o.dst then some ⟨o.dst, g, ap, a⟩ else none
  | _, _ => none
def compOpers (ops : List Oper) (draw : Bool) (bef : List Nat) : Nat → List Oper → Option (List AOper)
  | _, [] => some []
  | i, o :: rest => match compOper P lab nt ops (draw && isCall o.op && !aloneCall ops bef i) (if draw then (if cwOf lab nt then apartPairs P ops bef i (List.range i) ++ heldPairs P ops bef i (List.range i) else apartPairs P ops bef i (List.range i)) else []) o, compOpers ops draw bef (i + 1) rest with
    | some a, some r => some (a :: r)
    | _, _ => none
def compCode : Code → Option ACode
  | .skip => some .skip
  | .region _ ops draw =>
    match compOpers P lab nt ops.toList draw (befA (ops.toList.map edgesOf)) 0 ops.toList with
    | some l => if !draw || drawOk l (ops.toList.map edgesOf) then some (.ops l) else none
    | none => none
  | .seq a b => match compCode a, compCode b with
    | some x, some y => some (.seq x y)
    | _, _ => none
  | .cond c a b => match compOpd lab nt c, compCode a, compCode b with
    | some z, some x, some y => some (.cond z x y)
    | _, _, _ => none
  | .block id c => (compCode c).map fun x => .block id x
  | .loop c => (compCode c).map fun x => .loop x
  | .exit id => some (.exit id)
  | .ret => some .ret
  | .label _ => some .skip
  | .rangeFunc f ps a b => match compOpd lab nt f, compCode a, compCode b with
    | some z, some x, some y => if ps.toList.all (fun p => decide (p < nt)) then some (.rangeF z ps.toList x y) else none
    | _, _, _ => none
  | _ => none
end
def compRes (P : Program) (nt : Nat) : ResultVar → Option ARes
  | .tmp t => if t < nt then some (.tmp t) else none
  | .cell a t => match cellsA P t with
    | some n => if a < nt then some (.cell a n) else none
    | none => none
def compFunc (P : Program) (lab : Nat → Nat) (fn : Func) : Option AFunc :=
  if fn.name == "runtime.NumGoroutine" then none else
  match fn.body with
  | some c => match compCode P lab fn.ntmps c, fn.results.toList.mapM (compRes P fn.ntmps) with
    | some x, some r => some (.fn fn.ntmps r x)
    | _, _ => none
  | none => if fn.name == "math.sqrt" then some .sqrt else none
end Go.Ab
namespace Go.Ab
structure Env where
  P : Program
  lab : Nat → Nat
  AP : Nat → Option AFunc
  ok : ∀ f af, AP (lab f) = some af → ∃ fn, P.funcs[f]? = some fn ∧ compFunc P lab fn = some af
  sqrt : ∀ f, AP (lab f) = some .sqrt → ∃ fn, P.funcs[f]? = some fn ∧ (fn.name == "runtime.NumGoroutine") = false ∧ fn.body = none ∧ Extern.findNext fn = none ∧ Extern.find fn = some Extern.MathSqrt.sqrt
  mixed : P.follows .mixedOrders = true
structure Ent where
  blk : Nat
  off : Nat
  size : Nat
abbrev NM := Nat → Option Ent
inductive RelV (lab : Nat → Nat) (φ : NM) : Value → Value → Prop
  | bool (b : Bool) : RelV lab φ (.bool b) (.bool b)
  | int (k : IntKind) (n : Int) : RelV lab φ (.int k n) (.int k n)
  | float (k : FloatKind) (n : Nat) : RelV lab φ (.float k n) (.float k n)
  | string (s : ByteArray) : RelV lab φ (.string s) (.string s)
  | nilPtr : RelV lab φ (.pointer none) (.pointer none)
  | ptr {x o : Nat} {e : Ent} (h : φ x = some e) : RelV lab φ (.pointer (some ⟨x, o, none⟩)) (.pointer (some ⟨e.blk, e.off + o, none⟩))
  | nilSlice : RelV lab φ (.slice none 0 0) (.slice none 0 0)
  | slice {x o s n c p q : Nat} {e : Ent} (h : φ x = some e) (hn : n ≤ q) (hc : c ≤ q) (hq : q = 0 ∨ (p = e.off + o ∧ p + q * s ≤ e.size)) :
      RelV lab φ (.slice (some ⟨x, o, some s⟩) n c) (.slice (some ⟨e.blk, p, none⟩) n q)
  | func {f f' : FuncId} {xs ys zs ws : Array Value} (hf : lab f' = f) (hs : xs.size = ys.size) (h : ∀ (i : Nat) v v', xs[i]? = some v → ys[i]? = some v' → RelV lab φ v v')
      (hs' : zs.size = ws.size) (h' : ∀ (i : Nat) v v', zs[i]? = some v → ws[i]? = some v' → RelV lab φ v v') : RelV lab φ (.func (.func f) xs zs) (.func (.func f') ys ws)
  | yield {x : Nat} {e : Ent} (h : φ x = some e) : RelV lab φ (.func (.yield x) #[] #[]) (.func (.yield e.blk) #[] #[])
  | nilFunc : RelV lab φ .nilFunc .nilFunc
  | nilIface : RelV lab φ .nilIface .nilIface
  | agg {xs ys : Array Value} (hs : xs.size = ys.size) (h : ∀ (i : Nat) v v', xs[i]? = some v → ys[i]? = some v' → RelV lab φ v v') : RelV lab φ (.agg xs) (.agg ys)
  | tuple {xs ys : Array Value} (hs : xs.size = ys.size) (h : ∀ (i : Nat) v v', xs[i]? = some v → ys[i]? = some v' → RelV lab φ v v') : RelV lab φ (.tuple xs) (.tuple ys)
def Ext (φ φ' : NM) : Prop := ∀ x e, φ x = some e → φ' x = some e
theorem Ext.refl (φ : NM) : Ext φ φ := fun _ _ h => h
theorem Ext.trans {φ φ' φ'' : NM} (h : Ext φ φ') (h' : Ext φ' φ'') : Ext φ φ'' := fun x e hx => h' x e (h x e hx)
section
variable {lab : Nat → Nat}
theorem RelV.mono {φ φ' : NM} (hφ : Ext φ φ') {v v' : Value} (h : RelV lab φ v v') : RelV lab φ' v v' := by
  induction h with
  | bool b => exact .bool b
  | int k n => exact .int k n
  | float k n => exact .float k n
  | string s => exact .string s
  | nilPtr => exact .nilPtr
  | ptr h => exact .ptr (hφ _ _ h)
  | nilSlice => exact .nilSlice
  | slice h hn hc hq => exact .slice (hφ _ _ h) hn hc hq
  | func hf hs _ hs' _ ih ih' => exact .func hf hs ih hs' ih'
  | yield h => exact .yield (hφ _ _ h)
  | nilFunc => exact .nilFunc
  | nilIface => exact .nilIface
  | agg hs _ ih => exact .agg hs ih
  | tuple hs _ ih => exact .tuple hs ih
def RelL (lab : Nat → Nat) (φ : NM) (xs ys : List Value) : Prop := xs.length = ys.length ∧ ∀ (i : Nat) v v', xs[i]? = some v → ys[i]? = some v' → RelV lab φ v v'
theorem RelL.mono {φ φ' : NM} (hφ : Ext φ φ') {xs ys : List Value} (h : RelL lab φ xs ys) : RelL lab φ' xs ys := ⟨h.1, fun i v v' a b => (h.2 i v v' a b).mono hφ⟩
theorem RelL.get {φ : NM} {xs ys : List Value} (h : RelL lab φ xs ys) {i : Nat} {v : Value} (hv : xs[i]? = some v) : ∃ v', ys[i]? = some v' ∧ RelV lab φ v v' := by
  have hi : i < ys.length := by rw [← h.1]; exact (List.getElem?_eq_some_iff.1 hv).1
  exact ⟨ys[i], List.getElem?_eq_getElem hi, h.2 i _ _ hv (List.getElem?_eq_getElem hi)⟩
theorem RelL.nil {φ : NM} : RelL lab φ [] [] := ⟨rfl, fun i v v' h => by simp at h⟩
theorem RelL.cons {φ : NM} {x y : Value} {xs ys : List Value} (hx : RelV lab φ x y) (h : RelL lab φ xs ys) : RelL lab φ (x :: xs) (y :: ys) := by
  refine ⟨by simp [h.1], fun i v v' a b => ?_⟩
  cases i with
  | zero => simp at a b; subst a; subst b; exact hx
  | succ i => simp at a b; exact h.2 i v v' a b
theorem RelL.inv_cons {φ : NM} {x : Value} {xs ys : List Value} (h : RelL lab φ (x :: xs) ys) : ∃ y ys', ys = y :: ys' ∧ RelV lab φ x y ∧ RelL lab φ xs ys' := by
  cases ys with
  | nil => have := h.1; simp at this
  | cons y ys' => exact ⟨y, ys', rfl, h.2 0 x y rfl rfl, by have := h.1; simpa using this, fun i v v' a b => h.2 (i + 1) v v' (by simpa using a) (by simpa using b)⟩
theorem RelL.inv_nil {φ : NM} {ys : List Value} (h : RelL lab φ [] ys) : ys = [] := by
  have := h.1; simp at this; exact List.eq_nil_of_length_eq_zero this.symm
theorem RelL.append {φ : NM} {xs ys zs ws : List Value} (h : RelL lab φ xs ys) (h' : RelL lab φ zs ws) : RelL lab φ (xs ++ zs) (ys ++ ws) := by
  refine ⟨by simp [h.1, h'.1], fun i v v' a b => ?_⟩
  by_cases hi : i < xs.length
  · rw [List.getElem?_append_left hi] at a
    rw [List.getElem?_append_left (h.1 ▸ hi)] at b
    exact h.2 i v v' a b
  · rw [List.getElem?_append_right (by omega)] at a
    rw [List.getElem?_append_right (by have := h.1; omega)] at b
    rw [← h.1] at b
    exact h'.2 _ v v' a b
theorem RelL.drop {φ : NM} {xs ys : List Value} (h : RelL lab φ xs ys) (k : Nat) : RelL lab φ (xs.drop k) (ys.drop k) :=
  ⟨by simp [h.1], fun i v v' a b => by simp at a b; exact h.2 _ v v' a b⟩
theorem RelL.take {φ : NM} {xs ys : List Value} (h : RelL lab φ xs ys) (k : Nat) : RelL lab φ (xs.take k) (ys.take k) :=
  ⟨by simp [h.1], fun i v v' a b => by
    rw [List.getElem?_take] at a b
    split at a
    · rename_i hi; simp only [hi, if_true] at b; exact h.2 _ v v' a b
    · cases a⟩
theorem RelL.of_arrays {φ : NM} {xs ys : Array Value} (hs : xs.size = ys.size) (h : ∀ (i : Nat) v v', xs[i]? = some v → ys[i]? = some v' → RelV lab φ v v') : RelL lab φ xs.toList ys.toList :=
  ⟨by simpa using hs, fun i v v' a b => h i v v' (by simpa using a) (by simpa using b)⟩
theorem RelL.agg {φ : NM} {xs ys : Array Value} (h : RelL lab φ xs.toList ys.toList) : RelV lab φ (.agg xs) (.agg ys) :=
  .agg (by simpa using h.1) fun i v v' a b => h.2 i v v' (by simpa using a) (by simpa using b)
theorem RelL.tuple {φ : NM} {xs ys : Array Value} (h : RelL lab φ xs.toList ys.toList) : RelV lab φ (.tuple xs) (.tuple ys) :=
  .tuple (by simpa using h.1) fun i v v' a b => h.2 i v v' (by simpa using a) (by simpa using b)
theorem RelL.map {φ : NM} {α : Type} {f g : α → Value} {l : List α} (h : ∀ x ∈ l, RelV lab φ (f x) (g x)) : RelL lab φ (l.map f) (l.map g) :=
  ⟨by simp, fun i v v' a b => by
    simp only [List.getElem?_map, Option.map_eq_some_iff] at a b
    obtain ⟨x, hx, rfl⟩ := a
    obtain ⟨y, hy, rfl⟩ := b
    rw [hx] at hy; cases hy
    exact h x (List.mem_of_getElem? hx)⟩
theorem relV_simple {φ : NM} {v : Value} (h : simple v = true) : RelV lab φ v v := by
  cases v <;> simp [simple] at h
  case bool b => exact .bool b
  case int k n => exact .int k n
  case float k n => exact .float k n
  case string s => exact .string s
  case pointer a => cases a <;> simp at h; exact .nilPtr
  case slice a n c =>
    cases a with
    | some _ => simp at h
    | none => cases n <;> cases c <;> simp at h; exact .nilSlice
  case nilFunc => exact .nilFunc
  case nilIface => exact .nilIface
theorem relL_simple {φ : NM} {xs : List Value} (h : xs.all simple = true) : RelL lab φ xs xs :=
  ⟨rfl, fun i v v' a b => by
    rw [a] at b; cases b
    exact relV_simple (List.all_eq_true.1 h v (List.mem_of_getElem? a))⟩
theorem relV_flat {φ : NM} {v : Value} (h : flat v = true) : RelV lab φ v v := by
  unfold flat at h
  split at h
  · exact RelL.agg (relL_simple h)
  · exact RelL.tuple (relL_simple h)
  · exact relV_simple h
theorem RelV.cells {φ : NM} {v v' : Value} (h : RelV lab φ v v') : RelL lab φ v.cells.toList v'.cells.toList := by
  cases h with
  | agg hs hh => exact RelL.of_arrays hs hh
  | bool b => exact RelL.cons (.bool _) RelL.nil
  | int k n => exact RelL.cons (.int _ _) RelL.nil
  | float k n => exact RelL.cons (.float _ _) RelL.nil
  | string s => exact RelL.cons (.string _) RelL.nil
  | nilPtr => exact RelL.cons .nilPtr RelL.nil
  | ptr h => exact RelL.cons (.ptr h) RelL.nil
  | nilSlice => exact RelL.cons .nilSlice RelL.nil
  | slice h hn hc hq => exact RelL.cons (.slice h hn hc hq) RelL.nil
  | func hf hs h hs' h' => exact RelL.cons (.func hf hs h hs' h') RelL.nil
  | yield h => exact RelL.cons (.yield h) RelL.nil
  | nilFunc => exact RelL.cons .nilFunc RelL.nil
  | nilIface => exact RelL.cons .nilIface RelL.nil
  | tuple hs hh => exact RelL.cons (.tuple hs hh) RelL.nil
theorem isCell_one {φ : NM} {v v' : Value} (h : RelV lab φ v v') (hc : isCell v = true) : v'.oneCell' = true := by
  cases h <;> simp [isCell, Value.oneCell'] at hc ⊢
theorem relV_undef {φ : NM} : RelV lab φ undef undef := .tuple rfl fun i v v' a => by simp at a
def RelT (lab : Nat → Nat) (φ : NM) (nt : Nat) (T : List Value) (tmps : Array Value) : Prop := nt ≤ tmps.size ∧ ∀ i, RelV lab φ (tget T i) (tmps.getD i undef)
theorem RelT.mono {φ φ' : NM} (hφ : Ext φ φ') {nt : Nat} {T : List Value} {tmps : Array Value} (h : RelT lab φ nt T tmps) : RelT lab φ' nt T tmps := ⟨h.1, fun i => (h.2 i).mono hφ⟩
theorem RelT.set {φ : NM} {nt d : Nat} {T : List Value} {tmps : Array Value} {v v' : Value} (h : RelT lab φ nt T tmps) (hd : d < nt) (hv : RelV lab φ v v') :
    RelT lab φ nt (tset T d v) (tmps.setIfInBounds d v') := by
  refine ⟨by simpa using h.1, fun i => ?_⟩
  have := h.1
  simp only [tget_tset, Array.getD_eq_getD_getElem?, Array.getElem?_setIfInBounds]
  by_cases hi : i = d
  · subst hi
    simp [show i < tmps.size by omega]; exact hv
  · simp only [if_neg hi, if_neg (Ne.symm hi)]
    have := h.2 i
    rwa [Array.getD_eq_getD_getElem?] at this
theorem RelT.put {φ : NM} {nt : Nat} {T : List Value} {a : Act} {v v' : Value} {dst : Option Nat} (h : RelT lab φ nt T a.tmps) (hd : compDst nt dst = true) (hv : RelV lab φ v v') :
    RelT lab φ nt (putA dst T v) (a.put dst v').tmps := by
  cases dst with
  | none => exact h
  | some d => exact h.set (by simpa [compDst] using hd) hv
theorem RelT.eval {φ : NM} {nt : Nat} {T : List Value} {a : Act} (h : RelT lab φ nt T a.tmps) {x : Operand} {y : Opd} (hc : compOpd lab nt x = some y) : RelV lab φ (ev T y) (a.eval x) := by
  cases x with
  | tmp t =>
    simp only [compOpd] at hc
    split at hc
    · cases hc; exact h.2 t
    · cases hc
  | const v =>
    simp only [compOpd] at hc
    split at hc
    · cases hc; exact relV_flat (by assumption)
    · cases hc
  | global g => simp [compOpd] at hc
  | func f =>
    simp only [compOpd] at hc
    cases hc
    exact .func rfl rfl (fun i v v' a => by simp at a) rfl (fun i v v' a => by simp at a)
theorem RelT.evals {φ : NM} {nt : Nat} {T : List Value} {a : Act} (h : RelT lab φ nt T a.tmps) {l : List Operand} {l' : List Opd} (hc : compOpds lab nt l = some l') :
    RelL lab φ (l'.map (ev T)) (l.map a.eval) := by
  induction l generalizing l' with
  | nil => simp [compOpds] at hc; subst hc; exact RelL.nil
  | cons x l ih =>
    simp only [compOpds, List.mapM_cons, Option.bind_eq_bind, Option.bind_eq_some_iff] at hc
    obtain ⟨y, hy, ys, hys, he⟩ := hc
    cases he
    exact RelL.cons (h.eval hy) (ih hys)
end
def roAt (A : Hp) (x : Nat) : Prop := ∃ cs, A.get x = some (.cells cs true)
def ABlk.rw : ABlk → Bool
  | .cells _ ro => !ro
  | _ => true
def CRel (lab : Nat → Nat) (φ : NM) (cs : List Value) (c : Array Value) (off : Nat) : Prop := ∀ (i : Nat) v, cs[i]? = some v → ∃ v', c[off + i]? = some v' ∧ RelV lab φ v v'
def pendCode : Option Nat → Code
  | none => .ret
  | some id => .exit id
section
variable (E : Env)
def RelB (φ : NM) (w : World) (b : ABlk) (e : Ent) : Prop :=
  match b with
  | .cells cs ro => ∃ c el fr, w.heap[e.blk]? = some (.cells c el fr) ∧ c.size = e.size ∧ e.off + cs.length ≤ e.size ∧ (ro = false → fr = (0, 0)) ∧ CRel E.lab φ cs c e.off
  | .loop r => ∃ r' nt, w.heap[e.blk]? = some (.loop r') ∧ r'.state = r.state ∧ r'.pending = r.pending.map pendCode ∧ r'.params.toList = r.params ∧ (∀ p ∈ r.params, p < nt) ∧
      compCode E.P E.lab nt r'.assign = some r.assign ∧ compCode E.P E.lab nt r'.body = some r.body ∧ RelT E.lab φ nt r.tmps r'.tmps
  | .marks => w.heap[e.blk]? = some (.deferred (some []))
structure Rel (lim : Nat) (φ : NM) (A : Hp) (w : World) : Prop where
  dom : ∀ x e, φ x = some e → x < A.n ∨ lim ≤ x
  wf : ∀ x e, φ x = some e → e.blk < w.heap.size
  blk : ∀ x b e, A.get x = some b → φ x = some e → RelB E φ w b e
  sep : ∀ x y b c ex ey, x ≠ y → A.get x = some b → A.get y = some c → φ x = some ex → φ y = some ey → b.rw = true → ex.blk ≠ ey.blk
structure Post (lim : Nat) (φ : NM) (A : Hp) (w : World) (lo : Nat) (φ' : NM) (A' : Hp) (w' : World) : Prop where
  ext : Ext φ φ'
  dom : ∀ x e, φ' x = some e → φ x = some e ∨ (A.n ≤ x ∧ x < A'.n)
  len : A.n ≤ A'.n
  rel : Rel E lim φ' A' w'
  size : w.heap.size ≤ w'.heap.size
  frame : ∀ b, b < w.heap.size → (∀ x e, φ x = some e → e.blk = b → x < lo ∨ lim ≤ x ∨ roAt A x) → w'.heap[b]? = w.heap[b]?
  fresh : ∀ x e, φ' x = some e → φ x = none → w.heap.size ≤ e.blk ∨ ∃ y ey, φ y = some ey ∧ lo ≤ y ∧ y < lim ∧ ¬ roAt A y ∧ ey.blk = e.blk
  ro : ∀ x, roAt A x → roAt A' x
  env : w'.os = w.os ∧ w'.output = w.output ∧ w'.tape = w.tape
end
section
variable {E : Env}
theorem CRel.mono {lab : Nat → Nat} {φ φ' : NM} (hφ : Ext φ φ') {cs : List Value} {c : Array Value} {off : Nat} (h : CRel lab φ cs c off) : CRel lab φ' cs c off :=
  fun i v hv => let ⟨v', a, b⟩ := h i v hv; ⟨v', a, b.mono hφ⟩
theorem RelB.mono {φ φ' : NM} (hφ : Ext φ φ') {w w' : World} {b : ABlk} {e : Ent} (hw : w'.heap[e.blk]? = w.heap[e.blk]?) (h : RelB E φ w b e) : RelB E φ' w' b e := by
  cases b with
  | cells cs ro => obtain ⟨c, el, fr, h1, h2, h4, h5, h6⟩ := h; exact ⟨c, el, fr, hw.trans h1, h2, h4, h5, h6.mono hφ⟩
  | loop r => obtain ⟨r', nt, h1, h2, h3, h4, h5, h6, h7, h8⟩ := h; exact ⟨r', nt, hw.trans h1, h2, h3, h4, h5, h6, h7, h8.mono hφ⟩
  | marks => exact hw.trans h
theorem Post.refl {lim : Nat} {φ : NM} {A : Hp} {w : World} {lo : Nat} (h : Rel E lim φ A w) : Post E lim φ A w lo φ A w :=
  ⟨Ext.refl φ, fun _ _ h => .inl h, Nat.le_refl _, h, Nat.le_refl _, fun _ _ _ => rfl, fun x e h h' => (by rw [h] at h'; cases h'), fun _ h => h, rfl, rfl, rfl⟩
theorem Post.trans {lim : Nat} {φ φ1 φ2 : NM} {A A1 A2 : Hp} {w w1 w2 : World} {lo : Nat}
    (h1 : Post E lim φ A w lo φ1 A1 w1) (h2 : Post E lim φ1 A1 w1 lo φ2 A2 w2) : Post E lim φ A w lo φ2 A2 w2 := by
  refine ⟨h1.ext.trans h2.ext, ?_, Nat.le_trans h1.len h2.len, h2.rel, Nat.le_trans h1.size h2.size, ?_, ?_, ?_, ?_⟩
  · intro x e h
    have hl1 := h1.len
    have hl2 := h2.len
    rcases h2.dom x e h with h | h
    · rcases h1.dom x e h with h | h
      · exact .inl h
      · exact .inr (by omega)
    · exact .inr (by omega)
  · intro b hb H
    rw [h2.frame b (Nat.lt_of_lt_of_le hb h1.size) ?_, h1.frame b hb H]
    intro x e hx he
    cases hx0 : φ x with
    | some e0 =>
      have := h1.ext x e0 hx0
      rw [hx] at this; cases this
      exact (H x e hx0 he).imp id (Or.imp id (h1.ro x))
    | none =>
      rcases h1.fresh x e hx hx0 with h | ⟨y, ey, hy, hlo, hlim, hnro, hb'⟩
      · omega
      · rcases H y ey hy (hb'.trans he) with h | h | h
        · omega
        · omega
        · exact absurd h hnro
  · intro x e hx hn
    cases hx1 : φ1 x with
    | some e1 =>
      have := h2.ext x e1 hx1
      rw [hx] at this; cases this
      exact h1.fresh x e hx1 hn
    | none =>
      rcases h2.fresh x e hx hx1 with h | ⟨y, ey, hy, hlo, hlim, hnro, hb'⟩
      · exact .inl (Nat.le_trans h1.size h)
      · cases hy0 : φ y with
        | some e0 =>
          have := h1.ext y e0 hy0
          rw [hy] at this; cases this
          exact .inr ⟨y, ey, hy0, hlo, hlim, fun h => hnro (h1.ro y h), hb'⟩
        | none =>
          rcases h1.fresh y ey hy hy0 with h | ⟨z, ez, hz, hloz, hlimz, hnroz, hbz⟩
          · exact .inl (hb' ▸ h)
          · exact .inr ⟨z, ez, hz, hloz, hlimz, hnroz, hbz.trans hb'⟩
  · exact fun x h => h2.ro x (h1.ro x h)
  · exact ⟨h2.env.1.trans h1.env.1, h2.env.2.1.trans h1.env.2.1, h2.env.2.2.trans h1.env.2.2⟩
theorem Post.of_still {lim : Nat} {φ φ' : NM} {A A' : Hp} {w w' : World} (hR : Rel E lim φ A w) (h : Post E lim φ A w A.n φ' A' w') (g : Nat) : Post E lim φ A w g φ' A' w' :=
  ⟨h.ext, h.dom, h.len, h.rel, h.size, fun b hb _ => h.frame b hb fun x e hx _ => (hR.dom x e hx).imp id .inl,
   fun x e hx hn => .inl ((h.fresh x e hx hn).resolve_right fun ⟨y, ey, hy, hlo, hlim, _⟩ => by have := hR.dom y ey hy; omega), h.ro, h.env⟩
end
end Go.Ab
