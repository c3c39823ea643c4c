/- From the model's code to the abstract form. -/
import Derived.Test.YtlihoghjchbjlaaGreatZ01
import Derived.Test.YtlihoghjchbjlaaGreatZ00
set_option linter.unusedSimpArgs false
set_option linter.unusedVariables false
set_option linter.unusedSectionVars false
set_option maxRecDepth 100000
namespace Go.Ab.Dike
open Go.Ab
def body232d : ACode := (.seq
 (.ops [
oB 203 .lss 202 201])
 (.seq
 (.cond (.t 203)
 .skip
 (.exit 6))
 (.seq
 (.block 7
 (.seq
 (.ops [
oM 204 202,
oM 34 204])
 (.seq
 (.ops [
oF 205 15 3,
oL 206 205,
oM 207 34,
oI 208 206 207 2,
oD 209 208 2,
oF 210 32 3,
oL 211 210,
oM 212 34,
oI 213 211 212 2,
oD 214 213 2,
oA 215 140 [.t 209, .t 214] false,
oP 216 (.not (.t 215))])
 (.cond (.t 216)
 (.seq
 (.ops [
oP 10 (.move (.k (.bool false)))])
 .ret)
 .skip))))
 (.ops [
oC 217 .add 202 1,
oM 202 217]))))
def body232b : ACode := (.seq
 (.ops [
oB 84 .lss 83 82])
 (.seq
 (.cond (.t 84)
 .skip
 (.exit 2))
 (.seq
 (.block 3
 (.seq
 (.ops [
oI 85 81 83 2,
oD 86 85 2,
oP 17 (.alloc [.int .i64 0, .int .i64 0]),
oT 17 86 2])
 (.seq
 (.ops [
oM 87 14,
oD 88 17 2,
oP 89 (.call (.t 87) [.t 88] false),
oM 18 89])
 (.ops [
oF 90 15 3,
oL 91 90,
oM 92 18,
oM 93 18,
oA 94 141 [.t 92, .t 93] true,
oP 95 (.slit 1 2 [.int .i64 0, .int .i64 0] [(0, .t 94)]),
oP 96 (.append (.t 91) (.t 95) 2 16),
oF 97 15 3,
oT 97 96 1]))))
 (.ops [
oC 98 .add 83 1,
oM 83 98]))))
def body232a : ACode := (.seq
 (.ops [
oC 53 .lss 52 8])
 (.seq
 (.cond (.t 53)
 .skip
 (.exit 0))
 (.seq
 (.block 1
 (.seq
 (.ops [
oM 54 52,
oM 12 54])
 (.seq
 (.ops [
oP 13 (.move (oK 0))])
 (.seq
 (.seq
 (.ops [
oM 55 0,
oP 56 (.len (.t 55)),
oC 57 .gtr 56 0])
 (.cond (.t 57)
 (.ops [
oM 58 0,
oM 59 12,
oM 60 0,
oP 61 (.len (.t 60)),
oB 62 .rem 59 61,
oI 63 58 62 1,
oL 64 63,
oP 65 (.toInt .i64 (.t 64)),
oM 13 65])
 .skip))
 (.ops [
oF 66 11 3,
oL 67 66,
oM 68 13,
oM 69 13,
oC 70 .add 69 9,
oA 71 141 [.t 68, .t 70] true,
oP 72 (.slit 1 2 [.int .i64 0, .int .i64 0] [(0, .t 71)]),
oP 73 (.append (.t 67) (.t 72) 2 16),
oF 74 11 3,
oT 74 73 1])))))
 (.ops [
oC 75 .add 52 1,
oM 52 75]))))
def body232e : ACode := (.seq
 (.ops [
oB 265 .lss 264 263])
 (.seq
 (.cond (.t 265)
 .skip
 (.exit 8))
 (.seq
 (.block 9
 (.seq
 (.ops [
oM 266 264,
oM 41 266])
 (.seq
 (.ops [
oM 267 36,
oM 268 41,
oI 269 267 268 1,
oL 270 269,
oM 271 270,
oN 272 271 true 38,
oN 273 271 true 41,
oQ 274 271 true (.idxS (.t 272) (.t 273) 1),
oQ 275 271 true (.load (.t 274) none),
oQ 276 271 true (.not (.t 275)),
oP 277 (.pick (.t 271) (.t 276) (.k (.bool false))),
oM 278 277,
oN 279 278 false 38,
oN 280 278 false 41,
oQ 281 278 false (.idxS (.t 279) (.t 280) 1),
oQ 282 278 false (.load (.t 281) none),
oN 283 278 false 282,
oN 284 283 true 37,
oN 285 283 true 41,
oQ 286 283 true (.idxS (.t 284) (.t 285) 1),
oQ 287 283 true (.load (.t 286) none),
oQ 288 283 true (.not (.t 287)),
oQ 289 278 false (.pick (.t 283) (.t 288) (.k (.bool false))),
oP 290 (.pick (.t 278) (.k (.bool true)) (.t 289))])
 (.cond (.t 290)
 (.seq
 (.ops [
oP 10 (.move (.k (.bool false)))])
 .ret)
 .skip))))
 (.ops [
oC 291 .add 264 1,
oM 264 291]))))
def body232c : ACode := (.seq
 (.ops [
oB 105 .lss 104 103])
 (.seq
 (.cond (.t 105)
 .skip
 (.exit 4))
 (.seq
 (.block 5
 (.seq
 (.ops [
oM 106 104,
oI 107 102 104 10,
oD 108 107 10,
oP 23 (.alloc [.int .i16 0, .int .i16 0, .int .i16 0, .int .u8 0, .int .u8 0, .int .u8 0, .int .u8 0, .slice none 0 0, .slice none 0 0, .slice none 0 0]),
oM 22 106,
oT 23 108 10])
 (.seq
 (.seq
 (.ops [
oF 109 23 7,
oL 110 109,
oP 111 (.len (.t 110)),
oC 112 .lss 111 6,
oM 113 112,
oQ 114 113 false (.fieldAddr (.t 23) 7),
oQ 115 113 false (.load (.t 114) none),
oQ 116 113 false (.len (.t 115)),
oQ 117 113 false (.bin .gtr (.t 116) (oK 20)),
oP 118 (.pick (.t 113) (.k (.bool true)) (.t 117))])
 (.cond (.t 118)
 (.seq
 (.ops [
oA 119 121 [] false,
oM 10 119])
 .ret)
 .skip))
 (.seq
 (.ops [
oD 121 23 10,
oM 122 22,
oP 123 (.bin .mul (oK 2) (.t 122)),
oC 124 .add 123 1,
oA 125 137 [.t 121, .t 124] false,
oM 120 125,
oX 126 120 0,
oX 127 120 1,
oP 24 (.alloc [.int .i64 0, .int .i64 0, .int .i64 0, .int .i64 0, .int .i64 0, .int .i64 0, .int .i64 0, .int .i64 0]),
oT 24 126 8,
oM 25 127])
 (.seq
 (.ops [
oD 129 24 8,
oM 130 25,
oA 131 122 [.t 129, .t 130] false,
oM 128 131,
oX 132 128 0,
oX 133 128 1,
oP 26 (.alloc [.slice none 0 0, .slice none 0 0, .int .i64 0, .int .i64 0]),
oT 26 132 4,
oM 27 133])
 (.seq
 (.seq
 (.ops [
oM 134 27,
oC 135 .neq 134 0])
 (.cond (.t 135)
 (.seq
 (.ops [
oP 10 (.move (.k (.bool false)))])
 .ret)
 .skip))
 (.seq
 (.ops [
oM 136 19,
oD 137 24 8,
oP 138 (.slit 1 8 [.int .i64 0, .int .i64 0, .int .i64 0, .int .i64 0, .int .i64 0, .int .i64 0, .int .i64 0, .int .i64 0] [(0, .t 137)]),
oP 139 (.append (.t 136) (.t 138) 8 64),
oM 140 20,
⟨some 141, none, [(.t 136, 0, .t 26, 4)], .load (.t 26) (some 4)⟩,
oP 142 (.slit 1 4 [.slice none 0 0, .slice none 0 0, .int .i64 0, .int .i64 0] [(0, .t 141)]),
oP 143 (.append (.t 140) (.t 142) 4 64),
oM 19 139,
oM 20 143])
 (.seq
 (.ops [
oD 145 24 8,
oM 146 25,
oM 147 14,
oA 148 139 [.t 145, .t 146, .t 147] false,
oM 144 148,
oX 149 144 0,
oX 150 144 1,
oX 151 144 2,
oM 28 149,
oM 29 150,
oM 30 151])
 (.seq
 (.ops [
oM 152 30,
oC 153 .lss 152 0,
oM 154 153,
oN 155 154 false 30,
oN 156 154 false 21,
oQ 157 154 false (.bin .geq (.t 155) (.t 156)),
oP 158 (.pick (.t 154) (.k (.bool true)) (.t 157))])
 (.cond (.t 158)
 (.seq
 (.ops [
oF 159 15 3,
oL 160 159,
oF 161 24 0,
oL 162 161,
oI 163 160 162 2,
oF 164 163 0,
oL 165 164,
oM 166 28,
oM 167 21,
oI 168 166 167 1,
oL 169 168,
oP 170 (.max [.t 165, .t 169]),
oM 31 170])
 (.ops [
oF 171 15 3,
oL 172 171,
oF 173 24 0,
oL 174 173,
oM 175 31,
oM 176 31,
oA 177 141 [.t 175, .t 176] true,
oI 178 172 174 2,
oT 178 177 2]))
 .skip))))))))))
 (.ops [
oC 179 .add 104 1,
oM 104 179]))))
def F232 : AFunc :=
 .fn 293 [.tmp 10]
 (.seq
 (.ops [
oP 10 (.move (.k (.bool false)))])
 (.seq
 (.seq
 (.ops [
oM 42 0,
oP 43 (.len (.t 42)),
oC 44 .gtr 43 8,
oM 45 44,
oN 46 45 false 1,
oQ 47 45 false (.len (.t 46)),
oQ 48 45 false (.bin .gtr (.t 47) (oK 4)),
oP 49 (.pick (.t 45) (.k (.bool true)) (.t 48))])
 (.cond (.t 49)
 (.seq
 (.ops [
oA 50 121 [] false,
oM 10 50])
 .ret)
 .skip))
 (.seq
 (.ops [
oP 51 (.build [.int .i64 0, .int .i64 0, .int .i64 0, .slice none 0 0] [(0, 1, .k (.int .i64 8)), (1, 1, .k (.int .i64 1)), (2, 1, .k (.int .i64 10))]),
oP 11 (.alloc [.int .i64 0, .int .i64 0, .int .i64 0, .slice none 0 0]),
oT 11 51 4])
 (.seq
 (.seq
 (.ops [
oP 52 (.move (oK 0))])
 (.block 0
 (.loop body232a)))
 (.seq
 (.ops [
oM 76 4,
oA 77 138 [.t 76] false,
oM 14 77])
 (.seq
 (.ops [
oD 78 11 4,
oP 15 (.alloc [.int .i64 0, .int .i64 0, .int .i64 0, .slice none 0 0]),
oT 15 78 4])
 (.seq
 (.ops [
oF 79 15 3,
⟨none, none, [], .store (.t 79) (.k (.slice none 0 0)) 1⟩])
 (.seq
 (.seq
 (.ops [
oF 80 11 3,
oL 81 80,
oP 82 (.len (.t 81)),
oP 83 (.move (oK 0))])
 (.block 2
 (.loop body232b)))
 (.seq
 (.ops [
oP 19 (.move (.k (.slice none 0 0)))])
 (.seq
 (.ops [
oP 20 (.move (.k (.slice none 0 0)))])
 (.seq
 (.ops [
oM 99 3,
oP 100 (.toInt .i64 (.t 99)),
oC 101 .rem 100 6,
oM 21 101])
 (.seq
 (.seq
 (.ops [
oM 102 1,
oP 103 (.len (.t 102)),
oP 104 (.move (oK 0))])
 (.block 4
 (.loop body232c)))
 (.seq
 (.ops [
oD 181 11 4,
oM 182 19,
oM 183 20,
oM 184 21,
oA 185 126 [.t 181, .t 182, .t 183, .t 184] false,
oM 180 185,
oX 186 180 0,
oX 187 180 1,
oP 32 (.alloc [.int .i64 0, .int .i64 0, .int .i64 0, .slice none 0 0]),
oT 32 186 4,
oM 33 187])
 (.seq
 (.seq
 (.ops [
oM 188 33,
oC 189 .neq 188 0,
oM 190 189,
oQ 191 190 false (.fieldAddr (.t 32) 3),
oQ 192 190 false (.load (.t 191) none),
oQ 193 190 false (.len (.t 192)),
oQ 194 190 false (.fieldAddr (.t 11) 3),
oQ 195 190 false (.load (.t 194) none),
oQ 196 190 false (.len (.t 195)),
oQ 197 190 false (.bin .neq (.t 193) (.t 196)),
oP 198 (.pick (.t 190) (.k (.bool true)) (.t 197))])
 (.cond (.t 198)
 (.seq
 (.ops [
oP 10 (.move (.k (.bool false)))])
 .ret)
 .skip))
 (.seq
 (.seq
 (.ops [
oF 199 32 3,
oL 200 199,
oP 201 (.len (.t 200)),
oP 202 (.move (oK 0))])
 (.block 6
 (.loop body232d)))
 (.seq
 (.ops [
oM 218 2,
oP 219 (.toInt .i64 (.t 218)),
oC 220 .rem 219 3000,
oM 221 2,
oP 222 (.toInt .i64 (.t 221)),
oC 223 .rem 222 3000,
oA 224 141 [.t 220, .t 223] false,
oP 35 (.alloc [.int .i64 0, .int .i64 0]),
oT 35 224 2])
 (.seq
 (.ops [
oD 226 32 4,
oP 227 (.slit 1 1 [.int .i64 0] [(0, .k (.int .i64 0))]),
oD 228 35 2,
oA 229 253 [.t 226, .t 227, .t 228] false,
oM 225 229,
oX 230 225 0,
oX 231 225 1,
oX 232 225 2,
oM 36 230,
oM 37 231,
oM 33 232])
 (.seq
 (.ops [
oD 234 15 4,
oP 235 (.slit 1 1 [.int .i64 0] [(0, .k (.int .i64 0))]),
oD 236 35 2,
oA 237 253 [.t 234, .t 235, .t 236] false,
oM 233 237,
oX 238 233 0,
oX 239 233 1,
oX 240 233 2,
oM 38 238,
oM 39 239,
oM 40 240])
 (.seq
 (.seq
 (.ops [
oM 241 33,
oC 242 .neq 241 0,
oM 243 242,
oN 244 243 false 40,
oQ 245 243 false (.bin .neq (.t 244) (oK 0)),
oP 246 (.pick (.t 243) (.k (.bool true)) (.t 245)),
oM 247 246,
oN 248 247 false 36,
oQ 249 247 false (.len (.t 248)),
oQ 250 247 false (.bin .neq (.t 249) (oK 8)),
oP 251 (.pick (.t 247) (.k (.bool true)) (.t 250)),
oM 252 251,
oN 253 252 false 37,
oQ 254 252 false (.len (.t 253)),
oQ 255 252 false (.bin .neq (.t 254) (oK 8)),
oP 256 (.pick (.t 252) (.k (.bool true)) (.t 255)),
oM 257 256,
oN 258 257 false 38,
oQ 259 257 false (.len (.t 258)),
oQ 260 257 false (.bin .neq (.t 259) (oK 8)),
oP 261 (.pick (.t 257) (.k (.bool true)) (.t 260))])
 (.cond (.t 261)
 (.seq
 (.ops [
oP 10 (.move (.k (.bool false)))])
 .ret)
 .skip))
 (.seq
 (.seq
 (.ops [
oM 262 38,
oP 263 (.len (.t 262)),
oP 264 (.move (oK 0))])
 (.block 8
 (.loop body232e)))
 (.seq
 (.ops [
oA 292 121 [] false,
oM 10 292])
 .ret)))))))))))))))))))))
def body253 : ACode := (.seq
 (.ops [
oB 29 .lss 28 27])
 (.seq
 (.cond (.t 29)
 .skip
 (.exit 1))
 (.seq
 (.block 2
 (.seq
 (.ops [
oI 30 26 28 2,
oD 31 30 2,
oP 11 (.alloc [.int .i64 0, .int .i64 0]),
oT 11 31 2])
 (.ops [
oM 32 6,
oF 33 5 0,
oL 34 33,
oF 35 11 1,
oL 36 35,
oB 37 .gtr 34 36,
oP 38 (.slit 1 1 [.bool false] [(0, .t 37)]),
oP 39 (.append (.t 32) (.t 38) 1 1),
oM 40 7,
oF 41 5 1,
⟨some 42, none, [(.t 32, 0, .t 41, 1)], .load (.t 41) none⟩,
oF 43 11 0,
⟨some 44, none, [(.t 32, 0, .t 43, 1)], .load (.t 43) none⟩,
oB 45 .gtr 42 44,
oP 46 (.slit 1 1 [.bool false] [(0, .t 45)]),
oP 47 (.append (.t 40) (.t 46) 1 1),
oM 6 39,
oM 7 47])))
 (.ops [
oC 48 .add 28 1,
oM 28 48]))))
def F253 : AFunc :=
 .fn 51 [.tmp 6, .tmp 7, .tmp 8]
 (.seq
 (.ops [
oP 3 (.box (.t 0)),
oP 5 (.box (.t 2)),
oP 6 (.move (.k (.slice none 0 0))),
oP 7 (.move (.k (.slice none 0 0))),
oP 8 (.move (oK 0))])
 (.seq
 (.ops [
oD 13 3 4,
oM 14 1,
oA 15 265 [.t 13, .t 14] false,
oM 12 15,
oX 16 12 0,
oX 17 12 1,
oM 9 16,
oM 8 17])
 (.seq
 (.block 0
 (.seq
 (.ops [
oM 19 8,
oC 20 .neq 19 0,
oM 18 20])
 (.cond (.t 18)
 (.seq
 (.ops [
oM 21 8,
oP 6 (.move (.k (.slice none 0 0))),
oP 7 (.move (.k (.slice none 0 0))),
oM 8 21])
 .ret)
 (.seq
 (.ops [
oD 23 5 2,
oA 24 58 [.t 23, .k (.int .i64 20000)] false,
oP 25 (.not (.t 24)),
oM 22 25])
 (.cond (.t 22)
 (.seq
 (.ops [
oP 6 (.move (.k (.slice none 0 0))),
oP 7 (.move (.k (.slice none 0 0))),
oP 8 (.move (oK 3))])
 .ret)
 .skip)))))
 (.seq
 (.seq
 (.ops [
oM 26 9,
oP 27 (.len (.t 26)),
oP 28 (.move (oK 0))])
 (.block 1
 (.loop body253)))
 (.seq
 (.ops [
oM 49 6,
oM 50 7,
oM 6 49,
oM 7 50,
oP 8 (.move (oK 0))])
 .ret)))))
def F265 : AFunc :=
 .fn 15 [.tmp 4, .tmp 5]
 (.seq
 (.ops [
oP 2 (.box (.t 0)),
oP 3 (.box (.t 1)),
oP 4 (.move (.k (.slice none 0 0))),
oP 5 (.move (oK 0))])
 (.seq
 (.seq
 (.ops [
oD 7 2 4,
oL 8 3,
oA 9 266 [.t 7, .t 8] false,
oM 6 9])
 (.seq
 (.ops [
oM 10 6,
oC 11 .neq 10 0])
 (.cond (.t 11)
 (.seq
 (.ops [
oM 12 6,
oP 4 (.move (.k (.slice none 0 0))),
oM 5 12])
 .ret)
 .skip)))
 (.seq
 (.ops [
oP 13 (.makeFunc 268 [] [.t 2, .t 3]),
oP 14 (.call (.k (.func (.func 267) ⟨[]⟩ ⟨[]⟩)) [.t 13, .k (.func (.func 271) ⟨[]⟩ ⟨[]⟩)] false),
oM 4 14,
oP 5 (.move (oK 0))])
 .ret)))
def F266 : AFunc :=
 .fn 20 [.tmp 4]
 (.seq
 (.ops [
oP 2 (.box (.t 0)),
oP 4 (.move (oK 0))])
 (.seq
 (.ops [
oD 6 2 4,
oA 7 37 [.t 6] false,
oM 5 7])
 (.seq
 (.block 0
 (.seq
 (.ops [
oM 9 5,
oC 10 .neq 9 0,
oM 8 10])
 (.cond (.t 8)
 (.seq
 (.ops [
oM 11 5,
oM 4 11])
 .ret)
 (.seq
 (.ops [
oM 13 1,
oP 14 (.len (.t 13)),
oC 15 .eql 14 0,
oM 12 15])
 (.cond (.t 12)
 (.seq
 (.ops [
oP 4 (.move (oK 18))])
 .ret)
 (.seq
 (.ops [
oM 17 1,
oP 18 (.makeFunc 272 [] [.t 2]),
oA 19 180 [.t 17, .t 18] false,
oM 16 19])
 (.cond (.t 16)
 (.seq
 (.ops [
oP 4 (.move (oK 4))])
 .ret)
 .skip)))))))
 (.seq
 (.ops [
oP 4 (.move (oK 0))])
 .ret))))
def body267 : ACode := (.seq
 (.ops [
oB 16 .lss 15 14])
 (.seq
 (.cond (.t 16)
 .skip
 (.exit 0))
 (.seq
 (.block 1
 (.seq
 (.ops [
oM 17 15,
oM 8 17])
 (.ops [
oM 18 5,
oM 19 1,
oM 20 6,
oM 21 8,
oI 22 20 21 1,
oL 23 22,
oM 24 7,
oM 25 8,
oI 26 24 25 1,
oL 27 26,
oP 28 (.call (.t 19) [.t 23, .t 27] false),
oP 29 (.slit 1 2 [.int .i64 0, .int .i64 0] [(0, .t 28)]),
oP 30 (.append (.t 18) (.t 29) 2 16),
oM 5 30])))
 (.ops [
oC 31 .add 15 1,
oM 15 31]))))
def F267 : AFunc :=
 .fn 33 [.tmp 4]
 (.seq
 (.ops [
oP 4 (.move (.k (.slice none 0 0)))])
 (.seq
 (.ops [
oP 5 (.move (.k (.slice none 0 0)))])
 (.seq
 (.ops [
oM 9 0,
oP 10 (.call (.t 9) [.k (.func (.func 273) ⟨[]⟩ ⟨[]⟩)] false),
oM 11 0,
oP 12 (.call (.t 11) [.k (.func (.func 274) ⟨[]⟩ ⟨[]⟩)] false),
oM 6 10,
oM 7 12])
 (.seq
 (.seq
 (.ops [
oM 13 6,
oP 14 (.len (.t 13)),
oP 15 (.move (oK 0))])
 (.block 0
 (.loop body267)))
 (.seq
 (.ops [
oM 32 5,
oM 4 32])
 .ret)))))
def F268 : AFunc :=
 .fn 9 [.tmp 4]
 (.seq
 (.ops [
oP 3 (.box (.t 0)),
oP 4 (.move (.k (.slice none 0 0)))])
 (.seq
 (.ops [
oD 5 1 4,
oL 6 2,
oP 7 (.makeFunc 270 [] [.t 3, .t 1]),
oA 8 269 [.t 5, .t 6, .t 7] false,
oM 4 8])
 .ret))
def body269a : ACode := (.seq
 (.ops [
oB 24 .lss 23 22])
 (.seq
 (.cond (.t 24)
 .skip
 (.exit 0))
 (.seq
 (.block 1
 (.seq
 (.ops [
oI 25 21 23 1,
oL 26 25,
oM 11 26])
 (.ops [
oL 27 9,
oM 28 11,
oP 29 (.call (.t 27) [.t 28, .k (.int .i64 (-1073741824))] false)])))
 (.ops [
oC 30 .add 23 1,
oM 23 30]))))
def body269b : ACode := (.seq
 (.seq
 (.ops [
oF 31 8 0,
oL 32 31,
oP 33 (.len (.t 32)),
oC 34 .gtr 33 0])
 (.cond (.t 34)
 .skip
 (.exit 2)))
 (.block 3
 (.seq
 (.ops [
oA 35 278 [.t 8] false,
oP 12 (.alloc [.int .i64 0, .int .i64 0]),
oT 12 35 2])
 (.seq
 (.ops [
oD 36 3 4,
oF 37 12 0,
oL 38 37,
oA 39 112 [.t 36, .t 38] false])
 (.block 4
 (.rangeF (.t 39) [40]
 (.ops [
oM 13 40])
 (.block 5
 (.ops [
oL 41 9,
oM 42 13,
oF 43 12 1,
oL 44 43,
oP 45 (.call (.t 41) [.t 42, .t 44] false)]))))))))
def F269 : AFunc :=
 .fn 47 [.tmp 6]
 (.seq
 (.ops [
oP 3 (.box (.t 0)),
oP 5 (.box (.t 2)),
oP 6 (.move (.k (.slice none 0 0)))])
 (.seq
 (.ops [
oP 14 (.slit 1 1 [.int .i64 0] [(0, .k (.int .i64 1073741824))]),
oF 15 3 3,
oL 16 15,
oP 17 (.len (.t 16)),
oA 18 83 [.t 14, .t 17] false,
oP 7 (.alloc [.slice none 0 0]),
oT 7 18 1])
 (.seq
 (.ops [
oP 19 (.build [.slice none 0 0, .nilFunc] [(1, 1, .k (.func (.func 275) ⟨[]⟩ ⟨[]⟩))]),
oP 8 (.alloc [.slice none 0 0, .nilFunc]),
oT 8 19 2])
 (.seq
 (.ops [
oP 20 (.makeFunc 276 [] [.t 5, .t 7, .t 8]),
oP 9 (.alloc [.nilFunc]),
oT 9 20 1])
 (.seq
 (.seq
 (.ops [
oM 21 1,
oP 22 (.len (.t 21)),
oP 23 (.move (oK 0))])
 (.block 0
 (.loop body269a)))
 (.seq
 (.block 2
 (.loop body269b))
 (.seq
 (.ops [
oL 46 7,
oM 6 46])
 .ret)))))))
def F270 : AFunc :=
 .fn 13 [.tmp 4, .tmp 5]
 (.seq
 (.ops [
oP 4 (.move (oK 0)),
oP 5 (.move (.k (.bool false)))])
 (.seq
 (.ops [
oL 6 1,
oF 7 2 3,
oL 8 7,
oM 9 0,
oI 10 8 9 2,
oD 11 10 2,
oP 12 (.call (.t 6) [.t 11] false),
oM 4 12,
oP 5 (.move (.k (.bool true)))])
 .ret))
def F271 : AFunc :=
 .fn 8 [.cell 4 (some 2)]
 (.seq
 (.ops [
oP 4 (.alloc [.int .i64 0, .int .i64 0])])
 (.seq
 (.ops [
oM 5 0,
oM 6 1,
oP 7 (.build [.int .i64 0, .int .i64 0] [(0, 1, .t 5), (1, 1, .t 6)]),
oT 4 7 2])
 .ret))
def F272 : AFunc :=
 .fn 11 [.tmp 3]
 (.seq
 (.ops [
oP 3 (.move (.k (.bool false)))])
 (.seq
 (.ops [
oM 4 0,
oF 5 1 3,
oL 6 5,
oP 7 (.len (.t 6)),
oC 8 .sub 7 1,
oA 9 55 [.t 4, .k (.int .i64 0), .t 8] false,
oP 10 (.not (.t 9)),
oM 3 10])
 .ret))
def F273 : AFunc :=
 .fn 5 [.tmp 2]
 (.seq
 (.ops [
oP 1 (.box (.t 0)),
oP 2 (.move (oK 0))])
 (.seq
 (.ops [
oF 3 1 0,
oL 4 3,
oM 2 4])
 .ret))
def F274 : AFunc :=
 .fn 5 [.tmp 2]
 (.seq
 (.ops [
oP 1 (.box (.t 0)),
oP 2 (.move (oK 0))])
 (.seq
 (.ops [
oF 3 1 1,
oL 4 3,
oM 2 4])
 .ret))
def F275 : AFunc :=
 .fn 10 [.tmp 4]
 (.seq
 (.ops [
oP 2 (.box (.t 0)),
oP 3 (.box (.t 1)),
oP 4 (.move (.k (.bool false)))])
 (.seq
 (.ops [
oF 5 2 1,
oL 6 5,
oF 7 3 1,
oL 8 7,
oB 9 .lss 6 8,
oM 4 9])
 .ret))
def F276 : AFunc :=
 .fn 39 []
 (.seq
 (.ops [
oL 10 2,
oM 11 0,
oP 12 (.call (.t 10) [.t 11] false),
oM 9 12,
oX 13 9 0,
oX 14 9 1,
oM 7 13,
oM 8 14])
 (.seq
 (.ops [
oM 15 8,
oM 16 15,
oN 17 16 true 7,
oN 18 16 true 1,
oQ 19 16 true (.max [.t 17, .t 18]),
oQ 20 16 true (.load (.t 3) none),
oN 21 16 true 0,
oQ 22 16 true (.idxS (.t 20) (.t 21) 1),
oQ 23 16 true (.load (.t 22) none),
oQ 24 16 true (.bin .lss (.t 19) (.t 23)),
oP 25 (.pick (.t 16) (.t 24) (.k (.bool false)))])
 (.cond (.t 25)
 (.seq
 (.ops [
oL 26 3,
oM 27 0,
oM 28 7,
oM 29 1,
oP 30 (.max [.t 28, .t 29]),
oI 31 26 27 1,
oT 31 30 1])
 (.ops [
oM 32 0,
oL 33 3,
oM 34 0,
oI 35 33 34 1,
oL 36 35,
oP 37 (.build [.int .i64 0, .int .i64 0] [(0, 1, .t 32), (1, 1, .t 36)]),
oA 38 277 [.t 4, .t 37] false]))
 .skip)))
def body277 : ACode := (.seq
 (.seq
 (.ops [
oM 20 4,
oC 21 .gtr 20 0,
oM 22 21,
oN 23 22 true 0,
oQ 24 22 true (.nilCheck (.t 23)),
oQ 25 22 true (.fieldAddr (.t 24) 1),
oQ 26 22 true (.load (.t 25) none),
oN 27 22 true 0,
oQ 28 22 true (.nilCheck (.t 27)),
oQ 29 22 true (.fieldAddr (.t 28) 0),
oQ 30 22 true (.load (.t 29) none),
oN 31 22 true 4,
oQ 32 22 true (.idxS (.t 30) (.t 31) 2),
oQ 33 22 true (.load (.t 32) (some 2)),
oN 34 22 true 0,
oQ 35 22 true (.nilCheck (.t 34)),
oQ 36 22 true (.fieldAddr (.t 35) 0),
oQ 37 22 true (.load (.t 36) none),
oN 38 22 true 4,
oQ 39 22 true (.bin .sub (.t 38) (oK 1)),
oQ 40 22 true (.bin .quo (.t 39) (oK 2)),
oQ 41 22 true (.idxS (.t 37) (.t 40) 2),
oQ 42 22 true (.load (.t 41) (some 2)),
oQ 43 22 true (.call (.t 26) [.t 33, .t 42] false),
oP 44 (.pick (.t 22) (.t 43) (.k (.bool false)))])
 (.cond (.t 44)
 .skip
 (.exit 0)))
 (.block 1
 (.seq
 (.ops [
oM 45 0,
oP 46 (.nilCheck (.t 45)),
oF 47 46 0,
oL 48 47,
oM 49 4,
oM 50 0,
oP 51 (.nilCheck (.t 50)),
oF 52 51 0,
oL 53 52,
oM 54 4,
oC 55 .sub 54 1,
oC 56 .quo 55 2,
oM 57 0,
oP 58 (.nilCheck (.t 57)),
oF 59 58 0,
oL 60 59,
oM 61 4,
oC 62 .sub 61 1,
oC 63 .quo 62 2,
oI 64 60 63 2,
oD 65 64 2,
oM 66 0,
oP 67 (.nilCheck (.t 66)),
oF 68 67 0,
oL 69 68,
oM 70 4,
oI 71 69 70 2,
oD 72 71 2,
oI 73 48 49 2,
oT 73 65 2,
oI 74 53 56 2,
oT 74 72 2])
 (.ops [
oM 75 4,
oC 76 .sub 75 1,
oC 77 .quo 76 2,
oM 4 77]))))
def F277 : AFunc :=
 .fn 78 []
 (.seq
 (.ops [
oP 3 (.box (.t 1))])
 (.seq
 (.ops [
oM 5 0,
oP 6 (.nilCheck (.t 5)),
oF 7 6 0,
oL 8 7,
oP 9 (.len (.t 8)),
oM 4 9])
 (.seq
 (.ops [
oM 10 0,
oM 11 0,
oP 12 (.nilCheck (.t 11)),
oF 13 12 0,
oL 14 13,
oD 15 3 2,
oP 16 (.slit 1 2 [.int .i64 0, .int .i64 0] [(0, .t 15)]),
oP 17 (.append (.t 14) (.t 16) 2 16),
oP 18 (.nilCheck (.t 10)),
oF 19 18 0,
oT 19 17 1])
 (.block 0
 (.loop body277)))))
def body278c : ACode := (.seq
 (.ops [
oB 52 .lss 51 50])
 (.seq
 (.cond (.t 52)
 .skip
 (.exit 2))
 (.seq
 (.block 3
 (.seq
 (.ops [
oI 53 49 51 1,
oL 54 53,
oM 8 54])
 (.seq
 (.ops [
oM 55 8,
oM 56 4,
oB 57 .lss 55 56,
oM 58 57,
oN 59 58 true 0,
oQ 60 58 true (.nilCheck (.t 59)),
oQ 61 58 true (.fieldAddr (.t 60) 1),
oQ 62 58 true (.load (.t 61) none),
oN 63 58 true 0,
oQ 64 58 true (.nilCheck (.t 63)),
oQ 65 58 true (.fieldAddr (.t 64) 0),
oQ 66 58 true (.load (.t 65) none),
oN 67 58 true 8,
oQ 68 58 true (.idxS (.t 66) (.t 67) 2),
oQ 69 58 true (.load (.t 68) (some 2)),
oN 70 58 true 0,
oQ 71 58 true (.nilCheck (.t 70)),
oQ 72 58 true (.fieldAddr (.t 71) 0),
oQ 73 58 true (.load (.t 72) none),
oN 74 58 true 6,
oQ 75 58 true (.idxS (.t 73) (.t 74) 2),
oQ 76 58 true (.load (.t 75) (some 2)),
oQ 77 58 true (.call (.t 62) [.t 69, .t 76] false),
oP 78 (.pick (.t 58) (.t 77) (.k (.bool false)))])
 (.cond (.t 78)
 (.ops [
oM 79 8,
oM 6 79])
 .skip))))
 (.ops [
oC 80 .add 51 1,
oM 51 80]))))
def F278 : AFunc :=
 .fn 112 [.cell 2 (some 2)]
 (.seq
 (.ops [
oP 2 (.alloc [.int .i64 0, .int .i64 0])])
 (.seq
 (.ops [
oM 9 0,
oP 10 (.nilCheck (.t 9)),
oF 11 10 0,
oL 12 11,
oP 13 (.idxS (.t 12) (oK 0) 2),
oD 14 13 2,
oM 15 0,
oP 16 (.nilCheck (.t 15)),
oF 17 16 0,
oL 18 17,
oP 19 (.len (.t 18)),
oC 20 .sub 19 1,
oP 3 (.alloc [.int .i64 0, .int .i64 0]),
⟨none, none, [(.t 3, 2, .t 17, 1)], .store (.t 3) (.t 14) 2⟩,
oM 4 20])
 (.seq
 (.ops [
oM 21 0,
oP 22 (.nilCheck (.t 21)),
oF 23 22 0,
oL 24 23,
oM 25 0,
oP 26 (.nilCheck (.t 25)),
oF 27 26 0,
oL 28 27,
oM 29 4,
oI 30 28 29 2,
oD 31 30 2,
oP 32 (.idxS (.t 24) (oK 0) 2),
oT 32 31 2])
 (.seq
 (.ops [
oM 33 0,
oM 34 0,
oP 35 (.nilCheck (.t 34)),
oF 36 35 0,
oL 37 36,
oM 38 4,
oP 39 (.reslice (.t 37) none (some (.t 38)) 2),
oP 40 (.nilCheck (.t 33)),
oF 41 40 0,
oT 41 39 1])
 (.seq
 (.ops [
oP 5 (.move (oK 0))])
 (.block 0
 (.loop
 (.block 1
 (.seq
 (.ops [
oM 42 5,
oM 6 42])
 (.seq
 (.seq
 (.ops [
oM 43 5,
oP 44 (.bin .mul (oK 2) (.t 43)),
oC 45 .add 44 1,
oM 46 5,
oP 47 (.bin .mul (oK 2) (.t 46)),
oC 48 .add 47 2,
oP 49 (.slit 2 1 [.int .i64 0] [(0, .t 45), (1, .t 48)]),
oP 50 (.len (.t 49)),
oP 51 (.move (oK 0))])
 (.block 2
 (.loop body278c)))
 (.seq
 (.seq
 (.ops [
oM 81 6,
oM 82 5,
oB 83 .eql 81 82])
 (.cond (.t 83)
 (.seq
 (.ops [
oD 84 3 2,
oT 2 84 2])
 .ret)
 .skip))
 (.seq
 (.ops [
oM 85 0,
oP 86 (.nilCheck (.t 85)),
oF 87 86 0,
oL 88 87,
oM 89 5,
oM 90 0,
oP 91 (.nilCheck (.t 90)),
oF 92 91 0,
oL 93 92,
oM 94 6,
oM 95 0,
oP 96 (.nilCheck (.t 95)),
oF 97 96 0,
oL 98 97,
oM 99 6,
oI 100 98 99 2,
oD 101 100 2,
oM 102 0,
oP 103 (.nilCheck (.t 102)),
oF 104 103 0,
oL 105 104,
oM 106 5,
oI 107 105 106 2,
oD 108 107 2,
oI 109 88 89 2,
oT 109 101 2,
oI 110 93 94 2,
oT 110 108 2])
 (.ops [
oM 111 6,
oM 5 111])))))))))))))
def AP (n : Nat) : Option AFunc :=
 (cond (Nat.blt n 140) (cond (Nat.blt n 70) (cond (Nat.blt n 35) (cond (Nat.blt n 17) (cond (Nat.blt n 8) (cond (Nat.blt n 4) (cond (Nat.blt n 2) (cond (Nat.blt n 1) none none) (cond (Nat.blt n 3) none none)) (cond (Nat.blt n 6) (cond (Nat.blt n 5) none none) (cond (Nat.blt n 7) none none))) (cond (Nat.blt n 12) (cond (Nat.blt n 10) (cond (Nat.blt n 9) none none) (cond (Nat.blt n 11) none none)) (cond (Nat.blt n 14) (cond (Nat.blt n 13) none none) (cond (Nat.blt n 15) none (cond (Nat.blt n 16) none none))))) (cond (Nat.blt n 26) (cond (Nat.blt n 21) (cond (Nat.blt n 19) (cond (Nat.blt n 18) none none) (cond (Nat.blt n 20) none none)) (cond (Nat.blt n 23) (cond (Nat.blt n 22) none none) (cond (Nat.blt n 24) none (cond (Nat.blt n 25) none none)))) (cond (Nat.blt n 30) (cond (Nat.blt n 28) (cond (Nat.blt n 27) none none) (cond (Nat.blt n 29) none none)) (cond (Nat.blt n 32) (cond (Nat.blt n 31) none none) (cond (Nat.blt n 33) none (cond (Nat.blt n 34) none none)))))) (cond (Nat.blt n 52) (cond (Nat.blt n 43) (cond (Nat.blt n 39) (cond (Nat.blt n 37) (cond (Nat.blt n 36) none none) (cond (Nat.blt n 38) (some F37) none)) (cond (Nat.blt n 41) (cond (Nat.blt n 40) none none) (cond (Nat.blt n 42) none none))) (cond (Nat.blt n 47) (cond (Nat.blt n 45) (cond (Nat.blt n 44) none none) (cond (Nat.blt n 46) none none)) (cond (Nat.blt n 49) (cond (Nat.blt n 48) none none) (cond (Nat.blt n 50) none (cond (Nat.blt n 51) none none))))) (cond (Nat.blt n 61) (cond (Nat.blt n 56) (cond (Nat.blt n 54) (cond (Nat.blt n 53) none none) (cond (Nat.blt n 55) none (some F55))) (cond (Nat.blt n 58) (cond (Nat.blt n 57) (some F56) (some F57)) (cond (Nat.blt n 59) (some F58) (cond (Nat.blt n 60) none none)))) (cond (Nat.blt n 65) (cond (Nat.blt n 63) (cond (Nat.blt n 62) none none) (cond (Nat.blt n 64) none none)) (cond (Nat.blt n 67) (cond (Nat.blt n 66) none none) (cond (Nat.blt n 68) none (cond (Nat.blt n 69) none none))))))) (cond (Nat.blt n 105) (cond (Nat.blt n 87) (cond (Nat.blt n 78) (cond (Nat.blt n 74) (cond (Nat.blt n 72) (cond (Nat.blt n 71) none none) (cond (Nat.blt n 73) none none)) (cond (Nat.blt n 76) (cond (Nat.blt n 75) none none) (cond (Nat.blt n 77) none none))) (cond (Nat.blt n 82) (cond (Nat.blt n 80) (cond (Nat.blt n 79) none none) (cond (Nat.blt n 81) none none)) (cond (Nat.blt n 84) (cond (Nat.blt n 83) (some F82) (some F83)) (cond (Nat.blt n 85) none (cond (Nat.blt n 86) none none))))) (cond (Nat.blt n 96) (cond (Nat.blt n 91) (cond (Nat.blt n 89) (cond (Nat.blt n 88) none none) (cond (Nat.blt n 90) none none)) (cond (Nat.blt n 93) (cond (Nat.blt n 92) none none) (cond (Nat.blt n 94) (some F93) (cond (Nat.blt n 95) none none)))) (cond (Nat.blt n 100) (cond (Nat.blt n 98) (cond (Nat.blt n 97) none none) (cond (Nat.blt n 99) none none)) (cond (Nat.blt n 102) (cond (Nat.blt n 101) none none) (cond (Nat.blt n 103) none (cond (Nat.blt n 104) none none)))))) (cond (Nat.blt n 122) (cond (Nat.blt n 113) (cond (Nat.blt n 109) (cond (Nat.blt n 107) (cond (Nat.blt n 106) none none) (cond (Nat.blt n 108) (some F107) (some F108))) (cond (Nat.blt n 111) (cond (Nat.blt n 110) none none) (cond (Nat.blt n 112) none (some F112)))) (cond (Nat.blt n 117) (cond (Nat.blt n 115) (cond (Nat.blt n 114) none (some F114)) (cond (Nat.blt n 116) none none)) (cond (Nat.blt n 119) (cond (Nat.blt n 118) none none) (cond (Nat.blt n 120) none (cond (Nat.blt n 121) none (some F121)))))) (cond (Nat.blt n 131) (cond (Nat.blt n 126) (cond (Nat.blt n 124) (cond (Nat.blt n 123) (some F122) none) (cond (Nat.blt n 125) none (some F125))) (cond (Nat.blt n 128) (cond (Nat.blt n 127) (some F126) none) (cond (Nat.blt n 129) (some F128) (cond (Nat.blt n 130) none (some F130))))) (cond (Nat.blt n 135) (cond (Nat.blt n 133) (cond (Nat.blt n 132) none none) (cond (Nat.blt n 134) (some F133) none)) (cond (Nat.blt n 137) (cond (Nat.blt n 136) (some F135) none) (cond (Nat.blt n 138) (some F137) (cond (Nat.blt n 139) (some F138) (some F139))))))))) (cond (Nat.blt n 210) (cond (Nat.blt n 175) (cond (Nat.blt n 157) (cond (Nat.blt n 148) (cond (Nat.blt n 144) (cond (Nat.blt n 142) (cond (Nat.blt n 141) (some F140) (some F141)) (cond (Nat.blt n 143) none none)) (cond (Nat.blt n 146) (cond (Nat.blt n 145) none (some F145)) (cond (Nat.blt n 147) (some F146) (some F147)))) (cond (Nat.blt n 152) (cond (Nat.blt n 150) (cond (Nat.blt n 149) (some F148) (some F149)) (cond (Nat.blt n 151) (some F150) (some F151))) (cond (Nat.blt n 154) (cond (Nat.blt n 153) (some F152) (some F153)) (cond (Nat.blt n 155) (some F154) (cond (Nat.blt n 156) (some F155) (some F156)))))) (cond (Nat.blt n 166) (cond (Nat.blt n 161) (cond (Nat.blt n 159) (cond (Nat.blt n 158) (some F157) none) (cond (Nat.blt n 160) none (some F160))) (cond (Nat.blt n 163) (cond (Nat.blt n 162) (some F161) (some F162)) (cond (Nat.blt n 164) (some F163) (cond (Nat.blt n 165) (some F164) none)))) (cond (Nat.blt n 170) (cond (Nat.blt n 168) (cond (Nat.blt n 167) (some F166) (some F167)) (cond (Nat.blt n 169) (some F168) (some F169))) (cond (Nat.blt n 172) (cond (Nat.blt n 171) none none) (cond (Nat.blt n 173) (some F172) (cond (Nat.blt n 174) (some F173) (some F174))))))) (cond (Nat.blt n 192) (cond (Nat.blt n 183) (cond (Nat.blt n 179) (cond (Nat.blt n 177) (cond (Nat.blt n 176) (some F175) (some F176)) (cond (Nat.blt n 178) (some F177) (some F178))) (cond (Nat.blt n 181) (cond (Nat.blt n 180) (some F179) (some F180)) (cond (Nat.blt n 182) (some F181) (some F182)))) (cond (Nat.blt n 187) (cond (Nat.blt n 185) (cond (Nat.blt n 184) (some F183) (some F184)) (cond (Nat.blt n 186) (some F185) (some F186))) (cond (Nat.blt n 189) (cond (Nat.blt n 188) (some F187) (some F188)) (cond (Nat.blt n 190) (some F189) (cond (Nat.blt n 191) (some F190) (some F191)))))) (cond (Nat.blt n 201) (cond (Nat.blt n 196) (cond (Nat.blt n 194) (cond (Nat.blt n 193) (some F192) (some F193)) (cond (Nat.blt n 195) (some F194) (some F195))) (cond (Nat.blt n 198) (cond (Nat.blt n 197) (some F196) (some F197)) (cond (Nat.blt n 199) (some F198) (cond (Nat.blt n 200) (some F199) (some F200))))) (cond (Nat.blt n 205) (cond (Nat.blt n 203) (cond (Nat.blt n 202) (some F201) (some F202)) (cond (Nat.blt n 204) (some F203) (some F204))) (cond (Nat.blt n 207) (cond (Nat.blt n 206) (some F205) (some F206)) (cond (Nat.blt n 208) (some F207) (cond (Nat.blt n 209) (some F208) (some F209)))))))) (cond (Nat.blt n 245) (cond (Nat.blt n 227) (cond (Nat.blt n 218) (cond (Nat.blt n 214) (cond (Nat.blt n 212) (cond (Nat.blt n 211) (some F210) (some F211)) (cond (Nat.blt n 213) (some F212) (some F213))) (cond (Nat.blt n 216) (cond (Nat.blt n 215) (some F214) (some F215)) (cond (Nat.blt n 217) (some F216) (some F217)))) (cond (Nat.blt n 222) (cond (Nat.blt n 220) (cond (Nat.blt n 219) (some F218) (some F219)) (cond (Nat.blt n 221) (some F220) (some F221))) (cond (Nat.blt n 224) (cond (Nat.blt n 223) (some F222) (some F223)) (cond (Nat.blt n 225) (some F224) (cond (Nat.blt n 226) (some F225) (some F226)))))) (cond (Nat.blt n 236) (cond (Nat.blt n 231) (cond (Nat.blt n 229) (cond (Nat.blt n 228) (some F227) none) (cond (Nat.blt n 230) none none)) (cond (Nat.blt n 233) (cond (Nat.blt n 232) none (some F232)) (cond (Nat.blt n 234) none (cond (Nat.blt n 235) none none)))) (cond (Nat.blt n 240) (cond (Nat.blt n 238) (cond (Nat.blt n 237) none none) (cond (Nat.blt n 239) none none)) (cond (Nat.blt n 242) (cond (Nat.blt n 241) none none) (cond (Nat.blt n 243) none (cond (Nat.blt n 244) none none)))))) (cond (Nat.blt n 262) (cond (Nat.blt n 253) (cond (Nat.blt n 249) (cond (Nat.blt n 247) (cond (Nat.blt n 246) none none) (cond (Nat.blt n 248) none none)) (cond (Nat.blt n 251) (cond (Nat.blt n 250) none none) (cond (Nat.blt n 252) none none))) (cond (Nat.blt n 257) (cond (Nat.blt n 255) (cond (Nat.blt n 254) (some F253) none) (cond (Nat.blt n 256) none none)) (cond (Nat.blt n 259) (cond (Nat.blt n 258) none none) (cond (Nat.blt n 260) none (cond (Nat.blt n 261) none none))))) (cond (Nat.blt n 271) (cond (Nat.blt n 266) (cond (Nat.blt n 264) (cond (Nat.blt n 263) none none) (cond (Nat.blt n 265) none (some F265))) (cond (Nat.blt n 268) (cond (Nat.blt n 267) (some F266) (some F267)) (cond (Nat.blt n 269) (some F268) (cond (Nat.blt n 270) (some F269) (some F270))))) (cond (Nat.blt n 275) (cond (Nat.blt n 273) (cond (Nat.blt n 272) (some F271) (some F272)) (cond (Nat.blt n 274) (some F273) (some F274))) (cond (Nat.blt n 277) (cond (Nat.blt n 276) (some F275) (some F276)) (cond (Nat.blt n 278) (some F277) (cond (Nat.blt n 279) (some F278) none)))))))))
end Go.Ab.Dike
namespace Go.Ab
theorem map_ev_congr {T T' : List Value} : ∀ {l : List Opd}, (∀ x ∈ l, ev T x = ev T' x) → l.map (ev T) = l.map (ev T') := fun h => List.map_congr_left h
theorem boundA_congr {T T' : List Value} {d : Nat} {x : Option Opd} (h : ∀ y ∈ x.toList, ev T y = ev T' y) : boundA T d x = boundA T' d x := by
  cases x with
  | none => rfl
  | some y => simp [boundA, h y (by simp)]
theorem opA_congr {o : AOp} {T T' : List Value} (h : ∀ x ∈ o.opds, ev T x = ev T' x) (cv : CallFn) (g : Nat) (A : Hp) : opA o cv g T A = opA o cv g T' A := by
  cases o <;> simp only [AOp.opds, List.mem_cons, List.not_mem_nil, or_false, forall_eq_or_imp, forall_eq, List.mem_append] at h <;> simp only [opA]
  case move x => rw [h]
  case pick c a b => rw [h.1, h.2.1, h.2.2]
  case nilCheck x => rw [h]
  case bin op x y => rw [h.1, h.2]
  case beq n x y => rw [h.1, h.2]
  case eqv n s x y => rw [h.1, h.2]
  case eqNil k n x => rw [h]
  case neg x => rw [h]
  case not x => rw [h]
  case toInt k x => rw [h]
  case toF64 x => rw [h]
  case makeFunc f a b => rw [map_ev_congr fun x hx => h x (.inl hx), map_ev_congr fun x hx => h x (.inr hx)]
  case build z ps =>
    have : (ps.map fun p => (p.1, p.2.1, ev T p.2.2)) = ps.map fun p => (p.1, p.2.1, ev T' p.2.2) := List.map_congr_left fun p hp => by rw [h p.2.2 (List.mem_map.2 ⟨p, hp, rfl⟩)]
    rw [this]
  case fieldAddr x n => rw [h]
  case field x n s => rw [h]
  case idxS x i n => rw [h.1, h.2]
  case idxA x i n m => rw [h.1, h.2]
  case index x i n m g => rw [h.1, h.2]
  case reslice x lo hi n =>
    have h1 := boundA_congr (T := T) (T' := T') (d := 0) (x := lo) fun y hy => h.2 y (.inl hy)
    have h2 : (fun n => boundA T n hi) = fun n => boundA T' n hi := funext fun n => boundA_congr fun y hy => h.2 y (.inr hy)
    rw [h.1, h1, h2]
  case extract x n => rw [h]
  case len x => rw [h]
  case lenT x => rw [h]
  case min l => rw [map_ev_congr h]
  case max l => rw [map_ev_congr h]
  case box x => rw [h]
  case slit n e z ps =>
    have : (ps.map fun p => (p.1 * e, e, ev T p.2)) = ps.map fun p => (p.1 * e, e, ev T' p.2) := List.map_congr_left fun p hp => by rw [h p.2 (List.mem_map.2 ⟨p, hp, rfl⟩)]
    rw [this]
  case makeS l c e b z => rw [h.1, h.2]
  case load x s => rw [h]
  case store x v n => rw [h.1, h.2]
  case append s x e b => rw [h.1, h.2]
  case copy d s e => rw [h.1, h.2]
  case call f l ro => rw [h.1, map_ev_congr h.2]
  case callC c f l => rw [h.1, h.2.1, map_ev_congr h.2.2]
  case strOp op x y => rw [h.1, h.2]
  case strIdx x i => rw [h.1, h.2]
  case toBytes x => rw [h]
  case toStr x => rw [h]
  case lookup x k kt z ok => rw [h.1, h.2]
  case mapSet x k v kt => rw [h.1, h.2.1, h.2.2]
  case lenM x => rw [h]
  case clearM x => rw [h]
def CallKeeps (cv : CallFn) : Prop := ∀ (g : Nat) (f : Value) (args : List Value) (A : Hp) (v : Value) (A' : Hp), cv g f args A = some (v, A') → A.n ≤ A'.n ∧ ∀ x, x < A.n → x < g → A'.get x = A.get x
theorem pureV_heap {r : Option Value} {A A' : Hp} {v : Value} (h : pureV r A = some (v, A')) : r = some v ∧ A' = A := by
  cases r with
  | none => simp [pureV] at h
  | some u => simp [pureV] at h; exact ⟨by rw [h.1], h.2.symm⟩
theorem opA_mem0 {o : AOp} (hm : o.mem = 0) {cv : CallFn} {g : Nat} {T : List Value} {A A' : Hp} {v : Value} (h : opA o cv g T A = some (v, A')) : A' = A ∧ ∀ g' B, opA o cv g' T B = some (v, B) := by
  cases o <;> simp only [AOp.mem] at hm <;> try (cases hm; done)
  case call f l ro => cases ro <;> simp at hm
  case fail => cases h
  case rangeI => cases h
  case nextI => cases h
  case entryI => cases h
  case move x => cases h; exact ⟨rfl, fun _ _ => rfl⟩
  case makeFunc f a b => cases h; exact ⟨rfl, fun _ _ => rfl⟩
  all_goals
    obtain ⟨h1, h2⟩ := pureV_heap h
    exact ⟨h2, fun _ B => by simp only [opA, h1, pureV, Option.map_some]⟩
theorem opA_load {x : Opd} {s : Option Nat} {cv : CallFn} {g : Nat} {T : List Value} {A A' : Hp} {v : Value} (h : opA (.load x s) cv g T A = some (v, A')) : A' = A ∧ loadA A (ev T x) s = some v :=
  (pureV_heap h).symm
theorem opA_mem2 {o : AOp} (hm : o.mem = 2) {cv : CallFn} {g : Nat} {T : List Value} {A A' : Hp} {v : Value} (h : opA o cv g T A = some (v, A')) : (∃ b, A' = A.push b) ∧ ∀ g', opA o cv g' T A = some (v, A') := by
  cases o <;> simp only [AOp.mem] at hm <;> try (cases hm; done)
  case call f l ro => cases ro <;> simp at hm
  case alloc z => cases h; exact ⟨⟨_, rfl⟩, fun _ => rfl⟩
  case box x => cases h; exact ⟨⟨_, rfl⟩, fun _ => rfl⟩
  case slit n e z ps =>
    refine ⟨?_, fun _ => h⟩
    simp only [opA, slitA] at h
    split at h
    · cases h; exact ⟨_, rfl⟩
    · cases h
  case makeS l c e b z =>
    refine ⟨?_, fun _ => h⟩
    simp only [opA, makeSA] at h
    split at h
    · split at h
      · cases h; exact ⟨_, rfl⟩
      · cases h
    · cases h
  case makeM => cases h; exact ⟨⟨_, rfl⟩, fun _ => rfl⟩
  case toBytes x =>
    refine ⟨?_, fun _ => h⟩
    simp only [opA, toBytesA] at h
    split at h
    · cases h; exact ⟨_, rfl⟩
    · cases h
theorem writeA_some {g x o : Nat} {A A' : Hp} {vs : List Value} (h : writeA g A x o vs = some A') :
    g ≤ x ∧ ∃ cs, A.get x = some (.cells cs false) ∧ o + vs.length ≤ cs.length ∧ A' = A.set x (some (.cells (setRange cs o vs) false)) := by
  unfold writeA at h
  split at h
  · rename_i hg
    split at h
    · rename_i cs hcs
      split at h
      · rename_i hb
        cases h
        exact ⟨hg, cs, hcs, hb.1, rfl⟩
      · cases h
    · cases h
  · cases h
theorem opA_store {x y : Opd} {n : Nat} {cv : CallFn} {g : Nat} {T : List Value} {A A' : Hp} {v : Value} (h : opA (.store x y n) cv g T A = some (v, A')) :
    ∃ b o vs, ev T x = .pointer (some ⟨b, o, none⟩) ∧ vs.length = n ∧ writeA g A b o vs = some A' := by
  simp only [opA, storeV, Option.map_eq_some_iff] at h
  obtain ⟨A1, h, he⟩ := h
  cases he
  unfold storeA at h
  split at h
  · rename_i b o heq
    split at h
    · rename_i hl
      exact ⟨b, o, _, heq, hl, h⟩
    · cases h
  · cases h
theorem stillBut_some {A A' : Hp} {f v : Value} {r : Option (Value × Hp)} (h : stillBut A f r = some (v, A')) : r = some (v, A') ∧ OnlyC A f A' := by
  cases r with
  | none => cases h
  | some p =>
    obtain ⟨v1, A1⟩ := p
    simp only [stillBut] at h
    split at h
    · rename_i hc; cases h; exact ⟨rfl, hc⟩
    · cases h
theorem stillBut_of {A A' : Hp} {f v : Value} {r : Option (Value × Hp)} (h : r = some (v, A')) (hc : OnlyC A f A') : stillBut A f r = some (v, A') := by
  subst h
  simp only [stillBut, if_pos hc]
theorem mapSetA_some {g kt : Nat} {A A' : Hp} {x k v : Value} (h : mapSetA g A kt x k v = some A') : ∃ r l l', x = .map (some r) ∧ A.get r = some (.map l none) ∧ g ≤ r ∧ keyFits kt k = true ∧ setM k v l = some l' ∧ A' = A.set r (some (.map l' none)) := by
  unfold mapSetA at h
  split at h
  · rename_i r
    split at h
    · rename_i l hl
      split at h
      · rename_i hg
        simp only [Option.map_eq_some_iff] at h
        obtain ⟨l', h1, rfl⟩ := h
        exact ⟨r, l, l', rfl, hl, hg.1, hg.2, h1, rfl⟩
      · cases h
    · cases h
  · cases h
theorem clearMA_some {g : Nat} {A A' : Hp} {x : Value} (h : clearMA g A x = some A') : (x = .map none ∧ A' = A) ∨ ∃ r l, x = .map (some r) ∧ A.get r = some (.map l none) ∧ g ≤ r ∧ A' = A.set r (some (.map [] none)) := by
  unfold clearMA at h
  split at h
  · cases h; exact .inl ⟨rfl, rfl⟩
  · rename_i r
    split at h
    · rename_i l hl
      split at h
      · rename_i hg
        cases h
        exact .inr ⟨r, l, rfl, hl, hg, rfl⟩
      · cases h
    · cases h
  · cases h
theorem opA_len {o : AOp} {cv : CallFn} (hcv : CallKeeps cv) {g : Nat} {T : List Value} {A A' : Hp} {v : Value} (h : opA o cv g T A = some (v, A')) : A.n ≤ A'.n := by
  by_cases h0 : o.mem = 0
  · rw [(opA_mem0 h0 h).1]; exact Nat.le_refl _
  · by_cases h2 : o.mem = 2
    · obtain ⟨⟨b, rfl⟩, _⟩ := opA_mem2 h2 h; simp
    · cases o <;> simp only [AOp.mem, not_true_eq_false] at h0 h2
      case load x s => rw [(opA_load h).1]; exact Nat.le_refl _
      case store x y n =>
        obtain ⟨b, o, vs, _, _, hw⟩ := opA_store h
        obtain ⟨_, cs, _, _, rfl⟩ := writeA_some hw
        simp
      case append s x e by_ =>
        simp only [opA, appendA] at h
        repeat' (split at h)
        all_goals try (cases h; done)
        all_goals try (cases h; exact Nat.le_refl _)
        all_goals try (cases h; simp; done)
        simp only [Option.map_eq_some_iff] at h
        obtain ⟨A1, hw, he⟩ := h
        cases he
        obtain ⟨_, cs, _, _, rfl⟩ := writeA_some hw
        simp
      case copy d s e =>
        simp only [opA, copyA] at h
        repeat' (split at h)
        all_goals try (cases h; done)
        · simp only [Option.map_eq_some_iff] at h
          obtain ⟨A1, hw, he⟩ := h
          cases he
          obtain ⟨_, cs, _, _, rfl⟩ := writeA_some hw
          simp
        · cases h; exact Nat.le_refl _
      case call f l ro => exact (hcv _ _ _ _ _ _ h).1
      case callC c f l => exact (hcv _ _ _ _ _ _ (stillBut_some h).1).1
      case toStr y => rw [(pureV_heap h).2]; exact Nat.le_refl _
      case lookup x k kt z ok => rw [(pureV_heap h).2]; exact Nat.le_refl _
      case lenM x => rw [(pureV_heap h).2]; exact Nat.le_refl _
      case mapSet x k v kt =>
        simp only [opA, storeV, Option.map_eq_some_iff] at h
        obtain ⟨A1, h, he⟩ := h
        cases he
        obtain ⟨r, l, l', _, _, _, _, _, rfl⟩ := mapSetA_some h
        simp
      case clearM x =>
        simp only [opA, Option.map_eq_some_iff] at h
        obtain ⟨A1, h, he⟩ := h
        cases he
        rcases clearMA_some h with ⟨_, rfl⟩ | ⟨r, l, _, _, _, rfl⟩ <;> simp
theorem opA_still {o : AOp} {cv : CallFn} (hcv : CallKeeps cv) (hm : o.mem ≠ 3 ∧ o.mem ≠ 4 ∧ o.mem ≠ 5 ∧ o.mem ≠ 7) {g : Nat} {T : List Value} {A A' : Hp} {v : Value} (h : opA o cv g T A = some (v, A')) :
    ∀ x, x < A.n → A'.get x = A.get x := by
  intro x hx
  by_cases h0 : o.mem = 0
  · rw [(opA_mem0 h0 h).1]
  · by_cases h2 : o.mem = 2
    · obtain ⟨⟨b, rfl⟩, _⟩ := opA_mem2 h2 h
      rw [Hp.get_push, if_neg (by omega)]
    · cases o <;> simp only [AOp.mem, not_true_eq_false, ne_eq, false_and, and_false] at h0 h2 hm
      case load y s => rw [(opA_load h).1]
      case toStr y => rw [(pureV_heap h).2]
      case lookup x k kt z ok => rw [(pureV_heap h).2]
      case lenM x => rw [(pureV_heap h).2]
      case call f l ro =>
        cases ro with
        | false => simp at hm
        | true => exact (hcv _ _ _ _ _ _ h).2 x hx hx
theorem opA_keeps {o : AOp} {cv : CallFn} (hcv : CallKeeps cv) {g : Nat} {T : List Value} {A A' : Hp} {v : Value} (h : opA o cv g T A = some (v, A')) : ∀ x, x < A.n → x < g → A'.get x = A.get x := by
  intro x hx hg
  by_cases hm : o.mem ≠ 3 ∧ o.mem ≠ 4 ∧ o.mem ≠ 5 ∧ o.mem ≠ 7
  · exact opA_still hcv hm h x hx
  · have wr : ∀ {b off : Nat} {vs : List Value} {B : Hp}, writeA g A b off vs = some B → B.get x = A.get x := fun hw => by
      obtain ⟨hgb, cs, hcs, _, rfl⟩ := writeA_some hw
      rw [Hp.get_set hcs, if_neg (by omega)]
    cases o <;> simp only [AOp.mem] at hm <;> try (exfalso; revert hm; decide)
    case store y z n =>
      obtain ⟨b, o, vs, _, _, hw⟩ := opA_store h
      exact wr hw
    case append s y e by_ =>
      simp only [opA, appendA] at h
      repeat' (split at h)
      all_goals try (cases h; done)
      all_goals try (cases h; rfl)
      · cases h; rw [Hp.get_push, if_neg (by omega)]
      · cases h
        rename_i b off es m c cs _ hcs hc _
        rw [Hp.get_push, if_neg (by simp; omega), Hp.get_set hcs, if_neg (by omega)]
      · simp only [Option.map_eq_some_iff] at h
        obtain ⟨A1, hw, he⟩ := h
        cases he
        exact wr hw
    case copy d s e =>
      simp only [opA, copyA] at h
      repeat' (split at h)
      all_goals try (cases h; done)
      · simp only [Option.map_eq_some_iff] at h
        obtain ⟨A1, hw, he⟩ := h
        cases he
        exact wr hw
      · cases h; rfl
    case call f l ro =>
      cases ro with
      | false => exact (hcv _ _ _ _ _ _ h).2 x hx hg
      | true => exact (hcv _ _ _ _ _ _ h).2 x hx hx
    case callC c f l => exact (hcv _ _ _ _ _ _ (stillBut_some h).1).2 x hx hg
    case mapSet x k v kt =>
      simp only [opA, storeV, Option.map_eq_some_iff] at h
      obtain ⟨A1, h, he⟩ := h
      cases he
      obtain ⟨r, l, l', _, hl, hgr, _, _, rfl⟩ := mapSetA_some h
      rw [Hp.get_set hl, if_neg (by omega)]
    case clearM x =>
      simp only [opA, Option.map_eq_some_iff] at h
      obtain ⟨A1, h, he⟩ := h
      cases he
      rcases clearMA_some h with ⟨_, rfl⟩ | ⟨r, l, _, hl, hgr, rfl⟩
      · rfl
      · rw [Hp.get_set hl, if_neg (by omega)]
theorem befStep_bit (acc : List Nat) (l : List Nat) (i : Nat) : (befStep acc l).testBit i = true ↔ ∃ e ∈ l, e = i ∨ (acc.getD e 0).testBit i = true := by
  unfold befStep
  have key : ∀ (l : List Nat) (s : Nat), (l.foldl (fun s e => s ||| 2 ^ e ||| acc.getD e 0) s).testBit i = true ↔ s.testBit i = true ∨ ∃ e ∈ l, e = i ∨ (acc.getD e 0).testBit i = true := by
    intro l
    induction l with
    | nil => intro s; simp
    | cons e l ih =>
      intro s
      rw [List.foldl_cons, ih]
      simp only [Nat.testBit_or, Nat.testBit_two_pow, Bool.or_eq_true, decide_eq_true_eq, List.mem_cons, exists_eq_or_imp]
      constructor
      · rintro ((( h | h) | h) | h)
        · exact .inl h
        · exact .inr (.inl (.inl h))
        · exact .inr (.inl (.inr h))
        · exact .inr (.inr h)
      · rintro (h | (h | h) | h)
        · exact .inl (.inl (.inl h))
        · exact .inl (.inl (.inr h))
        · exact .inl (.inr h)
        · exact .inr h
  have := key l 0
  simpa using this
theorem snoc_ind {α : Type} {P : List α → Prop} (h0 : P []) (h1 : ∀ l a, P l → P (l ++ [a])) (l : List α) : P l := by
  have : ∀ l : List α, P l.reverse := fun l => by
    induction l with
    | nil => exact h0
    | cons a l ih => rw [List.reverse_cons]; exact h1 _ _ ih
  have := this l.reverse
  rwa [List.reverse_reverse] at this
theorem befA_snoc (aft : List (List Nat)) (l : List Nat) : befA (aft ++ [l]) = befA aft ++ [befStep (befA aft) l] := by simp [befA]
theorem befA_length (aft : List (List Nat)) : (befA aft).length = aft.length := by
  refine snoc_ind (P := fun aft => (befA aft).length = aft.length) rfl (fun aft l ih => ?_) aft
  rw [befA_snoc]; simp [ih]
theorem befA_get (aft : List (List Nat)) : ∀ j, j < aft.length → (befA aft).getD j 0 = befStep (befA (aft.take j)) (aft.getD j []) := by
  refine snoc_ind (P := fun aft => ∀ j, j < aft.length → (befA aft).getD j 0 = befStep (befA (aft.take j)) (aft.getD j [])) (by intro j h; simp at h) (fun aft l ih => ?_) aft
  · intro j h
    rw [befA_snoc]
    by_cases hj : j < aft.length
    · have e1 : (befA aft ++ [befStep (befA aft) l]).getD j 0 = (befA aft).getD j 0 := by
        simp [List.getD, List.getElem?_append_left (show j < (befA aft).length by rw [befA_length]; exact hj)]
      have e2 : (aft ++ [l]).getD j [] = aft.getD j [] := by simp [List.getD, List.getElem?_append_left hj]
      rw [e1, ih j hj, e2, List.take_append_of_le_length (by omega)]
    · have hj : j = aft.length := by simp at h; omega
      subst hj
      have e1 : (befA aft ++ [befStep (befA aft) l]).getD aft.length 0 = befStep (befA aft) l := by
        simp [List.getD, befA_length]
      have e2 : (aft ++ [l]).getD aft.length [] = l := by simp [List.getD]
      rw [e1, e2, List.take_left]
theorem befA_take (aft : List (List Nat)) (k j : Nat) (hj : j < k) (hk : k ≤ aft.length) : (befA (aft.take k)).getD j 0 = (befA aft).getD j 0 := by
  rw [befA_get aft j (by omega), befA_get (aft.take k) j (by simp; omega)]
  rw [List.take_take, show min j k = j by omega]
  congr 1
  simp [List.getD, hj]
theorem bef_closed {aft : List (List Nat)} (hback : ∀ j, j < aft.length → ∀ e ∈ aft.getD j [], e < j) {S : Nat → Prop} (hS : ∀ j, j < aft.length → S j → ∀ e ∈ aft.getD j [], S e) :
    ∀ j, j < aft.length → S j → ∀ i, ((befA aft).getD j 0).testBit i = true → S i := by
  intro j
  induction j using Nat.strongRecOn with
  | _ j ih =>
    intro hj hSj i hi
    rw [befA_get aft j hj, befStep_bit] at hi
    obtain ⟨e, he, h | h⟩ := hi
    · subst h; exact hS j hj hSj e he
    · have hlt := hback j hj e he
      rw [befA_take aft j e hlt (by omega)] at h
      exact ih e hlt (by omega) (hS j hj hSj e he) i h
theorem bef_lt {aft : List (List Nat)} (hback : ∀ j, j < aft.length → ∀ e ∈ aft.getD j [], e < j) : ∀ j, j < aft.length → ∀ i, ((befA aft).getD j 0).testBit i = true → i < j := by
  intro j
  induction j using Nat.strongRecOn with
  | _ j ih =>
    intro hj i hi
    rw [befA_get aft j hj, befStep_bit] at hi
    obtain ⟨e, he, h | h⟩ := hi
    · subst h; exact hback j hj e he
    · have hlt := hback j hj e he
      rw [befA_take aft j e hlt (by omega)] at h
      have := ih e hlt (by omega) i h
      omega
def Step (cv : CallFn) (g : Nat) (o : AOper) (s s' : List Value × Hp) : Prop :=
  (wantedA o.guard s.1 = true ∧ o.apart.all (apartA s.1) = true ∧ ∃ v, opA o.op cv g s.1 s.2 = some (v, s'.2) ∧ s'.1 = putA o.dst s.1 v) ∨
  (wantedA o.guard s.1 = false ∧ s'.2 = s.2 ∧ s'.1 = putA o.dst s.1 undef)
theorem operA_step {cv : CallFn} {g : Nat} {o : AOper} {next : List Value → Hp → Option (List Value × Hp)} {T : List Value} {A : Hp} {r : List Value × Hp} (h : operA o next cv g T A = some r) :
    ∃ s', Step cv g o (T, A) s' ∧ next s'.1 s'.2 = some r := by
  unfold operA at h
  split at h
  · rename_i hw
    split at h
    · rename_i ha
      split at h
      · rename_i v A' hv
        rw [forceV_eq] at h
        exact ⟨(putA o.dst T v, A'), .inl ⟨hw, ha, v, hv, rfl⟩, h⟩
      · cases h
    · cases h
  · rename_i hw
    exact ⟨(putA o.dst T undef, A), .inr ⟨by simpa using hw, rfl, rfl⟩, h⟩
theorem opsA_states {cv : CallFn} {g : Nat} : ∀ {al : List AOper} {T : List Value} {A : Hp} {r : List Value × Hp}, opsA cv g al T A = some r →
    ∃ st : Nat → List Value × Hp, st 0 = (T, A) ∧ st al.length = r ∧ ∀ i o, al[i]? = some o → Step cv g o (st i) (st (i + 1)) := by
  intro al
  induction al with
  | nil => intro T A r h; simp at h; exact ⟨fun _ => (T, A), rfl, h, by simp⟩
  | cons o al ih =>
    intro T A r h
    rw [opsA_cons] at h
    obtain ⟨s', hs, hn⟩ := operA_step h
    obtain ⟨st, h0, h1, h2⟩ := ih hn
    refine ⟨fun i => match i with | 0 => (T, A) | i + 1 => st i, rfl, h1, fun i o' hi => ?_⟩
    cases i with
    | zero => simp at hi; subst hi; show Step cv g o (T, A) (st 0); rw [h0]; exact hs
    | succ i => exact h2 i o' (by simpa using hi)
end Go.Ab
namespace Go.Ab
def HK (g : Nat) (A A' : Hp) : Prop := A.n ≤ A'.n ∧ ∀ x, x < A.n → x < g → A'.get x = A.get x
theorem HK.refl (g : Nat) (A : Hp) : HK g A A := ⟨Nat.le_refl _, fun _ _ _ => rfl⟩
theorem HK.trans {g : Nat} {A A1 A2 : Hp} (h1 : HK g A A1) (h2 : HK g A1 A2) : HK g A A2 :=
  ⟨Nat.le_trans h1.1 h2.1, fun x hx hg => by rw [h2.2 x (Nat.lt_of_lt_of_le hx h1.1) hg, h1.2 x hx hg]⟩
theorem HK.push (g : Nat) (A : Hp) (b : ABlk) : HK g A (A.push b) := ⟨by simp, fun x hx _ => by rw [Hp.get_push, if_neg (by omega)]⟩
theorem HK.set {g : Nat} {A A1 : Hp} (h : HK g A A1) {x : Nat} {b0 : ABlk} (hx : A1.get x = some b0) (hg : g ≤ x ∨ A.n ≤ x) (b : Option ABlk) : HK g A (A1.set x b) :=
  ⟨h.1, fun y hy hyg => by rw [Hp.get_set hx, if_neg (by omega)]; exact h.2 y hy hyg⟩
def SK (g : Nat) (st st' : St) : Prop := HK g st.A st'.A ∧ ∃ ns, st'.D = ns ++ st.D ∧ ∀ x ∈ ns, st.A.n ≤ x
theorem SK.refl (g : Nat) (st : St) : SK g st st := ⟨HK.refl _ _, [], rfl, by simp⟩
theorem SK.trans {g : Nat} {s s1 s2 : St} (h1 : SK g s s1) (h2 : SK g s1 s2) : SK g s s2 := by
  obtain ⟨k1, n1, e1, m1⟩ := h1
  obtain ⟨k2, n2, e2, m2⟩ := h2
  refine ⟨k1.trans k2, n2 ++ n1, by rw [e2, e1, List.append_assoc], fun x hx => ?_⟩
  rcases List.mem_append.1 hx with h | h
  · exact Nat.le_trans k1.1 (m2 x h)
  · exact m1 x h
def RunKeeps (run : RunFn) : Prop := ∀ (g : Nat) (rd : Option Nat) (st : St) (ex : Ex) (st' : St), run g rd st = some (ex, st') → SK g st st'
def FnKeeps (cf : Nat → Nat → List Value → Hp → Option (Value × Hp)) : Prop := ∀ (g f : Nat) (args : List Value) (A : Hp) (v : Value) (A' : Hp), cf g f args A = some (v, A') → HK g A A'
theorem takeMarks_keeps {g : Nat} {A : Hp} : ∀ {D : List Nat} {A1 A' : Hp}, HK g A A1 → (∀ x ∈ D, A.n ≤ x) → takeMarks A1 D = some A' → HK g A A' := by
  intro D
  induction D with
  | nil => intro A1 A' h _ ht; simp [takeMarks] at ht; rw [← ht]; exact h
  | cons x D ih =>
    intro A1 A' h hD ht
    simp only [takeMarks] at ht
    split at ht
    · rename_i hx
      exact ih (h.set hx (.inr (hD x (by simp))) none) (fun y hy => hD y (by simp [hy])) ht
    · cases ht
theorem enterA_keeps {run : ACode → RunFn} (hr : ∀ c, RunKeeps (run c)) {g : Nat} {args : List Value} {A A' : Hp} {v : Value} {af : Option AFunc} (h : enterA run g args A af = some (v, A')) : HK g A A' := by
  unfold enterA at h
  split at h
  · unfold finishA at h
    split at h
    · cases h
    · rename_i ex st' _ heq
      split at h
      · rename_i A1 hA1
        simp only [Option.map_eq_some_iff] at h
        obtain ⟨u, _, he⟩ := h
        cases he
        obtain ⟨k, ns, e, m⟩ := hr _ _ _ _ _ _ heq
        refine takeMarks_keeps k (fun x hx => m x ?_) hA1
        rw [e] at hx; simpa using hx
      · cases h
    · cases h
  · rw [(pureV_heap h).2]; exact HK.refl _ _
  · cases h
theorem callF_keeps {AP : Nat → Option AFunc} {K : Nat → Option Spec} {run : ACode → RunFn} (hK : ∀ h S, K h = some S → ∀ g args A v A', S g args A = some (v, A') → HK g A A') (hr : ∀ c, RunKeeps (run c)) : FnKeeps (callF AP K run) := by
  intro g f args A v A' h
  unfold callF at h
  split at h
  · rename_i S hS
    exact hK f S hS g args A v A' h
  · exact enterA_keeps hr h
theorem yieldA_keeps {run : ACode → RunFn} (hr : ∀ c, RunKeeps (run c)) {g l : Nat} {args : List Value} {A A' : Hp} {v : Value} (h : yieldA run g l args A = some (v, A')) : HK g A A' := by
  unfold yieldA at h
  split at h
  · rename_i r hl
    split at h
    · rename_i hg
      unfold beginRoundA at h
      split at h
      · rename_i st1 heq
        have k1 := (hr _ _ _ _ _ _ heq).1
        split at h
        · rename_i r1 hl1
          split at h
          · unfold endRoundA at h
            split at h
            · rename_i ex st2 heq2
              have k2 := (hr _ _ _ _ _ _ heq2).1
              split at h
              · rename_i r2 hl2
                cases h
                exact ((k1.set hl1 (.inl hg.2) _).trans k2).set hl2 (.inl hg.2) _
              · cases h
            · cases h
          · cases h
        · cases h
      · cases h
    · cases h
  · cases h
theorem callV_keeps {AP : Nat → Option AFunc} {K : Nat → Option Spec} {run : ACode → RunFn} (hK : ∀ h S, K h = some S → ∀ g args A v A', S g args A = some (v, A') → HK g A A') (hr : ∀ c, RunKeeps (run c)) : CallKeeps (callV AP K run) := by
  intro g f args A v A' h
  unfold callV at h
  split at h
  · exact callF_keeps hK hr _ _ _ _ _ _ h
  · exact yieldA_keeps hr h
  · cases h
theorem operA_keeps {cv : CallFn} (hcv : CallKeeps cv) {o : AOper} {next : List Value → Hp → Option (List Value × Hp)} {g : Nat} {T T' : List Value} {A A' : Hp}
    (hn : ∀ T1 A1, next T1 A1 = some (T', A') → HK g A1 A') (h : operA o next cv g T A = some (T', A')) : HK g A A' := by
  unfold operA at h
  split at h
  · split at h
    · split at h
      · rename_i v A1 hv
        rw [forceV_eq] at h
        exact HK.trans ⟨opA_len hcv hv, opA_keeps hcv hv⟩ (hn _ _ h)
      · cases h
    · cases h
  · exact hn _ _ h
theorem opsA_keeps {cv : CallFn} (hcv : CallKeeps cv) {g : Nat} : ∀ {l : List AOper} {T T' : List Value} {A A' : Hp}, opsA cv g l T A = some (T', A') → HK g A A' := by
  intro l
  induction l with
  | nil => intro T T' A A' h; simp at h; rw [← h.2]; exact HK.refl _ _
  | cons o l ih =>
    intro T T' A A' h
    rw [opsA_cons] at h
    exact operA_keeps hcv (fun _ _ h => ih h) h
theorem seqA_keeps {b : RunFn} (hb : RunKeeps b) {g : Nat} {rd : Option Nat} {st : St} {r : Option (Ex × St)} (hr : ∀ ex st', r = some (ex, st') → SK g st st') {ex : Ex} {st' : St} (h : seqA b g rd r = some (ex, st')) : SK g st st' := by
  unfold seqA at h
  split at h
  · exact (hr _ _ rfl).trans (hb _ _ _ _ _ h)
  · exact hr _ _ h
theorem iterA_keeps {body : RunFn} (hb : RunKeeps body) : ∀ m, RunKeeps (iterA body m) := by
  intro m
  induction m with
  | zero => intro g rd st ex st' h; cases h
  | succ m ih =>
    intro g rd st ex st' h
    exact seqA_keeps ih (fun ex st' h => hb _ _ _ _ _ h) (show seqA (iterA body m) g rd (body g rd st) = some (ex, st') from h)
theorem endLoopA_keeps {g l : Nat} {T : List Value} {D : List Nat} {st : St} {r : Option (Value × Hp)} (hr : ∀ v A3, r = some (v, A3) → HK g st.A A3) (hl : st.A.n ≤ l) (hD : ∃ ns, D = ns ++ st.D ∧ ∀ x ∈ ns, st.A.n ≤ x) {ex : Ex} {st' : St}
    (h : endLoopA l T D r = some (ex, st')) : SK g st st' := by
  unfold endLoopA at h
  split at h
  · rename_i v A3
    split at h
    · rename_i r' hl'
      have k := (hr _ _ rfl).set hl' (.inr hl) (some (.loop { r' with state := .exhausted }))
      split at h
      · cases h
      · split at h <;> cases h <;> exact ⟨k, hD⟩
    · cases h
  · cases h
theorem codeA_keeps {cv : CallFn} {cf : Nat → Nat → List Value → Hp → Option (Value × Hp)} (hcv : CallKeeps cv) (hcf : FnKeeps cf) (m : Nat) : ∀ c, RunKeeps (codeA cv cf m c) := by
  intro c
  induction c with
  | skip => intro g rd st ex st' h; cases h; exact SK.refl _ _
  | ops l =>
    intro g rd st ex st' h
    replace h : opsSt cv g l st = some (ex, st') := h
    simp only [opsSt, Option.map_eq_some_iff] at h
    obtain ⟨⟨T', A'⟩, h, he⟩ := h
    cases he
    exact ⟨opsA_keeps hcv h, [], rfl, by simp⟩
  | seq a b iha ihb =>
    intro g rd st ex st' h
    exact seqA_keeps ihb (fun ex st' h => iha _ _ _ _ _ h) (show seqA (codeA cv cf m b) g rd (codeA cv cf m a g rd st) = some (ex, st') from h)
  | cond c a b iha ihb =>
    intro g rd st ex st' h
    replace h : condA (codeA cv cf m a) (codeA cv cf m b) g rd st (ev st.T c) = some (ex, st') := h
    unfold condA at h
    split at h
    · exact iha _ _ _ _ _ h
    · exact ihb _ _ _ _ _ h
    · cases h
  | block id c ih =>
    intro g rd st ex st' h
    replace h : inBlk id (codeA cv cf m c g rd st) = some (ex, st') := h
    unfold inBlk at h
    split at h
    · rename_i i st1 heq
      have k := ih _ _ _ _ _ heq
      split at h <;> (cases h; exact k)
    · exact ih _ _ _ _ _ h
  | loop c ih => exact iterA_keeps ih m
  | exit id => intro g rd st ex st' h; cases h; exact SK.refl _ _
  | ret => intro g rd st ex st' h; cases h; exact SK.refl _ _
  | rangeF f ps assign body _ _ =>
    intro g rd st ex st' h
    replace h : rangeA cf ps assign body g rd st (ev st.T f) = some (ex, st') := h
    unfold rangeA at h
    split at h
    · split at h
      · refine endLoopA_keeps (fun v A3 h3 => ?_) (Nat.le_succ _) ⟨[st.A.n], rfl, by simp⟩ h
        exact ((HK.push g st.A _).trans (HK.push g _ _)).trans (hcf _ _ _ _ _ _ h3)
      · split at h
        · refine endLoopA_keeps (fun v A3 h3 => ?_) (Nat.le_refl _) ⟨[], rfl, by simp⟩ h
          exact (HK.push g st.A _).trans (hcf _ _ _ _ _ _ h3)
        · cases h
    · cases h
theorem exec_keeps {AP : Nat → Option AFunc} {K : Nat → Option Spec} (hK : ∀ h S, K h = some S → ∀ g args A v A', S g args A = some (v, A') → HK g A A') (m : Nat) : ∀ d c, RunKeeps (exec AP K m d c) := by
  intro d
  induction d with
  | zero => intro c g rd st ex st' h; cases h
  | succ d ih => exact codeA_keeps (callV_keeps hK ih) (callF_keeps hK ih) m
end Go.Ab
namespace Go.Ab
def sz (P : Program) (t : TypeId) : Option Nat := (P.info? t).map (·.size)
def zeroOf (P : Program) (t : TypeId) : Option (List Value) := (P.info? t).bind fun i => i.zero.bind fun z => if z.cells.toList.all simple = true ∧ z.cells.toList.length = i.size then some z.cells.toList else none
def zeroV (P : Program) (t : TypeId) : Option Value := (P.info? t).bind fun i => i.zero.bind fun z => if flat z = true then some z else none
def keyKind : TypeDesc → Option Nat
  | .int _ => some 0
  | .string => some 1
  | .bool => some 2
  | _ => none
def isAggA (P : Program) (t : TypeId) : Option Bool :=
  match P.underlying t with
  | some (.struct _) => some true
  | some (.array _ _) => some true
  | some _ => some false
  | none => none
def cellsA (P : Program) (t : TypeId) : Option (Option Nat) :=
  match isAggA P t with
  | some true => (sz P t).map some
  | some false => some none
  | none => none
def intT (P : Program) : Nat → TypeId → Option (List Bool)
  | 0, _ => none
  | d + 1, t =>
    match P.underlying t with
    | some (.int _) => some [false]
    | some .bool => some [true]
    | some (.array n e) => match intT P d e with
      | some s => if sz P e = some s.length then some (List.replicate n s).flatten else none
      | none => none
    | some (.struct fs) =>
      if fs.toList.all (fun f => f.name != "_") = true ∧ P.stoodInHeld t = false then
        fs.toList.foldlM (fun acc f => if f.offset = acc.length then (intT P d f.type).bind fun s => if sz P f.type = some s.length then some (acc ++ s) else none else none) []
      else none
    | _ => none
section
variable (P : Program) (lab : Nat → Nat) (nt : Nat)
def compOpd : Operand → Option Opd
  | .tmp t => if t < nt then some (.t t) else none
  | .const v => if flat v then some (.k v) else none
  | .global _ => none
  | .func f => some (.k (.func (.func (lab f)) #[] #[]))
def compOpds (l : List Operand) : Option (List Opd) := l.mapM (compOpd lab nt)
def compOptOpd : Option Operand → Option (Option Opd)
  | none => some none
  | some x => (compOpd lab nt x).map some
def isNilC (kind : Nat) : Operand → Bool
  | .const (.pointer none) => kind == 0
  | .const (.slice none 0 0) => kind == 1
  | .const .nilFunc => kind == 2
  | .const (.map none) => kind == 3
  | _ => false
def compNil (kind : Nat) (op : BinOp) (x y : Operand) : Option AOp :=
  if isNilC kind y then
    match op with
    | .eql => (compOpd lab nt x).map fun a => .eqNil kind false a
    | .neq => (compOpd lab nt x).map fun a => .eqNil kind true a
    | _ => none
  else none
def compBin (op : BinOp) (t : TypeId) (x y : Operand) : Option AOp :=
  match P.underlying t with
  | some (.int _) => (compOpd lab nt x).bind fun a => (compOpd lab nt y).map fun b => .bin op a b
  | some .bool => match op with
    | .eql => (compOpd lab nt x).bind fun a => (compOpd lab nt y).map fun b => .beq false a b
    | .neq => (compOpd lab nt x).bind fun a => (compOpd lab nt y).map fun b => .beq true a b
    | _ => none
  | some (.struct _) | some (.array _ _) =>
    match intT P 20 t with
    | some sh =>
      if P.eqGuardType P.depth t = false then
        match op with
        | .eql => (compOpd lab nt x).bind fun a => (compOpd lab nt y).map fun b => .eqv false sh a b
        | .neq => (compOpd lab nt x).bind fun a => (compOpd lab nt y).map fun b => .eqv true sh a b
        | _ => none
      else none
    | none => none
  | some .string => (compOpd lab nt x).bind fun a => (compOpd lab nt y).map fun b => .strOp op a b
  | some (.pointer _) => compNil lab nt 0 op x y
  | some (.slice _) => compNil lab nt 1 op x y
  | some (.func _ _ _) => compNil lab nt 2 op x y
  | some (.map _ _) => compNil lab nt 3 op x y
  | _ => none
def partPlace (t : TypeId) (i : Nat) : Option (Nat × Nat) :=
  match P.underlying t with
  | some (.struct fs) => match fs[i]? with
    | some f => (sz P f.type).map fun s => (f.offset, s)
    | none => none
  | some (.array _ e) => (sz P e).map fun s => (i * s, s)
  | _ => none
def allSized (t : TypeId) : Bool :=
  match P.underlying t with
  | some (.struct fs) => fs.toList.all fun f => (sz P f.type).isSome
  | some (.array _ e) => (sz P e).isSome
  | _ => false
def compParts (t : TypeId) : List (Nat × Operand) → Option (List (Nat × Nat × Opd))
  | [] => some []
  | (i, x) :: rest => match partPlace P t i, compOpd lab nt x, compParts t rest with
    | some (o, s), some a, some r => some ((o, s, a) :: r)
    | _, _, _ => none
def compParts1 : List (Nat × Operand) → Option (List (Nat × Opd))
  | [] => some []
  | (i, x) :: rest => match compOpd lab nt x, compParts1 rest with
    | some a, some r => some ((i, a) :: r)
    | _, _ => none
def elemOf (t : TypeId) : Option TypeId :=
  match P.underlying t with
  | some (.slice e) => some e
  | _ => none
def cwOf : Bool := Nat.beq (lab (1000000 + nt)) 99999
def heldOf (f : Opd) : Opd := if Nat.blt (lab (2000000 + nt)) 100000 then f else .t (lab (2000000 + nt) - 100000)
def Opd.isTmp : Opd → Bool
  | .t _ => true
  | .k _ => false
def compCall (c : Call) (ro : Bool) : Option AOp :=
  match c.callee with
  | .builtin .len => match c.args.toList, c.argTypes.toList with
    | [x], [t] => match P.underlying t with
      | some (.slice _) => (compOpd lab nt x).map fun a => .len a
      | some .string => (compOpd lab nt x).map fun a => .lenT a
      | some (.map _ _) => (compOpd lab nt x).map fun a => .lenM a
      | _ => none
    | _, _ => none
  | .builtin .clear => match c.args.toList, c.argTypes.toList with
    | [x], [t] => match P.underlying t with
      | some (.map _ _) => (compOpd lab nt x).map fun a => .clearM a
      | _ => none
    | _, _ => none
  | .builtin .min => (compOpds lab nt c.args.toList).map fun l => .min l
  | .builtin .max => (compOpds lab nt c.args.toList).map fun l => .max l
  | .builtin .append => match c.args.toList, c.argTypes.toList with
    | [s, x], [t, t'] =>
      if t = t' then
        match elemOf P t with
        | some e => match P.info? e, zeroOf P e, compOpd lab nt s, compOpd lab nt x with
          | some i, some _, some a, some b => some (.append a b i.size i.bytes)
          | _, _, _, _ => none
        | none => none
      else none
    | _, _ => none
  | .builtin .copy => match c.args.toList, c.argTypes.toList with
    | [d, s], t :: _ => match elemOf P t with
      | some e => match sz P e, compOpd lab nt d, compOpd lab nt s with
        | some n, some a, some b => some (.copy a b n)
        | _, _, _ => none
      | none => none
    | _, _ => none
  | .value f => match compOpd lab nt f, compOpds lab nt c.args.toList with
    | some a, some l => some (if ro && cwOf lab nt && a.isTmp then .callC (heldOf lab nt a) a l else .call a l ro)
    | _, _ => none
  | _ => none
def compOp (ro : Bool) : Op → Option AOp
  | .move x => (compOpd lab nt x).map fun a => .move a
  | .assign x => (compOpd lab nt x).map fun a => .move a
  | .pick c a b => match compOpd lab nt c, compOpd lab nt a, compOpd lab nt b with
    | some c, some a, some b => some (.pick c a b)
    | _, _, _ => none
  | .nilCheck x => (compOpd lab nt x).map fun a => .nilCheck a
  | .binOp op t x y _ => compBin P lab nt op t x y
  | .unOp op _ x => match op with
    | .neg => (compOpd lab nt x).map fun a => .neg a
    | .not => (compOpd lab nt x).map fun a => .not a
    | _ => none
  | .convert src dst x => match P.underlying src, P.underlying dst with
    | some _, some (.int k) => (compOpd lab nt x).map fun a => .toInt k a
    | some _, some (.float .f64) => (compOpd lab nt x).map fun a => .toF64 a
    | some .string, some (.slice e) => match P.underlying e with
      | some (.int .u8) => (compOpd lab nt x).map fun a => .toBytes a
      | _ => none
    | some (.slice e), some .string => match P.underlying e with
      | some (.int .u8) => (compOpd lab nt x).map fun a => .toStr a
      | _ => none
    | _, _ => none
  | .makeFunc (.func f) first captured => match compOpds lab nt first.toList, compOpds lab nt captured.toList with
    | some a, some b => some (.makeFunc (lab f) a b)
    | _, _ => none
  | .build t parts => match zeroOf P t, compParts P lab nt t parts.toList with
    | some z, some l => if allSized P t then some (.build z l) else none
    | _, _ => none
  | .fieldAddr s x f => match P.underlying s with
    | some (.struct fs) => match fs[f]? with
      | some fd => match sz P fd.type, compOpd lab nt x with
        | some n, some a => if n = 0 then none else some (.fieldAddr a fd.offset)
        | _, _ => none
      | none => none
    | _ => none
  | .field s x f => match P.underlying s with
    | some (.struct fs) => match fs[f]? with
      | some fd => match cellsA P fd.type, compOpd lab nt x with
        | some n, some a => some (.field a fd.offset n)
        | _, _ => none
      | none => none
    | _ => none
  | .indexAddr t x i => match P.underlying t with
    | some (.slice e) => match sz P e, compOpd lab nt x, compOpd lab nt i with
      | some s, some a, some b => some (.idxS a b s)
      | _, _, _ => none
    | some (.array n e) => match sz P e, compOpd lab nt x, compOpd lab nt i with
      | some s, some a, some b => some (.idxA a b n s)
      | _, _, _ => none
    | _ => none
  | .index t x i => match P.underlying t with
    | some (.array n e) => match sz P e, isAggA P e, compOpd lab nt x, compOpd lab nt i with
      | some s, some ag, some a, some b => some (.index a b n s ag)
      | _, _, _, _ => none
    | some .string => match compOpd lab nt x, compOpd lab nt i with
      | some a, some b => some (.strIdx a b)
      | _, _ => none
    | _ => none
  | .slice t x lo hi none => match elemOf P t with
    | some e => match sz P e, compOpd lab nt x, compOptOpd lab nt lo, compOptOpd lab nt hi with
      | some s, some a, some l, some h => some (.reslice a l h s)
      | _, _, _, _ => none
    | none => none
  | .extract x i => (compOpd lab nt x).map fun a => .extract a i
  | .alloc t => (zeroOf P t).map fun z => .alloc z
  | .box _ x => (compOpd lab nt x).map fun a => .box a
  | .buildSlice t n parts => match elemOf P t with
    | some e => match sz P e, zeroOf P e, compParts1 lab nt parts.toList with
      | some s, some z, some l => if n * s ≤ 16777216 then some (.slit n s z l) else none
      | _, _, _ => none
    | none => none
  | .makeSlice t l c => match elemOf P t with
    | some e => match P.info? e, zeroOf P e, compOpd lab nt l, compOpd lab nt c with
      | some i, some z, some a, some b => some (.makeS a b i.size i.bytes z)
      | _, _, _, _ => none
    | none => none
  | .load t x => match cellsA P t, compOpd lab nt x with
    | some n, some a => some (.load a n)
    | _, _ => none
  | .store t x v => match sz P t, compOpd lab nt x, compOpd lab nt v with
    | some n, some a, some b => some (.store a b n)
    | _, _, _ => none
  | .makeMap _ none => some .makeM
  | .lookup t x k ok => match P.underlying t with
    | some (.map kt el) => match (P.underlying kt).bind keyKind, zeroV P el, compOpd lab nt x, compOpd lab nt k with
      | some n, some z, some a, some b => some (.lookup a b n z ok)
      | _, _, _, _ => none
    | _ => none
  | .mapUpdate t m k x => match P.underlying t with
    | some (.map kt _) => match (P.underlying kt).bind keyKind, compOpd lab nt m, compOpd lab nt k, compOpd lab nt x with
      | some n, some a, some b, some c => some (.mapSet a b c n)
      | _, _, _, _ => none
    | _ => none
  | .insert t m k x => match P.underlying t with
    | some (.map kt _) => match (P.underlying kt).bind keyKind, compOpd lab nt m, compOpd lab nt k, compOpd lab nt x with
      | some n, some a, some b, some c => some (.mapSet a b c n)
      | _, _, _, _ => none
    | _ => none
  | .call c => compCall P lab nt c ro
  | .range t x => match P.underlying t with
    | some (.map _ _) => (compOpd lab nt x).map fun a => .rangeI a
    | _ => some .fail
  | .next x false => (compOpd lab nt x).map fun a => .nextI a
  | .entry x => (compOpd lab nt x).map fun a => .entryI a
  | _ => some .fail
def isIter : Op → Bool
  | .range .. => true | .next .. => true | .entry .. => true
  | _ => false
def isCall : Op → Bool
  | .call { callee := .value _, .. } => true
  | _ => false
def dstOf (ops : List Oper) (i : Nat) : Option Nat := (ops[i]?).bind (·.dst)
def edgesOf (o : Oper) : List Nat := (o.after.toList.filter fun e => Region.binds .any e).map (·.on)
def addrOf (ops : List Oper) (i : Nat) : Option (Bool × Opd × Nat) :=
  match ops[i]? with
  | some o => match o.op with
    | .load t (.tmp x) => (cellsA P t).map fun n => (false, .t x, n.getD 1)
    | .store t (.tmp x) _ => (sz P t).map fun n => (true, .t x, n)
    | _ => none
  | none => none
def calleeT (ops : List Oper) (i : Nat) : Option Nat :=
  match ops[i]? with
  | some o => match o.op with
    | .call { callee := .value (.tmp f), .. } => some f
    | _ => none
  | none => none
def sliceT (ops : List Oper) (i : Nat) : Option Nat :=
  match ops[i]? with
  | some o => match o.op with
    | .call { callee := .builtin .append, args := ⟨.tmp x :: _⟩, .. } => some x
    | .call { callee := .builtin .copy, args := ⟨.tmp x :: _⟩, .. } => some x
    | _ => none
  | none => none
def slicePair (ops : List Oper) (i j : Nat) : List (Opd × Nat × Opd × Nat) :=
  match sliceT ops i, addrOf P ops j with
  | some f, some (false, a, n) => [(.t f, 0, a, n)]
  | _, _ => []
def slicePairs (ops : List Oper) (bef : List Nat) (i : Nat) : List Nat → List (Opd × Nat × Opd × Nat)
  | [] => []
  | j :: rest => (if ordered bef i j then [] else slicePair P ops i j ++ slicePair P ops j i) ++ slicePairs ops bef i rest
def heldPair (ops : List Oper) (i j : Nat) : List (Opd × Nat × Opd × Nat) :=
  match calleeT ops i, addrOf P ops j with
  | some f, some (false, a, n) => [(heldOf lab nt (.t f), 0, a, n)]
  | _, _ => []
def heldPairs (ops : List Oper) (bef : List Nat) (i : Nat) : List Nat → List (Opd × Nat × Opd × Nat)
  | [] => []
  | j :: rest => (if ordered bef i j then [] else heldPair P lab nt ops i j ++ heldPair P lab nt ops j i) ++ heldPairs ops bef i rest
def apartPairs (ops : List Oper) (bef : List Nat) (i : Nat) : List Nat → List (Opd × Nat × Opd × Nat)
  | [] => []
  | j :: rest =>
    match addrOf P ops i, addrOf P ops j with
    | some (s, a, n), some (s', b, m) => if !ordered bef i j && s != s' then (a, n, b, m) :: apartPairs ops bef i rest else apartPairs ops bef i rest
    | _, _ => apartPairs ops bef i rest
def aloneCall (ops : List Oper) (bef : List Nat) (i : Nat) : Bool :=
  (List.range ops.length).all fun j => j == i || ordered bef i j || match ops[j]? with
    | some o => match o.op with
      | .load .. => false
      | .store .. => false
      | .alloc .. => false
      | .box .. => false
      | .buildSlice .. => false
      | .makeSlice .. => false
      | .call { callee := .value _, .. } => false
      | .call { callee := .builtin .append, .. } => false
      | .call { callee := .builtin .copy, .. } => false
      | _ => true
    | none => true
def compGuard (ops : List Oper) : Option (Nat × Bool) → Option (Option (Nat × Bool))
  | none => some none
  | some (j, b) => match dstOf ops j with
    | some d => if d < nt then some (some (d, b)) else none
    | none => none
def compDst : Option Nat → Bool
  | none => true
  | some d => d < nt
def compOper (ops : List Oper) (ro : Bool) (ap : List (Opd × Nat × Opd × Nat)) (o : Oper) : Option AOper :=
  match compOp P lab nt ro o.op, compGuard nt ops o.guard with
  | some a, some g => if compDst nt o.dst then some ⟨o.dst, g, ap, a⟩ else none
  | _, _ => none
def compOpers (ops : List Oper) (draw : Bool) (bef : List Nat) : Nat → List Oper → Option (List AOper)
  | _, [] => some []
  | i, o :: rest => if (draw && isIter o.op) = true then none else match compOper P lab nt ops (draw && isCall o.op && !aloneCall ops bef i) (if draw then apartPairs P ops bef i (List.range i) ++ slicePairs P ops bef i (List.range i) ++ (if cwOf lab nt then heldPairs P lab nt ops bef i (List.range i) else []) else []) o, compOpers ops draw bef (i + 1) rest with
    | some a, some r => some (a :: r)
    | _, _ => none
def compCode : Code → Option ACode
  | .skip => some .skip
  | .region _ ops draw =>
    match compOpers P lab nt ops.toList draw (befA (ops.toList.map edgesOf)) 0 ops.toList with
    | some l => if !draw || drawOk l (ops.toList.map edgesOf) then some (.ops l) else none
    | none => none
  | .seq a b => match compCode a, compCode b with
    | some x, some y => some (.seq x y)
    | _, _ => none
  | .cond c a b => match compOpd lab nt c, compCode a, compCode b with
    | some z, some x, some y => some (.cond z x y)
    | _, _, _ => none
  | .block id c => (compCode c).map fun x => .block id x
  | .loop c => (compCode c).map fun x => .loop x
  | .exit id => some (.exit id)
  | .ret => some .ret
  | .label _ => some .skip
  | .rangeFunc f ps a b => match compOpd lab nt f, compCode a, compCode b with
    | some z, some x, some y => if ps.toList.all (fun p => decide (p < nt)) then some (.rangeF z ps.toList x y) else none
    | _, _, _ => none
  | _ => none
end
def compRes (P : Program) (nt : Nat) : ResultVar → Option ARes
  | .tmp t => if t < nt then some (.tmp t) else none
  | .cell a t => match cellsA P t with
    | some n => if a < nt then some (.cell a n) else none
    | none => none
def compFunc (P : Program) (lab : Nat → Nat) (fn : Func) : Option AFunc :=
  if fn.name == "runtime.NumGoroutine" then none else
  match fn.body with
  | some c => match compCode P lab fn.ntmps c, fn.results.toList.mapM (compRes P fn.ntmps) with
    | some x, some r => some (.fn fn.ntmps r x)
    | _, _ => none
  | none => if fn.name == "math.sqrt" then some .sqrt else none
end Go.Ab
