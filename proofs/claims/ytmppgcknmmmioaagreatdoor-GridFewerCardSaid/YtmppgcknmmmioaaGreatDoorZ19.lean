/- A grid among a law's arguments. -/
import Derived.Test.YtmppgcknmmmioaaGreatDoorZ18
import Derived.Test.YtmppgcknmmmioaaGreatDoorZ16
import Derived.Test.YtmppgcknmmmioaaGreatDoorZ14
import Derived.Test.YtmppgcknmmmioaaGreatDoorZ13
import Derived.Test.YtmppgcknmmmioaaGreatDoorTie
import Derived.Lib.LaidU8
import Derived.Shelf.Vars
import Derived.Lay
import Derived.Handed
import Derived.MakeChecks
import Derived.Test.YtmppgcknmmmioaaGreatDoorZ15
set_option linter.unusedSimpArgs false
set_option linter.unusedVariables false
set_option linter.unusedSectionVars false
set_option maxRecDepth 100000
namespace Go.Ab.Grid
open Go Go.Ab
def pa285 : ACode := (.ops [
oP 5 (.box (.t 0)),
oP 10 (.move (.k (.bool false)))])
def pb285 : ACode := (.seq
 (.ops [
oM 32 3,
oP 33 (.len (.t 32)),
oC 34 .gtr 33 10])
 (.cond (.t 34)
 (.seq
 (.ops [
oA 35 289 [] false,
oM 10 35])
 .ret)
 .skip))
def pc285 : ACode := (.ops [
oD 36 5 4,
oA 37 310 [.t 36] false,
oP 11 (.alloc [.int .i64 0, .int .i64 0, .int .i64 0, .slice none 0 0]),
oT 11 37 4])
def pd285 : ACode := (.ops [
oF 38 5 0,
oL 39 38,
oF 40 5 1,
oL 41 40,
oM 42 1,
oM 43 2,
oP 44 (.build [.int .u8 0, .int .u8 0, .slice none 0 0, .slice none 0 0] [(0, 1, .t 39), (1, 1, .t 41), (2, 1, .t 42), (3, 1, .t 43)]),
oA 45 310 [.t 44] false,
oP 12 (.alloc [.int .i64 0, .int .i64 0, .int .i64 0, .slice none 0 0]),
oT 12 45 4])
def pe285 : ACode := (.ops [
oD 47 11 4,
oD 48 12 4,
oA 49 299 [.t 47, .t 48] false,
oM 46 49,
oX 50 46 0,
oX 51 46 1,
oX 52 46 2,
oP 13 (.alloc [.int .i64 0, .int .i64 0, .int .i64 0, .slice none 0 0]),
oT 13 50 4,
oM 14 51,
oM 15 52])
def pf285 : ACode := (.ops [
oD 54 12 4,
oD 55 11 4,
oA 56 299 [.t 54, .t 55] false,
oM 53 56,
oX 57 53 0,
oX 58 53 1,
oX 59 53 2,
oP 16 (.alloc [.int .i64 0, .int .i64 0, .int .i64 0, .slice none 0 0]),
oT 16 57 4,
oM 17 58,
oM 18 59])
def pg285 : ACode := (.seq
 (.ops [
oM 60 15,
oM 61 18,
oB 62 .neq 60 61,
oM 63 62,
oN 64 63 false 14,
oN 65 63 false 17,
oQ 66 63 false (.bin .neq (.t 64) (.t 65)),
oP 67 (.pick (.t 63) (.k (.bool true)) (.t 66)),
oM 68 67,
oQ 69 68 false (.load (.t 13) (some 4)),
oQ 70 68 false (.load (.t 16) (some 4)),
oQ 71 68 false (.call (.k (.func (.func 301) ⟨[]⟩ ⟨[]⟩)) [.t 69, .t 70] false),
oQ 72 68 false (.not (.t 71)),
oP 73 (.pick (.t 68) (.k (.bool true)) (.t 72))])
 (.cond (.t 73)
 (.seq
 (.ops [
oP 10 (.move (.k (.bool false)))])
 .ret)
 .skip))
def ph285 : ACode := (.seq
 (.ops [
oM 74 15,
oC 75 .neq 74 0])
 (.cond (.t 75)
 (.seq
 (.ops [
oM 76 15,
oC 77 .eql 76 14,
oM 78 77,
oN 79 78 true 14,
oQ 80 78 true (.bin .geq (.t 79) (oK 0)),
oP 81 (.pick (.t 78) (.t 80) (.k (.bool false))),
oM 82 81,
oN 83 82 true 14,
oQ 84 82 true (.fieldAddr (.t 11) 3),
oQ 85 82 true (.load (.t 84) none),
oQ 86 82 true (.len (.t 85)),
oQ 87 82 true (.bin .lss (.t 83) (.t 86)),
oP 88 (.pick (.t 82) (.t 87) (.k (.bool false))),
oM 89 88,
oQ 90 89 true (.fieldAddr (.t 11) 3),
oQ 91 89 true (.load (.t 90) none),
oN 92 89 true 14,
oQ 93 89 true (.idxS (.t 91) (.t 92) 2),
oQ 94 89 true (.fieldAddr (.t 93) 0),
oQ 95 89 true (.load (.t 94) none),
oQ 96 89 true (.fieldAddr (.t 12) 3),
oQ 97 89 true (.load (.t 96) none),
oN 98 89 true 14,
oQ 99 89 true (.idxS (.t 97) (.t 98) 2),
oQ 100 89 true (.fieldAddr (.t 99) 0),
oQ 101 89 true (.load (.t 100) none),
oQ 102 89 true (.max [.t 95, .t 101]),
oQ 103 89 true (.fieldAddr (.t 11) 3),
oQ 104 89 true (.load (.t 103) none),
oN 105 89 true 14,
oQ 106 89 true (.idxS (.t 104) (.t 105) 2),
oQ 107 89 true (.fieldAddr (.t 106) 1),
oQ 108 89 true (.load (.t 107) none),
oQ 109 89 true (.fieldAddr (.t 12) 3),
oQ 110 89 true (.load (.t 109) none),
oN 111 89 true 14,
oQ 112 89 true (.idxS (.t 110) (.t 111) 2),
oQ 113 89 true (.fieldAddr (.t 112) 1),
oQ 114 89 true (.load (.t 113) none),
oQ 115 89 true (.min [.t 108, .t 114]),
oQ 116 89 true (.bin .gtr (.t 102) (.t 115)),
oP 117 (.pick (.t 89) (.t 116) (.k (.bool false))),
oM 118 117,
oQ 119 118 true (.call (.k (.func (.func 289) ⟨[]⟩ ⟨[]⟩)) [] false),
oP 120 (.pick (.t 118) (.t 119) (.k (.bool false))),
oM 10 120])
 .ret)
 .skip))
def pr285 : ACode := (.seq
 (.ops [
oD 121 11 4,
oM 122 3,
oA 123 311 [.t 121, .t 122] false,
oM 124 4,
oP 125 (.toInt .i64 (.t 124)),
oC 126 .rem 125 15000,
oM 127 4,
oP 128 (.toInt .i64 (.t 127)),
oC 129 .rem 128 15000,
oC 130 .add 129 9,
oP 131 (.build [.int .i64 0, .int .i64 0] [(0, 1, .t 126), (1, 1, .t 130)]),
oP 20 (.alloc [.int .i64 0, .int .i64 0]),
oM 19 123,
oT 20 131 2])
 (.seq
 (.ops [
oD 133 11 4,
oM 134 19,
oA 135 265 [.t 133, .t 134] false,
oM 132 135,
oX 136 132 0,
oX 137 132 1,
oM 21 136,
oM 15 137])
 (.seq
 (.ops [
oD 139 13 4,
oM 140 19,
oA 141 265 [.t 139, .t 140] false,
oM 138 141,
oX 142 138 0,
oX 143 138 1,
oM 22 142,
oM 18 143])
 (.seq
 (.ops [
oD 144 11 4,
oM 145 19,
oA 146 297 [.t 144, .t 145] true,
oX 147 146 0,
oX 148 146 1,
oA 149 317 [.t 147, .t 148] true,
oD 150 13 4,
oM 151 19,
oA 152 297 [.t 150, .t 151] false,
oX 153 152 0,
oX 154 152 1,
oA 155 317 [.t 153, .t 154] false,
oM 23 149,
oM 24 155])
 (.seq
 (.ops [
oD 157 11 4,
oM 158 19,
oD 159 20 2,
oA 160 253 [.t 157, .t 158, .t 159] false,
oM 156 160,
oX 161 156 0,
oX 162 156 1,
oX 163 156 2,
oM 25 161,
oM 26 162,
oM 27 163])
 (.seq
 (.ops [
oD 165 13 4,
oM 166 19,
oD 167 20 2,
oA 168 253 [.t 165, .t 166, .t 167] false,
oM 164 168,
oX 169 164 0,
oX 170 164 1,
oX 171 164 2,
oM 28 169,
oM 29 170,
oM 30 171])
 (.seq
 (.seq
 (.ops [
oM 172 15,
oC 173 .neq 172 0,
oM 174 173,
oN 175 174 false 18,
oQ 176 174 false (.bin .neq (.t 175) (oK 0)),
oP 177 (.pick (.t 174) (.k (.bool true)) (.t 176)),
oM 178 177,
oN 179 178 false 27,
oQ 180 178 false (.bin .neq (.t 179) (oK 0)),
oP 181 (.pick (.t 178) (.k (.bool true)) (.t 180)),
oM 182 181,
oN 183 182 false 30,
oQ 184 182 false (.bin .neq (.t 183) (oK 0)),
oP 185 (.pick (.t 182) (.k (.bool true)) (.t 184)),
oM 186 185,
oQ 187 186 false (.fieldAddr (.t 13) 3),
oQ 188 186 false (.load (.t 187) none),
oQ 189 186 false (.len (.t 188)),
oQ 190 186 false (.fieldAddr (.t 11) 3),
oQ 191 186 false (.load (.t 190) none),
oQ 192 186 false (.len (.t 191)),
oQ 193 186 false (.bin .neq (.t 189) (.t 192)),
oP 194 (.pick (.t 186) (.k (.bool true)) (.t 193)),
oM 195 194,
oN 196 195 false 21,
oQ 197 195 false (.len (.t 196)),
oN 198 195 false 22,
oQ 199 195 false (.len (.t 198)),
oQ 200 195 false (.bin .neq (.t 197) (.t 199)),
oP 201 (.pick (.t 195) (.k (.bool true)) (.t 200)),
oM 202 201,
oN 203 202 false 23,
oQ 204 202 false (.len (.t 203)),
oN 205 202 false 24,
oQ 206 202 false (.len (.t 205)),
oQ 207 202 false (.bin .neq (.t 204) (.t 206)),
oP 208 (.pick (.t 202) (.k (.bool true)) (.t 207)),
oM 209 208,
oN 210 209 false 23,
oQ 211 209 false (.len (.t 210)),
oN 212 209 false 21,
oQ 213 209 false (.len (.t 212)),
oQ 214 209 false (.bin .neq (.t 211) (.t 213)),
oP 215 (.pick (.t 209) (.k (.bool true)) (.t 214)),
oM 216 215,
oN 217 216 false 25,
oQ 218 216 false (.len (.t 217)),
oN 219 216 false 28,
oQ 220 216 false (.len (.t 219)),
oQ 221 216 false (.bin .neq (.t 218) (.t 220)),
oP 222 (.pick (.t 216) (.k (.bool true)) (.t 221)),
oM 223 222,
oN 224 223 false 25,
oQ 225 223 false (.len (.t 224)),
oN 226 223 false 21,
oQ 227 223 false (.len (.t 226)),
oQ 228 223 false (.bin .neq (.t 225) (.t 227)),
oP 229 (.pick (.t 223) (.k (.bool true)) (.t 228)),
oM 230 229,
oN 231 230 false 26,
oQ 232 230 false (.len (.t 231)),
oN 233 230 false 21,
oQ 234 230 false (.len (.t 233)),
oQ 235 230 false (.bin .neq (.t 232) (.t 234)),
oP 236 (.pick (.t 230) (.k (.bool true)) (.t 235)),
oM 237 236,
oN 238 237 false 29,
oQ 239 237 false (.len (.t 238)),
oN 240 237 false 21,
oQ 241 237 false (.len (.t 240)),
oQ 242 237 false (.bin .neq (.t 239) (.t 241)),
oP 243 (.pick (.t 237) (.k (.bool true)) (.t 242))])
 (.cond (.t 243)
 (.seq
 (.ops [
oP 10 (.move (.k (.bool false)))])
 .ret)
 .skip))
 (.seq
 (.seq
 (.ops [
oM 244 21,
oP 245 (.len (.t 244)),
oP 246 (.move (oK 0))])
 (.block 0
 (.loop
 (.seq
 (.ops [
oB 247 .lss 246 245])
 (.seq
 (.cond (.t 247)
 .skip
 (.exit 0))
 (.seq
 (.block 1
 (.seq
 (.ops [
oM 248 246,
oM 31 248])
 (.seq
 (.ops [
oF 249 13 3,
oL 250 249,
oM 251 31,
oI 252 250 251 2,
oD 253 252 2,
oF 254 11 3,
oL 255 254,
oM 256 31,
oI 257 255 256 2,
oD 258 257 2,
oA 259 314 [.t 253, .t 258] false,
oP 260 (.not (.t 259)),
oM 261 260,
oQ 262 261 false (.fieldAddr (.t 13) 3),
oQ 263 261 false (.load (.t 262) none),
oN 264 261 false 31,
oQ 265 261 false (.idxS (.t 263) (.t 264) 2),
oQ 266 261 false (.load (.t 265) (some 2)),
oQ 267 261 false (.fieldAddr (.t 12) 3),
oQ 268 261 false (.load (.t 267) none),
oN 269 261 false 31,
oQ 270 261 false (.idxS (.t 268) (.t 269) 2),
oQ 271 261 false (.load (.t 270) (some 2)),
oQ 272 261 false (.call (.k (.func (.func 314) ⟨[]⟩ ⟨[]⟩)) [.t 266, .t 271] false),
oQ 273 261 false (.not (.t 272)),
oP 274 (.pick (.t 261) (.k (.bool true)) (.t 273)),
oM 275 274,
oN 276 275 false 22,
oN 277 275 false 31,
oQ 278 275 false (.idxS (.t 276) (.t 277) 2),
oQ 279 275 false (.load (.t 278) (some 2)),
oN 280 275 false 21,
oN 281 275 false 31,
oQ 282 275 false (.idxS (.t 280) (.t 281) 2),
oQ 283 275 false (.load (.t 282) (some 2)),
oQ 284 275 false (.call (.k (.func (.func 314) ⟨[]⟩ ⟨[]⟩)) [.t 279, .t 283] false),
oQ 285 275 false (.not (.t 284)),
oP 286 (.pick (.t 275) (.k (.bool true)) (.t 285)),
oM 287 286,
oN 288 287 false 24,
oN 289 287 false 31,
oQ 290 287 false (.idxS (.t 288) (.t 289) 2),
oQ 291 287 false (.load (.t 290) (some 2)),
oN 292 287 false 23,
oN 293 287 false 31,
oQ 294 287 false (.idxS (.t 292) (.t 293) 2),
oQ 295 287 false (.load (.t 294) (some 2)),
oQ 296 287 false (.call (.k (.func (.func 314) ⟨[]⟩ ⟨[]⟩)) [.t 291, .t 295] false),
oQ 297 287 false (.not (.t 296)),
oP 298 (.pick (.t 287) (.k (.bool true)) (.t 297)),
oM 299 298,
oN 300 299 false 25,
oN 301 299 false 31,
oQ 302 299 false (.idxS (.t 300) (.t 301) 1),
oQ 303 299 false (.load (.t 302) none),
oN 304 299 false 303,
oN 305 304 true 28,
oN 306 304 true 31,
oQ 307 304 true (.idxS (.t 305) (.t 306) 1),
oQ 308 304 true (.load (.t 307) none),
oQ 309 304 true (.not (.t 308)),
oQ 310 299 false (.pick (.t 304) (.t 309) (.k (.bool false))),
oP 311 (.pick (.t 299) (.k (.bool true)) (.t 310)),
oM 312 311,
oN 313 312 false 29,
oN 314 312 false 31,
oQ 315 312 false (.idxS (.t 313) (.t 314) 1),
oQ 316 312 false (.load (.t 315) none),
oN 317 312 false 316,
oN 318 317 true 26,
oN 319 317 true 31,
oQ 320 317 true (.idxS (.t 318) (.t 319) 1),
oQ 321 317 true (.load (.t 320) none),
oQ 322 317 true (.not (.t 321)),
oQ 323 312 false (.pick (.t 317) (.t 322) (.k (.bool false))),
oP 324 (.pick (.t 312) (.k (.bool true)) (.t 323))])
 (.cond (.t 324)
 (.seq
 (.ops [
oP 10 (.move (.k (.bool false)))])
 .ret)
 .skip))))
 (.ops [
oC 325 .add 246 1,
oM 246 325])))))))
 (.seq
 (.ops [
oA 326 289 [] false,
oM 10 326])
 .ret)))))))))
theorem AP285 : AP 285 = some (.fn 327 [.tmp 10] (.seq pa285 (.seq pb285 (.seq pc285 (.seq pd285 (.seq pe285 (.seq pf285 (.seq pg285 (.seq ph285 pr285))))))))) := rfl
abbrev Land.alt (L : Land) (nl : Nat) (low : List Int) (nm : Nat) (more : List Int) : Land := ⟨L.wide, L.high, nl, low, nm, more⟩
theorem seaE_seas {w h s : Int} {m k : Nat} {zs ss : List Int} (hE : gridE w h s m zs = 0) (hm : 1 ≤ m) (hs : ∀ i, 0 ≤ gi ss i) : seaE w h s m zs (k + 1) (seasI m ss k) = 0 := by
  have : (List.range (k + 1)).any (outB m (seasI m ss k)) = false := by
    rw [List.any_eq_false]
    intro j hj
    rw [List.mem_range] at hj
    have hl := seasI_len (m := m) (ss := ss) (i := k)
    have hmem : gi (seasI m ss k) j ∈ seasI m ss k := by
      unfold gi
      rw [List.getD_eq_getElem?_getD, List.getElem?_eq_getElem (by omega)]
      exact List.getElem_mem _
    have := seasI_mem hm hs hmem
    unfold outB
    simp
    omega
  rw [seaE, if_pos hE, if_neg (by omega), this]
  rfl
theorem gQ_fl {a : Int} {rs : List Int} {o n i : Nat} (h : i < n) : gQ (flS a rs o n) i = decide (gi rs (i * 2 + o) < a) := by
  unfold gQ flS
  rw [List.getD_eq_getElem?_getD]
  simp [h]
section
variable {g : Nat} {rd : Option Nat} {T : List Value} {D : List Nat} {A : Hp} {Q : Ex → St → Prop} {V : Value → Hp → Prop}
theorem rest285 {L : Land} {y : G} {Z ss : List Int} {ns X11 X12 X13 : Nat} {s11 s12 s13 sv : Value} {lev : Int} {T : List Value} (hL : L.Ok) (hZ : Met L.G y Z) (hyw : y.w = L.w) (hyh : y.h = L.h) (hys : y.s = 100) (hym : y.m = L.n)
    (h11 : A.get X11 = some (.cells [.int .i64 L.w, .int .i64 L.h, .int .i64 100, s11] false)) (h12 : A.get X12 = some (.cells [.int .i64 y.w, .int .i64 y.h, .int .i64 y.s, s12] false)) (h13 : A.get X13 = some (.cells [.int .i64 L.w, .int .i64 L.h, .int .i64 100, s13] false))
    (r11 : RdS A 2 L.n (ints L.G.zs) s11) (r12 : RdS A 2 L.n (ints y.zs) s12) (r13 : RdS A 2 L.n (ints Z) s13) (hs : RdS A 1 ns (kints .u8 ss) sv) (hsr : ∀ i, 0 ≤ gi ss i ∧ gi ss i ≤ 255) (hns : ns ≤ 10) (hlev : -32768 ≤ lev ∧ lev ≤ 32767) (hg : g ≤ A.n)
    (t11 : tget T 11 = .pointer (some ⟨X11, 0, none⟩)) (t12 : tget T 12 = .pointer (some ⟨X12, 0, none⟩)) (t13 : tget T 13 = .pointer (some ⟨X13, 0, none⟩)) (t3 : tget T 3 = sv) (t4 : tget T 4 = .int .i16 lev) (hV : ∀ A', V (.bool true) A') :
    W AP KL g none pr285 ⟨T, [], A⟩ (FinQ [.tmp 10] V) := by
  have hn := hL.n
  have hE : gridE L.w L.h 100 L.n L.G.zs = 0 := hL.E
  have hEZ := hZ.E hL
  have l0 : -15000 < lev.tmod 15000 ∧ lev.tmod 15000 < 15000 := by
    rcases Int.le_total 0 lev with h | h
    · have a := Int.tmod_nonneg 15000 h
      have b := Int.tmod_lt_of_pos lev (show (0 : Int) < 15000 by decide)
      omega
    · have a := Int.tmod_nonneg 15000 (show 0 ≤ -lev by omega)
      have b := Int.tmod_lt_of_pos (-lev) (show (0 : Int) < 15000 by decide)
      rw [Int.neg_tmod] at a b
      omega
  have e4 : wr .i64 lev = lev := wrId (by omega) (by omega)
  obtain ⟨va, hva⟩ : ∃ va, va = lev.tmod 15000 := ⟨_, rfl⟩
  rw [← hva] at l0
  have e9 : wr .i64 (va + 9) = va + 9 := wrId (by omega) (by omega)
  simp (disch := as_aux_lemma => first | omega | simp only [hDs] <;> omega | simp [isCell]) [hRs, takeMarks, resA, resAll, resOne, Value.cells, pr285, t11, t3, h11]
  refine w311 (x := L.G) ⟨_, rfl, r11⟩ hn.2.1 (by omega) hs hsr hg fun A1 sw e1 hacc => ?_
  have n1 := e1.1
  have hcl : (seasI L.n ss ns).length = ns + 1 := seasI_len
  have rw0 : RdS A1 1 (ns + 1) (ints (seasI L.n ss ns)) sw := hacc.rd (by rw [ints_length]; show (seasI L.n ss ns).length = _; rw [hcl]; omega) (by decide)
  obtain ⟨B, hB⟩ : ∃ B, B = A1.push (.cells [.int .i64 va, .int .i64 (va + 9)] false) := ⟨_, rfl⟩
  have eB : Ext' A1 B := by rw [hB]; exact Ext'.push _ _
  have nB : B.n = A1.n + 1 := by rw [hB]; rfl
  have b20 : B.get A1.n = some (.cells [.int .i64 va, .int .i64 (va + 9)] false) := by rw [hB]; exact get_push_new
  simp (disch := as_aux_lemma => first | omega | simp only [hDs] <;> omega | simp [isCell]) [hRs, takeMarks, resA, resAll, resOne, Value.cells, t4, toIntA, e4, binA_rem (show (15000 : Int) ≠ 0 by decide), e9, ← hva, fillA, setRange, storeB_cells, set_push_eq, setRange_all, zeros, ← hB]
  have f0 := e1.trans eB
  have hcs0 : ∀ i, 0 ≤ gi ss i := fun i => (hsr i).1
  have q0 : seaE L.w L.h 100 L.n L.G.zs (ns + 1) (seasI L.n ss ns) = 0 := seaE_seas hE hn.2.1 hcs0
  have q1 : seaE L.w L.h 100 L.n Z (ns + 1) (seasI L.n ss ns) = 0 := seaE_seas hEZ hn.2.1 hcs0
  obtain ⟨cs, hcs⟩ : ∃ cs, cs = seasI L.n ss ns := ⟨_, rfl⟩
  rw [← hcs] at q0 q1 rw0 hcl
  have hsea := (seaE_zero hcl q0).2.2.1
  have fl0 : floodE L.w L.h 100 L.n L.G.zs (ns + 1) cs va (va + 9) = 0 := by
    rw [floodE, if_pos q0, if_pos (by unfold validB; simp; omega)]
  have fl1 : floodE L.w L.h 100 L.n Z (ns + 1) cs va (va + 9) = 0 := by
    rw [floodE, if_pos q1, if_pos (by unfold validB; simp; omega)]
  have rsw := eB.rdS rw0
  simp (disch := as_aux_lemma => first | omega | simp only [hDs] <;> omega | simp [isCell]) [hRs, takeMarks, resA, resAll, resOne, Value.cells, t11, f0.get h11]
  refine w265 (s := 100) (zs := L.G.zs) (by omega) (by omega) rsw (f0.rdS r11) (by omega) fun A2 sa d1 e2 v1 => ?_
  obtain ⟨hd1, v1⟩ := v1
  rw [q0] at hd1
  subst hd1
  rw [if_pos rfl] at v1
  obtain ⟨lo1, up1, p1, p2, ra, _⟩ := v1
  have f2 := f0.trans e2
  have n2 := e2.1
  simp (disch := as_aux_lemma => first | omega | simp only [hDs] <;> omega | simp [isCell]) [hRs, takeMarks, resA, resAll, resOne, Value.cells, t13, f2.get h13]
  refine w265 (s := 100) (zs := Z) (by omega) (by omega) (e2.rdS rsw) (f2.rdS r13) (by omega) fun A3 sb d2 e3 v2 => ?_
  obtain ⟨hd2, v2⟩ := v2
  rw [q1] at hd2
  subst hd2
  rw [if_pos rfl] at v2
  obtain ⟨lo2, up2, p3, p4, rb, _⟩ := v2
  have f3 := f2.trans e3
  have n3 := e3.1
  simp (disch := as_aux_lemma => first | omega | simp only [hDs] <;> omega | simp [isCell]) [hRs, takeMarks, resA, resAll, resOne, Value.cells, t11, f3.get h11]
  refine w297 (s := 100) (zs := L.G.zs) (by omega) (by omega) ((e2.trans e3).rdS rsw) (f3.rdS r11) (by omega) fun A4 sp d3 e4' v3 => ?_
  obtain ⟨hd3, v3⟩ := v3
  rw [q0] at hd3
  subst hd3
  rw [if_pos rfl] at v3
  obtain ⟨ps, lps, pps, rp, _⟩ := v3
  have f4 := f3.trans e4'
  have n4 := e4'.1
  simp (disch := as_aux_lemma => first | omega | simp only [hDs] <;> omega | simp [isCell]) [hRs, takeMarks, resA, resAll, resOne, Value.cells]
  refine w317 ?_
  rw [if_pos rfl]
  simp (disch := as_aux_lemma => first | omega | simp only [hDs] <;> omega | simp [isCell]) [hRs, takeMarks, resA, resAll, resOne, Value.cells, t13, f4.get h13]
  refine w297 (s := 100) (zs := Z) (by omega) (by omega) (((e2.trans e3).trans e4').rdS rsw) (f4.rdS r13) (by omega) fun A5 sq d4 e5 v4 => ?_
  obtain ⟨hd4, v4⟩ := v4
  rw [q1] at hd4
  subst hd4
  rw [if_pos rfl] at v4
  obtain ⟨qs, lqs, pqs, rq, _⟩ := v4
  have f5 := f4.trans e5
  have n5 := e5.1
  simp (disch := as_aux_lemma => first | omega | simp only [hDs] <;> omega | simp [isCell]) [hRs, takeMarks, resA, resAll, resOne, Value.cells]
  refine w317 ?_
  rw [if_pos rfl]
  have g5 := ((e2.trans e3).trans e4').trans e5
  simp (disch := as_aux_lemma => first | omega | simp only [hDs] <;> omega | simp [isCell]) [hRs, takeMarks, resA, resAll, resOne, Value.cells, t11, f5.get h11, g5.get b20]
  refine w253 (s := 100) (zs := L.G.zs) (by omega) (by omega) (g5.rdS rsw) (f5.rdS r11) (by omega) fun A6 s25 s26 d5 e6 v5 => ?_
  obtain ⟨hd5, v5⟩ := v5
  rw [fl0] at hd5
  subst hd5
  rw [if_pos rfl] at v5
  obtain ⟨lo3, up3, p5, p6, r25, r26, _⟩ := v5
  have f6 := f5.trans e6
  have n6 := e6.1
  have g6 := g5.trans e6
  simp (disch := as_aux_lemma => first | omega | simp only [hDs] <;> omega | simp [isCell]) [hRs, takeMarks, resA, resAll, resOne, Value.cells, t13, f6.get h13, g6.get b20]
  refine w253 (s := 100) (zs := Z) (by omega) (by omega) (g6.rdS rsw) (f6.rdS r13) (by omega) fun A7 s28 s29 d6 e7 v6 => ?_
  obtain ⟨hd6, v6⟩ := v6
  rw [fl1] at hd6
  subst hd6
  rw [if_pos rfl] at v6
  obtain ⟨lo4, up4, p7, p8, r28, r29, _⟩ := v6
  have f7 := f6.trans e7
  have n7 := e7.1
  have k1 := r11.len
  have k3 := r13.len
  have ka := ra.len
  have kb := rb.len
  have kp := rp.len
  have kq := rq.len
  have k25 := r25.len
  have k26 := r26.len
  have k28 := r28.len
  have k29 := r29.len
  simp (disch := as_aux_lemma => first | omega | simp only [hDs] <;> omega | simp [isCell]) [hRs, takeMarks, resA, resAll, resOne, Value.cells, t11, t13, f7.get h11, f7.get h13, k1, k3, ka, kb, kp, kq, k25, k26, k28, k29]
  have hzn : ∀ j, j < L.n → gi L.G.zs (j * 2) ≤ gi Z (j * 2) ∧ gi Z (j * 2) ≤ gi Z (j * 2 + 1) ∧ gi Z (j * 2 + 1) ≤ gi L.G.zs (j * 2 + 1) := fun j hj => by
    obtain ⟨a, b, c⟩ := hZ.at_ j hj
    omega
  have g7 := ((e3.trans e4').trans e5).trans (e6.trans e7)
  refine loop285 (A0 := A7) (r := ⟨L.w, L.h, 100, L.n, L.G.zs, y.zs, Z, pairI lo1 up1 L.n, pairI lo2 up2 L.n, ps, qs, flS va (pairI lo3 up3 L.n) 1 L.n, flS (va + 9) (pairI lo3 up3 L.n) 0 L.n, flS va (pairI lo4 up4 L.n) 1 L.n, flS (va + 9) (pairI lo4 up4 L.n) 0 L.n⟩) (X11 := X11) (X12 := X12) (X13 := X13) (s11 := s11) (s12 := s12) (s13 := s13)
    ⟨by show L.n < 1000000; omega, fun j hj => ?_, fun j hj => ?_, fun j hj => ?_, fun j hj => ?_, fun j hj => ?_, fun j hj => ?_⟩ (f7.get h11) (by rw [← hyw, ← hyh, ← hys]; exact f7.get h12) (f7.get h13) (f7.rdS r11) (f7.rdS r12) (f7.rdS r13) (g7.rdS ra) (((e4'.trans e5).trans (e6.trans e7)).rdS rb) ((e5.trans (e6.trans e7)).rdS rp) ((e6.trans e7).rdS rq) (e7.rdS r25) (e7.rdS r26) r28 r29
    (fun T' A' e => ?_) L.n 0 (Nat.zero_add _) ⟨Nat.le_refl _, fun _ _ => rfl⟩ ?_ ?_ ?_ ?_ ?_ ?_ ?_ ?_ ?_ ?_ ?_ ?_ ?_
  · obtain ⟨a, b, c⟩ := hzn j hj
    exact ⟨a, c, b⟩
  · obtain ⟨a, b, c⟩ := hZ.at_ j hj
    exact ⟨by show gi y.zs (j * 2) ≤ gi Z (j * 2); omega, by show gi Z (j * 2 + 1) ≤ gi y.zs (j * 2 + 1); omega, c⟩
  · have a1 := sp_mono (up := false) (up' := false) hE hEZ (by omega) hsea (fun c hc => (hzn c hc).1) p1 p3 hj
    have a2 := sp_mono (up := true) (up' := true) hEZ hE (by omega) hsea (fun c hc => (hzn c hc).2.2) p4 p2 hj
    have a3 := sp_mono (up := false) (up' := true) hEZ hEZ (by omega) hsea (fun c hc => (hzn c hc).2.1) p3 p4 hj
    show Wi (pairI lo2 up2 L.n) (pairI lo1 up1 L.n) j
    unfold Wi
    rw [(pairI_get hj).1, (pairI_get hj).1, (pairI_get hj).2, (pairI_get hj).2]
    exact ⟨a1, a2, a3⟩
  · exact PondC.mono hE hEZ (by omega) hsea hzn hj (pps j hj) (pqs j hj)
  · have a2 := sp_mono (up := true) (up' := true) hEZ hE (by omega) hsea (fun c hc => (hzn c hc).2.2) p8 p6 hj
    show gQ (flS va (pairI lo3 up3 L.n) 1 L.n) j = true → gQ (flS va (pairI lo4 up4 L.n) 1 L.n) j = true
    rw [gQ_fl hj, gQ_fl hj, (pairI_get hj).2, (pairI_get hj).2]
    simp
    omega
  · have a1 := sp_mono (up := false) (up' := false) hE hEZ (by omega) hsea (fun c hc => (hzn c hc).1) p5 p7 hj
    show gQ (flS (va + 9) (pairI lo4 up4 L.n) 0 L.n) j = true → gQ (flS (va + 9) (pairI lo3 up3 L.n) 0 L.n) j = true
    rw [gQ_fl hj, gQ_fl hj, Nat.add_zero, (pairI_get hj).1, (pairI_get hj).1]
    simp
    omega
  · simp (disch := as_aux_lemma => first | omega | simp only [hDs] <;> omega | simp [isCell]) [hRs, takeMarks, resA, resAll, resOne, Value.cells]
    exact hV _
  all_goals simp [t11, t12, t13]
theorem law285 {L : Land} {nl nm ns : Nat} {low more ss : List Int} {sl sm sl' sm' sv : Value} {lev : Int} (hL : L.Ok) (hK : (L.alt nl low nm more).Ok) (hat : L.At A sl sm) (hak : (L.alt nl low nm more).At A sl' sm') (hs : RdS A 1 ns (kints .u8 ss) sv) (hsr : ∀ i, 0 ≤ gi ss i ∧ gi ss i ≤ 255)
    (hlev : -32768 ≤ lev ∧ lev ≤ 32767) (hg : g ≤ A.n) (hV : ∀ A', V (.bool true) A') : WF AP KL g 285 [L.V sl sm, sl', sm', sv, .int .i16 lev] A V := by
  rw [WF_body (show KL 285 = none from rfl) AP285]
  obtain ⟨pl, cl, rfl⟩ := hak.1.isSlice'
  obtain ⟨pm, cm, rfl⟩ := hak.2.isSlice'
  have hls := hs.len
  have hn := hL.n
  obtain ⟨K, hKe⟩ : ∃ K, K = L.alt nl low nm more := ⟨_, rfl⟩
  obtain ⟨B, hB⟩ : ∃ B, B = A.push (.cells [.int .u8 L.wide, .int .u8 L.high, sl, sm] false) := ⟨_, rfl⟩
  have eB : Ext' A B := by rw [hB]; exact Ext'.push _ _
  have b5 : B.get A.n = some (.cells [.int .u8 L.wide, .int .u8 L.high, sl, sm] false) := by rw [hB]; exact get_push_new
  have nB := eB.1
  by_cases h10 : (10 : Int) < ns
  · simp (disch := as_aux_lemma => first | omega | simp only [hDs] <;> omega | simp [isCell]) [hRs, takeMarks, resA, resAll, resOne, Value.cells, pa285, pb285, Land.V, hls, h10]
    exact hV _
  · simp (disch := as_aux_lemma => first | omega | simp only [hDs] <;> omega | simp [isCell]) [hRs, takeMarks, resA, resAll, resOne, Value.cells, pa285, pb285, pc285, Land.V, hls, h10, ← hB, b5]
    refine w310 (L := L) hL ⟨eB.rdS hat.1, eB.rdS hat.2⟩ (by omega) fun A1 v1 e1 hv1 => ?_
    obtain ⟨sg, rfl, rg⟩ := hv1
    obtain ⟨pg, cg, rfl⟩ := rg.isSlice'
    have n1 := e1.1
    simp (disch := as_aux_lemma => first | omega | simp only [hDs] <;> omega | simp [isCell]) [hRs, takeMarks, resA, resAll, resOne, Value.cells, gridV, storeB_cells, setRange_all, set_push_eq, slitA, zeros, fillA]
    obtain ⟨B1, hB1⟩ : ∃ B1, B1 = A1.push (.cells [.int .i64 L.G.w, .int .i64 L.G.h, .int .i64 L.G.s, .slice pg L.G.m cg] false) := ⟨_, rfl⟩
    rw [← hB1]
    have eB1 : Ext' A1 B1 := by rw [hB1]; exact Ext'.push _ _
    have nB1 : B1.n = A1.n + 1 := by rw [hB1]; rfl
    have c11 : B1.get A1.n = some (.cells [.int .i64 L.G.w, .int .i64 L.G.h, .int .i64 L.G.s, .slice pg L.G.m cg] false) := by rw [hB1]; exact get_push_new
    have f1 := (eB.trans e1).trans eB1
    simp (disch := as_aux_lemma => first | omega | simp only [hDs] <;> omega | simp [isCell]) [hRs, takeMarks, resA, resAll, resOne, Value.cells, pd285, (e1.trans eB1).get b5, fillA, setRange]
    refine w310 (L := L.alt nl low nm more) hK ⟨f1.rdS hak.1, f1.rdS hak.2⟩ (by omega) fun A2 v2 e2 hv2 => ?_
    rw [← hKe] at hv2 hK
    have hKn : K.n = L.n := by rw [hKe]; rfl
    have hKw : K.w = L.w := by rw [hKe]; rfl
    have hKh : K.h = L.h := by rw [hKe]; rfl
    obtain ⟨sh, rfl, rh⟩ := hv2
    obtain ⟨ph, ch, rfl⟩ := rh.isSlice'
    have n2 := e2.1
    simp (disch := as_aux_lemma => first | omega | simp only [hDs] <;> omega | simp [isCell]) [hRs, takeMarks, resA, resAll, resOne, Value.cells, gridV, storeB_cells, setRange_all, set_push_eq, slitA, zeros, fillA]
    obtain ⟨B2, hB2⟩ : ∃ B2, B2 = A2.push (.cells [.int .i64 K.G.w, .int .i64 K.G.h, .int .i64 K.G.s, .slice ph K.G.m ch] false) := ⟨_, rfl⟩
    rw [← hB2]
    have eB2 : Ext' A2 B2 := by rw [hB2]; exact Ext'.push _ _
    have nB2 : B2.n = A2.n + 1 := by rw [hB2]; rfl
    have c12 : B2.get A2.n = some (.cells [.int .i64 K.G.w, .int .i64 K.G.h, .int .i64 K.G.s, .slice ph K.G.m ch] false) := by rw [hB2]; exact get_push_new
    have e12 := e2.trans eB2
    have rg2 := (eB1.trans e12).rdS rg
    have rh2 := eB2.rdS rh
    have mG : L.G.m = L.n := rfl
    have mK : K.G.m = L.n := hKn
    have d11 := e12.get c11
    simp (disch := as_aux_lemma => first | omega | simp only [hDs] <;> omega | simp [isCell]) [hRs, takeMarks, resA, resAll, resOne, Value.cells, pe285, d11, c12]
    refine w299 (x := L.G) (y := K.G) ⟨_, rfl, rg2⟩ ⟨_, rfl, rh2⟩ (by omega) (by omega) (by omega) fun A3 v3 e3 hv3 => ?_
    obtain ⟨vg3, rfl, s3, rfl, r3⟩ := hv3
    obtain ⟨p3, c3, rfl⟩ := r3.isSlice'
    obtain ⟨r, hr⟩ : ∃ r, r = narF L.G K.G := ⟨_, rfl⟩
    rw [← hr] at r3 ⊢
    have n3 := e3.1
    simp (disch := as_aux_lemma => first | omega | simp only [hDs] <;> omega | simp [isCell]) [hRs, takeMarks, resA, resAll, resOne, Value.cells, gridV, storeB_cells, setRange_all, set_push_eq, slitA, zeros, fillA]
    obtain ⟨B3, hB3⟩ : ∃ B3, B3 = A3.push (.cells [.int .i64 r.1.w, .int .i64 r.1.h, .int .i64 r.1.s, .slice p3 r.1.m c3] false) := ⟨_, rfl⟩
    rw [← hB3]
    have eB3 : Ext' A3 B3 := by rw [hB3]; exact Ext'.push _ _
    have nB3 : B3.n = A3.n + 1 := by rw [hB3]; rfl
    have c13 : B3.get A3.n = some (.cells [.int .i64 r.1.w, .int .i64 r.1.h, .int .i64 r.1.s, .slice p3 r.1.m c3] false) := by rw [hB3]; exact get_push_new
    have e33 := e3.trans eB3
    simp (disch := as_aux_lemma => first | omega | simp only [hDs] <;> omega | simp [isCell]) [hRs, takeMarks, resA, resAll, resOne, Value.cells, pf285, e33.get d11, e33.get c12]
    refine w299 (x := K.G) (y := L.G) ⟨_, rfl, e33.rdS rh2⟩ ⟨_, rfl, e33.rdS rg2⟩ (by omega) (by omega) (by omega) fun A4 v4 e4 hv4 => ?_
    obtain ⟨vg4, rfl, s4, rfl, r4⟩ := hv4
    obtain ⟨p4, c4, rfl⟩ := r4.isSlice'
    obtain ⟨q, hq⟩ : ∃ q, q = narF K.G L.G := ⟨_, rfl⟩
    rw [← hq] at r4 ⊢
    have n4 := e4.1
    simp (disch := as_aux_lemma => first | omega | simp only [hDs] <;> omega | simp [isCell]) [hRs, takeMarks, resA, resAll, resOne, Value.cells, gridV, storeB_cells, setRange_all, set_push_eq, slitA, zeros, fillA]
    obtain ⟨B4, hB4⟩ : ∃ B4, B4 = A4.push (.cells [.int .i64 q.1.w, .int .i64 q.1.h, .int .i64 q.1.s, .slice p4 q.1.m c4] false) := ⟨_, rfl⟩
    rw [← hB4]
    have eB4 : Ext' A4 B4 := by rw [hB4]; exact Ext'.push _ _
    have nB4 : B4.n = A4.n + 1 := by rw [hB4]; rfl
    have c16 : B4.get A4.n = some (.cells [.int .i64 q.1.w, .int .i64 q.1.h, .int .i64 q.1.s, .slice p4 q.1.m c4] false) := by rw [hB4]; exact get_push_new
    have e44 := e4.trans eB4
    have lz : L.G.zs.length = L.n * 2 := Land.zs_len
    have lk : K.G.zs.length = L.n * 2 := by rw [show K.G.zs = K.zs K.n from rfl, Land.zs_len, hKn]
    have hx := nar_two (x := L.G) (y := K.G) hL.E hK.E hKw.symm hKh.symm rfl hKn.symm lz lk
    rw [← hr, ← hq] at hx
    rcases hx with ⟨h1, h2, hf⟩ | ⟨i, hi, h1, h2, hf⟩
    · subst h1
      subst h2
      simp (disch := as_aux_lemma => first | omega | simp only [hDs] <;> omega | simp [isCell]) [hRs, takeMarks, resA, resAll, resOne, Value.cells, pg285, e44.get c13, c16]
      refine w301 (x := { L.G with zs := mz L.G.zs K.G.zs L.n }) (y := { L.G with zs := mz L.G.zs K.G.zs L.n }) ⟨_, rfl, (eB3.trans e44).rdS r3⟩ ⟨_, rfl, eB4.rdS r4⟩ (by show L.n < _; omega) rfl fun A5 e5 => ?_
      simp (disch := as_aux_lemma => first | omega | simp only [hDs] <;> omega | simp [isCell]) [hRs, takeMarks, resA, resAll, resOne, Value.cells, ph285]
      have f5 := ((f1.trans e12).trans e33).trans (e44.trans e5)
      have g5 := e33.trans (e44.trans e5)
      refine rest285 (L := L) (y := K.G) (Z := mz L.G.zs K.G.zs L.n) (X11 := A1.n) (X12 := A2.n) (X13 := A3.n) hL (Met.of lz hf) hKw hKh rfl hKn (g5.get d11) (g5.get c12) ((e44.trans e5).get c13) (g5.rdS rg2) (by rw [← mK]; exact g5.rdS rh2) ((eB3.trans (e44.trans e5)).rdS r3) (f5.rdS hs) hsr (by omega) hlev (by have := f5.1; omega) ?_ ?_ ?_ ?_ ?_ hV
      all_goals simp
    · subst h1
      subst h2
      have hi' : i < L.n := hi
      simp (disch := as_aux_lemma => first | omega | simp only [hDs] <;> omega | simp [isCell]) [hRs, takeMarks, resA, resAll, resOne, Value.cells, pg285, e44.get c13, c16, beqA]
      refine w301 (x := G0) (y := G0) ⟨_, rfl, (eB3.trans e44).rdS r3⟩ ⟨_, rfl, eB4.rdS r4⟩ (by decide) rfl fun A5 e5 => ?_
      have g5 := e33.trans (e44.trans e5)
      obtain ⟨za, zb, zc, hz1, hz2⟩ := (show RdS A5 2 L.n (ints L.G.zs) _ from g5.rdS rg2).at hi'
      obtain ⟨ya, yb, yc, hy1, hy2⟩ := (show RdS A5 2 L.n (ints K.G.zs) _ by rw [← mK]; exact g5.rdS rh2).at hi'
      have q11 : A5.get A1.n = some (.cells [.int .i64 L.G.w, .int .i64 L.G.h, .int .i64 L.G.s, .slice (some ⟨za, 0, some 2⟩) L.n zb] false) := by rw [← hz1]; exact g5.get d11
      have q12 : A5.get A2.n = some (.cells [.int .i64 K.G.w, .int .i64 K.G.h, .int .i64 K.G.s, .slice (some ⟨ya, 0, some 2⟩) L.n yb] false) := by rw [← hy1]; exact g5.get c12
      have hgt : min (gi L.G.zs (i * 2 + 1)) (gi K.G.zs (i * 2 + 1)) < max (gi L.G.zs (i * 2)) (gi K.G.zs (i * 2)) := by
        unfold Fit at hf; omega
      simp (disch := as_aux_lemma => first | omega | simp only [hDs] <;> omega | simp [isCell]) [hRs, takeMarks, resA, resAll, resOne, Value.cells, ph285, q11, q12, idxSA_ok, hi', show ((i : Int) < L.n) by omega, show (0 : Int) ≤ (i : Int) by omega, hz2, hy2, ints_get (show i * 2 < L.G.zs.length by omega), ints_get (show i * 2 + 1 < L.G.zs.length by omega), ints_get (show i * 2 < K.G.zs.length by omega), ints_get (show i * 2 + 1 < K.G.zs.length by omega), hgt]
      exact hV _
end
end Go.Ab.Grid
set_option maxRecDepth 100000
namespace Go.Ab.Grid
open Go Go.Ab
def tLand : Ty := .pair (.int .u8) (.pair (.int .u8) (.pair (.slice (.int .i16)) (.pair (.slice (.int .u8)) .unit)))
theorem maxLen_lt : maxLen ≤ 9223372036854775807 := by decide
theorem sh_rowk {rows : List (List Value)} {k : IntKind} {cs : List Value} (h : Sh rows (.slice (.int k)) cs) :
    ∃ (n : Nat) (zs : List Int) (sl : Value), cs = [sl] ∧ RdS (roHp rows) 1 n (kints k zs) sl ∧ (zs.length = n ∧ n ≤ 9223372036854775807) ∧ ∀ z ∈ zs, k.min ≤ z ∧ z ≤ k.max := by
  obtain ⟨n, zs, sl, h1, r, m, b⟩ := sh_slice_k (k := k) (e := .int k) (by simp [allK]) h
  refine ⟨n, zs, sl, h1, r, ⟨?_, Nat.le_trans m maxLen_lt⟩, b⟩
  have := r.1
  rw [kints_length] at this
  simpa [Ty.size] using this
theorem sh_land {rows : List (List Value)} {cs : List Value} (h : Sh rows tLand cs) : ∃ (L : Land) (sl sm : Value), mkV tLand cs = L.V sl sm ∧ L.Ok ∧ L.At (roHp rows) sl sm := by
  obtain ⟨_, _, rfl, h1, ⟨_, _, rfl, h2, ⟨_, _, rfl, h3, ⟨_, _, rfl, h4, rfl⟩⟩⟩⟩ := h
  obtain ⟨a1, rfl, b1⟩ := sh_int h1
  obtain ⟨a2, rfl, b2⟩ := sh_int h2
  obtain ⟨n3, z3, s3, rfl, r3, l3, b3⟩ := sh_rowk h3
  obtain ⟨n4, z4, s4, rfl, r4, l4, b4⟩ := sh_rowk h4
  exact ⟨⟨a1, a2, n3, z3, n4, z4⟩, s3, s4, rfl, ⟨b1, b2, fun i => gi_rng b3 (by decide) (by decide) i, fun i => gi_rng b4 (by decide) (by decide) i, l3, l4⟩, r3, r4⟩
end Go.Ab.Grid
set_option maxRecDepth 100000
namespace Go.Ab.Grid
open Go Go.Ab Go.Proofs Go.Shelf Go.ChangeShapes Go.WideShapes Go.ChangeAt Go.RowKit Go.Proofs.YtmppgcknmmmioaaGreatDoor
theorem isFn' (f nt : Nat) (rs : List ARes) (c : ACode) {W0 : Array Obj} (h : AP f = some (.fn nt rs c)) : ∃ nt rs body, (E W0).AP f = some (.fn nt rs body) := ⟨nt, rs, c, h⟩
theorem own : ownKnob Tryz.prog.godebug = none := by kernel_rfl
theorem laidOut : laidOutB Tryz.prog = true := by kernel_rfl
abbrev laidL : List (String × DataW Unit) := Rows.gridNearsRow.laid
theorem white {w : World} : Lib.VarReads Tryz.prog w "unicode.White_Space" Lib.whiteData → Lib.WhiteTab 1 w := fun h =>
  whiteTab_of_reads (ρ := Tryz.lays157_ren) { Tryz.lays157 with } { n6 := by kernel_rfl, y6 := by kernel_rfl, c3 := by kernel_rfl, c49 := by kernel_rfl, c193 := by kernel_rfl, c194 := by kernel_rfl, c196 := by kernel_rfl, c198 := by kernel_rfl } h
theorem var_heap {w : World} {n : String} {g : Nat} {cs : Array Value} (hg : Tryz.prog.globalNamed n = some g) (h : w.var? Tryz.prog n = some cs) : ∃ t fr, w.heap[g]? = some (.cells cs t fr) := by
  unfold World.var? at h
  rw [hg] at h
  simp only [Option.bind_some] at h
  split at h
  · rename_i cs' t fr he; cases h; exact ⟨t, fr, he⟩
  · cases h
theorem laidW_of {w : World} (hm : laidMet Tryz.prog laidL w) (hs : w.ShapedOpen Tryz.prog) : LaidW w := by
  have hp := Lib.laidMet.reads hm (d := Rows.laid_internal_strconv_uint64pow10) (List.mem_cons_of_mem _ (List.mem_cons_of_mem _ List.mem_cons_self))
  have hr := Lib.laidMet.reads hm (d := Rows.laid_strconv_ErrRange) (List.mem_cons_of_mem _ (List.mem_cons_of_mem _ (List.mem_cons_of_mem _ List.mem_cons_self)))
  have hy := Lib.laidMet.reads hm (d := Rows.laid_strconv_ErrSyntax) (List.mem_cons_of_mem _ (List.mem_cons_of_mem _ (List.mem_cons_of_mem _ (List.mem_cons_of_mem _ List.mem_cons_self))))
  have hw := Lib.laidMet.reads hm (d := Rows.laid_unicode_White_Space) (List.mem_cons_of_mem _ (List.mem_cons_of_mem _ (List.mem_cons_of_mem _ (List.mem_cons_of_mem _ (List.mem_cons_of_mem _ List.mem_cons_self)))))
  have ha := Lib.laidMet.reads hm (d := Rows.laid_strings_asciiSpace) (List.mem_cons_of_mem _ (List.mem_cons_of_mem _ (List.mem_cons_of_mem _ (List.mem_cons_of_mem _ (List.mem_cons_of_mem _ (List.mem_cons_of_mem _ List.mem_cons_self))))))
  have iface : ∀ {n : String} {nm : String} {d : DataW Unit} {g : Nat} {t : TypeId} {ms : Array (String × TypeId)}, Tryz.prog.globalNamed n = some g → (Tryz.prog.globals[g]?).map (·.type) = some t → Tryz.prog.underlying t = some (.interface ms) →
      Lib.VarReads Tryz.prog w n (.iface nm d) → ∃ ev, w.cell? ⟨g, 0, none⟩ = some ev ∧ (ev = .nilIface ∨ ∃ te pe, ev = .iface te pe) := by
    intro n nm d g t ms hg ht hu h
    obtain ⟨g', t', cs, fuel, p, hg', ht', hv, hd⟩ := h
    obtain rfl := Option.some.inj (hg.symm.trans hg')
    obtain rfl := Option.some.inj (ht.symm.trans ht')
    obtain ⟨_, u, v, hcs, _, _⟩ := iface_of_trod hu hd
    have := World.var?_cell hg hv 0
    rw [← Array.getElem?_toList, hcs] at this
    exact ⟨_, this, .inr ⟨u, v, rfl⟩⟩
  have tab : ∀ {n : String} {k : IntKind} {zs : List Int} {g : Nat} {t e : TypeId} {N : Nat}, Tryz.prog.globalNamed n = some g → (Tryz.prog.globals[g]?).map (·.type) = some t → Tryz.prog.underlying t = some (.array N e) →
      Tryz.prog.underlying e = some (.int k) → Tryz.prog.cellsOf e = 1 → Tryz.prog.cellsOf t = N → Lib.VarReads Tryz.prog w n (Lib.tabData k zs) → ∃ t fr, w.heap[g]? = some (.cells (zs.map fun z => Value.int k z).toArray t fr) := by
    intro n k zs g t e N hg ht hu he hce hct h
    obtain ⟨g', t', cs, fuel, p, hg', ht', hv, hd⟩ := h
    obtain rfl := Option.some.inj (hg.symm.trans hg')
    obtain rfl := Option.some.inj (ht.symm.trans ht')
    have hcs := Lib.cells_of_tab hu he hce hct hd
    obtain ⟨t, fr, h⟩ := var_heap hg hv
    exact ⟨t, fr, by rw [h, ← hcs]⟩
  refine ⟨?_, ?_, ?_, ?_, ?_, white hw⟩
  · exact cell_of_shapedOpen_int (zero := #[.int .i64 0]) (t := 3) hs (of_decide_eq_true (by kernel_rfl)) (by kernel_rfl) rfl (by kernel_rfl) (by kernel_rfl) Tryz.underlying3
  · exact iface (by kernel_rfl) (by kernel_rfl) Tryz.underlying122 hy
  · exact iface (by kernel_rfl) (by kernel_rfl) Tryz.underlying122 hr
  · exact tab (by kernel_rfl) (by kernel_rfl) Tryz.underlying207 (by kernel_rfl) (by kernel_rfl) (by kernel_rfl) ((show Rows.laid_internal_strconv_uint64pow10 = Lib.tabData .u64 Lib.pow10Tab by kernel_rfl) ▸ hp)
  · exact tab (by kernel_rfl) (by kernel_rfl) Tryz.underlying153 (by kernel_rfl) (by kernel_rfl) (by kernel_rfl) ((show Rows.laid_strings_asciiSpace = Lib.tabData .u8 Lib.asciiSpaceTab by kernel_rfl) ▸ ha)
section
variable {H : Type} {enc : TypeId × Value → H} {os : Os}
theorem laid_all (args : Array Value) : laidMetH Tryz.prog laidL ((World.laidAll Tryz.prog os laidL).forCall (fun _ _ => 0) ⟨#[], args, []⟩).memory := by
  rw [MakeChecks.laidMetH_plain _ _ _ (by kernel_rfl)]
  exact laidMet_laidAll _ (by kernel_rfl) (by kernel_rfl)
theorem laid_shaped (args : Array Value) : ((World.laidAll Tryz.prog os laidL).forCall (fun _ _ => 0) ⟨#[], args, []⟩).Shaped Tryz.prog := World.shaped_of_ZipB (by kernel_rfl) (by kernel_rfl)
theorem returns_laid {f : FuncId} {fn : Func} {s : ChangeSpec} (started : os.Started) (noInit : Tryz.checked.prog.inits.idxOf? f = none) (hfn : Tryz.checked.prog.funcs[f]? = some fn) (args0 : Array Value)
    (hok : Input.okWideB Tryz.checked.prog ((World.laidAll Tryz.prog os laidL).forCall (fun _ _ => 0) ⟨#[], args0, []⟩) f ⟨#[], args0, []⟩ = true)
    (hpre : s.preB enc Tryz.checked.prog fn [] false ((World.laidAll Tryz.prog os laidL).forCall (fun _ _ => 0) ⟨#[], args0, []⟩).memory args0 8 = true)
    (hsz : s.sizedB enc Tryz.checked.prog fn false ((World.laidAll Tryz.prog os laidL).forCall (fun _ _ => 0) ⟨#[], args0, []⟩).memory args0 8 = true)
    (contract : ∀ (W : World) (base : Nat) (args : Array Value) (ds gs : List (DataW H)) (before : List MemPlace),
      (∀ (j : Nat) t v, fn.params[j]? = some t → args[j]? = some v → Value.okWide Tryz.prog W .any base t v) →
      DataW.Whole enc Tryz.prog fn.params.toList s.vars false W args.toList ds gs before → LaidW W →
      Calls Tryz.prog f args W fun e W' => ∃ v, e = .returned v ∧ s.post enc Tryz.prog fn false true false false W args v W') :
    ReturnsInHanded {} Tryz.checked os f .any (fun w args => (s.pre enc Tryz.checked.prog fn [] false w args ∧ laidMetH Tryz.checked.prog laidL w) ∧ sizedMet enc Tryz.checked.prog fn (OpenSpec.ofChange s) false w args)
      (s.post enc Tryz.checked.prog fn false true false false) := by
  refine returnsInHanded_of_calls (C := Tryz.checked) own started noInit
    (ChangeSpec.witness_shaped (enc := enc) (C := Tryz.checked) (os := os) (s := s) (X := fun w _ => laidMetH Tryz.prog laidL w) false (World.laidAll Tryz.prog os laidL) args0 8 (World.laidAll_os _ _ _) (laid_shaped args0) hok hpre hsz (laid_all args0)) ?_
  intro w tape i _ hsh _ hok hpre _
  obtain ⟨_, _, _, fn', hfn', _, _, _, _, hval⟩ := hok
  have e : fn' = fn := Option.some.inj (hfn'.symm.trans hfn)
  subst e
  obtain ⟨⟨⟨ds, gs, before, hw, _⟩, hx⟩, _⟩ := hpre
  have hw' := DataW.Whole.of_heap (w' := w.forCall tape i) (by rfl) hw
  have hx' : laidMet Tryz.prog laidL (w.forCall tape i) := by
    have hx1 : laidMetH Tryz.prog laidL (w.forCall tape i).memory := hx
    rw [MakeChecks.laidMetH_plain _ _ _ (by kernel_rfl)] at hx1
    exact hx1.of_heap (by rfl)
  refine (contract (w.forCall tape i) w.heap.size i.args ds gs before hval hw' (laidW_of hx' hsh)).mono fun e W' ⟨v, he, hp⟩ => ?_
  subst he
  exact ChangeSpec.post_blind hp
end
end Go.Ab.Grid
set_option maxRecDepth 100000
namespace Go.Ab.Grid
open Go Go.Ab
end Go.Ab.Grid
