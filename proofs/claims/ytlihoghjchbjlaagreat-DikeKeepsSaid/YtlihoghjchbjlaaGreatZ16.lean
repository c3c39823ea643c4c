/- The shape of walls by numbers, in a row. -/
import Derived.Test.YtlihoghjchbjlaaGreatZ15
import Derived.Test.YtlihoghjchbjlaaGreatZ12
import Derived.Test.YtlihoghjchbjlaaGreatZ13
set_option linter.unusedSimpArgs false
set_option linter.unusedVariables false
set_option linter.unusedSectionVars false
namespace Go.Ab.Dike
open Go Go.Ab
section
variable {g : Nat} {rd : Option Nat} {T : List Value} {D : List Nat} {A : Hp} {Q : Ex → St → Prop} {V : Value → Hp → Prop}
theorem loop232d {A0 : Hp} {X15 Y X32 n st : Nat} {zs ss ys : List Int} {F : Nat → FT} {sl : Value} (hW : WIn n st zs ss F ys) (h15 : A0.get X15 = some (.cells [.int .i64 8, .int .i64 1, .int .i64 10, .slice (some ⟨Y, 0, some 2⟩) 8 8] false)) (hY : A0.get Y = some (.cells (ints ys) false))
    (h32 : A0.get X32 = some (.cells [.int .i64 8, .int .i64 1, .int .i64 10, sl] false)) (hsl : RdS A0 2 8 (ints (raiseL ss F st zs n)) sl) (t15 : tget T 15 = .pointer (some ⟨X15, 0, none⟩)) (t32 : tget T 32 = .pointer (some ⟨X32, 0, none⟩)) (t201 : tget T 201 = .int .i64 8)
    (hQ : ∀ T' A', KeepT [2, 15, 32] T T' → Ext' A0 A' → Q (.exit 6) ⟨T', D, A'⟩) :
    ∀ (k i : Nat) {T1 : List Value} {A : Hp}, i + k = 8 → KeepT [2, 15, 32, 201] T T1 → tget T1 202 = .int .i64 i → Ext' A0 A → W AP KL g rd (.loop body232d) ⟨T1, D, A⟩ Q := by
  intro k
  induction k with
  | zero =>
    intro i T1 A hik hk t202 he
    have : i = 8 := by omega
    subst this
    have u201 := (hk.at 201 rfl).trans t201
    rw [W_loop]
    simp (disch := as_aux_lemma => first | omega | simp only [hDs] <;> omega | simp [isCell]) [hRs, takeMarks, resA, resAll, resOne, Value.cells, body232d, u201, t202]
    refine hQ _ A ?_ he
    simp [hk.at 2 rfl, hk.at 15 rfl, hk.at 32 rfl]
  | succ k ih =>
    intro i T1 A hik hk t202 he
    have u15 := (hk.at 15 rfl).trans t15
    have u32 := (hk.at 32 rfl).trans t32
    have u201 := (hk.at 201 rfl).trans t201
    have e3 : wr .i64 ((i : Int) + 1) = ((i + 1 : Nat) : Int) := by rw [wrId (by omega) (by omega)]; simp
    have hsl' := he.rdS hsl
    obtain ⟨x, c, ro, rfl, hx⟩ := hsl'.at (i := i) (by omega)
    have hyl := hW.yl
    have hzl := hW.zl
    have hRl : (raiseL ss F st zs n).length = 16 := by rw [raiseL_length]; exact hzl
    have hw := hW.win i (by omega)
    obtain ⟨R, hR⟩ : ∃ R, R = raiseL ss F st zs n := ⟨_, rfl⟩
    rw [← hR] at hw hRl hx
    have i1 := ints_two (l := ys) (o := i * 2) (by omega)
    have i2 := ints_two (l := R) (o := i * 2) (by omega)
    obtain ⟨y0, hy0⟩ : ∃ y0, y0 = gi ys (i * 2) := ⟨_, rfl⟩
    obtain ⟨y1, hy1⟩ : ∃ y1, y1 = gi ys (i * 2 + 1) := ⟨_, rfl⟩
    obtain ⟨r0, hr0⟩ : ∃ r0, r0 = gi R (i * 2) := ⟨_, rfl⟩
    obtain ⟨r1, hr1⟩ : ∃ r1, r1 = gi R (i * 2 + 1) := ⟨_, rfl⟩
    rw [← hy0, ← hy1] at i1
    rw [← hr0, ← hr1] at i2
    rw [← hy0, ← hy1, ← hr0, ← hr1] at hw
    rw [W_loop]
    simp (disch := as_aux_lemma => first | omega | simp only [hDs] <;> omega | simp [isCell]) [hRs, takeMarks, resA, resAll, resOne, Value.cells, body232d, t202, u15, u32, u201, show (i : Int) < 8 by omega, show i < 8 by omega, idxSA_ok, he.get h15, he.get hY, he.get h32, hx, i1, i2]
    refine w140 (by omega) (by omega) (by omega) fun A1 e1 => ?_
    simp (disch := as_aux_lemma => first | omega | simp only [hDs] <;> omega | simp [isCell]) [hRs, takeMarks, resA, resAll, resOne, Value.cells, t202, e3]
    exact ih (i + 1) (by omega) (hk.trans (by simp)) (by simp) (he.trans e1)
theorem bool_row {A : Hp} {m i : Nat} {l : List Bool} {sv : Value} (h : RdS A 1 m (bools l) sv) (hi : i < m) : ∃ x c ro, sv = .slice (some ⟨x, 0, some 1⟩) m c ∧ A.get x = some (.cells (bools l) ro) ∧ cellAt (bools l) i = some (.bool (gB l i)) := by
  obtain ⟨x, c, ro, h1, h2⟩ := h.at hi
  have hl := h.1
  rw [bools_length] at hl
  refine ⟨x, c, ro, h1, h2, ?_⟩
  rw [bools_at (by omega)]
  unfold gB
  rw [List.getD_eq_getElem?_getD, List.getElem?_eq_getElem (by omega)]
  rfl
theorem loop232e {A0 : Hp} {s36 s37 s38 : Value} {l36 l37 l38 : List Bool} (h36 : RdS A0 1 8 (bools l36) s36) (h37 : RdS A0 1 8 (bools l37) s37) (h38 : RdS A0 1 8 (bools l38) s38) (hsure : ∀ i, i < 8 → gB l36 i = true → gB l38 i = true) (hmay : ∀ i, i < 8 → gB l38 i = true → gB l37 i = true)
    (t36 : tget T 36 = s36) (t37 : tget T 37 = s37) (t38 : tget T 38 = s38) (t263 : tget T 263 = .int .i64 8)
    (hQ : ∀ T', Q (.exit 8) ⟨T', D, A0⟩) :
    ∀ (k i : Nat) {T1 : List Value}, i + k = 8 → KeepT [36, 37, 38, 263] T T1 → tget T1 264 = .int .i64 i → W AP KL g rd (.loop body232e) ⟨T1, D, A0⟩ Q := by
  intro k
  induction k with
  | zero =>
    intro i T1 hik hk t264
    have : i = 8 := by omega
    subst this
    have u263 := (hk.at 263 rfl).trans t263
    rw [W_loop]
    simp (disch := as_aux_lemma => first | omega | simp only [hDs] <;> omega | simp [isCell]) [hRs, takeMarks, resA, resAll, resOne, Value.cells, body232e, u263, t264]
    exact hQ _
  | succ k ih =>
    intro i T1 hik hk t264
    have u36 := (hk.at 36 rfl).trans t36
    have u37 := (hk.at 37 rfl).trans t37
    have u38 := (hk.at 38 rfl).trans t38
    have u263 := (hk.at 263 rfl).trans t263
    have e3 : wr .i64 ((i : Int) + 1) = ((i + 1 : Nat) : Int) := by rw [wrId (by omega) (by omega)]; simp
    obtain ⟨x, c, ro, rfl, hx, b1⟩ := bool_row h36 (i := i) (by omega)
    obtain ⟨x', c', ro', rfl, hx', b2⟩ := bool_row h37 (i := i) (by omega)
    obtain ⟨x'', c'', ro'', rfl, hx'', b3⟩ := bool_row h38 (i := i) (by omega)
    have q1 := hsure i (by omega)
    have q2 := hmay i (by omega)
    obtain ⟨v1, hv1⟩ : ∃ v, v = gB l36 i := ⟨_, rfl⟩
    obtain ⟨v2, hv2⟩ : ∃ v, v = gB l37 i := ⟨_, rfl⟩
    obtain ⟨v3, hv3⟩ : ∃ v, v = gB l38 i := ⟨_, rfl⟩
    rw [← hv1] at b1 q1
    rw [← hv2] at b2 q2
    rw [← hv3] at b3 q1 q2
    rw [W_loop]
    cases v1 <;> cases v2 <;> cases v3 <;> simp at q1 q2
    all_goals
      simp (disch := as_aux_lemma => first | omega | simp only [hDs] <;> omega | simp [isCell]) [hRs, takeMarks, resA, resAll, resOne, Value.cells, body232e, t264, u36, u37, u38, u263, show (i : Int) < 8 by omega, show i < 8 by omega, idxSA_ok, hx, hx', hx'', b1, b2, b3, e3]
      exact ih (i + 1) (by omega) (hk.trans (by simp)) (by simp)
end
end Go.Ab.Dike
namespace Go.Ab.Dike
open Go Go.Ab
def kk232 : ACode := (.ops [
oD 181 11 4,
oM 182 19,
oM 183 20,
oM 184 21,
oA 185 126 [.t 181, .t 182, .t 183, .t 184] false,
oM 180 185,
oX 186 180 0,
oX 187 180 1,
oP 32 (.alloc [.int .i64 0, .int .i64 0, .int .i64 0, .slice none 0 0]),
oT 32 186 4,
oM 33 187])
def kl232 : ACode := (.seq
 (.ops [
oM 188 33,
oC 189 .neq 188 0,
oM 190 189,
oQ 191 190 false (.fieldAddr (.t 32) 3),
oQ 192 190 false (.load (.t 191) none),
oQ 193 190 false (.len (.t 192)),
oQ 194 190 false (.fieldAddr (.t 11) 3),
oQ 195 190 false (.load (.t 194) none),
oQ 196 190 false (.len (.t 195)),
oQ 197 190 false (.bin .neq (.t 193) (.t 196)),
oP 198 (.pick (.t 190) (.k (.bool true)) (.t 197))])
 (.cond (.t 198)
 (.seq
 (.ops [
oP 10 (.move (.k (.bool false)))])
 .ret)
 .skip))
def km232 : ACode := (.seq
 (.ops [
oF 199 32 3,
oL 200 199,
oP 201 (.len (.t 200)),
oP 202 (.move (oK 0))])
 (.block 6
 (.loop
 (.seq
 (.ops [
oB 203 .lss 202 201])
 (.seq
 (.cond (.t 203)
 .skip
 (.exit 6))
 (.seq
 (.block 7
 (.seq
 (.ops [
oM 204 202,
oM 34 204])
 (.seq
 (.ops [
oF 205 15 3,
oL 206 205,
oM 207 34,
oI 208 206 207 2,
oD 209 208 2,
oF 210 32 3,
oL 211 210,
oM 212 34,
oI 213 211 212 2,
oD 214 213 2,
oA 215 140 [.t 209, .t 214] false,
oP 216 (.not (.t 215))])
 (.cond (.t 216)
 (.seq
 (.ops [
oP 10 (.move (.k (.bool false)))])
 .ret)
 .skip))))
 (.ops [
oC 217 .add 202 1,
oM 202 217])))))))
def kn232 : ACode := (.ops [
oM 218 2,
oP 219 (.toInt .i64 (.t 218)),
oC 220 .rem 219 3000,
oM 221 2,
oP 222 (.toInt .i64 (.t 221)),
oC 223 .rem 222 3000,
oA 224 141 [.t 220, .t 223] false,
oP 35 (.alloc [.int .i64 0, .int .i64 0]),
oT 35 224 2])
def ko232 : ACode := (.ops [
oD 226 32 4,
oP 227 (.slit 1 1 [.int .i64 0] [(0, .k (.int .i64 0))]),
oD 228 35 2,
oA 229 253 [.t 226, .t 227, .t 228] false,
oM 225 229,
oX 230 225 0,
oX 231 225 1,
oX 232 225 2,
oM 36 230,
oM 37 231,
oM 33 232])
def kq232 : ACode := (.ops [
oD 234 15 4,
oP 235 (.slit 1 1 [.int .i64 0] [(0, .k (.int .i64 0))]),
oD 236 35 2,
oA 237 253 [.t 234, .t 235, .t 236] false,
oM 233 237,
oX 238 233 0,
oX 239 233 1,
oX 240 233 2,
oM 38 238,
oM 39 239,
oM 40 240])
def kr232 : ACode := (.seq
 (.ops [
oM 241 33,
oC 242 .neq 241 0,
oM 243 242,
oN 244 243 false 40,
oQ 245 243 false (.bin .neq (.t 244) (oK 0)),
oP 246 (.pick (.t 243) (.k (.bool true)) (.t 245)),
oM 247 246,
oN 248 247 false 36,
oQ 249 247 false (.len (.t 248)),
oQ 250 247 false (.bin .neq (.t 249) (oK 8)),
oP 251 (.pick (.t 247) (.k (.bool true)) (.t 250)),
oM 252 251,
oN 253 252 false 37,
oQ 254 252 false (.len (.t 253)),
oQ 255 252 false (.bin .neq (.t 254) (oK 8)),
oP 256 (.pick (.t 252) (.k (.bool true)) (.t 255)),
oM 257 256,
oN 258 257 false 38,
oQ 259 257 false (.len (.t 258)),
oQ 260 257 false (.bin .neq (.t 259) (oK 8)),
oP 261 (.pick (.t 257) (.k (.bool true)) (.t 260))])
 (.cond (.t 261)
 (.seq
 (.ops [
oP 10 (.move (.k (.bool false)))])
 .ret)
 .skip))
def ks232 : ACode := (.seq
 (.ops [
oM 262 38,
oP 263 (.len (.t 262)),
oP 264 (.move (oK 0))])
 (.block 8
 (.loop
 (.seq
 (.ops [
oB 265 .lss 264 263])
 (.seq
 (.cond (.t 265)
 .skip
 (.exit 8))
 (.seq
 (.block 9
 (.seq
 (.ops [
oM 266 264,
oM 41 266])
 (.seq
 (.ops [
oM 267 36,
oM 268 41,
oI 269 267 268 1,
oL 270 269,
oM 271 270,
oN 272 271 true 38,
oN 273 271 true 41,
oQ 274 271 true (.idxS (.t 272) (.t 273) 1),
oQ 275 271 true (.load (.t 274) none),
oQ 276 271 true (.not (.t 275)),
oP 277 (.pick (.t 271) (.t 276) (.k (.bool false))),
oM 278 277,
oN 279 278 false 38,
oN 280 278 false 41,
oQ 281 278 false (.idxS (.t 279) (.t 280) 1),
oQ 282 278 false (.load (.t 281) none),
oN 283 278 false 282,
oN 284 283 true 37,
oN 285 283 true 41,
oQ 286 283 true (.idxS (.t 284) (.t 285) 1),
oQ 287 283 true (.load (.t 286) none),
oQ 288 283 true (.not (.t 287)),
oQ 289 278 false (.pick (.t 283) (.t 288) (.k (.bool false))),
oP 290 (.pick (.t 278) (.k (.bool true)) (.t 289))])
 (.cond (.t 290)
 (.seq
 (.ops [
oP 10 (.move (.k (.bool false)))])
 .ret)
 .skip))))
 (.ops [
oC 291 .add 264 1,
oM 264 291])))))))
def kt232 : ACode := (.seq
 (.ops [
oA 292 121 [] false,
oM 10 292])
 .ret)
section
variable {g : Nat} {rd : Option Nat} {T : List Value} {D : List Nat} {A : Hp} {Q : Ex → St → Prop} {V : Value → Hp → Prop}
theorem flS_at {a : Int} {lo up : List Int} {i : Nat} (hi : i < 8) : gB (flS a (pairI lo up 8) 1 8) i = decide (gi up i < a) ∧ gB (flS a (pairI lo up 8) 0 8) i = decide (gi lo i < a) := by
  obtain ⟨h1, h2⟩ := pairI_get (lo := lo) (up := up) (i := 8) (j := i) hi
  unfold gB flS
  rw [List.getD_eq_getElem?_getD, List.getD_eq_getElem?_getD, List.getElem?_map, List.getElem?_map, List.getElem?_range hi]
  simp only [Option.map_some, Option.getD_some, Nat.add_zero]
  simp only [h1, h2, and_self]
theorem kE232 {n st : Nat} {X15 X32 Y : Nat} {zs ss ys : List Int} {F : Nat → FT} {sl : Value} {lv : Int} (hW : WIn n st zs ss F ys) (hlv : -32768 ≤ lv ∧ lv ≤ 32767) (hg : g ≤ A.n)
    (h15 : A.get X15 = some (.cells [.int .i64 8, .int .i64 1, .int .i64 10, .slice (some ⟨Y, 0, some 2⟩) 8 8] false)) (hY : A.get Y = some (.cells (ints ys) false)) (h32 : A.get X32 = some (.cells [.int .i64 8, .int .i64 1, .int .i64 10, sl] false)) (hsl : RdS A 2 8 (ints (raiseL ss F st zs n)) sl)
    (t2 : tget T 2 = .int .i16 lv) (t15 : tget T 15 = .pointer (some ⟨X15, 0, none⟩)) (t32 : tget T 32 = .pointer (some ⟨X32, 0, none⟩))
    (hQ : ∀ T' A', tget T' 10 = .bool true → Q .ret ⟨T', D, A'⟩) :
    W AP KL g rd (.seq kn232 (.seq ko232 (.seq kq232 (.seq kr232 (.seq ks232 kt232))))) ⟨T, D, A⟩ Q := by
  obtain ⟨l, hl⟩ : ∃ l, l = lv.tmod 3000 := ⟨_, rfl⟩
  have hlr := tmod_rng (a := lv) (m := 3000) (by omega)
  rw [← hl] at hlr
  have e1 := wrId (n := lv) (by omega) (by omega)
  simp (disch := as_aux_lemma => first | omega | simp only [hDs] <;> omega | simp [isCell]) [hRs, takeMarks, resA, resAll, resOne, Value.cells, kn232, t2, toIntA, e1, binA_rem (show (3000 : Int) ≠ 0 by decide), ← hl]
  refine w141 hg fun A1 f1 => ?_
  have n1 := f1.1
  simp (disch := as_aux_lemma => first | omega | simp only [hDs] <;> omega | simp [isCell]) [hRs, takeMarks, resA, resAll, resOne, Value.cells, storeB_cells, setRange, set_push_eq]
  obtain ⟨A2, hA2⟩ : ∃ A2, A2 = A1.push (.cells [.int .i64 l, .int .i64 l] false) := ⟨_, rfl⟩
  have f2 : Ext' A1 A2 := by rw [hA2]; exact Ext'.push A1 _
  have hA2n : A2.n = A1.n + 1 := by rw [hA2]; rfl
  have h35 : A2.get A1.n = some (.cells [.int .i64 l, .int .i64 l] false) := by rw [hA2, get_push_new]
  rw [← hA2]
  have f12 := f1.trans f2
  simp (disch := as_aux_lemma => first | omega | simp only [hDs] <;> omega | simp [isCell]) [hRs, takeMarks, resA, resAll, resOne, Value.cells, ko232, t32, f12.get h32, slitA, fillA, setRange]
  obtain ⟨A3, hA3⟩ : ∃ A3, A3 = A2.push (.cells [.int .i64 0] false) := ⟨_, rfl⟩
  have f3 : Ext' A2 A3 := by rw [hA3]; exact Ext'.push A2 _
  have hA3n : A3.n = A2.n + 1 := by rw [hA3]; rfl
  have hz3 : A3.get A2.n = some (.cells [.int .i64 0] false) := by rw [hA3, get_push_new]
  have f13 := f12.trans f3
  have hval : validB l l (-20000) 20000 = true := by simp [validB]; omega
  rw [← hA3]
  simp (disch := as_aux_lemma => first | omega | simp only [hDs] <;> omega | simp [isCell]) [hRs, takeMarks, resA, resAll, resOne, Value.cells, h35]
  refine w253 hW.grid hz3 (f13.rdS hsl) hval (by omega) fun A4 loR upR s6 s7 k1 k2 f4 r6 r7 _ _ => ?_
  have n4 := f4.1
  have f14 := f13.trans f4
  simp (disch := as_aux_lemma => first | omega | simp only [hDs] <;> omega | simp [isCell]) [hRs, takeMarks, resA, resAll, resOne, Value.cells]
  simp (disch := as_aux_lemma => first | omega | simp only [hDs] <;> omega | simp [isCell]) [hRs, takeMarks, resA, resAll, resOne, Value.cells, kq232, t15, f14.get h15, slitA, fillA, setRange]
  obtain ⟨A5, hA5⟩ : ∃ A5, A5 = A4.push (.cells [.int .i64 0] false) := ⟨_, rfl⟩
  have f5 : Ext' A4 A5 := by rw [hA5]; exact Ext'.push A4 _
  have hA5n : A5.n = A4.n + 1 := by rw [hA5]; rfl
  have hz5 : A5.get A4.n = some (.cells [.int .i64 0] false) := by rw [hA5, get_push_new]
  have f15 := f14.trans f5
  rw [← hA5]
  simp (disch := as_aux_lemma => first | omega | simp only [hDs] <;> omega | simp [isCell]) [hRs, takeMarks, resA, resAll, resOne, Value.cells, (f3.trans f4).get h35]
  have hys : RdS A5 2 8 (ints ys) (.slice (some ⟨Y, 0, some 2⟩) 8 8) := ⟨by rw [ints_length]; exact hW.yl, .inr ⟨Y, 8, false, rfl, f15.get hY⟩⟩
  refine w253 hW.real hz5 hys hval (by omega) fun A6 loY upY s6' s7' k3 k4 f6 r6' r7' _ _ => ?_
  have g6 := (f5.trans f6).rdS r6
  have g7 := (f5.trans f6).rdS r7
  simp (disch := as_aux_lemma => first | omega | simp only [hDs] <;> omega | simp [isCell]) [hRs, takeMarks, resA, resAll, resOne, Value.cells]
  simp (disch := as_aux_lemma => first | omega | simp only [hDs] <;> omega | simp [isCell]) [hRs, takeMarks, resA, resAll, resOne, Value.cells, kr232, g6.len, g7.len, r6'.len]
  simp (disch := as_aux_lemma => first | omega | simp only [hDs] <;> omega | simp [isCell]) [hRs, takeMarks, resA, resAll, resOne, Value.cells, ks232, r6'.len]
  refine loop232e (A0 := A6) g6 g7 r6' (fun i hi h => ?_) (fun i hi h => ?_) (T := _) ?_ ?_ ?_ ?_ (fun T' => ?_) 8 0 rfl (fun _ _ => rfl) ?_
  · have hf := (hW.flood k1 k2 k4 hi).2
    rw [(flS_at hi).1] at h ⊢
    simp only [decide_eq_true_eq] at h ⊢
    omega
  · have hf := (hW.flood k1 k2 k4 hi).1
    rw [(flS_at hi).1] at h
    rw [(flS_at hi).2]
    simp only [decide_eq_true_eq] at h ⊢
    omega
  · simp
  · simp
  · simp
  · simp
  · simp (disch := as_aux_lemma => first | omega | simp only [hDs] <;> omega | simp [isCell]) [hRs, takeMarks, resA, resAll, resOne, Value.cells, kt232]
    refine hQ _ _ ?_
    simp
  · simp
theorem kR232 {E0 : Hp} {n st : Nat} {X11 X15 Y : Nat} {zs ss ys : List Int} {F : Nat → FT} {svz s19 s20 : Value} {lv : Int} (hz : GrdOk 8 zs) (hn : n ≤ 4) (hW : WIn n st zs ss F ys) (hlv : -32768 ≤ lv ∧ lv ≤ 32767) (hg : g ≤ A.n) (hst : st ≤ 5)
    (h11 : A.get X11 = some (.cells [.int .i64 8, .int .i64 1, .int .i64 10, svz] false)) (hsvz : RdS A 2 8 (ints zs) svz) (h15 : A.get X15 = some (.cells [.int .i64 8, .int .i64 1, .int .i64 10, .slice (some ⟨Y, 0, some 2⟩) 8 8] false)) (hY : A.get Y = some (.cells (ints ys) false)) (h19 : RdS A 8 n (ints ss) s19) (h20 : Fates A n F s20)
    (t2 : tget T 2 = .int .i16 lv) (t11 : tget T 11 = .pointer (some ⟨X11, 0, none⟩)) (t15 : tget T 15 = .pointer (some ⟨X15, 0, none⟩)) (t19 : tget T 19 = s19) (t20 : tget T 20 = s20) (t21 : tget T 21 = .int .i64 st)
    (hQ : ∀ T' A', tget T' 10 = .bool true → Q .ret ⟨T', D, A'⟩) :
    W AP KL g rd (.seq kk232 (.seq kl232 (.seq km232 (.seq kn232 (.seq ko232 (.seq kq232 (.seq kr232 (.seq ks232 kt232)))))))) ⟨T, D, A⟩ Q := by
  have hr := hW.raise hn hz
  simp (disch := as_aux_lemma => first | omega | simp only [hDs] <;> omega | simp [isCell]) [hRs, takeMarks, resA, resAll, resOne, Value.cells, kk232, t11, h11, t19, t20, t21]
  refine w126 (w := 8) (h := 1) (s := 10) (step := (st : Int)) hsvz (by omega) h19 (by omega) h20 (by omega) hg fun v A1 e1 hout => ?_
  rcases hout with ⟨he, _⟩ | ⟨_, sl, rfl, hsl⟩
  · exact absurd hr he
  have hst' : (st : Int).toNat = st := rfl
  rw [hst'] at hsl
  obtain ⟨p, c, rfl⟩ := hsl.isSlice
  have n1 := e1.1
  unfold gridV
  simp (disch := as_aux_lemma => first | omega | simp only [hDs] <;> omega | simp [isCell]) [hRs, takeMarks, resA, resAll, resOne, Value.cells, storeB_cells, setRange, set_push_eq]
  obtain ⟨A2, hA2⟩ : ∃ A2, A2 = A1.push (.cells [.int .i64 8, .int .i64 1, .int .i64 10, .slice p 8 c] false) := ⟨_, rfl⟩
  have e2 : Ext' A1 A2 := by rw [hA2]; exact Ext'.push A1 _
  have h32 : A2.get A1.n = some (.cells [.int .i64 8, .int .i64 1, .int .i64 10, .slice p 8 c] false) := by rw [hA2, get_push_new]
  have e12 := e1.trans e2
  have n12 := e12.1
  rw [← hA2]
  have hl1 := hsl.len
  have hl2 := hsvz.len
  simp (disch := as_aux_lemma => first | omega | simp only [hDs] <;> omega | simp [isCell]) [hRs, takeMarks, resA, resAll, resOne, Value.cells, kl232, h32, hl1, t11, e12.get h11, hl2]
  simp (disch := as_aux_lemma => first | omega | simp only [hDs] <;> omega | simp [isCell]) [hRs, takeMarks, resA, resAll, resOne, Value.cells, km232, h32, hl1]
  refine loop232d (A0 := A2) (X32 := A1.n) hW (e12.get h15) (e12.get hY) h32 (e2.rdS hsl) (T := _) ?_ ?_ ?_ (fun T3 A3 k3 e3 => ?_) 8 0 rfl (fun _ _ => rfl) ?_ (Ext'.refl _)
  · simp [t15]
  · simp
  · simp
  · simp (disch := as_aux_lemma => first | omega | simp only [hDs] <;> omega | simp [isCell]) [hRs, takeMarks, resA, resAll, resOne, Value.cells]
    rw [← W_seq]
    refine kE232 hW hlv (by have := e3.1; omega) ((e12.trans e3).get h15) ((e12.trans e3).get hY) (e3.get h32) (e3.rdS (e2.rdS hsl)) ?_ ?_ ?_ hQ
    · rw [k3.at 2 rfl]; simp [t2]
    · rw [k3.at 15 rfl]; simp [t15]
    · rw [k3.at 32 rfl]; simp
  · simp
end
end Go.Ab.Dike
namespace Go.Ab.Dike
open Go Go.Ab
def kp0 : ACode := (.ops [
oP 10 (.move (.k (.bool false)))])
def kp1 : ACode := (.seq
 (.ops [
oM 42 0,
oP 43 (.len (.t 42)),
oC 44 .gtr 43 8,
oM 45 44,
oN 46 45 false 1,
oQ 47 45 false (.len (.t 46)),
oQ 48 45 false (.bin .gtr (.t 47) (oK 4)),
oP 49 (.pick (.t 45) (.k (.bool true)) (.t 48))])
 (.cond (.t 49)
 (.seq
 (.ops [
oA 50 121 [] false,
oM 10 50])
 .ret)
 .skip))
def kpa : ACode := (.ops [
oP 51 (.build [.int .i64 0, .int .i64 0, .int .i64 0, .slice none 0 0] [(0, 1, .k (.int .i64 8)), (1, 1, .k (.int .i64 1)), (2, 1, .k (.int .i64 10))]),
oP 11 (.alloc [.int .i64 0, .int .i64 0, .int .i64 0, .slice none 0 0]),
oT 11 51 4])
def kpb : ACode := (.seq
 (.ops [
oP 52 (.move (oK 0))])
 (.block 0
 (.loop
 (.seq
 (.ops [
oC 53 .lss 52 8])
 (.seq
 (.cond (.t 53)
 .skip
 (.exit 0))
 (.seq
 (.block 1
 (.seq
 (.ops [
oM 54 52,
oM 12 54])
 (.seq
 (.ops [
oP 13 (.move (oK 0))])
 (.seq
 (.seq
 (.ops [
oM 55 0,
oP 56 (.len (.t 55)),
oC 57 .gtr 56 0])
 (.cond (.t 57)
 (.ops [
oM 58 0,
oM 59 12,
oM 60 0,
oP 61 (.len (.t 60)),
oB 62 .rem 59 61,
oI 63 58 62 1,
oL 64 63,
oP 65 (.toInt .i64 (.t 64)),
oM 13 65])
 .skip))
 (.ops [
oF 66 11 3,
oL 67 66,
oM 68 13,
oM 69 13,
oC 70 .add 69 9,
oA 71 141 [.t 68, .t 70] true,
oP 72 (.slit 1 2 [.int .i64 0, .int .i64 0] [(0, .t 71)]),
oP 73 (.append (.t 67) (.t 72) 2 16),
oF 74 11 3,
oT 74 73 1])))))
 (.ops [
oC 75 .add 52 1,
oM 52 75])))))))
def kpc : ACode := (.ops [
oM 76 4,
oA 77 138 [.t 76] false,
oM 14 77])
def kpd : ACode := (.ops [
oD 78 11 4,
oP 15 (.alloc [.int .i64 0, .int .i64 0, .int .i64 0, .slice none 0 0]),
oT 15 78 4])
def kpe : ACode := (.ops [
oF 79 15 3,
⟨none, none, [], .store (.t 79) (.k (.slice none 0 0)) 1⟩])
def kpf : ACode := (.seq
 (.ops [
oF 80 11 3,
oL 81 80,
oP 82 (.len (.t 81)),
oP 83 (.move (oK 0))])
 (.block 2
 (.loop
 (.seq
 (.ops [
oB 84 .lss 83 82])
 (.seq
 (.cond (.t 84)
 .skip
 (.exit 2))
 (.seq
 (.block 3
 (.seq
 (.ops [
oI 85 81 83 2,
oD 86 85 2,
oP 17 (.alloc [.int .i64 0, .int .i64 0]),
oT 17 86 2])
 (.seq
 (.ops [
oM 87 14,
oD 88 17 2,
oP 89 (.call (.t 87) [.t 88] false),
oM 18 89])
 (.ops [
oF 90 15 3,
oL 91 90,
oM 92 18,
oM 93 18,
oA 94 141 [.t 92, .t 93] true,
oP 95 (.slit 1 2 [.int .i64 0, .int .i64 0] [(0, .t 94)]),
oP 96 (.append (.t 91) (.t 95) 2 16),
oF 97 15 3,
oT 97 96 1]))))
 (.ops [
oC 98 .add 83 1,
oM 83 98])))))))
def kp8 : ACode := (.ops [
oP 19 (.move (.k (.slice none 0 0)))])
def kp9 : ACode := (.ops [
oP 20 (.move (.k (.slice none 0 0)))])
def kp10 : ACode := (.ops [
oM 99 3,
oP 100 (.toInt .i64 (.t 99)),
oC 101 .rem 100 6,
oM 21 101])
def kpj : ACode := (.seq
 (.ops [
oM 102 1,
oP 103 (.len (.t 102)),
oP 104 (.move (oK 0))])
 (.block 4
 (.loop
 (.seq
 (.ops [
oB 105 .lss 104 103])
 (.seq
 (.cond (.t 105)
 .skip
 (.exit 4))
 (.seq
 (.block 5
 (.seq
 (.ops [
oM 106 104,
oI 107 102 104 10,
oD 108 107 10,
oP 23 (.alloc [.int .i16 0, .int .i16 0, .int .i16 0, .int .u8 0, .int .u8 0, .int .u8 0, .int .u8 0, .slice none 0 0, .slice none 0 0, .slice none 0 0]),
oM 22 106,
oT 23 108 10])
 (.seq
 (.seq
 (.ops [
oF 109 23 7,
oL 110 109,
oP 111 (.len (.t 110)),
oC 112 .lss 111 6,
oM 113 112,
oQ 114 113 false (.fieldAddr (.t 23) 7),
oQ 115 113 false (.load (.t 114) none),
oQ 116 113 false (.len (.t 115)),
oQ 117 113 false (.bin .gtr (.t 116) (oK 20)),
oP 118 (.pick (.t 113) (.k (.bool true)) (.t 117))])
 (.cond (.t 118)
 (.seq
 (.ops [
oA 119 121 [] false,
oM 10 119])
 .ret)
 .skip))
 (.seq
 (.ops [
oD 121 23 10,
oM 122 22,
oP 123 (.bin .mul (oK 2) (.t 122)),
oC 124 .add 123 1,
oA 125 137 [.t 121, .t 124] false,
oM 120 125,
oX 126 120 0,
oX 127 120 1,
oP 24 (.alloc [.int .i64 0, .int .i64 0, .int .i64 0, .int .i64 0, .int .i64 0, .int .i64 0, .int .i64 0, .int .i64 0]),
oT 24 126 8,
oM 25 127])
 (.seq
 (.ops [
oD 129 24 8,
oM 130 25,
oA 131 122 [.t 129, .t 130] false,
oM 128 131,
oX 132 128 0,
oX 133 128 1,
oP 26 (.alloc [.slice none 0 0, .slice none 0 0, .int .i64 0, .int .i64 0]),
oT 26 132 4,
oM 27 133])
 (.seq
 (.seq
 (.ops [
oM 134 27,
oC 135 .neq 134 0])
 (.cond (.t 135)
 (.seq
 (.ops [
oP 10 (.move (.k (.bool false)))])
 .ret)
 .skip))
 (.seq
 (.ops [
oM 136 19,
oD 137 24 8,
oP 138 (.slit 1 8 [.int .i64 0, .int .i64 0, .int .i64 0, .int .i64 0, .int .i64 0, .int .i64 0, .int .i64 0, .int .i64 0] [(0, .t 137)]),
oP 139 (.append (.t 136) (.t 138) 8 64),
oM 140 20,
⟨some 141, none, [(.t 136, 0, .t 26, 4)], .load (.t 26) (some 4)⟩,
oP 142 (.slit 1 4 [.slice none 0 0, .slice none 0 0, .int .i64 0, .int .i64 0] [(0, .t 141)]),
oP 143 (.append (.t 140) (.t 142) 4 64),
oM 19 139,
oM 20 143])
 (.seq
 (.ops [
oD 145 24 8,
oM 146 25,
oM 147 14,
oA 148 139 [.t 145, .t 146, .t 147] false,
oM 144 148,
oX 149 144 0,
oX 150 144 1,
oX 151 144 2,
oM 28 149,
oM 29 150,
oM 30 151])
 (.seq
 (.ops [
oM 152 30,
oC 153 .lss 152 0,
oM 154 153,
oN 155 154 false 30,
oN 156 154 false 21,
oQ 157 154 false (.bin .geq (.t 155) (.t 156)),
oP 158 (.pick (.t 154) (.k (.bool true)) (.t 157))])
 (.cond (.t 158)
 (.seq
 (.ops [
oF 159 15 3,
oL 160 159,
oF 161 24 0,
oL 162 161,
oI 163 160 162 2,
oF 164 163 0,
oL 165 164,
oM 166 28,
oM 167 21,
oI 168 166 167 1,
oL 169 168,
oP 170 (.max [.t 165, .t 169]),
oM 31 170])
 (.ops [
oF 171 15 3,
oL 172 171,
oF 173 24 0,
oL 174 173,
oM 175 31,
oM 176 31,
oA 177 141 [.t 175, .t 176] true,
oI 178 172 174 2,
oT 178 177 2]))
 .skip))))))))))
 (.ops [
oC 179 .add 104 1,
oM 104 179])))))))
theorem eq232 : F232 = .fn 293 [.tmp 10] (.seq kp0 (.seq kp1 (.seq kpa (.seq kpb (.seq kpc (.seq kpd (.seq kpe (.seq kpf (.seq kp8 (.seq kp9 (.seq kp10 (.seq kpj (.seq kk232 (.seq kl232 (.seq km232 (.seq kn232 (.seq ko232 (.seq kq232 (.seq kr232 (.seq ks232 kt232)))))))))))))))))))) := rfl
section
variable {g : Nat} {A : Hp} {V : Value → Hp → Prop}
theorem law232 {n0 n1 q : Nat} {xs us : List Int} {v0 v1 v4 : Value} {lv up : Int} (h0 : RdS A 1 n0 (kints .i8 xs) v0) (hxs : ∀ j, -128 ≤ gi xs j ∧ gi xs j ≤ 127) (hW : Walls A n1 v1) (hlv : -32768 ≤ lv ∧ lv ≤ 32767) (hup : 0 ≤ up ∧ up ≤ 255) (h4 : RdS A 1 q (kints .u8 us) v4) (hq : q < 9223372036854775808) (hus : ∀ j, 0 ≤ gi us j ∧ gi us j ≤ 255) (hg : g ≤ A.n)
    (hV : ∀ A', V (.bool true) A') : WF AP KL g 232 [v0, v1, .int .i16 lv, .int .u8 up, v4] A V := by
  rw [WF_body (show KL 232 = none from rfl) ((show AP 232 = some F232 from rfl).trans (congrArg some eq232))]
  by_cases c1 : (8 : Int) < n0
  · simp (disch := as_aux_lemma => first | omega | simp only [hDs] <;> omega | simp [isCell]) [hRs, takeMarks, resA, resAll, resOne, Value.cells, kp0, kp1, h0.len, c1]
    exact hV _
  by_cases c2 : (4 : Int) < n1
  · simp (disch := as_aux_lemma => first | omega | simp only [hDs] <;> omega | simp [isCell]) [hRs, takeMarks, resA, resAll, resOne, Value.cells, kp0, kp1, h0.len, hW.len, c1, c2]
    exact hV _
  simp (disch := as_aux_lemma => first | omega | simp only [hDs] <;> omega | simp [isCell]) [hRs, takeMarks, resA, resAll, resOne, Value.cells, kp0, kp1, h0.len, hW.len, c1, c2]
  obtain ⟨A1, hA1⟩ : ∃ A1, A1 = A.push (.cells [.int .i64 8, .int .i64 1, .int .i64 10, .slice none 0 0] false) := ⟨_, rfl⟩
  have e1 : Ext' A A1 := by rw [hA1]; exact Ext'.push A _
  have n1' : A1.n = A.n + 1 := by rw [hA1]; rfl
  have hX1 : A1.get A.n = some (.cells [.int .i64 8, .int .i64 1, .int .i64 10, .slice none 0 0] false) := by rw [hA1, get_push_new]
  simp (disch := as_aux_lemma => first | omega | simp only [hDs] <;> omega | simp [isCell]) [hRs, takeMarks, resA, resAll, resOne, Value.cells, kpa, fillA, setRange, storeB_cells, set_push_eq, setRange_all, ← hA1]
  simp (disch := as_aux_lemma => first | omega | simp only [hDs] <;> omega | simp [isCell]) [hRs, takeMarks, resA, resAll, resOne, Value.cells, kpb]
  refine loop232a (A0 := A1) (X11 := A.n) (e1.rdS h0) hxs (by omega) (by omega) hg (fun z hz => by have := h0.blk_lt hz; omega) (T := _) ?_ ?_ (fun T2 A2 zs sv k2 hG hX2 hacc b2 => ?_) 8 0 (zs := []) (sv := .slice none 0 0) rfl (fun _ _ => rfl) ?_ ⟨rfl, fun j hj => absurd hj (by omega)⟩ hX1 AccS.nil ⟨Nat.le_refl _, fun _ _ _ => rfl⟩
  · simp
  · simp
  · have n2 := b2.1
    have v1' := k2.at 1 rfl
    have v2' := k2.at 2 rfl
    have v3' := k2.at 3 rfl
    have v4' := k2.at 4 rfl
    have v11' := k2.at 11 rfl
    simp at v1' v2' v3' v4' v11'
    have o2 : ∀ z, z < A.n → A2.get z = A.get z := fun z hz => by rw [b2.2 z (by omega) (by omega), e1.2 z hz]
    simp (disch := as_aux_lemma => first | omega | simp only [hDs] <;> omega | simp [isCell]) [hRs, takeMarks, resA, resAll, resOne, Value.cells, kpc, v4']
    refine w138 (h4.keepB fun z hz => o2 z (h4.blk_lt hz)) hq hus (by omega) fun A3 X3 X1 e3 hc3 x1 x2 x3 => ?_
    have n3 := e3.1
    have hX3 := e3.get hX2
    have hX2n := Hp.lt_of_get hX2
    have hX1n : X1 < A3.n := by obtain ⟨_, _, _, _, z, _⟩ := hc3.list; exact Hp.lt_of_get z
    obtain ⟨pz, cz, kz, rfl⟩ := hacc.isSlice
    simp (disch := as_aux_lemma => first | omega | simp only [hDs] <;> omega | simp [isCell]) [hRs, takeMarks, resA, resAll, resOne, Value.cells, kpd, v11', hX3, storeB_cells, setRange, set_push_eq]
    obtain ⟨A5, hA5⟩ : ∃ A5, A5 = A3.push (.cells [.int .i64 8, .int .i64 1, .int .i64 10, .slice none 0 0] false) := ⟨_, rfl⟩
    have e5 : Ext' A3 A5 := by rw [hA5]; exact Ext'.push A3 _
    have n5 : A5.n = A3.n + 1 := by rw [hA5]; rfl
    have hX5 : A5.get A3.n = some (.cells [.int .i64 8, .int .i64 1, .int .i64 10, .slice none 0 0] false) := by rw [hA5, get_push_new]
    simp (disch := as_aux_lemma => first | omega | simp only [hDs] <;> omega | simp [isCell]) [hRs, takeMarks, resA, resAll, resOne, Value.cells, kpe, storeB_cells, setRange, set_push_eq, ← hA5]
    have rsv : RdS A2 2 8 (ints zs) (.slice pz cz kz) := hacc.rd (by rw [ints_length]; exact hG.1) (by decide)
    have rsv5 := (e3.trans e5).rdS rsv
    have bsv : ∀ z, blkOf (.slice pz cz kz) = some z → A1.n ≤ z ∧ z < A2.n := fun z hz => hacc.blk_ge hz
    have hc5 := hc3.ext e5
    have hchb : ∀ (A' : Hp) (k : Int), A3.n ≤ A'.n → (∀ z, z < A3.n → z ≠ X3 → A'.get z = A3.get z) → A'.get X3 = some (.cells [.int .i64 k] false) → 0 ≤ k → Ch A' X3 X1 k := fun A' k h1 h2 h3 h4 => hc3.but ⟨h1, h2⟩ h3 h4
    have hX5' := (e3.trans e5).get hX2
    have rl := rsv5.len
    simp (disch := as_aux_lemma => first | omega | simp only [hDs] <;> omega | simp [isCell]) [hRs, takeMarks, resA, resAll, resOne, Value.cells, kpf, v11', hX5', rl]
    refine loop232b (A0 := A5) (X15 := A3.n) (X3 := X3) (X1 := X1) rsv5 hG (by omega) (by omega) (by omega) (by omega) (by omega) (by omega) (by omega) (fun z hz => by have := bsv z hz; omega) (fun A' k h1 h2 h3 => hchb A' k (by have := h1.1; omega) (fun z hz hzX => by rw [h1.2 z (by omega) hzX (by omega), e5.2 z hz]) h2 h3) (T := _) ?_ ?_ ?_ ?_ (fun T6 A6 ys svy kk k6 hR hkk hX6 hacc6 hc6 b6 => ?_) 8 0 (ys := []) (sv := .slice none 0 0) rfl (fun _ _ => rfl) ?_ ⟨rfl, fun j hj => absurd hj (by omega)⟩ hX5 AccS.nil hc5 ⟨Nat.le_refl _, fun _ _ _ _ => rfl⟩
    · simp
    · simp
    · simp
    · simp [rl]
    · have n6 := b6.1
      obtain ⟨Y, rfl, hY⟩ := hacc6.someOf (n := 8) (i := 0) (by rw [ints_length]; exact hR.1) (by omega) (by decide)
      have hYr := hacc6.blk_ge (b := Y) rfl
      have w1 := k6.at 1 rfl
      have w2 := k6.at 2 rfl
      have w3 := k6.at 3 rfl
      have w11 := k6.at 11 rfl
      have w14 := k6.at 14 rfl
      have w15 := k6.at 15 rfl
      simp [v1', v2', v3', v11'] at w1 w2 w3 w11 w14 w15
      have u1 := wrId (n := up) (by omega) (by omega)
      obtain ⟨st, hst⟩ : ∃ st : Nat, up.tmod 6 = st := ⟨(up.tmod 6).toNat, by have := Int.tmod_nonneg (6 : Int) hup.1; omega⟩
      have hst5 : st ≤ 5 := by have := Int.tmod_lt_of_pos up (show (0 : Int) < 6 by omega); omega
      have o6 : ∀ z, z < A.n → A6.get z = A.get z := fun z hz => by rw [b6.2 z (by omega) (by omega) (by omega), (e3.trans e5).2 z (by omega), o2 z hz]
      have e06 : Ext' A A6 := ⟨by omega, o6⟩
      have hWl := (hW.mono e06).len
      simp (disch := as_aux_lemma => first | omega | simp only [hDs] <;> omega | simp [isCell]) [hRs, takeMarks, resA, resAll, resOne, Value.cells, kp8, kp9, kp10, kpj, w3, toIntA, u1, binA_rem (show (6 : Int) ≠ 0 by decide), hst, w1, hWl]
      refine loop232c (E0 := A) (A1 := A6) (X15 := A3.n) (Y := Y) (X3 := X3) (X1 := X1) (n := n1) (st := st) (zs := zs) hW (by omega) hst5 e06 (by omega) (by omega) (by omega) hYr.2 (by omega) (by omega) (by omega) hg hX6 (fun A' k h1 h2 h3 => hchb A' k (by have := h1.1; omega) (fun z hz hzX => by rw [h1.2 z (by omega) hzX (by omega), b6.2 z (by omega) hzX (by omega), e5.2 z hz]) h2 h3) (T := _) ?_ ?_ ?_ ?_ ?_ (fun T' A' t10 => ?_) (fun T7 A7 ss F ys' s19 s20 k7 x19 x20 hWn b7 hY7 r19 r20 => ?_) n1 0 (ss := []) (F := fun _ => ⟨0, [], 0, [], 0, 0⟩) (ys := ys) (cells := []) (s19 := .slice none 0 0) (s20 := .slice none 0 0) (kk := kk) (by omega) (fun _ _ => rfl) ?_ ?_ ?_ (WIn.start hG hR) ⟨Nat.le_refl _, fun _ _ _ _ => rfl⟩ hY hc6 (by omega) AccS.nil AccS.nil rfl (fun z hz => by cases hz) (fun j hj => absurd hj (by omega))
      · simp [w14]
      · simp [w15]
      · simp
      · simp [w1]
      · simp [w1, hWl]
      · simp (disch := as_aux_lemma => first | omega | simp only [hDs] <;> omega | simp [isCell]) [hRs, takeMarks, resA, resAll, resOne, Value.cells, t10]
        exact hV _
      · have n7 := b7.1
        have z11 := k7.at 11 rfl
        have z15 := k7.at 15 rfl
        have z2 := k7.at 2 rfl
        have z21 := k7.at 21 rfl
        simp [w11, w15, w2] at z11 z15 z2 z21
        have o7 : ∀ z, z < A3.n → z ≠ X3 → A7.get z = A3.get z := fun z hz hzX => by rw [b7.2 z (by omega) hzX (by omega), b6.2 z (by omega) hzX (by omega), e5.2 z hz]
        simp (disch := as_aux_lemma => first | omega | simp only [hDs] <;> omega | simp [isCell]) [hRs, takeMarks, resA, resAll, resOne, Value.cells]
        rw [← W_seq]
        refine kR232 (E0 := A) (X11 := A.n) (X15 := A3.n) (Y := Y) (svz := .slice pz cz kz) (zs := zs) (ss := ss) (ys := ys') (F := F) (s19 := s19) (s20 := s20) hG (by omega) hWn hlv (by omega) hst5 ((o7 A.n (by omega) (by omega)).trans hX3) ((e3.rdS rsv).keepB fun z hz => o7 z (by have := bsv z hz; omega) (by have := bsv z hz; omega)) ?_ hY7 r19 r20 z2 z11 z15 x19 x20 z21 fun T' A' t10 => ?_
        · rw [b7.2 A3.n (by omega) (by omega) (by omega)]; exact hX6
        · simp (disch := as_aux_lemma => first | omega | simp only [hDs] <;> omega | simp [isCell]) [hRs, takeMarks, resA, resAll, resOne, Value.cells, t10]
          exact hV _
      · simp
      · simp
      · simp
    · simp
  · simp
end
end Go.Ab.Dike
namespace Go.Ab.Dike
open Go Go.Ab
theorem sh_walls {rows : List (List Value)} {cs : List Value} (h : Sh rows (.slice tWall) cs) : ∃ (n : Nat) (sl : Value), cs = [sl] ∧ Walls (roHp rows) n sl := by
  rcases h with rfl | ⟨x, n, q, row, rfl, hn, hrow, hlen, _, f, rfl, hf⟩
  · exact ⟨0, _, rfl, [], ⟨rfl, .inl ⟨rfl, rfl⟩⟩, fun i hi => absurd hi (by omega)⟩
  · refine ⟨n, _, rfl, (List.range n).flatMap f, ⟨hlen, .inr ⟨x, q, true, rfl, by rw [roHp_get, hrow]; rfl⟩⟩, fun i hi => ?_⟩
    obtain ⟨m, hm, hw⟩ := sh_wall (hf i hi).1
    have hl : ∀ q, q < n → (f q).length = 10 := fun q hq => (hf q hq).2
    refine ⟨f i, m, ?_, hw⟩
    have : (f i).length = 10 := hl i hi
    have hp := partA_of (cs := (List.range n).flatMap f) (o := i * 10) (vs := f i) (fun j v hv => by
      have hj : j < 10 := by rw [← this]; exact (List.getElem?_eq_some_iff.1 hv).1
      rw [flat_get hl hi hj]; exact hv) (by omega)
    rwa [this] at hp
theorem Walls.more {rows rows' : List (List Value)} {n : Nat} {sl : Value} (h : Walls (roHp rows) n sl) (hm : More rows rows') : Walls (roHp rows') n sl := by
  obtain ⟨row, h1, h2⟩ := h
  refine ⟨row, h1.more hm, fun i hi => ?_⟩
  obtain ⟨cs, m, h3, h4⟩ := h2 i hi
  refine ⟨cs, m, h3, ?_⟩
  obtain ⟨cr, st, toe, m0, m1, m2, wear, lv, wd, tr, m, q, xs, ys, us, hcs, h1, h2, h3, h4, h5, h6, h7, hlv, hxs, hwd, hmm, hys, htr, hq, hus⟩ := h4.e
  exact ⟨cr, st, toe, m0, m1, m2, wear, lv, wd, tr, m, q, xs, ys, us, hcs, h1, h2, h3, h4, h5, h6, h7, hlv.more hm, hxs, hwd.more hm, hmm, hys, htr.more hm, hq, hus⟩
theorem i8_rng {l : List Int} (h : ∀ z ∈ l, IntKind.i8.min ≤ z ∧ z ≤ IntKind.i8.max) : ∀ j, -128 ≤ gi l j ∧ gi l j ≤ 127 := gi_rng (a := -128) (b := 127) (fun z hz => by
  have e1 : IntKind.i8.min = -128 := by decide
  have e2 : IntKind.i8.max = 127 := by decide
  have := h z hz
  rw [e1, e2] at this
  exact this) (by decide) (by decide)
theorem u8_rngs {l : List Int} (h : ∀ z ∈ l, IntKind.u8.min ≤ z ∧ z ≤ IntKind.u8.max) : ∀ j, 0 ≤ gi l j ∧ gi l j ≤ 255 := gi_rng (a := 0) (b := 255) (fun z hz => by
  have e1 : IntKind.u8.min = 0 := by decide
  have e2 : IntKind.u8.max = 255 := by decide
  have := h z hz
  rw [e1, e2] at this
  exact this) (by decide) (by decide)
theorem i16_one {n : Int} (h : IntKind.i16.min ≤ n ∧ n ≤ IntKind.i16.max) : -32768 ≤ n ∧ n ≤ 32767 := by
  have e1 : IntKind.i16.min = -32768 := by decide
  have e2 : IntKind.i16.max = 32767 := by decide
  rw [e1, e2] at h
  exact h
theorem u8_one {n : Int} (h : IntKind.u8.min ≤ n ∧ n ≤ IntKind.u8.max) : 0 ≤ n ∧ n ≤ 255 := by
  have e1 : IntKind.u8.min = 0 := by decide
  have e2 : IntKind.u8.max = 255 := by decide
  rw [e1, e2] at h
  exact h
end Go.Ab.Dike
