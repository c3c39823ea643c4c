/- WaveSpreads: the law's walk. -/
import Derived.Test.YtmmpjfknmdlpoaaZ19
import Derived.Test.YtmmpjfknmdlpoaaZ14
set_option linter.unusedSimpArgs false
set_option linter.unusedVariables false
set_option linter.unusedSectionVars false
namespace Go.Ab.Wave
open Go Go.Ab
def p54a : ACode := (.seq
 (.ops [
oM 45 0,
oM 46 1,
oA 47 71 [.t 45, .t 46] false])
 (.cond (.t 47)
 (.seq
 (.ops [
oM 48 0,
oM 49 1,
oA 50 76 [.t 48, .t 49] false,
oF 51 7 2,
oF 52 51 0,
oT 52 50 1])
 (.seq
 (.ops [
oM 53 0,
oP 54 (.nilCheck (.t 53)),
oF 55 54 4,
oF 56 55 0,
oL 57 56,
oM 58 0,
oM 59 1,
oA 60 76 [.t 58, .t 59] true,
oB 61 .add 57 60,
oF 62 7 4,
oF 63 62 0,
oT 63 61 1])
 (.ops [
oF 64 7 2,
oF 65 64 0,
oL 66 65,
oF 67 7 2,
oF 68 67 0,
oL 69 68,
oB 70 .mul 66 69,
oC 71 .mul 70 981,
oF 72 6 1,
oL 73 72,
oB 74 .quo 71 73,
oA 75 78 [.t 74] false,
oF 76 7 6,
oF 77 76 0,
oT 77 75 1])))
 .skip))
def p54b : ACode := (.seq
 (.ops [
oM 78 0,
oM 79 1,
oA 80 79 [.t 78, .t 79] false,
oM 81 80,
oN 82 81 true 0,
oQ 83 81 true (.nilCheck (.t 82)),
oQ 84 81 true (.fieldAddr (.t 83) 19),
oQ 85 81 true (.load (.t 84) none),
oN 86 81 true 1,
oQ 87 81 true (.idxS (.t 85) (.t 86) 1),
oQ 88 81 true (.load (.t 87) none),
oQ 89 81 true (.bin .neq (.t 88) (oK (-1099511627776))),
oP 90 (.pick (.t 81) (.t 89) (.k (.bool false)))])
 (.cond (.t 90)
 (.seq
 (.ops [
oM 91 0,
oP 92 (.nilCheck (.t 91)),
oF 93 92 19,
oL 94 93,
oM 95 1,
oI 96 94 95 1,
oL 97 96,
oF 98 5 1,
oL 99 98,
oB 100 .sub 97 99,
oF 101 7 2,
oF 102 101 0,
oT 102 100 1])
 (.seq
 (.ops [
oM 103 0,
oP 104 (.nilCheck (.t 103)),
oF 105 104 19,
oL 106 105,
oM 107 1,
oI 108 106 107 1,
oL 109 108,
oF 110 7 4,
oF 111 110 0,
oT 111 109 1])
 (.ops [
oF 112 7 2,
oF 113 112 0,
oL 114 113,
oP 115 (.bin .mul (oK 981) (.t 114)),
oA 116 78 [.t 115] false,
oF 117 7 6,
oF 118 117 0,
oT 118 116 1])))
 .skip))
def p54c : ACode := (.seq
 (.ops [
oM 119 0,
oM 120 1,
oA 121 69 [.t 119, .t 120] false])
 (.cond (.t 121)
 (.seq
 (.ops [
oM 122 0,
oM 123 1,
oA 124 75 [.t 122, .t 123] false,
oM 8 124])
 (.seq
 (.ops [
oM 125 8,
oF 126 7 2,
oF 127 126 1,
oT 127 125 1])
 (.seq
 (.ops [
oF 128 7 4,
oF 129 128 1,
oL 130 129,
oM 131 0,
oP 132 (.nilCheck (.t 131)),
oF 133 132 4,
oF 134 133 1,
oL 135 134,
oM 136 8,
oB 137 .add 135 136,
oP 138 (.max [.t 130, .t 137]),
oF 139 7 4,
oF 140 139 1,
oT 140 138 1])
 (.ops [
oM 141 8,
oM 142 8,
oB 143 .mul 141 142,
oC 144 .mul 143 981,
oF 145 6 0,
oL 146 145,
oP 147 (.max [.k (.int .i64 1), .t 146]),
oA 148 81 [.t 144, .t 147] false,
oA 149 80 [.t 148] false,
oF 150 7 6,
oF 151 150 1,
oT 151 149 1]))))
 .skip))
def p54d : ACode := (.seq
 (.ops [
oM 152 0,
oM 153 1,
oA 154 71 [.t 152, .t 153] false,
oP 155 (.not (.t 154))])
 (.cond (.t 155)
 (.ops [
oF 156 7 4,
oF 157 156 1,
oL 158 157,
oF 159 5 1,
oL 160 159,
oP 161 (.max [.t 158, .t 160]),
oF 162 7 4,
oF 163 162 1,
oT 163 161 1])
 .skip))
def p54e : ACode := (.seq
 (.ops [
oM 164 0,
oP 165 (.nilCheck (.t 164)),
oF 166 165 18,
oL 167 166,
oM 168 1,
oI 169 167 168 1,
oL 170 169,
oC 171 .neq 170 (-1099511627776)])
 (.cond (.t 171)
 (.seq
 (.ops [
oM 172 0,
oP 173 (.nilCheck (.t 172)),
oF 174 173 18,
oL 175 174,
oM 176 1,
oI 177 175 176 1,
oL 178 177,
oF 179 5 0,
oL 180 179,
oB 181 .sub 178 180,
oM 9 181])
 (.seq
 (.ops [
oF 182 7 2,
oF 183 182 1,
oL 184 183,
oM 185 9,
oP 186 (.max [.t 184, .t 185]),
oF 187 7 2,
oF 188 187 1,
oT 188 186 1])
 (.seq
 (.ops [
oF 189 7 4,
oF 190 189 1,
oL 191 190,
oM 192 0,
oP 193 (.nilCheck (.t 192)),
oF 194 193 18,
oL 195 194,
oM 196 1,
oI 197 195 196 1,
oL 198 197,
oP 199 (.max [.t 191, .t 198]),
oF 200 7 4,
oF 201 200 1,
oT 201 199 1])
 (.ops [
oF 202 7 6,
oF 203 202 1,
oL 204 203,
oM 205 9,
oP 206 (.bin .mul (oK 981) (.t 205)),
oA 207 80 [.t 206] true,
oP 208 (.max [.t 204, .t 207]),
oF 209 7 6,
oF 210 209 1,
oT 210 208 1]))))
 .skip))
def h54 : ACode := .seq (.ops [
oP 4 (.alloc [.int .i64 0, .int .i64 0, .int .i64 0, .int .i64 0, .int .i64 0, .int .i64 0, .int .i64 0, .int .i64 0])]) (.seq (.ops [
oM 10 0,
oP 11 (.nilCheck (.t 10)),
oF 12 11 0,
oF 13 12 3,
oL 14 13,
oM 15 1,
oI 16 14 15 2,
oD 17 16 2,
oM 18 0,
oP 19 (.nilCheck (.t 18)),
oF 20 19 12,
oL 21 20,
oM 22 1,
oI 23 21 22 2,
oD 24 23 2,
oP 5 (.alloc [.int .i64 0, .int .i64 0]),
oP 6 (.alloc [.int .i64 0, .int .i64 0]),
⟨none, none, [(.t 5, 2, .t 20, 1), (.t 5, 2, .t 23, 2)], .store (.t 5) (.t 17) 2⟩,
oT 6 24 2]) (.seq (.ops [
oM 25 0,
oP 26 (.nilCheck (.t 25)),
oF 27 26 20,
oL 28 27,
oM 29 1,
oI 30 28 29 1,
oL 31 30,
oM 32 0,
oP 33 (.nilCheck (.t 32)),
oF 34 33 21,
oL 35 34,
oM 36 1,
oI 37 35 36 1,
oL 38 37,
oP 39 (.build [.int .i64 0, .int .i64 0] [(0, 1, .t 31), (1, 1, .t 38)]),
oP 40 (.build [.int .i64 0, .int .i64 0, .int .i64 0, .int .i64 0, .int .i64 0, .int .i64 0, .int .i64 0, .int .i64 0] [(0, 2, .t 39)]),
oP 7 (.alloc [.int .i64 0, .int .i64 0, .int .i64 0, .int .i64 0, .int .i64 0, .int .i64 0, .int .i64 0, .int .i64 0]),
oT 7 40 8]) (.seq (.ops [
oF 41 5 0,
oL 42 41,
oP 43 (.build [.int .i64 0, .int .i64 0] [(0, 1, .t 42), (1, 1, .k (.int .i64 (-1200000)))]),
oF 44 7 4,
oT 44 43 2]) (.seq p54a (.seq p54b (.seq p54c (.seq p54d (.seq p54e (.seq
 (.ops [
oD 211 7 8,
oT 4 211 8])
 .ret)))))))))
theorem AP54 : AP 54 = some (.fn 212 [.cell 4 (some 8)] h54) := rfl
def E0 (P : Par) (zs : List Int) (n : Nat) : Spr := ⟨P, zs, n, 0, 0, 0, 0, 0, 0, 0, 0, 0, 0, 0, 0, 0⟩
structure S54 (P : Par) (X B4 B5 B6 B7 c : Nat) (A0 : Hp) (row : List Int) (T : List Value) (A : Hp) : Prop where
  k : Ext' A0 A
  b4 : A.get B4 = some (.cells [.int .i64 0, .int .i64 0, .int .i64 0, .int .i64 0, .int .i64 0, .int .i64 0, .int .i64 0, .int .i64 0] false)
  b5 : A.get B5 = some (.cells [.int .i64 (P.glo c), .int .i64 (P.ghi c)] false)
  b6 : A.get B6 = some (.cells [.int .i64 ((P.at false).dep c), .int .i64 ((P.at true).dep c)] false)
  b7 : A.get B7 = some (.cells (ints row) false)
  n4 : A0.n ≤ B4
  n7 : A0.n ≤ B7
  n47 : B4 < B7
  n5 : B5 < B7
  n6 : B6 < B7
  t0 : tget T 0 = ptrV X
  t1 : tget T 1 = .int .i64 c
  t4 : tget T 4 = ptrV B4
  t5 : tget T 5 = ptrV B5
  t6 : tget T 6 = ptrV B6
  t7 : tget T 7 = ptrV B7
section
variable {g : Nat} {A : Hp} {V : Value → Hp → Prop} {P : Par} {X rd : Nat} {r : Nat → Nat} {v : Nat → List Int} {B4 B5 B6 B7 c n : Nat} {zs : List Int} {A0 : Hp} {T : List Value} {D : List Nat} {rdd : Option Nat} {row : List Int}
theorem S54.put {T' : List Value} (h : S54 P X B4 B5 B6 B7 c A0 row T A) (row' : List Int) (hT : ∀ j, j < 8 → tget T' j = tget T j) : S54 P X B4 B5 B6 B7 c A0 row' T' (A.set B7 (some (.cells (ints row') false))) := by
  have hx := Hp.lt_of_get h.b7
  have a4 := h.n47
  have a5 := h.n5
  have a6 := h.n6
  have a7 := h.n7
  refine ⟨⟨h.k.1, fun y hy => ?_⟩, ?_, ?_, ?_, get_set_same h.b7, h.n4, h.n7, h.n47, h.n5, h.n6, (hT 0 (by omega)).trans h.t0, (hT 1 (by omega)).trans h.t1, (hT 4 (by omega)).trans h.t4, (hT 5 (by omega)).trans h.t5, (hT 6 (by omega)).trans h.t6, (hT 7 (by omega)).trans h.t7⟩
  · rw [get_set_ne hx (by omega)]; exact h.k.2 y hy
  · rw [get_set_ne hx (by omega)]; exact h.b4
  · rw [get_set_ne hx (by omega)]; exact h.b5
  · rw [get_set_ne hx (by omega)]; exact h.b6
theorem S54.same {T' : List Value} (h : S54 P X B4 B5 B6 B7 c A0 row T A) (hT : ∀ j, j < 8 → tget T' j = tget T j) : S54 P X B4 B5 B6 B7 c A0 row T' A :=
  ⟨h.k, h.b4, h.b5, h.b6, h.b7, h.n4, h.n7, h.n47, h.n5, h.n6, (hT 0 (by omega)).trans h.t0, (hT 1 (by omega)).trans h.t1, (hT 4 (by omega)).trans h.t4, (hT 5 (by omega)).trans h.t5, (hT 6 (by omega)).trans h.t6, (hT 7 (by omega)).trans h.t7⟩
theorem surf_land {ar st : List Int} (hP : POk P) (hO : SailOk P ar st) {b : Nat} {w : Int} (h : (PU P).Der (srfK P ar st P.l.length) b w) (hv : w ≠ -Never) (hd : ¬ 1 ≤ P.dep b) : P.lst b ≤ 0 := by
  cases h with
  | init hb =>
    have hb' : b < P.l.length := hb
    rw [srfK_get hb'] at hv
    split at hv
    · rename_i hc; exact absurd ((hO.ar b hb').2 hc.2).2 hd
    · exact absurd rfl hv
  | @step a _ w ha _ hb hs => exact (spU_true (P := P) (a := a) (b := b) (v := w) hs).2.1
structure R54 (P : Par) (zs : List Int) (n c : Nat) : Prop where
  ok : SprOk P zs n
  fin : SprFin P zs n
  hc : c < P.l.length
variable {a0 a1 a2 a3 a4 a5 a6 a7 : Int}
theorem r54a (hE : R54 P zs n c) (hW : Work A0 P X rd r v) (hd : Done P zs n v) (hg : g ≤ A0.n) (h : S54 P X B4 B5 B6 B7 c A0 (row8 [] a0 a1 0 a3 (P.glo c) a5 0 a7 []) T A) :
    W AP KL g rdd p54a ⟨T, D, A⟩ (fun ex st => ex = .normal ∧ st.D = D ∧ S54 P X B4 B5 B6 B7 c A0 (row8 [] a0 a1 (if 1 ≤ (P.at false).dep c then (E0 P zs n).riL c else 0) a3 (if 1 ≤ (P.at false).dep c then P.slo + (E0 P zs n).riL c else P.glo c) a5 (if 1 ≤ (P.at false).dep c then rootI (((E0 P zs n).riL c * (E0 P zs n).riL c * 981).tdiv ((P.at false).lst c)) else 0) a7 []) st.T st.A) := by
  have hcl : c < (P.at false).l.length := hE.hc
  have hl := hE.ok.pl
  have hWA := hW.ext h.k
  have hX := hWA.hx
  have t0 := h.t0
  have t1 := h.t1
  have t7 := h.t7
  have t6 := h.t6
  have hn7 := h.n7
  have pl0 : ([] : List Int).length = 0 := rfl
  simp (disch := as_aux_lemma => first | omega | simp only [hDs] <;> omega | simp [isCell]) [hRs, takeMarks, resA, resAll, resOne, Value.cells, p54a, t0, t1]
  refine w71 hWA hE.hc ?_
  by_cases hd1 : 1 ≤ (P.at false).dep c
  · have hO := sailOk hl hE.ok.zl hE.fin.fl.arr hE.fin.fl.str
    have hun := hl.under hcl hd1
    have hun' : 1 ≤ (P.at false).lst c := hun
    have hri := hl.rise' hcl hun (hO.st c hcl)
    have hst : 0 ≤ gi (v 2) c ∧ gi (v 2) c ≤ 200000000 := by rw [hd.d2]; exact hO.st c hcl
    have e2 : (P.at false).rise (v 2) c = (E0 P zs n).riL c := by rw [hd.d2]; rfl
    obtain ⟨q, hq⟩ : ∃ q, q = (E0 P zs n).riL c := ⟨_, rfl⟩
    have hri : 0 ≤ q ∧ q ≤ 196000 := by rw [hq]; exact hri
    have m1 : 0 ≤ q * q ∧ q * q ≤ 196000 * 196000 := ⟨Int.mul_nonneg hri.1 hri.1, Int.mul_le_mul hri.2 hri.2 hri.1 (by omega)⟩
    have hsl : -20000 ≤ P.slo ∧ P.slo ≤ P.shi ∧ P.shi ≤ 20000 := hl.sea
    have el : (P.at true).dep c = (P.at false).lst c := rfl
    have z : 0 ≤ (q * q * 981).tdiv ((P.at false).lst c) ∧ (q * q * 981).tdiv ((P.at false).lst c) ≤ q * q * 981 := by
      rw [Int.tdiv_eq_ediv_of_nonneg (by omega)]
      exact ⟨Int.ediv_nonneg (by omega) (by omega), Int.ediv_le_self _ (by omega)⟩
    have b6 := h.b6
    rw [el] at b6
    have b7 := h.b7
    simp (disch := as_aux_lemma => first | omega | simp only [hDs] <;> omega | simp [isCell]) [hRs, takeMarks, resA, resAll, resOne, Value.cells, hd1, t0, t1]
    refine w76 hWA hl hE.hc hun' hst ?_
    rw [e2, ← hq]
    have h1 := h.put (T' := T) (row8 [] a0 a1 q a3 (P.glo c) a5 0 a7 []) (fun _ _ => rfl)
    have sm : ∀ y, (A.set B7 y).get B7 = y := fun y => get_set_same b7
    have s6 : ∀ y, (A.set B7 y).get B6 = A.get B6 := fun y => get_set_ne (Hp.lt_of_get b7) (by have := h.n6; omega)
    have sX : ∀ y, (A.set B7 y).get X = A.get X := fun y => get_set_ne (Hp.lt_of_get b7) (by have := Hp.lt_of_get hW.hx; omega)
    simp (disch := as_aux_lemma => first | omega | simp only [hDs] <;> omega | simp [isCell]) [hRs, takeMarks, resA, resAll, resOne, Value.cells, t7, t0, t1, ptrV, b7, rowPut2, sX, hX, wkCells]
    refine w76 (hW.ext h1.k) hl hE.hc hun' hst ?_
    rw [e2, ← hq]
    simp (disch := as_aux_lemma => first | omega | simp only [hDs] <;> omega | simp [isCell]) [hRs, takeMarks, resA, resAll, resOne, Value.cells, t7, t6, ptrV, sm, set_set, rowPut4, rowGet2, wrId (n := P.slo + q) (by omega) (by omega), wrId (n := q * q) (by omega) (by omega), wrId (n := q * q * 981) (by omega) (by omega), s6, b6, binA_quo (show (P.at false).lst c ≠ 0 by omega), wrId (n := (q * q * 981).tdiv ((P.at false).lst c)) (by omega) (by omega)]
    refine w78 z.1 (by omega) ?_
    simp (disch := as_aux_lemma => first | omega | simp only [hDs] <;> omega | simp [isCell]) [hRs, takeMarks, resA, resAll, resOne, Value.cells, t7, ptrV, sm, set_set, rowPut6]
    refine h.put _ fun j hj => ?_
    simp only [tget_tset]
    repeat (rw [if_neg (by omega)])
  · simp (disch := as_aux_lemma => first | omega | simp only [hDs] <;> omega | simp [isCell]) [hRs, takeMarks, resA, resAll, resOne, Value.cells, hd1]
    refine h.same fun j hj => ?_
    simp only [tget_tset]
    repeat (rw [if_neg (by omega)])
theorem r54b (hE : R54 P zs n c) (hW : Work A0 P X rd r v) (hd : Done P zs n v) (hg : g ≤ A0.n) (h : S54 P X B4 B5 B6 B7 c A0 (row8 [] a0 a1 (if 1 ≤ (P.at false).dep c then (E0 P zs n).riL c else 0) a3 (if 1 ≤ (P.at false).dep c then P.slo + (E0 P zs n).riL c else P.glo c) a5 (if 1 ≤ (P.at false).dep c then rootI (((E0 P zs n).riL c * (E0 P zs n).riL c * 981).tdiv ((P.at false).lst c)) else 0) a7 []) T A) :
    W AP KL g rdd p54b ⟨T, D, A⟩ (fun ex st => ex = .normal ∧ st.D = D ∧ S54 P X B4 B5 B6 B7 c A0 (row8 [] a0 a1 ((E0 P zs n).r2 c) a3 ((E0 P zs n).r4 c) a5 ((E0 P zs n).r6 c) a7 []) st.T st.A) := by
  have hcl : c < (P.at false).l.length := hE.hc
  have hc : c < P.l.length := hE.hc
  have hl := hE.ok.pl
  have hWA := hW.ext h.k
  have hX := hWA.hx
  have t0 := h.t0
  have t1 := h.t1
  have t5 := h.t5
  have t7 := h.t7
  have hn7 := h.n7
  have pl0 : ([] : List Int).length = 0 := rfl
  have hO := sailOk hl hE.ok.zl hE.fin.fl.arr hE.fin.fl.str
  have hder := hE.fin.fl.srf.mid.der c hcl
  have hsv : SurfV (gi (fSu (P.at false) zs n) c) := surf_der hl hO hder
  have es : gi (v 6) c = (E0 P zs n).suL c := by rw [hd.d6]; rfl
  have a6 := hWA.hv 6 (by omega)
  have n6 : c < (v 6).length := by rw [hWA.nv 6 (by omega)]; exact hE.hc
  have el : (P.at false).lst c = (P.at true).dep c := rfl
  have hg0 := hl.ground hcl
  have hgr : -1200000 ≤ P.glo c ∧ P.glo c ≤ P.ghi c ∧ P.ghi c ≤ 1200000 := hg0
  simp (disch := as_aux_lemma => first | omega | simp only [hDs] <;> omega | simp [isCell]) [hRs, takeMarks, resA, resAll, resOne, Value.cells, p54b, t0, t1]
  refine w79 hWA hE.hc ?_
  by_cases hd1 : 1 ≤ (P.at false).dep c
  · have hun : 1 ≤ (P.at false).lst c := hl.under hcl hd1
    have hno : ¬ (P.at true).dep c ≤ 0 := by rw [← el]; omega
    simp (disch := as_aux_lemma => first | omega | simp only [hDs] <;> omega | simp [isCell]) [hRs, takeMarks, resA, resAll, resOne, Value.cells, hno]
    rw [if_pos hd1, if_pos hd1, if_pos hd1] at h
    have q2 : (E0 P zs n).r2 c = (E0 P zs n).riL c := by unfold Spr.r2; exact if_pos hd1
    have q4 : (E0 P zs n).r4 c = P.slo + (E0 P zs n).riL c := by unfold Spr.r4; exact if_pos hd1
    have q6 : (E0 P zs n).r6 c = rootI (((E0 P zs n).riL c * (E0 P zs n).riL c * 981).tdiv ((P.at false).lst c)) := by unfold Spr.r6; exact if_pos hd1
    rw [q2, q4, q6]
    refine h.same fun j hj => ?_
    simp only [tget_tset]
    repeat (rw [if_neg (by omega)])
  · by_cases hs : (E0 P zs n).suL c = -1099511627776
    · rw [if_neg hd1, if_neg hd1, if_neg hd1] at h
      have q2 : (E0 P zs n).r2 c = 0 := by unfold Spr.r2; rw [if_neg (show ¬ 1 ≤ ((E0 P zs n).P.at false).dep c from hd1), if_neg (fun hn => hn hs)]
      have q4 : (E0 P zs n).r4 c = P.glo c := by unfold Spr.r4; rw [if_neg (show ¬ 1 ≤ ((E0 P zs n).P.at false).dep c from hd1), if_neg (fun hn => hn hs)]; rfl
      have q6 : (E0 P zs n).r6 c = 0 := by unfold Spr.r6; rw [if_neg (show ¬ 1 ≤ ((E0 P zs n).P.at false).dep c from hd1), if_neg (fun hn => hn hs)]
      rw [q2, q4, q6]
      have hs' : gi (v 6) c = -1099511627776 := by rw [es]; exact hs
      by_cases hland : (P.at true).dep c ≤ 0
      · simp (disch := as_aux_lemma => first | omega | simp only [hDs] <;> omega | simp [isCell]) [hRs, takeMarks, resA, resAll, resOne, Value.cells, hland, t0, t1, ptrV, hX, wkCells, rowS1, idxSA_ok, show (c : Int) < P.l.length by omega, a6, ints_get n6, hs']
        refine h.same fun j hj => ?_
        simp only [tget_tset]
        repeat (rw [if_neg (by omega)])
      · simp (disch := as_aux_lemma => first | omega | simp only [hDs] <;> omega | simp [isCell]) [hRs, takeMarks, resA, resAll, resOne, Value.cells, hland]
        refine h.same fun j hj => ?_
        simp only [tget_tset]
        repeat (rw [if_neg (by omega)])
    · have hs1 : gi (fSu (P.at false) zs n) c ≠ -Never := hs
      have hland : (P.at true).dep c ≤ 0 := by rw [← el]; exact surf_land hl hO hder hs1 hd1
      have hab : agE (P.at false).up ((P.at false).glo c) ((P.at false).ghi c) < gi (fSu (P.at false) zs n) c := surf_above hl hO hder hs1 hd1
      obtain ⟨u, hu0⟩ : ∃ u, u = (E0 P zs n).suL c := ⟨_, rfl⟩
      have hab : P.ghi c < u := by rw [hu0]; exact hab
      have hsv : SurfV u := by rw [hu0]; exact hsv
      rw [← hu0] at hs es
      rcases hsv with hsv | hsv
      · exact absurd hsv hs
      rw [if_neg hd1, if_neg hd1, if_neg hd1] at h
      have hs' : u ≠ -Never := hs
      have q2 : (E0 P zs n).r2 c = u - P.ghi c := by unfold Spr.r2; rw [if_neg (show ¬ 1 ≤ ((E0 P zs n).P.at false).dep c from hd1), ← hu0, if_pos hs']; rfl
      have q4 : (E0 P zs n).r4 c = u := by unfold Spr.r4; rw [if_neg (show ¬ 1 ≤ ((E0 P zs n).P.at false).dep c from hd1), ← hu0, if_pos hs']
      have q6 : (E0 P zs n).r6 c = rootI (981 * (u - P.ghi c)) := by unfold Spr.r6; rw [if_neg (show ¬ 1 ≤ ((E0 P zs n).P.at false).dep c from hd1), ← hu0, if_pos hs']; rfl
      rw [q2, q4, q6]
      have b5 := h.b5
      have b7 := h.b7
      have sm : ∀ y, (A.set B7 y).get B7 = y := fun y => get_set_same b7
      have s5 : ∀ y, (A.set B7 y).get B5 = A.get B5 := fun y => get_set_ne (Hp.lt_of_get b7) (by have := h.n5; omega)
      have sX : ∀ y, (A.set B7 y).get X = A.get X := fun y => get_set_ne (Hp.lt_of_get b7) (by have := Hp.lt_of_get hW.hx; omega)
      have s6 : ∀ y, (A.set B7 y).get (r 6) = A.get (r 6) := fun y => get_set_ne (Hp.lt_of_get b7) (by have := Hp.lt_of_get (hW.hv 6 (by omega)); omega)
      have hs2 : ¬ u = -1099511627776 := hs
      simp (disch := as_aux_lemma => first | omega | simp only [hDs] <;> omega | simp [isCell]) [hRs, takeMarks, resA, resAll, resOne, Value.cells, hland, t0, t1, t5, t7, ptrV, hX, wkCells, rowS1, idxSA_ok, show (c : Int) < P.l.length by omega, a6, ints_get n6, es, hs2, b5, b7, sm, s5, sX, s6, set_set, wrId (n := u - P.ghi c) (by omega) (by omega), rowPut2, rowPut4, rowGet2, wrId (n := 981 * (u - P.ghi c)) (by omega) (by omega)]
      refine w78 (by omega) (by omega) ?_
      simp (disch := as_aux_lemma => first | omega | simp only [hDs] <;> omega | simp [isCell]) [hRs, takeMarks, resA, resAll, resOne, Value.cells, t7, ptrV, sm, set_set, rowPut6]
      refine h.put _ fun j hj => ?_
      simp only [tget_tset]
      repeat (rw [if_neg (by omega)])
theorem r54c (hE : R54 P zs n c) (hW : Work A0 P X rd r v) (hd : Done P zs n v) (hg : g ≤ A0.n) (h : S54 P X B4 B5 B6 B7 c A0 (row8 [] a0 a1 a2 0 a4 (-1200000) a6 0 []) T A) :
    W AP KL g rdd p54c ⟨T, D, A⟩ (fun ex st => ex = .normal ∧ st.D = D ∧ S54 P X B4 B5 B6 B7 c A0 (row8 [] a0 a1 a2 ((E0 P zs n).h3 c) a4 (if 1 ≤ (P.at true).dep c then max (-1200000) (P.shi + (E0 P zs n).riH c) else -1200000) a6 ((E0 P zs n).h7 c) []) st.T st.A) := by
  have hcl : c < (P.at true).l.length := hE.hc
  have hc : c < P.l.length := hE.hc
  have hu := hE.ok.ph
  have hWA := hW.ext h.k
  have hX := hWA.hx
  have t0 := h.t0
  have t1 := h.t1
  have t6 := h.t6
  have t7 := h.t7
  have hn7 := h.n7
  have pl0 : ([] : List Int).length = 0 := rfl
  unfold Spr.h3 Spr.h7
  have eP : (E0 P zs n).P = P := rfl
  rw [eP]
  simp (disch := as_aux_lemma => first | omega | simp only [hDs] <;> omega | simp [isCell]) [hRs, takeMarks, resA, resAll, resOne, Value.cells, p54c, t0, t1]
  refine w69 hWA hE.hc ?_
  by_cases hd1 : 1 ≤ (P.at true).dep c
  · have hO := sailOk hu hE.ok.zh hE.fin.fh.arr hE.fin.fh.str
    have hun := hu.under hcl hd1
    have hri := hu.rise' hcl hun (hO.st c hcl)
    have hst : 0 ≤ gi (v 3) c ∧ gi (v 3) c ≤ 200000000 := by rw [hd.d3]; exact hO.st c hcl
    have e2 : (P.at true).rise (v 3) c = (E0 P zs n).riH c := by rw [hd.d3]; rfl
    obtain ⟨q, hq⟩ : ∃ q, q = (E0 P zs n).riH c := ⟨_, rfl⟩
    have hri : 0 ≤ q ∧ q ≤ 196000 := by rw [hq]; exact hri
    have m1 : 0 ≤ q * q ∧ q * q ≤ 196000 * 196000 := ⟨Int.mul_nonneg hri.1 hri.1, Int.mul_le_mul hri.2 hri.2 hri.1 (by omega)⟩
    have hsl : -20000 ≤ P.slo ∧ P.slo ≤ P.shi ∧ P.shi ≤ 20000 := hu.sea
    have el : (P.at false).dep c = (P.at true).lst c := rfl
    have hl2 := hu.lst hcl
    obtain ⟨m, hm⟩ : ∃ m, m = max 1 ((P.at true).lst c) := ⟨_, rfl⟩
    have hmb : 1 ≤ m ∧ m ≤ 1220000 := by omega
    have z : 0 ≤ upI (q * q * 981) m ∧ upI (q * q * 981) m ≤ q * q * 981 := by
      unfold upI
      rw [Int.tdiv_eq_ediv_of_nonneg (by omega)]
      refine ⟨Int.ediv_nonneg (by omega) (by omega), ?_⟩
      have hk : q * q * 981 + m - 1 ≤ q * q * 981 * m + (m - 1) := by
        have := Int.mul_le_mul_of_nonneg_left (show (1 : Int) ≤ m by omega) (show 0 ≤ q * q * 981 by omega)
        omega
      have h2 := Int.ediv_le_ediv (show 0 < m by omega) hk
      rw [Int.add_comm (q * q * 981 * m), Int.add_mul_ediv_right _ _ (by omega), Int.ediv_eq_zero_of_lt (show 0 ≤ m - 1 by omega) (show m - 1 < m by omega)] at h2
      omega
    have b6 := h.b6
    rw [el] at b6
    have b7 := h.b7
    simp (disch := as_aux_lemma => first | omega | simp only [hDs] <;> omega | simp [isCell]) [hRs, takeMarks, resA, resAll, resOne, Value.cells, hd1, t0, t1]
    refine w75 hWA hu hE.hc hst ?_
    rw [e2, ← hq]
    have sm : ∀ y, (A.set B7 y).get B7 = y := fun y => get_set_same b7
    have s6 : ∀ y, (A.set B7 y).get B6 = A.get B6 := fun y => get_set_ne (Hp.lt_of_get b7) (by have := h.n6; omega)
    have sX : ∀ y, (A.set B7 y).get X = A.get X := fun y => get_set_ne (Hp.lt_of_get b7) (by have := Hp.lt_of_get hW.hx; omega)
    simp (disch := as_aux_lemma => first | omega | simp only [hDs] <;> omega | simp [isCell]) [hRs, takeMarks, resA, resAll, resOne, Value.cells, t7, t6, t0, ptrV, b7, rowPut3, sm, set_set, rowGet5, sX, hX, wkCells, wrId (n := P.shi + q) (by omega) (by omega), rowPut5, wrId (n := q * q) (by omega) (by omega), wrId (n := q * q * 981) (by omega) (by omega), s6, b6]
    rw [← hm]
    refine w81 (by omega) (by omega) (by omega) (by omega) ?_
    simp (disch := as_aux_lemma => first | omega | simp only [hDs] <;> omega | simp [isCell]) [hRs, takeMarks, resA, resAll, resOne, Value.cells]
    refine w80 z.1 (by omega) ?_
    simp (disch := as_aux_lemma => first | omega | simp only [hDs] <;> omega | simp [isCell]) [hRs, takeMarks, resA, resAll, resOne, Value.cells, t7, ptrV, sm, set_set, rowPut7]
    refine h.put _ fun j hj => ?_
    simp only [tget_tset]
    repeat (rw [if_neg (by omega)])
  · simp (disch := as_aux_lemma => first | omega | simp only [hDs] <;> omega | simp [isCell]) [hRs, takeMarks, resA, resAll, resOne, Value.cells, hd1]
    refine h.same fun j hj => ?_
    simp only [tget_tset]
    repeat (rw [if_neg (by omega)])
theorem r54d (hE : R54 P zs n c) (hW : Work A0 P X rd r v) (hg : g ≤ A0.n) (h : S54 P X B4 B5 B6 B7 c A0 (row8 [] a0 a1 a2 a3 a4 (if 1 ≤ (P.at true).dep c then max (-1200000) (P.shi + (E0 P zs n).riH c) else -1200000) a6 a7 []) T A) :
    W AP KL g rdd p54d ⟨T, D, A⟩ (fun ex st => ex = .normal ∧ st.D = D ∧ S54 P X B4 B5 B6 B7 c A0 (row8 [] a0 a1 a2 a3 a4 ((E0 P zs n).h5 c) a6 a7 []) st.T st.A) := by
  have hcl : c < (P.at true).l.length := hE.hc
  have hl := hE.ok.pl
  have hWA := hW.ext h.k
  have t0 := h.t0
  have t1 := h.t1
  have t5 := h.t5
  have t7 := h.t7
  have hn7 := h.n7
  have b5 := h.b5
  have b7 := h.b7
  have pl0 : ([] : List Int).length = 0 := rfl
  have hgr : -1200000 ≤ P.glo c ∧ P.glo c ≤ P.ghi c ∧ P.ghi c ≤ 1200000 := hl.ground (show c < (P.at false).l.length from hE.hc)
  have sm : ∀ y, (A.set B7 y).get B7 = y := fun y => get_set_same b7
  unfold Spr.h5 Spr.r5
  have eP : (E0 P zs n).P = P := rfl
  rw [eP]
  obtain ⟨x, hx⟩ : ∃ x, x = P.shi + (E0 P zs n).riH c := ⟨_, rfl⟩
  rw [← hx] at h b7 ⊢
  obtain ⟨y5, hy5⟩ : ∃ y5, y5 = if 1 ≤ (P.at true).dep c then max (-1200000) x else -1200000 := ⟨_, rfl⟩
  rw [← hy5] at h b7
  simp (disch := as_aux_lemma => first | omega | simp only [hDs] <;> omega | simp [isCell]) [hRs, takeMarks, resA, resAll, resOne, Value.cells, p54d, t0, t1]
  refine w71 hWA hE.hc ?_
  by_cases hd1 : 1 ≤ (P.at false).dep c
  · simp (disch := as_aux_lemma => first | omega | simp only [hDs] <;> omega | simp [isCell]) [hRs, takeMarks, resA, resAll, resOne, Value.cells, hd1]
    rw [← hy5]
    refine h.same fun j hj => ?_
    simp only [tget_tset]
    repeat (rw [if_neg (by omega)])
  · simp (disch := as_aux_lemma => first | omega | simp only [hDs] <;> omega | simp [isCell]) [hRs, takeMarks, resA, resAll, resOne, Value.cells, hd1, t5, t7, ptrV, b5, b7, rowGet5, rowPut5]
    have e : (if 1 ≤ (P.at true).dep c then max (P.ghi c) x else P.ghi c) = max y5 (P.ghi c) := by rw [hy5]; split <;> omega
    rw [e]
    refine h.put _ fun j hj => ?_
    simp only [tget_tset]
    repeat (rw [if_neg (by omega)])
theorem r54e (hE : R54 P zs n c) (hW : Work A0 P X rd r v) (hd : Done P zs n v) (hg : g ≤ A0.n) (h : S54 P X B4 B5 B6 B7 c A0 (row8 [] a0 a1 a2 ((E0 P zs n).h3 c) a4 ((E0 P zs n).h5 c) a6 ((E0 P zs n).h7 c) []) T A) :
    W AP KL g rdd p54e ⟨T, D, A⟩ (fun ex st => ex = .normal ∧ st.D = D ∧ S54 P X B4 B5 B6 B7 c A0 (row8 [] a0 a1 a2 ((E0 P zs n).l3 c) a4 ((E0 P zs n).l5 c) a6 ((E0 P zs n).l7 c) []) st.T st.A) := by
  have hcl : c < (P.at true).l.length := hE.hc
  have hc : c < P.l.length := hE.hc
  have hu := hE.ok.ph
  have hWA := hW.ext h.k
  have hX := hWA.hx
  have t0 := h.t0
  have t1 := h.t1
  have t5 := h.t5
  have t7 := h.t7
  have hn7 := h.n7
  have pl0 : ([] : List Int).length = 0 := rfl
  have hO := sailOk hu hE.ok.zh hE.fin.fh.arr hE.fin.fh.str
  have hgr : -1200000 ≤ P.glo c ∧ P.glo c ≤ P.ghi c ∧ P.ghi c ≤ 1200000 := hu.ground hcl
  have es : gi (v 5) c = (E0 P zs n).laH c := by rw [hd.d5]; rfl
  have a5v := hWA.hv 5 (by omega)
  have n5 : c < (v 5).length := by rw [hWA.nv 5 (by omega)]; exact hE.hc
  unfold Spr.l3 Spr.l5 Spr.l7
  have eP : (E0 P zs n).P = P := rfl
  rw [eP]
  by_cases hs : (E0 P zs n).laH c = -1099511627776
  · rw [if_neg (fun hn => hn hs), if_neg (fun hn => hn hs), if_neg (fun hn => hn hs)]
    have hs' : gi (v 5) c = -1099511627776 := by rw [es]; exact hs
    simp (disch := as_aux_lemma => first | omega | simp only [hDs] <;> omega | simp [isCell]) [hRs, takeMarks, resA, resAll, resOne, Value.cells, p54e, t0, t1, ptrV, hX, wkCells, rowS1, idxSA_ok, show (c : Int) < P.l.length by omega, a5v, ints_get n5, hs']
    refine h.same fun j hj => ?_
    simp only [tget_tset]
    repeat (rw [if_neg (by omega)])
  · obtain ⟨hab, hs1, hs2⟩ := land_above hu hO hE.fin.fh.srf hcl hs
    obtain ⟨u, hu0⟩ : ∃ u, u = (E0 P zs n).laH c := ⟨_, rfl⟩
    have hab : P.glo c < u := by rw [hu0]; exact hab
    have hs1 : -1200000 ≤ u := by rw [hu0]; exact hs1
    have hs2 : u ≤ 200020000 := by rw [hu0]; exact hs2
    rw [← hu0] at hs es ⊢
    have hs' : u ≠ -Never := hs
    rw [if_pos hs', if_pos hs', if_pos hs']
    have b5 := h.b5
    have b7 := h.b7
    have sm : ∀ y, (A.set B7 y).get B7 = y := fun y => get_set_same b7
    have s5 : ∀ y, (A.set B7 y).get B5 = A.get B5 := fun y => get_set_ne (Hp.lt_of_get b7) (by have := h.n5; omega)
    have sX : ∀ y, (A.set B7 y).get X = A.get X := fun y => get_set_ne (Hp.lt_of_get b7) (by have := Hp.lt_of_get hW.hx; omega)
    have s6 : ∀ y, (A.set B7 y).get (r 5) = A.get (r 5) := fun y => get_set_ne (Hp.lt_of_get b7) (by have := Hp.lt_of_get (hW.hv 5 (by omega)); omega)
    have hs3 : ¬ u = -1099511627776 := hs
    simp (disch := as_aux_lemma => first | omega | simp only [hDs] <;> omega | simp [isCell]) [hRs, takeMarks, resA, resAll, resOne, Value.cells, p54e, t0, t1, t5, t7, ptrV, hX, wkCells, rowS1, idxSA_ok, show (c : Int) < P.l.length by omega, a5v, ints_get n5, es, hs3, b5, b7, sm, s5, sX, s6, set_set, wrId (n := u - P.glo c) (by omega) (by omega), rowGet3, rowPut3, rowGet5, rowPut5, rowGet7, wrId (n := 981 * (u - P.glo c)) (by omega) (by omega)]
    refine w80 (by omega) (by omega) ?_
    simp (disch := as_aux_lemma => first | omega | simp only [hDs] <;> omega | simp [isCell]) [hRs, takeMarks, resA, resAll, resOne, Value.cells, t7, ptrV, sm, set_set, rowPut7]
    refine h.put _ fun j hj => ?_
    simp only [tget_tset]
    repeat (rw [if_neg (by omega)])
end
end Go.Ab.Wave
namespace Go.Ab.Wave
open Go Go.Ab
section
variable {g : Nat} {A : Hp} {V : Value → Hp → Prop} {P : Par} {X rd : Nat} {r : Nat → Nat} {v : Nat → List Int} {c n : Nat} {zs : List Int}
theorem w54 (hE : R54 P zs n c) (hW : Work A P X rd r v) (hd : Done P zs n v) (hg : g ≤ A.n)
    (hQ : ∀ A', Ext' A A' → V (.agg ⟨ints ((E0 P zs n).row c)⟩) A') : WF AP KL g 54 [ptrV X, .int .i64 c] A V := by
  have hX := hW.hx
  have hXn := Hp.lt_of_get hX
  have hc : c < P.l.length := hE.hc
  obtain ⟨y, cap, ro, hsl, hy⟩ := ground_two (P := P) hW.hg hE.hc
  have hyn := Hp.lt_of_get hy
  have hgl : (flat2 P.l).length = P.l.length * 2 := flat2_length _
  have eg0 : gi (flat2 P.l) (c * 2) = P.glo c := rfl
  have eg1 : gi (flat2 P.l) (c * 2 + 1) = P.ghi c := rfl
  obtain ⟨hl, e0, e1⟩ := Work.dep hE.hc
  have hdd := hW.hd
  have hdn := Hp.lt_of_get hdd
  have a7 := hW.hv 7 (by omega)
  have a8 := hW.hv 8 (by omega)
  have n7 : c < (v 7).length := by rw [hW.nv 7 (by omega)]; exact hc
  have n8 : c < (v 8).length := by rw [hW.nv 8 (by omega)]; exact hc
  have l7 := Hp.lt_of_get a7
  have l8 := Hp.lt_of_get a8
  rw [WF_body rfl AP54]
  simp (disch := as_aux_lemma => first | omega | simp only [hDs] <;> omega | simp [isCell]) [hRs, takeMarks, resA, resAll, resOne, Value.cells, h54, ptrV, hX, wkCells, rowS1, rowS2, idxSA_ok, show (c : Int) < P.l.length by omega, hsl, hy, hdd, ints_two, eg0, eg1, e0, e1, apartA, storeB_cells, setRange_all, set_push_eq, a7, a8, ints_get n7, ints_get n8, fillA, setRange, show ¬ A.n + 1 = X by omega, show ¬ A.n + 1 = rd by omega]
  obtain ⟨B3, hB3⟩ : ∃ B3, B3 = ((A.push (.cells [.int .i64 0, .int .i64 0, .int .i64 0, .int .i64 0, .int .i64 0, .int .i64 0, .int .i64 0, .int .i64 0] false)).push (.cells [.int .i64 (P.glo c), .int .i64 (P.ghi c)] false)).push (.cells [.int .i64 ((P.at false).dep c), .int .i64 ((P.at true).dep c)] false) := ⟨_, rfl⟩
  rw [← hB3]
  have k3 : Ext' A B3 := by rw [hB3]; exact ((Ext'.push _ _).trans (Ext'.push _ _)).trans (Ext'.push _ _)
  have n3 : B3.n = A.n + 3 := by rw [hB3]; rfl
  have c4 : B3.get A.n = some (.cells [.int .i64 0, .int .i64 0, .int .i64 0, .int .i64 0, .int .i64 0, .int .i64 0, .int .i64 0, .int .i64 0] false) := by rw [hB3]; exact push3_a
  have c5 : B3.get (A.n + 1) = some (.cells [.int .i64 (P.glo c), .int .i64 (P.ghi c)] false) := by rw [hB3]; exact push3_b
  have c6 : B3.get (A.n + 2) = some (.cells [.int .i64 ((P.at false).dep c), .int .i64 ((P.at true).dep c)] false) := by rw [hB3]; exact push3_c
  obtain ⟨B, hB⟩ : ∃ B, B = B3.push (.cells (ints (row8 [] (gi (v 7) c) (gi (v 8) c) 0 0 (P.glo c) (-1200000) 0 0 [])) false) := ⟨_, rfl⟩
  have hB' := hB
  simp only [row8, ints, List.nil_append, List.map_cons, List.map_nil] at hB'
  rw [← hB']
  have kB : Ext' B3 B := by rw [hB]; exact Ext'.push _ _
  have c7 : B.get (A.n + 3) = some (.cells (ints (row8 [] (gi (v 7) c) (gi (v 8) c) 0 0 (P.glo c) (-1200000) 0 0 [])) false) := by rw [hB, ← n3]; exact get_push_new
  refine W_mono (r54a (B4 := A.n) (B5 := A.n + 1) (B6 := A.n + 2) (B7 := A.n + 3) (A0 := A) hE hW hd hg ⟨k3.trans kB, kB.get c4, kB.get c5, kB.get c6, c7, by omega, by omega, by omega, by omega, by omega, by simp [ptrV], by simp, by simp [ptrV], by simp [ptrV], by simp [ptrV], by simp [ptrV]⟩) ?_
  rintro _ ⟨T1, D1, A1⟩ ⟨rfl, rfl, h1⟩
  simp (disch := as_aux_lemma => first | omega | simp only [hDs] <;> omega | simp [isCell]) [hRs, takeMarks, resA, resAll, resOne, Value.cells]
  refine W_mono (r54b hE hW hd hg h1) ?_
  rintro _ ⟨T2, D2, A2⟩ ⟨rfl, rfl, h2⟩
  simp (disch := as_aux_lemma => first | omega | simp only [hDs] <;> omega | simp [isCell]) [hRs, takeMarks, resA, resAll, resOne, Value.cells]
  refine W_mono (r54c hE hW hd hg h2) ?_
  rintro _ ⟨T3, D3, A3⟩ ⟨rfl, rfl, h3⟩
  simp (disch := as_aux_lemma => first | omega | simp only [hDs] <;> omega | simp [isCell]) [hRs, takeMarks, resA, resAll, resOne, Value.cells]
  refine W_mono (r54d hE hW hg h3) ?_
  rintro _ ⟨T4, D4, A4⟩ ⟨rfl, rfl, h4⟩
  simp (disch := as_aux_lemma => first | omega | simp only [hDs] <;> omega | simp [isCell]) [hRs, takeMarks, resA, resAll, resOne, Value.cells]
  refine W_mono (r54e hE hW hd hg h4) ?_
  rintro _ ⟨T5, D5, A5⟩ ⟨rfl, rfl, h5⟩
  have t7 : tget T5 7 = ptrV (A.n + 3) := h5.t7
  have t4 : tget T5 4 = ptrV A.n := h5.t4
  have b7 : A5.get (A.n + 3) = some (.cells [.int .i64 (gi (v 7) c), .int .i64 (gi (v 8) c), .int .i64 ((E0 P zs n).r2 c), .int .i64 ((E0 P zs n).l3 c), .int .i64 ((E0 P zs n).r4 c), .int .i64 ((E0 P zs n).l5 c), .int .i64 ((E0 P zs n).r6 c), .int .i64 ((E0 P zs n).l7 c)] false) := h5.b7
  have b4 : A5.get A.n = some (.cells [.int .i64 0, .int .i64 0, .int .i64 0, .int .i64 0, .int .i64 0, .int .i64 0, .int .i64 0, .int .i64 0] false) := h5.b4
  have k5 : Ext' A A5 := h5.k
  have sm : ∀ z, (A5.set A.n z).get A.n = z := fun z => get_set_same b4
  simp (disch := as_aux_lemma => first | omega | simp only [hDs] <;> omega | simp [isCell]) [hRs, takeMarks, resA, resAll, resOne, Value.cells, t7, t4, ptrV, b7, b4, storeB_cells, setRange_all, sm]
  have e7 : gi (v 7) c = gi (fAr (P.at true) zs n) c := by rw [hd.d7]
  have e8 : gi (v 8) c = gi (fAr (P.at false) zs n) c := by rw [hd.d8]
  have := hQ (A5.set A.n (some (.cells [.int .i64 (gi (v 7) c), .int .i64 (gi (v 8) c), .int .i64 ((E0 P zs n).r2 c), .int .i64 ((E0 P zs n).l3 c), .int .i64 ((E0 P zs n).r4 c), .int .i64 ((E0 P zs n).l5 c), .int .i64 ((E0 P zs n).r6 c), .int .i64 ((E0 P zs n).l7 c)] false))) ⟨k5.1, fun z hz => by rw [get_set_ne (Hp.lt_of_get b4) (by omega)]; exact k5.2 z hz⟩
  unfold Spr.row at this
  simp only [ints, List.map_cons, List.map_nil] at this
  rw [e7, e8] at this ⊢
  exact this
end
end Go.Ab.Wave
namespace Go.Ab.Wave
open Go Go.Ab
section
variable {g : Nat} {A : Hp} {V : Value → Hp → Prop} {P : Par} {zs : List Int} {n : Nat} {sls : Value}
theorem loop51 {x : Int} {N m : Nat} {A0 : Hp} {D : List Nat} {rd : Option Nat} {Q : Ex → St → Prop} (hm : m < 1000000) (hg : g ≤ N) (hQ : ∀ T' A' sv, AccS N A' 1 (ints (List.replicate m x)) sv → (∀ y, y < N → A'.get y = A0.get y) → N ≤ A'.n → tget T' 5 = sv → Q (.exit 0) ⟨T', D, A'⟩) :
    ∀ (k i : Nat) (T : List Value) (A : Hp) (sv : Value), i + k = m → AccS N A 1 (ints (List.replicate i x)) sv → (∀ y, y < N → A.get y = A0.get y) → N ≤ A.n → tget T 0 = .int .i64 m → tget T 1 = .int .i64 x → tget T 5 = sv → tget T 6 = .int .i64 i → W AP KL g rd (.loop body51) ⟨T, D, A⟩ Q := by
  intro k
  induction k with
  | zero =>
    intro i T A sv hi hacc hold hn t0 t1 t5 t6
    have e : i = m := by omega
    rw [W_loop]
    simp (disch := as_aux_lemma => first | omega | simp only [hDs] <;> omega | simp [isCell]) [hRs, takeMarks, resA, resAll, resOne, Value.cells, body51, t0, t6, show ¬ (i : Int) < (m : Int) by omega]
    rw [e] at hacc
    exact hQ _ A sv hacc hold hn (by simp [t5])
  | succ k ih =>
    intro i T A sv hi hacc hold hn t0 t1 t5 t6
    obtain ⟨sv', A', e, hacc', hold', hn'⟩ := hacc.add (g := g) (bytes := 8) (new := [.int .i64 x]) (ro := false) (n := i) hg hn rfl (by decide) rfl (by simp) (by unfold room; omega)
    rw [W_loop]
    simp (disch := as_aux_lemma => first | omega | simp only [hDs] <;> omega | simp [isCell]) [hRs, takeMarks, resA, resAll, resOne, Value.cells, body51, t0, t1, t5, t6, show (i : Int) < (m : Int) by omega, slitA, fillA, setRange, e]
    refine ih (i + 1) _ A' sv' (by omega) ?_ (fun y hy => by rw [hold' y hy, hold y hy]) (by omega) ?_ ?_ ?_ ?_
    · rw [List.replicate_succ', ints_append]; exact hacc'
    · simp [t0]
    · simp [t1]
    · simp
    · simp [wrId (n := (i : Int) + 1) (by omega) (by omega)]
theorem w51 {x : Int} {m : Nat} (hm : m < 1000000) (hg : g ≤ A.n) (hQ : ∀ A' sv, Ext' A A' → AccS A.n A' 1 (ints (List.replicate m x)) sv → V sv A') : WF AP KL g 51 [.int .i64 m, .int .i64 x] A V := by
  rw [WF_body rfl (show AP 51 = some F51 from rfl)]
  simp (disch := as_aux_lemma => first | omega | simp only [hDs] <;> omega | simp [isCell]) [hRs, takeMarks, resA, resAll, resOne, Value.cells]
  refine loop51 (x := x) (A0 := A) (N := A.n) hm hg (fun T' A' sv h1 h2 h3 h5 => ?_) m 0 _ A (.slice none 0 0) (by omega) AccS.nil (fun _ _ => rfl) (Nat.le_refl _) (by simp) (by simp) (by simp) (by simp)
  simp (disch := as_aux_lemma => first | omega | simp only [hDs] <;> omega | simp [isCell]) [hRs, takeMarks, resA, resAll, resOne, Value.cells, h5]
  exact hQ A' sv ⟨h3, h2⟩ h1
theorem w46 (hgr : groundOf A P.sl = some P.l) (hg : g ≤ A.n) (hQ : ∀ A', Ext' A A' → V (.int .i64 (prepE P)) A') : WF AP KL g 46 [gridV P.w P.h P.s P.sl, spn P.slo P.shi, modelV P.k0 P.k1 P.l0 P.l1 P.o0 P.o1] A V := by
  obtain ⟨B, hB⟩ : ∃ B, B = ((A.push (.cells [.int .i64 P.w, .int .i64 P.h, .int .i64 P.s, P.sl] false)).push (.cells [.int .i64 P.slo, .int .i64 P.shi] false)).push (.cells [.int .i64 P.k0, .int .i64 P.k1, .int .i64 P.l0, .int .i64 P.l1, .int .i64 P.o0, .int .i64 P.o1] false) := ⟨_, rfl⟩
  have kB : Ext' A B := by rw [hB]; exact ((Ext'.push _ _).trans (Ext'.push _ _)).trans (Ext'.push _ _)
  have b4 : B.get A.n = some (.cells [.int .i64 P.w, .int .i64 P.h, .int .i64 P.s, P.sl] false) := by rw [hB]; exact push3_a
  have b5 : B.get (A.n + 1) = some (.cells [.int .i64 P.slo, .int .i64 P.shi] false) := by rw [hB]; exact push3_b
  have b6 : B.get (A.n + 2) = some (.cells [.int .i64 P.k0, .int .i64 P.k1, .int .i64 P.l0, .int .i64 P.l1, .int .i64 P.o0, .int .i64 P.o1] false) := by rw [hB]; exact push3_c
  have hgB := groundOf_mono hgr kB.2
  have hq := hQ B kB
  unfold prepE at hq
  rw [WF_body rfl (show AP 46 = some F46 from rfl)]
  by_cases h1 : checkG P.w P.h P.s P.l = 0
  · by_cases h2 : inS P.slo P.shi (-20000) 20000 = true
    · simp (disch := as_aux_lemma => first | omega | simp only [hDs] <;> omega | simp [isCell]) [hRs, takeMarks, resA, resAll, resOne, Value.cells, gridV, spn, modelV, J]
      rw [← hB]
      simp (disch := as_aux_lemma => first | omega | simp only [hDs] <;> omega | simp [isCell]) [hRs, takeMarks, resA, resAll, resOne, Value.cells, b4, b5, b6, WF_spec (show KL 40 = some S37 from rfl), S37_eq hgB, WF_spec (show KL 43 = some S42 from rfl), S42_eq, WF_spec (show KL 15 = some S13 from rfl), S13_eq, h1, h2]
      rw [if_pos h1, if_pos h2] at hq
      exact hq
    · simp (disch := as_aux_lemma => first | omega | simp only [hDs] <;> omega | simp [isCell]) [hRs, takeMarks, resA, resAll, resOne, Value.cells, gridV, spn, modelV, J]
      rw [← hB]
      simp (disch := as_aux_lemma => first | omega | simp only [hDs] <;> omega | simp [isCell]) [hRs, takeMarks, resA, resAll, resOne, Value.cells, b4, b5, b6, WF_spec (show KL 40 = some S37 from rfl), S37_eq hgB, WF_spec (show KL 43 = some S42 from rfl), S42_eq, h1, h2]
      rw [if_pos h1, if_neg h2] at hq
      exact hq
  · simp (disch := as_aux_lemma => first | omega | simp only [hDs] <;> omega | simp [isCell]) [hRs, takeMarks, resA, resAll, resOne, Value.cells, gridV, spn, modelV, J]
    rw [← hB]
    simp (disch := as_aux_lemma => first | omega | simp only [hDs] <;> omega | simp [isCell]) [hRs, takeMarks, resA, resAll, resOne, Value.cells, b4, b5, b6, WF_spec (show KL 40 = some S37 from rfl), S37_eq hgB, h1]
    rw [if_neg h1] at hq
    exact hq
theorem loop28a {D : List Nat} {rd : Option Nat} {Q : Ex → St → Prop} {A0 : Hp} {b4 : Nat} {T0 : List Value} (hn : n < 1000000) (hlen : lenV P.sl = some (.int .i64 P.l.length))
    (hb : A0.get b4 = some (.cells [.int .i64 P.w, .int .i64 P.h, .int .i64 P.s, P.sl] false)) (hr : RdS A0 5 n (ints zs) sls)
    (hQ : ∀ T', stE P zs 0 n = 0 → (∀ i, i < 10 → tget T' i = tget T0 i) → Q (.exit 0) ⟨T', D, A0⟩)
    (hE : ∀ T', stE P zs 0 n ≠ 0 → tget T' 8 = .slice none 0 0 → tget T' 9 = .int .i64 (stE P zs 0 n) → Q .ret ⟨T', D, A0⟩) :
    ∀ (k i : Nat) (T : List Value), i + k = n → stE P zs 0 n = stE P zs i k → (∀ i, i < 10 → tget T i = tget T0 i) → tget T0 4 = ptrV b4 → tget T0 3 = sls → tget T 11 = .int .i64 i → W AP KL g rd (.loop body28a) ⟨T, D, A0⟩ Q := by
  intro k
  have hlenS := hr.len
  have hzl : zs.length = n * 5 := by have := hr.1; rwa [ints_length] at this
  induction k with
  | zero =>
    intro i T hi he hT t4 t3' t11
    have t3 := (hT 3 (by omega)).trans t3'
    have e : i = n := by omega
    rw [W_loop]
    simp (disch := as_aux_lemma => first | omega | simp only [hDs] <;> omega | simp [isCell]) [hRs, takeMarks, resA, resAll, resOne, Value.cells, body28a, t3, t11, hlenS, show ¬ (i : Int) < (n : Int) by omega]
    refine hQ _ (by rw [he]; rfl) fun j hj => ?_
    simp only [tget_tset]
    repeat (rw [if_neg (by omega)])
    exact hT j hj
  | succ k ih =>
    intro i T hi he hT t4' t3' t11
    have t4 := (hT 4 (by omega)).trans t4'
    obtain ⟨y, cap, ro, hsl, hy⟩ := hr.at (i := i) (by omega)
    have t3 := ((hT 3 (by omega)).trans t3').trans hsl
    have bad : ∀ (T' : List Value), stBad P zs i ≠ 0 → tget T' 8 = .slice none 0 0 → tget T' 9 = .int .i64 (stBad P zs i) → Q .ret ⟨T', D, A0⟩ := by
      intro T' h h8 h9
      have e : stE P zs 0 n = stBad P zs i := by rw [he]; unfold stE; rw [if_neg h]
      exact hE T' (by rw [e]; exact h) h8 (by rw [e]; exact h9)
    have i0 := ints_get (l := zs) (o := i * 5) (by omega)
    rw [W_loop]
    by_cases c1 : gi zs (i * 5) < 0
    · simp (disch := as_aux_lemma => first | omega | simp only [hDs] <;> omega | simp [isCell]) [hRs, takeMarks, resA, resAll, resOne, Value.cells, body28a, t3, t11, show (i : Int) < (n : Int) by omega, idxSA_ok, hy, i0, c1]
      refine bad _ ?_ ?_ ?_
      · simp [stBad, c1]
      · simp
      · simp [stBad, c1]
    · by_cases c2 : (P.l.length : Int) ≤ gi zs (i * 5)
      · simp (disch := as_aux_lemma => first | omega | simp only [hDs] <;> omega | simp [isCell]) [hRs, takeMarks, resA, resAll, resOne, Value.cells, body28a, t3, t11, show (i : Int) < (n : Int) by omega, idxSA_ok, hy, i0, c1, t4, ptrV, hb, hlen, c2]
        refine bad _ ?_ ?_ ?_
        · simp [stBad, c2]
        · simp
        · simp [stBad, c2]
      · by_cases c3 : inS (gi zs (i * 5 + 1)) (gi zs (i * 5 + 2)) 0 1000000000 = true
        · by_cases c4 : inS (gi zs (i * 5 + 3)) (gi zs (i * 5 + 4)) 0 5000 = true
          · simp (disch := as_aux_lemma => first | omega | simp only [hDs] <;> omega | simp [isCell]) [hRs, takeMarks, resA, resAll, resOne, Value.cells, body28a, t3, t11, show (i : Int) < (n : Int) by omega, idxSA_ok, hy, i0, c1, t4, ptrV, hb, hlen, c2, ints_two, WF_spec (show KL 43 = some S42 from rfl), S42_eq, c3, c4]
            have e0 : stBad P zs i = 0 := by simp [stBad, c1, c2, c3, c4]
            refine ih (i + 1) _ (by omega) ?_ ?_ t4' t3' ?_
            · rw [he]; show (if stBad P zs i = 0 then _ else _) = _; rw [if_pos e0]
            · intro j hj
              simp only [tget_tset]
              repeat (rw [if_neg (by omega)])
              exact hT j hj
            · simp [wrId (n := (i : Int) + 1) (by omega) (by omega)]
          · simp (disch := as_aux_lemma => first | omega | simp only [hDs] <;> omega | simp [isCell]) [hRs, takeMarks, resA, resAll, resOne, Value.cells, body28a, t3, t11, show (i : Int) < (n : Int) by omega, idxSA_ok, hy, i0, c1, t4, ptrV, hb, hlen, c2, ints_two, WF_spec (show KL 43 = some S42 from rfl), S42_eq, c3, c4]
            refine bad _ ?_ ?_ ?_
            · simp [stBad, c1, c2, c3, c4]
            · simp
            · simp [stBad, c1, c2, c3, c4]
        · simp (disch := as_aux_lemma => first | omega | simp only [hDs] <;> omega | simp [isCell]) [hRs, takeMarks, resA, resAll, resOne, Value.cells, body28a, t3, t11, show (i : Int) < (n : Int) by omega, idxSA_ok, hy, i0, c1, t4, ptrV, hb, hlen, c2, ints_two, WF_spec (show KL 43 = some S42 from rfl), S42_eq, c3]
          refine bad _ ?_ ?_ ?_
          · simp [stBad, c1, c2, c3]
          · simp
          · simp [stBad, c1, c2, c3]
end
end Go.Ab.Wave
namespace Go.Ab.Wave
open Go Go.Ab
def wkC (P : Par) (sv : Value) (r : Nat → Nat) : List Value :=
  [.int .i64 P.w, .int .i64 P.h, .int .i64 P.s, P.sl, .int .i64 P.slo, .int .i64 P.shi, .int .i64 P.k0, .int .i64 P.k1, .int .i64 P.l0, .int .i64 P.l1, .int .i64 P.o0, .int .i64 P.o1,
   sv, rowS1 (r 0) P.l.length, rowS1 (r 1) P.l.length, rowS1 (r 2) P.l.length, rowS1 (r 3) P.l.length, rowS1 (r 4) P.l.length, rowS1 (r 5) P.l.length, rowS1 (r 6) P.l.length, rowS1 (r 7) P.l.length, rowS1 (r 8) P.l.length]
section
variable {g : Nat} {A : Hp} {V : Value → Hp → Prop} {P : Par} {zs : List Int} {n : Nat} {sls : Value} {X : Nat} {r : Nat → Nat}
theorem loop28d {D : List Nat} {rdd : Option Nat} {Q : Ex → St → Prop} {A0 : Hp} {b4 b5 : Nat} {T0 : List Value} (hu : POk (P.at true)) (hl : POk (P.at false)) (hg : g ≤ X) (hN : X < A0.n) (h4 : b4 < X) (h5 : b5 < X)
    (hb4 : A0.get b4 = some (.cells [.int .i64 P.w, .int .i64 P.h, .int .i64 P.s, P.sl] false)) (hb5 : A0.get b5 = some (.cells [.int .i64 P.slo, .int .i64 P.shi] false)) (hgr : groundOf A0 P.sl = some P.l) (hgx : ∀ x' o k n c, P.sl = .slice (some ⟨x', o, k⟩) n c → x' < X)
    (hQ : ∀ T' A' sv, AccS A0.n A' 2 (ints (depL P)) sv → A'.get X = some (.cells (wkC P sv r) false) → (∀ y, y < A0.n → y ≠ X → A'.get y = A0.get y) → A0.n ≤ A'.n → (∀ i, i < 14 → tget T' i = tget T0 i) → Q (.exit 2) ⟨T', D, A'⟩) :
    ∀ (k i : Nat) (T : List Value) (A : Hp) (sv : Value), i + k = P.l.length → AccS A0.n A 2 (ints (depI P i)) sv → A.get X = some (.cells (wkC P sv r) false) → (∀ y, y < A0.n → y ≠ X → A.get y = A0.get y) → A0.n ≤ A.n → (∀ i, i < 14 → tget T i = tget T0 i) →
      tget T0 4 = ptrV b4 → tget T0 5 = ptrV b5 → tget T0 12 = .int .i64 P.l.length → tget T0 13 = ptrV X → tget T 14 = .int .i64 i → W AP KL g rdd (.loop body28d) ⟨T, D, A⟩ Q := by
  have hsm : P.l.length ≤ 40 := hu.small
  intro k
  induction k with
  | zero =>
    intro i T A sv hi hacc hX hold hn hT t4 t5 t12' t13 t14
    have e : i = P.l.length := by omega
    have t12 := (hT 12 (by omega)).trans t12'
    rw [W_loop]
    simp (disch := as_aux_lemma => first | omega | simp only [hDs] <;> omega | simp [isCell]) [hRs, takeMarks, resA, resAll, resOne, Value.cells, body28d, t12, t14, show ¬ (i : Int) < P.l.length by omega]
    rw [e] at hacc
    refine hQ _ A sv hacc hX hold hn fun j hj => ?_
    simp only [tget_tset]
    repeat (rw [if_neg (by omega)])
    exact hT j hj
  | succ k ih =>
    intro i T A sv hi hacc hX hold hn hT t4' t5' t12' t13' t14
    have hil : i < P.l.length := by omega
    have t4 := (hT 4 (by omega)).trans t4'
    have t5 := (hT 5 (by omega)).trans t5'
    have t12 := (hT 12 (by omega)).trans t12'
    have t13 := (hT 13 (by omega)).trans t13'
    have c4 := (hold b4 (by omega) (by omega)).trans hb4
    have c5 := (hold b5 (by omega) (by omega)).trans hb5
    obtain ⟨y, cap, ro, hsl, hy0⟩ := ground_two (P := P) hgr hil
    have hyX := hgx _ _ _ _ _ hsl
    have hy := (hold y (by omega) (by omega)).trans hy0
    have hgl : (flat2 P.l).length = P.l.length * 2 := flat2_length _
    have i0 := ints_get (l := flat2 P.l) (o := i * 2) (by omega)
    have i1 := ints_get (l := flat2 P.l) (o := i * 2 + 1) (by omega)
    have d0 := hl.dep (c := i) hil
    have d1 := hu.dep (c := i) hil
    have x0 : (P.at false).dep i = P.slo - gi (flat2 P.l) (i * 2 + 1) := rfl
    have x1 : (P.at true).dep i = P.shi - gi (flat2 P.l) (i * 2) := rfl
    have e0 : wr .i64 (P.slo - gi (flat2 P.l) (i * 2 + 1)) = (P.at false).dep i := by rw [wrId (by omega) (by omega)]; rfl
    have e1 : wr .i64 (P.shi - gi (flat2 P.l) (i * 2)) = (P.at true).dep i := by rw [wrId (by omega) (by omega)]; rfl
    have hli : (depI P i).length = i * 2 := depI_len
    obtain ⟨sv', A', e, hacc', hold', hn'⟩ := hacc.add (g := g) (bytes := 16) (new := [.int .i64 ((P.at false).dep i), .int .i64 ((P.at true).dep i)]) (ro := false) (n := i) (by omega) hn rfl (by decide) rfl (by rw [ints_length, hli]) (by unfold room; omega)
    have hX' := (hold' X (by omega)).trans hX
    have hXn := Hp.lt_of_get hX'
    obtain ⟨p, m, cc, rfl⟩ := hacc'.isSlice
    have hst : storeB (some (.cells (wkC P sv r) false)) g A' X 12 [.slice p m cc] 1 = some (undef, A'.set X (some (.cells (wkC P (.slice p m cc) r) false))) := by
      have := storeB_cells (A := A') (g := g) (k := X) (o := 12) (size := 1) (cs := wkC P sv r) (vs := [.slice p m cc]) rfl hg (by simp [wkC]) rfl
      rw [this]
      rfl
    have hc12 : cellAt (wkC P sv r) 12 = some sv := rfl
    rw [W_loop]
    simp (disch := as_aux_lemma => first | omega | simp only [hDs] <;> omega | simp [isCell]) [hRs, takeMarks, resA, resAll, resOne, Value.cells, body28d, t12, t14, t13, t4, t5, ptrV, show (i : Int) < P.l.length by omega, hX, hc12, c5, c4, hsl, idxSA_ok, hy, i0, i1, e0, e1, fillA, setRange, slitA, e, hX', hst]
    refine ih (i + 1) _ _ (.slice p m cc) (by omega) ?_ (get_set_same hX') (fun z hz hne => ?_) (by show A0.n ≤ A'.n; omega) (fun j hj => ?_) t4' t5' t12' t13' ?_
    · rw [depI_succ, ints_append]
      rcases hacc' with h | ⟨b, m', q1, q3, q4, q5, q6⟩
      · exact .inl h
      · exact .inr ⟨b, m', q1, by rw [get_set_ne hXn (by omega)]; exact q3, q4, q5, q6⟩
    · rw [get_set_ne hXn hne, hold' z hz, hold z hz hne]
    · simp only [tget_tset]
      repeat (rw [if_neg (by omega)])
      exact hT j hj
    · simp [wrId (n := (i : Int) + 1) (by omega) (by omega)]
theorem loop28o {rd : Nat} {v : Nat → List Int} {D : List Nat} {rdd : Option Nat} {Q : Ex → St → Prop} {A0 : Hp} (hok : SprOk P zs n) (hfin : SprFin P zs n) (hW : Work A0 P X rd r v) (hd : Done P zs n v) (hg : g ≤ A0.n)
    (hQ : ∀ T' A' sv, AccS A0.n A' 8 (ints (bounds P zs n)) sv → Ext' A0 A' → tget T' 15 = sv → Q (.exit 4) ⟨T', D, A'⟩) :
    ∀ (k i : Nat) (T : List Value) (A : Hp) (sv : Value), i + k = P.l.length → AccS A0.n A 8 (ints ((E0 P zs n).rows i)) sv → Ext' A0 A → tget T 12 = .int .i64 P.l.length → tget T 13 = ptrV X → tget T 15 = sv → tget T 16 = .int .i64 i → W AP KL g rdd (.loop body28o) ⟨T, D, A⟩ Q := by
  have hsm : P.l.length ≤ 40 := hok.pl.small
  intro k
  induction k with
  | zero =>
    intro i T A sv hi hacc hk t12 t13 t15 t16
    have e : i = P.l.length := by omega
    rw [W_loop]
    simp (disch := as_aux_lemma => first | omega | simp only [hDs] <;> omega | simp [isCell]) [hRs, takeMarks, resA, resAll, resOne, Value.cells, body28o, t12, t16, show ¬ (i : Int) < P.l.length by omega]
    rw [e] at hacc
    exact hQ _ A sv hacc hk (by simp [t15])
  | succ k ih =>
    intro i T A sv hi hacc hk t12 t13 t15 t16
    have hil : i < P.l.length := by omega
    have hkn := hk.1
    rw [W_loop]
    simp (disch := as_aux_lemma => first | omega | simp only [hDs] <;> omega | simp [isCell]) [hRs, takeMarks, resA, resAll, resOne, Value.cells, body28o, t12, t13, t15, t16, show (i : Int) < P.l.length by omega]
    refine w54 (P := P) (zs := zs) (n := n) (v := v) ⟨hok, hfin, hil⟩ (hW.ext hk) hd (by omega) fun A1 k1 => ?_
    have hacc1 : AccS A0.n A1 8 (ints ((E0 P zs n).rows i)) sv := hacc.mono fun x hx => k1.2 x hx
    have hlen : ((E0 P zs n).rows i).length = i * 8 := Spr.rows_len
    have hr8 : ((E0 P zs n).row i).length = 8 := rfl
    obtain ⟨sv', A', e, hacc', hold', hn'⟩ := hacc1.add (g := g) (bytes := 64) (new := ints ((E0 P zs n).row i)) (ro := false) (n := i) hg (by have := k1.1; omega) (by rw [ints_length, hr8]) (by decide) (ints_isCell _) (by rw [ints_length, hlen]) (by unfold room; omega)
    have hfl : fillA [.int .i64 0, .int .i64 0, .int .i64 0, .int .i64 0, .int .i64 0, .int .i64 0, .int .i64 0, .int .i64 0] [(0, 8, .agg ⟨ints ((E0 P zs n).row i)⟩)] = some (ints ((E0 P zs n).row i)) := rfl
    simp (disch := as_aux_lemma => first | omega | simp only [hDs] <;> omega | simp [isCell]) [hRs, takeMarks, resA, resAll, resOne, Value.cells, t15, t16, slitA, hfl, e]
    refine ih (i + 1) _ A' sv' (by omega) ?_ ⟨by have := k1.1; omega, fun z hz => by rw [hold' z hz, k1.2 z (by omega), hk.2 z hz]⟩ ?_ ?_ ?_ ?_
    · rw [Spr.rows_succ, ints_append]; exact hacc'
    · simp [t12]
    · simp [t13]
    · simp
    · simp [wrId (n := (i : Int) + 1) (by omega) (by omega)]
end
end Go.Ab.Wave
namespace Go.Ab.Wave
open Go Go.Ab
section
variable {g : Nat} {A : Hp} {V : Value → Hp → Prop} {P : Par} {zs : List Int} {n : Nat} {sls : Value}
theorem fill_at {B : Hp} {N : Nat} {x : Int} {sv : Value} (hp : 0 < P.l.length) (h : AccS N B 1 (ints (List.replicate P.l.length x)) sv) : ∃ b, sv = rowS1 b P.l.length ∧ B.get b = some (.cells (ints (List.replicate P.l.length x)) false) ∧ N ≤ b := by
  rcases h with ⟨h1, h2⟩ | ⟨b, m, h1, h2, h3, h4, h5⟩
  · have e := congrArg List.length h2
    rw [ints_length, List.length_replicate] at e
    have e' : P.l.length = 0 := e
    omega
  · have e : m = P.l.length := by simpa using h4.symm
    exact ⟨b, by rw [h1, e]; rfl, h2, h3⟩
theorem w28 (hs : P.l.length ≤ 40) (hgr : groundOf A P.sl = some P.l) (hn : n < 1000000) (hr : RdS A 5 n (ints zs) sls) (hg : g ≤ A.n) (hF : sprE P zs n = 0 → SprFin P zs n)
    (hQ : ∀ A' sv, Ext' A A' → AccS A.n A' 8 (ints (sprRes P zs n)) sv → V (.tuple ⟨[sv, .int .i64 (sprE P zs n)]⟩) A') :
    WF AP KL g 28 [gridV P.w P.h P.s P.sl, spn P.slo P.shi, modelV P.k0 P.k1 P.l0 P.l1 P.o0 P.o1, sls] A V := by
  have hzl : zs.length = n * 5 := by have := hr.1; rwa [ints_length] at this
  have hlen : lenV P.sl = some (.int .i64 P.l.length) := by
    rcases (groundOf_cases hgr).2 with ⟨h1, h2⟩ | ⟨x, cap, ro, h1, _⟩
    · rw [h1, h2]; rfl
    · rw [h1]; rfl
  have hlenS := hr.len
  obtain ⟨B, hB⟩ : ∃ B, B = ((A.push (.cells [.int .i64 P.w, .int .i64 P.h, .int .i64 P.s, P.sl] false)).push (.cells [.int .i64 P.slo, .int .i64 P.shi] false)).push (.cells [.int .i64 P.k0, .int .i64 P.k1, .int .i64 P.l0, .int .i64 P.l1, .int .i64 P.o0, .int .i64 P.o1] false) := ⟨_, rfl⟩
  have kB : Ext' A B := by rw [hB]; exact ((Ext'.push _ _).trans (Ext'.push _ _)).trans (Ext'.push _ _)
  have b4 : B.get A.n = some (.cells [.int .i64 P.w, .int .i64 P.h, .int .i64 P.s, P.sl] false) := by rw [hB]; exact push3_a
  have b5 : B.get (A.n + 1) = some (.cells [.int .i64 P.slo, .int .i64 P.shi] false) := by rw [hB]; exact push3_b
  have b6 : B.get (A.n + 2) = some (.cells [.int .i64 P.k0, .int .i64 P.k1, .int .i64 P.l0, .int .i64 P.l1, .int .i64 P.o0, .int .i64 P.o1] false) := by rw [hB]; exact push3_c
  have nB : B.n = A.n + 3 := by rw [hB]; rfl
  have hgB := groundOf_mono hgr kB.2
  have bad : ∀ A' e, Ext' A A' → sprE P zs n = e → e ≠ 0 → V (.tuple ⟨[.slice none 0 0, .int .i64 e]⟩) A' := by
    intro A' e k h h0
    have := hQ A' (.slice none 0 0) k (.inl ⟨rfl, by unfold sprRes; rw [if_neg (by rw [h]; exact h0)]; rfl⟩)
    rw [h] at this
    exact this
  rw [WF_body rfl (show AP 28 = some F28 from rfl)]
  simp (disch := as_aux_lemma => first | omega | simp only [hDs] <;> omega | simp [isCell]) [hRs, takeMarks, resA, resAll, resOne, Value.cells, gridV, spn, modelV, J]
  rw [← hB]
  refine w46 hgB (by omega) fun A1 k1 => ?_
  have c4 := k1.get b4
  have c5 := k1.get b5
  have c6 := k1.get b6
  have n1 := k1.1
  by_cases h1 : prepE P = 0
  · by_cases h2 : 512 < n
    · simp (disch := as_aux_lemma => first | omega | simp only [hDs] <;> omega | simp [isCell]) [hRs, takeMarks, resA, resAll, resOne, Value.cells, h1, hlenS, show (512 : Int) < n by omega]
      exact bad _ 9 (kB.trans k1) (by unfold sprE; rw [if_pos h1, if_pos h2]) (by omega)
    · have he : sprE P zs n = stE P zs 0 n := by unfold sprE; rw [if_pos h1, if_neg h2]
      have kA := kB.trans k1
      simp (disch := as_aux_lemma => first | omega | simp only [hDs] <;> omega | simp [isCell]) [hRs, takeMarks, resA, resAll, resOne, Value.cells, h1, hlenS, show ¬ (512 : Int) < n by omega]
      refine loop28a (A0 := A1) (b4 := A.n) hn hlen c4 (hr.mono kA.2) (fun T' h3 hT => ?_) (fun T' h3 h8 h9 => ?_) n 0 _ (by omega) rfl (fun _ _ => rfl) ?_ ?_ ?_
      · have h0 : sprE P zs n = 0 := by rw [he]; exact h3
        have hfin := hF h0
        have hok : SprOk P zs n := SprOk.mk' (prep_ok h1 hs) (start_ok hzl h3)
        have hpos : 0 < P.l.length := hok.pl.pos
        have q4 := hT 4 (by omega)
        have q5 := hT 5 (by omega)
        have q6 := hT 6 (by omega)
        have q3 := hT 3 (by omega)
        simp at q4 q5 q6 q3
        simp (disch := as_aux_lemma => first | omega | simp only [hDs] <;> omega | simp [isCell]) [hRs, takeMarks, resA, resAll, resOne, Value.cells, q4, q5, q6, c4, c5, c6, hlen]
        refine w51 (x := 1099511627776) (m := P.l.length) (by omega) (by omega) fun F0 s0 kf0 hf0 => ?_
        obtain ⟨r0, rfl, g0, m0⟩ := fill_at hpos hf0
        have nf0 := kf0.1
        have rn0 := Hp.lt_of_get g0
        simp (disch := as_aux_lemma => first | omega | simp only [hDs] <;> omega | simp [isCell]) [hRs, takeMarks, resA, resAll, resOne, Value.cells, rowS1]
        refine w51 (x := 1099511627776) (m := P.l.length) (by omega) (by omega) fun F1 s1 kf1 hf1 => ?_
        obtain ⟨r1, rfl, g1, m1⟩ := fill_at hpos hf1
        have nf1 := kf1.1
        have rn1 := Hp.lt_of_get g1
        simp (disch := as_aux_lemma => first | omega | simp only [hDs] <;> omega | simp [isCell]) [hRs, takeMarks, resA, resAll, resOne, Value.cells, rowS1]
        refine w51 (x := 0) (m := P.l.length) (by omega) (by omega) fun F2 s2 kf2 hf2 => ?_
        obtain ⟨r2, rfl, g2, m2⟩ := fill_at hpos hf2
        have nf2 := kf2.1
        have rn2 := Hp.lt_of_get g2
        simp (disch := as_aux_lemma => first | omega | simp only [hDs] <;> omega | simp [isCell]) [hRs, takeMarks, resA, resAll, resOne, Value.cells, rowS1]
        refine w51 (x := 0) (m := P.l.length) (by omega) (by omega) fun F3 s3 kf3 hf3 => ?_
        obtain ⟨r3, rfl, g3, m3⟩ := fill_at hpos hf3
        have nf3 := kf3.1
        have rn3 := Hp.lt_of_get g3
        simp (disch := as_aux_lemma => first | omega | simp only [hDs] <;> omega | simp [isCell]) [hRs, takeMarks, resA, resAll, resOne, Value.cells, rowS1]
        refine w51 (x := (-1099511627776)) (m := P.l.length) (by omega) (by omega) fun F4 s4 kf4 hf4 => ?_
        obtain ⟨r4, rfl, g4, m4⟩ := fill_at hpos hf4
        have nf4 := kf4.1
        have rn4 := Hp.lt_of_get g4
        simp (disch := as_aux_lemma => first | omega | simp only [hDs] <;> omega | simp [isCell]) [hRs, takeMarks, resA, resAll, resOne, Value.cells, rowS1]
        refine w51 (x := (-1099511627776)) (m := P.l.length) (by omega) (by omega) fun F5 s5 kf5 hf5 => ?_
        obtain ⟨r5, rfl, g5, m5⟩ := fill_at hpos hf5
        have nf5 := kf5.1
        have rn5 := Hp.lt_of_get g5
        simp (disch := as_aux_lemma => first | omega | simp only [hDs] <;> omega | simp [isCell]) [hRs, takeMarks, resA, resAll, resOne, Value.cells, rowS1]
        refine w51 (x := (-1099511627776)) (m := P.l.length) (by omega) (by omega) fun F6 s6 kf6 hf6 => ?_
        obtain ⟨r6, rfl, g6, m6⟩ := fill_at hpos hf6
        have nf6 := kf6.1
        have rn6 := Hp.lt_of_get g6
        simp (disch := as_aux_lemma => first | omega | simp only [hDs] <;> omega | simp [isCell]) [hRs, takeMarks, resA, resAll, resOne, Value.cells, rowS1]
        refine w51 (x := 1099511627776) (m := P.l.length) (by omega) (by omega) fun F7 s7 kf7 hf7 => ?_
        obtain ⟨r7, rfl, g7, m7⟩ := fill_at hpos hf7
        have nf7 := kf7.1
        have rn7 := Hp.lt_of_get g7
        simp (disch := as_aux_lemma => first | omega | simp only [hDs] <;> omega | simp [isCell]) [hRs, takeMarks, resA, resAll, resOne, Value.cells, rowS1]
        refine w51 (x := 1099511627776) (m := P.l.length) (by omega) (by omega) fun F8 s8 kf8 hf8 => ?_
        obtain ⟨r8, rfl, g8, m8⟩ := fill_at hpos hf8
        have nf8 := kf8.1
        have rn8 := Hp.lt_of_get g8
        simp (disch := as_aux_lemma => first | omega | simp only [hDs] <;> omega | simp [isCell]) [hRs, takeMarks, resA, resAll, resOne, Value.cells, rowS1, fillA, setRange]
        obtain ⟨rf, hrf⟩ : ∃ rf : Nat → Nat, rf = fun j => match j with
          | 0 => r0
          | 1 => r1
          | 2 => r2
          | 3 => r3
          | 4 => r4
          | 5 => r5
          | 6 => r6
          | 7 => r7
          | _ => r8 := ⟨_, rfl⟩
        obtain ⟨vf, hvf⟩ : ∃ vf : Nat → List Int, vf = fun j => match j with
          | 0 => List.replicate P.l.length (Never)
          | 1 => List.replicate P.l.length (Never)
          | 2 => List.replicate P.l.length (0)
          | 3 => List.replicate P.l.length (0)
          | 4 => List.replicate P.l.length (-Never)
          | 5 => List.replicate P.l.length (-Never)
          | 6 => List.replicate P.l.length (-Never)
          | 7 => List.replicate P.l.length (Never)
          | _ => List.replicate P.l.length (Never) := ⟨_, rfl⟩
        have x0 : rf 0 = r0 := by rw [hrf]; rfl
        have x1 : rf 1 = r1 := by rw [hrf]; rfl
        have x2 : rf 2 = r2 := by rw [hrf]; rfl
        have x3 : rf 3 = r3 := by rw [hrf]; rfl
        have x4 : rf 4 = r4 := by rw [hrf]; rfl
        have x5 : rf 5 = r5 := by rw [hrf]; rfl
        have x6 : rf 6 = r6 := by rw [hrf]; rfl
        have x7 : rf 7 = r7 := by rw [hrf]; rfl
        have x8 : rf 8 = r8 := by rw [hrf]; rfl
        have y0 : vf 0 = List.replicate P.l.length (Never) := by rw [hvf]; rfl
        have y1 : vf 1 = List.replicate P.l.length (Never) := by rw [hvf]; rfl
        have y2 : vf 2 = List.replicate P.l.length (0) := by rw [hvf]; rfl
        have y3 : vf 3 = List.replicate P.l.length (0) := by rw [hvf]; rfl
        have y4 : vf 4 = List.replicate P.l.length (-Never) := by rw [hvf]; rfl
        have y5 : vf 5 = List.replicate P.l.length (-Never) := by rw [hvf]; rfl
        have y6 : vf 6 = List.replicate P.l.length (-Never) := by rw [hvf]; rfl
        have y7 : vf 7 = List.replicate P.l.length (Never) := by rw [hvf]; rfl
        have y8 : vf 8 = List.replicate P.l.length (Never) := by rw [hvf]; rfl
        obtain ⟨E, hE⟩ : ∃ E, E = F8.push (.cells (wkC P (.slice none 0 0) rf) false) := ⟨_, rfl⟩
        have hE' := hE
        unfold wkC rowS1 at hE'
        rw [x0, x1, x2, x3, x4, x5, x6, x7, x8] at hE'
        rw [← hE']
        have kE : Ext' F8 E := by rw [hE]; exact Ext'.push _ _
        have gX : E.get F8.n = some (.cells (wkC P (.slice none 0 0) rf) false) := by rw [hE]; exact get_push_new
        have nE : E.n = F8.n + 1 := by rw [hE]; rfl
        have k18 : Ext' A1 F8 := kf0.trans (kf1.trans (kf2.trans (kf3.trans (kf4.trans (kf5.trans (kf6.trans (kf7.trans kf8)))))))
        have k1E := k18.trans kE
        have hgx : ∀ x' o k n c, P.sl = .slice (some ⟨x', o, k⟩) n c → x' < A.n := by
          intro x' o k nn c e
          rcases (groundOf_cases hgr).2 with ⟨e1, e2⟩ | ⟨x'', cap', ro', e1, e2⟩
          · rw [e1] at e; cases e
          · rw [e1] at e
            cases e
            exact Hp.lt_of_get e2
        have n8 : A.n + 3 ≤ F8.n := by have := k18.1; omega
        refine loop28d (P := P) (X := F8.n) (r := rf) (A0 := E) (b4 := A.n) (b5 := A.n + 1) hok.ph hok.pl (by omega) (by omega) (by omega) (by omega) (k1E.get c4) (k1E.get c5) (groundOf_mono (groundOf_mono hgr kA.2) k1E.2) (fun x' o k nn c e => by have := hgx x' o k nn c e; omega) (fun T2 A2 sv2 hacc2 gX2 old2 n2 hT2 => ?_) P.l.length 0 _ E (.slice none 0 0) (by omega) AccS.nil gX (fun _ _ _ => rfl) (Nat.le_refl _) (fun _ _ => rfl) ?_ ?_ ?_ ?_ ?_
        · have hv2 := hacc2
          rcases hacc2 with ⟨q1, q2⟩ | ⟨rd, m, q1, q2, qn, qq, qp⟩
          · have e := congrArg List.length q2
            rw [ints_length] at e
            have e2 : (depL P).length = P.l.length * 2 := depI_len
            have e3 : (depL P).length = 0 := e
            omega
          have em : m = P.l.length := by
            have e2 : (depL P).length = P.l.length * 2 := depI_len
            rw [ints_length] at qq
            omega
          subst em
          have z0 : A2.get (rf 0) = some (.cells (ints (vf 0)) false) := by rw [x0, y0, old2 r0 (by omega) (by omega)]; exact kE.get (kf8.get (kf7.get (kf6.get (kf5.get (kf4.get (kf3.get (kf2.get (kf1.get g0))))))))
          have z1 : A2.get (rf 1) = some (.cells (ints (vf 1)) false) := by rw [x1, y1, old2 r1 (by omega) (by omega)]; exact kE.get (kf8.get (kf7.get (kf6.get (kf5.get (kf4.get (kf3.get (kf2.get g1)))))))
          have z2 : A2.get (rf 2) = some (.cells (ints (vf 2)) false) := by rw [x2, y2, old2 r2 (by omega) (by omega)]; exact kE.get (kf8.get (kf7.get (kf6.get (kf5.get (kf4.get (kf3.get g2))))))
          have z3 : A2.get (rf 3) = some (.cells (ints (vf 3)) false) := by rw [x3, y3, old2 r3 (by omega) (by omega)]; exact kE.get (kf8.get (kf7.get (kf6.get (kf5.get (kf4.get g3)))))
          have z4 : A2.get (rf 4) = some (.cells (ints (vf 4)) false) := by rw [x4, y4, old2 r4 (by omega) (by omega)]; exact kE.get (kf8.get (kf7.get (kf6.get (kf5.get g4))))
          have z5 : A2.get (rf 5) = some (.cells (ints (vf 5)) false) := by rw [x5, y5, old2 r5 (by omega) (by omega)]; exact kE.get (kf8.get (kf7.get (kf6.get g5)))
          have z6 : A2.get (rf 6) = some (.cells (ints (vf 6)) false) := by rw [x6, y6, old2 r6 (by omega) (by omega)]; exact kE.get (kf8.get (kf7.get g6))
          have z7 : A2.get (rf 7) = some (.cells (ints (vf 7)) false) := by rw [x7, y7, old2 r7 (by omega) (by omega)]; exact kE.get (kf8.get g7)
          have z8 : A2.get (rf 8) = some (.cells (ints (vf 8)) false) := by rw [x8, y8, old2 r8 (by omega) (by omega)]; exact kE.get g8
          have lt : ∀ i, i < 9 → rf i < F8.n ∧ A.n ≤ rf i := by
            intro i hi
            have : i = 0 ∨ i = 1 ∨ i = 2 ∨ i = 3 ∨ i = 4 ∨ i = 5 ∨ i = 6 ∨ i = 7 ∨ i = 8 := by omega
            rcases this with rfl | rfl | rfl | rfl | rfl | rfl | rfl | rfl | rfl
            · rw [x0]; omega
            · rw [x1]; omega
            · rw [x2]; omega
            · rw [x3]; omega
            · rw [x4]; omega
            · rw [x5]; omega
            · rw [x6]; omega
            · rw [x7]; omega
            · rw [x8]; omega
          have hW : Work A2 P F8.n rd rf vf := by
            refine ⟨?_, q2, fun i hi => ?_, fun i hi => ?_, ?_, fun i j hi hj hij => ?_, fun i hi => ?_, fun i x o k nn c hi e => ?_⟩
            · rw [gX2, q1]; rfl
            · have : i = 0 ∨ i = 1 ∨ i = 2 ∨ i = 3 ∨ i = 4 ∨ i = 5 ∨ i = 6 ∨ i = 7 ∨ i = 8 := by omega
              rcases this with rfl | rfl | rfl | rfl | rfl | rfl | rfl | rfl | rfl
              · exact z0
              · exact z1
              · exact z2
              · exact z3
              · exact z4
              · exact z5
              · exact z6
              · exact z7
              · exact z8
            · have : i = 0 ∨ i = 1 ∨ i = 2 ∨ i = 3 ∨ i = 4 ∨ i = 5 ∨ i = 6 ∨ i = 7 ∨ i = 8 := by omega
              rcases this with rfl | rfl | rfl | rfl | rfl | rfl | rfl | rfl | rfl
              · rw [y0]; simp
              · rw [y1]; simp
              · rw [y2]; simp
              · rw [y3]; simp
              · rw [y4]; simp
              · rw [y5]; simp
              · rw [y6]; simp
              · rw [y7]; simp
              · rw [y8]; simp
            · have hgE := groundOf_mono (groundOf_mono hgr kA.2) k1E.2
              rcases (groundOf_cases hgE).2 with ⟨e1, e2⟩ | ⟨x', cap, ro', e1, e2⟩
              · rw [e1, e2]; rfl
              · have hlt := hgx _ _ _ _ _ e1
                have e3 := (old2 x' (by omega) (by omega)).trans e2
                unfold groundOf at hgE ⊢
                rw [e1] at hgE ⊢
                simp only [e2] at hgE
                simp only [e3]
                exact hgE
            · have hi' : i = 0 ∨ i = 1 ∨ i = 2 ∨ i = 3 ∨ i = 4 ∨ i = 5 ∨ i = 6 ∨ i = 7 ∨ i = 8 := by omega
              have hj' : j = 0 ∨ j = 1 ∨ j = 2 ∨ j = 3 ∨ j = 4 ∨ j = 5 ∨ j = 6 ∨ j = 7 ∨ j = 8 := by omega
              rcases hi' with rfl | rfl | rfl | rfl | rfl | rfl | rfl | rfl | rfl <;> rcases hj' with rfl | rfl | rfl | rfl | rfl | rfl | rfl | rfl | rfl <;> first | exact absurd rfl hij | (simp only [x0, x1, x2, x3, x4, x5, x6, x7, x8]; omega)
            · have := lt i hi
              omega
            · have := lt i hi
              have := hgx _ _ _ _ _ e
              omega
          have u3 := hT2 3 (by omega)
          have u12 := hT2 12 (by omega)
          have u13 := hT2 13 (by omega)
          simp [q3] at u3
          simp at u12 u13
          have old3 : ∀ y, y < A.n → A2.get y = A.get y := fun y hy => by rw [old2 y (by omega) (by omega), k1E.2 y (by omega), kA.2 y hy]
          have hr2 := hr.mono old3
          have hne : ∀ x o k m c j, j < 9 → sls = .slice (some ⟨x, o, k⟩) m c → x ≠ rf j := by
            intro x o k m c j hj e
            rcases hr.2 with ⟨e1, _⟩ | ⟨b, c', ro', e1, e2⟩
            · rw [e1] at e; cases e
            · rw [e1] at e
              cases e
              have := Hp.lt_of_get e2
              have := lt j hj
              omega
          have hgr9 : ∀ i, i < 9 → g ≤ rf i := fun i hi => by have := lt i hi; omega
          simp (disch := as_aux_lemma => first | omega | simp only [hDs] <;> omega | simp [isCell]) [hRs, takeMarks, resA, resAll, resOne, Value.cells, u13, u3]
          refine w52 (v := vf) hok.ph hok.pl hok.zh hok.zl hn hr2 hne hgr9 (by omega) ⟨y0, y1, y2, y3⟩ hW fun A3 v3 k3 hW3 w0 w3 w1 w2 wj => ?_
          simp (disch := as_aux_lemma => first | omega | simp only [hDs] <;> omega | simp [isCell]) [hRs, takeMarks, resA, resAll, resOne, Value.cells, u13]
          have n3 := k3.1
          refine w53 (v := v3) hok.ph hok.pl hok.zh hok.zl hfin.fh hfin.fl hgr9 (by omega) hW3 w0 w3 w1 w2 ((wj 4 (by omega)).trans y4) ((wj 5 (by omega)).trans y5) ((wj 6 (by omega)).trans y6) ((wj 7 (by omega)).trans y7) ((wj 8 (by omega)).trans y8) fun A4 v4 k4 hW4 hd4 => ?_
          have n4 := k4.1
          simp (disch := as_aux_lemma => first | omega | simp only [hDs] <;> omega | simp [isCell]) [hRs, takeMarks, resA, resAll, resOne, Value.cells, u13, u12]
          refine loop28o (A0 := A4) (v := v4) hok hfin hW4 hd4 (by omega) (fun T5 A5 sv5 hacc5 k5 t15 => ?_) P.l.length 0 _ A4 (.slice none 0 0) (by omega) AccS.nil (Ext'.refl _) ?_ ?_ ?_ ?_
          · simp (disch := as_aux_lemma => first | omega | simp only [hDs] <;> omega | simp [isCell]) [hRs, takeMarks, resA, resAll, resOne, Value.cells, t15]
            have := hQ A5 sv5 ⟨by have := k5.1; omega, fun y hy => by
              rw [k5.2 y (by omega), k4.2 y (by omega) (by rintro ⟨j, hj, e⟩; have := lt j hj; omega), k3.2 y (by omega) (by rintro ⟨j, hj, e⟩; have := lt j hj; omega), old3 y hy]⟩ (by
              unfold sprRes
              rw [if_pos h0]
              exact hacc5.weaken (by omega))
            rw [h0] at this
            exact this
          all_goals simp [ptrV, u12, u13]
        all_goals simp [ptrV, q4, q5]
      · simp (disch := as_aux_lemma => first | omega | simp only [hDs] <;> omega | simp [isCell]) [hRs, takeMarks, resA, resAll, resOne, Value.cells, h8, h9]
        exact bad A1 _ kA he h3
      all_goals simp [ptrV]
  · simp (disch := as_aux_lemma => first | omega | simp only [hDs] <;> omega | simp [isCell]) [hRs, takeMarks, resA, resAll, resOne, Value.cells, h1]
    exact bad A1 _ (kB.trans k1) (by unfold sprE; rw [if_neg h1]) h1
end
end Go.Ab.Wave
namespace Go.Ab.Wave
open Go Go.Ab
def tStart : Ty := .pair tI (.pair tSpan (.pair tSpan .unit))
section
variable {g : Nat} {A : Hp} {V : Value → Hp → Prop}
theorem loop18 {bs : List Int} {m N M : Nat} {sa sb : Value} {D : List Nat} {rd : Option Nat} {Q : Ex → St → Prop} (ha : AccS N A 8 (ints bs) sa) (hb : AccS M A 8 (ints bs) sb) (hz : bs.length = m * 8) (hm : m < 1000000) (hQ : ∀ T', Q (.exit 0) ⟨T', D, A⟩) :
    ∀ (k i : Nat) (T : List Value), i + k = m → tget T 0 = sa → tget T 1 = sb → tget T 5 = .int .i64 i → W AP KL g rd (.loop body18) ⟨T, D, A⟩ Q := by
  have hla := ha.lenI (n := m) (by simpa using hz) (by decide)
  intro k
  induction k with
  | zero =>
    intro i T hi t0 t1 t5
    rw [W_loop]
    simp (disch := as_aux_lemma => first | omega | simp only [hDs] <;> omega | simp [isCell]) [hRs, takeMarks, resA, resAll, resOne, Value.cells, body18, t0, t5, hla, show ¬ ((i : Int) < m) by omega]
    exact hQ _
  | succ k ih =>
    intro i T hi t0 t1 t5
    obtain ⟨x, rfl, hx⟩ := ha.someOf (i := i) (n := m) (by simpa using hz) (by omega) (by decide)
    obtain ⟨y, rfl, hy⟩ := hb.someOf (i := i) (n := m) (by simpa using hz) (by omega) (by decide)
    have w0 := ints_two (l := bs) (o := i * 8) (by omega)
    have w2 := ints_two (l := bs) (o := i * 8 + 2) (by omega)
    have w4 := ints_two (l := bs) (o := i * 8 + 4) (by omega)
    have w6 := ints_two (l := bs) (o := i * 8 + 6) (by omega)
    rw [W_loop]
    simp (disch := as_aux_lemma => first | omega | simp only [hDs] <;> omega | simp [isCell]) [hRs, takeMarks, resA, resAll, resOne, Value.cells, body18, t0, t1, t5, show ((i : Int) < m) by omega, idxSA_ok, hx, hy, w0, w2, w4, w6, eqv2]
    refine ih (i + 1) _ (by omega) ?_ ?_ ?_
    · simp [t0]
    · simp [t1]
    · simp [wrId (n := (i : Int) + 1) (by omega) (by omega)]
theorem w18 {bs : List Int} {m N M : Nat} {sa sb : Value} (ha : AccS N A 8 (ints bs) sa) (hb : AccS M A 8 (ints bs) sb) (hz : bs.length = m * 8) (hm : m < 1000000) (hQ : V (.bool true) A) : WF AP KL g 18 [sa, sb] A V := by
  have hla := ha.lenI (n := m) (by simpa using hz) (by decide)
  have hlb := hb.lenI (n := m) (by simpa using hz) (by decide)
  rw [WF_body rfl (show AP 18 = some F18 from rfl)]
  simp (disch := as_aux_lemma => first | omega | simp only [hDs] <;> omega | simp [isCell]) [hRs, takeMarks, resA, resAll, resOne, Value.cells, hla, hlb]
  refine loop18 ha hb hz hm (fun T' => ?_) m 0 _ (by omega) (by simp) (by simp) (by simp)
  simp (disch := as_aux_lemma => first | omega | simp only [hDs] <;> omega | simp [isCell]) [hRs, takeMarks, resA, resAll, resOne, Value.cells]
  exact hQ
theorem GuardW_undef {K : Nat → Option Spec} {dst : Option Nat} {op : AOp} {l : List AOper} {T : List Value} {R : List Value → Hp → Prop} {b : Bool} : GuardW AP K g dst op l T A R b undef = WO AP K g l (putA dst T undef) A R := rfl
def cp5 (zs : List Int) (i : Nat) : List Int := (List.range i).flatMap fun j => [gi zs (j * 5), gi zs (j * 5 + 1), gi zs (j * 5 + 2), gi zs (j * 5 + 3), gi zs (j * 5 + 4)]
theorem cp5_succ {zs : List Int} {i : Nat} : cp5 zs (i + 1) = cp5 zs i ++ [gi zs (i * 5), gi zs (i * 5 + 1), gi zs (i * 5 + 2), gi zs (i * 5 + 3), gi zs (i * 5 + 4)] := by
  unfold cp5
  rw [List.range_succ, List.flatMap_append, List.flatMap_singleton]
theorem cp5_len {zs : List Int} : ∀ {i : Nat}, (cp5 zs i).length = i * 5
  | 0 => rfl
  | i + 1 => by rw [cp5_succ, List.length_append, cp5_len]; simp; omega
theorem cp5_get {zs : List Int} : ∀ {i o : Nat}, o < i * 5 → gi (cp5 zs i) o = gi zs o
  | i + 1, o, h => by
    have hl : (cp5 zs i).length = i * 5 := cp5_len
    rw [cp5_succ]
    by_cases e : o < i * 5
    · have : gi (cp5 zs i ++ [gi zs (i * 5), gi zs (i * 5 + 1), gi zs (i * 5 + 2), gi zs (i * 5 + 3), gi zs (i * 5 + 4)]) o = gi (cp5 zs i) o := by
        unfold gi
        simp only [List.getD_eq_getElem?_getD]
        rw [List.getElem?_append_left (by omega)]
      rw [this]; exact cp5_get e
    · obtain ⟨j, hj, h5⟩ : ∃ j, o = (cp5 zs i).length + j ∧ j < 5 := ⟨o - i * 5, by omega, by omega⟩
      rw [hj, gi_pre, hl]
      rcases j with _ | _ | _ | _ | _ | j <;> first | rfl | omega
theorem cp5_all {zs : List Int} {n : Nat} (h : zs.length = n * 5) : cp5 zs n = zs := gi_ext cp5_len h fun o ho => cp5_get ho
variable {P : Par} {zs : List Int} {n : Nat} {sls : Value}
theorem loop6 {D : List Nat} {rd : Option Nat} {Q : Ex → St → Prop} {A0 : Hp} {T0 : List Value} (hn : n < 1000000) (hg : g ≤ A0.n) (hr : RdS A0 5 n (ints zs) sls)
    (hQ : ∀ T' A' sv, AccS A0.n A' 5 (ints zs) sv → Ext' A0 A' → tget T' 9 = sv → (∀ i, i < 8 → tget T' i = tget T0 i) → Q (.exit 0) ⟨T', D, A'⟩) :
    ∀ (k i : Nat) (T : List Value) (A : Hp) (sv : Value), i + k = n → AccS A0.n A 5 (ints (cp5 zs i)) sv → Ext' A0 A → (∀ i, i < 8 → tget T i = tget T0 i) → tget T0 3 = sls → tget T 9 = sv → tget T 10 = .int .i64 i → W AP KL g rd (.loop body6) ⟨T, D, A⟩ Q := by
  have hlenS := hr.len
  have hzl : zs.length = n * 5 := by have := hr.1; rwa [ints_length] at this
  intro k
  induction k with
  | zero =>
    intro i T A sv hi hacc hk hT t3' t9 t10
    have t3 := (hT 3 (by omega)).trans t3'
    have e : i = n := by omega
    rw [W_loop]
    simp (disch := as_aux_lemma => first | omega | simp only [hDs] <;> omega | simp [isCell]) [hRs, takeMarks, resA, resAll, resOne, Value.cells, body6, t3, t10, hlenS, show ¬ (i : Int) < n by omega]
    rw [e, cp5_all hzl] at hacc
    refine hQ _ A sv hacc hk (by simp [t9]) fun j hj => ?_
    simp only [tget_tset]
    repeat (rw [if_neg (by omega)])
    exact hT j hj
  | succ k ih =>
    intro i T A sv hi hacc hk hT t3' t9 t10
    obtain ⟨y, cap, ro, hsl, hy0⟩ := hr.at (i := i) (by omega)
    have t3 := ((hT 3 (by omega)).trans t3').trans hsl
    have hy := hk.get hy0
    have hl : (cp5 zs i).length = i * 5 := cp5_len
    have w0 := ints_get (l := zs) (o := i * 5) (by omega)
    have w1 := ints_two (l := zs) (o := i * 5 + 1) (by omega)
    have w3 := ints_two (l := zs) (o := i * 5 + 3) (by omega)
    obtain ⟨sv', A', e, hacc', hold', hn'⟩ := hacc.add (g := g) (bytes := 40) (new := [.int .i64 (gi zs (i * 5)), .int .i64 (gi zs (i * 5 + 1)), .int .i64 (gi zs (i * 5 + 2)), .int .i64 (gi zs (i * 5 + 3)), .int .i64 (gi zs (i * 5 + 4))]) (ro := false) (n := i) hg hk.1 rfl (by decide) rfl (by rw [ints_length, hl]) (by unfold room; omega)
    rw [W_loop]
    simp (disch := as_aux_lemma => first | omega | simp only [hDs] <;> omega | simp [isCell]) [hRs, takeMarks, resA, resAll, resOne, Value.cells, body6, t3, t9, t10, show (i : Int) < n by omega, idxSA_ok, hy, w0, w1, w3, fillA, setRange, slitA, e]
    refine ih (i + 1) _ A' sv' (by omega) ?_ ⟨by have := hk.1; omega, fun z hz => by rw [hold' z hz, hk.2 z hz]⟩ (fun j hj => ?_) t3' ?_ ?_
    · rw [cp5_succ, ints_append]; exact hacc'
    · simp only [tget_tset]
      repeat (rw [if_neg (by omega)])
      exact hT j hj
    · simp
    · simp [wrId (n := (i : Int) + 1) (by omega) (by omega)]
theorem sprRes_len : ∃ m, (sprRes P zs n).length = m * 8 ∧ (P.l.length ≤ 40 → m < 1000000) := by
  unfold sprRes
  split
  · exact ⟨P.l.length, bounds_len, fun h => by omega⟩
  · exact ⟨0, rfl, fun _ => by omega⟩
theorem w6 (hgr : groundOf A P.sl = some P.l) (hr : RdS A 5 n (ints zs) sls) (hg : g ≤ A.n) (hQ : ∀ A', V (.bool true) A') :
    WF AP KL g 6 [gridV P.w P.h P.s P.sl, spn P.slo P.shi, modelV P.k0 P.k1 P.l0 P.l1 P.o0 P.o1, sls] A V := by
  have hlen : lenV P.sl = some (.int .i64 P.l.length) := by
    rcases (groundOf_cases hgr).2 with ⟨h1, h2⟩ | ⟨x, cap, ro, h1, _⟩
    · rw [h1, h2]; rfl
    · rw [h1]; rfl
  have hlenS := hr.len
  obtain ⟨B, hB⟩ : ∃ B, B = ((A.push (.cells [.int .i64 P.w, .int .i64 P.h, .int .i64 P.s, P.sl] false)).push (.cells [.int .i64 P.slo, .int .i64 P.shi] false)).push (.cells [.int .i64 P.k0, .int .i64 P.k1, .int .i64 P.l0, .int .i64 P.l1, .int .i64 P.o0, .int .i64 P.o1] false) := ⟨_, rfl⟩
  have kB : Ext' A B := by rw [hB]; exact ((Ext'.push _ _).trans (Ext'.push _ _)).trans (Ext'.push _ _)
  have b4 : B.get A.n = some (.cells [.int .i64 P.w, .int .i64 P.h, .int .i64 P.s, P.sl] false) := by rw [hB]; exact push3_a
  have b5 : B.get (A.n + 1) = some (.cells [.int .i64 P.slo, .int .i64 P.shi] false) := by rw [hB]; exact push3_b
  have b6 : B.get (A.n + 2) = some (.cells [.int .i64 P.k0, .int .i64 P.k1, .int .i64 P.l0, .int .i64 P.l1, .int .i64 P.o0, .int .i64 P.o1] false) := by rw [hB]; exact push3_c
  have nB : B.n = A.n + 3 := by rw [hB]; rfl
  have hrB := hr.mono kB.2
  have hgB := groundOf_mono hgr kB.2
  rw [WF_body rfl (show AP 6 = some F6 from rfl)]
  simp (disch := as_aux_lemma => first | omega | simp only [hDs] <;> omega | simp [isCell]) [hRs, takeMarks, resA, resAll, resOne, Value.cells, gridV, spn, modelV, J]
  rw [← hB]
  by_cases c1 : 40 < P.l.length
  · simp (disch := as_aux_lemma => first | omega | simp only [hDs] <;> omega | simp [isCell]) [hRs, takeMarks, resA, resAll, resOne, Value.cells, GuardW_undef, b4, hlen, hlenS, show (40 : Int) < P.l.length by omega, WF_spec (show KL 10 = some (memoSpec [mWorks]) from rfl), works_eq]
    exact hQ _
  · by_cases c2 : 20 < n ∧ n ≤ 512
    · simp (disch := as_aux_lemma => first | omega | simp only [hDs] <;> omega | simp [isCell]) [hRs, takeMarks, resA, resAll, resOne, Value.cells, b4, hlen, hlenS, show ¬ (40 : Int) < P.l.length by omega, show (20 : Int) < n by omega, show (n : Int) ≤ 512 by omega, WF_spec (show KL 10 = some (memoSpec [mWorks]) from rfl), works_eq]
      exact hQ _
    · by_cases c3 : 600 < n
      · simp (disch := as_aux_lemma => first | omega | simp only [hDs] <;> omega | simp [isCell]) [hRs, takeMarks, resA, resAll, resOne, Value.cells, b4, hlen, hlenS, show ¬ (40 : Int) < P.l.length by omega, show (20 : Int) < n by omega, show ¬ (n : Int) ≤ 512 by omega, show (600 : Int) < n by omega, WF_spec (show KL 10 = some (memoSpec [mWorks]) from rfl), works_eq]
        exact hQ _
      · have rest : ∀ (T : List Value), tget T 3 = sls → tget T 4 = ptrV A.n → tget T 5 = ptrV (A.n + 1) → tget T 6 = ptrV (A.n + 2) → True := fun _ _ _ _ _ => trivial
        by_cases c4 : 20 < n
        · simp (disch := as_aux_lemma => first | omega | simp only [hDs] <;> omega | simp [isCell]) [hRs, takeMarks, resA, resAll, resOne, Value.cells, b4, hlen, hlenS, show ¬ (40 : Int) < P.l.length by omega, show (20 : Int) < n by omega, show ¬ (n : Int) ≤ 512 by omega, show ¬ (600 : Int) < n by omega]
          refine loop6 (A0 := B) (n := n) (by omega) (by omega) hrB (fun T' A1 sp hacc1 k1 t9 hT => ?_) n 0 _ B (.slice none 0 0) (by omega) AccS.nil (Ext'.refl _) (fun _ _ => rfl) ?_ ?_ ?_
          · have q3 := hT 3 (by omega)
            have q4 := hT 4 (by omega)
            have q5 := hT 5 (by omega)
            have q6 := hT 6 (by omega)
            simp at q3 q4 q5 q6
            have n1 := k1.1
            have d4 := k1.get b4
            have d5 := k1.get b5
            have d6 := k1.get b6
            simp (disch := as_aux_lemma => first | omega | simp only [hDs] <;> omega | simp [isCell]) [hRs, takeMarks, resA, resAll, resOne, Value.cells, q4, q5, q6, t9, d4, d5, d6, WF_spec (show KL 14 = some S14 from rfl), S14_eq]
            refine w27 (P := P) (zs := zs) (n := n) (by omega) (groundOf_mono hgB k1.2) (by omega) (hacc1.rd (n := n) (by have := hr.1; exact this) (by decide)) (by omega) fun A2 sv k2 hacc2 hfin => ?_
            have n2 := k2.1
            have e4 := k2.get d4
            have e5 := k2.get d5
            have e6 := k2.get d6
            simp (disch := as_aux_lemma => first | omega | simp only [hDs] <;> omega | simp [isCell]) [hRs, takeMarks, resA, resAll, resOne, Value.cells, q4, q5, q6, q3, e4, e5, e6]
            refine w28 (P := P) (zs := zs) (n := n) (by omega) (groundOf_mono (groundOf_mono hgB k1.2) k2.2) (by omega) ((hrB.mono k1.2).mono k2.2) (by omega) (fun h => (hfin h).2) fun A3 sv3 k3 hacc3 => ?_
            obtain ⟨m, hm1, hm2⟩ := sprRes_len (P := P) (zs := zs) (n := n)
            have n3 := k3.1
            simp (disch := as_aux_lemma => first | omega | simp only [hDs] <;> omega | simp [isCell]) [hRs, takeMarks, resA, resAll, resOne, Value.cells]
            refine w18 (N := 0) (M := 0) ((hacc2.mono fun x hx => k3.2 x hx).weaken (Nat.zero_le _)) (hacc3.weaken (Nat.zero_le _)) hm1 (hm2 (by omega)) ?_
            simp (disch := as_aux_lemma => first | omega | simp only [hDs] <;> omega | simp [isCell]) [hRs, takeMarks, resA, resAll, resOne, Value.cells, WF_spec (show KL 10 = some (memoSpec [mWorks]) from rfl), works_eq]
            exact hQ _
          all_goals simp
        · simp (disch := as_aux_lemma => first | omega | simp only [hDs] <;> omega | simp [isCell]) [hRs, takeMarks, resA, resAll, resOne, Value.cells, b4, hlen, hlenS, show ¬ (40 : Int) < P.l.length by omega, show ¬ (20 : Int) < n by omega, show ¬ (600 : Int) < n by omega]
          refine loop6 (A0 := B) (n := n) (by omega) (by omega) hrB (fun T' A1 sp hacc1 k1 t9 hT => ?_) n 0 _ B (.slice none 0 0) (by omega) AccS.nil (Ext'.refl _) (fun _ _ => rfl) ?_ ?_ ?_
          · have q3 := hT 3 (by omega)
            have q4 := hT 4 (by omega)
            have q5 := hT 5 (by omega)
            have q6 := hT 6 (by omega)
            simp at q3 q4 q5 q6
            have n1 := k1.1
            have d4 := k1.get b4
            have d5 := k1.get b5
            have d6 := k1.get b6
            simp (disch := as_aux_lemma => first | omega | simp only [hDs] <;> omega | simp [isCell]) [hRs, takeMarks, resA, resAll, resOne, Value.cells, q4, q5, q6, t9, d4, d5, d6, WF_spec (show KL 14 = some S14 from rfl), S14_eq]
            refine w27 (P := P) (zs := zs) (n := n) (by omega) (groundOf_mono hgB k1.2) (by omega) (hacc1.rd (n := n) (by have := hr.1; exact this) (by decide)) (by omega) fun A2 sv k2 hacc2 hfin => ?_
            have n2 := k2.1
            have e4 := k2.get d4
            have e5 := k2.get d5
            have e6 := k2.get d6
            simp (disch := as_aux_lemma => first | omega | simp only [hDs] <;> omega | simp [isCell]) [hRs, takeMarks, resA, resAll, resOne, Value.cells, q4, q5, q6, q3, e4, e5, e6]
            refine w28 (P := P) (zs := zs) (n := n) (by omega) (groundOf_mono (groundOf_mono hgB k1.2) k2.2) (by omega) ((hrB.mono k1.2).mono k2.2) (by omega) (fun h => (hfin h).2) fun A3 sv3 k3 hacc3 => ?_
            obtain ⟨m, hm1, hm2⟩ := sprRes_len (P := P) (zs := zs) (n := n)
            have n3 := k3.1
            simp (disch := as_aux_lemma => first | omega | simp only [hDs] <;> omega | simp [isCell]) [hRs, takeMarks, resA, resAll, resOne, Value.cells]
            refine w18 (N := 0) (M := 0) ((hacc2.mono fun x hx => k3.2 x hx).weaken (Nat.zero_le _)) (hacc3.weaken (Nat.zero_le _)) hm1 (hm2 (by omega)) ?_
            simp (disch := as_aux_lemma => first | omega | simp only [hDs] <;> omega | simp [isCell]) [hRs, takeMarks, resA, resAll, resOne, Value.cells, WF_spec (show KL 10 = some (memoSpec [mWorks]) from rfl), works_eq]
            exact hQ _
          all_goals simp
end
end Go.Ab.Wave
