/- Shapes for DikeTold. -/
import Derived.Test.YtlihoghjchbjlaaGreatZ14
import Derived.Test.YtlihoghjchbjlaaGreatZ12
set_option linter.unusedSimpArgs false
set_option linter.unusedVariables false
set_option linter.unusedSectionVars false
namespace Go.Ab.Dike
open Go Go.Ab
theorem boolsOf_bools : ∀ l : List Bool, boolsOf (bools l) = some l
  | [] => rfl
  | b :: l => by
    have := boolsOf_bools l
    unfold bools at this
    simp [bools, boolsOf, this]
theorem seenOf_enc : ∀ l : List Seen, seenOf (l.map encE) = some l
  | [] => rfl
  | e :: l => by
    have := seenOf_enc l
    simp [encE, seenOf, this]
theorem readB_ok {A : Hp} {DB : Nat} {d : List Bool} {c : Nat} {ro : Bool} (h : A.get DB = some (.cells (bools d) ro)) : readB A (.slice (some ⟨DB, 0, some 1⟩) d.length c) = some d := by
  have hb : Nat.beq (bools d).length d.length = true := by simp [bools]
  simp only [readB, h, hb, boolsOf_bools]
theorem KeepT.sub {l l' : List Nat} {T T' : List Value} (h : KeepT l T T') (hl : (l'.all fun i => l.contains i) = true) : KeepT l' T T' := fun i hi => h.at i (List.all_eq_true.1 hl i hi)
theorem fS_mem {α : Type} : ∀ {l : List (ByteArray × α)} {e : ByteArray × α}, (l.map (·.1)).Nodup → e ∈ l → fS e.1 l = some e.2
  | f :: l, e, hn, hm => by
    rw [List.map_cons, List.nodup_cons] at hn
    unfold fS
    by_cases h : strEq e.1 f.1 = true
    · rw [if_pos h]
      rcases List.mem_cons.1 hm with rfl | hm
      · rfl
      · exact absurd (List.mem_map.2 ⟨e, hm, strEq_iff.1 h⟩) hn.1
    · rw [if_neg h]
      rcases List.mem_cons.1 hm with rfl | hm
      · exact absurd (strEq_iff.2 rfl) h
      · exact fS_mem hn.2 hm
theorem KeyOk.nodup {es : List Seen} (h : KeyOk es) : (es.map (·.1)).Nodup := by
  obtain ⟨js, h1, h2, h3⟩ := h
  rw [h1, List.nodup_iff_pairwise_ne, List.pairwise_map]
  refine (List.Pairwise.imp_of_mem ?_ (List.nodup_iff_pairwise_ne.1 h2))
  intro a b ha hb hab e
  injection e with e
  injection e with e
  injection e with _ e
  injection e with e
  exact hab (chr_inj (by have := h3 a ha; omega) (by have := h3 b hb; omega) e)
def pF228 : ACode := (.seq
 (.ops [
oP 115 (.idxA (.t 17) (oK 0) 3 1),
oL 116 115,
oP 117 (.bin .rem (.t 116) (.k (.int .u8 6)))])
 (.block 4
 (.seq
 (.ops [
oP 148 (.bin .eql (.t 117) (.k (.int .u8 0))),
oM 147 148])
 (.cond (.t 147)
 (.seq
 (.ops [
oM 149 9,
oM 150 21,
oM 151 16,
oA 152 150 [.t 149, .t 150, .t 151] false,
oM 18 152])
 (.seq
 (.ops [
oM 153 18,
oC 154 .eql 153 0])
 (.cond (.t 154)
 (.ops [
oM 155 21,
oM 12 155])
 .skip)))
 (.seq
 (.ops [
oP 157 (.bin .eql (.t 117) (.k (.int .u8 1))),
oM 156 157])
 (.cond (.t 156)
 (.seq
 (.ops [
oM 158 9,
oM 159 20,
oC 160 .rem 159 4,
oM 161 16,
oA 162 233 [.t 158, .t 160, .t 161] false,
oM 18 162])
 (.seq
 (.ops [
oM 163 18,
oC 164 .eql 163 0])
 (.cond (.t 164)
 (.ops [
oM 165 13,
oM 166 20,
oC 167 .rem 166 4,
oB 168 .add 165 167,
oM 13 168])
 .skip)))
 (.seq
 (.seq
 (.ops [
oP 170 (.bin .eql (.t 117) (.k (.int .u8 2))),
oM 169 170])
 (.cond (.t 169)
 .skip
 (.ops [
oP 171 (.bin .eql (.t 117) (.k (.int .u8 3))),
oM 169 171])))
 (.cond (.t 169)
 (.seq
 (.ops [
oM 172 9,
oM 173 20,
oC 174 .rem 173 7,
oM 175 16,
oA 176 147 [.t 172, .t 174, .t 175] false,
oM 18 176])
 (.seq
 (.ops [
oM 177 18,
oC 178 .eql 177 0])
 (.cond (.t 178)
 (.seq
 (.seq
 (.ops [
oM 179 20,
oC 180 .rem 179 7,
oM 181 7,
oP 182 (.len (.t 181)),
oB 183 .geq 180 182,
oM 184 183,
oN 185 184 false 11,
oN 186 184 false 20,
oQ 187 184 false (.bin .rem (.t 186) (oK 7)),
oQ 188 184 false (.idxS (.t 185) (.t 187) 1),
oQ 189 184 false (.load (.t 188) none),
oP 190 (.pick (.t 184) (.k (.bool true)) (.t 189)),
oM 191 190,
oN 192 191 false 7,
oN 193 191 false 20,
oQ 194 191 false (.bin .rem (.t 193) (oK 7)),
oQ 195 191 false (.idxS (.t 192) (.t 194) 7),
oQ 196 191 false (.fieldAddr (.t 195) 5),
oQ 197 191 false (.load (.t 196) none),
oN 198 191 false 197,
oN 199 198 true 12,
oQ 200 191 false (.pick (.t 198) (.t 199) (.k (.bool false))),
oP 201 (.pick (.t 191) (.k (.bool true)) (.t 200))])
 (.cond (.t 201)
 (.seq
 (.ops [
oP 6 (.move (.k (.bool false)))])
 .ret)
 .skip))
 (.ops [
oM 202 11,
oM 203 20,
oC 204 .rem 203 7,
oI 205 202 204 1,
⟨none, none, [], .store (.t 205) (.k (.bool true)) 1⟩]))
 .skip)))
 (.seq
 (.ops [
oP 207 (.bin .eql (.t 117) (.k (.int .u8 4))),
oM 206 207])
 (.cond (.t 206)
 (.seq
 (.ops [
oM 208 9,
oM 209 20,
oC 210 .rem 209 7,
oM 211 16,
oA 212 234 [.t 208, .t 210, .t 211] false,
oM 18 212])
 (.seq
 (.ops [
oM 213 18,
oC 214 .eql 213 0])
 (.cond (.t 214)
 (.seq
 (.seq
 (.ops [
oM 215 20,
oC 216 .rem 215 7,
oM 217 7,
oP 218 (.len (.t 217)),
oB 219 .geq 216 218,
oM 220 219,
oN 221 220 false 11,
oN 222 220 false 20,
oQ 223 220 false (.bin .rem (.t 222) (oK 7)),
oQ 224 220 false (.idxS (.t 221) (.t 223) 1),
oQ 225 220 false (.load (.t 224) none),
oQ 226 220 false (.not (.t 225)),
oP 227 (.pick (.t 220) (.k (.bool true)) (.t 226))])
 (.cond (.t 227)
 (.seq
 (.ops [
oP 6 (.move (.k (.bool false)))])
 .ret)
 .skip))
 (.seq
 (.ops [
oM 228 11,
oM 229 20,
oC 230 .rem 229 7,
oI 231 228 230 1,
⟨none, none, [], .store (.t 231) (.k (.bool false)) 1⟩])
 (.seq
 (.ops [
oM 232 7,
oP 233 (.len (.t 232)),
oP 234 (.move (oK 0))])
 (.block 5
 (.loop
 (.seq
 (.ops [
oB 235 .lss 234 233])
 (.seq
 (.cond (.t 235)
 .skip
 (.exit 5))
 (.seq
 (.block 6
 (.seq
 (.ops [
oM 236 234,
oM 22 236])
 (.seq
 (.ops [
oM 237 7,
oM 238 22,
oI 239 237 238 7,
oF 240 239 1,
oL 241 240,
oP 242 (.len (.t 241)),
oP 243 (.move (oK 0))])
 (.block 7
 (.loop
 (.seq
 (.ops [
oB 244 .lss 243 242])
 (.seq
 (.cond (.t 244)
 .skip
 (.exit 7))
 (.seq
 (.block 8
 (.seq
 (.ops [
oI 245 241 243 1,
oL 246 245,
oM 24 246])
 (.ops [
oM 247 11,
oM 248 22,
oM 249 11,
oM 250 22,
oI 251 249 250 1,
oL 252 251,
oM 253 252,
oN 254 253 true 11,
oN 255 253 true 24,
oQ 256 253 true (.idxS (.t 254) (.t 255) 1),
oQ 257 253 true (.load (.t 256) none),
oP 258 (.pick (.t 253) (.t 257) (.k (.bool false))),
oI 259 247 248 1,
oT 259 258 1])))
 (.ops [
oC 260 .add 243 1,
oM 243 260])))))))))
 (.ops [
oC 261 .add 234 1,
oM 234 261])))))))))
 .skip)))
 (.seq
 (.ops [
oM 118 20,
oC 119 .rem 118 5,
oP 120 (.bin .add (oK 97) (.t 119)),
oP 121 (.toInt .u8 (.t 120)),
oP 122 (.slit 1 1 [.int .u8 0] [(0, .t 121)]),
oP 123 (.toStr (.t 122)),
⟨some 124, none, [], .strOp .add (.k (.string ⟨⟨[119]⟩⟩)) (.t 123)⟩,
oP 125 (.idxA (.t 17) (oK 2) 3 1),
oL 126 125,
oP 127 (.bin .shr (.t 126) (.k (.int .u64 1))),
oP 128 (.bin .rem (.t 127) (.k (.int .u8 3))),
oP 129 (.bin .add (.k (.int .u8 97)) (.t 128)),
oP 130 (.slit 1 1 [.int .u8 0] [(0, .t 129)]),
oP 131 (.toStr (.t 130)),
⟨some 132, none, [], .strOp .add (.k (.string ⟨⟨[99]⟩⟩)) (.t 131)⟩,
oM 25 124,
oM 26 132])
 (.seq
 (.ops [
oM 133 9,
oM 134 25,
oM 135 26,
oM 136 21,
oM 137 16,
oA 138 148 [.t 133, .t 134, .t 135, .t 136, .t 137] false,
oM 18 138])
 (.seq
 (.ops [
oP 19 (.move (.k (.bool false)))])
 (.seq
 (.ops [
oM 139 18,
oC 140 .eql 139 0])
 (.cond (.t 140)
 (.ops [
oM 141 14,
oM 142 25,
oM 143 15,
oM 144 25,
oM 145 21,
oM 146 26,
⟨none, none, [], .mapSet (.t 141) (.t 142) (.t 145) 1⟩,
⟨none, none, [], .mapSet (.t 143) (.t 144) (.t 146) 1⟩])
 .skip)))))))))))))))
def u0228 : ACode := (.ops [
oP 115 (.idxA (.t 17) (oK 0) 3 1),
oL 116 115,
oP 117 (.bin .rem (.t 116) (.k (.int .u8 6)))])
def u1228 : ACode := (.ops [
oP 148 (.bin .eql (.t 117) (.k (.int .u8 0))),
oM 147 148])
def u2228 : ACode := (.ops [
oP 157 (.bin .eql (.t 117) (.k (.int .u8 1))),
oM 156 157])
def u3228 : ACode := (.seq
 (.ops [
oP 170 (.bin .eql (.t 117) (.k (.int .u8 2))),
oM 169 170])
 (.cond (.t 169)
 .skip
 (.ops [
oP 171 (.bin .eql (.t 117) (.k (.int .u8 3))),
oM 169 171])))
def u4228 : ACode := (.ops [
oP 207 (.bin .eql (.t 117) (.k (.int .u8 4))),
oM 206 207])
def pK228 : ACode := (.seq
 (.ops [
oM 287 14,
oP 288 (.rangeI (.t 287))])
 (.block 11
 (.loop
 (.seq
 (.ops [
oP 289 (.nextI (.t 288)),
oX 290 289 0])
 (.seq
 (.cond (.t 290)
 .skip
 (.exit 11))
 (.block 12
 (.seq
 (.ops [
oP 291 (.entryI (.t 288)),
oX 292 291 0,
oX 293 291 1,
oM 35 292,
oM 36 293])
 (.seq
 (.ops [
oM 294 31,
oM 295 294,
oN 296 295 false 36,
oQ 297 295 false (.not (.t 296)),
oP 298 (.pick (.t 295) (.k (.bool true)) (.t 297)),
oM 31 298])
 (.ops [
oM 299 32,
oM 300 15,
oM 301 35,
⟨some 302, none, [], .lookup (.t 300) (.t 301) 1 (.string ⟨⟨[]⟩⟩) false⟩,
⟨none, none, [], .mapSet (.t 299) (.t 302) (.k (.bool true)) 1⟩])))))))))
def rest228 : ACode := (.seq
 (.ops [
oM 294 31,
oM 295 294,
oN 296 295 false 36,
oQ 297 295 false (.not (.t 296)),
oP 298 (.pick (.t 295) (.k (.bool true)) (.t 297)),
oM 31 298])
 (.ops [
oM 299 32,
oM 300 15,
oM 301 35,
⟨some 302, none, [], .lookup (.t 300) (.t 301) 1 (.string ⟨⟨[]⟩⟩) false⟩,
⟨none, none, [], .mapSet (.t 299) (.t 302) (.k (.bool true)) 1⟩]))
theorem eqF228 : pF228 = .seq u0228 (.block 4 (.seq u1228 (.cond (.t 147) pa228 (.seq u2228 (.cond (.t 156) pb228 (.seq u3228 (.cond (.t 169) pc228 (.seq u4228 (.cond (.t 206) pd228 pe228))))))))) := rfl
def U228 : MapCode := ⟨11, 12, 288, 289, 290, 291, [oX 292 291 0, oX 293 291 1, oM 35 292, oM 36 293], rest228⟩
theorem eqK228 : pK228 = .seq (.ops ([oM 287 14] ++ [⟨some U228.tI, none, [], .rangeI (.t 287)⟩])) (.block U228.bL (.loop U228.round)) := rfl
section
variable {g : Nat} {rd : Option Nat} {T : List Value} {D : List Nat} {A : Hp} {Q : Ex → St → Prop} {V : Value → Hp → Prop} {R : Hp} {p : GP} {s : GS} {DD M1 M2 : Nat} {tot t : Int}
theorem pF228_ok {n c0 c2 : Int} {X17 : Nat} {is : Bool} {sv : Value} (hc0 : 0 ≤ c0 ∧ c0 ≤ 255) (hn0 : 0 ≤ n ∧ n ≤ 255) (hc2 : 0 ≤ c2 ∧ c2 ≤ 255) (h17 : A.get X17 = some (.cells [.int .u8 c0, .int .u8 n, .int .u8 c2] false)) (hS : SOk p) (hA : AftOk p.S p.n) (hst : Steps R p.n p.S sv) (h : LI R A p s DD tot t) (hm : MI A p s.es M1 M2 DD) (hk : KeyOk s.es) (hg : g ≤ p.L)
    (t7 : tget T 7 = sv) (t17 : tget T 17 = .pointer (some ⟨X17, 0, none⟩)) (t9 : tget T 9 = .pointer (some ⟨p.G, 0, none⟩)) (t11 : tget T 11 = .slice (some ⟨DD, 0, some 1⟩) p.n p.n) (t14 : tget T 14 = .map (some M1)) (t15 : tget T 15 = .map (some M2)) (t20 : tget T 20 = .int .i64 n) (t21 : tget T 21 = .bool is) (t16 : tget T 16 = .int .i64 t) (t12 : tget T 12 = .bool s.ship) (t13 : tget T 13 = .int .i64 tot) (t19 : tget T 19 = .bool true)
    (hQ : ∀ T' A', After R p DD M1 M2 t A T T' A' → Q .normal ⟨T', D, A'⟩) : W AP KL g rd pF228 ⟨T, D, A⟩ Q := by
  obtain ⟨kd, hkd⟩ : ∃ kd, kd = c0.tmod 6 := ⟨_, rfl⟩
  have fin : ∀ (T1 : List Value), KeepT KK T T1 → ∀ T' A', After R p DD M1 M2 t A T1 T' A' → Q .normal ⟨T', D, A'⟩ := by
    rintro T1 k1 T' A' ⟨e, tot', s', ch, kk, rest⟩
    exact hQ T' A' ⟨e, tot', s', ch, k1.trans kk, rest⟩
  by_cases d0 : kd = 0
  · simp (disch := as_aux_lemma => first | omega | simp only [hDs] <;> omega | simp [isCell]) [hRs, takeMarks, resA, resAll, resOne, Value.cells, eqF228, u0228, u1228, t17, idxAA_ok, h17, binA_rem8, ← hkd, d0]
    exact pa228_ok (is := is) hS h hm hk hg (by simp [t9]) (by simp [t21]) (by simp [t16]) (by simp [t12]) (by simp [t13]) (by simp [t19]) fun T' A' ha => by simp (disch := as_aux_lemma => first | omega | simp only [hDs] <;> omega | simp [isCell]) [hRs, takeMarks, resA, resAll, resOne, Value.cells]; exact fin _ (by simp) T' A' ha
  by_cases d1 : kd = 1
  · simp (disch := as_aux_lemma => first | omega | simp only [hDs] <;> omega | simp [isCell]) [hRs, takeMarks, resA, resAll, resOne, Value.cells, eqF228, u0228, u1228, u2228, t17, idxAA_ok, h17, binA_rem8, ← hkd, d0, d1]
    exact pb228_ok (n := n) hn0 hS h hm hk hg (by simp [t9]) (by simp [t20]) (by simp [t16]) (by simp [t12]) (by simp [t13]) (by simp [t19]) fun T' A' ha => by simp (disch := as_aux_lemma => first | omega | simp only [hDs] <;> omega | simp [isCell]) [hRs, takeMarks, resA, resAll, resOne, Value.cells]; exact fin _ (by simp) T' A' ha
  by_cases d2 : kd = 2
  · simp (disch := as_aux_lemma => first | omega | simp only [hDs] <;> omega | simp [isCell]) [hRs, takeMarks, resA, resAll, resOne, Value.cells, eqF228, u0228, u1228, u2228, u3228, t17, idxAA_ok, h17, binA_rem8, ← hkd, d0, d1, d2]
    exact pc228_ok (n := n) (sv := sv) hn0 hS hA hst h hm hk hg (by simp [t7]) (by simp [t9]) (by simp [t11]) (by simp [t20]) (by simp [t16]) (by simp [t12]) (by simp [t13]) (by simp [t19]) fun T' A' ha => by simp (disch := as_aux_lemma => first | omega | simp only [hDs] <;> omega | simp [isCell]) [hRs, takeMarks, resA, resAll, resOne, Value.cells]; exact fin _ (by simp) T' A' ha
  by_cases d3 : kd = 3
  · simp (disch := as_aux_lemma => first | omega | simp only [hDs] <;> omega | simp [isCell]) [hRs, takeMarks, resA, resAll, resOne, Value.cells, eqF228, u0228, u1228, u2228, u3228, t17, idxAA_ok, h17, binA_rem8, ← hkd, d0, d1, d2, d3]
    exact pc228_ok (n := n) (sv := sv) hn0 hS hA hst h hm hk hg (by simp [t7]) (by simp [t9]) (by simp [t11]) (by simp [t20]) (by simp [t16]) (by simp [t12]) (by simp [t13]) (by simp [t19]) fun T' A' ha => by simp (disch := as_aux_lemma => first | omega | simp only [hDs] <;> omega | simp [isCell]) [hRs, takeMarks, resA, resAll, resOne, Value.cells]; exact fin _ (by simp) T' A' ha
  by_cases d4 : kd = 4
  · simp (disch := as_aux_lemma => first | omega | simp only [hDs] <;> omega | simp [isCell]) [hRs, takeMarks, resA, resAll, resOne, Value.cells, eqF228, u0228, u1228, u2228, u3228, u4228, t17, idxAA_ok, h17, binA_rem8, ← hkd, d0, d1, d2, d3, d4]
    exact pd228_ok (n := n) (sv := sv) hn0 hS hA hst h hm hk hg (by simp [t7]) (by simp [t9]) (by simp [t11]) (by simp [t20]) (by simp [t16]) (by simp [t12]) (by simp [t13]) (by simp [t19]) fun T' A' ha => by simp (disch := as_aux_lemma => first | omega | simp only [hDs] <;> omega | simp [isCell]) [hRs, takeMarks, resA, resAll, resOne, Value.cells]; exact fin _ (by simp) T' A' ha
  · simp (disch := as_aux_lemma => first | omega | simp only [hDs] <;> omega | simp [isCell]) [hRs, takeMarks, resA, resAll, resOne, Value.cells, eqF228, u0228, u1228, u2228, u3228, u4228, t17, idxAA_ok, h17, binA_rem8, ← hkd, d0, d1, d2, d3, d4]
    exact pe228_ok (n := n) (c0 := c0) (c2 := c2) (X17 := X17) (is := is) hn0 hc2 h17 h hm hk hg (by simp [t17]) (by simp [t9]) (by simp [t14]) (by simp [t15]) (by simp [t20]) (by simp [t21]) (by simp [t16]) (by simp [t12]) (by simp [t13]) fun T' A' ha => by simp (disch := as_aux_lemma => first | omega | simp only [hDs] <;> omega | simp [isCell]) [hRs, takeMarks, resA, resAll, resOne, Value.cells]; exact fin _ (by simp) T' A' ha
theorem w149_ok (hG : GateAt A p s) (hn : p.n ≤ 1000) (hes : s.es.length ≤ 12) (hno : toldV s.es s.ship s.d = false → V (.tuple ⟨[.bool false, .slice none 0 0, .int .i64 0]⟩) A)
    (hyes : toldV s.es s.ship s.d = true → ∀ A' sv, Ext' A A' → lenV sv = some (.int .i64 s.es.length) → (∃ a b c, sv = .slice a b c) → V (.tuple ⟨[.bool true, sv, .int .i64 0]⟩) A') : WF AP KL g 149 [.pointer (some ⟨p.G, 0, none⟩)] A V := by
  rw [WF_spec (show KL 149 = some S149 from rfl)]
  have hlt := hG.lt
  have gg := hG.hg
  unfold gateC at gg
  have h1 := seenOf_enc s.es
  have h2 := readB_ok (c := p.n) hG.hd
  rw [hG.dl] at h2
  have hlv : inV1 (fun y => Nat.blt y A.n) p.lv = true := by
    obtain ⟨B, hB1, hB2, cells, hr, _⟩ := hG.st
    obtain ⟨_, ⟨h, _⟩ | ⟨b, c, ro, h, hb⟩⟩ := hr
    · rw [h]; rfl
    · rw [h]
      have := Hp.lt_of_get hb
      show Nat.blt b A.n = true
      exact Nat.ble_eq_true_of_le (by omega)
  have hc : (Nat.ble s.es.length 12 && Nat.blt s.d.length 1000000 && inV1 (fun y => Nat.blt y A.n) p.lv && simple (.int .i64 s.logs) && simple (.int .i64 s.time)) = true := by
    rw [hlv]
    have a1 : Nat.ble s.es.length 12 = true := Nat.ble_eq_true_of_le hes
    have a2 : Nat.blt s.d.length 1000000 = true := Nat.ble_eq_true_of_le (by have := hG.dl; omega)
    rw [a1, a2]; rfl
  simp only [S149, gg, hG.hm, h1, h2, hc]
  cases ht : toldV s.es s.ship s.d with
  | true =>
    refine hyes ht _ _ (Ext'.push A _) ?_ ⟨_, _, _, rfl⟩
    rfl
  | false => exact hno ht
abbrev KR : List Nat := [7, 9, 11, 12, 13, 14, 15, 18, 19, 27, 28, 29, 30, 101, 102, 103]
def crM (es : List Seen) : List (Value × Value) := es.map fun e => (Value.string e.1, Value.string e.2.1)
theorem rest228_ok {cm : Nat} {c b : Bool} {w cr : ByteArray} {cs : List ByteArray} {es : List Seen} (t31 : tget T 31 = .bool c) (t32 : tget T 32 = .map (some cm)) (t15 : tget T 15 = .map (some M2)) (t35 : tget T 35 = .string w) (t36 : tget T 36 = .bool b) (h2 : A.get M2 = some (.map (crM es) none)) (hcm : A.get cm = some (.map (crewM cs) none)) (hf : fS w (es.map fun e => (e.1, e.2.1)) = some cr) (hg : g ≤ cm)
    (hq : ∀ T', KeepT (288 :: 32 :: KR) T T' → tget T' 31 = .bool (c || !b) → Q .normal ⟨T', D, A.set cm (some (.map (crewM (addS cr cs)) none))⟩) : W AP KL g rd rest228 ⟨T, D, A⟩ Q := by
  have hl : lookupA A 1 (.string ⟨⟨[]⟩⟩) false (.map (some M2)) (.string w) = some (.string cr) := by
    have h3 : crM es = (es.map fun e => (e.1, e.2.1)).map fun e : ByteArray × ByteArray => (Value.string e.1, Value.string e.2) := by rw [List.map_map]; rfl
    simp only [lookupA, mapOf, h2, keyFits, h3, findM_fS, hf]
    rfl
  cases c with
  | true =>
    simp (disch := as_aux_lemma => first | omega | simp only [hDs] <;> omega | simp [isCell]) [hRs, takeMarks, resA, resAll, resOne, Value.cells, rest228, t31, t32, t15, t35, hl, mapSetA, hcm, keyFits, setM_crew, hg, storeV]
    exact hq _ (by simp) (by simp)
  | false =>
    simp (disch := as_aux_lemma => first | omega | simp only [hDs] <;> omega | simp [isCell]) [hRs, takeMarks, resA, resAll, resOne, Value.cells, rest228, t31, t36, t32, t15, t35, hl, mapSetA, hcm, keyFits, setM_crew, hg, storeV]
    exact hq _ (by simp) (by simp)
end
end Go.Ab.Dike
namespace Go.Ab.Dike
open Go Go.Ab
def encB (e : Seen) : Value × Value := (.string e.1, .bool e.2.2)
section
variable {g : Nat} {rd : Option Nat} {T : List Value} {D : List Nat} {A : Hp} {Q : Ex → St → Prop} {V : Value → Hp → Prop} {M2 : Nat} {tx : Bool}
theorem iter228 {M : MapRun} {cm a0 : Nat} {es : List Seen} (hcm : a0 ≤ cm) (hg : g ≤ cm) (hcy : cm ≠ M.y) (hy0 : a0 ≤ M.y) (hcmm : cm ≠ M.m) (hym : M.y ≠ M.m) (h2a : M2 < a0) (h2m : M2 ≠ M.m) (hnd : (es.map (·.1)).Nodup) :
    ∀ (n : Nat) (eL : List Seen) (c : Bool) (cs : List ByteArray) (T : List Value) (A : Hp) (gi : Option Nat × Nat × Array Nat × Nat), eL.length = n → (∀ e ∈ eL, e ∈ es) → tget T 288 = ptrY M.y → tget T 31 = .bool c → tget T 32 = .map (some cm) → tget T 15 = .map (some M2) → M.held A → A.get M.y = some (.iter gi) → A.get cm = some (.map (crewM cs) none) → A.get M2 = some (.map (crM es) none) →
      (∀ T' A' ks, eL.Perm ks → KeepT KR T T' → tget T' 31 = .bool (c || eL.any fun e => !e.2.2) → tget T' 32 = .map (some cm) → A'.get cm = some (.map (crewM (setS cs (ks.map fun e => e.2.1))) none) → A.n ≤ A'.n → A'.get M.m = some (.map M.l M.lk) → (∀ x, x < a0 → x ≠ M.m → A'.get x = A.get x) → Q .normal ⟨T', D, A'⟩) →
      WN AP KL tf (.iter tx g rd U228 M (eL.map encB) ⟨T, D, A⟩ Q) := by
  intro n
  induction n with
  | zero =>
    intro eL c cs T A gi hl hsub h288 h31 h32 h15 hh hy hc h2 hq
    obtain rfl := List.eq_nil_of_length_eq_zero hl
    have hf : ∀ x, (M.free A).get x = if x = M.m then some (.map M.l M.lk) else A.get x := fun x => Hp.get_set hh _ x
    refine .over h288 ⟨hh, hq _ (M.free A) [] (.refl _) (by simp [overT, U228]) (by simp [overT, U228, h31]) (by simp [overT, U228, h32]) ?_ (Nat.le_refl _) (by rw [hf, if_pos rfl]) fun x _ hx => by rw [hf, if_neg hx]⟩
    rw [hf, if_neg hcmm]; exact hc
  | succ n ih =>
    intro eL c cs T A gi hl hsub h288 h31 h32 h15 hh hy hc h2 hq
    have hyn := Hp.lt_of_get hy
    have hcn := Hp.lt_of_get hc
    have h2n := Hp.lt_of_get h2
    refine .step (R := fun k v left' gi' T2 A2 => KeepT KR T T2 ∧ tget T2 31 = .bool c ∧ tget T2 32 = .map (some cm) ∧ tget T2 288 = ptrY M.y ∧ tget T2 35 = k ∧ tget T2 36 = v ∧ A2 = A.set M.y (some (.iter gi')))
      (Q1 := fun k v left' gi' ex st' => ∃ e ∈ eL, (k, v) = encB e ∧ st'.D = D ∧ ex = .normal ∧ KeepT KR T st'.T ∧ tget st'.T 31 = .bool (c || !e.2.2) ∧ tget st'.T 32 = .map (some cm) ∧ tget st'.T 288 = ptrY M.y ∧ st'.A.get cm = some (.map (crewM (addS e.2.1 cs)) none) ∧ A.n ≤ st'.A.n ∧ M.held st'.A ∧ st'.A.get M.y = some (.iter gi') ∧ ∀ x, x < a0 → x ≠ M.m → st'.A.get x = A.get x)
      (by intro h; have : eL = [] := by simpa using h
          subst this; simp at hl) ⟨by decide, by decide⟩ h288 ?_ ?_ ?_ ?_ ?_ ?_
    · intro k v left' gi' hp
      simp (disch := as_aux_lemma => first | omega | simp only [hDs] <;> omega | simp [isCell]) [hRs, takeMarks, resA, resAll, resOne, Value.cells, U228, stepT, h31, h32, h288]
    · rintro k v left' gi' T2 A2 hp ⟨r0, r31, r32, r288, r35, r36, rfl⟩
      obtain ⟨l1, h1, h2'⟩ := perm_map_inv hp rfl
      match l1, h2' with
      | e :: l2, h2' =>
        simp only [List.map_cons, List.cons.injEq] at h2'
        have hkv : (k, v) = encB e := h2'.1.symm
        have hem : e ∈ eL := h1.mem_iff.2 (List.mem_cons_self ..)
        have hk : k = .string e.1 := congrArg Prod.fst hkv
        have hv : v = .bool e.2.2 := congrArg Prod.snd hkv
        rw [hk] at r35
        rw [hv] at r36
        have hset : ∀ x, (A.set M.y (some (.iter gi'))).get x = if x = M.y then some (.iter gi') else A.get x := fun x => Hp.get_set hy _ x
        have r15 := (r0.at 15 rfl).trans h15
        have hBc : (A.set M.y (some (.iter gi'))).get cm = some (.map (crewM cs) none) := by rw [hset, if_neg hcy]; exact hc
        have hB2 : (A.set M.y (some (.iter gi'))).get M2 = some (.map (crM es) none) := by rw [hset, if_neg (by omega)]; exact h2
        have hBh : M.held (A.set M.y (some (.iter gi'))) := by
          show _ = _
          rw [hset, if_neg (Ne.symm hym)]; exact hh
        have hfs : fS e.1 (es.map fun e => (e.1, e.2.1)) = some e.2.1 := by
          have hn' : ((es.map fun e : Seen => (e.1, e.2.1)).map (·.1)).Nodup := by rw [List.map_map]; exact hnd
          exact fS_mem (e := (e.1, e.2.1)) hn' (List.mem_map.2 ⟨e, hsub e hem, rfl⟩)
        refine .det (rest228_ok (es := es) (w := e.1) (cr := e.2.1) (b := e.2.2) (cs := cs) r31 r32 r15 r35 r36 hB2 hBc hfs hg ?_)
        intro T' kk t31'
        have hC : ∀ x b, ((A.set M.y (some (.iter gi'))).set cm b).get x = if x = cm then b else (A.set M.y (some (.iter gi'))).get x := fun x b => Hp.get_set hBc b x
        refine ⟨e, hem, hkv, rfl, rfl, r0.trans (kk.sub rfl), t31', (kk.at 32 rfl).trans r32, (kk.at 288 rfl).trans r288, by rw [hC, if_pos rfl], by simp, ?_, ?_, fun x hx hxm => ?_⟩
        · show _ = _
          rw [hC, if_neg (Ne.symm hcmm)]; exact hBh
        · rw [hC, if_neg (Ne.symm hcy), hset, if_pos rfl]
        · rw [hC, if_neg (by omega), hset, if_neg (by omega)]
    · rintro k v left' gi' st' hp (⟨e, _, _, _, _, _, _, _, _, _, _, k1, k2, _⟩ | ⟨e, _, _, _, h, _⟩)
      · exact ⟨k1, k2⟩
      · cases h
    · rintro k v left' gi' ⟨T2, D2, A2⟩ hp (⟨e, hem, hkv, rfl, _, k0, k31, k32, k288, kc, kn, kh, ky, ko⟩ | ⟨e, _, _, _, h, _⟩)
      · obtain ⟨l1, h1, h2'⟩ := perm_map_inv hp rfl
        match l1, h2' with
        | e' :: l2, h2' =>
          simp only [List.map_cons, List.cons.injEq] at h2'
          have hem' : e' ∈ eL := h1.mem_iff.2 (List.mem_cons_self ..)
          have he : e' = e := by
            have h3 : encB e' = encB e := h2'.1.trans hkv
            have h4 : e'.1 = e.1 := by
              have := congrArg Prod.fst h3
              injection this
            have f1 := fS_mem hnd (hsub e hem)
            have f2 := fS_mem hnd (hsub e' hem')
            rw [h4, f1] at f2
            have := Option.some.inj f2
            exact Prod.ext h4 this.symm
          subst he
          have hl2 : l2.length = n := by have := h1.length_eq; simp at this; omega
          rw [← h2'.2]
          have kh2 : A2.get M2 = some (.map (crM es) none) := (ko M2 h2a h2m).trans h2
          simp only at k31 k32 k288 kc kn kh ky ko
          refine ih l2 (c || !e'.2.2) (addS e'.2.1 cs) T2 A2 gi' hl2 (fun f hf => hsub f (h1.mem_iff.2 (List.mem_cons_of_mem _ hf))) k288 k31 k32 ((k0.at 15 rfl).trans h15) kh ky kc kh2 fun T' A' ks p1 p2 p3 p4 p5 p6 p7 p8 => ?_
          refine hq T' A' (e' :: ks) (h1.trans (p1.cons _)) (k0.trans p2) ?_ p4 p5 (by omega) p7 fun x hx hxm => by rw [p8 x hx hxm, ko x hx hxm]
          rw [p3]
          have : (eL.any fun e => !e.2.2) = ((e' :: l2).any fun e => !e.2.2) := by
            rw [Bool.eq_iff_iff, List.any_eq_true, List.any_eq_true]
            constructor
            · rintro ⟨x, hx, h⟩; exact ⟨x, h1.mem_iff.1 hx, h⟩
            · rintro ⟨x, hx, h⟩; exact ⟨x, h1.mem_iff.2 hx, h⟩
          rw [this, List.any_cons, Bool.or_assoc]
      · cases h
    · rintro k v left' gi' ⟨T2, D2, A2⟩ hp ⟨e, _, _, _, h, _⟩
      cases h
    · rintro k v left' gi' i st' hp hi ⟨e, _, _, _, h, _⟩
      cases h
end
end Go.Ab.Dike
namespace Go.Ab.Dike
open Go Go.Ab
def pG228 : ACode := (.seq
 (.ops [
oM 262 19,
oM 263 262,
oN 264 263 true 18,
oQ 265 263 true (.bin .eql (.t 264) (oK 0)),
oP 266 (.pick (.t 263) (.t 265) (.k (.bool false)))])
 (.cond (.t 266)
 (.ops [
oP 267 (.makeM),
oP 268 (.makeM),
oM 14 267,
oM 15 268])
 .skip))
def pH228 : ACode := (.ops [
oM 270 9,
oA 271 149 [.t 270] false,
oM 269 271,
oX 272 269 0,
oX 273 269 1,
oX 274 269 2,
oM 27 272,
oM 28 273,
oM 29 274])
def pI228 : ACode := (.ops [
oP 275 (.makeM),
oP 30 (.move (.k (.bool true))),
oP 31 (.move (.k (.bool false))),
oM 32 275])
def pJ228 : ACode := (.seq
 (.ops [
oM 276 11,
oP 277 (.len (.t 276)),
oP 278 (.move (oK 0))])
 (.block 9
 (.loop
 (.seq
 (.ops [
oB 279 .lss 278 277])
 (.seq
 (.cond (.t 279)
 .skip
 (.exit 9))
 (.seq
 (.block 10
 (.seq
 (.ops [
oI 280 276 278 1,
oL 281 280,
oM 34 281])
 (.ops [
oM 282 30,
oM 283 282,
oN 284 283 true 34,
oP 285 (.pick (.t 283) (.t 284) (.k (.bool false))),
oM 30 285])))
 (.ops [
oC 286 .add 278 1,
oM 278 286])))))))
def pL228 : ACode := (.seq
 (.ops [
oM 303 29,
oC 304 .neq 303 0,
oM 305 304,
oN 306 305 false 27,
oN 307 305 false 30,
oN 308 305 false 307,
oN 309 308 true 12,
oQ 310 308 true (.not (.t 309)),
oQ 311 305 false (.pick (.t 308) (.t 310) (.k (.bool false))),
oN 312 305 false 311,
oN 313 312 true 31,
oQ 314 312 true (.not (.t 313)),
oQ 315 305 false (.pick (.t 312) (.t 314) (.k (.bool false))),
oN 316 305 false 315,
oN 317 316 true 32,
oQ 318 316 true (.lenM (.t 317)),
oQ 319 316 true (.bin .geq (.t 318) (oK 2)),
oQ 320 305 false (.pick (.t 316) (.t 319) (.k (.bool false))),
oQ 321 305 false (.beq true (.t 306) (.t 320)),
oP 322 (.pick (.t 305) (.k (.bool true)) (.t 321)),
oM 323 322,
oN 324 323 false 27,
oN 325 323 false 324,
oN 326 325 true 28,
oQ 327 325 true (.len (.t 326)),
oN 328 325 true 14,
oQ 329 325 true (.lenM (.t 328)),
oQ 330 325 true (.bin .neq (.t 327) (.t 329)),
oQ 331 323 false (.pick (.t 325) (.t 330) (.k (.bool false))),
oP 332 (.pick (.t 323) (.k (.bool true)) (.t 331)),
oM 333 332,
oN 334 333 false 27,
oQ 335 333 false (.not (.t 334)),
oN 336 333 false 335,
oN 337 336 true 28,
oQ 338 336 true (.len (.t 337)),
oQ 339 336 true (.bin .neq (.t 338) (oK 0)),
oQ 340 333 false (.pick (.t 336) (.t 339) (.k (.bool false))),
oP 341 (.pick (.t 333) (.k (.bool true)) (.t 340)),
oM 342 341,
oN 343 342 false 27,
oN 344 342 false 343,
oN 345 344 true 19,
oQ 346 342 false (.pick (.t 344) (.t 345) (.k (.bool false))),
oN 347 342 false 346,
oN 348 347 true 18,
oQ 349 347 true (.bin .eql (.t 348) (oK 0)),
oQ 350 342 false (.pick (.t 347) (.t 349) (.k (.bool false))),
oP 351 (.pick (.t 342) (.k (.bool true)) (.t 350))])
 (.cond (.t 351)
 (.seq
 (.ops [
oP 6 (.move (.k (.bool false)))])
 .ret)
 .skip))
def pM228 : ACode := (.ops [
oM 353 9,
oA 354 235 [.t 353] false,
oM 352 354,
oX 355 352 0,
oX 356 352 1,
oM 37 355,
oM 38 356])
def pN228 : ACode := (.ops [
oP 39 (.move (oK 0))])
def pO228 : ACode := (.seq
 (.ops [
oM 357 11,
oP 358 (.len (.t 357)),
oP 359 (.move (oK 0))])
 (.block 13
 (.loop
 (.seq
 (.ops [
oB 360 .lss 359 358])
 (.seq
 (.cond (.t 360)
 .skip
 (.exit 13))
 (.seq
 (.block 14
 (.seq
 (.ops [
oM 361 359,
oI 362 357 359 1,
oL 363 362,
oM 40 361,
oM 41 363])
 (.seq
 (.seq
 (.ops [
oM 364 41])
 (.cond (.t 364)
 (.ops [
oM 365 39,
oM 366 7,
oM 367 40,
oI 368 366 367 7,
oF 369 368 6,
oL 370 369,
oB 371 .add 365 370,
oM 39 371])
 .skip))
 (.seq
 (.ops [
oM 372 41,
oM 373 37,
oM 374 40,
oA 375 236 [.t 373, .t 374] false,
oP 376 (.beq false (.t 372) (.t 375))])
 (.cond (.t 376)
 (.seq
 (.ops [
oP 6 (.move (.k (.bool false)))])
 .ret)
 .skip)))))
 (.ops [
oC 377 .add 359 1,
oM 359 377])))))))
def pP228 : ACode := (.seq
 (.ops [
oM 378 39,
oM 379 38,
oB 380 .add 378 379,
oM 381 13,
oB 382 .neq 380 381])
 (.cond (.t 382)
 (.seq
 (.ops [
oP 6 (.move (.k (.bool false)))])
 .ret)
 .skip))
def allD (d : List Bool) : Nat → Bool
  | 0 => true
  | i + 1 => allD d i && gb d i
theorem allD_eq {d : List Bool} : allD d d.length = d.all id := by
  have : ∀ (d : List Bool) (n : Nat), n ≤ d.length → allD d n = (d.take n).all id := by
    intro d n
    induction n with
    | zero => intro _; rfl
    | succ n ih =>
      intro h
      rw [allD, ih (by omega), List.take_add_one, List.getElem?_eq_getElem (by omega), List.all_append]
      simp [gb, show n < d.length by omega]
  rw [this d d.length (Nat.le_refl _), List.take_length]
section
variable {g : Nat} {rd : Option Nat} {T : List Value} {D : List Nat} {A : Hp} {Q : Ex → St → Prop} {V : Value → Hp → Prop} {R : Hp} {p : GP} {s : GS} {DD M1 M2 : Nat} {tot t : Int}
theorem loop228f {n : Nat} {d : List Bool} (hd : A.get DD = some (.cells (bools d) false)) (hl : d.length = n) (hn : n ≤ 1000)
    (hQ : ∀ T', KeepT [7, 9, 11, 12, 13, 14, 15, 18, 19, 27, 28, 29, 31, 32, 101, 102, 103] T T' → tget T' 30 = .bool (allD d n) → Q (.exit 9) ⟨T', D, A⟩) :
    ∀ (r i : Nat) {T1 : List Value}, i + r = n → KeepT [7, 9, 11, 12, 13, 14, 15, 18, 19, 27, 28, 29, 31, 32, 101, 102, 103] T T1 → tget T1 30 = .bool (allD d i) → tget T1 276 = .slice (some ⟨DD, 0, some 1⟩) n n → tget T1 277 = .int .i64 n → tget T1 278 = .int .i64 i → W AP KL g rd (.loop body228f) ⟨T1, D, A⟩ Q := by
  intro r
  induction r with
  | zero =>
    intro i T1 hir hk t30 t276 t277 t278
    have : i = n := by omega
    subst this
    rw [W_loop]
    simp (disch := as_aux_lemma => first | omega | simp only [hDs] <;> omega | simp [isCell]) [hRs, takeMarks, resA, resAll, resOne, Value.cells, body228f, t277, t278]
    exact hQ _ (hk.trans (by simp)) (by simp [t30])
  | succ r ih =>
    intro i T1 hir hk t30 t276 t277 t278
    have hb := gb_at (l := d) (i := i) (by omega)
    have e1 := wrId (n := (i : Int) + 1) (by omega) (by omega)
    rw [W_loop]
    cases c : allD d i with
    | false =>
      rw [c] at t30
      simp (disch := as_aux_lemma => first | omega | simp only [hDs] <;> omega | simp [isCell]) [hRs, takeMarks, resA, resAll, resOne, Value.cells, body228f, t30, t276, t277, t278, show ((i : Int) < n) by omega, idxSA_ok, hd, hb]
      exact ih (i + 1) (by omega) (hk.trans (by simp)) (by rw [allD, c, Bool.false_and]; simp) (by simp [t276]) (by simp [t277]) (by simp [e1, t278])
    | true =>
      rw [c] at t30
      simp (disch := as_aux_lemma => first | omega | simp only [hDs] <;> omega | simp [isCell]) [hRs, takeMarks, resA, resAll, resOne, Value.cells, body228f, t30, t276, t277, t278, show ((i : Int) < n) by omega, idxSA_ok, hd, hb]
      exact ih (i + 1) (by omega) (hk.trans (by simp)) (by rw [allD, c, Bool.true_and]; simp) (by simp [t276]) (by simp [t277]) (by simp [e1, t278])
theorem loop228h {n nl : Nat} {d : List Bool} {S : Nat → StepT} {sv lf : Value} (hd : A.get DD = some (.cells (bools d) false)) (hl : d.length = n) (hn : n ≤ 40) (hst : Steps A n S sv) (hlg : ∀ i, i < n → 0 ≤ (S i).logs ∧ (S i).logs ≤ 100) (hlf : RdS A 1 nl (ints (leftL d n)) lf) (hnl : nl ≤ 1000)
    (hQ : ∀ T', KeepT [7, 9, 11, 12, 13, 14, 15, 37, 38, 101, 102, 103] T T' → tget T' 39 = .int .i64 (usedL S d n) → Q (.exit 13) ⟨T', D, A⟩) (t7 : tget T 7 = sv) (t37 : tget T 37 = lf) :
    ∀ (r i : Nat) {T1 : List Value}, i + r = n → KeepT [7, 9, 11, 12, 13, 14, 15, 37, 38, 101, 102, 103] T T1 → tget T1 39 = .int .i64 (usedL S d i) → tget T1 357 = .slice (some ⟨DD, 0, some 1⟩) n n → tget T1 358 = .int .i64 n → tget T1 359 = .int .i64 i → W AP KL g rd (.loop body228h) ⟨T1, D, A⟩ Q := by
  intro r
  induction r with
  | zero =>
    intro i T1 hir hk t39 t357 t358 t359
    have : i = n := by omega
    subst this
    rw [W_loop]
    simp (disch := as_aux_lemma => first | omega | simp only [hDs] <;> omega | simp [isCell]) [hRs, takeMarks, resA, resAll, resOne, Value.cells, body228h, t358, t359]
    exact hQ _ (hk.trans (by simp)) (by simp [t39])
  | succ r ih =>
    intro i T1 hir hk t39 t357 t358 t359
    have u7 := (hk.at 7 rfl).trans t7
    have u37 := (hk.at 37 rfl).trans t37
    have hb := gb_at (l := d) (i := i) (by omega)
    obtain ⟨x, c, ro, cells, rfl, hx, hcl, hat⟩ := hst.at (i := i) (by omega)
    obtain ⟨a, p1, p2, p3, p4, p5, p6, p7, p8, p9, ra⟩ := hat i (by omega)
    have ub := used_bd (S := S) (d := d) (n := i) fun k hk => hlg k (by omega)
    have lg := hlg i (by omega)
    have e1 := wrId (n := (i : Int) + 1) (by omega) (by omega)
    have e2 := wrId (n := usedL S d i + (S i).logs) (by omega) (by omega)
    have hli := left_iff (d := d) (n := n) (i := i) (by omega)
    rw [W_loop]
    cases c : gb d i with
    | false =>
      rw [c] at hb hli
      simp (disch := as_aux_lemma => first | omega | simp only [hDs] <;> omega | simp [isCell]) [hRs, takeMarks, resA, resAll, resOne, Value.cells, body228h, t357, t358, t359, show ((i : Int) < n) by omega, idxSA_ok, hd, hb, u37]
      refine w236 hlf hnl ?_
      rw [hli]
      simp (disch := as_aux_lemma => first | omega | simp only [hDs] <;> omega | simp [isCell]) [hRs, takeMarks, resA, resAll, resOne, Value.cells, t359]
      exact ih (i + 1) (by omega) (hk.trans (by simp)) (by rw [usedL, c]; simp [t39]) (by simp [t357]) (by simp [t358]) (by simp [e1, t359])
    | true =>
      rw [c] at hb hli
      simp (disch := as_aux_lemma => first | omega | simp only [hDs] <;> omega | simp [isCell]) [hRs, takeMarks, resA, resAll, resOne, Value.cells, body228h, t39, t357, t358, t359, show ((i : Int) < n) by omega, idxSA_ok, hd, hb, u7, u37, hx, p9, e2]
      refine w236 hlf hnl ?_
      rw [hli]
      simp (disch := as_aux_lemma => first | omega | simp only [hDs] <;> omega | simp [isCell]) [hRs, takeMarks, resA, resAll, resOne, Value.cells, t359]
      exact ih (i + 1) (by omega) (hk.trans (by simp)) (by rw [usedL, c]; simp) (by simp [t357]) (by simp [t358]) (by simp [e1, t359])
theorem pG228_ok {A0 : Hp} {T0 : List Value} (h : After R p DD M1 M2 t A0 T0 T A) (t14 : tget T0 14 = .map (some M1)) (t15 : tget T0 15 = .map (some M2))
    (hQ : ∀ T' A' (e tot' : Int) (s' : GS) (ch : Bool) (N1 N2 : Nat), KeepT [7, 9, 11, 101, 102, 103] T0 T' → tget T' 18 = .int .i64 e → tget T' 12 = .bool s'.ship → tget T' 13 = .int .i64 tot' → tget T' 19 = .bool ch → tget T' 14 = .map (some N1) → tget T' 15 = .map (some N2) → LI R A' p s' DD tot' t → KeyOk s'.es → (ch = true ∧ e = 0 → s'.es = []) → MI A' p s'.es N1 N2 DD → A0.n ≤ A'.n → Q .normal ⟨T', D, A'⟩) : W AP KL g rd pG228 ⟨T, D, A⟩ Q := by
  obtain ⟨e, tot', s', ch, kk, t18, t12, t13, t19, hL, hK, h1, h2, hn⟩ := h
  have u14 := (kk.at 14 rfl).trans t14
  have u15 := (kk.at 15 rfl).trans t15
  have hlt := hL.gate.lt
  have hdn := Hp.lt_of_get hL.dd
  have hdg := hL.dg
  cases ch with
  | false =>
    simp (disch := as_aux_lemma => first | omega | simp only [hDs] <;> omega | simp [isCell]) [hRs, takeMarks, resA, resAll, resOne, Value.cells, pG228, t19]
    exact hQ _ _ e tot' s' false M1 M2 ((kk.sub rfl).trans (by simp)) (by simp [t18]) (by simp [t12]) (by simp [t13]) (by simp [t19]) (by simp [u14]) (by simp [u15]) hL hK h1 (h2 (by simp)) hn
  | true =>
    by_cases he : e = 0
    · subst he
      have hes := h1 ⟨rfl, rfl⟩
      simp (disch := as_aux_lemma => first | omega | simp only [hDs] <;> omega | simp [isCell]) [hRs, takeMarks, resA, resAll, resOne, Value.cells, pG228, t19, t18]
      have eP := (Ext'.push A (.map [] none)).trans (Ext'.push _ (.map [] none))
      refine hQ _ _ 0 tot' s' true A.n (A.n + 1) ((kk.sub rfl).trans (by simp)) (by simp [t18]) (by simp [t12]) (by simp [t13]) (by simp [t19]) (by simp) (by simp) (hL.ext eP) hK h1 ⟨?_, ?_, by omega, by omega, by omega, by omega, by omega⟩ (Nat.le_trans hn eP.1)
      · rw [get_push_old (by simp), get_push_new, hes]; rfl
      · rw [get_push_eq (by simp), hes]; rfl
    · simp (disch := as_aux_lemma => first | omega | simp only [hDs] <;> omega | simp [isCell]) [hRs, takeMarks, resA, resAll, resOne, Value.cells, pG228, t19, t18, he]
      exact hQ _ _ e tot' s' true M1 M2 ((kk.sub rfl).trans (by simp)) (by simp [t18]) (by simp [t12]) (by simp [t13]) (by simp [t19]) (by simp [u14]) (by simp [u15]) hL hK h1 (h2 fun h => he h.2) hn
theorem pL228_ok {e : Int} {ch told all contr ship : Bool} {sv : Value} {lw ls ld M3 : Nat} (t29 : tget T 29 = .int .i64 0) (t27 : tget T 27 = .bool told) (t28 : tget T 28 = sv) (hsv : lenV sv = some (.int .i64 lw)) (t30 : tget T 30 = .bool all) (t12 : tget T 12 = .bool ship) (t31 : tget T 31 = .bool contr) (t32 : tget T 32 = .map (some M3)) (h3 : lenMA A (.map (some M3)) = some (.int .i64 ld)) (t14 : tget T 14 = .map (some M1)) (h1 : lenMA A (.map (some M1)) = some (.int .i64 ls)) (t19 : tget T 19 = .bool ch) (t18 : tget T 18 = .int .i64 e)
    (htold : told = (all && !ship && !contr && decide ((2 : Int) ≤ ld))) (hw : told = true → lw = ls) (hw0 : told = false → lw = 0) (hch : told = true → ¬ (ch = true ∧ e = 0))
    (hQ : ∀ T', KeepT [7, 9, 11, 12, 13, 14, 15, 101, 102, 103] T T' → Q .normal ⟨T', D, A⟩) : W AP KL g rd pL228 ⟨T, D, A⟩ Q := by
  cases told with
  | true =>
    have hc := hch rfl
    have hww := hw rfl
    subst hww
    have h4 : (all = true ∧ ship = false ∧ contr = false) ∧ (2 : Int) ≤ ld := by
      have := htold.symm
      simp only [Bool.and_eq_true, Bool.not_eq_true', decide_eq_true_eq] at this
      exact ⟨⟨this.1.1.1, this.1.1.2, this.1.2⟩, this.2⟩
    obtain ⟨⟨rfl, rfl, rfl⟩, h5⟩ := h4
    cases ch with
    | false =>
      simp (disch := as_aux_lemma => first | omega | simp only [hDs] <;> omega | simp [isCell]) [hRs, takeMarks, resA, resAll, resOne, Value.cells, pL228, t29, t27, t28, hsv, t30, t12, t31, t32, h3, t14, h1, t19, h5]
      exact hQ _ (by simp)
    | true =>
      have he : ¬ e = 0 := fun h => hc ⟨rfl, h⟩
      simp (disch := as_aux_lemma => first | omega | simp only [hDs] <;> omega | simp [isCell]) [hRs, takeMarks, resA, resAll, resOne, Value.cells, pL228, t29, t27, t28, hsv, t30, t12, t31, t32, h3, t14, h1, t19, t18, h5, he]
      exact hQ _ (by simp)
  | false =>
    have hww := hw0 rfl
    subst hww
    have h4 := htold.symm
    cases all with
    | false =>
      simp (disch := as_aux_lemma => first | omega | simp only [hDs] <;> omega | simp [isCell]) [hRs, takeMarks, resA, resAll, resOne, Value.cells, pL228, t29, t27, t28, hsv, t30]
      exact hQ _ (by simp)
    | true =>
      cases ship with
      | true =>
        simp (disch := as_aux_lemma => first | omega | simp only [hDs] <;> omega | simp [isCell]) [hRs, takeMarks, resA, resAll, resOne, Value.cells, pL228, t29, t27, t28, hsv, t30, t12]
        exact hQ _ (by simp)
      | false =>
        cases contr with
        | true =>
          simp (disch := as_aux_lemma => first | omega | simp only [hDs] <;> omega | simp [isCell]) [hRs, takeMarks, resA, resAll, resOne, Value.cells, pL228, t29, t27, t28, hsv, t30, t12, t31]
          exact hQ _ (by simp)
        | false =>
          have h5 : ¬ (2 : Int) ≤ ld := by simpa using h4
          simp (disch := as_aux_lemma => first | omega | simp only [hDs] <;> omega | simp [isCell]) [hRs, takeMarks, resA, resAll, resOne, Value.cells, pL228, t29, t27, t28, hsv, t30, t12, t31, t32, h3, h5]
          exact hQ _ (by simp)
end
end Go.Ab.Dike
namespace Go.Ab.Dike
open Go Go.Ab
def q0228 : ACode := (.ops [
oB 104 .lss 103 102])
def q1228 : ACode := (.cond (.t 104)
 .skip
 (.exit 2))
def q2228 : ACode := (.ops [
oC 383 .add 103 1,
oM 103 383])
def pA228 : ACode := (.ops [
oM 105 103,
oI 106 101 103 3,
oD 107 106 3,
oP 17 (.alloc [.int .u8 0, .int .u8 0, .int .u8 0]),
oM 16 105,
oT 17 107 3])
def pB228 : ACode := (.ops [
oP 18 (.move (oK 0))])
def pC228 : ACode := (.ops [
oP 19 (.move (.k (.bool true)))])
def pD228 : ACode := (.ops [
oP 108 (.idxA (.t 17) (oK 1) 3 1),
oL 109 108,
oP 110 (.toInt .i64 (.t 109)),
oM 20 110])
def pE228 : ACode := (.ops [
oP 111 (.idxA (.t 17) (oK 2) 3 1),
oL 112 111,
oP 113 (.bin .and (.t 112) (.k (.int .u8 1))),
oP 114 (.bin .eql (.t 113) (.k (.int .u8 1))),
oM 21 114])
theorem eqc228 : body228c = .seq q0228 (.seq q1228 (.seq (.block 3 (.seq pA228 (.seq pB228 (.seq pC228 (.seq pD228 (.seq pE228 (.seq pF228 (.seq pG228 (.seq pH228 (.seq pI228 (.seq pJ228 (.seq pK228 (.seq pL228 (.seq pM228 (.seq pN228 (.seq pO228 pP228)))))))))))))))) q2228)) := rfl
def r0228 : ACode := (.ops [
oP 6 (.move (.k (.bool false)))])
def r1228 : ACode := (.seq
 (.ops [
oM 42 0,
oP 43 (.len (.t 42)),
oC 44 .gtr 43 6,
oM 45 44,
oN 46 45 false 2,
oQ 47 45 false (.len (.t 46)),
oQ 48 45 false (.bin .gtr (.t 47) (oK 40)),
oP 49 (.pick (.t 45) (.k (.bool true)) (.t 48))])
 (.cond (.t 49)
 (.seq
 (.ops [
oA 50 121 [] false,
oM 6 50])
 .ret)
 .skip))
def r2228 : ACode := (.ops [
oM 51 0,
oA 52 143 [.t 51] false,
oM 7 52])
def r3228 : ACode := (.seq
 (.ops [
oM 53 7,
oP 54 (.len (.t 53)),
oP 55 (.move (oK 0))])
 (.block 0
 (.loop
 (.seq
 (.ops [
oB 56 .lss 55 54])
 (.seq
 (.cond (.t 56)
 .skip
 (.exit 0))
 (.seq
 (.block 1
 (.seq
 (.ops [
oM 57 55,
oM 8 57])
 (.seq
 (.ops [
oM 58 1,
oP 59 (.len (.t 58)),
oC 60 .gtr 59 0])
 (.cond (.t 60)
 (.ops [
oM 61 7,
oM 62 8,
oM 63 7,
oM 64 8,
oM 65 1,
oM 66 8,
oM 67 1,
oP 68 (.len (.t 67)),
oB 69 .rem 66 68,
oI 70 65 69 1,
oL 71 70,
oP 72 (.toInt .i64 (.t 71)),
oC 73 .rem 72 4,
oM 74 1,
oM 75 8,
oM 76 1,
oP 77 (.len (.t 76)),
oB 78 .rem 75 77,
oI 79 74 78 1,
oL 80 79,
oP 81 (.bin .shr (.t 80) (.k (.int .u64 2))),
oP 82 (.bin .and (.t 81) (.k (.int .u8 1))),
oP 83 (.bin .eql (.t 82) (.k (.int .u8 1))),
oI 84 61 62 7,
oF 85 84 6,
oT 85 73 1,
oI 86 63 64 7,
oF 87 86 5,
oT 87 83 1])
 .skip))))
 (.ops [
oC 88 .add 55 1,
oM 55 88])))))))
def r4228 : ACode := (.ops [
oM 90 7,
oA 91 146 [.t 90, .k (.int .i64 5)] false,
oM 89 91,
oX 92 89 0,
oX 93 89 1,
oM 9 92,
oM 10 93])
def r5228 : ACode := (.seq
 (.ops [
oM 94 10,
oC 95 .neq 94 0])
 (.cond (.t 95)
 (.seq
 (.ops [
oP 6 (.move (.k (.bool false)))])
 .ret)
 .skip))
def r6228 : ACode := (.ops [
oM 96 7,
oP 97 (.len (.t 96)),
oP 98 (.makeS (.t 97) (.t 97) 1 1 [.bool false]),
oM 11 98])
def r7228 : ACode := (.ops [
oP 12 (.move (.k (.bool false)))])
def r8228 : ACode := (.ops [
oP 13 (.move (oK 5))])
def r9228 : ACode := (.ops [
oP 99 (.makeM),
oM 14 99])
def rA228 : ACode := (.ops [
oP 100 (.makeM),
oM 15 100])
def rB228 : ACode := (.ops [
oM 101 2,
oP 102 (.len (.t 101)),
oP 103 (.move (oK 0))])
def rC228 : ACode := (.seq
 (.ops [
oA 384 121 [] false,
oM 6 384])
 .ret)
theorem eq228 : F228 = .fn 385 [.tmp 6] (.seq r0228 (.seq r1228 (.seq r2228 (.seq r3228 (.seq r4228 (.seq r5228 (.seq r6228 (.seq r7228 (.seq r8228 (.seq r9228 (.seq rA228 (.seq (.seq rB228 (.block 2 (.loop body228c))) rC228)))))))))))) := rfl
theorem kints_three {k : IntKind} {l : List Int} {o : Nat} (h : o + 3 ≤ l.length) : partA (kints k l) o (some 3) = some (.agg ⟨[.int k (gi l o), .int k (gi l (o + 1)), .int k (gi l (o + 2))]⟩) := by
  refine partA_of (vs := [.int k (gi l o), .int k (gi l (o + 1)), .int k (gi l (o + 2))]) (fun j v hv => ?_) (by simp)
  match j with
  | 0 => rw [← (show _ = some v from hv)]; exact kints_get (l := l) (o := o) (by omega)
  | 1 => rw [← (show _ = some v from hv)]; exact kints_get (l := l) (o := o + 1) (by omega)
  | 2 => rw [← (show _ = some v from hv)]; exact kints_get (l := l) (o := o + 2) (by omega)
  | j + 3 => cases hv
theorem LI.later {R A : Hp} {p : GP} {s : GS} {DD : Nat} {tot t t' : Int} (h : LI R A p s DD tot t) (ht : t ≤ t') : LI R A p s DD tot t' := ⟨h.gate, h.fr, h.rl, h.dd, h.dg, h.cl, h.l0, h.lu, h.tt, Int.le_trans h.tm ht⟩
section
variable {g : Nat} {rd : Option Nat} {T : List Value} {D : List Nat} {A : Hp} {Q : Ex → St → Prop} {V : Value → Hp → Prop} {R : Hp} {p : GP} {s : GS} {DD M1 M2 : Nat} {tot t : Int} {tx : Bool}
theorem pH228_ok (hG : GateAt A p s) (hn : p.n ≤ 1000) (hes : s.es.length ≤ 12) (t9 : tget T 9 = .pointer (some ⟨p.G, 0, none⟩))
    (hQ : ∀ T' A' (lw : Nat), KeepT [7, 9, 11, 12, 13, 14, 15, 18, 19, 101, 102, 103] T T' → tget T' 27 = .bool (toldV s.es s.ship s.d) → tget T' 29 = .int .i64 0 → lenV (tget T' 28) = some (.int .i64 lw) → (toldV s.es s.ship s.d = true → lw = s.es.length) → (toldV s.es s.ship s.d = false → lw = 0) → Ext' A A' → Q .normal ⟨T', D, A'⟩) : W AP KL g rd pH228 ⟨T, D, A⟩ Q := by
  simp (disch := as_aux_lemma => first | omega | simp only [hDs] <;> omega | simp [isCell]) [hRs, takeMarks, resA, resAll, resOne, Value.cells, pH228, t9]
  refine w149_ok hG hn hes (fun ht => ?_) fun ht A' sv he hl hsv => ?_
  · rw [ht] at hQ
    simp (disch := as_aux_lemma => first | omega | simp only [hDs] <;> omega | simp [isCell]) [hRs, takeMarks, resA, resAll, resOne, Value.cells]
    exact hQ _ A 0 (by simp) (by simp) (by simp) (by simp) (fun h => by cases h) (fun _ => rfl) (Ext'.refl _)
  · obtain ⟨a, b, c, rfl⟩ := hsv
    rw [ht] at hQ
    simp (disch := as_aux_lemma => first | omega | simp only [hDs] <;> omega | simp [isCell]) [hRs, takeMarks, resA, resAll, resOne, Value.cells]
    exact hQ _ A' s.es.length (by simp) (by simp) (by simp) (by simpa using hl) (fun _ => rfl) (fun h => by cases h) he
structure Inv (R : Hp) (p : GP) (DD : Nat) (sv cl : Value) (m i : Nat) (T : List Value) (A : Hp) (s : GS) (tot : Int) (M1 M2 : Nat) : Prop where
  t7 : tget T 7 = sv
  t9 : tget T 9 = .pointer (some ⟨p.G, 0, none⟩)
  t11 : tget T 11 = .slice (some ⟨DD, 0, some 1⟩) p.n p.n
  t12 : tget T 12 = .bool s.ship
  t13 : tget T 13 = .int .i64 tot
  t14 : tget T 14 = .map (some M1)
  t15 : tget T 15 = .map (some M2)
  t101 : tget T 101 = cl
  t102 : tget T 102 = .int .i64 m
  t103 : tget T 103 = .int .i64 i
  li : LI R A p s DD tot i
  mi : MI A p s.es M1 M2 DD
  ky : KeyOk s.es
theorem tail228 {i m : Nat} {cl sv : Value} {lw : Nat} {cm : Nat} {e : Int} {ch c31 : Bool} {ks : List Seen} (hS : SOk p) (hst : Steps R p.n p.S sv) (hg : g ≤ p.L) (hi : i < 1000) (h : Inv R p DD sv cl m i T A s tot M1 M2) (t18 : tget T 18 = .int .i64 e) (t19 : tget T 19 = .bool ch) (t27 : tget T 27 = .bool (toldV s.es s.ship s.d)) (t29 : tget T 29 = .int .i64 0) (t28 : lenV (tget T 28) = some (.int .i64 lw)) (hw : toldV s.es s.ship s.d = true → lw = s.es.length) (hw0 : toldV s.es s.ship s.d = false → lw = 0)
    (hch : ch = true ∧ e = 0 → s.es = []) (t30 : tget T 30 = .bool (allD s.d p.n)) (t31 : tget T 31 = .bool c31) (hc31 : c31 = s.es.any fun e => !e.2.2) (t32 : tget T 32 = .map (some cm)) (hcm : A.get cm = some (.map (crewM (setS [] (ks.map fun e => e.2.1))) none)) (hks : s.es.Perm ks)
    (hQ : ∀ T' A', Inv R p DD sv cl m i T' A' s tot M1 M2 → Q .normal ⟨T', D, A'⟩) : W AP KL g rd (.seq pL228 (.seq pM228 (.seq pN228 (.seq pO228 pP228)))) ⟨T, D, A⟩ Q := by
  have hlt := h.li.gate.lt
  have hn := hS.n32
  have hdl := h.li.gate.dl
  have hfr := h.li.fr
  have hrl := h.li.rl
  have hlen3 : lenMA A (.map (some cm)) = some (.int .i64 ((setS [] (s.es.map fun e => e.2.1)).length : Nat)) := by
    have := setS_length (hks.map fun e : Seen => e.2.1)
    rw [this]
    simp only [lenMA, mapOf, hcm, Option.map_some, goInt, crewM, List.length_map]
  have hlen1 : lenMA A (.map (some M1)) = some (.int .i64 (s.es.length : Nat)) := by
    simp only [lenMA, mapOf, h.mi.m1, Option.map_some, goInt, List.length_map]
  have hall : allD s.d p.n = s.d.all id := by rw [← hdl]; exact allD_eq
  obtain ⟨ld, hld⟩ : ∃ ld, ld = (setS [] (s.es.map fun e => e.2.1)).length := ⟨_, rfl⟩
  rw [← hld] at hlen3
  rw [W_seq]
  refine pL228_ok (told := toldV s.es s.ship s.d) (lw := lw) (ls := s.es.length) (ld := ld) t29 t27 rfl t28 t30 h.t12 t31 t32 hlen3 h.t14 hlen1 t19 t18 ?_ hw hw0 (fun ht hc => ?_) fun T2 k2 => ?_
  · have h1 : (s.es.all fun e => e.2.2) = !c31 := by
      rw [hc31, ← List.not_all_eq_any_not, Bool.not_not]
    have h2 : decide (2 ≤ ld) = decide ((2 : Int) ≤ ld) := by rw [decide_eq_decide]; omega
    unfold toldV
    rw [h1, ← hld, h2, hall]
    cases c31 <;> cases s.ship <;> cases decide ((2 : Int) ≤ ld) <;> cases s.d.all id <;> rfl
  · rw [hch hc] at ht
    unfold toldV at ht
    simp [setS] at ht
  · have w7 := (k2.at 7 rfl).trans h.t7
    have w9 := (k2.at 9 rfl).trans h.t9
    have w11 := (k2.at 11 rfl).trans h.t11
    have w12 := (k2.at 12 rfl).trans h.t12
    have w13 := (k2.at 13 rfl).trans h.t13
    have w14 := (k2.at 14 rfl).trans h.t14
    have w15 := (k2.at 15 rfl).trans h.t15
    have w101 := (k2.at 101 rfl).trans h.t101
    have w102 := (k2.at 102 rfl).trans h.t102
    have w103 := (k2.at 103 rfl).trans h.t103
    simp (disch := as_aux_lemma => first | omega | simp only [hDs] <;> omega | simp [isCell]) [hRs, takeMarks, resA, resAll, resOne, Value.cells, pM228, w9]
    refine w235_ok h.li.gate (by omega) (by omega) fun A3 lf hacc e3 => ?_
    have hll := leftL_length s.d p.n
    have hlf : RdS A3 1 (leftL s.d p.n).length (ints (leftL s.d p.n)) lf := hacc.rd (by simp) (by decide)
    obtain ⟨pl, ql, rfl⟩ := hlf.isSlice
    obtain ⟨n, hnn⟩ : ∃ n, n = p.n := ⟨_, rfl⟩
    have w11' := w11
    rw [← hnn] at w11'
    simp (disch := as_aux_lemma => first | omega | simp only [hDs] <;> omega | simp [isCell]) [hRs, takeMarks, resA, resAll, resOne, Value.cells, pN228, pO228, w11']
    have h3 := h.li.ext e3
    refine loop228h (DD := DD) (n := n) (nl := (leftL s.d p.n).length) (d := s.d) (S := p.S) (sv := sv) (lf := .slice pl (leftL s.d p.n).length ql) h3.dd (by omega) (by omega) (by rw [hnn]; exact hst.mono h3.fr) (fun i hi => hS.lg i (by omega)) (by rw [hnn]; exact hlf) (by omega) ?_ (T := _) ?_ ?_ n 0 (by omega) (fun _ _ => rfl) (by simp [usedL]) (by simp) (by simp) (by simp)
    · intro T4 k4 t39
      have x7 := k4.at 7 rfl
      have x9 := k4.at 9 rfl
      have x11 := k4.at 11 rfl
      have x12 := k4.at 12 rfl
      have x13 := k4.at 13 rfl
      have x14 := k4.at 14 rfl
      have x15 := k4.at 15 rfl
      have x38 := k4.at 38 rfl
      have x101 := k4.at 101 rfl
      have x102 := k4.at 102 rfl
      have x103 := k4.at 103 rfl
      simp [w7, w9, w11, w12, w13, w14, w15, w101, w102, w103] at x7 x9 x11 x12 x13 x14 x15 x38 x101 x102 x103
      have ub := used_bd (S := p.S) (d := s.d) (n := p.n) hS.lg
      have htt := h.li.tt
      have hl0 := h.li.l0
      have hlu := h.li.lu
      obtain ⟨us, hus⟩ : ∃ us, us = usedL p.S s.d p.n := ⟨_, rfl⟩
      rw [hnn, ← hus] at t39
      rw [← hus] at ub htt hlu
      have e4 := wrId (n := us + s.logs) (by omega) (by omega)
      rw [show us + s.logs = tot by omega] at e4
      have e5 : us + s.logs = tot := by omega
      have e4' : wr .i64 (us + s.logs) = tot := by rw [e5]; exact e4
      have e6 := wrId (n := (i : Int) + 1) (by omega) (by omega)
      simp (disch := as_aux_lemma => first | omega | simp only [hDs] <;> omega | simp [isCell]) [hRs, takeMarks, resA, resAll, resOne, Value.cells, pP228, t39, x38, x13, e4']
      refine hQ _ _ ⟨by simp [x7], by simp [x9], by simp [x11, hnn], by simp [x12], by simp [x13], by simp [x14], by simp [x15], by simp [x101], by simp [x102], by simp [x103], h3, h.mi.ext e3, h.ky⟩
    · simp [w7]
    · simp
theorem round228 {i m : Nat} {zs : List Int} {cl sv : Value} (hS : SOk p) (hA : AftOk p.S p.n) (hst : Steps R p.n p.S sv) (hcl : RdS R 3 m (kints .u8 zs) cl) (hz : ∀ j, 0 ≤ gi zs j ∧ gi zs j ≤ 255) (hg : g ≤ p.L) (hm : m ≤ 100) (him : i < m) (h : Inv R p DD sv cl m i T A s tot M1 M2)
    (hQ : ∀ T' A' s' tot' N1 N2, Inv R p DD sv cl m (i + 1) T' A' s' tot' N1 N2 → Q .normal ⟨T', D, A'⟩) : WN AP KL tf (.code tx g rd body228c ⟨T, D, A⟩ Q) := by
  have hl := hcl.1
  rw [kints_length] at hl
  have hlt := h.li.gate.lt
  have hn := hS.n32
  have hrl := h.li.rl
  obtain ⟨x, c, ro, rfl, hx⟩ := (hcl.mono h.li.fr).at (i := i) him
  obtain ⟨c0, hc0⟩ : ∃ c0, c0 = gi zs (i * 3) := ⟨_, rfl⟩
  obtain ⟨c1, hc1⟩ : ∃ c1, c1 = gi zs (i * 3 + 1) := ⟨_, rfl⟩
  obtain ⟨c2, hc2⟩ : ∃ c2, c2 = gi zs (i * 3 + 2) := ⟨_, rfl⟩
  have b0 := hz (i * 3)
  have b1 := hz (i * 3 + 1)
  have b2 := hz (i * 3 + 2)
  rw [← hc0] at b0
  rw [← hc1] at b1
  rw [← hc2] at b2
  have hp : partA (kints .u8 zs) (i * 3) (some 3) = some (.agg ⟨[.int .u8 c0, .int .u8 c1, .int .u8 c2]⟩) := by rw [hc0, hc1, hc2]; exact kints_three (by omega)
  obtain ⟨B, hB⟩ : ∃ B, B = A.push (.cells [.int .u8 c0, .int .u8 c1, .int .u8 c2] false) := ⟨_, rfl⟩
  have hBn : B.n = A.n + 1 := by rw [hB]; rfl
  have eB : Ext' A B := by rw [hB]; exact Ext'.push A _
  have h17 : B.get A.n = some (.cells [.int .u8 c0, .int .u8 c1, .int .u8 c2] false) := by rw [hB, get_push_new]
  have f1 := wrId (n := c1) (by omega) (by omega)
  rw [eqc228]
  refine WN_seqd ?_
  simp (disch := as_aux_lemma => first | omega | simp only [hDs] <;> omega | simp [isCell]) [hRs, takeMarks, resA, resAll, resOne, Value.cells, q0228, h.t102, h.t103, show ((i : Int) < m) by omega]
  refine WN_seqd ?_
  simp (disch := as_aux_lemma => first | omega | simp only [hDs] <;> omega | simp [isCell]) [hRs, takeMarks, resA, resAll, resOne, Value.cells, q1228]
  refine WN_seqn (.block ?_)
  refine WN_seqd ?_
  simp (disch := as_aux_lemma => first | omega | simp only [hDs] <;> omega | simp [isCell]) [hRs, takeMarks, resA, resAll, resOne, Value.cells, pA228, h.t101, h.t103, idxSA_ok, show ((i : Int) < m) by omega, hx, hp, storeB_cells, setRange, set_push_eq, ← hB]
  refine WN_seqd ?_
  simp (disch := as_aux_lemma => first | omega | simp only [hDs] <;> omega | simp [isCell]) [hRs, takeMarks, resA, resAll, resOne, Value.cells, pB228]
  refine WN_seqd ?_
  simp (disch := as_aux_lemma => first | omega | simp only [hDs] <;> omega | simp [isCell]) [hRs, takeMarks, resA, resAll, resOne, Value.cells, pC228]
  refine WN_seqd ?_
  simp (disch := as_aux_lemma => first | omega | simp only [hDs] <;> omega | simp [isCell]) [hRs, takeMarks, resA, resAll, resOne, Value.cells, pD228, h17, idxAA_ok, toIntA, f1]
  refine WN_seqd ?_
  simp (disch := as_aux_lemma => first | omega | simp only [hDs] <;> omega | simp [isCell]) [hRs, takeMarks, resA, resAll, resOne, Value.cells, pE228, h17, idxAA_ok, binA_and8]
  have hLB := h.li.ext eB
  have hMB := h.mi.ext eB
  have t7 := h.t7
  have t9 := h.t9
  have t11 := h.t11
  have t12 := h.t12
  have t13 := h.t13
  have t14 := h.t14
  have t15 := h.t15
  have t101 := h.t101
  have t102 := h.t102
  have t103 := h.t103
  refine WN_seqd ?_
  refine pF228_ok (n := c1) (c0 := c0) (c2 := c2) (X17 := A.n) (is := decide (and8 c2 = 1)) (sv := sv) (M1 := M1) (M2 := M2) (DD := DD) (s := s) (tot := tot) (t := i) b0 b1 b2 h17 hS hA hst hLB hMB h.ky hg (by simp [t7]) (by simp) (by simp [t9]) (by simp [t11]) (by simp [t14]) (by simp [t15]) (by simp) (by simp) (by simp) (by simp [t12]) (by simp [t13]) (by simp) fun T1 A1 ha => ?_
  simp only [NQ_normal]
  refine WN_seqd ?_
  refine pG228_ok ha (by simp [t14]) (by simp [t15]) fun T2 A2 e tot' s' ch N1 N2 k2 u18 u12 u13 u19 u14 u15 hL2 hK2 hch hM2 hn2 => ?_
  have u7 := k2.at 7 rfl
  have u9 := k2.at 9 rfl
  have u11 := k2.at 11 rfl
  have u101 := k2.at 101 rfl
  have u102 := k2.at 102 rfl
  have u103 := k2.at 103 rfl
  have hlt2 := hL2.gate.lt
  simp [t7, t9, t11, t101, t102, t103] at u7 u9 u11 u101 u102 u103
  have hkl := hK2.len
  simp only [NQ_normal]
  refine WN_seqd ?_
  refine pH228_ok hL2.gate (by omega) (by omega) u9 fun T3 A3 lw k3 v27 v29 v28 hw hw0 e3 => ?_
  have v7 := (k3.at 7 rfl).trans u7
  have v9 := (k3.at 9 rfl).trans u9
  have v11 := (k3.at 11 rfl).trans u11
  have v12 := (k3.at 12 rfl).trans u12
  have v13 := (k3.at 13 rfl).trans u13
  have v14 := (k3.at 14 rfl).trans u14
  have v15 := (k3.at 15 rfl).trans u15
  have v18 := (k3.at 18 rfl).trans u18
  have v19 := (k3.at 19 rfl).trans u19
  have v101 := (k3.at 101 rfl).trans u101
  have v102 := (k3.at 102 rfl).trans u102
  have v103 := (k3.at 103 rfl).trans u103
  have hL3 := hL2.ext e3
  have hM3 := hM2.ext e3
  simp only [NQ_normal]
  refine WN_seqd ?_
  simp (disch := as_aux_lemma => first | omega | simp only [hDs] <;> omega | simp [isCell]) [hRs, takeMarks, resA, resAll, resOne, Value.cells, pI228]
  obtain ⟨C, hC⟩ : ∃ C, C = A3.push (.map [] none) := ⟨_, rfl⟩
  rw [← hC]
  have hCn : C.n = A3.n + 1 := by rw [hC]; rfl
  have eC : Ext' A3 C := by rw [hC]; exact Ext'.push A3 _
  have hLC := hL3.ext eC
  have hMC := hM3.ext eC
  have hCm : C.get A3.n = some (.map (crewM []) none) := by rw [hC, get_push_new]; rfl
  obtain ⟨n, hnn⟩ : ∃ n, n = p.n := ⟨_, rfl⟩
  have v11' := v11
  rw [← hnn] at v11'
  have hdl := hL2.gate.dl
  refine WN_seqd ?_
  simp (disch := as_aux_lemma => first | omega | simp only [hDs] <;> omega | simp [isCell]) [hRs, takeMarks, resA, resAll, resOne, Value.cells, pJ228, v11']
  refine loop228f (DD := DD) (n := n) (d := s'.d) hLC.dd (by omega) (by omega) ?_ n 0 (by omega) (fun _ _ => rfl) (by simp [allD]) (by simp) (by simp) (by simp)
  intro T4 k4 w30
  have w7 := k4.at 7 rfl
  have w9 := k4.at 9 rfl
  have w11 := k4.at 11 rfl
  have w12 := k4.at 12 rfl
  have w13 := k4.at 13 rfl
  have w14 := k4.at 14 rfl
  have w15 := k4.at 15 rfl
  have w18 := k4.at 18 rfl
  have w19 := k4.at 19 rfl
  have w27 := k4.at 27 rfl
  have w28 := k4.at 28 rfl
  have w29 := k4.at 29 rfl
  have w31 := k4.at 31 rfl
  have w32 := k4.at 32 rfl
  have w101 := k4.at 101 rfl
  have w102 := k4.at 102 rfl
  have w103 := k4.at 103 rfl
  simp [v7, v9, v11, v12, v13, v14, v15, v18, v19, v27, v29, v101, v102, v103] at w7 w9 w11 w12 w13 w14 w15 w18 w19 w27 w28 w29 w31 w32 w101 w102 w103
  simp only [BlkQ_exit, if_true, NQ_normal]
  have hg1 := hMC.g1
  have hn1 := Hp.lt_of_get hM3.m1
  have hn2' := Hp.lt_of_get hM3.m2
  refine WN_seqn ?_
  rw [eqK228]
  refine .map (R := fun T5 A5 => KeepT KR T4 T5 ∧ tget T5 31 = .bool false ∧ tget T5 32 = .map (some A3.n) ∧ tget T5 287 = .map (some N1) ∧ A5 = C) (m := fun _ _ => N1) (l := fun _ _ => s'.es.map encB) (lk := fun _ _ => none) ?_ ?_ ?_
  · simp (disch := as_aux_lemma => first | omega | simp only [hDs] <;> omega | simp [isCell]) [hRs, takeMarks, resA, resAll, resOne, Value.cells, w14, w31, w32]
  · rintro T5 A5 ⟨_, _, _, h287, rfl⟩
    exact ⟨h287, hMC.m1⟩
  · rintro T5 A5 gh gi ⟨k5, x31, x32, x287, rfl⟩ hlk
    have hMC1 : A5.get N1 = some (.map (s'.es.map encB) none) := hMC.m1
    have hget : (A5.push (.iter gi)).get N1 = some (.map (s'.es.map encB) none) := by rw [get_push_old (by omega)]; exact hMC1
    have hset : ∀ z, ((A5.push (.iter gi)).set N1 (some (.map (s'.es.map encB) (some gh)))).get z = if z = N1 then some (.map (s'.es.map encB) (some gh)) else (A5.push (.iter gi)).get z := fun z => Hp.get_set hget _ z
    have hne12 := hMC.ne
    refine iter228 (M2 := N2) (es := s'.es) (cm := A3.n) (a0 := A3.n) (Nat.le_refl _) (by omega) (by show A3.n ≠ A5.n; omega) (by show A3.n ≤ A5.n; omega) (by show A3.n ≠ N1; omega) (by show A5.n ≠ N1; omega) (by omega) (Ne.symm hne12) hK2.nodup s'.es.length s'.es false [] _ _ gi rfl (fun _ h => h) ?_ ?_ ?_ ?_ ?_ ?_ ?_ ?_ ?_
    · simp [U228]
    · simp [U228, x31]
    · simp [U228, x32]
    · simp [U228, k5.at 15 rfl, w15]
    · show _ = _
      rw [hset, if_pos rfl]
    · show ((A5.push (.iter gi)).set N1 _).get A5.n = _
      rw [hset, if_neg (by omega), get_push_new]
    · rw [hset, if_neg (by omega), get_push_old (by omega)]; exact hCm
    · rw [hset, if_neg (Ne.symm hne12), get_push_old (by omega)]; exact hMC.m2
    · intro T6 A6 ks hks k6 y31 y32 hcm6 hn6 hm6 ho6
      simp only [NQ_normal]
      have hAll : ∀ z, z < A3.n → A6.get z = A3.get z := fun z hz => by
        by_cases hzm : z = N1
        · subst hzm
          rw [hm6, hM3.m1]; rfl
        · rw [ho6 z hz hzm, hset, if_neg hzm, get_push_old (by omega), eC.2 z hz]
      have hn6' : A3.n ≤ A6.n := by simp at hn6; omega
      have e36 : Ext' A3 A6 := ⟨hn6', hAll⟩
      have z7 := (k6.at 7 rfl)
      have z9 := (k6.at 9 rfl)
      have z11 := (k6.at 11 rfl)
      have z12 := (k6.at 12 rfl)
      have z13 := (k6.at 13 rfl)
      have z14 := (k6.at 14 rfl)
      have z15 := (k6.at 15 rfl)
      have z18 := (k6.at 18 rfl)
      have z19 := (k6.at 19 rfl)
      have z27 := (k6.at 27 rfl)
      have z28 := (k6.at 28 rfl)
      have z29 := (k6.at 29 rfl)
      have z30 := (k6.at 30 rfl)
      have z101 := (k6.at 101 rfl)
      have z102 := (k6.at 102 rfl)
      have z103 := (k6.at 103 rfl)
      simp [U228, k5.at 7 rfl, k5.at 9 rfl, k5.at 11 rfl, k5.at 12 rfl, k5.at 13 rfl, k5.at 14 rfl, k5.at 15 rfl, k5.at 18 rfl, k5.at 19 rfl, k5.at 27 rfl, k5.at 28 rfl, k5.at 29 rfl, k5.at 30 rfl, k5.at 101 rfl, k5.at 102 rfl, k5.at 103 rfl, w7, w9, w11, w12, w13, w14, w15, w18, w19, w27, w28, w29, w30, w101, w102, w103] at z7 z9 z11 z12 z13 z14 z15 z18 z19 z27 z28 z29 z30 z101 z102 z103
      refine .det ?_
      refine tail228 (R := R) (p := p) (s := s') (DD := DD) (M1 := N1) (M2 := N2) (tot := tot') (i := i) (m := m) (lw := lw) (cm := A3.n) (e := e) (ch := ch) (c31 := s'.es.any fun e => !e.2.2) (ks := ks) hS hst hg (by omega) ⟨z7, z9, by rw [z11], z12, z13, z14, z15, z101, z102, z103, hL3.ext e36, hM3.ext e36, hK2⟩ z18 z19 z27 z29 (by rw [z28]; exact v28) hw hw0 hch (by rw [z30, hnn]) (by rw [y31, Bool.false_or]) rfl y32 hcm6 hks fun T7 A7 hI => ?_
      have e6 := wrId (n := (i : Int) + 1) (by omega) (by omega)
      simp only [BlkQ_normal, NQ_normal]
      refine .det ?_
      simp (disch := as_aux_lemma => first | omega | simp only [hDs] <;> omega | simp [isCell]) [hRs, takeMarks, resA, resAll, resOne, Value.cells, q2228, hI.t103]
      exact hQ _ _ s' tot' N1 N2 ⟨by simp [hI.t7], by simp [hI.t9], by simp [hI.t11], by simp [hI.t12], by simp [hI.t13], by simp [hI.t14], by simp [hI.t15], by simp [hI.t101], by simp [hI.t102], by simp [e6], hI.li.later (by omega), hI.mi, hI.ky⟩
end
end Go.Ab.Dike
namespace Go.Ab.Dike
open Go Go.Ab
section
variable {g : Nat} {rd : Option Nat} {D : List Nat} {Q : Ex → St → Prop} {V : Value → Hp → Prop} {R : Hp} {p : GP} {DD : Nat} {tx : Bool}
theorem loop228c {m : Nat} {zs : List Int} {cl sv : Value} (hS : SOk p) (hA : AftOk p.S p.n) (hst : Steps R p.n p.S sv) (hcl : RdS R 3 m (kints .u8 zs) cl) (hz : ∀ j, 0 ≤ gi zs j ∧ gi zs j ≤ 255) (hg : g ≤ p.L) (hm : m ≤ 100) (hQ : ∀ T' A', Q (.exit 2) ⟨T', D, A'⟩) :
    ∀ (r i : Nat) {T : List Value} {A : Hp} {s : GS} {tot : Int} {M1 M2 : Nat}, i + r = m → Inv R p DD sv cl m i T A s tot M1 M2 → WN AP KL tf (.loop tx g rd body228c ⟨T, D, A⟩ Q) := by
  intro r
  induction r with
  | zero =>
    intro i T A s tot M1 M2 hir h
    have : i = m := by omega
    subst this
    refine .round (Q1 := fun ex st' => ex = .exit 2 ∧ Q (.exit 2) st') (.det ?_) (fun st' h => by cases h.1) (fun ex st' _ h => by rw [h.1]; exact h.2)
    simp (disch := as_aux_lemma => first | omega | simp only [hDs] <;> omega | simp [isCell]) [hRs, takeMarks, resA, resAll, resOne, Value.cells, eqc228, q0228, q1228, h.t102, h.t103]
    exact hQ _ _
  | succ r ih =>
    intro i T A s tot M1 M2 hir h
    refine .round (Q1 := fun ex st' => ex = .normal ∧ st'.D = D ∧ ∃ s tot M1 M2, Inv R p DD sv cl m (i + 1) st'.T st'.A s tot M1 M2) (round228 hS hA hst hcl hz hg hm (by omega) h fun T' A' s' tot' N1 N2 hI => ⟨rfl, rfl, s', tot', N1, N2, hI⟩) (fun st' h => ?_) (fun ex st' hne h => absurd h.1 hne)
    obtain ⟨_, hD, s', tot', N1, N2, hI⟩ := h
    obtain ⟨T', D', A'⟩ := st'
    simp only at hD hI
    subst hD
    exact ih (i + 1) (by omega) hI
theorem law228 {A : Hp} {n ml m : Nat} {J : Nat → JobT} {lb zs : List Int} {sl ll cl : Value} (hsl : Jobs A n J sl) (hJ : ∀ i, JobOk (J i)) (hll : RdS A 1 ml (kints .u8 lb) ll) (hml : ml < 9223372036854775808) (hb : ∀ j, 0 ≤ gi lb j ∧ gi lb j ≤ 255) (hcl : RdS A 3 m (kints .u8 zs) cl) (hz : ∀ j, 0 ≤ gi zs j ∧ gi zs j ≤ 255) (hg : g ≤ A.n) (hV : ∀ A', V (.bool true) A') :
    WN AP KL tf (.fn g 228 [sl, ll, cl] A V) := by
  have e228 : AP 228 = some (.fn 385 [.tmp 6] (.seq r0228 (.seq r1228 (.seq r2228 (.seq r3228 (.seq r4228 (.seq r5228 (.seq r6228 (.seq r7228 (.seq r8228 (.seq r9228 (.seq rA228 (.seq (.seq rB228 (.block 2 (.loop body228c))) rC228))))))))))))) := (show AP 228 = some F228 from rfl).trans (congrArg some eq228)
  by_cases c1 : (6 : Int) < n
  · refine .detF ⟨_, _, _, show AP 228 = some F228 from rfl⟩ ?_
    rw [WF_body (show KL 228 = none from rfl) e228]
    simp (disch := as_aux_lemma => first | omega | simp only [hDs] <;> omega | simp [isCell]) [hRs, takeMarks, resA, resAll, resOne, Value.cells, r0228, r1228, hsl.len, c1]
    exact hV _
  by_cases c2 : (40 : Int) < m
  · refine .detF ⟨_, _, _, show AP 228 = some F228 from rfl⟩ ?_
    rw [WF_body (show KL 228 = none from rfl) e228]
    simp (disch := as_aux_lemma => first | omega | simp only [hDs] <;> omega | simp [isCell]) [hRs, takeMarks, resA, resAll, resOne, Value.cells, r0228, r1228, hsl.len, hcl.len, c1, c2]
    exact hV _
  refine WN_body (show KL 228 = none from rfl) e228 ?_
  refine WN_seqd ?_
  simp (disch := as_aux_lemma => first | omega | simp only [hDs] <;> omega | simp [isCell]) [hRs, takeMarks, resA, resAll, resOne, Value.cells, r0228]
  refine WN_seqd ?_
  simp (disch := as_aux_lemma => first | omega | simp only [hDs] <;> omega | simp [isCell]) [hRs, takeMarks, resA, resAll, resOne, Value.cells, r1228, hsl.len, hcl.len, c1, c2]
  refine WN_seqd ?_
  simp (disch := as_aux_lemma => first | omega | simp only [hDs] <;> omega | simp [isCell]) [hRs, takeMarks, resA, resAll, resOne, Value.cells, r2228]
  refine w143 hsl (by omega) hJ hg fun A1 sv hG1 e1 => ?_
  have n1 := e1.1
  have hlen1 := hG1.steps.len
  simp (disch := as_aux_lemma => first | omega | simp only [hDs] <;> omega | simp [isCell]) [hRs, takeMarks, resA, resAll, resOne, Value.cells]
  refine WN_seqd ?_
  simp (disch := as_aux_lemma => first | omega | simp only [hDs] <;> omega | simp [isCell]) [hRs, takeMarks, resA, resAll, resOne, Value.cells, r3228, hlen1]
  refine loop228a (A0 := A) (A := A1) (N := A.n) (n := n) (ml := ml) (J := J) (lb := lb) (sv := sv) (ll := ll) (by omega) hll hb hml hg (Nat.le_refl _) ?_ (T := _) ?_ ?_ (fun z hz => e1.2 z hz) n1 n 0 (by omega) (fun _ _ => rfl) (by simp) (by simp) (hG1.same fun j hj => by simp) (fun _ _ => rfl) (Nat.le_refl _)
  · intro T2 A2 k2 hG2 ho2 hn2
    have u2 := k2.at 2 rfl
    have u7 := k2.at 7 rfl
    simp at u2 u7
    have e02 : Ext' A A2 := ⟨by omega, fun z hz => by rw [ho2 z hz, e1.2 z hz]⟩
    have htl := tlS_ok (n := n) (ml := ml) hJ hb
    have hse : stepsE n (tlS J lb ml) = 0 := steps_okG (af := fun i => (J i).after) (by omega) fun i hi => by
      obtain ⟨a1, a2, a3, a4, a5, a6⟩ := htl i hi
      exact ⟨a1, a2, a3, a4, a5, by omega⟩
    have hst2 := hG2.steps
    simp only [BlkQ_exit, if_true, NQ_normal]
    refine WN_seqd ?_
    simp (disch := as_aux_lemma => first | omega | simp only [hDs] <;> omega | simp [isCell]) [hRs, takeMarks, resA, resAll, resOne, Value.cells, r4228, u7]
    refine w146 hst2 (by omega) (fun i hi => ?_) (by omega) hse (by omega) fun A3 p e3 hpn hpS hpL hG => ?_
    · obtain ⟨a1, a2, a3, _⟩ := htl i hi
      have := aftL_length (J i).after i
      exact ⟨by rw [a1]; show 2 < 1000000; omega, by rw [a3]; omega⟩
    · have n3 := e3.1
      have hlt := hG.lt
      simp (disch := as_aux_lemma => first | omega | simp only [hDs] <;> omega | simp [isCell]) [hRs, takeMarks, resA, resAll, resOne, Value.cells]
      refine WN_seqd ?_
      simp (disch := as_aux_lemma => first | omega | simp only [hDs] <;> omega | simp [isCell]) [hRs, takeMarks, resA, resAll, resOne, Value.cells, r5228]
      refine WN_seqd ?_
      have hlen3 := (hst2.ext e3).len
      simp (disch := as_aux_lemma => first | omega | simp only [hDs] <;> omega | simp [isCell]) [hRs, takeMarks, resA, resAll, resOne, Value.cells, r6228, u7, hlen3, makeB_ok (show n < 1000000 by omega)]
      refine WN_seqd ?_
      simp (disch := as_aux_lemma => first | omega | simp only [hDs] <;> omega | simp [isCell]) [hRs, takeMarks, resA, resAll, resOne, Value.cells, r7228]
      refine WN_seqd ?_
      simp (disch := as_aux_lemma => first | omega | simp only [hDs] <;> omega | simp [isCell]) [hRs, takeMarks, resA, resAll, resOne, Value.cells, r8228]
      refine WN_seqd ?_
      simp (disch := as_aux_lemma => first | omega | simp only [hDs] <;> omega | simp [isCell]) [hRs, takeMarks, resA, resAll, resOne, Value.cells, r9228]
      refine WN_seqd ?_
      simp (disch := as_aux_lemma => first | omega | simp only [hDs] <;> omega | simp [isCell]) [hRs, takeMarks, resA, resAll, resOne, Value.cells, rA228]
      obtain ⟨C, hC⟩ : ∃ C, C = ((A3.push (.cells (bools (List.replicate n false)) false)).push (.map [] none)).push (.map [] none) := ⟨_, rfl⟩
      rw [← hC]
      have hCn : C.n = A3.n + 3 := by rw [hC]; rfl
      have eC : Ext' A3 C := by rw [hC]; exact ((Ext'.push A3 _).trans (Ext'.push _ _)).trans (Ext'.push _ _)
      have hDD : C.get A3.n = some (.cells (bools (List.replicate n false)) false) := by rw [hC, get_push_old (by simp only [Hp.n_push]; omega), get_push_old (by simp), get_push_new]
      have hM1 : C.get (A3.n + 1) = some (.map [] none) := by rw [hC, get_push_old (by simp), get_push_eq (by simp)]
      have hM2 : C.get (A3.n + 2) = some (.map [] none) := by rw [hC, get_push_eq (by simp)]
      refine WN_seqn (WN_seqd ?_)
      have hcl2 : RdS A2 3 m (kints .u8 zs) cl := hcl.mono e02.2
      have hclC := hcl2.mono (e3.trans eC).2
      have hlenc := hclC.len
      simp (disch := as_aux_lemma => first | omega | simp only [hDs] <;> omega | simp [isCell]) [hRs, takeMarks, resA, resAll, resOne, Value.cells, rB228, u2, hlenc]
      have hSO : SOk p := by
        refine ⟨by omega, fun i hi => ?_, fun i hi k hk => ?_, fun i hi => ?_⟩
        · rw [hpS]
          obtain ⟨a1, a2, a3, _⟩ := htl i (by omega)
          have := aftL_length (J i).after i
          rw [a3]; omega
        · rw [hpS] at hk ⊢
          exact (tl_aft (n := n)).aa i (by omega) k hk
        · rw [hpS]
          obtain ⟨_, _, _, _, a5, a6⟩ := htl i (by omega)
          omega
      refine .block (.loop ?_)
      refine loop228c (R := A2) (p := p) (DD := A3.n) (m := m) (zs := zs) (cl := cl) (sv := sv) hSO (by rw [hpS]; exact tl_aft) (by rw [hpS, hpn]; exact hst2) hcl2 hz (by omega) (by omega) ?_ m 0 (s := ⟨List.replicate n false, 5, false, [], 0⟩) (tot := 5) (M1 := A3.n + 1) (M2 := A3.n + 2) (by omega) ⟨by simp [u7], by simp, by simp [hpn], by simp, by simp, by simp, by simp, by simp, by simp, by simp, ?_, ?_, KeyOk.nil⟩
      · intro T' A'
        simp only [BlkQ_exit, if_true, NQ_normal]
        refine .det ?_
        simp (disch := as_aux_lemma => first | omega | simp only [hDs] <;> omega | simp [isCell]) [hRs, takeMarks, resA, resAll, resOne, Value.cells, rC228]
        exact hV _
      · have hus : ∀ k, usedL p.S (List.replicate n false) k = 0 := by
          intro k
          induction k with
          | zero => rfl
          | succ k ih =>
            have : gb (List.replicate n false) k = false := by
              unfold gb
              rw [List.getD_eq_getElem?_getD, List.getElem?_replicate]
              split <;> rfl
            rw [usedL, ih, this]; rfl
        exact ⟨hG.ext eC, fun z hz => by rw [eC.2 z (by omega), e3.2 z hz], hpL, hDD, hlt.2.2.2, Closed.none, by simp only; omega, by simp only; rw [hus]; omega, by simp only; rw [hus]; omega, by simp⟩
      · exact ⟨hM1, hM2, by omega, by omega, by omega, by omega, by omega⟩
  · simp
  · simp
end
end Go.Ab.Dike
namespace Go.Ab.Dike
open Go Go.Ab
theorem sh_bytes {rows : List (List Value)} {cs : List Value} (h : Sh rows (.slice (.int .u8)) cs) : ∃ (n : Nat) (zs : List Int) (sl : Value), cs = [sl] ∧ RdS (roHp rows) 1 n (kints .u8 zs) sl ∧ n < 9223372036854775808 ∧ ∀ j, 0 ≤ gi zs j ∧ gi zs j ≤ 255 := by
  obtain ⟨n, zs, sl, rfl, h1, h2, h3⟩ := sh_slice_k (k := .u8) (e := .int .u8) rfl h
  exact ⟨n, zs, sl, rfl, h1, Nat.lt_of_le_of_lt h2 (by decide), fun j => u8_rng (gi_rng h3 (by decide) (by decide) j)⟩
theorem sh_trips {rows : List (List Value)} {cs : List Value} (h : Sh rows (.slice (.rep 3 (.int .u8))) cs) : ∃ (n : Nat) (zs : List Int) (sl : Value), cs = [sl] ∧ RdS (roHp rows) 3 n (kints .u8 zs) sl ∧ ∀ j, 0 ≤ gi zs j ∧ gi zs j ≤ 255 := by
  obtain ⟨n, zs, sl, rfl, h1, _, h3⟩ := sh_slice_k (k := .u8) (e := .rep 3 (.int .u8)) rfl h
  exact ⟨n, zs, sl, rfl, h1, fun j => u8_rng (gi_rng h3 (by decide) (by decide) j)⟩
end Go.Ab.Dike
