/- The coast, and rows of small numbers, among a law's arguments. -/
import Derived.Test.YtmmpjfknmdlpoaaZ18
import Derived.Test.YtmmpjfknmdlpoaaZ14
import Derived.DataShut
set_option linter.unusedSimpArgs false
set_option linter.unusedVariables false
set_option linter.unusedSectionVars false
namespace Go.Ab.Wave
open Go Go.Ab
def tail8 : ACode := (.seq
 (.ops [
oF 181 5 2,
oL 182 181,
oF 183 5 2,
oL 184 183,
oB 185 .mul 182 184,
oC 186 .mul 185 10000000000,
oM 24 186])
 (.seq
 (.ops [
oM 187 22,
oC 188 .gtr 187 0,
oM 189 188,
oN 190 189 true 22,
oN 191 189 true 22,
oQ 192 189 true (.bin .mul (.t 190) (.t 191)),
oN 193 189 true 24,
oN 194 189 true 21,
oQ 195 189 true (.bin .mul (oK 981) (.t 194)),
oQ 196 189 true (.bin .quo (.t 193) (.t 195)),
oQ 197 189 true (.bin .gtr (.t 192) (.t 196)),
oP 198 (.pick (.t 189) (.t 197) (.k (.bool false))),
oM 199 198,
oN 200 199 false 23,
oQ 201 199 false (.bin .gtr (.t 200) (oK 0)),
oN 202 199 false 201,
oN 203 202 true 23,
oQ 204 202 true (.bin .sub (.t 203) (oK 1)),
oN 205 202 true 23,
oQ 206 202 true (.bin .sub (.t 205) (oK 1)),
oQ 207 202 true (.bin .mul (.t 204) (.t 206)),
oN 208 202 true 24,
oN 209 202 true 21,
oQ 210 202 true (.bin .mul (oK 981) (.t 209)),
oQ 211 202 true (.bin .add (.t 208) (.t 210)),
oQ 212 202 true (.bin .sub (.t 211) (oK 1)),
oN 213 202 true 21,
oQ 214 202 true (.bin .mul (oK 981) (.t 213)),
oQ 215 202 true (.bin .quo (.t 212) (.t 214)),
oQ 216 202 true (.bin .geq (.t 207) (.t 215)),
oQ 217 199 false (.pick (.t 202) (.t 216) (.k (.bool false))),
oP 218 (.pick (.t 199) (.k (.bool true)) (.t 217))])
 (.cond (.t 218)
 (.seq
 (.ops [
oP 4 (.move (.k (.bool false)))])
 .ret)
 .skip)))
def body8n : ACode := (.seq
 (.ops [
oB 122 .lss 121 120])
 (.seq
 (.cond (.t 122)
 .skip
 (.exit 4))
 (.seq
 (.block 5
 (.seq
 (.ops [
oI 123 119 121 1,
oL 124 123,
oM 20 124])
 (.seq
 (.seq
 (.ops [
oM 125 11,
oM 126 20,
oP 127 (.call (.t 125) [.t 126] false),
oC 128 .lss 127 1,
oM 129 128,
oN 130 129 false 9,
oN 131 129 false 20,
oQ 132 129 false (.idxS (.t 130) (.t 131) 8),
oQ 133 129 false (.fieldAddr (.t 132) 0),
oQ 134 129 false (.fieldAddr (.t 133) 0),
oQ 135 129 false (.load (.t 134) none),
oQ 136 129 false (.bin .geq (.t 135) (oK 1099511627776)),
oP 137 (.pick (.t 129) (.k (.bool true)) (.t 136))])
 (.cond (.t 137)
 (.exit 5)
 .skip))
 (.seq
 (.ops [
oP 18 (.move (.k (.bool true)))])
 (.seq
 (.ops [
oM 138 11,
oM 139 12,
oP 140 (.call (.t 138) [.t 139] false),
oM 141 11,
oM 142 20,
oP 143 (.call (.t 141) [.t 142] false),
oP 144 (.min [.t 140, .t 143]),
oM 21 144])
 (.seq
 (.ops [
oF 145 13 0,
oF 146 145 0,
oL 147 146,
oM 148 9,
oM 149 20,
oI 150 148 149 8,
oF 151 150 0,
oF 152 151 0,
oL 153 152,
oB 154 .sub 147 153,
oF 155 13 0,
oF 156 155 1,
oL 157 156,
oM 158 9,
oM 159 20,
oI 160 158 159 8,
oF 161 160 0,
oF 162 161 1,
oL 163 162,
oB 164 .sub 157 163,
oM 22 154,
oM 23 164])
 (.seq
 (.ops [
oM 165 14,
oM 166 165,
oN 167 166 false 22,
oQ 168 166 false (.fieldAddr (.t 5) 2),
oQ 169 166 false (.load (.t 168) none),
oN 170 166 false 21,
oQ 171 166 false (.call (.k (.func (.func 34) ⟨[]⟩ ⟨[]⟩)) [.t 167, .t 169, .t 170, .k (.bool false)] false),
oP 172 (.pick (.t 166) (.k (.bool true)) (.t 171)),
oM 173 15,
oM 174 173,
oN 175 174 false 23,
oQ 176 174 false (.fieldAddr (.t 5) 2),
oQ 177 174 false (.load (.t 176) none),
oN 178 174 false 21,
oQ 179 174 false (.call (.k (.func (.func 34) ⟨[]⟩ ⟨[]⟩)) [.t 175, .t 177, .t 178, .k (.bool true)] false),
oP 180 (.pick (.t 174) (.k (.bool true)) (.t 179)),
oM 14 172,
oM 15 180])
 tail8)))))))
 (.ops [
oC 219 .add 121 1,
oM 121 219]))))
def body8 : ACode := (.seq
 (.ops [
oB 62 .lss 61 60])
 (.seq
 (.cond (.t 62)
 .skip
 (.exit 0))
 (.seq
 (.block 1
 (.seq
 (.ops [
oM 63 61,
oI 64 59 61 8,
oD 65 64 8,
oP 13 (.alloc [.int .i64 0, .int .i64 0, .int .i64 0, .int .i64 0, .int .i64 0, .int .i64 0, .int .i64 0, .int .i64 0]),
oM 12 63,
oT 13 65 8])
 (.seq
 (.seq
 (.ops [
oM 66 11,
oM 67 12,
oP 68 (.call (.t 66) [.t 67] false),
oC 69 .lss 68 1])
 (.cond (.t 69)
 (.exit 1)
 .skip))
 (.seq
 (.ops [
oP 14 (.move (.k (.bool false))),
oP 15 (.move (.k (.bool false)))])
 (.seq
 (.seq
 (.ops [
oM 70 8,
oP 71 (.len (.t 70)),
oP 72 (.move (oK 0))])
 (.block 2
 (.loop
 body8s)))
 (.seq
 (.ops [
oP 18 (.move (.k (.bool false)))])
 (.seq
 (.seq
 (.ops [
oD 117 5 4,
oM 118 12,
oA 119 33 [.t 117, .t 118] false,
oP 120 (.len (.t 119)),
oP 121 (.move (oK 0))])
 (.block 4
 (.loop
 body8n)))
 (.seq
 (.ops [
oF 220 13 0,
oF 221 220 0,
oL 222 221,
oC 223 .lss 222 1099511627776,
oM 224 223,
oN 225 224 true 14,
oQ 226 224 true (.not (.t 225)),
oN 227 224 true 226,
oN 228 227 false 15,
oQ 229 227 false (.not (.t 228)),
oQ 230 224 true (.pick (.t 227) (.k (.bool true)) (.t 229)),
oP 231 (.pick (.t 224) (.t 230) (.k (.bool false))),
oM 232 231,
oQ 233 232 false (.fieldAddr (.t 13) 0),
oQ 234 232 false (.fieldAddr (.t 233) 0),
oQ 235 232 false (.load (.t 234) none),
oQ 236 232 false (.bin .geq (.t 235) (oK 1099511627776)),
oN 237 232 false 236,
oN 238 237 true 18,
oN 239 237 true 238,
oQ 240 239 false (.fieldAddr (.t 13) 0),
oQ 241 239 false (.load (.t 240) (some 2)),
oQ 242 239 false (.call (.k (.func (.func 25) ⟨[]⟩ ⟨[]⟩)) [.k (.int .i64 1099511627776), .k (.int .i64 1099511627776)] true),
oQ 243 239 false (.eqv true [false, false] (.t 241) (.t 242)),
oQ 244 237 true (.pick (.t 239) (.k (.bool true)) (.t 243)),
oQ 245 232 false (.pick (.t 237) (.t 244) (.k (.bool false))),
oP 246 (.pick (.t 232) (.k (.bool true)) (.t 245))])
 (.cond (.t 246)
 (.seq
 (.ops [
oP 4 (.move (.k (.bool false)))])
 .ret)
 .skip)))))))))
 (.ops [
oC 247 .add 61 1,
oM 61 247]))))
def besides (w : Int) (c d : Nat) : Bool := decide (((c : Int).tmod w - (d : Int).tmod w) * ((c : Int).tmod w - (d : Int).tmod w) + ((c : Int).tdiv w - (d : Int).tdiv w) * ((c : Int).tdiv w - (d : Int).tdiv w) = 1)
def nearL (w : Int) (c : Nat) (i : Nat) : List Nat := (List.range i).filter (besides w c)
def nearI (w : Int) (c : Nat) (i : Nat) : List Int := (nearL w c i).map fun (x : Nat) => (x : Int)
theorem nearI_succ {w : Int} {c i : Nat} : nearI w c (i + 1) = nearI w c i ++ (if besides w c i = true then [(i : Int)] else []) := by
  unfold nearI nearL
  rw [List.range_succ, List.filter_append, List.map_append]
  congr 1
  by_cases h : besides w c i = true
  · simp [h]
  · simp [h]
theorem nearI_len {w : Int} {c i : Nat} : (nearI w c i).length ≤ i := by
  unfold nearI nearL
  rw [List.length_map]
  exact Nat.le_trans (List.length_filter_le _ _) (by simp)
theorem sq_one {x y : Int} (h : x * x + y * y = 1) : (x = 1 ∧ y = 0) ∨ (x = -1 ∧ y = 0) ∨ (x = 0 ∧ y = 1) ∨ (x = 0 ∧ y = -1) := by
  have key : ∀ {x y : Int}, x * x + y * y = 1 → -1 ≤ x ∧ x ≤ 1 := fun {x y} h => by
    have hy : 0 ≤ y * y := by rcases Int.le_total 0 y with h | h; exact Int.mul_nonneg h h; exact Int.mul_nonneg_of_nonpos_of_nonpos h h
    refine ⟨?_, ?_⟩
    · refine Decidable.byContradiction fun h' => ?_
      have := Int.mul_le_mul (show 2 ≤ -x by omega) (show 2 ≤ -x by omega) (by omega) (by omega)
      rw [Int.neg_mul_neg] at this
      omega
    · refine Decidable.byContradiction fun h' => ?_
      have := Int.mul_le_mul (show 2 ≤ x by omega) (show 2 ≤ x by omega) (by omega) (by omega)
      omega
  have h1 := key h
  have h2 := key (x := y) (y := x) (by omega)
  have hx : x = -1 ∨ x = 0 ∨ x = 1 := by omega
  have hy : y = -1 ∨ y = 0 ∨ y = 1 := by omega
  rcases hx with rfl | rfl | rfl <;> rcases hy with rfl | rfl | rfl <;> simp at h <;> simp
theorem besides_nb {P : Par} (hP : POk P) {c d : Nat} (hc : c < P.l.length) (hd : d < P.l.length) (h : besides P.w c d = true) : c ∈ nbP P d := by
  obtain ⟨x, y, hx, hy, e, e1, e2⟩ := cell_xy hP hc
  obtain ⟨x', y', hx', hy', e', e1', e2'⟩ := cell_xy hP hd
  unfold besides at h
  rw [e1, e2, e1', e2', decide_eq_true_eq] at h
  refine nb_xy hP hd hc hx' hy' hx hy e' e ?_
  have := sq_one h
  omega
theorem nb_besides {P : Par} (hP : POk P) {c d : Nat} (hc : c < P.l.length) (hd : d < P.l.length) (h : c ∈ nbP P d) : besides P.w c d = true := by
  obtain ⟨x', y', hx', hy', e', e1', e2'⟩ := cell_xy hP hd
  obtain ⟨dd, hdd, h1, h2, h3⟩ := nb_form hP h
  have hh := at_xy (w := P.w) (x := x' + dd.1) (y := y' + dd.2) (by rw [e1'] at h1; omega) (by rw [e2'] at h2; omega)
  rw [e1', e2'] at h3
  rw [← h3] at hh
  unfold besides
  rw [hh.1, hh.2, e1', e2', decide_eq_true_eq, show x' + dd.1 - x' = dd.1 by omega, show y' + dd.2 - y' = dd.2 by omega]
  unfold dirs at hdd
  simp only [List.mem_cons, List.not_mem_nil, or_false] at hdd
  rcases hdd with rfl | rfl | rfl | rfl <;> rfl
section
variable {g : Nat} {D : List Nat} {rd : Option Nat} {Q : Ex → St → Prop} {A : Hp} {V : Value → Hp → Prop}
theorem loop33 {P : Par} {A0 : Hp} {b2 N c : Nat} (hP : POk P) (hc : c < P.l.length) (hg : g ≤ N) (hN : N ≤ A0.n) (hb2 : b2 < N) (h2 : A0.get b2 = some (.cells [.int .i64 P.w, .int .i64 P.h, .int .i64 P.s, P.sl] false))
    (hQ : ∀ T' A' sv, A0.n ≤ A'.n → (∀ x, x < N → A'.get x = A0.get x) → AccS N A' 1 (ints (nearI P.w c P.l.length)) sv → tget T' 5 = sv → Q (.exit 0) ⟨T', D, A'⟩) :
    ∀ (k i : Nat) (T : List Value) (A : Hp) (sv : Value), i + k = P.l.length → A0.n ≤ A.n → (∀ x, x < N → A.get x = A0.get x) → AccS N A 1 (ints (nearI P.w c i)) sv → tget T 5 = sv → tget T 1 = .int .i64 c → tget T 2 = ptrV b2 → tget T 11 = .int .i64 P.l.length → tget T 12 = .int .i64 i → W AP KL g rd (.loop body33) ⟨T, D, A⟩ Q := by
  have hsm := hP.small
  obtain ⟨hw, hh, _, _⟩ := check_parts hP.chk
  intro k
  induction k with
  | zero =>
    intro i T A sv hi hnA hold hacc t5 t1 t2 t11 t12
    have : i = P.l.length := by omega
    rw [W_loop]
    simp (disch := as_aux_lemma => first | omega | simp only [hDs] <;> omega | simp [isCell]) [hRs, takeMarks, resA, resAll, resOne, Value.cells, body33, t11, t12, show ¬ ((i : Int) < P.l.length) by omega]
    exact hQ _ A sv hnA hold (by rw [← this]; exact hacc) (by simp [t5])
  | succ k ih =>
    intro i T A sv hi hnA hold hacc t5 t1 t2 t11 t12
    have hb : A.get b2 = _ := (hold b2 hb2).trans h2
    have nb := Hp.lt_of_get hb
    obtain ⟨x, y, hx, hy, _, e1, e2⟩ := cell_xy hP hc
    obtain ⟨x', y', hx', hy', _, e1', e2'⟩ := cell_xy hP (show i < P.l.length by omega)
    have px : 0 ≤ (x - x') * (x - x') ∧ (x - x') * (x - x') ≤ 576 := by
      rcases Int.le_total 0 (x - x') with h | h
      · exact ⟨Int.mul_nonneg h h, Int.mul_le_mul (show x - x' ≤ 24 by omega) (show x - x' ≤ 24 by omega) h (by omega)⟩
      · refine ⟨Int.mul_nonneg_of_nonpos_of_nonpos h h, ?_⟩
        have := Int.mul_le_mul (show -(x - x') ≤ 24 by omega) (show -(x - x') ≤ 24 by omega) (by omega) (by omega)
        rw [Int.neg_mul_neg] at this
        exact this
    have py : 0 ≤ (y - y') * (y - y') ∧ (y - y') * (y - y') ≤ 576 := by
      rcases Int.le_total 0 (y - y') with h | h
      · exact ⟨Int.mul_nonneg h h, Int.mul_le_mul (show y - y' ≤ 24 by omega) (show y - y' ≤ 24 by omega) h (by omega)⟩
      · refine ⟨Int.mul_nonneg_of_nonpos_of_nonpos h h, ?_⟩
        have := Int.mul_le_mul (show -(y - y') ≤ 24 by omega) (show -(y - y') ≤ 24 by omega) (by omega) (by omega)
        rw [Int.neg_mul_neg] at this
        exact this
    have hbs : besides P.w c i = decide ((x - x') * (x - x') + (y - y') * (y - y') = 1) := by unfold besides; rw [e1, e2, e1', e2']
    have hll := nearI_len (w := P.w) (c := c) (i := i)
    rw [W_loop]
    by_cases h : (x - x') * (x - x') + (y - y') * (y - y') = 1
    · obtain ⟨sv', A', e, hacc', hold', hn''⟩ := hacc.add (g := g) (bytes := 8) (new := [.int .i64 (i : Int)]) (ro := false) (n := (nearI P.w c i).length) hg (by omega) rfl (by decide) rfl (by rw [ints_length]; omega) (by unfold room; omega)
      simp (disch := as_aux_lemma => first | omega | simp only [hDs] <;> omega | simp [isCell]) [hRs, takeMarks, resA, resAll, resOne, Value.cells, body33, t11, t12, show (i : Int) < P.l.length by omega, t1, t2, ptrV, hb, binA_rem, show ¬ (P.w = 0) by omega, binA_quo, e1, e2, e1', e2', wrId (n := y) (by omega) (by omega), wrId (n := y') (by omega) (by omega), wrId (n := x - x') (by omega) (by omega), wrId (n := y - y') (by omega) (by omega), wrId (n := (x - x') * (x - x')) (by omega) (by omega), wrId (n := (y - y') * (y - y')) (by omega) (by omega), wrId (n := (x - x') * (x - x') + (y - y') * (y - y')) (by omega) (by omega), h, show wr .i64 (1 : Int) = 1 from rfl, slitA, fillA, setRange, t5, e]
      refine ih (i + 1) _ A' sv' (by omega) (by omega) (fun z hz => by rw [hold' z (by omega), hold z hz]) ?_ ?_ ?_ ?_ ?_ ?_
      · rw [nearI_succ, hbs, decide_eq_true h, if_pos rfl, ints_append]; exact hacc'
      · simp
      · simp [t1]
      · simp [t2, ptrV]
      · simp [t11]
      · simp [wrId (n := (i : Int) + 1) (by omega) (by omega)]
    · simp (disch := as_aux_lemma => first | omega | simp only [hDs] <;> omega | simp [isCell]) [hRs, takeMarks, resA, resAll, resOne, Value.cells, body33, t11, t12, show (i : Int) < P.l.length by omega, t1, t2, ptrV, hb, binA_rem, show ¬ (P.w = 0) by omega, binA_quo, e1, e2, e1', e2', wrId (n := y) (by omega) (by omega), wrId (n := y') (by omega) (by omega), wrId (n := x - x') (by omega) (by omega), wrId (n := y - y') (by omega) (by omega), wrId (n := (x - x') * (x - x')) (by omega) (by omega), wrId (n := (y - y') * (y - y')) (by omega) (by omega), wrId (n := (x - x') * (x - x') + (y - y') * (y - y')) (by omega) (by omega), h]
      refine ih (i + 1) _ A sv (by omega) hnA hold ?_ ?_ ?_ ?_ ?_ ?_
      · rw [nearI_succ, hbs, decide_eq_false h, if_neg (by decide), List.append_nil]; exact hacc
      · simp [t5]
      · simp [t1]
      · simp [t2, ptrV]
      · simp [t11]
      · simp [wrId (n := (i : Int) + 1) (by omega) (by omega)]
theorem w33 {P : Par} {c : Nat} (hP : POk P) (hc : c < P.l.length) (hg : g ≤ A.n) (hlen : lenV P.sl = some (.int .i64 P.l.length)) (hQ : ∀ A' sv, Ext' A A' → AccS A.n A' 1 (ints (nearI P.w c P.l.length)) sv → V sv A') :
    WF AP KL g 33 [gridV P.w P.h P.s P.sl, .int .i64 c] A V := by
  rw [WF_body rfl (show AP 33 = some F33 from rfl)]
  simp (disch := as_aux_lemma => first | omega | simp only [hDs] <;> omega | simp [isCell]) [hRs, takeMarks, resA, resAll, resOne, Value.cells, gridV, hlen]
  refine loop33 (P := P) (A0 := A.push (.cells [.int .i64 P.w, .int .i64 P.h, .int .i64 P.s, P.sl] false)) (b2 := A.n) (N := A.n + 1) (c := c) hP hc (by omega) (Nat.le_refl _) (by omega) get_push_new (fun T' A' sv h1 h2 h3 t5 => ?_) P.l.length 0 _ _ (.slice none 0 0) (by omega) (Nat.le_refl _) (fun _ _ => rfl) AccS.nil ?_ ?_ ?_ ?_ ?_
  · simp (disch := as_aux_lemma => first | omega | simp only [hDs] <;> omega | simp [isCell]) [hRs, takeMarks, resA, resAll, resOne, Value.cells, t5]
    exact hQ _ _ ⟨by simp at h1; omega, fun x hx => by rw [h2 x (by omega), get_push_old hx]⟩ (h3.weaken (by omega))
  all_goals simp [ptrV]
theorem w34d {t d : Int} (hd : 1 ≤ d ∧ d ≤ 1220000) (ht : -3000000000 ≤ t ∧ t ≤ 3000000000) (hQ : ∀ x : Bool, (t = crossI false d → x = true) → V (.bool x) A) : WF AP KL g 34 [.int .i64 t, .int .i64 500, .int .i64 d, .bool false] A V := by
  have wa := wrId (n := (981 : Int) * d) (by omega) (by omega)
  have hq : 0 ≤ (2500000000000000 : Int).tdiv (981 * d) ∧ (2500000000000000 : Int).tdiv (981 * d) ≤ 2500000000000000 := ⟨Int.tdiv_nonneg (by omega) (by omega), tdiv_le_of (by omega) (by omega) (by omega)⟩
  have wq := wrId (n := (2500000000000000 : Int).tdiv (981 * d)) (by omega) (by omega)
  have e1 : wr .i64 (500 * 500) = 250000 := rfl
  have e2 : wr .i64 (250000 * 10000000000) = 2500000000000000 := rfl
  have e3 : wr .i64 (250000 : Int) = 250000 := rfl
  have e4 : wr .i64 (2500000000000000 : Int) = 2500000000000000 := rfl
  rw [WF_body rfl (show AP 34 = some F34 from rfl)]
  by_cases h0 : 0 ≤ t
  · have q2 : 0 ≤ t * t ∧ t * t ≤ 9000000000000000000 := ⟨Int.mul_nonneg h0 h0, Int.mul_le_mul ht.2 ht.2 h0 (by omega)⟩
    have q3 : 0 ≤ (t + 1) * (t + 1) ∧ (t + 1) * (t + 1) ≤ 9000000006000000001 := ⟨Int.mul_nonneg (by omega) (by omega), Int.mul_le_mul (show t + 1 ≤ 3000000001 by omega) (show t + 1 ≤ 3000000001 by omega) (by omega) (by omega)⟩
    by_cases h1 : t * t ≤ (2500000000000000 : Int).tdiv (981 * d)
    · by_cases h2 : (2500000000000000 : Int).tdiv (981 * d) < (t + 1) * (t + 1)
      · simp (disch := as_aux_lemma => first | omega | simp only [hDs] <;> omega | simp [isCell]) [hRs, takeMarks, resA, resAll, resOne, Value.cells, e1, e2, e3, e4, h0, wa, binA_quo, show ¬ (981 * d = 0) by omega, wq, wrId (n := t * t) (by omega) (by omega), wrId (n := t + 1) (by omega) (by omega), wrId (n := (t + 1) * (t + 1)) (by omega) (by omega), h1, h2]
        exact hQ true fun _ => rfl
      · simp (disch := as_aux_lemma => first | omega | simp only [hDs] <;> omega | simp [isCell]) [hRs, takeMarks, resA, resAll, resOne, Value.cells, e1, e2, e3, e4, h0, wa, binA_quo, show ¬ (981 * d = 0) by omega, wq, wrId (n := t * t) (by omega) (by omega), wrId (n := t + 1) (by omega) (by omega), wrId (n := (t + 1) * (t + 1)) (by omega) (by omega), h1, h2]
        exact hQ false fun h => absurd (cross_root hd.1 hd.2 h).2.2 h2
    · simp (disch := as_aux_lemma => first | omega | simp only [hDs] <;> omega | simp [isCell]) [hRs, takeMarks, resA, resAll, resOne, Value.cells, e1, e2, e3, e4, h0, wa, binA_quo, show ¬ (981 * d = 0) by omega, wq, wrId (n := t * t) (by omega) (by omega), h1, GuardW_u]
      exact hQ false fun h => absurd (cross_root hd.1 hd.2 h).2.1 h1
  · simp (disch := as_aux_lemma => first | omega | simp only [hDs] <;> omega | simp [isCell]) [hRs, takeMarks, resA, resAll, resOne, Value.cells, e1, e2, e3, e4, h0, GuardW_u]
    exact hQ false fun h => absurd (cross_root hd.1 hd.2 h).1 h0
theorem w34u {t d : Int} (hd : 1 ≤ d ∧ d ≤ 1220000) (ht : -3000000000 ≤ t ∧ t ≤ 3000000000) (hQ : ∀ x : Bool, (t = crossI true d → x = true) → V (.bool x) A) : WF AP KL g 34 [.int .i64 t, .int .i64 500, .int .i64 d, .bool true] A V := by
  have wa := wrId (n := (981 : Int) * d) (by omega) (by omega)
  have wb := wrId (n := (2500000000000000 : Int) + 981 * d) (by omega) (by omega)
  have wc := wrId (n := (2500000000000000 : Int) + 981 * d - 1) (by omega) (by omega)
  have hq : 0 ≤ (2500000000000000 + 981 * d - 1 : Int).tdiv (981 * d) ∧ (2500000000000000 + 981 * d - 1 : Int).tdiv (981 * d) ≤ 2500000000000000 := ⟨Int.tdiv_nonneg (by omega) (by omega), tdiv_le_of (by omega) (by omega) (by omega)⟩
  have wq := wrId (n := (2500000000000000 + 981 * d - 1 : Int).tdiv (981 * d)) (by omega) (by omega)
  have e1 : wr .i64 (500 * 500) = 250000 := rfl
  have e2 : wr .i64 (250000 * 10000000000) = 2500000000000000 := rfl
  have e3 : wr .i64 (250000 : Int) = 250000 := rfl
  have e4 : wr .i64 (2500000000000000 : Int) = 2500000000000000 := rfl
  rw [WF_body rfl (show AP 34 = some F34 from rfl)]
  by_cases h0 : 1 ≤ t
  · have q2 : 0 ≤ t * t ∧ t * t ≤ 9000000000000000000 := ⟨Int.mul_nonneg (by omega) (by omega), Int.mul_le_mul ht.2 ht.2 (by omega) (by omega)⟩
    have q3 : 0 ≤ (t - 1) * (t - 1) ∧ (t - 1) * (t - 1) ≤ 9000000000000000000 := ⟨Int.mul_nonneg (by omega) (by omega), Int.mul_le_mul (show t - 1 ≤ 3000000000 by omega) (show t - 1 ≤ 3000000000 by omega) (by omega) (by omega)⟩
    by_cases h1 : (2500000000000000 + 981 * d - 1 : Int).tdiv (981 * d) ≤ t * t
    · by_cases h2 : (t - 1) * (t - 1) < (2500000000000000 + 981 * d - 1 : Int).tdiv (981 * d)
      · simp (disch := as_aux_lemma => first | omega | simp only [hDs] <;> omega | simp [isCell]) [hRs, takeMarks, resA, resAll, resOne, Value.cells, e1, e2, e3, e4, h0, wa, wb, wc, binA_quo, show ¬ (981 * d = 0) by omega, wq, wrId (n := t * t) (by omega) (by omega), wrId (n := t - 1) (by omega) (by omega), wrId (n := (t - 1) * (t - 1)) (by omega) (by omega), h1, h2]
        exact hQ true fun _ => rfl
      · simp (disch := as_aux_lemma => first | omega | simp only [hDs] <;> omega | simp [isCell]) [hRs, takeMarks, resA, resAll, resOne, Value.cells, e1, e2, e3, e4, h0, wa, wb, wc, binA_quo, show ¬ (981 * d = 0) by omega, wq, wrId (n := t * t) (by omega) (by omega), wrId (n := t - 1) (by omega) (by omega), wrId (n := (t - 1) * (t - 1)) (by omega) (by omega), h1, h2]
        exact hQ false fun h => absurd (cross_rootUp hd.1 hd.2 h).2.2 h2
    · simp (disch := as_aux_lemma => first | omega | simp only [hDs] <;> omega | simp [isCell]) [hRs, takeMarks, resA, resAll, resOne, Value.cells, e1, e2, e3, e4, h0, wa, wb, wc, binA_quo, show ¬ (981 * d = 0) by omega, wq, wrId (n := t * t) (by omega) (by omega), h1, GuardW_u]
      exact hQ false fun h => absurd (cross_rootUp hd.1 hd.2 h).2.1 h1
  · simp (disch := as_aux_lemma => first | omega | simp only [hDs] <;> omega | simp [isCell]) [hRs, takeMarks, resA, resAll, resOne, Value.cells, e1, e2, e3, e4, h0, GuardW_u]
    exact hQ false fun h => absurd (cross_rootUp hd.1 hd.2 h).1 h0
theorem w32 {P : Par} {b5 b6 c : Nat} (hP : POk P) (hc : c < P.l.length) (hgr : groundOf A P.sl = some P.l) (h5 : A.get b5 = some (.cells [.int .i64 P.w, .int .i64 P.h, .int .i64 P.s, P.sl] false)) (h6 : A.get b6 = some (.cells [.int .i64 P.slo, .int .i64 P.shi] false))
    (hQ : V (.int .i64 (P.slo - P.glo c)) A) : WF AP KL g 32 [.int .i64 c, ptrV b6, ptrV b5] A V := by
  have hsm := hP.small
  rcases (groundOf_cases hgr).2 with ⟨_, e2⟩ | ⟨x, cap, ro, hsv, hx⟩
  · rw [e2] at hc; simp at hc
  rw [cellsOf_flat] at hx
  have hfl := flat2_length P.l
  have nx := Hp.lt_of_get hx
  have hsea := hP.sea
  have hgg := hP.ground hc
  have eg : gi (flat2 P.l) (c * 2) = P.glo c := rfl
  rw [WF_body rfl (show AP 32 = some F32 from rfl)]
  simp (disch := as_aux_lemma => first | omega | simp only [hDs] <;> omega | simp [isCell]) [hRs, takeMarks, resA, resAll, resOne, Value.cells, ptrV, h5, h6, hsv, idxSA_ok, show (c : Int) < P.l.length by omega, hx, ints_get, eg, wrId (n := P.slo - P.glo c) (by omega) (by omega)]
  exact hQ
end
end Go.Ab.Wave
namespace Go.Ab.Wave
open Go Go.Ab
theorem sq_abs {t b : Int} (h : -b ≤ t ∧ t ≤ b) : 0 ≤ t * t ∧ t * t ≤ b * b := by
  rcases Int.le_total 0 t with h0 | h0
  · exact ⟨Int.mul_nonneg h0 h0, Int.mul_le_mul h.2 h.2 h0 (by omega)⟩
  · refine ⟨Int.mul_nonneg_of_nonpos_of_nonpos h0 h0, ?_⟩
    have := Int.mul_le_mul (show -t ≤ b by omega) (show -t ≤ b by omega) (by omega) (by omega)
    rw [Int.neg_mul_neg] at this
    exact this
def Par.D (P : Par) (c : Nat) : Int := P.slo - P.glo c
structure FstAt (P : Par) (zs bs : List Int) (m i : Nat) : Prop where
  rng : (0 ≤ gi bs (i * 8) ∧ gi bs (i * 8) ≤ Never) ∧ 0 ≤ gi bs (i * 8 + 1) ∧ gi bs (i * 8 + 1) ≤ Never
  fin : gi bs (i * 8) < Never → gi bs (i * 8) ≤ 2280000000 ∧ gi bs (i * 8 + 1) ≤ 2280000000
  st : ∀ j, j < m → gi zs (j * 5) = i → gi bs (i * 8) ≤ gi zs (j * 5 + 1) ∧ gi bs (i * 8 + 1) ≤ gi zs (j * 5 + 2)
  nb : ∀ k, k < P.l.length → besides P.w i k = true → 1 ≤ P.D k → gi bs (k * 8) < Never → gi bs (i * 8) < Never ∧ gi bs (i * 8) - gi bs (k * 8) ≤ crossI false (min (P.D i) (P.D k)) ∧ gi bs (i * 8 + 1) - gi bs (k * 8 + 1) ≤ crossI true (min (P.D i) (P.D k))
  lo : gi bs (i * 8) < Never → (∃ j, j < m ∧ gi zs (j * 5) = i ∧ gi bs (i * 8) = gi zs (j * 5 + 1)) ∨ ∃ k, k < P.l.length ∧ besides P.w i k = true ∧ 1 ≤ P.D k ∧ gi bs (k * 8) < Never ∧ gi bs (i * 8) - gi bs (k * 8) = crossI false (min (P.D i) (P.D k))
  hi : gi bs (i * 8) < Never → (∃ j, j < m ∧ gi zs (j * 5) = i ∧ gi bs (i * 8 + 1) = gi zs (j * 5 + 2)) ∨ ∃ k, k < P.l.length ∧ besides P.w i k = true ∧ 1 ≤ P.D k ∧ gi bs (k * 8) < Never ∧ gi bs (i * 8 + 1) - gi bs (k * 8 + 1) = crossI true (min (P.D i) (P.D k))
  nev : ¬ gi bs (i * 8) < Never → gi bs (i * 8) = Never ∧ gi bs (i * 8 + 1) = Never
theorem fst_at {P : Par} {zs : List Int} {m i : Nat} (hp : Pts P) (h5 : P.s = 500) (hz : SprOk P zs m) (hF : SprFin P zs m) (hi : i < P.l.length) (hD : 1 ≤ P.D i) : FstAt P zs (bounds P zs m) m i := by
  have Nv := Never_eq
  have oU := sailOk hz.ph hz.zh hF.fh.arr hF.fh.str
  have oL := sailOk hz.pl hz.zl hF.fl.arr hF.fl.str
  have B : Both (P.at true) (P.at false) zs zs m := ⟨⟨fun _ => rfl, rfl, rfl, rfl, rfl, fun c hc => by rw [hp.dep (c := c) hc false, hp.dep (c := c) hc true]; exact Int.le_refl _, fun c hc => by rw [hp.lst (c := c) hc false, hp.lst (c := c) hc true]; exact Int.le_refl _, fun c hc => hp.gr c hc ▸ Int.le_refl _, hz.ph.keep.2.1, hz.ph.land.2.1, hz.ph.loss.2.1, hz.ph.sea.2.1⟩, ⟨fun _ _ => rfl, fun i hi => (hz.zh.time i hi).2.1, fun i hi => (hz.zh.rise i hi).2.1⟩, hz.ph, hz.pl, hz.zh, hz.zl, hF.fh, hF.fl⟩
  have dd : ∀ (b : Bool) (c : Nat), c < P.l.length → (P.at b).dep c = P.D c := fun b c hc => hp.dep hc b
  have eL : ∀ c, c < P.l.length → 1 ≤ P.D c → gi (bounds P zs m) (c * 8) = gi (arrF (P.at true) zs m) c := fun c hc h => by
    have e := bounds_get (P := P) (zs := zs) (n := m) hc (show 0 < 8 by decide)
    rw [Nat.add_zero] at e
    rw [e]
    exact arrL_sea hF.fh (c := c) hc (by rw [hp.lst hc true]; exact h)
  have eH : ∀ c, c < P.l.length → 1 ≤ P.D c → gi (bounds P zs m) (c * 8 + 1) = gi (arrF (P.at false) zs m) c := fun c hc h => by
    rw [bounds_get (P := P) (zs := zs) (n := m) hc (show 1 < 8 by decide)]
    exact arrL_sea hF.fl (c := c) hc (by rw [hp.lst hc false]; exact h)
  have fin : ∀ c, c < P.l.length → 1 ≤ P.D c → gi (arrF (P.at true) zs m) c < Never → (gi (arrF (P.at true) zs m) c ≤ 2280000000 ∧ gi (arrF (P.at false) zs m) c ≤ 2280000000) ∧ gi (arrF (P.at false) zs m) c < Never := fun c hc _ h => by
    have h1 := hp.reach hz hF hc h
    exact ⟨⟨((oU.ar c hc).2 h).1, ((oL.ar c hc).2 h1).1⟩, h1⟩
  have cr : ∀ (b : Bool) (a c : Nat), a < P.l.length → c < P.l.length → (P.at b).cross a c = crossI (!b) (min (P.D c) (P.D a)) := fun b a c ha hc => by
    unfold Par.cross Par.num Par.den crossI
    rw [dd b a ha, dd b c hc]
    have e : (P.at b).s = 500 := h5
    rw [e, Int.min_comm]
    rfl
  have vU := hF.fh.arr.mid.val i hi
  have vL := hF.fl.arr.mid.val i hi
  have vU' : 0 ≤ gi (arrF (P.at true) zs m) i ∧ gi (arrF (P.at true) zs m) i ≤ Never := vU
  have vL' : 0 ≤ gi (arrF (P.at false) zs m) i ∧ gi (arrF (P.at false) zs m) i ≤ Never := vL
  have stc : ∀ j, j < m → (gi zs (j * 5) = i ↔ stC zs j = i) := fun j hj => by have := hz.zh.cell j hj; unfold stC; omega
  refine ⟨?_, ?_, ?_, ?_, ?_, ?_, ?_⟩
  · rw [eL i hi hD, eH i hi hD]; exact ⟨vU', vL'⟩
  · rw [eL i hi hD, eH i hi hD]; exact fun h => (fin i hi hD h).1
  · intro j hj hc
    rw [eL i hi hD, eH i hi hD]
    have e := (stc j hj).1 hc
    have h1 := arr0_le hz.zh m (Nat.le_refl _) j hj (by rw [e, dd true i hi]; exact hD)
    have h2 := arr0_le hz.zl m (Nat.le_refl _) j hj (by rw [e, dd false i hi]; exact hD)
    have h3 := hF.fh.arr.mid.imp i hi
    have h4 := hF.fl.arr.mid.imp i hi
    rw [e] at h1 h2
    exact ⟨Int.le_trans h3 h1, Int.le_trans h4 h2⟩
  · intro k hk hb hDk hfk
    rw [eL k hk hDk] at hfk
    rw [eL i hi hD, eH i hi hD, eL k hk hDk, eH k hk hDk]
    have hbu : i ∈ nbP (P.at true) k := besides_nb (P := P.at true) hz.ph hi hk hb
    have hbl : i ∈ nbP (P.at false) k := besides_nb (P := P.at false) hz.pl hi hk hb
    have h1 := arr_step hz.ph hF.fh oU (a := k) hk hbu (by rw [dd true k hk]; exact hDk) (by rw [dd true i hi]; exact hD) hfk
    have h2 := arr_step hz.pl hF.fl oL (a := k) hk hbl (by rw [dd false k hk]; exact hDk) (by rw [dd false i hi]; exact hD) (fin k hk hDk hfk).2
    rw [cr true k i hk hi] at h1
    rw [cr false k i hk hi] at h2
    refine ⟨h1.2, by have := h1.1; simp only [Bool.not_true] at this; omega, by have := h2.1; simp only [Bool.not_false] at this; omega⟩
  · intro hf
    rw [eL i hi hD] at hf ⊢
    rcases arr_from hz.ph hz.zh hF.fh (b := i) hi hf with ⟨j, hj, e, e2⟩ | ⟨k, hk, hb, d1, d2, hfk, e⟩
    · exact .inl ⟨j, hj, (stc j hj).2 e, e2⟩
    · have hDk : 1 ≤ P.D k := by rw [← dd true k hk]; exact d1
      refine .inr ⟨k, hk, nb_besides (P := P.at true) hz.ph hi hk hb, hDk, by rw [eL k hk hDk]; exact hfk, ?_⟩
      rw [eL k hk hDk, e, cr true k i hk hi]
      simp only [Bool.not_true]; omega
  · intro hf
    rw [eL i hi hD] at hf
    rw [eH i hi hD]
    rcases arr_from hz.pl hz.zl hF.fl (b := i) hi (fin i hi hD hf).2 with ⟨j, hj, e, e2⟩ | ⟨k, hk, hb, d1, d2, hfk, e⟩
    · exact .inl ⟨j, hj, (stc j hj).2 e, e2⟩
    · have hDk : 1 ≤ P.D k := by rw [← dd false k hk]; exact d1
      have hle : gi (arrF (P.at true) zs m) k ≤ gi (arrF (P.at false) zs m) k := B.ar hk
      refine .inr ⟨k, hk, nb_besides (P := P.at false) hz.pl hi hk hb, hDk, by rw [eL k hk hDk]; omega, ?_⟩
      rw [eH k hk hDk, e, cr false k i hk hi]
      simp only [Bool.not_false]; omega
  · intro hf
    rw [eL i hi hD] at hf ⊢
    rw [eH i hi hD]
    have hle : gi (arrF (P.at true) zs m) i ≤ gi (arrF (P.at false) zs m) i := B.ar hi
    exact ⟨by omega, by omega⟩
structure FstH (P : Par) (zs bs : List Int) (m b5 b6 : Nat) (zv bv : Value) (A : Hp) : Prop where
  g5 : A.get b5 = some (.cells [.int .i64 P.w, .int .i64 P.h, .int .i64 P.s, P.sl] false)
  g6 : A.get b6 = some (.cells [.int .i64 P.slo, .int .i64 P.shi] false)
  gr : groundOf A P.sl = some P.l
  rz : RdS A 5 m (ints zs) zv
  rb : RdS A 8 P.l.length (ints bs) bv
theorem FstH.ext {P : Par} {zs bs : List Int} {m b5 b6 : Nat} {zv bv : Value} {A A' : Hp} (h : FstH P zs bs m b5 b6 zv bv A) (k : Ext' A A') : FstH P zs bs m b5 b6 zv bv A' :=
  ⟨k.get h.g5, k.get h.g6, groundOf_mono h.gr k.2, h.rz.mono k.2, h.rb.mono k.2⟩
def row8L (bs : List Int) (i : Nat) : List Value := [.int .i64 (gi bs (i * 8)), .int .i64 (gi bs (i * 8 + 1)), .int .i64 (gi bs (i * 8 + 2)), .int .i64 (gi bs (i * 8 + 3)), .int .i64 (gi bs (i * 8 + 4)), .int .i64 (gi bs (i * 8 + 5)), .int .i64 (gi bs (i * 8 + 6)), .int .i64 (gi bs (i * 8 + 7))]
section
variable {g : Nat} {D : List Nat} {rd : Option Nat} {Q : Ex → St → Prop} {A : Hp} {V : Value → Hp → Prop}
theorem loop8s {P : Par} {zs bs : List Int} {m i b13 : Nat} {zv : Value} {A0 : Hp} {T0 : List Value} (hm : m < 1000000) (hz : StartOk P zs m) (hF : FstAt P zs bs m i) (hrz : RdS A0 5 m (ints zs) zv) (h13 : A0.get b13 = some (.cells (row8L bs i) false)) (hg : g ≤ A0.n)
    (hQ : ∀ T' A' (x y : Bool), Ext' A0 A' → (∀ j, j < m → gi zs (j * 5) = i → (gi bs (i * 8) = gi zs (j * 5 + 1) → x = true) ∧ (gi bs (i * 8 + 1) = gi zs (j * 5 + 2) → y = true)) → tget T' 14 = .bool x → tget T' 15 = .bool y → (∀ i, i < 14 ∨ (59 ≤ i ∧ i < 62) → tget T' i = tget T0 i) → Q (.exit 2) ⟨T', D, A'⟩) :
    ∀ (k c : Nat) (T : List Value) (A : Hp) (x y : Bool), c + k = m → Ext' A0 A → (∀ j, j < c → gi zs (j * 5) = i → (gi bs (i * 8) = gi zs (j * 5 + 1) → x = true) ∧ (gi bs (i * 8 + 1) = gi zs (j * 5 + 2) → y = true)) → tget T 14 = .bool x → tget T 15 = .bool y → (∀ i, i < 14 ∨ (59 ≤ i ∧ i < 62) → tget T i = tget T0 i) →
      tget T0 12 = .int .i64 i → tget T0 13 = ptrV b13 → tget T 70 = zv → tget T 71 = .int .i64 m → tget T 72 = .int .i64 c → W AP KL g rd (.loop body8s) ⟨T, D, A⟩ Q := by
  intro k
  induction k with
  | zero =>
    intro c T A x y hc kA hx t14 t15 hT t12' t13' t70 t71 t72
    have : c = m := by omega
    rw [W_loop]
    simp (disch := as_aux_lemma => first | omega | simp only [hDs] <;> omega | simp [isCell]) [hRs, takeMarks, resA, resAll, resOne, Value.cells, body8s, t71, t72, show ¬ ((c : Int) < m) by omega]
    refine hQ _ A x y kA (by rw [← this]; exact hx) (by simp [t14]) (by simp [t15]) fun j hj => ?_
    simp only [tget_tset]
    rw [if_neg (by omega)]
    exact hT j hj
  | succ k ih =>
    intro c T A x y hc kA hx t14 t15 hT t12' t13' t70 t71 t72
    have t12 := (hT 12 (by omega)).trans t12'
    have t13 := (hT 13 (by omega)).trans t13'
    obtain ⟨v, cv, rv, hv, hvg⟩ := (hrz.mono kA.2).at (i := c) (by omega)
    have hzl : zs.length = m * 5 := hz.len
    have g13 := kA.get h13
    unfold row8L at g13
    have nv := Hp.lt_of_get hvg
    have n13 := Hp.lt_of_get g13
    have kn := kA.1
    obtain ⟨B, hB⟩ : ∃ B, B = A.push (.cells [.int .i64 (gi zs (c * 5)), .int .i64 (gi zs (c * 5 + 1)), .int .i64 (gi zs (c * 5 + 2)), .int .i64 (gi zs (c * 5 + 3)), .int .i64 (gi zs (c * 5 + 4))] false) := ⟨_, rfl⟩
    have kB : Ext' A B := by rw [hB]; exact Ext'.push _ _
    have gB : B.get A.n = some (.cells [.int .i64 (gi zs (c * 5)), .int .i64 (gi zs (c * 5 + 1)), .int .i64 (gi zs (c * 5 + 2)), .int .i64 (gi zs (c * 5 + 3)), .int .i64 (gi zs (c * 5 + 4))] false) := by rw [hB]; exact get_push_new
    have g13B := kB.get g13
    have t70' := t70
    rw [hv] at t70'
    have fin : ∀ (T' : List Value) (x' y' : Bool), (∀ j, j < c + 1 → gi zs (j * 5) = i → (gi bs (i * 8) = gi zs (j * 5 + 1) → x' = true) ∧ (gi bs (i * 8 + 1) = gi zs (j * 5 + 2) → y' = true)) → tget T' 14 = .bool x' → tget T' 15 = .bool y' → (∀ i, i < 14 ∨ (59 ≤ i ∧ i < 62) → tget T' i = tget T i) → tget T' 70 = tget T 70 → tget T' 71 = tget T 71 → tget T' 72 = .int .i64 ((c : Int) + 1) → W AP KL g rd (.loop body8s) ⟨T', D, B⟩ Q := fun T' x' y' h1 h2 h3 h4 h5 h6 h7 =>
      ih (c + 1) T' B x' y' (by omega) (kA.trans kB) h1 h2 h3 (fun j hj => (h4 j hj).trans (hT j hj)) t12' t13' (h5.trans t70) (h6.trans t71) (by rw [h7]; simp)
    have w1 := wrId (n := (c : Int) + 1) (by omega) (by omega)
    rw [W_loop]
    simp (disch := as_aux_lemma => first | omega | simp only [hDs] <;> omega | simp [isCell]) [hRs, takeMarks, resA, resAll, resOne, Value.cells, body8s, t70', t71, t72, show (c : Int) < m by omega, idxSA_ok, hvg, ints_5, storeB_cells, setRange_all]
    rw [← hB]
    by_cases h : gi zs (c * 5) = i
    · obtain ⟨s1, s2⟩ := hF.st c (by omega) h
      obtain ⟨x', hx'⟩ : ∃ x', x' = (x || decide (gi bs (i * 8) = gi zs (c * 5 + 1))) := ⟨_, rfl⟩
      obtain ⟨y', hy'⟩ : ∃ y', y' = (y || decide (gi bs (i * 8 + 1) = gi zs (c * 5 + 2))) := ⟨_, rfl⟩
      have inv : ∀ j, j < c + 1 → gi zs (j * 5) = i → (gi bs (i * 8) = gi zs (j * 5 + 1) → x' = true) ∧ (gi bs (i * 8 + 1) = gi zs (j * 5 + 2) → y' = true) := fun j hj hji => by
        by_cases e : j = c
        · subst e
          exact ⟨fun h => by rw [hx', h]; simp, fun h => by rw [hy', h]; simp⟩
        · have := hx j (by omega) hji
          exact ⟨fun h => by rw [hx', this.1 h]; rfl, fun h => by rw [hy', this.2 h]; rfl⟩
      cases x <;> cases y <;> simp (disch := as_aux_lemma => first | omega | simp only [hDs] <;> omega | simp [isCell]) [hRs, takeMarks, resA, resAll, resOne, Value.cells, gB, g13B, t12, t13, t14, t15, ptrV, h, show ¬ (gi zs (c * 5 + 1) < gi bs (i * 8)) by omega, show ¬ (gi zs (c * 5 + 2) < gi bs (i * 8 + 1)) by omega, t72, w1]
      all_goals exact fin _ x' y' inv (by simp [hx']) (by simp [hy']) (fun j hj => by simp only [tget_tset]; repeat (rw [if_neg (by omega)])) (by simp) (by simp) (by simp [w1])
    · simp (disch := as_aux_lemma => first | omega | simp only [hDs] <;> omega | simp [isCell]) [hRs, takeMarks, resA, resAll, resOne, Value.cells, gB, t12, h, t72, w1]
      refine fin _ x y (fun j hj hji => ?_) (by simp [t14]) (by simp [t15]) (fun j hj => by simp only [tget_tset]; repeat (rw [if_neg (by omega)])) (by simp) (by simp) (by simp [w1])
      by_cases e : j = c
      · subst e; exact absurd hji h
      · exact hx j (by omega) hji
end
end Go.Ab.Wave
namespace Go.Ab.Wave
open Go Go.Ab
section
variable {g : Nat} {D : List Nat} {rd : Option Nat} {Q : Ex → St → Prop} {A : Hp} {V : Value → Hp → Prop}
theorem nearL_mem {w : Int} {c i x : Nat} (h : x ∈ nearL w c i) : x < i ∧ besides w c x = true := by
  obtain ⟨h1, h2⟩ := List.mem_filter.1 h
  exact ⟨List.mem_range.1 h1, h2⟩
theorem nearI_get {w : Int} {c i j : Nat} (h : j < (nearL w c i).length) : gi (nearI w c i) j = ((nearL w c i)[j] : Nat) := by
  unfold nearI
  rw [gi_eq (by rw [List.length_map]; exact h)]
  simp
theorem tail8_run {T : List Value} {b5 : Nat} {a b e : Value} {t s d : Int} (hd : 1 ≤ d ∧ d ≤ 1220000) (tr : -3000000000 ≤ t ∧ t ≤ 3000000000) (sr : -3000000000 ≤ s ∧ s ≤ 3000000000) (ht : t ≤ crossI false d) (hs : s ≤ crossI true d) (g5 : A.get b5 = some (.cells [a, b, .int .i64 500, e] false))
    (t5 : tget T 5 = ptrV b5) (t21 : tget T 21 = .int .i64 d) (t22 : tget T 22 = .int .i64 t) (t23 : tget T 23 = .int .i64 s) (hQ : ∀ T', (∀ i, (i < 24 ∨ (59 ≤ i ∧ i < 62) ∨ (119 ≤ i ∧ i < 122)) → tget T' i = tget T i) → Q .normal ⟨T', D, A⟩) : W AP KL g rd tail8 ⟨T, D, A⟩ Q := by
  obtain ⟨c0, c1, c2⟩ := cross_root hd.1 hd.2 rfl
  obtain ⟨d0, d1, d2⟩ := cross_rootUp hd.1 hd.2 rfl
  have qa : 0 < t → ¬ ((2500000000000000 : Int).tdiv (981 * d) < t * t) := fun h => by
    have := Int.mul_le_mul ht ht (by omega) c0
    omega
  have qb : 0 < s → ¬ ((2500000000000000 + 981 * d - 1 : Int).tdiv (981 * d) ≤ (s - 1) * (s - 1)) := fun h => by
    have := Int.mul_le_mul (show s - 1 ≤ crossI true d - 1 by omega) (show s - 1 ≤ crossI true d - 1 by omega) (by omega) (by omega)
    omega
  have qt := sq_abs (t := t) (b := 3000000000) ⟨by omega, tr.2⟩
  have qs := sq_abs (t := s - 1) (b := 3000000001) ⟨by omega, by omega⟩
  have wtt := wrId (n := t * t) (by omega) (by omega)
  have wss := wrId (n := (s - 1) * (s - 1)) (by omega) (by omega)
  have ws1 := wrId (n := s - 1) (by omega) (by omega)
  have wa := wrId (n := (981 : Int) * d) (by omega) (by omega)
  have wb := wrId (n := (2500000000000000 : Int) + 981 * d) (by omega) (by omega)
  have wc := wrId (n := (2500000000000000 : Int) + 981 * d - 1) (by omega) (by omega)
  have hq : 0 ≤ (2500000000000000 : Int).tdiv (981 * d) ∧ (2500000000000000 : Int).tdiv (981 * d) ≤ 2500000000000000 := ⟨Int.tdiv_nonneg (by omega) (by omega), tdiv_le_of (by omega) (by omega) (by omega)⟩
  have hq2 : 0 ≤ (2500000000000000 + 981 * d - 1 : Int).tdiv (981 * d) ∧ (2500000000000000 + 981 * d - 1 : Int).tdiv (981 * d) ≤ 2500000000000000 := ⟨Int.tdiv_nonneg (by omega) (by omega), tdiv_le_of (by omega) (by omega) (by omega)⟩
  have wq := wrId (n := (2500000000000000 : Int).tdiv (981 * d)) (by omega) (by omega)
  have wq2 := wrId (n := (2500000000000000 + 981 * d - 1 : Int).tdiv (981 * d)) (by omega) (by omega)
  have e1 : wr .i64 (500 * 500) = 250000 := rfl
  have e2 : wr .i64 (250000 * 10000000000) = 2500000000000000 := rfl
  have e3 : wr .i64 (250000 : Int) = 250000 := rfl
  have e4 : wr .i64 (2500000000000000 : Int) = 2500000000000000 := rfl
  have n0 : ¬ (981 * d = 0) := by omega
  have hn : ∀ z : Int, z ≤ 0 → ¬ 0 < z := fun z h => Int.not_lt.2 h
  rcases Int.lt_or_le 0 t with h1 | h1 <;> rcases Int.lt_or_le 0 s with h2 | h2
  · simp (disch := as_aux_lemma => first | omega | simp only [hDs] <;> omega | simp [isCell]) [hRs, takeMarks, resA, resAll, resOne, Value.cells, tail8, t5, ptrV, g5, t21, t22, t23, e1, e2, e3, e4, wa, wb, wc, wq, wq2, wtt, wss, ws1, binA_quo, n0, GuardW_u, h1, qa h1, h2, qb h2]
    refine hQ _ fun i hi => ?_
    simp only [tget_tset]
    repeat (rw [if_neg (by omega)])
  · simp (disch := as_aux_lemma => first | omega | simp only [hDs] <;> omega | simp [isCell]) [hRs, takeMarks, resA, resAll, resOne, Value.cells, tail8, t5, ptrV, g5, t21, t22, t23, e1, e2, e3, e4, wa, wb, wc, wq, wq2, wtt, wss, ws1, binA_quo, n0, GuardW_u, h1, qa h1, hn s h2]
    refine hQ _ fun i hi => ?_
    simp only [tget_tset]
    repeat (rw [if_neg (by omega)])
  · simp (disch := as_aux_lemma => first | omega | simp only [hDs] <;> omega | simp [isCell]) [hRs, takeMarks, resA, resAll, resOne, Value.cells, tail8, t5, ptrV, g5, t21, t22, t23, e1, e2, e3, e4, wa, wb, wc, wq, wq2, wtt, wss, ws1, binA_quo, n0, GuardW_u, hn t h1, h2, qb h2]
    refine hQ _ fun i hi => ?_
    simp only [tget_tset]
    repeat (rw [if_neg (by omega)])
  · simp (disch := as_aux_lemma => first | omega | simp only [hDs] <;> omega | simp [isCell]) [hRs, takeMarks, resA, resAll, resOne, Value.cells, tail8, t5, ptrV, g5, t21, t22, t23, e1, e2, e3, e4, wa, wb, wc, wq, wq2, wtt, wss, ws1, binA_quo, n0, GuardW_u, hn t h1, hn s h2]
    refine hQ _ fun i hi => ?_
    simp only [tget_tset]
    repeat (rw [if_neg (by omega)])
set_option maxHeartbeats 2000000 in
theorem loop8n {P : Par} {zs bs : List Int} {m i b5 b6 b13 : Nat} {zv bv nv : Value} {A0 : Hp} {T0 : List Value} (hP : POk P) (h500 : P.s = 500) (hi : i < P.l.length) (hDi : 1 ≤ P.D i) (hF : ∀ c, c < P.l.length → 1 ≤ P.D c → FstAt P zs bs m c) (hH : FstH P zs bs m b5 b6 zv bv A0) (hbl : bs.length = P.l.length * 8)
    (h13 : A0.get b13 = some (.cells (row8L bs i) false)) (hg : g ≤ A0.n) (hnv : RdS A0 1 (nearL P.w i P.l.length).length (ints (nearI P.w i P.l.length)) nv)
    (hQ : ∀ T' A' (x y z : Bool), Ext' A0 A' → (∀ k, k < P.l.length → besides P.w i k = true → 1 ≤ P.D k → gi bs (k * 8) < Never → (gi bs (i * 8) - gi bs (k * 8) = crossI false (min (P.D i) (P.D k)) → x = true) ∧ (gi bs (i * 8 + 1) - gi bs (k * 8 + 1) = crossI true (min (P.D i) (P.D k)) → y = true)) → (z = true → gi bs (i * 8) < Never) →
      (tget T0 14 = .bool true → x = true) → (tget T0 15 = .bool true → y = true) → tget T' 14 = .bool x → tget T' 15 = .bool y → tget T' 18 = .bool z → (∀ i, i < 14 ∨ (59 ≤ i ∧ i < 62) → tget T' i = tget T0 i) → Q (.exit 4) ⟨T', D, A'⟩) :
    ∀ (q c : Nat) (T : List Value) (A : Hp) (x y z : Bool), c + q = (nearL P.w i P.l.length).length → Ext' A0 A →
      (∀ j, ∀ hj : j < (nearL P.w i P.l.length).length, j < c → 1 ≤ P.D (nearL P.w i P.l.length)[j] → gi bs ((nearL P.w i P.l.length)[j] * 8) < Never → (gi bs (i * 8) - gi bs ((nearL P.w i P.l.length)[j] * 8) = crossI false (min (P.D i) (P.D (nearL P.w i P.l.length)[j])) → x = true) ∧ (gi bs (i * 8 + 1) - gi bs ((nearL P.w i P.l.length)[j] * 8 + 1) = crossI true (min (P.D i) (P.D (nearL P.w i P.l.length)[j])) → y = true)) →
      (z = true → gi bs (i * 8) < Never) → (tget T0 14 = .bool true → x = true) → (tget T0 15 = .bool true → y = true) → tget T 14 = .bool x → tget T 15 = .bool y → tget T 18 = .bool z → (∀ i, i < 14 ∨ (59 ≤ i ∧ i < 62) → tget T i = tget T0 i) →
      tget T0 5 = ptrV b5 → tget T0 9 = bv → tget T0 11 = .func (.func 32) ⟨[]⟩ ⟨[ptrV b6, ptrV b5]⟩ → tget T0 12 = .int .i64 i → tget T0 13 = ptrV b13 → tget T 119 = nv → tget T 120 = .int .i64 (nearL P.w i P.l.length).length → tget T 121 = .int .i64 c → W AP KL g rd (.loop body8n) ⟨T, D, A⟩ Q := by
  obtain ⟨L, hL⟩ : ∃ L, L = nearL P.w i P.l.length := ⟨_, rfl⟩
  have hLn : ∀ j, ∀ hj : j < L.length, L[j] < P.l.length ∧ besides P.w i L[j] = true := fun j hj => nearL_mem (c := i) (i := P.l.length) (by rw [← hL]; exact List.getElem_mem hj)
  have hLa : ∀ k, k < P.l.length → besides P.w i k = true → ∃ j, ∃ hj : j < L.length, L[j] = k := fun k hk hb => by
    have : k ∈ L := by rw [hL]; exact List.mem_filter.2 ⟨List.mem_range.2 hk, hb⟩
    obtain ⟨j, hj, e⟩ := List.mem_iff_getElem.1 this
    exact ⟨j, hj, e⟩
  have hLl : L.length ≤ P.l.length := by have := nearI_len (w := P.w) (c := i) (i := P.l.length); unfold nearI at this; rw [List.length_map] at this; rw [hL]; exact this
  have hLg : ∀ j, ∀ hj : j < L.length, gi (nearI P.w i P.l.length) j = ((L[j] : Nat) : Int) := fun j hj => by subst hL; exact nearI_get hj
  have hLi : (nearI P.w i P.l.length).length = L.length := by rw [hL]; unfold nearI; rw [List.length_map]
  rw [← hL] at hnv ⊢
  have hsm := hP.small
  have Nv := Never_eq
  have hsea := hP.sea
  have hDr : ∀ c, c < P.l.length → -1220000 ≤ P.D c ∧ P.D c ≤ 1220000 := fun c hc => by have := hP.ground hc; unfold Par.D; omega
  have Fi := hF i hi hDi
  intro q
  induction q with
  | zero =>
    intro c T A x y z hc kA hxy hz hx0 hy0 t14 t15 t18 hT t5' t9' t11' t12' t13' t119 t120 t121
    have : c = L.length := by omega
    rw [W_loop]
    simp (disch := as_aux_lemma => first | omega | simp only [hDs] <;> omega | simp [isCell]) [hRs, takeMarks, resA, resAll, resOne, Value.cells, body8n, t120, t121, show ¬ ((c : Int) < L.length) by omega]
    refine hQ _ A x y z kA (fun k hk hb hd hf => ?_) hz hx0 hy0 (by simp [t14]) (by simp [t15]) (by simp [t18]) fun j hj => ?_
    · obtain ⟨j, hj, e⟩ := hLa k hk hb
      subst e
      exact hxy j hj (by omega) hd hf
    · simp only [tget_tset]
      rw [if_neg (by omega)]
      exact hT j hj
  | succ q ih =>
    intro c T A x y z hc kA hxy hz hx0 hy0 t14 t15 t18 hT t5' t9' t11' t12' t13' t119 t120 t121
    have t5 := (hT 5 (by omega)).trans t5'
    have t9 := (hT 9 (by omega)).trans t9'
    have t11 := (hT 11 (by omega)).trans t11'
    have t12 := (hT 12 (by omega)).trans t12'
    have t13 := (hT 13 (by omega)).trans t13'
    have hcl : c < L.length := by omega
    obtain ⟨k, hk⟩ : ∃ k, k = L[c] := ⟨_, rfl⟩
    obtain ⟨hkl, hkb⟩ := hLn c hcl
    have hkg := hLg c hcl
    rw [← hk] at hkl hkb hkg
    obtain ⟨u, cu, ru, hu, hug⟩ := (hnv.mono kA.2).at (i := c) hcl
    have HA := hH.ext kA
    obtain ⟨v, cv, rv, hv, hvg⟩ := HA.rb.at (i := k) hkl
    have g13 := kA.get h13
    unfold row8L at g13
    have nu := Hp.lt_of_get hug
    have nv' := Hp.lt_of_get hvg
    have n13 := Hp.lt_of_get g13
    have n5 := Hp.lt_of_get HA.g5
    have kn := kA.1
    have t119' := t119
    rw [hu] at t119'
    have t9'' := t9
    rw [hv] at t9''
    have fin : ∀ (T' : List Value) (x' y' z' : Bool),
        ((∀ j, ∀ hj : j < L.length, j < c + 1 → 1 ≤ P.D L[j] → gi bs (L[j] * 8) < Never → (gi bs (i * 8) - gi bs (L[j] * 8) = crossI false (min (P.D i) (P.D L[j])) → x' = true) ∧ (gi bs (i * 8 + 1) - gi bs (L[j] * 8 + 1) = crossI true (min (P.D i) (P.D L[j])) → y' = true)) ∧ (z' = true → gi bs (i * 8) < Never) ∧ (x = true → x' = true) ∧ (y = true → y' = true)) →
        tget T' 14 = .bool x' → tget T' 15 = .bool y' → tget T' 18 = .bool z' → (∀ i, i < 14 ∨ (59 ≤ i ∧ i < 62) → tget T' i = tget T i) → tget T' 119 = tget T 119 → tget T' 120 = tget T 120 → tget T' 121 = .int .i64 ((c : Int) + 1) → W AP KL g rd (.loop body8n) ⟨T', D, A⟩ Q := fun T' x' y' z' hh h14 h15 h18 h1 h2 h3 h4 =>
      ih (c + 1) T' A x' y' z' (by omega) kA hh.1 hh.2.1 (fun h => hh.2.2.1 (hx0 h)) (fun h => hh.2.2.2 (hy0 h)) h14 h15 h18 (fun j hj => (h1 j hj).trans (hT j hj)) t5' t9' t11' t12' t13' (h2.trans t119) (h3.trans t120) (by rw [h4]; simp)
    have w1 := wrId (n := (c : Int) + 1) (by omega) (by omega)
    have skip : ¬ (1 ≤ P.D k ∧ gi bs (k * 8) < Never) → ∀ T' : List Value, tget T' 14 = tget T 14 → tget T' 15 = tget T 15 → tget T' 18 = tget T 18 → (∀ i, i < 14 ∨ (59 ≤ i ∧ i < 62) → tget T' i = tget T i) → tget T' 119 = tget T 119 → tget T' 120 = tget T 120 → tget T' 121 = .int .i64 ((c : Int) + 1) → W AP KL g rd (.loop body8n) ⟨T', D, A⟩ Q := fun hno T' h14 h15 h18 h1 h2 h3 h4 =>
      fin T' x y z ⟨fun j hj hjc hd hf => by
        by_cases e : j = c
        · subst e; rw [← hk] at hd hf; exact absurd ⟨hd, hf⟩ hno
        · exact hxy j hj (by omega) hd hf, hz, fun h => h, fun h => h⟩ (h14.trans t14) (h15.trans t15) (h18.trans t18) h1 h2 h3 h4
    have hDk := hDr k hkl
    have hDi' := hDr i hi
    rw [W_loop]
    simp (disch := as_aux_lemma => first | omega | simp only [hDs] <;> omega | simp [isCell]) [hRs, takeMarks, resA, resAll, resOne, Value.cells, body8n, t119', t120, t121, show (c : Int) < L.length by omega, idxSA_ok, hug, ints_get, hLi, hkg, t11]
    refine w32 hP hkl HA.gr HA.g5 HA.g6 ?_
    have eD : P.slo - P.glo k = P.D k := rfl
    rw [eD]
    by_cases h1 : P.D k < 1
    · simp (disch := as_aux_lemma => first | omega | simp only [hDs] <;> omega | simp [isCell]) [hRs, takeMarks, resA, resAll, resOne, Value.cells, h1, t121, w1, GuardW_u]
      exact skip (by omega) _ (by simp) (by simp) (by simp) (fun j hj => by simp only [tget_tset]; repeat (rw [if_neg (by omega)])) (by simp) (by simp) (by simp [w1])
    by_cases h2 : Never ≤ gi bs (k * 8)
    · have h2' : (1099511627776 : Int) ≤ gi bs (k * 8) := by omega
      simp (disch := as_aux_lemma => first | omega | simp only [hDs] <;> omega | simp [isCell]) [hRs, takeMarks, resA, resAll, resOne, Value.cells, h1, h2', t9'', idxSA_ok, show (k : Int) < P.l.length by omega, hvg, ints_get, t121, w1]
      exact skip (by omega) _ (by simp) (by simp) (by simp) (fun j hj => by simp only [tget_tset]; repeat (rw [if_neg (by omega)])) (by simp) (by simp) (by simp [w1])
    have h2' : ¬ ((1099511627776 : Int) ≤ gi bs (k * 8)) := by omega
    obtain ⟨f1, f2, f3⟩ := Fi.nb k hkl hkb (by omega) (by omega)
    have Fk := hF k hkl (by omega)
    have rk := Fk.fin (by omega)
    have ri := Fi.fin f1
    have rk2 := Fk.rng
    have ri2 := Fi.rng
    have hd : 1 ≤ min (P.D i) (P.D k) ∧ min (P.D i) (P.D k) ≤ 1220000 := by omega
    obtain ⟨d, hdd⟩ : ∃ d, d = min (P.D i) (P.D k) := ⟨_, rfl⟩
    obtain ⟨t, ht⟩ : ∃ t, t = gi bs (i * 8) - gi bs (k * 8) := ⟨_, rfl⟩
    obtain ⟨s, hs⟩ : ∃ s, s = gi bs (i * 8 + 1) - gi bs (k * 8 + 1) := ⟨_, rfl⟩
    rw [← hdd] at hd f2 f3
    rw [← ht] at f2
    rw [← hs] at f3
    have tr : -3000000000 ≤ t ∧ t ≤ 3000000000 := by omega
    have sr : -3000000000 ≤ s ∧ s ≤ 3000000000 := by omega
    have wt := wrId (n := gi bs (i * 8) - gi bs (k * 8)) (by omega) (by omega)
    have ws := wrId (n := gi bs (i * 8 + 1) - gi bs (k * 8 + 1)) (by omega) (by omega)
    simp (disch := as_aux_lemma => first | omega | simp only [hDs] <;> omega | simp [isCell]) [hRs, takeMarks, resA, resAll, resOne, Value.cells, h1, h2', t9'', idxSA_ok, show (k : Int) < P.l.length by omega, hvg, ints_get, t11, t12]
    refine w32 hP hi HA.gr HA.g5 HA.g6 ?_
    simp (disch := as_aux_lemma => first | omega | simp only [hDs] <;> omega | simp [isCell]) [hRs, takeMarks, resA, resAll, resOne, Value.cells, t11]
    refine w32 hP hkl HA.gr HA.g5 HA.g6 ?_
    have eDi : P.slo - P.glo i = P.D i := rfl
    rw [eD, eDi]
    have inv : ∀ x' y' : Bool, (x = true → x' = true) → (y = true → y' = true) → (t = crossI false d → x' = true) → (s = crossI true d → y' = true) →
        ((∀ j, ∀ hj : j < L.length, j < c + 1 → 1 ≤ P.D L[j] → gi bs (L[j] * 8) < Never → (gi bs (i * 8) - gi bs (L[j] * 8) = crossI false (min (P.D i) (P.D L[j])) → x' = true) ∧ (gi bs (i * 8 + 1) - gi bs (L[j] * 8 + 1) = crossI true (min (P.D i) (P.D L[j])) → y' = true)) ∧ (true = true → gi bs (i * 8) < Never) ∧ (x = true → x' = true) ∧ (y = true → y' = true)) := fun x' y' hx' hy' hx2 hy2 =>
      ⟨fun j hj hjc hd hf => by
        by_cases e : j = c
        · subst e
          rw [← hk, ← hdd, ← ht, ← hs]
          exact ⟨hx2, hy2⟩
        · have := hxy j hj (by omega) hd hf
          exact ⟨fun h => hx' (this.1 h), fun h => hy' (this.2 h)⟩, fun _ => f1, hx', hy'⟩
    have g5 := HA.g5
    rw [h500] at g5
    have et : wr .i64 (gi bs (i * 8) - gi bs (k * 8)) = t := wt.trans ht.symm
    have es : wr .i64 (gi bs (i * 8 + 1) - gi bs (k * 8 + 1)) = s := ws.trans hs.symm
    have last : ∀ (T1 : List Value) (x' y' : Bool), (x = true → x' = true) → (y = true → y' = true) → (t = crossI false d → x' = true) → (s = crossI true d → y' = true) → tget T1 14 = .bool x' → tget T1 15 = .bool y' → tget T1 18 = .bool true → tget T1 21 = .int .i64 d → tget T1 22 = .int .i64 t → tget T1 23 = .int .i64 s →
        (∀ i, i < 14 ∨ (59 ≤ i ∧ i < 62) → tget T1 i = tget T i) → tget T1 119 = tget T 119 → tget T1 120 = tget T 120 → tget T1 121 = tget T 121 → ∀ R : Ex → St → Prop, (∀ T', (∀ T'', tget T'' 14 = .bool x' → tget T'' 15 = .bool y' → tget T'' 18 = .bool true → (∀ i, i < 14 ∨ (59 ≤ i ∧ i < 62) → tget T'' i = tget T i) → tget T'' 119 = tget T 119 → tget T'' 120 = tget T 120 → tget T'' 121 = .int .i64 ((c : Int) + 1) → W AP KL g rd (.loop body8n) ⟨T'', D, A⟩ Q) → (∀ i, (i < 24 ∨ (59 ≤ i ∧ i < 62) ∨ (119 ≤ i ∧ i < 122)) → tget T' i = tget T1 i) → R .normal ⟨T', D, A⟩) → W AP KL g rd tail8 ⟨T1, D, A⟩ R :=
      fun T1 x' y' hx' hy' hx2 hy2 h14 h15 h18 h21 h22 h23 h1 h119 h120 h121 R hR =>
        tail8_run hd tr sr f2 f3 g5 ((h1 5 (by omega)).trans t5) h21 h22 h23 fun T' hT' => hR T' (fun T'' k14 k15 k18 k1 k119 k120 k121 => fin T'' x' y' true (inv x' y' hx' hy' hx2 hy2) k14 k15 k18 k1 k119 k120 k121) hT'
    cases x <;> cases y
    · simp (disch := as_aux_lemma => first | omega | simp only [hDs] <;> omega | simp [isCell]) [hRs, takeMarks, resA, resAll, resOne, Value.cells, t9'', t12, t13, t14, t15, t5, ptrV, g13, g5, idxSA_ok, show (k : Int) < P.l.length by omega, hvg, ints_get, et, es, ← hdd]
      refine w34d hd tr fun x' hx' => ?_
      simp (disch := as_aux_lemma => first | omega | simp only [hDs] <;> omega | simp [isCell]) [hRs, takeMarks, resA, resAll, resOne, Value.cells, t9'', t12, t13, t14, t15, t5, ptrV, g13, g5, idxSA_ok, show (k : Int) < P.l.length by omega, hvg, ints_get, et, es, ← hdd]
      refine w34u hd sr fun y' hy' => ?_
      simp (disch := as_aux_lemma => first | omega | simp only [hDs] <;> omega | simp [isCell]) [hRs, takeMarks, resA, resAll, resOne, Value.cells]
      refine last _ x' y' (by simp) (by simp) hx' hy' (by simp) (by simp) (by simp) (by simp) (by simp) (by simp) (fun j hj => by simp only [tget_tset]; repeat (rw [if_neg (by omega)])) (by simp) (by simp) (by simp) _ fun T' hgo hT' => ?_
      have r14 := hT' 14 (by omega)
      have r15 := hT' 15 (by omega)
      have r18 := hT' 18 (by omega)
      have r119 := hT' 119 (by omega)
      have r120 := hT' 120 (by omega)
      have r121 := hT' 121 (by omega)
      simp at r14 r15 r18 r119 r120 r121
      simp (disch := as_aux_lemma => first | omega | simp only [hDs] <;> omega | simp [isCell]) [hRs, takeMarks, resA, resAll, resOne, Value.cells, r121, t121, w1]
      refine hgo _ (by simp [r14]) (by simp [r15]) (by simp [r18]) (fun j hj => ?_) (by simp [r119]) (by simp [r120]) (by simp [w1])
      simp only [tget_tset]
      rw [if_neg (by omega), if_neg (by omega), hT' j (by omega)]
      simp only [tget_tset]
      repeat (rw [if_neg (by omega)])
    · simp (disch := as_aux_lemma => first | omega | simp only [hDs] <;> omega | simp [isCell]) [hRs, takeMarks, resA, resAll, resOne, Value.cells, t9'', t12, t13, t14, t15, t5, ptrV, g13, g5, idxSA_ok, show (k : Int) < P.l.length by omega, hvg, ints_get, et, es, ← hdd]
      refine w34d hd tr fun x' hx' => ?_
      simp (disch := as_aux_lemma => first | omega | simp only [hDs] <;> omega | simp [isCell]) [hRs, takeMarks, resA, resAll, resOne, Value.cells, t9'', t12, t13, t14, t15, t5, ptrV, g13, g5, idxSA_ok, show (k : Int) < P.l.length by omega, hvg, ints_get, et, es, ← hdd]
      refine last _ x' true (by simp) (by simp) hx' (fun _ => rfl) (by simp) (by simp) (by simp) (by simp) (by simp) (by simp) (fun j hj => by simp only [tget_tset]; repeat (rw [if_neg (by omega)])) (by simp) (by simp) (by simp) _ fun T' hgo hT' => ?_
      have r14 := hT' 14 (by omega)
      have r15 := hT' 15 (by omega)
      have r18 := hT' 18 (by omega)
      have r119 := hT' 119 (by omega)
      have r120 := hT' 120 (by omega)
      have r121 := hT' 121 (by omega)
      simp at r14 r15 r18 r119 r120 r121
      simp (disch := as_aux_lemma => first | omega | simp only [hDs] <;> omega | simp [isCell]) [hRs, takeMarks, resA, resAll, resOne, Value.cells, r121, t121, w1]
      refine hgo _ (by simp [r14]) (by simp [r15]) (by simp [r18]) (fun j hj => ?_) (by simp [r119]) (by simp [r120]) (by simp [w1])
      simp only [tget_tset]
      rw [if_neg (by omega), if_neg (by omega), hT' j (by omega)]
      simp only [tget_tset]
      repeat (rw [if_neg (by omega)])
    · simp (disch := as_aux_lemma => first | omega | simp only [hDs] <;> omega | simp [isCell]) [hRs, takeMarks, resA, resAll, resOne, Value.cells, t9'', t12, t13, t14, t15, t5, ptrV, g13, g5, idxSA_ok, show (k : Int) < P.l.length by omega, hvg, ints_get, et, es, ← hdd]
      refine w34u hd sr fun y' hy' => ?_
      simp (disch := as_aux_lemma => first | omega | simp only [hDs] <;> omega | simp [isCell]) [hRs, takeMarks, resA, resAll, resOne, Value.cells]
      refine last _ true y' (by simp) (by simp) (fun _ => rfl) hy' (by simp) (by simp) (by simp) (by simp) (by simp) (by simp) (fun j hj => by simp only [tget_tset]; repeat (rw [if_neg (by omega)])) (by simp) (by simp) (by simp) _ fun T' hgo hT' => ?_
      have r14 := hT' 14 (by omega)
      have r15 := hT' 15 (by omega)
      have r18 := hT' 18 (by omega)
      have r119 := hT' 119 (by omega)
      have r120 := hT' 120 (by omega)
      have r121 := hT' 121 (by omega)
      simp at r14 r15 r18 r119 r120 r121
      simp (disch := as_aux_lemma => first | omega | simp only [hDs] <;> omega | simp [isCell]) [hRs, takeMarks, resA, resAll, resOne, Value.cells, r121, t121, w1]
      refine hgo _ (by simp [r14]) (by simp [r15]) (by simp [r18]) (fun j hj => ?_) (by simp [r119]) (by simp [r120]) (by simp [w1])
      simp only [tget_tset]
      rw [if_neg (by omega), if_neg (by omega), hT' j (by omega)]
      simp only [tget_tset]
      repeat (rw [if_neg (by omega)])
    · simp (disch := as_aux_lemma => first | omega | simp only [hDs] <;> omega | simp [isCell]) [hRs, takeMarks, resA, resAll, resOne, Value.cells, t9'', t12, t13, t14, t15, t5, ptrV, g13, g5, idxSA_ok, show (k : Int) < P.l.length by omega, hvg, ints_get, et, es, ← hdd]
      refine last _ true true (by simp) (by simp) (fun _ => rfl) (fun _ => rfl) (by simp) (by simp) (by simp) (by simp) (by simp) (by simp) (fun j hj => by simp only [tget_tset]; repeat (rw [if_neg (by omega)])) (by simp) (by simp) (by simp) _ fun T' hgo hT' => ?_
      have r14 := hT' 14 (by omega)
      have r15 := hT' 15 (by omega)
      have r18 := hT' 18 (by omega)
      have r119 := hT' 119 (by omega)
      have r120 := hT' 120 (by omega)
      have r121 := hT' 121 (by omega)
      simp at r14 r15 r18 r119 r120 r121
      simp (disch := as_aux_lemma => first | omega | simp only [hDs] <;> omega | simp [isCell]) [hRs, takeMarks, resA, resAll, resOne, Value.cells, r121, t121, w1]
      refine hgo _ (by simp [r14]) (by simp [r15]) (by simp [r18]) (fun j hj => ?_) (by simp [r119]) (by simp [r120]) (by simp [w1])
      simp only [tget_tset]
      rw [if_neg (by omega), if_neg (by omega), hT' j (by omega)]
      simp only [tget_tset]
      repeat (rw [if_neg (by omega)])
end
end Go.Ab.Wave
namespace Go.Ab.Wave
open Go Go.Ab
theorem Coast.part {C : Coast} : partA C.cells 0 (some 12) = some (.agg ⟨C.cells⟩) := rfl
theorem rd_len {A : Hp} {sl : Value} {l : List (Int × Int)} (h : groundOf A sl = some l) : lenV sl = some (.int .i64 l.length) := by
  rcases (groundOf_cases h).2 with ⟨h1, h2⟩ | ⟨x, cap, ro, h1, _⟩
  · rw [h1, h2]; rfl
  · rw [h1]; rfl
section
variable {g : Nat} {A : Hp} {V : Value → Hp → Prop}
end
end Go.Ab.Wave
namespace Go.Ab.Wave
open Go Go.Ab
section
variable {g : Nat} {D : List Nat} {rd : Option Nat} {Q : Ex → St → Prop} {A : Hp} {V : Value → Hp → Prop}
set_option maxHeartbeats 2000000 in
theorem loop8 {P : Par} {zs bs : List Int} {m b5 b6 : Nat} {zv bv : Value} {A0 : Hp} {T0 : List Value} (hP : POk P) (h500 : P.s = 500) (hz : StartOk P zs m) (hm : m < 1000000) (hF : ∀ c, c < P.l.length → 1 ≤ P.D c → FstAt P zs bs m c) (hH : FstH P zs bs m b5 b6 zv bv A0) (hbl : bs.length = P.l.length * 8) (hg : g ≤ A0.n)
    (hQ : ∀ T' A', Q (.exit 0) ⟨T', D, A'⟩) :
    ∀ (q i : Nat) (T : List Value) (A : Hp), i + q = P.l.length → Ext' A0 A → tget T 5 = ptrV b5 → tget T 8 = zv → tget T 9 = bv → tget T 11 = .func (.func 32) ⟨[]⟩ ⟨[ptrV b6, ptrV b5]⟩ → tget T 59 = bv → tget T 60 = .int .i64 P.l.length → tget T 61 = .int .i64 i → W AP KL g rd (.loop body8) ⟨T, D, A⟩ Q := by
  have hsm := hP.small
  have Nv := Never_eq
  have hsea := hP.sea
  intro q
  induction q with
  | zero =>
    intro i T A hi kA t5 t8 t9 t11 t59 t60 t61
    have : i = P.l.length := by omega
    rw [W_loop]
    simp (disch := as_aux_lemma => first | omega | simp only [hDs] <;> omega | simp [isCell]) [hRs, takeMarks, resA, resAll, resOne, Value.cells, body8, t60, t61, show ¬ ((i : Int) < P.l.length) by omega]
    exact hQ _ A
  | succ q ih =>
    intro i T A hi kA t5 t8 t9 t11 t59 t60 t61
    have hil : i < P.l.length := by omega
    have HA := hH.ext kA
    obtain ⟨v, cv, rv, hv, hvg⟩ := HA.rb.at (i := i) hil
    have nv := Hp.lt_of_get hvg
    have n5 := Hp.lt_of_get HA.g5
    have kn := kA.1
    have hgg := hP.ground hil
    have t59' := t59
    rw [hv] at t59'
    obtain ⟨B, hB⟩ : ∃ B, B = A.push (.cells (row8L bs i) false) := ⟨_, rfl⟩
    have kB : Ext' A B := by rw [hB]; exact Ext'.push _ _
    have gB : B.get A.n = some (.cells (row8L bs i) false) := by rw [hB]; exact get_push_new
    have nB : B.n = A.n + 1 := by rw [hB]; rfl
    have HB := HA.ext kB
    have lz := HB.rz.len
    have w1 := wrId (n := (i : Int) + 1) (by omega) (by omega)
    have fin : ∀ (T' : List Value) (A' : Hp), Ext' A A' → (∀ i, i < 12 ∨ i = 59 ∨ i = 60 → tget T' i = tget T i) → tget T' 61 = .int .i64 ((i : Int) + 1) → W AP KL g rd (.loop body8) ⟨T', D, A'⟩ Q := fun T' A' k h1 h2 =>
      ih (i + 1) T' A' (by omega) (kA.trans k) ((h1 5 (by omega)).trans t5) ((h1 8 (by omega)).trans t8) ((h1 9 (by omega)).trans t9) ((h1 11 (by omega)).trans t11) ((h1 59 (by omega)).trans t59) ((h1 60 (by omega)).trans t60) (by rw [h2]; simp)
    rw [W_loop]
    simp (disch := as_aux_lemma => first | omega | simp only [hDs] <;> omega | simp [isCell]) [hRs, takeMarks, resA, resAll, resOne, Value.cells, body8, t59', t60, t61, show (i : Int) < P.l.length by omega, idxSA_ok, hvg, ints_8, cellsFrom, storeB_cells, setRange_all, t11]
    rw [show A.push (.cells [.int .i64 (gi bs (i * 8)), .int .i64 (gi bs (i * 8 + 1)), .int .i64 (gi bs (i * 8 + 2)), .int .i64 (gi bs (i * 8 + 3)), .int .i64 (gi bs (i * 8 + 4)), .int .i64 (gi bs (i * 8 + 5)), .int .i64 (gi bs (i * 8 + 6)), .int .i64 (gi bs (i * 8 + 7))] false) = B from hB.symm]
    refine w32 hP hil HB.gr HB.g5 HB.g6 ?_
    have eD : P.slo - P.glo i = P.D i := rfl
    rw [eD]
    by_cases h1 : P.D i < 1
    · simp (disch := as_aux_lemma => first | omega | simp only [hDs] <;> omega | simp [isCell]) [hRs, takeMarks, resA, resAll, resOne, Value.cells, h1, t61, w1]
      exact fin _ B kB (fun j hj => by simp only [tget_tset]; repeat (rw [if_neg (by omega)])) (by simp [w1])
    have Fi := hF i hil (by omega)
    simp (disch := as_aux_lemma => first | omega | simp only [hDs] <;> omega | simp [isCell]) [hRs, takeMarks, resA, resAll, resOne, Value.cells, h1, t8, lz]
    refine loop8s (P := P) (A0 := B) (b13 := A.n) (i := i) (T0 := _) hm hz Fi HB.rz gB (by omega) (fun T1 A1 x y k1 hxy t14 t15 hT1 => ?_) m 0 _ B false false (by omega) (Ext'.refl _) (fun j hj => by omega) ?_ ?_ (fun _ _ => rfl) ?_ ?_ ?_ ?_ ?_
    · have q5 := hT1 5 (by omega)
      have q8 := hT1 8 (by omega)
      have q9 := hT1 9 (by omega)
      have q11 := hT1 11 (by omega)
      have q12 := hT1 12 (by omega)
      have q13 := hT1 13 (by omega)
      have q61 := hT1 61 (by omega)
      simp [t5] at q5
      simp [t9] at q9
      simp [t11] at q11
      simp at q12 q13
      simp [t61] at q61
      have H1 := HB.ext k1
      have g13 := k1.get gB
      have n1 := k1.1
      simp (disch := as_aux_lemma => first | omega | simp only [hDs] <;> omega | simp [isCell]) [hRs, takeMarks, resA, resAll, resOne, Value.cells, q5, ptrV, q12, H1.g5]
      refine w33 (P := P) (c := i) hP hil (by omega) (rd_len H1.gr) fun A2 nvv k2 acc2 => ?_
      have hLl := nearI_len (w := P.w) (c := i) (i := P.l.length)
      have hLi : (nearI P.w i P.l.length).length = (nearL P.w i P.l.length).length := by unfold nearI; rw [List.length_map]
      have rn : RdS A2 1 (nearL P.w i P.l.length).length (ints (nearI P.w i P.l.length)) nvv := acc2.rd (by rw [ints_length]; omega) (by decide)
      have H2 := H1.ext k2
      have g13' := k2.get g13
      have n2 := k2.1
      simp (disch := as_aux_lemma => first | omega | simp only [hDs] <;> omega | simp [isCell]) [hRs, takeMarks, resA, resAll, resOne, Value.cells, rn.len]
      refine loop8n (P := P) (bs := bs) (zs := zs) (m := m) (i := i) (b5 := b5) (b6 := b6) (b13 := A.n) (zv := zv) (bv := bv) (nv := nvv) (A0 := A2) (T0 := _) hP h500 hil (by omega) hF H2 hbl g13' (by omega) rn (fun T3 A3 x' y' z' k3 hnb hz3 hx3 hy3 t14' t15' t18' hT3 => ?_) _ 0 _ A2 x y false (Nat.zero_add _) (Ext'.refl _) (fun j _ hj => by omega) (fun h => by cases h) ?_ ?_ ?_ ?_ ?_ (fun _ _ => rfl) ?_ ?_ ?_ ?_ ?_ ?_ ?_ ?_
      · have r13 := hT3 13 (by omega)
        have r61 := hT3 61 (by omega)
        simp [q13] at r13
        simp [q61] at r61
        have g3 := k3.get g13'
        unfold row8L at g3
        have n3 := k3.1
        have kall : Ext' A A3 := ((kB.trans k1).trans k2).trans k3
        have old : ∀ j, j < 12 ∨ j = 59 ∨ j = 60 → tget T3 j = tget T j := fun j hj => by
          rw [hT3 j (by omega)]
          simp only [tget_tset]
          repeat (rw [if_neg (by omega)])
          rw [hT1 j (by omega)]
          simp only [tget_tset]
          repeat (rw [if_neg (by omega)])
        simp [t14] at hx3
        simp [t15] at hy3
        by_cases h2 : gi bs (i * 8) < Never
        · have h2' : gi bs (i * 8) < 1099511627776 := by omega
          have hx : x' = true := by
            rcases Fi.lo h2 with ⟨j, hj, e1, e2⟩ | ⟨k, hk, hb, hd, hf, e⟩
            · exact hx3 ((hxy j hj e1).1 e2)
            · exact (hnb k hk hb hd hf).1 e
          have hy : y' = true := by
            rcases Fi.hi h2 with ⟨j, hj, e1, e2⟩ | ⟨k, hk, hb, hd, hf, e⟩
            · exact hy3 ((hxy j hj e1).2 e2)
            · exact (hnb k hk hb hd hf).2 e
          subst hx hy
          simp (disch := as_aux_lemma => first | omega | simp only [hDs] <;> omega | simp [isCell]) [hRs, takeMarks, resA, resAll, resOne, Value.cells, r13, g3, h2', t14', t15', show ¬ ((1099511627776 : Int) ≤ gi bs (i * 8)) by omega, r61, w1, GuardW_u]
          refine fin _ A3 kall (fun j hj => ?_) ?_
          · simp only [tget_tset]
            repeat (rw [if_neg (by omega)])
            exact old j hj
          · simp [w1]
        · have hnev := Fi.nev h2
          have hz' : z' = false := by cases z' with
            | false => rfl
            | true => exact absurd (hz3 rfl) h2
          subst hz'
          rw [hnev.1, hnev.2, Nv] at g3
          have n13 := Hp.lt_of_get g3
          simp (disch := as_aux_lemma => first | omega | simp only [hDs] <;> omega | simp [isCell]) [hRs, takeMarks, resA, resAll, resOne, Value.cells, r13, g3, t14', t15', t18', GuardW_u]
          refine w25 (by omega) fun A4 k4 => ?_
          simp (disch := as_aux_lemma => first | omega | simp only [hDs] <;> omega | simp [isCell]) [hRs, takeMarks, resA, resAll, resOne, Value.cells, spn, eqv2, r61, w1]
          refine fin _ A4 (kall.trans k4) (fun j hj => ?_) ?_
          · simp only [tget_tset]
            repeat (rw [if_neg (by omega)])
            exact old j hj
          · simp [w1]
      · simp [t14]
      · simp [t15]
      · simp [t14]
      · simp [t15]
      · simp
      · simp [q5, ptrV]
      · simp [q9]
      · simp [q11]
      · simp [q12]
      · simp [q13, ptrV]
      all_goals simp
    all_goals simp [ptrV]
end
def Coast.pts (C : Coast) : Coast := { C with moreV := .slice none 0 0, more := [], seaM := 0 }
theorem Coast.pts_ok {C : Coast} (h : C.Ok) : C.pts.Ok :=
  ⟨h.wd, h.hg, h.sea, by show (0 : Int) ≤ 0 ∧ (0 : Int) ≤ 255; omega, h.k0, h.k1, h.l0, h.l1, h.o0, h.o1, h.low, fun i => by show 0 ≤ gi [] i ∧ gi [] i ≤ 255; simp [gi], h.lowN, by show (0 : Nat) ≤ _; omega⟩
theorem Coast.pts_at {A : Hp} {C : Coast} (h : C.At A) : C.pts.At A := ⟨h.low, rfl, .inl ⟨rfl, rfl⟩⟩
theorem pts_pts {C : Coast} {sl : Value} : Pts (C.pts.P sl) := by
  refine ⟨?_, fun c hc => ?_⟩
  · show C.sea = C.sea + (0 : Int).tmod 50
    simp
  · obtain ⟨p, hp, e1, e2⟩ := flat2_lo (l := (C.pts.P sl).l) (i := c) hc
    obtain ⟨j, _, rfl⟩ := List.mem_map.1 hp
    show gi (flat2 (C.pts.P sl).l) (c * 2) = gi (flat2 (C.pts.P sl).l) (c * 2 + 1)
    rw [e1, e2]
    show C.pts.gl j = C.pts.gl j + C.pts.gm j
    have : C.pts.gm j = 0 := by unfold Coast.gm; rw [if_neg (by show ¬ 0 < ([] : List Int).length; simp)]
    omega
section
variable {g : Nat} {A : Hp} {V : Value → Hp → Prop}
set_option maxHeartbeats 1000000 in
theorem w8 {C : Coast} {m : Nat} {ls : List Int} {lv : Value} (hC0 : C.Ok) (hAt0 : C.At A) (hg : g ≤ A.n) (hl : ∀ i, 0 ≤ gi ls i ∧ gi ls i ≤ 65535) (hr : RdS A 4 m (kints .u16 ls) lv) (hQ : ∀ A', V (.bool true) A') :
    WF AP KL g 8 [.agg ⟨C.cells⟩, lv] A V := by
  have hlen := hr.len
  rw [WF_body rfl (show AP 8 = some F8 from rfl)]
  by_cases c1 : 5 < m
  · simp (disch := as_aux_lemma => first | omega | simp only [hDs] <;> omega | simp [isCell]) [hRs, takeMarks, resA, resAll, resOne, Value.cells, hlen, show (5 : Int) < m by omega, WF_spec (show KL 10 = some (memoSpec [mWorks]) from rfl), works_eq]
    exact hQ _
  simp (disch := as_aux_lemma => first | omega | simp only [hDs] <;> omega | simp [isCell]) [hRs, takeMarks, resA, resAll, resOne, Value.cells, hlen, show ¬ ((5 : Int) < m) by omega, Coast.cells, storeB_cells, setRange, set_push_eq]
  obtain ⟨K, hK⟩ : ∃ K, K = C.pts := ⟨_, rfl⟩
  have hC : K.Ok := by rw [hK]; exact Coast.pts_ok hC0
  have hAt : K.At A := by rw [hK]; exact Coast.pts_at hAt0
  have wh := hC.wh
  obtain ⟨B, hB⟩ : ∃ B, B = A.push (.cells K.cells false) := ⟨_, rfl⟩
  have kB : Ext' A B := by rw [hB]; exact Ext'.push _ _
  have b3 : B.get A.n = some (.cells K.cells false) := by rw [hB]; exact get_push_new
  have nB : B.n = A.n + 1 := by rw [hB]; rfl
  have hB' : A.push (.cells [.int .u8 C.wd, .int .u8 C.hg, C.lowV, .slice none 0 0, .int .i8 C.sea, .int .u8 0, .int .u16 C.k0, .int .u16 C.k1, .int .u16 C.l0, .int .u16 C.l1, .int .u8 C.o0, .int .u8 C.o1] false) = B := by rw [hB, hK]; rfl
  rw [hB']
  have hcl : (.agg ⟨[.int .u8 C.wd, .int .u8 C.hg, C.lowV, .slice none 0 0, .int .i8 C.sea, .int .u8 0, .int .u16 C.k0, .int .u16 C.k1, .int .u16 C.l0, .int .u16 C.l1, .int .u8 C.o0, .int .u8 C.o1]⟩ : Value) = .agg ⟨K.cells⟩ := by rw [hK]; rfl
  rw [hcl]
  refine w24 hC (hAt.mono kB.2) (by omega) fun A1 sl k1 acc1 => ?_
  obtain ⟨sp, sm, sc, hsl⟩ := acc1.isSlice
  obtain ⟨P, hP⟩ : ∃ P, P = K.P sl := ⟨_, rfl⟩
  have pl : P.l = K.gnd K.n := by rw [hP]; rfl
  have plen : P.l.length = K.n := by rw [pl, Coast.gnd_len]
  have psl : P.sl = sl := by rw [hP]; rfl
  have pok : POk P := by rw [hP]; exact coast_ok hC sl
  have ppt : Pts P := by rw [hP, hK]; exact pts_pts
  have p500 : P.s = 500 := by rw [hP]; rfl
  have hgr1 : groundOf A1 P.sl = some P.l := by rw [psl, pl]; exact AccS.ground acc1 (by rw [Coast.gnd_len]; omega)
  have e0 : K.w = P.w ∧ K.h = P.h ∧ (500 : Int) = P.s := by rw [hP]; exact ⟨rfl, rfl, rfl⟩
  rw [← hP, e0.1, e0.2.1, e0.2.2, hsl]
  obtain ⟨B1, hB1⟩ : ∃ B1, B1 = ((A1.push (.cells [.int .i64 P.w, .int .i64 P.h, .int .i64 P.s, P.sl] false)).push (.cells [.int .i64 P.slo, .int .i64 P.shi] false)).push (.cells [.int .i64 P.k0, .int .i64 P.k1, .int .i64 P.l0, .int .i64 P.l1, .int .i64 P.o0, .int .i64 P.o1] false) := ⟨_, rfl⟩
  have kB1 : Ext' A1 B1 := by rw [hB1]; exact ((Ext'.push _ _).trans (Ext'.push _ _)).trans (Ext'.push _ _)
  have b7 : B1.get A1.n = some (.cells [.int .i64 P.w, .int .i64 P.h, .int .i64 P.s, P.sl] false) := by rw [hB1]; exact push3_a
  have b8 : B1.get (A1.n + 1) = some (.cells [.int .i64 P.slo, .int .i64 P.shi] false) := by rw [hB1]; exact push3_b
  have b9 : B1.get (A1.n + 2) = some (.cells [.int .i64 P.k0, .int .i64 P.k1, .int .i64 P.l0, .int .i64 P.l1, .int .i64 P.o0, .int .i64 P.o1] false) := by rw [hB1]; exact push3_c
  have nB1 : B1.n = A1.n + 3 := by rw [hB1]; rfl
  have n1 := k1.1
  have hB1' := hB1
  rw [psl, hsl] at hB1'
  simp (disch := as_aux_lemma => first | omega | simp only [hDs] <;> omega | simp [isCell]) [hRs, takeMarks, resA, resAll, resOne, Value.cells, gridV, spn, modelV, J, set_push_eq, storeB_cells, setRange_all]
  rw [← hB1']
  rw [← hsl, ← psl]
  have hn : 0 < P.l.length ∧ P.l.length < 1000000 := by omega
  refine w30 (n := P.l.length) (m := m) (ls := ls) (by omega) hn (by omega) hl (rd_len (groundOf_mono hgr1 kB1.2)) (hr.mono fun x hx => ?_) fun A2 zv k2 acc2 => ?_
  · rw [kB1.2 x (by omega), k1.2 x (by omega), kB.2 x hx]
  obtain ⟨zs, hzs⟩ : ∃ zs, zs = stZ P.l.length ls m := ⟨_, rfl⟩
  have zok : StartOk P zs m := by rw [hzs]; exact stZ_ok (by omega) hl
  rw [← hzs] at acc2
  have hgr2 := groundOf_mono hgr1 (kB1.trans k2).2
  have c7 := k2.get b7
  have c8 := k2.get b8
  have c9 := k2.get b9
  have n2 := k2.1
  have rz2 : RdS A2 5 m (ints zs) zv := acc2.rd (by rw [ints_length, hzs, stZ_len]) (by decide)
  simp (disch := as_aux_lemma => first | omega | simp only [hDs] <;> omega | simp [isCell]) [hRs, takeMarks, resA, resAll, resOne, Value.cells, c7, c8, c9]
  refine w27 (P := P) (zs := zs) (n := m) pok.small hgr2 (by omega) rz2 (by omega) fun A3 bv k3 acc3 fin3 => ?_
  have hE := sprE_ok pok zok (show m ≤ 512 by omega)
  obtain ⟨zo, zf⟩ := fin3 hE
  have er : sprRes P zs m = bounds P zs m := by unfold sprRes; rw [if_pos hE]
  rw [er] at acc3
  rw [hE]
  have rb3 : RdS A3 8 P.l.length (ints (bounds P zs m)) bv := acc3.rd (by rw [ints_length, bounds_len]) (by decide)
  have lb := rb3.len
  have d7 := k3.get c7
  have d8 := k3.get c8
  have n3 := k3.1
  have hgr3 := groundOf_mono hgr2 k3.2
  have lg := rd_len hgr3
  have rz3 := rz2.mono k3.2
  simp (disch := as_aux_lemma => first | omega | simp only [hDs] <;> omega | simp [isCell]) [hRs, takeMarks, resA, resAll, resOne, Value.cells, d7, lb, lg]
  refine loop8 (P := P) (zs := zs) (bs := bounds P zs m) (m := m) (b5 := A1.n) (b6 := A1.n + 1) (zv := zv) (bv := bv) (A0 := A3) (T0 := []) pok p500 zok (by omega) (fun c hc hd => fst_at ppt p500 zo zf hc hd) ⟨d7, d8, hgr3, rz3, rb3⟩ bounds_len (by omega) (fun T' A' => ?_) P.l.length 0 _ A3 (by omega) (Ext'.refl _) ?_ ?_ ?_ ?_ ?_ ?_ ?_
  · simp (disch := as_aux_lemma => first | omega | simp only [hDs] <;> omega | simp [isCell]) [hRs, takeMarks, resA, resAll, resOne, Value.cells, WF_spec (show KL 10 = some (memoSpec [mWorks]) from rfl), works_eq]
    exact hQ _
  all_goals simp [ptrV]
end
end Go.Ab.Wave
namespace Go.Ab.Wave
open Go Go.Ab
def allK (k : IntKind) : Ty → Bool
  | .int k' => decide (k' = k)
  | .unit => true
  | .pair a b => allK k a && allK k b
  | _ => false
theorem kints_append {k : IntKind} (a b : List Int) : kints k (a ++ b) = kints k a ++ kints k b := List.map_append ..
theorem sh_k {rows : List (List Value)} {k : IntKind} : ∀ {t : Ty} {cs : List Value}, allK k t = true → Sh rows t cs → ∃ zs : List Int, cs = kints k zs ∧ ∀ z ∈ zs, k.min ≤ z ∧ z ≤ k.max
  | .int k', cs, h, ⟨n, hn, hw⟩ => by
    have e : k' = k := by simpa [allK] using h
    subst e
    exact ⟨[n], hn, fun z hz => by rw [List.mem_singleton] at hz; subst hz; exact (Lit.wf_int_iff k' z).1 hw⟩
  | .unit, cs, _, h => ⟨[], h, fun z hz => by cases hz⟩
  | .pair a b, cs, h, ⟨l, r, h1, h2, h3⟩ => by
    simp only [allK, Bool.and_eq_true] at h
    obtain ⟨za, ea, ba⟩ := sh_k h.1 h2
    obtain ⟨zb, eb, bb⟩ := sh_k h.2 h3
    refine ⟨za ++ zb, by rw [h1, ea, eb, kints_append], fun z hz => ?_⟩
    rcases List.mem_append.1 hz with h' | h'
    · exact ba z h'
    · exact bb z h'
  | .bool, _, h, _ => by simp [allK] at h
  | .str, _, h, _ => by simp [allK] at h
  | .slice _, _, h, _ => by simp [allK] at h
theorem kints_flatMap {k : IntKind} {f : Nat → List Int} {n : Nat} : (List.range n).flatMap (fun i => kints k (f i)) = kints k ((List.range n).flatMap f) := by
  simp only [kints, List.map_flatMap]
theorem sh_slice_k {rows : List (List Value)} {k : IntKind} {e : Ty} {cs : List Value} (he : allK k e = true) (h : Sh rows (.slice e) cs) :
    ∃ (n : Nat) (zs : List Int) (sl : Value), cs = [sl] ∧ RdS (roHp rows) e.size n (kints k zs) sl ∧ n ≤ maxLen ∧ ∀ z ∈ zs, k.min ≤ z ∧ z ≤ k.max := by
  rcases h with rfl | ⟨x, n, q, row, rfl, hn, hrow, hlen, hs, f, rfl, hf⟩
  · exact ⟨0, [], _, rfl, ⟨by simp [kints], .inl ⟨rfl, rfl⟩⟩, Nat.zero_le _, fun z hz => by cases hz⟩
  · obtain ⟨p, hp⟩ := Go.Deep.choose_lt (α := List Int) (p := fun i p => f i = kints k p ∧ ∀ z ∈ p, k.min ≤ z ∧ z ≤ k.max) fun i hi => sh_k he (hf i hi).1
    have e1 : (List.range n).flatMap f = kints k ((List.range n).flatMap p) := by
      rw [← kints_flatMap]
      exact Go.Deep.flatMap_congr_range fun i hi => (hp i hi).1
    refine ⟨n, (List.range n).flatMap p, _, rfl, ⟨by rw [← e1, hlen], .inr ⟨x, q, true, rfl, by rw [roHp_get, hrow, ← e1]; rfl⟩⟩, hn, fun z hz => ?_⟩
    obtain ⟨i, hi, hz⟩ := List.mem_flatMap.1 hz
    exact (hp i (by simpa using hi)).2 z hz
theorem gi_rng {l : List Int} {a b : Int} (h : ∀ z ∈ l, a ≤ z ∧ z ≤ b) (ha : a ≤ 0) (hb : 0 ≤ b) (i : Nat) : a ≤ gi l i ∧ gi l i ≤ b := by
  unfold gi
  rw [List.getD_eq_getElem?_getD]
  rcases Nat.lt_or_ge i l.length with hi | hi
  · rw [List.getElem?_eq_getElem hi]
    exact h _ (List.getElem_mem hi)
  · rw [List.getElem?_eq_none hi]
    exact ⟨ha, hb⟩
def tCoast : Ty := .pair (.int .u8) (.pair (.int .u8) (.pair (.slice (.int .i16)) (.pair (.slice (.int .u8)) (.pair (.int .i8) (.pair (.int .u8) (.pair (.rep 2 (.int .u16)) (.pair (.rep 2 (.int .u16)) (.pair (.rep 2 (.int .u8)) .unit))))))))
theorem sh_int {rows : List (List Value)} {k : IntKind} {cs : List Value} (h : Sh rows (.int k) cs) : ∃ n, cs = [.int k n] ∧ k.min ≤ n ∧ n ≤ k.max := by
  obtain ⟨n, h1, h2⟩ := h
  exact ⟨n, h1, (Lit.wf_int_iff k n).1 h2⟩
theorem sh_two {rows : List (List Value)} {k : IntKind} {cs : List Value} (h : Sh rows (.rep 2 (.int k)) cs) : ∃ a b, cs = [.int k a, .int k b] ∧ (k.min ≤ a ∧ a ≤ k.max) ∧ k.min ≤ b ∧ b ≤ k.max := by
  obtain ⟨_, _, rfl, h1, ⟨_, _, rfl, h2, rfl⟩⟩ := h
  obtain ⟨a, rfl, ha⟩ := sh_int h1
  obtain ⟨b, rfl, hb⟩ := sh_int h2
  exact ⟨a, b, rfl, ha, hb⟩
theorem sh_coast {rows : List (List Value)} {cs : List Value} (h : Sh rows tCoast cs) : ∃ C : Coast, mkV tCoast cs = .agg ⟨C.cells⟩ ∧ C.Ok ∧ C.At (roHp rows) := by
  obtain ⟨_, _, rfl, h1, ⟨_, _, rfl, h2, ⟨_, _, rfl, h3, ⟨_, _, rfl, h4, ⟨_, _, rfl, h5, ⟨_, _, rfl, h6, ⟨_, _, rfl, h7, ⟨_, _, rfl, h8, ⟨_, _, rfl, h9, rfl⟩⟩⟩⟩⟩⟩⟩⟩⟩ := h
  obtain ⟨a1, rfl, b1⟩ := sh_int h1
  obtain ⟨a2, rfl, b2⟩ := sh_int h2
  obtain ⟨n3, z3, s3, rfl, r3, m3, b3⟩ := sh_slice_k (k := .i16) rfl h3
  obtain ⟨n4, z4, s4, rfl, r4, m4, b4⟩ := sh_slice_k (k := .u8) rfl h4
  obtain ⟨a5, rfl, b5⟩ := sh_int h5
  obtain ⟨a6, rfl, b6⟩ := sh_int h6
  obtain ⟨a7, c7, rfl, b7, d7⟩ := sh_two h7
  obtain ⟨a8, c8, rfl, b8, d8⟩ := sh_two h8
  obtain ⟨a9, c9, rfl, b9, d9⟩ := sh_two h9
  have l3 : z3.length = n3 := by have := r3.1; rw [kints_length] at this; simpa [Ty.size] using this
  have l4 : z4.length = n4 := by have := r4.1; rw [kints_length] at this; simpa [Ty.size] using this
  have hm : maxLen ≤ 9223372036854775807 := by decide
  refine ⟨⟨a1, a2, s3, s4, a5, a6, a7, c7, a8, c8, a9, c9, z3, z4⟩, rfl, ⟨b1, b2, b5, b6, b7, d7, b8, d8, b9, d9, fun i => gi_rng b3 (by decide) (by decide) i, fun i => gi_rng b4 (by decide) (by decide) i, by show z3.length ≤ _; omega, by show z4.length ≤ _; omega⟩, ⟨?_, ?_⟩⟩
  · show RdS (roHp rows) 1 z3.length (kints .i16 z3) s3
    rw [l3]; exact r3
  · show RdS (roHp rows) 1 z4.length (kints .u8 z4) s4
    rw [l4]; exact r4
end Go.Ab.Wave
