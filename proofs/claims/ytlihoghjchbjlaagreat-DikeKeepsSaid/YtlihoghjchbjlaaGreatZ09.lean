/- Runs that range over maps are borne out by the model, whatever order it takes: the theorem. -/
import Derived.Test.YtlihoghjchbjlaaGreatZ02
import Derived.Test.YtlihoghjchbjlaaGreatZ08
import Derived.Test.YtlihoghjchbjlaaGreatZ06
import Derived.Laws.IdiomRangeMap
set_option linter.unusedSimpArgs false
set_option linter.unusedVariables false
set_option linter.unusedSectionVars false
namespace Go.Ab.Dike
open Go Go.Ab
def spec (n : Nat) : Bool := Nat.beq n 121 || Nat.beq n 149 || Nat.beq n 191 || Nat.beq n 37 || Nat.beq n 40
structure KOk (K : Nat → Option Spec) : Prop where
  free : ∀ n, spec n = false → K n = none
section
variable {K : Nat → Option Spec} (hK : KOk K) {g : Nat} {rd : Option Nat} {T : List Value} {D : List Nat} {A : Hp} {Q : Ex → St → Prop} {V : Value → Hp → Prop}
def strs (l : List ByteArray) : List Value := l.map .string
@[simp] theorem strs_length (l : List ByteArray) : (strs l).length = l.length := by simp [strs]
@[simp] theorem strA_lss' {x y : ByteArray} : strOpA .lss (.string x) (.string y) = some (.bool (strLt x y)) := rfl
@[simp] theorem strA_neq' {x y : ByteArray} : strOpA .neq (.string x) (.string y) = some (.bool (!strEq x y)) := rfl
@[simp] theorem strA_eql' {x y : ByteArray} : strOpA .eql (.string x) (.string y) = some (.bool (strEq x y)) := rfl
@[simp] theorem strEq_self {x : ByteArray} : strEq x x = true := by rw [strEq_iff]
include hK
theorem w226 {a : ByteArray} : WF AP K g 226 [.string a] A V ↔ V (.bool false) A := by
  rw [WF_body (hK.free 226 rfl) (show AP 226 = some F226 from rfl)]
  simp (disch := as_aux_lemma => first | omega | simp only [hDs] <;> omega | simp [isCell]) [hRs, takeMarks, resA, resAll, resOne, Value.cells, F226]
theorem w216 {a b : ByteArray} : WF AP K g 216 [.string a, .string b] A V ↔ V (.bool (strLt a b)) A := by
  rw [WF_body (hK.free 216 rfl) (show AP 216 = some F216 from rfl)]
  simp (disch := as_aux_lemma => first | omega | simp only [hDs] <;> omega | simp [isCell]) [hRs, takeMarks, resA, resAll, resOne, Value.cells, F216, w226 hK]
def body210o : ACode := (.seq
 (.seq
 (.ops [
oM 10 6,
oM 11 2,
oB 12 .lss 10 11])
 (.cond (.t 12)
 .skip
 (.exit 0)))
 (.seq
 (.block 1
 (.seq
 (.ops [
oM 15 6,
oM 7 15])
 (.block 2
 (.loop
 (.seq
 (.seq
 (.ops [
oM 16 7,
oM 17 1,
oB 18 .gtr 16 17,
oM 19 18,
oN 20 19 true 0,
oN 21 19 true 7,
oQ 22 19 true (.idxS (.t 20) (.t 21) 1),
oQ 23 19 true (.load (.t 22) none),
oN 24 19 true 0,
oN 25 19 true 7,
oQ 26 19 true (.bin .sub (.t 25) (oK 1)),
oQ 27 19 true (.idxS (.t 24) (.t 26) 1),
oQ 28 19 true (.load (.t 27) none),
oQ 29 19 true (.call (.k (.func (.func 216) ⟨[]⟩ ⟨[]⟩)) [.t 23, .t 28] false),
oP 30 (.pick (.t 19) (.t 29) (.k (.bool false)))])
 (.cond (.t 30)
 .skip
 (.exit 2)))
 (.seq
 (.block 3
 (.ops [
oM 33 0,
oM 34 7,
oM 35 0,
oM 36 7,
oC 37 .sub 36 1,
oM 38 0,
oM 39 7,
oC 40 .sub 39 1,
oI 41 38 40 1,
oL 42 41,
oM 43 0,
oM 44 7,
oI 45 43 44 1,
oL 46 45,
oI 47 33 34 1,
oT 47 42 1,
oI 48 35 37 1,
oT 48 46 1]))
 (.ops [
oM 31 7,
oC 32 .sub 31 1,
oM 7 32])))))))
 (.ops [
oM 13 6,
oC 14 .add 13 1,
oM 6 14])))
omit hK in
theorem cellAt_get {cs : List Value} {o : Nat} : cellAt cs o = cs[o]? := rfl
theorem stay210 {r n c : Nat} {row : List Value} {j : Int} {x y : ByteArray} (h0 : tget T 0 = .slice (some ⟨r, 0, some 1⟩) n c) (h1 : tget T 1 = .int .i64 0) (h7 : tget T 7 = .int .i64 j) (hj : 0 < j) (hjn : j < n) (hn : (n : Int) < 1000000)
    (hA : A.get r = some (.cells row false)) (e1 : cellAt row j.toNat = some (.string x)) (e2 : cellAt row (j.toNat - 1) = some (.string y)) (hxy : strLt x y = false)
    (hQ : ∀ T', tget T' 0 = tget T 0 → tget T' 1 = tget T 1 → tget T' 2 = tget T 2 → tget T' 6 = tget T 6 → Q (.exit 2) ⟨T', D, A⟩) : W AP K g rd (.loop body210i) ⟨T, D, A⟩ Q := by
  rw [W_loop]
  have e3 := wrId (n := j - 1) (by omega) (by omega)
  simp (disch := as_aux_lemma => first | omega | simp only [hDs] <;> omega | simp [isCell]) [hRs, takeMarks, resA, resAll, resOne, Value.cells, body210i, h0, h1, h7, hj, e3, idxSA_ok, hA, e1, e2, w216 hK, hxy]
  exact hQ _ (by simp) (by simp) (by simp) (by simp)
omit hK in
theorem end210 {r n c : Nat} (h0 : tget T 0 = .slice (some ⟨r, 0, some 1⟩) n c) (h1 : tget T 1 = .int .i64 0) (h7 : tget T 7 = .int .i64 0)
    (hQ : ∀ T', tget T' 0 = tget T 0 → tget T' 1 = tget T 1 → tget T' 2 = tget T 2 → tget T' 6 = tget T 6 → Q (.exit 2) ⟨T', D, A⟩) : W AP K g rd (.loop body210i) ⟨T, D, A⟩ Q := by
  rw [W_loop]
  simp (disch := as_aux_lemma => first | omega | simp only [hDs] <;> omega | simp [isCell]) [hRs, takeMarks, resA, resAll, resOne, Value.cells, body210i, h0, h1, h7]
  exact hQ _ (by simp) (by simp) (by simp) (by simp)
theorem swap210 {r n c : Nat} {row : List Value} {j : Int} {x y : ByteArray} (hg : g ≤ r) (h0 : tget T 0 = .slice (some ⟨r, 0, some 1⟩) n c) (h1 : tget T 1 = .int .i64 0) (h7 : tget T 7 = .int .i64 j) (hj : 0 < j) (hjn : j < n) (hn : (n : Int) < 1000000) (hl : n ≤ row.length)
    (hA : A.get r = some (.cells row false)) (e1 : cellAt row j.toNat = some (.string x)) (e2 : cellAt row (j.toNat - 1) = some (.string y)) (hxy : strLt x y = true)
    (hQ : ∀ T' A', tget T' 0 = tget T 0 → tget T' 1 = tget T 1 → tget T' 2 = tget T 2 → tget T' 6 = tget T 6 → tget T' 7 = .int .i64 (j - 1) → A' = (A.set r (some (.cells (setRange row j.toNat [.string y]) false))).set r (some (.cells (setRange (setRange row j.toNat [.string y]) (j.toNat - 1) [.string x]) false)) → W AP K g rd (.loop body210i) ⟨T', D, A'⟩ Q) : W AP K g rd (.loop body210i) ⟨T, D, A⟩ Q := by
  rw [W_loop]
  have e3 := wrId (n := j - 1) (by omega) (by omega)
  have l1 : (setRange row j.toNat [.string y]).length = row.length := setRange_length (by simp; omega)
  have hs := get_set_same (A := A) (x := r) (b := some (.cells (setRange row j.toNat [.string y]) false)) hA
  simp (disch := as_aux_lemma => first | omega | simp only [hDs] <;> omega | simp [isCell]) [hRs, takeMarks, resA, resAll, resOne, Value.cells, body210i, h0, h1, h7, hj, e3, idxSA_ok, hA, e1, e2, w216 hK, hxy, storeB_cells, hs, l1]
  exact hQ _ _ (by simp) (by simp) (by simp) (by simp) (by simp) rfl
omit hK in
theorem setRange_at {a b : List Value} {v w : Value} {o : Nat} (h : a.length = o) : setRange (a ++ v :: b) o [w] = a ++ w :: b := by
  subst h
  simp [setRange]
omit hK in
theorem strs_append {a b : List ByteArray} : strs (a ++ b) = strs a ++ strs b := by simp [strs]
omit hK in
theorem strs_cons {x : ByteArray} {b : List ByteArray} : strs (x :: b) = .string x :: strs b := rfl
def insR (x : ByteArray) : List ByteArray → List ByteArray
  | [] => [x]
  | y :: rp => if strLt x y then y :: insR x rp else x :: y :: rp
omit hK in
theorem insR_length (x : ByteArray) : ∀ rp, (insR x rp).length = rp.length + 1
  | [] => rfl
  | y :: rp => by unfold insR; split <;> simp [insR_length x rp]
theorem inner210 {r n c : Nat} (hg : g ≤ r) {x : ByteArray} {zs : List Value} (hn : (n : Int) < 1000000) : ∀ (rp q : List ByteArray) {T : List Value} {A : Hp}, n = rp.length + 1 + q.length → tget T 0 = .slice (some ⟨r, 0, some 1⟩) n c → tget T 1 = .int .i64 0 → tget T 7 = .int .i64 rp.length →
    A.get r = some (.cells (strs (rp.reverse ++ x :: q) ++ zs) false) →
    (∀ T' A', tget T' 0 = tget T 0 → tget T' 1 = tget T 1 → tget T' 2 = tget T 2 → tget T' 6 = tget T 6 → A'.n = A.n → A'.get r = some (.cells (strs ((insR x rp).reverse ++ q) ++ zs) false) → (∀ y, y ≠ r → A'.get y = A.get y) → Q (.exit 2) ⟨T', D, A'⟩) →
    W AP K g rd (.loop body210i) ⟨T, D, A⟩ Q
  | [], q, T, A, hl, h0, h1, h7, hA, hQ => end210 h0 h1 h7 fun T' a b c d => hQ T' A a b c d rfl (by simpa [insR] using hA) fun _ _ => rfl
  | y :: rp, q, T, A, hl, h0, h1, h7, hA, hQ => by
    have hj : ((y :: rp).length : Int).toNat = rp.length + 1 := by simp
    have hrow : strs ((y :: rp).reverse ++ x :: q) ++ zs = strs rp.reverse ++ .string y :: (.string x :: (strs q ++ zs)) := by
      simp [strs_append, strs_cons, strs]
    have e1 : cellAt (strs ((y :: rp).reverse ++ x :: q) ++ zs) ((y :: rp).length : Int).toNat = some (.string x) := by
      rw [hrow, hj, cellAt_get, List.getElem?_append_right (by simp)]
      simp
    have e2 : cellAt (strs ((y :: rp).reverse ++ x :: q) ++ zs) (((y :: rp).length : Int).toNat - 1) = some (.string y) := by
      rw [hrow, hj, cellAt_get, List.getElem?_append_right (by simp)]
      simp
    cases hxy : strLt x y with
    | false =>
      refine stay210 hK h0 h1 h7 (by simp <;> omega) (by simp at hl ⊢; omega) hn hA e1 e2 hxy fun T' a b c d => hQ T' A a b c d rfl ?_ fun _ _ => rfl
      rw [hA, insR, if_neg (by simp [hxy])]
      simp
    | true =>
      have s1 : setRange (strs ((y :: rp).reverse ++ x :: q) ++ zs) ((y :: rp).length : Int).toNat [.string y] = strs rp.reverse ++ .string y :: (.string y :: (strs q ++ zs)) := by
        rw [hrow, hj]
        have := setRange_at (a := strs rp.reverse ++ [.string y]) (b := strs q ++ zs) (v := .string x) (w := .string y) (o := rp.length + 1) (by simp)
        simpa using this
      have s2 : setRange (setRange (strs ((y :: rp).reverse ++ x :: q) ++ zs) ((y :: rp).length : Int).toNat [.string y]) (((y :: rp).length : Int).toNat - 1) [.string x] = strs (rp.reverse ++ x :: y :: q) ++ zs := by
        rw [s1, hj]
        have := setRange_at (a := strs rp.reverse) (b := .string y :: (strs q ++ zs)) (v := .string y) (w := .string x) (o := rp.length) (by simp)
        simpa [strs_append, strs_cons] using this
      refine swap210 hK hg h0 h1 h7 (by simp <;> omega) (by simp at hl ⊢; omega) hn (by rw [hrow]; simp at hl ⊢; omega) hA e1 e2 hxy fun T' A' a b cc d e hA' => ?_
      rw [s2] at hA'
      have g1 := get_set_same (b := some (.cells (setRange (strs ((y :: rp).reverse ++ x :: q) ++ zs) ((y :: rp).length : Int).toNat [.string y]) false)) hA
      have g2 : A'.get r = some (.cells (strs (rp.reverse ++ x :: y :: q) ++ zs) false) := by rw [hA']; exact get_set_same g1
      have g3 : ∀ z, z ≠ r → A'.get z = A.get z := fun z hz => by rw [hA', get_set_ne (by simpa using Hp.lt_of_get hA) hz, get_set_ne (Hp.lt_of_get hA) hz]
      have g4 : A'.n = A.n := by rw [hA']; rfl
      refine inner210 (c := c) hg hn rp (y :: q) (T := T') (A := A') (by simp at hl ⊢; omega) (by rw [a, h0]) (by rw [b, h1]) (by rw [e]; simp) g2 fun T2 A2 a2 b2 c2 d2 n2 gr gy => ?_
      refine hQ T2 A2 (by rw [a2, a]) (by rw [b2, b]) (by rw [c2, cc]) (by rw [d2, d]) (by rw [n2, g4]) ?_ fun z hz => by rw [gy z hz, g3 z hz]
      rw [gr, insR, if_pos hxy]
      simp
def insAll : List ByteArray → List ByteArray → List ByteArray
  | rp, [] => rp
  | rp, x :: q => insAll (insR x rp) q
theorem outer210 {r n c : Nat} (hg : g ≤ r) {zs : List Value} (hn : (n : Int) < 1000000) : ∀ (q rp : List ByteArray) {T : List Value} {A : Hp}, n = rp.length + q.length → tget T 0 = .slice (some ⟨r, 0, some 1⟩) n c → tget T 1 = .int .i64 0 → tget T 2 = .int .i64 n → tget T 6 = .int .i64 rp.length →
    A.get r = some (.cells (strs (rp.reverse ++ q) ++ zs) false) →
    (∀ T' A', A'.n = A.n → A'.get r = some (.cells (strs (insAll rp q).reverse ++ zs) false) → (∀ y, y ≠ r → A'.get y = A.get y) → Q (.exit 0) ⟨T', D, A'⟩) →
    W AP K g rd (.loop body210o) ⟨T, D, A⟩ Q
  | [], rp, T, A, hl, h0, h1, h2, h6, hA, hQ => by
    rw [W_loop]
    have : ¬ ((rp.length : Int) < n) := by simp at hl; omega
    simp (disch := as_aux_lemma => first | omega | simp only [hDs] <;> omega | simp [isCell]) [hRs, takeMarks, resA, resAll, resOne, Value.cells, body210o, h2, h6, this]
    exact hQ _ A rfl (by simpa [insAll] using hA) fun _ _ => rfl
  | x :: q, rp, T, A, hl, h0, h1, h2, h6, hA, hQ => by
    rw [W_loop]
    have : ((rp.length : Int) < n) := by simp at hl; omega
    have e3 := wrId (n := (rp.length : Int) + 1) (by omega) (by omega)
    simp (disch := as_aux_lemma => first | omega | simp only [hDs] <;> omega | simp [isCell]) [hRs, takeMarks, resA, resAll, resOne, Value.cells, body210o, h2, h6, this]
    refine inner210 hK (c := c) hg hn rp q (by simp at hl ⊢; omega) (by simp [h0]) (by simp [h1]) (by simp) hA fun T' A' a b cc d n' gr gy => ?_
    simp at a b cc d
    simp (disch := as_aux_lemma => first | omega | simp only [hDs] <;> omega | simp [isCell]) [hRs, takeMarks, resA, resAll, resOne, Value.cells, d, h6, e3]
    refine outer210 (c := c) hg hn q (insR x rp) (by rw [insR_length]; simp at hl; omega) (by simp [a, h0]) (by simp [b, h1]) (by simp [cc, h2]) (by simp [insR_length]) gr fun T2 A2 n2 g2 y2 => ?_
    exact hQ T2 A2 (by rw [n2, n']) (by rw [g2]; rfl) fun y hy => by rw [y2 y hy, gy y hy]
theorem w210 {r n c : Nat} (hg : g ≤ r) {zs : List Value} {l : List ByteArray} (hl : l.length = n) (hn : (n : Int) < 1000000) (hpos : l ≠ []) (hA : A.get r = some (.cells (strs l ++ zs) false))
    (hV : ∀ A', A'.n = A.n → A'.get r = some (.cells (strs (insAll [] l).reverse ++ zs) false) → (∀ y, y ≠ r → A'.get y = A.get y) → V (.tuple ⟨[]⟩) A') :
    WF AP K g 210 [.slice (some ⟨r, 0, some 1⟩) n c, .int .i64 0, .int .i64 n] A V := by
  rw [WF_body (hK.free 210 rfl) (show AP 210 = some F210 from rfl)]
  cases l with
  | nil => exact absurd rfl hpos
  | cons x q =>
    simp (disch := as_aux_lemma => first | omega | simp only [hDs] <;> omega | simp [isCell]) [hRs, takeMarks, resA, resAll, resOne, Value.cells, F210, show wr .i64 1 = 1 from rfl]
    refine outer210 hK (c := c) hg hn q [x] (by simp at hl ⊢; omega) (by simp) (by simp) (by simp) (by simp) (by simpa using hA) fun T' A' n' g' y' => ?_
    simp (disch := as_aux_lemma => first | omega | simp only [hDs] <;> omega | simp [isCell]) [hRs, takeMarks, resA, resAll, resOne, Value.cells]
    exact hV A' n' (by simpa [insAll, insR] using g') y'
end
end Go.Ab.Dike
namespace Go.Ab.Dike
open Go Go.Ab
section
variable {K : Nat → Option Spec} (hK : KOk K) {g : Nat} {rd : Option Nat} {T : List Value} {D : List Nat} {A : Hp} {Q : Ex → St → Prop} {V : Value → Hp → Prop}
include hK
omit hK in
theorem w8 : wr .u8 0 = 0 ∧ wr .u8 1 = 1 ∧ wr .u8 2 = 2 ∧ wr .u8 3 = 3 ∧ wr .u8 4 = 4 ∧ wr .u8 5 = 5 ∧ wr .u8 6 = 6 ∧ wr .u8 7 = 7 ∧ wr .u8 8 = 8 ∧ wr .u8 9 = 9 ∧ wr .u8 10 = 10 ∧ wr .u8 11 = 11 ∧ wr .u8 12 = 12 := by
  refine ⟨rfl, rfl, rfl, rfl, rfl, rfl, rfl, rfl, rfl, rfl, rfl, rfl, rfl⟩
omit hK in
theorem wi0 : wr .i64 0 = 0 := rfl
set_option maxRecDepth 100000 in
theorem w220 {m : Nat} (hm : m ≤ 12) (hV : ∀ k, V (.int .i64 k) A) : WF AP K g 220 [.int .u64 m] A V := by
  rw [WF_body (hK.free 220 rfl) (show AP 220 = some F220 from rfl)]
  have : m = 0 ∨ m = 1 ∨ m = 2 ∨ m = 3 ∨ m = 4 ∨ m = 5 ∨ m = 6 ∨ m = 7 ∨ m = 8 ∨ m = 9 ∨ m = 10 ∨ m = 11 ∨ m = 12 := by omega
  rcases this with rfl | rfl | rfl | rfl | rfl | rfl | rfl | rfl | rfl | rfl | rfl | rfl | rfl
  all_goals
    simp (disch := as_aux_lemma => first | omega | simp only [hDs] <;> omega | simp [isCell]) [hRs, takeMarks, resA, resAll, resOne, Value.cells, F220, binA, intA, kEq, toIntA, strIdxA, w8]
    exact hV _
theorem w209 {n : Nat} (hn : n ≤ 12) (hV : ∀ k, V (.int .i64 k) A) : WF AP K g 209 [.int .u64 n] A V := by
  rw [WF_body (hK.free 209 rfl) (show AP 209 = some F209 from rfl)]
  simp (disch := as_aux_lemma => first | omega | simp only [hDs] <;> omega | simp [isCell]) [hRs, takeMarks, resA, resAll, resOne, Value.cells, F209]
  refine w220 hK hn fun k => ?_
  simp (disch := as_aux_lemma => first | omega | simp only [hDs] <;> omega | simp [isCell]) [hRs, takeMarks, resA, resAll, resOne, Value.cells]
  exact hV _
theorem w208 {r n c : Nat} {k : Int} (hg : g ≤ r) {zs : List Value} {l : List ByteArray} (hl : l.length = n) (hn : n ≤ 12) (hpos : l ≠ []) (hA : A.get r = some (.cells (strs l ++ zs) false))
    (hV : ∀ A', A'.n = A.n → A'.get r = some (.cells (strs (insAll [] l).reverse ++ zs) false) → (∀ y, y ≠ r → A'.get y = A.get y) → V (.tuple ⟨[]⟩) A') :
    WF AP K g 208 [.slice (some ⟨r, 0, some 1⟩) n c, .int .i64 0, .int .i64 n, .int .i64 k] A V := by
  rw [WF_body (hK.free 208 rfl) (show AP 208 = some F208 from rfl)]
  have e1 := wrId (n := (n : Int)) (by omega) (by omega)
  simp (disch := as_aux_lemma => first | omega | simp only [hDs] <;> omega | simp [isCell]) [hRs, takeMarks, resA, resAll, resOne, Value.cells, F208]
  rw [W_loop]
  simp (disch := as_aux_lemma => first | omega | simp only [hDs] <;> omega | simp [isCell]) [hRs, takeMarks, resA, resAll, resOne, Value.cells, e1, show (n : Int) ≤ 12 by omega]
  refine w210 hK hg hl (by omega) hpos hA fun A' n' g' y' => ?_
  simp (disch := as_aux_lemma => first | omega | simp only [hDs] <;> omega | simp [isCell]) [hRs, takeMarks, resA, resAll, resOne, Value.cells]
  exact hV A' n' g' y'
theorem w205 {r n c : Nat} (hg : g ≤ r) {zs : List Value} {l : List ByteArray} (hl : l.length = n) (hn : n ≤ 12) (hpos : l ≠ []) (hA : A.get r = some (.cells (strs l ++ zs) false))
    (hV : ∀ A', A'.n = A.n → A'.get r = some (.cells (strs (insAll [] l).reverse ++ zs) false) → (∀ y, y ≠ r → A'.get y = A.get y) → V (.tuple ⟨[]⟩) A') :
    WF AP K g 205 [.slice (some ⟨r, 0, some 1⟩) n c] A V := by
  rw [WF_body (hK.free 205 rfl) (show AP 205 = some F205 from rfl)]
  have e1 : wr .u64 (n : Int) = n := by
    have : n = 0 ∨ n = 1 ∨ n = 2 ∨ n = 3 ∨ n = 4 ∨ n = 5 ∨ n = 6 ∨ n = 7 ∨ n = 8 ∨ n = 9 ∨ n = 10 ∨ n = 11 ∨ n = 12 := by omega
    rcases this with rfl | rfl | rfl | rfl | rfl | rfl | rfl | rfl | rfl | rfl | rfl | rfl | rfl <;> rfl
  simp (disch := as_aux_lemma => first | omega | simp only [hDs] <;> omega | simp [isCell]) [hRs, takeMarks, resA, resAll, resOne, Value.cells, F205, show toIntA .u64 (.int .i64 n) = some (.int .u64 n) by simp [toIntA, e1]]
  refine w209 hK hn fun k => ?_
  simp (disch := as_aux_lemma => first | omega | simp only [hDs] <;> omega | simp [isCell]) [hRs, takeMarks, resA, resAll, resOne, Value.cells]
  refine w208 hK hg hl hn hpos hA fun A' n' g' y' => ?_
  simp (disch := as_aux_lemma => first | omega | simp only [hDs] <;> omega | simp [isCell]) [hRs, takeMarks, resA, resAll, resOne, Value.cells]
  exact hV A' n' g' y'
theorem w205_nil (hV : V (.tuple ⟨[]⟩) A) : WF AP K g 205 [.slice none 0 0] A V := by
  rw [WF_body (hK.free 205 rfl) (show AP 205 = some F205 from rfl)]
  simp (disch := as_aux_lemma => first | omega | simp only [hDs] <;> omega | simp [isCell]) [hRs, takeMarks, resA, resAll, resOne, Value.cells, F205, show toIntA .u64 (.int .i64 0) = some (.int .u64 ((0 : Nat) : Int)) from rfl]
  refine w209 hK (Nat.zero_le _) fun k => ?_
  simp (disch := as_aux_lemma => first | omega | simp only [hDs] <;> omega | simp [isCell]) [hRs, takeMarks, resA, resAll, resOne, Value.cells]
  rw [WF_body (hK.free 208 rfl) (show AP 208 = some F208 from rfl)]
  simp (disch := as_aux_lemma => first | omega | simp only [hDs] <;> omega | simp [isCell]) [hRs, takeMarks, resA, resAll, resOne, Value.cells, F208]
  rw [W_loop]
  simp (disch := as_aux_lemma => first | omega | simp only [hDs] <;> omega | simp [isCell]) [hRs, takeMarks, resA, resAll, resOne, Value.cells, wi0]
  rw [WF_body (hK.free 210 rfl) (show AP 210 = some F210 from rfl)]
  simp (disch := as_aux_lemma => first | omega | simp only [hDs] <;> omega | simp [isCell]) [hRs, takeMarks, resA, resAll, resOne, Value.cells, F210]
  rw [W_loop]
  simp (disch := as_aux_lemma => first | omega | simp only [hDs] <;> omega | simp [isCell]) [hRs, takeMarks, resA, resAll, resOne, Value.cells, show wr .i64 1 = 1 from rfl]
  exact hV
end
end Go.Ab.Dike
namespace Go.Ab
open Go.MapKept
section
variable {E : Env} {φ φ1 φ2 : NM} {A A1 A2 : Hp} {w w1 w2 : World} {g lim : Nat}
def RelI (E : Env) (φ : NM) (A : Hp) (w : World) : Prop := (∀ x e, φ x = some e → x < A.n) ∧ Rel E A.n φ A w
def PostI (E : Env) (φ : NM) (A : Hp) (w : World) (g : Nat) (φ' : NM) (A' : Hp) (w' : World) : Prop := Post E A'.n φ A w g φ' A' w'
theorem RelI.at (h : RelI E φ A w) (lim : Nat) : Rel E lim φ A w := ⟨fun x e hx => .inl (h.1 x e hx), h.2.wf, h.2.blk, h.2.sep⟩
theorem RelI.of (h : Rel E lim φ A w) (hd : ∀ x e, φ x = some e → x < A.n) : RelI E φ A w := ⟨hd, fun x e hx => .inl (hd x e hx), h.wf, h.blk, h.sep⟩
theorem PostI.refl (h : RelI E φ A w) : PostI E φ A w g φ A w := Post.refl h.2
theorem PostI.relI (hR : RelI E φ A w) (h : PostI E φ A w g φ1 A1 w1) : RelI E φ1 A1 w1 :=
  .of h.rel fun x e hx => by
    have := h.len
    rcases h.dom x e hx with h1 | h1
    · have := hR.1 x e h1; omega
    · exact h1.2
theorem PostI.at (hR : RelI E φ A w) (h : PostI E φ A w g φ1 A1 w1) (hl : A1.n ≤ lim) : Post E lim φ A w g φ1 A1 w1 := by
  have hlen := h.len
  refine ⟨h.ext, h.dom, h.len, (PostI.relI hR h).at lim, h.size, fun b hb H => h.frame b hb fun x e hx he => ?_, fun x e hx hn => ?_, h.ro, h.env⟩
  · rcases H x e hx he with h1 | h1 | h1
    · exact .inl h1
    · have := hR.1 x e hx; omega
    · exact .inr (.inr h1)
  · rcases h.fresh x e hx hn with h1 | ⟨y, ey, k1, k2, k3, k4⟩
    · exact .inl h1
    · exact .inr ⟨y, ey, k1, k2, by omega, k4⟩
theorem PostI.of (hR : RelI E φ A w) (h : Post E lim φ A w g φ1 A1 w1) : PostI E φ A w g φ1 A1 w1 := by
  have hlen := h.len
  have hd : ∀ x e, φ1 x = some e → x < A1.n := fun x e hx => by
    rcases h.dom x e hx with h1 | h1
    · have := hR.1 x e h1; omega
    · exact h1.2
  refine ⟨h.ext, h.dom, h.len, (RelI.of h.rel hd).2, h.size, fun b hb H => h.frame b hb fun x e hx he => ?_, fun x e hx hn => ?_, h.ro, h.env⟩
  · rcases H x e hx he with h1 | h1 | h1
    · exact .inl h1
    · have := hR.1 x e hx; omega
    · exact .inr (.inr h1)
  · rcases h.fresh x e hx hn with h1 | ⟨y, ey, k1, k2, k3, k4⟩
    · exact .inl h1
    · exact .inr ⟨y, ey, k1, k2, by have := hR.1 y ey k1; omega, k4⟩
theorem PostI.trans (hR : RelI E φ A w) (h1 : PostI E φ A w g φ1 A1 w1) (h2 : PostI E φ1 A1 w1 g φ2 A2 w2) : PostI E φ A w g φ2 A2 w2 :=
  Post.trans (h1.at hR h2.len) h2
theorem PostI.relabel (h : PostI E φ A w g φ1 A1 w1) {x : Nat} {e : Ent} {b0 b1 : ABlk} (hx : φ1 x = some e) (hA : A1.get x = some b0) (h0 : b0.rw = true) (hb : RelB E φ1 w1 b1 e) : PostI E φ A w g φ1 (A1.set x (some b1)) w1 := by
  have hset := Hp.get_set hA (some b1)
  have hsep : ∀ y b' ey, y ≠ x → A1.get y = some b' → φ1 y = some ey → ey.blk ≠ e.blk := fun y b' ey hy hb' hey => Ne.symm (h.rel.sep x y _ b' e ey (Ne.symm hy) hA hb' hx hey (ABlk.own_of_rw h0))
  refine ⟨h.ext, h.dom, h.len, ⟨h.rel.dom, h.rel.wf, ?_, ?_⟩, h.size, h.frame, h.fresh, ?_, h.env⟩
  · intro y b' ey hb' hy
    rw [hset] at hb'
    by_cases hyx : y = x
    · subst hyx
      rw [hx] at hy; cases hy
      rw [if_pos rfl] at hb'
      cases hb'
      exact hb
    · rw [if_neg hyx] at hb'
      exact h.rel.blk y b' ey hb' hy
  · intro y z b1 b2 ey ez hyz h1 h2 hy hz hrw
    rw [hset] at h1 h2
    by_cases hyx : y = x
    · subst hyx
      rw [if_neg (Ne.symm hyz)] at h2
      rw [hx] at hy; cases hy
      exact Ne.symm (hsep z b2 ez (Ne.symm hyz) h2 hz)
    · rw [if_neg hyx] at h1
      by_cases hzx : z = x
      · subst hzx
        rw [hx] at hz; cases hz
        exact hsep y b1 ey hyx h1 hy
      · rw [if_neg hzx] at h2
        exact h.rel.sep y z b1 b2 ey ez hyz h1 h2 hy hz hrw
  · intro y hy
    obtain ⟨b', h1, h2⟩ := h.ro y hy
    refine ⟨b', ?_, h2⟩
    rw [hset, if_neg (fun hyx => by subst hyx; rw [hA] at h1; cases h1; rw [h0] at h2; cases h2)]
    exact h1
theorem RelI.relabel (h : RelI E φ A w) {x : Nat} {e : Ent} {b0 b1 : ABlk} (hx : φ x = some e) (hA : A.get x = some b0) (h0 : b0.rw = true) (hb : RelB E φ w b1 e) : RelI E φ (A.set x (some b1)) w :=
  .of (PostI.relabel (g := 0) (PostI.refl h) hx hA h0 hb).rel h.1
theorem Post.alike (h : Post E lim φ A w g φ1 A1 w1) (hh : w2.heap = w1.heap) (he : w2.os = w1.os ∧ w2.output = w1.output ∧ w2.tape = w1.tape) : Post E lim φ A w g φ1 A1 w2 :=
  ⟨h.ext, h.dom, h.len, ⟨h.rel.dom, fun x e hx => by rw [hh]; exact h.rel.wf x e hx, fun x b e hb hx => (h.rel.blk x b e hb hx).mono (Ext.refl _) (by rw [hh]), h.rel.sep⟩, by rw [hh]; exact h.size,
   fun b hb H => by rw [hh]; exact h.frame b hb H, h.fresh, h.ro, ⟨he.1.trans h.env.1, he.2.1.trans h.env.2.1, he.2.2.trans h.env.2.2⟩⟩
end
section
variable {P : Program} {w : World}
theorem choose_run (w : World) (n : Nat) : ∃ (j : Nat) (w1 : World), (0 < n → j < n) ∧ w1.heap = w.heap ∧ (w1.os = w.os ∧ w1.output = w.output ∧ w1.tape = w.tape) ∧ (choose (Question.mapNext n)).run P w = .ok j w1 := by
  by_cases hf : n ≤ 1
  · exact ⟨0, w, fun h => h, rfl, ⟨rfl, rfl, rfl⟩, by simp [choose, Sem.run, Question.forced, hf]⟩
  · exact ⟨_, w.drew, fun h => Nat.mod_lt _ h, rfl, ⟨rfl, rfl, rfl⟩, by
      simp only [choose, Sem.run, Question.forced, decide_eq_true_eq, hf, if_false, Question.cut]
      rfl⟩
theorem next_run (ty : TypeId) (r bm cl : Nat) (seen : Array Nat) (es : Array MapEntry) (hr : w.heap[r]? = some (.mapIter (some bm) cl seen cl)) (hb : w.heap[bm]? = some (.map es cl)) (hold : ∀ x ∈ es.toList, x.born < cl) :
    ((leftOf es seen).size = 0 ∧ ∃ w1, (Instr.next (.pointer (some ⟨r, 0, none⟩)) false ty).run P w = .ok (.tuple #[.bool false]) w1 ∧ w1.heap = w.heap ∧ (w1.os = w.os ∧ w1.output = w.output ∧ w1.tape = w.tape)) ∨
    ∃ e ∈ (leftOf es seen).toList, ∃ w1 : World, (Instr.next (.pointer (some ⟨r, 0, none⟩)) false ty).run P w = .ok (.tuple #[.bool true, e.key, e.val]) w1 ∧ w1.heap = (w.putObj r (.mapIter (some bm) cl (seen.push e.born) cl)).heap ∧
      (w1.os = w.os ∧ w1.output = w.output ∧ w1.tape = w.tape) := by
  simp only [Instr.next, getObj, Sem.run_bind, Sem.run, hr, hb, Result.andThen, next_test_false seen es cl cl hold (Nat.le_refl _), Bool.false_eq_true, if_false]
  unfold leftOf
  have hmem : ∀ x ∈ (Array.filter (fun e => !seen.contains e.born) es).toList, x.born < cl := fun x hx => hold x (by simp at hx ⊢; exact hx.1)
  generalize Array.filter (fun e => !seen.contains e.born) es = L at hmem ⊢
  have e1 : L.filter (fun x => decide (x.born < cl)) = L := Array.filter_eq_self.2 (fun x hx => by simpa using hmem x (by simpa using hx))
  have e2 : L.filter (fun x => decide (x.born ≥ cl)) = #[] := by
    rw [Array.filter_eq_empty_iff]
    intro x hx
    have := hmem x (by simpa using hx)
    simp
    omega
  simp only [e1, e2, Array.append_empty]
  by_cases h0 : L.size = 0
  · left
    have : L = #[] := Array.eq_empty_of_size_eq_zero h0
    subst this
    refine ⟨rfl, w, ?_, rfl, rfl, rfl, rfl⟩
    simp [choose, Sem.run, Question.forced]
  · right
    have hne : L.isEmpty = false := by simp [Array.isEmpty, h0]
    simp only [hne, Bool.false_eq_true, if_false, Array.empty_append, Array.size_map]
    obtain ⟨j, w1, hj, hh, he, hrun⟩ := choose_run (P := P) w L.size
    have hj := hj (by omega)
    refine ⟨L[j], by simp, w1.putObj r (.mapIter (some bm) cl (seen.push L[j].born) cl), ?_, by simp [World.putObj, hh], he⟩
    have hr1 : w1.heap[r]? = some (.mapIter (some bm) cl seen cl) := by rw [hh]; exact hr
    have hset : ∀ o', (setObj r o').run P w1 = .ok () (w1.putObj r o') := fun o' => by
      simp only [setObj, Sem.run, hr1]
      rfl
    simp only [hrun, Array.getElem?_map, Array.getElem?_eq_getElem hj, Option.map_some, Sem.run_bind, hset, Result.andThen]
    rfl
theorem entry_run (r bm cl : Nat) (seen : Array Nat) (es : Array MapEntry) (e : MapEntry) (hr : w.heap[r]? = some (.mapIter (some bm) cl (seen.push e.born) cl)) (hb : w.heap[bm]? = some (.map es cl)) (he : e ∈ es.toList) (hn : (es.toList.map (·.born)).Nodup) :
    (Instr.entry (.pointer (some ⟨r, 0, none⟩))).run P w = .ok (.tuple #[e.key, e.val]) w := by
  have hf : es.find? (·.born == e.born) = some e := by rw [← Array.find?_toList]; exact find_born e es.toList hn he
  simp only [Instr.entry, getObj, Sem.run_bind, Sem.run, hr, hb, Result.andThen, Array.back?_push, bne_self_eq_false, Bool.false_eq_true, if_false, hf]
  rfl
theorem perm_filter {l : List MapEntry} {e : MapEntry} (hn : (l.map (·.born)).Nodup) (he : e ∈ l) : l.Perm (e :: l.filter fun x => x.born != e.born) := by
  induction l with
  | nil => cases he
  | cons x l ih =>
    obtain ⟨h1, h2⟩ := List.nodup_cons.1 (show (x.born :: l.map (·.born)).Nodup from hn)
    rcases List.mem_cons.1 he with rfl | h
    · have : l.filter (fun x => x.born != e.born) = l := List.filter_eq_self.2 fun y hy => by
        have : y.born ≠ e.born := fun hb => h1 (by rw [← hb]; exact List.mem_map.2 ⟨y, hy, rfl⟩)
        simpa using this
      simp [this]
    · have hx : (x.born != e.born) = true := by
        have : x.born ≠ e.born := fun hb => h1 (by rw [hb]; exact List.mem_map.2 ⟨e, h, rfl⟩)
        simpa using this
      rw [List.filter_cons, if_pos hx]
      exact ((ih h2 h).cons x).trans (.swap e x _)
theorem left_step {es : Array MapEntry} {seen : Array Nat} {e : MapEntry} (hn : (es.toList.map (·.born)).Nodup) (he : e ∈ (leftOf es seen).toList) : (leftOf es seen).toList.Perm (e :: (leftOf es (seen.push e.born)).toList) := by
  have h1 : (leftOf es seen).toList = es.toList.filter fun x => !seen.contains x.born := by simp [leftOf]
  have h2 : (leftOf es (seen.push e.born)).toList = (leftOf es seen).toList.filter fun x => x.born != e.born := by
    rw [h1, List.filter_filter]
    simp only [leftOf, Array.toList_filter]
    apply List.filter_congr
    intro x _
    rw [contains_push, Bool.not_or, Bool.and_comm]
    rfl
  rw [h2]
  refine perm_filter ?_ he
  rw [h1]
  exact (List.filter_sublist.map _).nodup hn
theorem RelM.perm {lab : Nat → Nat} {φ : NM} {es es' : List MapEntry} (hp : es.Perm es') : ∀ {l : List (Value × Value)}, RelM lab φ l es → ∃ l', l.Perm l' ∧ RelM lab φ l' es' := by
  induction hp with
  | nil => intro l h; exact ⟨l, .refl _, h⟩
  | cons x _ ih =>
    intro l h
    cases h with
    | cons h1 h0 h2 h3 =>
      obtain ⟨l', k1, k2⟩ := ih h3
      exact ⟨_ :: l', k1.cons _, .cons h1 h0 h2 k2⟩
  | swap x y _ =>
    intro l h
    cases h with
    | cons h1 h0 h2 h3 =>
      cases h3 with
      | cons h4 h7 h5 h6 => exact ⟨_, .swap _ _ _, .cons h4 h7 h5 (.cons h1 h0 h2 h6)⟩
  | trans _ _ ih1 ih2 =>
    intro l h
    obtain ⟨l1, k1, k2⟩ := ih1 h
    obtain ⟨l2, k3, k4⟩ := ih2 k2
    exact ⟨l2, k1.trans k3, k4⟩
end
end Go.Ab
namespace Go.Ab
structure MapCode where
  bL : Nat
  b1 : Nat
  tI : Nat
  tN : Nat
  tO : Nat
  tE : Nat
  ops : List AOper
  rest : ACode
def MapCode.round (U : MapCode) : ACode :=
  .seq (.ops [⟨some U.tN, none, [], .nextI (.t U.tI)⟩, ⟨some U.tO, none, [], .extract (.t U.tN) 0⟩])
    (.seq (.cond (.t U.tO) .skip (.exit U.bL)) (.block U.b1 (.seq (.ops (⟨some U.tE, none, [], .entryI (.t U.tI)⟩ :: U.ops)) U.rest)))
structure MapRun where
  m : Nat
  l : List (Value × Value)
  lk : Option (Array MapEntry × Nat)
  gh : Array MapEntry × Nat
  y : Nat
inductive NG where
  | code (tx : Bool) (g : Nat) (rd : Option Nat) (c : ACode) (st : St) (Q : Ex → St → Prop)
  | loop (tx : Bool) (g : Nat) (rd : Option Nat) (c : ACode) (st : St) (Q : Ex → St → Prop)
  | fn (g f : Nat) (args : List Value) (A : Hp) (Q : Value → Hp → Prop)
  | iter (tx : Bool) (g : Nat) (rd : Option Nat) (U : MapCode) (M : MapRun) (left : List (Value × Value)) (st : St) (Q : Ex → St → Prop)
def MapRun.free (M : MapRun) (A : Hp) : Hp := A.set M.m (some (.map M.l M.lk))
def MapRun.held (M : MapRun) (A : Hp) : Prop := A.get M.m = some (.map M.l (some M.gh))
def FreeQ (M : MapRun) (Q : Ex → St → Prop) (ex : Ex) (st : St) : Prop := M.held st.A ∧ Q ex ⟨st.T, st.D, M.free st.A⟩
def stepT (U : MapCode) (k v : Value) (T : List Value) : List Value := tset (tset (tset T U.tN (.tuple ⟨[.bool true, k, v]⟩)) U.tO (.bool true)) U.tE (.tuple ⟨[k, v]⟩)
def overT (U : MapCode) (T : List Value) : List Value := tset (tset T U.tN (.tuple ⟨[.bool false]⟩)) U.tO (.bool false)
def ptrY (y : Nat) : Value := .pointer (some ⟨y, 0, none⟩)
def allText : Code → Bool
  | .region _ _ draw => !draw
  | .seq a b => allText a && allText b
  | .cond _ a b => allText a && allText b
  | .block _ c => allText c
  | .loop c => allText c
  | .rangeFunc _ _ a b => allText a && allText b
  | _ => true
section
variable (AP : Nat → Option AFunc) (K : Nat → Option Spec) (tf : Nat → Bool)
inductive WN : NG → Prop
  | det {tx : Bool} {g : Nat} {rd : Option Nat} {c : ACode} {st : St} {Q : Ex → St → Prop} : W AP K g rd c st Q → WN (.code tx g rd c st Q)
  | detF {g f : Nat} {args : List Value} {A : Hp} {Q : Value → Hp → Prop} : (∃ nt rs c, AP f = some (.fn nt rs c)) → WF AP K g f args A Q → WN (.fn g f args A Q)
  | seq {tx : Bool} {g : Nat} {rd : Option Nat} {a b : ACode} {st : St} {Q Q1 : Ex → St → Prop} : WN (.code tx g rd a st Q1) → (∀ st', Q1 .normal st' → WN (.code tx g rd b st' Q)) →
      (∀ ex st', ex ≠ .normal → Q1 ex st' → Q ex st') → WN (.code tx g rd (.seq a b) st Q)
  | cond {tx : Bool} {g : Nat} {rd : Option Nat} {x : Opd} {a b : ACode} {st : St} {Q : Ex → St → Prop} {t : Bool} : ev st.T x = .bool t → (t = true → WN (.code tx g rd a st Q)) → (t = false → WN (.code tx g rd b st Q)) → WN (.code tx g rd (.cond x a b) st Q)
  | block {tx : Bool} {g : Nat} {rd : Option Nat} {id : Nat} {c : ACode} {st : St} {Q : Ex → St → Prop} : WN (.code tx g rd c st (BlkQ id Q)) → WN (.code tx g rd (.block id c) st Q)
  | loop {tx : Bool} {g : Nat} {rd : Option Nat} {c : ACode} {st : St} {Q : Ex → St → Prop} : WN (.loop tx g rd c st Q) → WN (.code tx g rd (.loop c) st Q)
  | round {tx : Bool} {g : Nat} {rd : Option Nat} {c : ACode} {st : St} {Q Q1 : Ex → St → Prop} : WN (.code tx g rd c st Q1) → (∀ st', Q1 .normal st' → WN (.loop tx g rd c st' Q)) →
      (∀ ex st', ex ≠ .normal → Q1 ex st' → Q ex st') → WN (.loop tx g rd c st Q)
  | range {tx : Bool} {g : Nat} {T : List Value} {D : List Nat} {A : Hp} {Q : Ex → St → Prop} {f : Opd} {ps : List Nat} {asg body : ACode} {h : Nat} {first captured : List Value} : ev T f = .func (.func h) ⟨first⟩ ⟨captured⟩ →
      WN (.fn g h (first ++ [.func (.yield (A.n + 1)) #[] #[]] ++ captured) ((A.push .marks).push (recL T ps asg body)) (EndQ (A.n + 1) T (A.n :: D) Q)) → WN (.code tx g none (.rangeF f ps asg body) ⟨T, D, A⟩ Q)
  | body {g f nt : Nat} {rs : List ARes} {c : ACode} {args : List Value} {A : Hp} {Q : Value → Hp → Prop} : K f = none → AP f = some (.fn nt rs c) → WN (.code (tf f) g none c ⟨args, [], A⟩ (FinQ rs Q)) → WN (.fn g f args A Q)
  | call {g : Nat} {rd : Option Nat} {pre post : List AOper} {dst : Option Nat} {f : Opd} {args : List Opd} {h : List Value → Hp → Nat} {vs : List Value → Hp → List Value} {T : List Value} {D : List Nat} {A : Hp} {Q : Ex → St → Prop} {R : List Value → Hp → Prop} {V : List Value → Hp → Value → Hp → Prop} :
      WO AP K g pre T A R → (∀ T1 A1, R T1 A1 → ∃ first captured, ev T1 f = .func (.func (h T1 A1)) ⟨first⟩ ⟨captured⟩ ∧ vs T1 A1 = first ++ args.map (ev T1) ++ captured) →
      (∀ T1 A1, R T1 A1 → WN (.fn g (h T1 A1) (vs T1 A1) A1 (V T1 A1))) → (∀ T1 A1 v A2, R T1 A1 → V T1 A1 v A2 → WO AP K g post (putA dst T1 v) A2 (OpsQ D Q)) →
      WN (.code true g rd (.ops (pre ++ ⟨dst, none, [], .call f args false⟩ :: post)) ⟨T, D, A⟩ Q)
  | map {tx : Bool} {g : Nat} {rd : Option Nat} {U : MapCode} {pre : List AOper} {x : Opd} {T : List Value} {D : List Nat} {A : Hp} {Q : Ex → St → Prop} {R : List Value → Hp → Prop} {m : List Value → Hp → Nat} {l : List Value → Hp → List (Value × Value)} {lk : List Value → Hp → Option (Array MapEntry × Nat)} :
      WO AP K g pre T A R → (∀ T1 A1, R T1 A1 → ev T1 x = .map (some (m T1 A1)) ∧ A1.get (m T1 A1) = some (.map (l T1 A1) (lk T1 A1))) →
      (∀ T1 A1 gh gi, R T1 A1 → (lk T1 A1 = none ∨ lk T1 A1 = some gh) →
        WN (.iter tx g rd U ⟨m T1 A1, l T1 A1, lk T1 A1, gh, A1.n⟩ (l T1 A1) ⟨tset T1 U.tI (ptrY A1.n), D, (A1.push (.iter gi)).set (m T1 A1) (some (.map (l T1 A1) (some gh)))⟩ Q)) →
      WN (.code tx g rd (.seq (.ops (pre ++ [⟨some U.tI, none, [], .rangeI x⟩])) (.block U.bL (.loop U.round))) ⟨T, D, A⟩ Q)
  | over {tx : Bool} {g : Nat} {rd : Option Nat} {U : MapCode} {M : MapRun} {T : List Value} {D : List Nat} {A : Hp} {Q : Ex → St → Prop} : tget T U.tI = ptrY M.y → FreeQ M Q .normal ⟨overT U T, D, A⟩ → WN (.iter tx g rd U M [] ⟨T, D, A⟩ Q)
  | step {tx : Bool} {g : Nat} {rd : Option Nat} {U : MapCode} {M : MapRun} {left : List (Value × Value)} {T : List Value} {D : List Nat} {A : Hp} {Q : Ex → St → Prop}
      {R : Value → Value → List (Value × Value) → (Option Nat × Nat × Array Nat × Nat) → List Value → Hp → Prop} {Q1 : Value → Value → List (Value × Value) → (Option Nat × Nat × Array Nat × Nat) → Ex → St → Prop} :
      left ≠ [] → (U.tI ≠ U.tN ∧ U.tI ≠ U.tO) → tget T U.tI = ptrY M.y →
      (∀ k v left' gi, left.Perm ((k, v) :: left') → WO AP K g U.ops (stepT U k v T) (A.set M.y (some (.iter gi))) (R k v left' gi)) →
      (∀ k v left' gi T2 A2, left.Perm ((k, v) :: left') → R k v left' gi T2 A2 → WN (.code tx g rd U.rest ⟨T2, D, A2⟩ (Q1 k v left' gi))) →
      (∀ k v left' gi st', left.Perm ((k, v) :: left') → (Q1 k v left' gi .normal st' ∨ Q1 k v left' gi (.exit U.b1) st') → M.held st'.A ∧ st'.A.get M.y = some (.iter gi)) →
      (∀ k v left' gi st', left.Perm ((k, v) :: left') → (Q1 k v left' gi .normal st' ∨ Q1 k v left' gi (.exit U.b1) st') → WN (.iter tx g rd U M left' st' Q)) →
      (∀ k v left' gi st', left.Perm ((k, v) :: left') → Q1 k v left' gi .ret st' → FreeQ M Q .ret st') →
      (∀ k v left' gi i st', left.Perm ((k, v) :: left') → i ≠ U.b1 → Q1 k v left' gi (.exit i) st' → FreeQ M (BlkQ U.bL Q) (.exit i) st') →
      WN (.iter tx g rd U M left ⟨T, D, A⟩ Q)
end
end Go.Ab
namespace Go.Ab
open Go.MapKept
section
variable {P : Program} {lab : Nat → Nat} {nt : Nat} {c : Code}
theorem comp_seq {a b : ACode} (h : compCode P lab nt c = some (.seq a b)) : ∃ x y, c = .seq x y ∧ compCode P lab nt x = some a ∧ compCode P lab nt y = some b := by
  cases c <;> simp only [compCode] at h <;> try (cases h; done)
  case region id ops draw => (repeat' split at h) <;> cases h
  case seq x y => split at h <;> cases h; exact ⟨x, y, rfl, by assumption, by assumption⟩
  case cond => split at h <;> cases h
  case block => simp [Option.map_eq_some_iff] at h
  case loop => simp [Option.map_eq_some_iff] at h
  case rangeFunc => (repeat' split at h) <;> cases h
theorem comp_ops {l : List AOper} (h : compCode P lab nt c = some (.ops l)) : ∃ id ops draw, c = .region id ops draw ∧ compOpers P lab nt ops.toList draw (befA (ops.toList.map edgesOf)) 0 ops.toList = some l ∧ (!draw || drawOk l (ops.toList.map edgesOf)) = true := by
  cases c <;> simp only [compCode] at h <;> try (cases h; done)
  case region id ops draw =>
    split at h
    · split at h
      · cases h; exact ⟨id, ops, draw, rfl, by assumption, by assumption⟩
      · cases h
    · cases h
  case seq => split at h <;> cases h
  case cond => split at h <;> cases h
  case block => simp [Option.map_eq_some_iff] at h
  case loop => simp [Option.map_eq_some_iff] at h
  case rangeFunc => (repeat' split at h) <;> cases h
theorem comp_cond {x : Opd} {a b : ACode} (h : compCode P lab nt c = some (.cond x a b)) : ∃ z y1 y2, c = .cond z y1 y2 ∧ compOpd lab nt z = some x ∧ compCode P lab nt y1 = some a ∧ compCode P lab nt y2 = some b := by
  cases c <;> simp only [compCode] at h <;> try (cases h; done)
  case region id ops draw => (repeat' split at h) <;> cases h
  case seq => split at h <;> cases h
  case cond z y1 y2 => split at h <;> cases h; exact ⟨z, y1, y2, rfl, by assumption, by assumption, by assumption⟩
  case block => simp [Option.map_eq_some_iff] at h
  case loop => simp [Option.map_eq_some_iff] at h
  case rangeFunc => (repeat' split at h) <;> cases h
theorem comp_block {id : Nat} {a : ACode} (h : compCode P lab nt c = some (.block id a)) : ∃ x, c = .block id x ∧ compCode P lab nt x = some a := by
  cases c <;> simp only [compCode] at h <;> try (cases h; done)
  case region id ops draw => (repeat' split at h) <;> cases h
  case seq => split at h <;> cases h
  case cond => split at h <;> cases h
  case block i x => simp only [Option.map_eq_some_iff] at h; obtain ⟨y, hy, he⟩ := h; cases he; exact ⟨x, rfl, hy⟩
  case loop => simp [Option.map_eq_some_iff] at h
  case rangeFunc => (repeat' split at h) <;> cases h
theorem comp_loop {a : ACode} (h : compCode P lab nt c = some (.loop a)) : ∃ x, c = .loop x ∧ compCode P lab nt x = some a := by
  cases c <;> simp only [compCode] at h <;> try (cases h; done)
  case region id ops draw => (repeat' split at h) <;> cases h
  case seq => split at h <;> cases h
  case cond => split at h <;> cases h
  case block => simp [Option.map_eq_some_iff] at h
  case loop x => simp only [Option.map_eq_some_iff] at h; obtain ⟨y, hy, he⟩ := h; cases he; exact ⟨x, rfl, hy⟩
  case rangeFunc => (repeat' split at h) <;> cases h
theorem comp_skip (h : compCode P lab nt c = some .skip) : c = .skip ∨ ∃ l, c = .label l := by
  cases c <;> simp only [compCode] at h <;> try (cases h; done)
  case skip => exact .inl rfl
  case label l => exact .inr ⟨l, rfl⟩
  case region id ops draw => (repeat' split at h) <;> cases h
  case seq => split at h <;> cases h
  case cond => split at h <;> cases h
  case block => simp [Option.map_eq_some_iff] at h
  case loop => simp [Option.map_eq_some_iff] at h
  case rangeFunc => (repeat' split at h) <;> cases h
theorem comp_exit {id : Nat} (h : compCode P lab nt c = some (.exit id)) : c = .exit id := by
  cases c <;> simp only [compCode] at h <;> try (cases h; done)
  case region id ops draw => (repeat' split at h) <;> cases h
  case seq => split at h <;> cases h
  case cond => split at h <;> cases h
  case block => simp [Option.map_eq_some_iff] at h
  case loop => simp [Option.map_eq_some_iff] at h
  case exit i => cases h; rfl
  case rangeFunc => (repeat' split at h) <;> cases h
theorem comp_range {f : Opd} {ps : List Nat} {a b : ACode} (h : compCode P lab nt c = some (.rangeF f ps a b)) : ∃ z qs x y, c = .rangeFunc z qs x y ∧ compOpd lab nt z = some f ∧ compCode P lab nt x = some a ∧ compCode P lab nt y = some b ∧ qs.toList = ps ∧ ∀ p ∈ qs.toList, p < nt := by
  cases c <;> simp only [compCode] at h <;> try (cases h; done)
  case region id ops draw => (repeat' split at h) <;> cases h
  case seq => split at h <;> cases h
  case cond => split at h <;> cases h
  case block => simp [Option.map_eq_some_iff] at h
  case loop => simp [Option.map_eq_some_iff] at h
  case rangeFunc z qs x y =>
    split at h
    · split at h
      · rename_i hps
        cases h
        exact ⟨z, qs, x, y, rfl, by assumption, by assumption, by assumption, rfl, fun p hp => by simpa using List.all_eq_true.1 hps p hp⟩
      · cases h
    · cases h
theorem no_draw {ops : List Oper} {draw : Bool} {bef : List Nat} : ∀ {l : List Oper} {i : Nat} {al : List AOper}, compOpers P lab nt ops draw bef i l = some al → ∀ (k : Nat) (o : Oper), l[k]? = some o → isIter o.op = true → draw = false := by
  intro l
  induction l with
  | nil => intro i al _ k o h; simp at h
  | cons o l ih =>
    intro i al h k o' hk hi
    simp only [compOpers] at h
    split at h
    · cases h
    · rename_i hn
      split at h
      · rename_i a r ha hr
        cases k with
        | zero => simp at hk; subst hk; cases draw <;> simp_all
        | succ k => exact ih hr k o' (by simpa using hk) hi
      · cases h
def _root_.Go.Ab.AOp.it : AOp → Bool
  | .rangeI _ => true | .nextI _ => true | .entryI _ => true
  | _ => false
theorem comp_it {ro : Bool} {o : Op} {ao : AOp} (h : compOp P lab nt ro o = some ao) (hi : isIter o = false) : ao.it = false := by
  cases o <;> simp only [compOp] at h <;> first | (cases hi; done) | skip
  case binOp op t a b r =>
    unfold compBin compNil at h
    repeat' split at h
    all_goals (try (cases h; done))
    all_goals (try simp only [Option.map_eq_some_iff, Option.bind_eq_some_iff] at h)
    all_goals (first | (obtain ⟨_, _, h⟩ := h; cases h; rfl; done) | (obtain ⟨_, _, _, _, h⟩ := h; cases h; rfl))
  case call c =>
    unfold compCall at h
    repeat' split at h
    all_goals (try (cases h; done))
    all_goals (try simp only [Option.map_eq_some_iff] at h)
    all_goals (first | (obtain ⟨_, _, h⟩ := h; cases h; rfl; done) | (cases h; rfl; done) | (cases h; split <;> rfl))
  all_goals (repeat' split at h)
  all_goals (try simp only [Option.map_eq_some_iff] at h)
  all_goals (first | contradiction | (cases h; done) | (cases h; rfl; done) | (obtain ⟨_, _, h⟩ := h; cases h; rfl; done) | skip)
def _root_.Go.Ab.AOp.isC : AOp → Bool
  | .call _ _ _ => true
  | _ => false
theorem comp_isC {ro : Bool} {o : Op} {ao : AOp} (h : compOp P lab nt ro o = some ao) (hi : isCall o = false) : ao.isC = false := by
  cases o <;> simp only [compOp] at h
  case binOp op t a b r =>
    unfold compBin compNil at h
    repeat' split at h
    all_goals (try (cases h; done))
    all_goals (try simp only [Option.map_eq_some_iff, Option.bind_eq_some_iff] at h)
    all_goals (first | (obtain ⟨_, _, h⟩ := h; cases h; rfl; done) | (obtain ⟨_, _, _, _, h⟩ := h; cases h; rfl))
  case call c =>
    obtain ⟨callee, args, ats⟩ := c
    cases callee with
    | value f => cases hi
    | invoke r n => simp [compCall] at h
    | builtin b =>
    unfold compCall at h
    cases b <;> simp only at h
    all_goals (repeat' split at h)
    all_goals (try (cases h; done))
    all_goals (try simp only [Option.map_eq_some_iff] at h)
    all_goals (first | (obtain ⟨_, _, h⟩ := h; cases h; rfl; done) | (cases h; rfl; done) | (cases h; split <;> rfl))
  all_goals (repeat' split at h)
  all_goals (try simp only [Option.map_eq_some_iff] at h)
  all_goals (first | contradiction | (cases h; done) | (cases h; rfl; done) | (obtain ⟨_, _, h⟩ := h; cases h; rfl; done) | skip)
theorem comp_call {ro : Bool} {o : Op} {f : Opd} {args : List Opd} {r : Bool} (h : compOp P lab nt ro o = some (.call f args r)) : ∃ c z, o = .call c ∧ c.callee = .value z ∧ compOpd lab nt z = some f ∧ compOpds lab nt c.args.toList = some args := by
  cases hi : isCall o with
  | false => have := comp_isC h hi; cases this
  | true =>
    unfold isCall at hi
    split at hi
    · rename_i f0 args0 ats
      simp only [compOp, compCall] at h
      split at h
      · rename_i a l ha hl
        have : a = f ∧ l = args := by
          split at h <;> cases h
          exact ⟨rfl, rfl⟩
        obtain ⟨rfl, rfl⟩ := this
        exact ⟨_, f0, rfl, rfl, ha, hl⟩
      · cases h
    · cases hi
theorem comp_rangeI {ro : Bool} {o : Op} {x : Opd} (h : compOp P lab nt ro o = some (.rangeI x)) : ∃ t z k e, o = .range t z ∧ P.underlying t = some (.map k e) ∧ compOpd lab nt z = some x := by
  cases hi : isIter o with
  | false => have := comp_it h hi; cases this
  | true =>
    cases o <;> simp only [isIter] at hi <;> try (cases hi; done)
    all_goals simp only [compOp] at h
    case range t z =>
      split at h
      · rename_i k e hu
        simp only [Option.map_eq_some_iff] at h
        obtain ⟨y, hy, he⟩ := h
        cases he
        exact ⟨t, z, k, e, rfl, hu, hy⟩
      · cases h
    case next z b =>
      cases b <;> simp [Option.map_eq_some_iff] at h
    case entry z => simp [Option.map_eq_some_iff] at h
theorem comp_nextI {ro : Bool} {o : Op} {x : Opd} (h : compOp P lab nt ro o = some (.nextI x)) : ∃ z, o = .next z false ∧ compOpd lab nt z = some x := by
  cases hi : isIter o with
  | false => have := comp_it h hi; cases this
  | true =>
    cases o <;> simp only [isIter] at hi <;> try (cases hi; done)
    all_goals simp only [compOp] at h
    case range t z =>
      split at h
      · simp [Option.map_eq_some_iff] at h
      · cases h
    case next z b =>
      cases b
      · simp only [Option.map_eq_some_iff] at h
        obtain ⟨y, hy, he⟩ := h
        cases he
        exact ⟨z, rfl, hy⟩
      · cases h
    case entry z => simp [Option.map_eq_some_iff] at h
theorem comp_entryI {ro : Bool} {o : Op} {x : Opd} (h : compOp P lab nt ro o = some (.entryI x)) : ∃ z, o = .entry z ∧ compOpd lab nt z = some x := by
  cases hi : isIter o with
  | false => have := comp_it h hi; cases this
  | true =>
    cases o <;> simp only [isIter] at hi <;> try (cases hi; done)
    all_goals simp only [compOp] at h
    case range t z =>
      split at h
      · simp [Option.map_eq_some_iff] at h
      · cases h
    case next z b =>
      cases b <;> simp [Option.map_eq_some_iff] at h
    case entry z =>
      simp only [Option.map_eq_some_iff] at h
      obtain ⟨y, hy, he⟩ := h
      cases he
      exact ⟨z, rfl, hy⟩
end
end Go.Ab
namespace Go.Ab
open Go.MapKept
def LoopIn (F : Fence) (n : Nat) (P : Program) (c : Code) (Q : Exit → Act → World → Prop) (a : Act) (w : World) : Prop :=
  ∀ (b : Frame) (k : List Item) (cs : List Frame), b.roundOf = F.round → F.fn b.fn → F.room (cs.length + 1 + n) →
    ∃ e a' w', Q e a' w' ∧ ArrivesIn (Machine.fenced P F) P (lone (b.atR a (.code c :: .inLoop c :: k)) cs w) b k cs e a' w'
section
variable {F : Fence} {n : Nat} {P : Program} {c : Code} {Q : Exit → Act → World → Prop} {a : Act} {w : World}
theorem wpIn_of_loopIn (h : LoopIn F n P c Q a w) : (Code.loop c).wpIn F n P Q a w := by
  intro b k cs hro hb hr
  obtain ⟨e, a', w', hq, harr⟩ := h b k cs hro hb hr
  exact ⟨e, a', w', hq, .of_steps (.one (fenced_calm hb hr rfl) stepR_loop) harr⟩
theorem loopIn_step (h : c.wpIn F n P (Exit.then (LoopIn F n P c Q) Q) a w) : LoopIn F n P c Q a w := by
  intro b k cs hro hb hr
  obtain ⟨e, a₁, w₁, hq, harr⟩ := h b (.inLoop c :: k) cs hro hb hr
  cases e with
  | normal =>
    obtain ⟨e₂, a₂, w₂, hq₂, harr₂⟩ := hq b k cs hro hb hr
    exact ⟨e₂, a₂, w₂, hq₂, .of_steps (StepsIn.trans harr (.one (fenced_calm hb hr rfl) stepR_inLoop)) harr₂⟩
  | exit id => exact ⟨_, a₁, w₁, hq, .pass (x := .inLoop c) rfl (fun _ _ => .inl (by simp)) harr⟩
  | goto l => exact ⟨_, a₁, w₁, hq, .pass (x := .inLoop c) rfl (fun _ _ => .inl (by simp)) harr⟩
  | ret => exact ⟨_, a₁, w₁, hq, .pass (x := .inLoop c) rfl (fun _ _ => .inl (by simp)) harr⟩
  | panic ch => exact ⟨_, a₁, w₁, hq, .pass (x := .inLoop c) rfl (fun _ _ => .inl (by simp)) harr⟩
  | outgrown => exact ⟨_, a₁, w₁, hq, .pass (x := .inLoop c) rfl (fun _ _ => .inl (by simp)) harr⟩
end
section
variable {E : Env} {nt lim : Nat} {cv : CallFn} {g : Nat} {ops : Array Oper} {al : List AOper} {st : Nat → List Value × Hp}
theorem text_to (hcv : CallSound E cv) (hk : CallKeeps cv) (hf : Formed' E nt ops al) {j0 n : Nat} (hn : n ≤ al.length) (hst : ∀ i o, j0 ≤ i → i < n → al[i]? = some o → Step cv g o (st i) (st (i + 1))) (hlim : (st n).2.n ≤ lim) :
    ∀ (k i : Nat), j0 ≤ i → i + k = n → ∀ (φ : NM) (a : Act) (w : World), RelT E.lab φ nt (st i).1 a.tmps → Rel E lim φ (st i).2 w → ∀ (ro : Option Nat) (rest : List Nat) (Q : Exit → Act → World → Prop),
      (∀ φ' a' w', RelT E.lab φ' nt (st n).1 a'.tmps → Post E lim φ (st i).2 w g φ' (st n).2 w' → a'.defers = a.defers → wpOpsIn (fence ro) 0 E.P ops Q rest a' w') →
      wpOpsIn (fence ro) 0 E.P ops Q (List.range' i k ++ rest) a w := by
  have hlen : ∀ i, j0 ≤ i → i ≤ n → (st i).2.n ≤ (st n).2.n := by
    have key : ∀ k i, j0 ≤ i → i + k = n → (st i).2.n ≤ (st n).2.n := by
      intro k
      induction k with
      | zero => intro i _ hi; have : i = n := by omega
                subst this; exact Nat.le_refl _
      | succ k ih =>
        intro i hj hi
        refine Nat.le_trans ?_ (ih (i + 1) (by omega) (by omega))
        have hlt : i < al.length := by omega
        rcases hst i al[i] hj (by omega) (by simp [hlt]) with ⟨_, _, v, h, _⟩ | ⟨_, h, _⟩
        · exact opA_len hk h
        · rw [h]; exact Nat.le_refl _
    exact fun i hj hi => key (n - i) i hj (by omega)
  intro k
  induction k with
  | zero =>
    intro i hj hi φ a w hT hR ro rest Q hQ
    have : i = n := by omega
    subst this
    exact hQ φ a w hT (Post.refl hR) rfl
  | succ k ih =>
    intro i hj hi φ a w hT hR ro rest Q hQ
    rw [List.range'_succ, List.cons_append]
    have hlt : i < ops.size := by rw [← hf.1]; omega
    obtain ⟨o, ho⟩ : ∃ o, ops[i]? = some o := ⟨ops[i], by simp [hlt]⟩
    obtain ⟨ao, hao⟩ : ∃ ao, al[i]? = some ao := ⟨al[i]'(by rw [hf.1]; exact hlt), by simp⟩
    obtain ⟨rof, hop, hgd, hds, hdst⟩ := hf.2 i o ao ho hao
    have hstep := hst i ao hj (by omega) hao
    simp only [wpOpsIn, ho]
    have hw := wanted_eq (ops := ops) (o := o) hgd hT
    rw [hw]
    rcases hstep with ⟨h1, _, v, h2, h3⟩ | ⟨h1, h2, h3⟩
    · rw [if_pos h1]
      have hl : (st (i + 1)).2.n ≤ lim := Nat.le_trans (hlen (i + 1) (by omega) (by omega)) hlim
      refine oper_sound hl hcv hop hT hR h2 ro _ _ fun v' w' φ' hv hp => ?_
      have hp' := Post.of_guard hR hp
      refine ih (i + 1) (by omega) (by omega) φ' _ w' ?_ hp'.rel ro rest Q fun φ2 a2 w2 hT2 hp2 hd2 => hQ φ2 a2 w2 hT2 (hp'.trans hp2) ?_
      · rw [h3, hdst]; exact (hT.mono hp.ext).put hds hv
      · rw [hd2]; cases o.dst <;> rfl
    · rw [if_neg (by simp [h1])]
      refine ⟨fun f _ => trivial, ?_⟩
      rw [← h2] at hR
      refine ih (i + 1) (by omega) (by omega) φ _ w ?_ hR ro rest Q fun φ2 a2 w2 hT2 hp2 hd2 => hQ φ2 a2 w2 hT2 (h2 ▸ hp2) ?_
      · rw [h3, hdst]; exact hT.put hds relV_undef
      · rw [hd2]; cases o.dst <;> rfl
theorem oper_wp {o : Oper} {ro : Option Nat} {a : Act} {w w' : World} {v' : Value} {next : Act → World → Prop} {Q : Exit → Act → World → Prop} (hno : ∀ c, o.op ≠ .defer c) (hr : (execOp a.eval o).run E.P w = .ok (.value v') w') (hn : next (a.put o.dst v') w') :
    o.wpIn (fence ro) 0 E.P a w next Q := by
  refine ⟨fun f _ => trivial, ?_⟩
  rw [fence_round, Oper.semAt_eq ro a.eval o hno, hr]
  exact hn
theorem one_wp {i : Nat} {o : Oper} {ao : AOper} {φ : NM} {T : List Value} {ro : Option Nat} {a : Act} {w w' : World} {v' : Value} {rest : List Nat} {Q : Exit → Act → World → Prop} (ho : ops[i]? = some o) (hgd : compGuard nt ops.toList o.guard = some ao.guard) (hg0 : ao.guard = none)
    (hT : RelT E.lab φ nt T a.tmps) (hno : ∀ c, o.op ≠ .defer c) (hr : (execOp a.eval o).run E.P w = .ok (.value v') w') (hn : wpOpsIn (fence ro) 0 E.P ops Q rest (a.put o.dst v') w') : wpOpsIn (fence ro) 0 E.P ops Q (i :: rest) a w := by
  simp only [wpOpsIn, ho]
  have hw := wanted_eq (ops := ops) (o := o) hgd hT
  rw [hw, hg0]
  exact oper_wp hno hr hn
end
theorem put_defers (a : Act) (d : Option Nat) (v : Value) : (a.put d v).defers = a.defers := by cases d <;> rfl
section
variable (E : Env)
def CodeM (tx : Bool) (g : Nat) (rd : Option Nat) (c : ACode) (st : St) (Q : Ex → St → Prop) : Prop :=
  ∀ (nt : Nat) (cc : Code), compCode E.P E.lab nt cc = some c → (tx = true → allText cc = true) → ∀ (φ : NM) (a : Act) (w : World) (ro : Option Nat), RelT E.lab φ nt st.T a.tmps → RelD φ st.D a.defers → RelI E φ st.A w → RdOk φ rd ro →
    ∀ Qc : Exit → Act → World → Prop, (∀ ex st' φ' a' w', Q ex st' → SK g st st' → RelT E.lab φ' nt st'.T a'.tmps → RelD φ' st'.D a'.defers → PostI E φ st.A w g φ' st'.A w' → Qc (exitOf ex) a' w') → wpc E cc ro Qc a w
def LoopM (tx : Bool) (g : Nat) (rd : Option Nat) (c : ACode) (st : St) (Q : Ex → St → Prop) : Prop :=
  ∀ (nt : Nat) (cc : Code), compCode E.P E.lab nt cc = some c → (tx = true → allText cc = true) → ∀ (φ : NM) (a : Act) (w : World) (ro : Option Nat), RelT E.lab φ nt st.T a.tmps → RelD φ st.D a.defers → RelI E φ st.A w → RdOk φ rd ro →
    ∀ Qc : Exit → Act → World → Prop, (∀ ex st' φ' a' w', Q ex st' → SK g st st' → RelT E.lab φ' nt st'.T a'.tmps → RelD φ' st'.D a'.defers → PostI E φ st.A w g φ' st'.A w' → Qc (exitOf ex) a' w') → LoopIn (fence ro) 0 E.P cc Qc a w
def FnM (g f : Nat) (args : List Value) (A : Hp) (Q : Value → Hp → Prop) : Prop :=
  ∀ (φ : NM) (w : World) (f' : FuncId) (args' : List Value), E.lab f' = f → RelL E.lab φ args args' → RelI E φ A w →
    CallsIn (fence none) 0 E.P f' args'.toArray w fun e w' => ∃ v A' v' φ', Q v A' ∧ HK g A A' ∧ e = .returned v' ∧ RelV E.lab φ' v v' ∧ PostI E φ A w g φ' A' w'
structure IterAt (g : Nat) (rd : Option Nat) (U : MapCode) (M : MapRun) (left : List (Value × Value)) (st : St) (nt : Nat) (st0 : St) (φ0 : NM) (w0 : World) (φ : NM) (a : Act) (w : World) (ro : Option Nat) (em ey : Ent) (seen : Array Nat) : Prop where
  r0 : RelI E φ0 st0.A w0
  y0 : st0.A.n ≤ M.y
  T : RelT E.lab φ nt st.T a.tmps
  D : RelD φ st.D a.defers
  rd : RdOk φ rd ro
  post : PostI E φ0 st0.A w0 g φ st.A w
  keeps : SK g st0 ⟨st.T, st.D, M.free st.A⟩
  m : φ M.m = some em
  y : φ M.y = some ey
  off : ey.off = 0
  held : M.held st.A
  iter : st.A.get M.y = some (.iter (some em.blk, M.gh.2, seen, M.gh.2))
  left : ∃ q, q.Perm left ∧ RelM E.lab φ q (leftOf M.gh.1 seen).toList
  lk : M.lk = none ∨ M.lk = some M.gh
def IterM (tx : Bool) (g : Nat) (rd : Option Nat) (U : MapCode) (M : MapRun) (left : List (Value × Value)) (st : St) (Q : Ex → St → Prop) : Prop :=
  ∀ (nt : Nat) (cc : Code), compCode E.P E.lab nt cc = some U.round → (tx = true → allText cc = true) → ∀ (st0 : St) (φ0 : NM) (w0 : World) (φ : NM) (a : Act) (w : World) (ro : Option Nat) (em ey : Ent) (seen : Array Nat), IterAt E g rd U M left st nt st0 φ0 w0 φ a w ro em ey seen →
    ∀ Qc : Exit → Act → World → Prop, (∀ ex st' φ' a' w', Q ex st' → SK g st0 st' → RelT E.lab φ' nt st'.T a'.tmps → RelD φ' st'.D a'.defers → PostI E φ0 st0.A w0 g φ' st'.A w' → Qc (exitOf ex) a' w') →
      LoopIn (fence ro) 0 E.P cc (Exit.inBlock U.bL Qc) a w
def NM' : NG → Prop
  | .code tx g rd c st Q => CodeM E tx g rd c st Q
  | .loop tx g rd c st Q => LoopM E tx g rd c st Q
  | .fn g f args A Q => FnM E g f args A Q
  | .iter tx g rd U M left st Q => IterM E tx g rd U M left st Q
end
section
variable {E : Env} {g : Nat} {rd : Option Nat} {U : MapCode} {M : MapRun} {left : List (Value × Value)} {st : St} {nt : Nat} {st0 : St} {φ0 φ : NM} {w0 w : World} {a : Act} {ro : Option Nat} {em ey : Ent} {seen : Array Nat}
theorem IterAt.map (h : IterAt E g rd U M left st nt st0 φ0 w0 φ a w ro em ey seen) : w.heap[em.blk]? = some (.map M.gh.1 M.gh.2) ∧ Stamped M.gh.1 M.gh.2 ∧ ∃ l', l'.Perm M.l ∧ KeysAp M.l ∧ RelM E.lab φ l' M.gh.1.toList := by
  obtain ⟨es, cl, l', h1, h2, h3, h4, h5, h6⟩ := h.post.rel.blk _ _ _ h.held h.m
  have := h6 _ rfl
  rw [this]
  exact ⟨h1, h2, l', h3, h4, h5⟩
theorem free_post {φ' : NM} {A' : Hp} {w' : World} (hlk : M.lk = none ∨ M.lk = some M.gh) (hh : M.held A') (hm : φ' M.m = some em) (h : PostI E φ0 st0.A w0 g φ' A' w') : PostI E φ0 st0.A w0 g φ' (M.free A') w' := by
  refine h.relabel hm hh rfl ?_
  obtain ⟨es, cl, l', h1, h2, h3, h4, h5, h6⟩ := h.rel.blk _ _ _ hh hm
  refine ⟨es, cl, l', h1, h2, h3, h4, h5, fun gh hgh => ?_⟩
  rcases hlk with hl | hl
  · rw [hl] at hgh; cases hgh
  · rw [hl] at hgh; cases hgh; exact h6 _ rfl
theorem free_keeps {T' : List Value} {D' : List Nat} {A2 A' : Hp} {bi : ABlk} (hk : SK g st0 ⟨st.T, st.D, M.free st.A⟩) (hh : M.held st.A) (hy0 : st0.A.n ≤ M.y) (hyb : st.A.get M.y = some bi) {b : Option ABlk} (h2 : HK g (st.A.set M.y b) A2) {T2 : List Value} (h3 : SK g ⟨T2, st.D, A2⟩ ⟨T', D', A'⟩) (hh' : M.held A') :
    SK g st0 ⟨T', D', M.free A'⟩ := by
  obtain ⟨⟨k1, k2⟩, ns, k3, k4⟩ := hk
  obtain ⟨⟨m1, m2⟩, ns', m3, m4⟩ := h3
  have hA : HK g (st.A.set M.y b) A' := h2.trans ⟨m1, m2⟩
  have e1 : ∀ x, (M.free st.A).get x = if x = M.m then some (.map M.l M.lk) else st.A.get x := fun x => Hp.get_set hh _ x
  have e2 : ∀ x, (M.free A').get x = if x = M.m then some (.map M.l M.lk) else A'.get x := fun x => Hp.get_set hh' _ x
  have n1 : st0.A.n ≤ st.A.n := k1
  have n2 : st.A.n ≤ A'.n := hA.1
  refine ⟨⟨by show st0.A.n ≤ A'.n; omega, fun x hx hg => ?_⟩, ns' ++ ns, by simp only at m3 k3 ⊢; rw [m3, k3, List.append_assoc], fun x hx => ?_⟩
  · rw [← k2 x hx hg, e1, e2]
    split
    · rfl
    · rw [hA.2 x (by show x < st.A.n; omega) hg, Hp.get_set hyb, if_neg (by omega)]
  · rcases List.mem_append.1 hx with h | h
    · have := m4 x h
      have h3 := h2.1
      simp only [Hp.n_set] at this h3
      omega
    · exact k4 x h
end
end Go.Ab
namespace Go.Ab
open Go.MapKept
section
variable {E : Env} {g : Nat} {rd : Option Nat} {U : MapCode} {M : MapRun} {left : List (Value × Value)} {st : St} {nt : Nat} {st0 : St} {φ0 φ : NM} {w0 w : World} {a : Act} {ro : Option Nat} {em ey : Ent} {seen : Array Nat} {cv : CallFn}
theorem next_no {z : Operand} {b : Bool} : ∀ c, Op.next z b ≠ .defer c := fun c h => by cases h
theorem entry_no {z : Operand} : ∀ c, Op.entry z ≠ .defer c := fun c h => by cases h
theorem range_no {t : TypeId} {z : Operand} : ∀ c, Op.range t z ≠ .defer c := fun c h => by cases h
theorem round_wp (hcv : CallSound E cv) (hk : CallKeeps cv) {cc : Code} (hcc : compCode E.P E.lab nt cc = some U.round) {tx : Bool} (htx : tx = true → allText cc = true) (h : IterAt E g rd U M left st nt st0 φ0 w0 φ a w ro em ey seen) (hI : tget st.T U.tI = ptrY M.y) {Qn : Act → World → Prop} {Q : Exit → Act → World → Prop}
    (hover : left = [] → ∀ a1 w1, RelT E.lab φ nt (overT U st.T) a1.tmps → a1.defers = a.defers → PostI E φ0 st0.A w0 g φ st.A w1 → Q (.exit U.bL) a1 w1)
    (hstep : ∀ (k v : Value) (left' : List (Value × Value)) (e : MapEntry) (a1 : Act) (w1 : World) (x : Code), left.Perm ((k, v) :: left') → e ∈ M.gh.1.toList → e.key = k → flat k = true → RelV E.lab φ v e.val →
      (∃ q, q.Perm left' ∧ RelM E.lab φ q (leftOf M.gh.1 (seen.push e.born)).toList) → RelT E.lab φ nt (tset (tset st.T U.tN (.tuple ⟨[.bool true, k, v]⟩)) U.tO (.bool true)) a1.tmps → a1.defers = a.defers →
      PostI E φ0 st0.A w0 g φ (st.A.set M.y (some (.iter (some em.blk, M.gh.2, seen.push e.born, M.gh.2)))) w1 → compCode E.P E.lab nt x = some (.seq (.ops (⟨some U.tE, none, [], .entryI (.t U.tI)⟩ :: U.ops)) U.rest) → (tx = true → allText x = true) →
      x.wpIn (fence ro) 0 E.P (Exit.inBlock U.b1 (Exit.then Qn Q)) a1 w1) :
    cc.wpIn (fence ro) 0 E.P (Exit.then Qn Q) a w := by
  unfold MapCode.round at hcc
  obtain ⟨r1, s1, rfl, hr1, hs1⟩ := comp_seq hcc
  obtain ⟨id1, ops1, d1, rfl, hops1, _⟩ := comp_ops hr1
  obtain ⟨cn, bl, rfl, hcn, hbl⟩ := comp_seq hs1
  obtain ⟨z, y1, y2, rfl, hz, hy1, hy2⟩ := comp_cond hcn
  obtain ⟨x, rfl, hx⟩ := comp_block hbl
  obtain rfl := comp_exit hy2
  have hf := formed_of hops1
  have hsz : ops1.size = 2 := by rw [← hf.1]; rfl
  obtain ⟨o0, ho0⟩ : ∃ o, ops1[0]? = some o := ⟨ops1[0], by simp [hsz]⟩
  obtain ⟨ro0, hop0, hgd0, hds0, hdst0⟩ := hf.2 0 o0 _ ho0 rfl
  obtain ⟨z0, hz0, hzc⟩ := comp_nextI hop0
  have hd1 : d1 = false := no_draw hops1 0 o0 (by simpa using ho0) (by rw [hz0]; rfl)
  subst hd1
  obtain ⟨hmb, hst, l', hl', hka, hrm⟩ := h.map
  have hR := PostI.relI h.r0 h.post
  have hib : w.heap[ey.blk]? = some (.mapIter (some em.blk) M.gh.2 seen M.gh.2) := hR.2.blk _ _ _ h.iter h.y
  have hev : a.eval z0 = .pointer (some ⟨ey.blk, 0, none⟩) := by
    have := h.T.eval hzc
    simp only [ev] at this
    rw [hI] at this
    obtain ⟨e, he, hv⟩ := ptr_inv this
    rw [h.y] at he; cases he
    rw [hv, h.off]
  have hnlt : U.tN < nt := by rw [← hdst0] at hds0; simpa [compDst] using hds0
  refine wpIn_seq (wpIn_region ?_)
  have hr2 : List.range ops1.size = 0 :: (List.range' 1 1 ++ []) := by rw [hsz]; rfl
  rw [hr2]
  have rest : ∀ (b : Bool) (T1 : List Value) (A1 : Hp) (a1 : Act) (w1 : World), RelT E.lab φ nt T1 a1.tmps → PostI E φ0 st0.A w0 g φ A1 w1 → (∃ vs, tget T1 U.tN = .tuple ⟨.bool b :: vs⟩) →
      (∀ (a2 : Act) (w2 : World), RelT E.lab φ nt (tset T1 U.tO (.bool b)) a2.tmps → a2.defers = a1.defers → PostI E φ0 st0.A w0 g φ A1 w2 →
        ((Code.seq (.cond z y1 (.exit U.bL)) (.block U.b1 x)).wpIn (fence ro) 0 E.P (Exit.then Qn Q)) a2 w2) →
      wpOpsIn (fence ro) 0 E.P ops1 (Exit.then ((Code.seq (.cond z y1 (.exit U.bL)) (.block U.b1 x)).wpIn (fence ro) 0 E.P (Exit.then Qn Q)) (Exit.then Qn Q)) (List.range' 1 1 ++ []) a1 w1 := by
    rintro b T1 A1 a1 w1 hT1 hP1 ⟨vs, hvs⟩ hnext
    have hR1 := PostI.relI h.r0 hP1
    refine text_to (g := g) (lim := A1.n) (j0 := 1) (n := 2) (st := fun i => if i = 1 then (T1, A1) else (tset T1 U.tO (.bool b), A1)) hcv hk hf (Nat.le_refl _) ?_ (Nat.le_refl _) 1 1 (Nat.le_refl _) rfl φ a1 w1 hT1 hR1.2 ro [] _ ?_
    · intro i o h1 h2 hio
      have : i = 1 := by omega
      subst this
      cases hio
      exact .inl ⟨rfl, rfl, .bool b, by simp [opA, ev, hvs, extractA, pureV], rfl⟩
    · intro φ' a2 w2 hT2 hP2 hd2
      have hdom : ∀ x e, φ' x = some e → φ x = some e := fun x e hx => by
        rcases hP2.dom x e hx with h | h
        · exact h
        · have : (A1.n : Nat) ≤ x ∧ x < A1.n := h
          omega
      have hφ : φ' = φ := by
        funext x
        cases hx : φ' x with
        | some e => rw [hdom x e hx]
        | none =>
          cases hx1 : φ x with
          | none => rfl
          | some e => have := hP2.ext x e hx1; rw [hx] at this; cases this
      subst hφ
      exact hnext a2 w2 hT2 hd2 (PostI.trans h.r0 hP1 hP2)
  have hput : ∀ {v v' : Value} {w1 : World}, RelV E.lab φ v v' → RelT E.lab φ nt (tset st.T U.tN v) (a.put o0.dst v').tmps := fun hv => by
    have := h.T.put hds0 hv
    rw [← hdst0] at this ⊢
    exact this
  have hg0 : compGuard nt ops1.toList o0.guard = some none := hgd0
  rcases next_run (P := E.P) o0.type ey.blk em.blk M.gh.2 seen M.gh.1 hib hmb hst.1 with ⟨hno, w1, hrun, hh, henv⟩ | ⟨e, he, w1, hrun, hh, henv⟩
  ·
    have hnil : left = [] := by
      obtain ⟨q, hq, hqm⟩ := h.left
      have h1 := hqm.length
      have h2 := hq.length_eq
      have : (leftOf M.gh.1 seen).toList.length = 0 := by simpa using hno
      exact List.eq_nil_of_length_eq_zero (by omega)
    refine one_wp (ao := ⟨some U.tN, none, [], .nextI (.t U.tI)⟩) ho0 hg0 rfl h.T (by rw [hz0]; exact next_no) (v' := .tuple #[.bool false]) (w' := w1) (by simp [execOp, hz0, hev, hrun]) ?_
    have hv : RelV E.lab φ (.tuple ⟨[.bool false]⟩) (.tuple #[.bool false]) := RelL.tuple (RelL.cons (.bool _) RelL.nil)
    refine rest false _ st.A _ w1 (hput (w1 := w1) hv) (h.post.alike hh henv) ⟨[], by simp⟩ fun a2 w2 hT2 hd2 hP2 => ?_
    refine wpIn_seq ?_
    have hc : a2.eval z = .bool false := by
      have := hT2.eval hz
      simp only [ev, tget_tset, if_true] at this
      exact bool_inv this
    refine wpIn_cond_false hc (wpIn_exit ?_)
    exact hover hnil a2 w2 hT2 (by rw [hd2, put_defers]) hP2
  ·
    obtain ⟨q, hq, hqm⟩ := h.left
    have hperm := left_step hst.2.1 he
    obtain ⟨q2, hq2, hqm2⟩ := hqm.perm hperm
    cases hqm2 with
    | @cons k v left' _ _ hek hfl hrv hqm3 =>
    have hpl : left.Perm ((k, v) :: left') := hq.symm.trans hq2
    have hev2 : (Instr.next (a.eval z0) false o0.type).run E.P w = .ok (.tuple #[.bool true, k, e.val]) w1 := by rw [hev, hrun, hek]
    refine one_wp (ao := ⟨some U.tN, none, [], .nextI (.t U.tI)⟩) ho0 hg0 rfl h.T (by rw [hz0]; exact next_no) (v' := .tuple #[.bool true, k, e.val]) (w' := w1) (by simp [execOp, hz0, hev2]) ?_
    have hv : RelV E.lab φ (.tuple ⟨[.bool true, k, v]⟩) (.tuple #[.bool true, k, e.val]) := RelL.tuple (RelL.cons (.bool _) (RelL.cons (relV_flat hfl) (RelL.cons hrv RelL.nil)))
    have hP1 : PostI E φ0 st0.A w0 g φ (st.A.set M.y (some (.iter (some em.blk, M.gh.2, seen.push e.born, M.gh.2)))) w1 := by
      have hwl := h.post.rel.wf _ _ h.y
      have hn : φ0 M.y = none := by
        cases hx : φ0 M.y with
        | none => rfl
        | some e => have := h.r0.1 _ _ hx; have := h.y0; omega
      refine Post.alike (Post.obj (o := .mapIter (some em.blk) M.gh.2 (seen.push e.born) M.gh.2) h.post h.y h.iter rfl (.inl hn) fun b' hb' => ?_) hh henv
      cases hb'
      exact ⟨rfl, World.putObj_heap_same hwl⟩
    refine rest true _ _ _ w1 (hput (w1 := w1) hv) hP1 ⟨[k, v], by simp⟩ fun a2 w2 hT2 hd2 hP2 => ?_
    refine wpIn_seq ?_
    have hc : a2.eval z = .bool true := by
      have := hT2.eval hz
      simp only [ev, tget_tset, if_true] at this
      exact bool_inv this
    refine wpIn_cond_true hc ?_
    have hgo : (Exit.then ((Code.block U.b1 x).wpIn (fence ro) 0 E.P (Exit.then Qn Q)) (Exit.then Qn Q)) .normal a2 w2 := by
      refine wpIn_block ?_
      refine hstep k v left' e a2 w2 x hpl ?_ hek hfl hrv ⟨_, .refl _, hqm3⟩ hT2 (by rw [hd2, put_defers]) hP2 hx (fun h => by have := htx h; simp only [allText, Bool.and_eq_true] at this; exact this.2.2)
      have : e ∈ (leftOf M.gh.1 seen).toList := he
      exact (mem_left this).1
    rcases comp_skip hy1 with rfl | ⟨l, rfl⟩
    · exact wpIn_skip hgo
    · exact wpIn_label hgo
end
end Go.Ab
namespace Go.Ab
open Go.MapKept
section
variable {E : Env} {K : Nat → Option Spec} {tx : Bool} {g : Nat} {rd : Option Nat} {U : MapCode} {M : MapRun} {left : List (Value × Value)} {T : List Value} {D : List Nat} {A : Hp} {Q : Ex → St → Prop}
theorem SK.retmp {g : Nat} {st : St} {T T' : List Value} {D : List Nat} {A : Hp} (h : SK g st ⟨T, D, A⟩) : SK g st ⟨T', D, A⟩ := h
theorem iter_over (hK : SpecsOk E K) (hI : tget T U.tI = ptrY M.y) (hq : FreeQ M Q .normal ⟨overT U T, D, A⟩) : IterM E tx g rd U M [] ⟨T, D, A⟩ Q := by
  intro nt cc hcc htx st0 φ0 w0 φ a w ro em ey seen h Qc hQ
  refine loopIn_step (round_wp (cv := callV E.AP K (exec E.AP K 0 0)) (callV_sound hK (exec_sound hK 0 0) (exec_keeps hK.keeps 0 0)) (callV_keeps hK.keeps (exec_keeps hK.keeps 0 0)) hcc htx h hI ?_ ?_)
  · intro _ a1 w1 hT hd hP
    show (if U.bL = U.bL then Qc .normal a1 w1 else _)
    rw [if_pos rfl]
    exact hQ .normal ⟨overT U T, D, M.free A⟩ φ a1 w1 hq.2 h.keeps.retmp hT (by rw [hd]; exact h.D) (free_post h.lk h.held h.m hP)
  · intro k v left' e a1 w1 x hp
    have := hp.length_eq
    simp at this
theorem iter_step (hK : SpecsOk E K)
    {R : Value → Value → List (Value × Value) → (Option Nat × Nat × Array Nat × Nat) → List Value → Hp → Prop} {Q1 : Value → Value → List (Value × Value) → (Option Nat × Nat × Array Nat × Nat) → Ex → St → Prop}
    (hne : left ≠ []) (hU : U.tI ≠ U.tN ∧ U.tI ≠ U.tO) (hI : tget T U.tI = ptrY M.y)
    (hops : ∀ k v left' gi, left.Perm ((k, v) :: left') → WO E.AP K g U.ops (stepT U k v T) (A.set M.y (some (.iter gi))) (R k v left' gi))
    (hrest : ∀ k v left' gi T2 A2, left.Perm ((k, v) :: left') → R k v left' gi T2 A2 → CodeM E tx g rd U.rest ⟨T2, D, A2⟩ (Q1 k v left' gi))
    (hkeep : ∀ k v left' gi st', left.Perm ((k, v) :: left') → (Q1 k v left' gi .normal st' ∨ Q1 k v left' gi (.exit U.b1) st') → M.held st'.A ∧ st'.A.get M.y = some (.iter gi))
    (hnext : ∀ k v left' gi st', left.Perm ((k, v) :: left') → (Q1 k v left' gi .normal st' ∨ Q1 k v left' gi (.exit U.b1) st') → IterM E tx g rd U M left' st' Q)
    (hret : ∀ k v left' gi st', left.Perm ((k, v) :: left') → Q1 k v left' gi .ret st' → FreeQ M Q .ret st')
    (hexit : ∀ k v left' gi i st', left.Perm ((k, v) :: left') → i ≠ U.b1 → Q1 k v left' gi (.exit i) st' → FreeQ M (BlkQ U.bL Q) (.exit i) st') : IterM E tx g rd U M left ⟨T, D, A⟩ Q := by
  intro nt cc hcc htx st0 φ0 w0 φ a w ro em ey seen h Qc hQ
  refine loopIn_step (round_wp (cv := callV E.AP K (exec E.AP K 0 0)) (callV_sound hK (exec_sound hK 0 0) (exec_keeps hK.keeps 0 0)) (callV_keeps hK.keeps (exec_keeps hK.keeps 0 0)) hcc htx h hI ?_ ?_)
  · intro h0; exact absurd h0 hne
  intro k v left' e a1 w1 x hp hemem hek hfl hrv hleft hT hd hP hx htxx
  obtain ⟨r2, rs, rfl, hr2, hrs⟩ := comp_seq hx
  obtain ⟨id2, ops2, d2, rfl, hops2, _⟩ := comp_ops hr2
  have hf := formed_of hops2
  have hsz : ops2.size = U.ops.length + 1 := by rw [← hf.1]; simp
  obtain ⟨o0, ho0⟩ : ∃ o, ops2[0]? = some o := ⟨ops2[0], by simp [hsz]⟩
  obtain ⟨ro0, hop0, hgd0, hds0, hdst0⟩ := hf.2 0 o0 _ ho0 rfl
  obtain ⟨z0, hz0, hzc⟩ := comp_entryI hop0
  have hd2 : d2 = false := no_draw hops2 0 o0 (by simpa using ho0) (by rw [hz0]; rfl)
  subst hd2
  obtain ⟨gi, hgi⟩ : ∃ gi, gi = (some em.blk, M.gh.2, seen.push e.born, M.gh.2) := ⟨_, rfl⟩
  rw [← hgi] at hP
  obtain ⟨A1, hA1⟩ : ∃ A1, A1 = A.set M.y (some (.iter gi)) := ⟨_, rfl⟩
  have hset : ∀ y, A1.get y = if y = M.y then some (.iter gi) else A.get y := fun y => by rw [hA1]; exact Hp.get_set h.iter _ y
  replace hP : PostI E φ0 st0.A w0 g φ A1 w1 := by rw [hA1]; exact hP
  have hR := PostI.relI h.r0 hP
  have hmy : M.m ≠ M.y := fun hmy => by
    have h1 := h.held
    have h2 := h.iter
    unfold MapRun.held at h1
    rw [hmy] at h1
    simp only at h1 h2
    rw [h1] at h2; cases h2
  have hgy : A1.get M.y = some (.iter gi) := by rw [hset, if_pos rfl]
  have hib : w1.heap[ey.blk]? = some (.mapIter (some em.blk) M.gh.2 (seen.push e.born) M.gh.2) := by
    have := hR.2.blk _ _ _ hgy h.y
    rw [hgi] at this
    exact this
  have hhm : A1.get M.m = some (.map M.l (some M.gh)) := by rw [hset, if_neg hmy]; exact h.held
  obtain ⟨hmb, hst⟩ : w1.heap[em.blk]? = some (.map M.gh.1 M.gh.2) ∧ Stamped M.gh.1 M.gh.2 := by
    obtain ⟨es, cl, l', h1, h2, h3, h4, h5, h6⟩ := hR.2.blk _ _ _ hhm h.m
    have := h6 _ rfl
    rw [this]
    exact ⟨h1, h2⟩
  have hmn : a1.eval z0 = .pointer (some ⟨ey.blk, 0, none⟩) := by
    have := hT.eval hzc
    simp only [ev, tget_tset, if_neg hU.1, if_neg hU.2] at this
    rw [hI] at this
    obtain ⟨e, he, hv⟩ := ptr_inv this
    rw [h.y] at he; cases he
    rw [hv, h.off]
  have hrun := entry_run (P := E.P) ey.blk em.blk M.gh.2 seen M.gh.1 e hib hmb hemem hst.2.1
  rw [hek] at hrun
  refine wpIn_seq (wpIn_region ?_)
  have hr2' : List.range ops2.size = 0 :: (List.range' 1 U.ops.length ++ []) := by
    rw [hsz, List.append_nil, List.range_eq_range', List.range'_succ]
  rw [hr2']
  have hg0 : compGuard nt ops2.toList o0.guard = some none := hgd0
  refine one_wp (ao := ⟨some U.tE, none, [], .entryI (.t U.tI)⟩) ho0 hg0 rfl hT (by rw [hz0]; exact entry_no) (v' := .tuple #[k, e.val]) (w' := w1) (by simp [execOp, hz0, hmn, hrun]) ?_
  have hv : RelV E.lab φ (.tuple ⟨[k, v]⟩) (.tuple #[k, e.val]) := RelL.tuple (RelL.cons (relV_flat hfl) (RelL.cons hrv RelL.nil))
  have hT1 : RelT E.lab φ nt (stepT U k v T) (a1.put o0.dst (.tuple #[k, e.val])).tmps := by
    have := hT.put hds0 hv
    rw [← hdst0] at this ⊢
    exact this
  obtain ⟨m, d, T2, A2, hop, hR2⟩ := hops k v left' gi hp
  rw [← hA1] at hop
  obtain ⟨s, hs0, hs1, hs2⟩ := opsA_states hop
  have hks := callV_keeps (AP := E.AP) hK.keeps (exec_keeps (AP := E.AP) hK.keeps m d)
  have hAk := opsA_keeps hks hop
  refine text_to (g := g) (lim := A2.n) (j0 := 1) (n := U.ops.length + 1) (st := fun i => s (i - 1)) (callV_sound hK (exec_sound hK m d) (exec_keeps hK.keeps m d)) hks hf (by simp) ?_ (by simp [hs1]) U.ops.length 1 (Nat.le_refl _) (by omega) φ _ w1 (by simp only [Nat.sub_self, hs0]; exact hT1) (by simp only [Nat.sub_self, hs0]; exact hR.at _) ro [] _ ?_
  · intro i o h1 h2 hio
    obtain ⟨j, rfl⟩ : ∃ j, i = j + 1 := ⟨i - 1, by omega⟩
    exact hs2 j o (by simpa using hio)
  intro φ2 a2 w2 hT2 hP2 hd2'
  simp only [Nat.add_sub_cancel, Nat.sub_self, hs0, hs1] at hT2 hP2
  have hP2' : PostI E φ A1 w1 g φ2 A2 w2 := hP2
  have hPa := PostI.trans h.r0 hP hP2'
  refine hrest k v left' gi T2 A2 hp hR2 nt rs hrs (fun h => by have := htxx h; simp only [allText, Bool.and_eq_true] at this; exact this.2) φ2 a2 w2 ro hT2 ?_ (PostI.relI hR hP2') (h.rd.mono hP2'.ext) _ ?_
  · rw [hd2', put_defers, hd]; exact h.D.mono hP2'.ext
  intro ex st' φ3 a3 w3 hq hsk hT3 hD3 hP3
  have hPall := PostI.trans h.r0 hPa hP3
  have hm3 : φ3 M.m = some em := hP3.ext _ _ (hP2'.ext _ _ h.m)
  have hy3 : φ3 M.y = some ey := hP3.ext _ _ (hP2'.ext _ _ h.y)
  have hext : Ext φ φ3 := hP2'.ext.trans hP3.ext
  have keeps : M.held st'.A → SK g st0 ⟨st'.T, st'.D, M.free st'.A⟩ := fun hh' => free_keeps (A2 := A2) (T2 := T2) h.keeps h.held h.y0 h.iter (b := some (.iter gi)) (by rw [← hA1]; exact hAk) hsk hh'
  have again : (Q1 k v left' gi .normal st' ∨ Q1 k v left' gi (.exit U.b1) st') → LoopIn (fence ro) 0 E.P cc (Exit.inBlock U.bL Qc) a3 w3 := fun hq => by
    obtain ⟨hh', hy'⟩ := hkeep k v left' gi st' hp hq
    refine hnext k v left' gi st' hp hq nt _ hcc htx st0 φ0 w0 φ3 a3 w3 ro em ey (seen.push e.born) ⟨h.r0, h.y0, hT3, hD3, h.rd.mono hext, hPall, keeps hh', hm3, hy3, h.off, hh', by rw [hy', hgi], ?_, h.lk⟩ Qc hQ
    obtain ⟨q, k1, k2⟩ := hleft
    exact ⟨q, k1, k2.mono hext⟩
  cases ex with
  | normal => exact again (.inl hq)
  | exit i =>
    show (if i = U.b1 then _ else _)
    by_cases hi : i = U.b1
    · subst hi
      rw [if_pos rfl]; exact again (.inr hq)
    · rw [if_neg hi]
      obtain ⟨hh', hq'⟩ := hexit k v left' gi i st' hp hi hq
      show (if i = U.bL then Qc .normal a3 w3 else Qc (.exit i) a3 w3)
      simp only [BlkQ] at hq'
      split at hq'
      · rename_i hb
        rw [if_pos hb]
        exact hQ .normal ⟨st'.T, st'.D, M.free st'.A⟩ φ3 a3 w3 hq' (keeps hh') hT3 hD3 (free_post h.lk hh' hm3 hPall)
      · rename_i hb
        rw [if_neg hb]
        exact hQ (.exit i) ⟨st'.T, st'.D, M.free st'.A⟩ φ3 a3 w3 hq' (keeps hh') hT3 hD3 (free_post h.lk hh' hm3 hPall)
  | ret =>
    obtain ⟨hh', hq'⟩ := hret k v left' gi st' hp hq
    exact hQ .ret ⟨st'.T, st'.D, M.free st'.A⟩ φ3 a3 w3 hq' (keeps hh') hT3 hD3 (free_post h.lk hh' hm3 hPall)
end
end Go.Ab
