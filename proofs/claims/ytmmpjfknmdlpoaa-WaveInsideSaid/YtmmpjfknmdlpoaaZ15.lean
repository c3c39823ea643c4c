/- sail: crossing, and the closures' walks. -/
import Derived.Test.YtmmpjfknmdlpoaaZ14
set_option linter.unusedSimpArgs false
set_option linter.unusedVariables false
set_option linter.unusedSectionVars false
namespace Go.Ab.Wave
open Go Go.Ab
structure Par where
  up : Bool
  w : Int
  h : Int
  s : Int
  sl : Value
  l : List (Int × Int)
  slo : Int
  shi : Int
  k0 : Int
  k1 : Int
  l0 : Int
  l1 : Int
  o0 : Int
  o1 : Int
def rF (b : Bool) : Value := .func (.func (if b then 67 else 65)) ⟨[]⟩ ⟨[]⟩
def dF (b : Bool) : Value := .func (.func (if b then 68 else 86)) ⟨[]⟩ ⟨[]⟩
def rt (b : Bool) (n : Int) : Int := if b then rootUpI n else rootI n
def dv (b : Bool) (x y : Int) : Int := if b then upI x y else x.tdiv y
def ofE (b : Bool) (lo hi : Int) : Int := if b then hi else lo
def agE (b : Bool) (lo hi : Int) : Int := if b then lo else hi
def fourthE (b : Bool) (d : Int) : Int := rt b (rt b (d * 1099511627776))
def endV (b : Bool) : Value := .agg ⟨[rF b, dF b, rF (!b), .bool b]⟩
def spn (a b : Int) : Value := .agg ⟨[.int .i64 a, .int .i64 b]⟩
def rowS1 (r n : Nat) : Value := .slice (some ⟨r, 0, some 1⟩) n n
def shCells (P : Par) (ra rs ru rl : Nat) : List Value :=
  [rF P.up, dF P.up, rF (!P.up), .bool P.up, .int .i64 P.w, .int .i64 P.h, .int .i64 P.s, P.sl, .int .i64 P.slo, .int .i64 P.shi, .int .i64 P.k0, .int .i64 P.k1, .int .i64 P.l0, .int .i64 P.l1, .int .i64 P.o0, .int .i64 P.o1,
   rowS1 ra P.l.length, rowS1 rs P.l.length, rowS1 ru P.l.length, rowS1 rl P.l.length]
structure POk (P : Par) : Prop where
  chk : checkG P.w P.h P.s P.l = 0
  sea : -20000 ≤ P.slo ∧ P.slo ≤ P.shi ∧ P.shi ≤ 20000
  keep : 1 ≤ P.k0 ∧ P.k0 ≤ P.k1 ∧ P.k1 ≤ 1024
  land : 10 ≤ P.l0 ∧ P.l0 ≤ P.l1 ∧ P.l1 ≤ 100000
  loss : 0 ≤ P.o0 ∧ P.o0 ≤ P.o1 ∧ P.o1 ≤ 1000
  small : P.l.length ≤ 40
def Par.glo (P : Par) (c : Nat) : Int := gi (flat2 P.l) (c * 2)
def Par.ghi (P : Par) (c : Nat) : Int := gi (flat2 P.l) (c * 2 + 1)
def Par.dep (P : Par) (c : Nat) : Int := ofE P.up P.slo P.shi - agE P.up (P.glo c) (P.ghi c)
def Par.lst (P : Par) (c : Nat) : Int := agE P.up P.slo P.shi - ofE P.up (P.glo c) (P.ghi c)
theorem POk.ground {P : Par} (h : POk P) {c : Nat} (hc : c < P.l.length) : -1200000 ≤ P.glo c ∧ P.glo c ≤ P.ghi c ∧ P.ghi c ≤ 1200000 := by
  obtain ⟨p, hp, e1, e2⟩ := flat2_lo hc
  have := check_ok h.chk p hp
  unfold Par.glo Par.ghi
  rw [e1, e2]; omega
theorem POk.dep {P : Par} (h : POk P) {c : Nat} (hc : c < P.l.length) : -1220000 ≤ P.dep c ∧ P.dep c ≤ 1220000 := by
  have := h.ground hc
  have := h.sea
  unfold Par.dep ofE agE
  cases P.up <;> simp <;> omega
theorem POk.lst {P : Par} (h : POk P) {c : Nat} (hc : c < P.l.length) : -1220000 ≤ P.lst c ∧ P.lst c ≤ 1220000 := by
  have := h.ground hc
  have := h.sea
  unfold Par.lst ofE agE
  cases P.up <;> simp <;> omega
theorem POk.cells {P : Par} (h : POk P) : P.l.length ≤ 576 ∧ (P.l.length : Int) = P.w * P.h := by
  obtain ⟨hw, hh, hs, hl⟩ := check_parts h.chk
  have m1 : P.w * P.h ≤ 24 * 24 := Int.mul_le_mul (by omega) (by omega) (by omega) (by omega)
  exact ⟨by omega, hl⟩
structure Sheet (A : Hp) (P : Par) (X ra rs ru rl : Nat) (ar st su la : List Int) : Prop where
  hx : A.get X = some (.cells (shCells P ra rs ru rl) false)
  ha : A.get ra = some (.cells (ints ar) false)
  hs : A.get rs = some (.cells (ints st) false)
  hu : A.get ru = some (.cells (ints su) false)
  hl : A.get rl = some (.cells (ints la) false)
  na : ar.length = P.l.length
  ns : st.length = P.l.length
  nu : su.length = P.l.length
  nl : la.length = P.l.length
  hg : groundOf A P.sl = some P.l
  ord : ra < rs ∧ rs < ru ∧ ru < rl ∧ rl < X
  sep : ∀ x o k n c, P.sl = .slice (some ⟨x, o, k⟩) n c → x < ra
theorem Sheet.ext {A A' : Hp} {P : Par} {X ra rs ru rl : Nat} {ar st su la : List Int} (h : Sheet A P X ra rs ru rl ar st su la) (e : Ext' A A') : Sheet A' P X ra rs ru rl ar st su la :=
  ⟨e.get h.hx, e.get h.ha, e.get h.hs, e.get h.hu, e.get h.hl, h.na, h.ns, h.nu, h.nl, groundOf_mono h.hg e.2, h.ord, h.sep⟩
theorem Sheet.low {A A' : Hp} {P : Par} {X ra rs ru rl : Nat} {ar st su la : List Int} (h : Sheet A P X ra rs ru rl ar st su la) (e : ∀ x, x < X + 1 → A'.get x = A.get x) : Sheet A' P X ra rs ru rl ar st su la := by
  have o := h.ord
  refine ⟨(e X (by omega)).trans h.hx, (e ra (by omega)).trans h.ha, (e rs (by omega)).trans h.hs, (e ru (by omega)).trans h.hu, (e rl (by omega)).trans h.hl, h.na, h.ns, h.nu, h.nl, ?_, h.ord, h.sep⟩
  have hg := h.hg
  unfold groundOf at hg ⊢
  split at hg
  · exact hg
  · rename_i x n cap _
    rw [e x (by have := h.sep x _ _ _ _ (by assumption); omega)]
    exact hg
  · cases hg
theorem ground_set {A : Hp} {sl : Value} {l : List (Int × Int)} {r : Nat} {b : Option ABlk} (hr : r < A.n) (hs : ∀ x o k n c, sl = .slice (some ⟨x, o, k⟩) n c → x ≠ r) (h : groundOf A sl = some l) : groundOf (A.set r b) sl = some l := by
  unfold groundOf at h ⊢
  split at h
  · exact h
  · rename_i x n cap
    rw [get_set_ne hr (hs x _ _ _ _ rfl)]
    exact h
  · cases h
section
variable {A : Hp} {P : Par} {X ra rs ru rl : Nat} {ar st su la v : List Int}
theorem Sheet.putA (h : Sheet A P X ra rs ru rl ar st su la) (hv : v.length = P.l.length) : Sheet (A.set ra (some (.cells (ints v) false))) P X ra rs ru rl v st su la := by
  have o := h.ord
  have hr := Hp.lt_of_get h.ha
  have q : ∀ x, x ≠ ra → (A.set ra (some (.cells (ints v) false))).get x = A.get x := fun x hx => get_set_ne hr hx
  exact ⟨(q X (by omega)).trans h.hx, get_set_same h.ha, (q rs (by omega)).trans h.hs, (q ru (by omega)).trans h.hu, (q rl (by omega)).trans h.hl, hv, h.ns, h.nu, h.nl, ground_set hr (fun x _ _ _ _ e => by have := h.sep x _ _ _ _ e; omega) h.hg, h.ord, h.sep⟩
theorem Sheet.putS (h : Sheet A P X ra rs ru rl ar st su la) (hv : v.length = P.l.length) : Sheet (A.set rs (some (.cells (ints v) false))) P X ra rs ru rl ar v su la := by
  have o := h.ord
  have hr := Hp.lt_of_get h.hs
  have q : ∀ x, x ≠ rs → (A.set rs (some (.cells (ints v) false))).get x = A.get x := fun x hx => get_set_ne hr hx
  exact ⟨(q X (by omega)).trans h.hx, (q ra (by omega)).trans h.ha, get_set_same h.hs, (q ru (by omega)).trans h.hu, (q rl (by omega)).trans h.hl, h.na, hv, h.nu, h.nl, ground_set hr (fun x _ _ _ _ e => by have := h.sep x _ _ _ _ e; omega) h.hg, h.ord, h.sep⟩
theorem Sheet.putU (h : Sheet A P X ra rs ru rl ar st su la) (hv : v.length = P.l.length) : Sheet (A.set ru (some (.cells (ints v) false))) P X ra rs ru rl ar st v la := by
  have o := h.ord
  have hr := Hp.lt_of_get h.hu
  have q : ∀ x, x ≠ ru → (A.set ru (some (.cells (ints v) false))).get x = A.get x := fun x hx => get_set_ne hr hx
  exact ⟨(q X (by omega)).trans h.hx, (q ra (by omega)).trans h.ha, (q rs (by omega)).trans h.hs, get_set_same h.hu, (q rl (by omega)).trans h.hl, h.na, h.ns, hv, h.nl, ground_set hr (fun x _ _ _ _ e => by have := h.sep x _ _ _ _ e; omega) h.hg, h.ord, h.sep⟩
theorem Sheet.putL (h : Sheet A P X ra rs ru rl ar st su la) (hv : v.length = P.l.length) : Sheet (A.set rl (some (.cells (ints v) false))) P X ra rs ru rl ar st su v := by
  have o := h.ord
  have hr := Hp.lt_of_get h.hl
  have q : ∀ x, x ≠ rl → (A.set rl (some (.cells (ints v) false))).get x = A.get x := fun x hx => get_set_ne hr hx
  exact ⟨(q X (by omega)).trans h.hx, (q ra (by omega)).trans h.ha, (q rs (by omega)).trans h.hs, (q ru (by omega)).trans h.hu, get_set_same h.hl, h.na, h.ns, h.nu, hv, ground_set hr (fun x _ _ _ _ e => by have := h.sep x _ _ _ _ e; omega) h.hg, h.ord, h.sep⟩
end
theorem rt_le {b : Bool} {n r : Int} (h0 : 0 ≤ n) (hr : 0 ≤ r) (h : n ≤ r * r) : rt b n ≤ r := by
  have low : rootI n ≤ r := by
    have := rootI_spec h0
    by_cases h' : r < rootI n
    · have := Int.mul_le_mul (show r + 1 ≤ rootI n by omega) (show r + 1 ≤ rootI n by omega) (by omega) (by omega)
      have e : (r + 1) * (r + 1) = r * r + 2 * r + 1 := by rw [Int.add_mul, Int.mul_add]; omega
      omega
    · omega
  unfold rt
  cases b
  · simpa using low
  · simp only [if_true, rootUpI]
    split
    · exact hr
    · rename_i hn
      have := rootI_spec (n := n - 1) (by omega)
      by_cases h' : r ≤ rootI (n - 1)
      · have := Int.mul_le_mul h' h' hr (by omega)
        omega
      · omega
theorem le_rt {b : Bool} {n r : Int} (h0 : 0 ≤ n) (hr : 0 ≤ r) (h : r * r ≤ n) : r ≤ rt b n := by
  have low : r ≤ rootI n := by
    have := rootI_spec h0
    by_cases h' : rootI n < r
    · have := Int.mul_le_mul (show rootI n + 1 ≤ r by omega) (show rootI n + 1 ≤ r by omega) (by omega) (by omega)
      omega
    · omega
  unfold rt
  cases b
  · simpa using low
  · simp only [if_true, rootUpI]
    split
    · rename_i hn
      subst hn
      have := rootI_spec (n := 0) (by omega)
      by_cases h' : r = 0
      · omega
      · have := Int.mul_le_mul (show 1 ≤ r by omega) (show 1 ≤ r by omega) (by omega) (by omega)
        omega
    · rename_i hn
      have := rootI_spec (n := n - 1) (by omega)
      by_cases h' : rootI (n - 1) + 1 < r
      · have := Int.mul_le_mul (show rootI (n - 1) + 1 ≤ r - 1 by omega) (show rootI (n - 1) + 1 ≤ r - 1 by omega) (by omega) (by omega)
        have e : (r - 1) * (r - 1) = r * r - 2 * r + 1 := by rw [Int.sub_mul, Int.mul_sub]; omega
        omega
      · omega
theorem fourth_bounds {b : Bool} {d : Int} (h1 : 1 ≤ d) (h2 : d ≤ 1220000) : (1048576 ≤ rt b (d * 1099511627776) ∧ rt b (d * 1099511627776) ≤ 1158676480) ∧ 1024 ≤ fourthE b d ∧ fourthE b d ≤ 34040 := by
  have a1 : 1048576 ≤ rt b (d * 1099511627776) := le_rt (by omega) (by omega) (by omega)
  have a2 : rt b (d * 1099511627776) ≤ 1158676480 := rt_le (by omega) (by omega) (by omega)
  exact ⟨⟨a1, a2⟩, le_rt (by omega) (by omega) (by omega), rt_le (by omega) (by omega) (by omega)⟩
section
variable {g : Nat} {A : Hp} {V : Value → Hp → Prop}
theorem wRoot {b : Bool} {n : Int} (hn0 : 0 ≤ n) (hn : n < 2305843009213693952) (hQ : V (.int .i64 (rt b n)) A) : WF AP KL g (if b then 67 else 65) [.int .i64 n] A V := by
  cases b
  · exact w65 hn0 hn hQ
  · exact w67 hn0 hn hQ
theorem wDiv {b : Bool} {x y : Int} (hx : 0 ≤ x) (hx' : x < 4000000000000000000) (hy : 0 < y) (hy' : y < 4000000000000000000) (hQ : V (.int .i64 (dv b x y)) A) : WF AP KL g (if b then 68 else 86) [.int .i64 x, .int .i64 y] A V := by
  cases b
  · exact w86 hx (by omega) hy hQ
  · exact w68 hx hx' hy hy' hQ
theorem shl40 {d : Int} (h1 : 1 ≤ d) (h2 : d ≤ 1220000) : binA .shl (.int .i64 d) (.int .u64 40) = some (.int .i64 (d * 1099511627776)) := by
  have e : shA true .i64 d 40 = some (.int .i64 (wr .i64 (d * 2 ^ (Min.min (40 : Int).toNat IntKind.i64.bits)))) := by rw [wr_eq]; rfl
  show shA true .i64 d 40 = _
  rw [e]
  have : (2 : Int) ^ (Min.min (40 : Int).toNat IntKind.i64.bits) = 1099511627776 := by decide
  rw [this, wrId (by omega) (by omega)]
theorem w88 {b : Bool} {d : Int} (h1 : 1 ≤ d) (h2 : d ≤ 1220000) (hQ : V (.int .i64 (fourthE b d)) A) : WF AP KL g 88 [rF b, .int .i64 d] A V := by
  obtain ⟨⟨a1, a2⟩, _⟩ := fourth_bounds (b := b) h1 h2
  rw [WF_body rfl (show AP 88 = some F88 from rfl)]
  simp (disch := as_aux_lemma => first | omega | simp only [hDs] <;> omega | simp [isCell]) [hRs, takeMarks, resA, resAll, resOne, Value.cells, rF, shl40 h1 h2]
  refine wRoot (by omega) (by omega) ?_
  simp (disch := as_aux_lemma => first | omega | simp only [hDs] <;> omega | simp [isCell]) [hRs, takeMarks, resA, resAll, resOne, Value.cells]
  refine wRoot (by omega) (by omega) ?_
  simp (disch := as_aux_lemma => first | omega | simp only [hDs] <;> omega | simp [isCell]) [hRs, takeMarks, resA, resAll, resOne, Value.cells]
  exact hQ
theorem w90 {b : Bool} {lo hi : Int} (hQ : ∀ A', Ext' A A' → V (.int .i64 (agE b lo hi)) A') : WF AP KL g 90 [endV b, spn lo hi] A V := by
  rw [WF_body rfl (show AP 90 = some F90 from rfl)]
  cases b
  · simp (disch := as_aux_lemma => first | omega | simp only [hDs] <;> omega | simp [isCell]) [hRs, takeMarks, resA, resAll, resOne, Value.cells, endV, spn]
    exact hQ _ ((Ext'.push _ _).trans (Ext'.push _ _))
  · simp (disch := as_aux_lemma => first | omega | simp only [hDs] <;> omega | simp [isCell]) [hRs, takeMarks, resA, resAll, resOne, Value.cells, endV, spn]
    exact hQ _ ((Ext'.push _ _).trans (Ext'.push _ _))
theorem w91 {b : Bool} {lo hi : Int} (hQ : ∀ A', Ext' A A' → V (.int .i64 (ofE b lo hi)) A') : WF AP KL g 91 [endV b, spn lo hi] A V := by
  rw [WF_body rfl (show AP 91 = some F91 from rfl)]
  cases b
  · simp (disch := as_aux_lemma => first | omega | simp only [hDs] <;> omega | simp [isCell]) [hRs, takeMarks, resA, resAll, resOne, Value.cells, endV, spn]
    exact hQ _ ((Ext'.push _ _).trans (Ext'.push _ _))
  · simp (disch := as_aux_lemma => first | omega | simp only [hDs] <;> omega | simp [isCell]) [hRs, takeMarks, resA, resAll, resOne, Value.cells, endV, spn]
    exact hQ _ ((Ext'.push _ _).trans (Ext'.push _ _))
section
variable {P : Par} {X ra rs ru rl : Nat} {ar st su la : List Int} {c : Nat}
theorem wrDep (hP : POk P) (hc : c < P.l.length) : wr .i64 (ofE P.up P.slo P.shi - agE P.up (gi (flat2 P.l) (c * 2)) (gi (flat2 P.l) (c * 2 + 1))) = P.dep c := by
  have hd : -1220000 ≤ ofE P.up P.slo P.shi - agE P.up (gi (flat2 P.l) (c * 2)) (gi (flat2 P.l) (c * 2 + 1)) ∧ ofE P.up P.slo P.shi - agE P.up (gi (flat2 P.l) (c * 2)) (gi (flat2 P.l) (c * 2 + 1)) ≤ 1220000 := hP.dep hc
  rw [wrId (by omega) (by omega)]; rfl
theorem wrLst (hP : POk P) (hc : c < P.l.length) : wr .i64 (agE P.up P.slo P.shi - ofE P.up (gi (flat2 P.l) (c * 2)) (gi (flat2 P.l) (c * 2 + 1))) = P.lst c := by
  have hd : -1220000 ≤ agE P.up P.slo P.shi - ofE P.up (gi (flat2 P.l) (c * 2)) (gi (flat2 P.l) (c * 2 + 1)) ∧ agE P.up P.slo P.shi - ofE P.up (gi (flat2 P.l) (c * 2)) (gi (flat2 P.l) (c * 2 + 1)) ≤ 1220000 := hP.lst hc
  rw [wrId (by omega) (by omega)]; rfl
theorem w87 (hS : Sheet A P X ra rs ru rl ar st su la) (hP : POk P) (hc : c < P.l.length) (hQ : ∀ A', Ext' A A' → V (.int .i64 (P.dep c)) A') : WF AP KL g 87 [.pointer (some ⟨X, 0, none⟩), .int .i64 c] A V := by
  obtain ⟨x, xc, xr, hsl, hx⟩ := (rd_ground hS.hg).at hc
  have hgl : (flat2 P.l).length = P.l.length * 2 := flat2_length _
  have hX := hS.hx
  rw [WF_body rfl (show AP 87 = some F87 from rfl)]
  simp (disch := as_aux_lemma => first | omega | simp only [hDs] <;> omega | simp [isCell]) [hRs, takeMarks, resA, resAll, resOne, Value.cells, hX, shCells]
  refine w91 fun A1 e1 => ?_
  simp (disch := as_aux_lemma => first | omega | simp only [hDs] <;> omega | simp [isCell]) [hRs, takeMarks, resA, resAll, resOne, Value.cells, e1.get hX, shCells, hsl, idxSA_ok, hc, e1.get hx, ints_two, hgl]
  refine w90 fun A2 e2 => ?_
  simp (disch := as_aux_lemma => first | omega | simp only [hDs] <;> omega | simp [isCell]) [hRs, takeMarks, resA, resAll, resOne, Value.cells, wrDep hP hc]
  exact hQ A2 (e1.trans e2)
theorem w66 (hS : Sheet A P X ra rs ru rl ar st su la) (hP : POk P) (hc : c < P.l.length) (hQ : ∀ A', Ext' A A' → V (.int .i64 (P.lst c)) A') : WF AP KL g 66 [.pointer (some ⟨X, 0, none⟩), .int .i64 c] A V := by
  obtain ⟨x, xc, xr, hsl, hx⟩ := (rd_ground hS.hg).at hc
  have hgl : (flat2 P.l).length = P.l.length * 2 := flat2_length _
  have hX := hS.hx
  rw [WF_body rfl (show AP 66 = some F66 from rfl)]
  simp (disch := as_aux_lemma => first | omega | simp only [hDs] <;> omega | simp [isCell]) [hRs, takeMarks, resA, resAll, resOne, Value.cells, hX, shCells]
  refine w90 fun A1 e1 => ?_
  simp (disch := as_aux_lemma => first | omega | simp only [hDs] <;> omega | simp [isCell]) [hRs, takeMarks, resA, resAll, resOne, Value.cells, e1.get hX, shCells, hsl, idxSA_ok, hc, e1.get hx, ints_two, hgl]
  refine w91 fun A2 e2 => ?_
  simp (disch := as_aux_lemma => first | omega | simp only [hDs] <;> omega | simp [isCell]) [hRs, takeMarks, resA, resAll, resOne, Value.cells, wrLst hP hc]
  exact hQ A2 (e1.trans e2)
theorem w63 (hS : Sheet A P X ra rs ru rl ar st su la) (hP : POk P) (hc : c < P.l.length) (hQ : ∀ A', Ext' A A' → V (.bool (decide (1 ≤ P.dep c))) A') : WF AP KL g 63 [.pointer (some ⟨X, 0, none⟩), .int .i64 c] A V := by
  rw [WF_body rfl (show AP 63 = some F63 from rfl)]
  simp (disch := as_aux_lemma => first | omega | simp only [hDs] <;> omega | simp [isCell]) [hRs, takeMarks, resA, resAll, resOne, Value.cells]
  refine w87 hS hP hc fun A1 e1 => ?_
  simp (disch := as_aux_lemma => first | omega | simp only [hDs] <;> omega | simp [isCell]) [hRs, takeMarks, resA, resAll, resOne, Value.cells]
  exact hQ A1 e1
theorem w103 (hS : Sheet A P X ra rs ru rl ar st su la) (hP : POk P) (hc : c < P.l.length) (hQ : ∀ A', Ext' A A' → V (.bool (decide (P.lst c ≤ 0))) A') : WF AP KL g 103 [.pointer (some ⟨X, 0, none⟩), .int .i64 c] A V := by
  rw [WF_body rfl (show AP 103 = some F103 from rfl)]
  simp (disch := as_aux_lemma => first | omega | simp only [hDs] <;> omega | simp [isCell]) [hRs, takeMarks, resA, resAll, resOne, Value.cells]
  refine w66 hS hP hc fun A1 e1 => ?_
  simp (disch := as_aux_lemma => first | omega | simp only [hDs] <;> omega | simp [isCell]) [hRs, takeMarks, resA, resAll, resOne, Value.cells]
  exact hQ A1 e1
def Par.under (P : Par) (c : Nat) : Int := if P.up then max 1 (P.lst c) else P.lst c
def Par.rise (P : Par) (st : List Int) (c : Nat) : Int := dv P.up (gi st c) (fourthE (!P.up) (P.under c))
theorem w64 (hS : Sheet A P X ra rs ru rl ar st su la) (hP : POk P) (hc : c < P.l.length) (hd : 1 ≤ P.under c) (hst : 0 ≤ gi st c ∧ gi st c ≤ 200000000) (hQ : ∀ A', Ext' A A' → V (.int .i64 (P.rise st c)) A') : WF AP KL g 64 [.pointer (some ⟨X, 0, none⟩), .int .i64 c] A V := by
  have hX := hS.hx
  have hl := hP.lst hc
  have hu2 : P.under c ≤ 1220000 := by unfold Par.under; split <;> omega
  obtain ⟨_, f1, f2⟩ := fourth_bounds (b := !P.up) hd hu2
  have hns := hS.ns
  rw [WF_body rfl (show AP 64 = some F64 from rfl)]
  simp (disch := as_aux_lemma => first | omega | simp only [hDs] <;> omega | simp [isCell]) [hRs, takeMarks, resA, resAll, resOne, Value.cells]
  refine w66 hS hP hc fun A1 e1 => ?_
  have hX1 := e1.get hX
  have hs1 := e1.get hS.hs
  cases hup : P.up
  · have hu : P.under c = P.lst c := by simp [Par.under, hup]
    rw [hu, hup] at f1 f2
    simp (disch := as_aux_lemma => first | omega | simp only [hDs] <;> omega | simp [isCell]) [hRs, takeMarks, resA, resAll, resOne, Value.cells, hX1, shCells, hup, rowS1, idxSA_ok, hc, hs1, ints_get, hns]
    refine w88 (b := !false) (by rw [hu] at hd; omega) (by omega) ?_
    simp (disch := as_aux_lemma => first | omega | simp only [hDs] <;> omega | simp [isCell]) [hRs, takeMarks, resA, resAll, resOne, Value.cells, dF]
    refine wDiv (b := false) (by omega) (by omega) (by simp at f1 ⊢; omega) (by simp at f2 ⊢; omega) ?_
    simp (disch := as_aux_lemma => first | omega | simp only [hDs] <;> omega | simp [isCell]) [hRs, takeMarks, resA, resAll, resOne, Value.cells]
    have := hQ A1 e1
    simpa [Par.rise, hu, hup] using this
  · have hu : P.under c = max 1 (P.lst c) := by simp [Par.under, hup]
    rw [hu, hup] at f1 f2
    simp (disch := as_aux_lemma => first | omega | simp only [hDs] <;> omega | simp [isCell]) [hRs, takeMarks, resA, resAll, resOne, Value.cells, hX1, shCells, hup, rowS1, idxSA_ok, hc, hs1, ints_get, hns]
    refine w88 (b := !true) (by omega) (by omega) ?_
    simp (disch := as_aux_lemma => first | omega | simp only [hDs] <;> omega | simp [isCell]) [hRs, takeMarks, resA, resAll, resOne, Value.cells, dF]
    refine wDiv (b := true) (by omega) (by omega) (by simp at f1 ⊢; omega) (by simp at f2 ⊢; omega) ?_
    simp (disch := as_aux_lemma => first | omega | simp only [hDs] <;> omega | simp [isCell]) [hRs, takeMarks, resA, resAll, resOne, Value.cells]
    have := hQ A1 e1
    simpa [Par.rise, hu, hup] using this
end
end
end Go.Ab.Wave
namespace Go.Ab.Wave
open Go Go.Ab
theorem gi_set {l : List Int} {i j : Nat} {v : Int} (hi : i < l.length) : gi (l.set i v) j = if j = i then v else gi l j := by
  unfold gi
  by_cases h : j = i
  · subst h; simp [hi]
  · simp [List.getElem?_set, Ne.symm h, h]
structure Stl where
  n : Nat
  rv : Nat
  rl : Nat
  stepF : Value
  neg : Bool
  lf : Bool
  sp : Nat → Nat → Int → Int × Bool
  Inv : List Int → List Int → Hp → Prop
  Val : Nat → Int → Prop
  nb : Nat → List Nat
  rank : Int → Nat
  G : List Int → Prop
def Stl.key (S : Stl) (v : Int) : Int := if S.neg then -v else v
def Stl.lup (S : Stl) (la : List Int) (a b : Nat) (v : Int) : List Int := if S.lf && (S.sp a b v).2 then la.set b (max (gi la b) (S.sp a b v).1) else la
inductive Stl.Der (S : Stl) (vs0 : List Int) : Nat → Int → Prop
  | init {b : Nat} (hb : b < S.n) : S.Der vs0 b (gi vs0 b)
  | step {a b : Nat} {v : Int} (ha : a < S.n) (h : S.Der vs0 a v) (hb : b ∈ S.nb a) (hs : (S.sp a b v).2 = true) : S.Der vs0 b (S.sp a b v).1
def Stl.Cl (S : Stl) (vs la : List Int) (c d : Nat) : Prop :=
  (S.sp c d (gi vs c)).2 = true → ¬ S.key (S.sp c d (gi vs c)).1 < S.key (gi vs d) ∧ (S.lf = true → (S.sp c d (gi vs c)).1 ≤ gi la d)
def Stl.LandJ (S : Stl) (vs0 la0 la : List Int) : Prop := ∀ b, b < S.n → gi la b = gi la0 b ∨ ∃ a v, a < S.n ∧ S.Der vs0 a v ∧ b ∈ S.nb a ∧ (S.sp a b v).2 = true ∧ gi la b = (S.sp a b v).1
def Stl.pot (S : Stl) (vs : List Int) : Nat := (vs.map S.rank).sum
structure StlNb (S : Stl) : Prop where
  lt : ∀ a b, b ∈ S.nb a → b < S.n
  ne : ∀ a b, b ∈ S.nb a → b ≠ a
  val : ∀ a b v w, a < S.n → b ∈ S.nb a → S.Val a v → (S.sp a b v).2 = true → S.Val b w → S.key (S.sp a b v).1 < S.key w → S.Val b (S.sp a b v).1
  glob : ∀ vs a b, vs.length = S.n → (∀ x, x < S.n → S.Val x (gi vs x)) → S.G vs → a < S.n → b ∈ S.nb a → (S.sp a b (gi vs a)).2 = true → S.key (S.sp a b (gi vs a)).1 < S.key (gi vs b) →
    S.G (vs.set b (S.sp a b (gi vs a)).1) ∧ S.rank (S.sp a b (gi vs a)).1 < S.rank (gi vs b)
structure Stl.Mid (S : Stl) (vs0 la0 vs la : List Int) (q : List Nat) : Prop where
  nv : vs.length = S.n
  nl : la.length = S.n
  val : ∀ b, b < S.n → S.Val b (gi vs b)
  der : ∀ b, b < S.n → S.Der vs0 b (gi vs b)
  land : S.LandJ vs0 la0 la
  qlt : ∀ c, c ∈ q → c < S.n
  glob : S.G vs
  imp : ∀ b, b < S.n → S.key (gi vs b) ≤ S.key (gi vs0 b)
  lge : ∀ b, gi la0 b ≤ gi la b
def Stl.Open (S : Stl) (vs la : List Int) (q : List Nat) (c0 : Option Nat) (done : List Nat) : Prop :=
  ∀ c, c < S.n → c ∉ q → ∀ d, d ∈ S.nb c → (c0 = some c → d ∈ done) → S.Cl vs la c d
theorem sum_set {f : Int → Nat} : ∀ {l : List Int} {i : Nat} {v : Int}, i < l.length → f v < f (gi l i) → ((l.set i v).map f).sum < (l.map f).sum
  | x :: l, 0, v, _, h => by
    have : f v < f x := h
    simp only [List.set_cons_zero, List.map_cons, List.sum_cons]; omega
  | x :: l, i + 1, v, hi, h => by
    have := sum_set (f := f) (l := l) (i := i) (v := v) (by simpa using hi) h
    simp only [List.set_cons_succ, List.map_cons, List.sum_cons]; omega
def Stl.better (S : Stl) (vs : List Int) (a b : Nat) : Bool := (S.sp a b (gi vs a)).2 && decide (S.key (S.sp a b (gi vs a)).1 < S.key (gi vs b))
def Stl.vs1 (S : Stl) (vs : List Int) (a b : Nat) : List Int := if S.better vs a b then vs.set b (S.sp a b (gi vs a)).1 else vs
def Stl.q1 (S : Stl) (vs : List Int) (q : List Nat) (a b : Nat) : List Nat := if S.better vs a b then q ++ [b] else q
theorem Stl.Mid.edge {S : Stl} {vs0 la0 vs la : List Int} {q : List Nat} (N : StlNb S) (h : S.Mid vs0 la0 vs la q) {a b : Nat} (ha : a < S.n) (hb : b ∈ S.nb a) :
    S.Mid vs0 la0 (S.vs1 vs a b) (S.lup la a b (gi vs a)) (S.q1 vs q a b) ∧ 2 * S.pot (S.vs1 vs a b) + (S.q1 vs q a b).length ≤ 2 * S.pot vs + q.length := by
  have hbn := N.lt a b hb
  have hla : gi la b = gi la0 b ∨ _ := h.land b hbn
  have hland : S.LandJ vs0 la0 (S.lup la a b (gi vs a)) := by
    intro x hx
    unfold Stl.lup
    split
    · rename_i hc
      simp only [Bool.and_eq_true] at hc
      rw [gi_set (by rw [h.nl]; exact hbn)]
      split
      · rename_i hxb
        subst hxb
        by_cases hm : (S.sp a x (gi vs a)).1 ≤ gi la x
        · rw [Int.max_eq_left hm]; exact h.land x hx
        · rw [Int.max_eq_right (by omega)]
          exact .inr ⟨a, gi vs a, ha, h.der a ha, hb, hc.2, rfl⟩
      · exact h.land x hx
    · exact h.land x hx
  have hnl : (S.lup la a b (gi vs a)).length = S.n := by
    unfold Stl.lup; split
    · rw [List.length_set]; exact h.nl
    · exact h.nl
  have hlge : ∀ x, gi la0 x ≤ gi (S.lup la a b (gi vs a)) x := fun x => by
    have := h.lge x
    unfold Stl.lup; split
    · rw [gi_set (by rw [h.nl]; exact hbn)]
      split
      · rename_i hd; subst hd; omega
      · omega
    · omega
  unfold Stl.vs1 Stl.q1
  by_cases hbt : S.better vs a b = true
  · simp only [hbt, if_true]
    have hbt' := hbt
    simp only [Stl.better, Bool.and_eq_true, decide_eq_true_eq] at hbt'
    have hv := N.val a b _ _ ha hb (h.val a ha) hbt'.1 (h.val b hbn) hbt'.2
    refine ⟨⟨by rw [List.length_set]; exact h.nv, hnl, fun x hx => ?_, fun x hx => ?_, hland, fun c hc => ?_, (N.glob vs a b h.nv h.val h.glob ha hb hbt'.1 hbt'.2).1, fun x hx => ?_, hlge⟩, ?_⟩
    · rw [gi_set (by rw [h.nv]; exact hbn)]
      split
      · rename_i hxb; subst hxb; exact hv
      · exact h.val x hx
    · rw [gi_set (by rw [h.nv]; exact hbn)]
      split
      · rename_i hxb; subst hxb; exact .step ha (h.der a ha) hb hbt'.1
      · exact h.der x hx
    · rcases List.mem_append.1 hc with h' | h'
      · exact h.qlt c h'
      · simp at h'; subst h'; exact hbn
    · rw [gi_set (by rw [h.nv]; exact hbn)]
      split
      · rename_i hxb; subst hxb; have := h.imp x hx; omega
      · exact h.imp x hx
    · have := sum_set (f := S.rank) (l := vs) (i := b) (v := (S.sp a b (gi vs a)).1) (by rw [h.nv]; exact hbn) (N.glob vs a b h.nv h.val h.glob ha hb hbt'.1 hbt'.2).2
      rw [List.length_append]
      unfold Stl.pot
      simp only [List.length_singleton]
      omega
  · simp only [hbt, Bool.false_eq_true, if_false]
    exact ⟨⟨h.nv, hnl, h.val, h.der, hland, h.qlt, h.glob, h.imp, hlge⟩, Nat.le_refl _⟩
theorem Stl.Open.edge {S : Stl} {vs0 la0 vs la : List Int} {q : List Nat} {done : List Nat} (N : StlNb S) (h : S.Mid vs0 la0 vs la q) {a b : Nat} (ha : a < S.n) (hb : b ∈ S.nb a) (ho : S.Open vs la q (some a) done) :
    S.Open (S.vs1 vs a b) (S.lup la a b (gi vs a)) (S.q1 vs q a b) (some a) (done ++ [b]) := by
  have hbn := N.lt a b hb
  have hne := N.ne a b hb
  have hlup : ∀ d, gi la d ≤ gi (S.lup la a b (gi vs a)) d := fun d => by
    unfold Stl.lup; split
    · rw [gi_set (by rw [h.nl]; exact hbn)]
      split
      · rename_i hd; subst hd; omega
      · omega
    · omega
  intro c hc hq d hd hdone
  have hq' : c ∉ q := fun hm => hq (by unfold Stl.q1; split <;> simp [hm])
  by_cases hbt : S.better vs a b = true
  · have hcb : c ≠ b := fun e => hq (by unfold Stl.q1; rw [if_pos hbt]; simp [e])
    have hvc : gi (S.vs1 vs a b) c = gi vs c := by
      unfold Stl.vs1; rw [if_pos hbt, gi_set (by rw [h.nv]; exact hbn), if_neg hcb]
    intro hs
    rw [hvc] at hs ⊢
    have hbt' := hbt
    simp only [Stl.better, Bool.and_eq_true, decide_eq_true_eq] at hbt'
    by_cases hac : c = a ∧ d = b
    · obtain ⟨rfl, rfl⟩ := hac
      refine ⟨?_, fun hl => ?_⟩
      · unfold Stl.vs1; rw [if_pos hbt, gi_set (by rw [h.nv]; exact hbn), if_pos rfl]; omega
      · unfold Stl.lup; rw [if_pos (by simp [hl, hs]), gi_set (by rw [h.nl]; exact hbn), if_pos rfl]; omega
    · have hcl := ho c hc hq' d hd (fun e => by
        have e' : a = c := by simpa using e
        have := hdone e
        rcases List.mem_append.1 this with h' | h'
        · exact h'
        · simp at h'; exact absurd ⟨e'.symm, h'⟩ hac) hs
      refine ⟨?_, fun hl => Int.le_trans (hcl.2 hl) (hlup d)⟩
      unfold Stl.vs1
      rw [if_pos hbt, gi_set (by rw [h.nv]; exact hbn)]
      split
      · rename_i hdb; subst hdb; have := hcl.1; omega
      · exact hcl.1
  · have hv : S.vs1 vs a b = vs := by unfold Stl.vs1; rw [if_neg hbt]
    rw [hv]
    intro hs
    by_cases hac : c = a ∧ d = b
    · obtain ⟨rfl, rfl⟩ := hac
      refine ⟨fun hk => hbt (by simp [Stl.better, hs, hk]), fun hl => ?_⟩
      unfold Stl.lup; rw [if_pos (by simp [hl, hs]), gi_set (by rw [h.nl]; exact hbn), if_pos rfl]; omega
    · have hcl := ho c hc hq' d hd (fun e => by
        have e' : a = c := by simpa using e
        have := hdone e
        rcases List.mem_append.1 this with h' | h'
        · exact h'
        · simp at h'; exact absurd ⟨e'.symm, h'⟩ hac) hs
      exact ⟨hcl.1, fun hl => Int.le_trans (hcl.2 hl) (hlup d)⟩
theorem Stl.Open.pop {S : Stl} {vs la : List Int} {q : List Nat} {c : Nat} (h : S.Open vs la (c :: q) none []) : S.Open vs la q (some c) [] := by
  intro x hx hq d hd hdone
  by_cases hxc : x = c
  · subst hxc
    have := hdone rfl
    cases this
  · exact h x hx (by simp [hxc, hq]) d hd (fun e => by cases e)
theorem Stl.Open.shut {S : Stl} {vs la : List Int} {q : List Nat} {c : Nat} (h : S.Open vs la q (some c) (S.nb c)) : S.Open vs la q none [] := by
  intro x hx hq d hd _
  refine h x hx hq d hd (fun e => ?_)
  have : c = x := by simpa using e
  subst this
  exact hd
structure StlMono (S : Stl) : Prop where
  mono : ∀ a b u v, a < S.n → b ∈ S.nb a → S.key v ≤ S.key u → (S.sp a b u).2 = true → (S.sp a b v).2 = true ∧ S.key (S.sp a b v).1 ≤ S.key (S.sp a b u).1
end Go.Ab.Wave
namespace Go.Ab.Wave
open Go Go.Ab
def body95r : ACode := (.block 5
 (.seq
 (.ops [
oL 37 7,
oL 38 10,
oM 39 11,
oL 40 4,
oL 41 10,
oI 42 40 41 1,
oL 43 42,
oP 44 (.call (.t 37) [.t 38, .t 39, .t 43] false),
oM 36 44,
oX 45 36 0,
oX 46 36 1,
oM 12 45,
oM 13 46])
 (.seq
 (.ops [
oM 47 13,
oM 48 47,
oQ 49 48 true (.load (.t 6) none),
oN 50 48 true 12,
oQ 51 48 true (.load (.t 4) none),
oN 52 48 true 11,
oQ 53 48 true (.idxS (.t 51) (.t 52) 1),
oQ 54 48 true (.load (.t 53) none),
oQ 55 48 true (.call (.t 49) [.t 50, .t 54] false),
oP 56 (.pick (.t 48) (.t 55) (.k (.bool false)))])
 (.cond (.t 56)
 (.seq
 (.ops [
oL 57 4,
oM 58 11,
oM 59 12,
oI 60 57 58 1,
oT 60 59 1])
 (.ops [
oL 61 8,
oM 62 11,
oP 63 (.slit 1 1 [.int .i64 0] [(0, .t 62)]),
oP 64 (.append (.t 61) (.t 63) 1 8),
oT 8 64 1]))
 .skip))))
def asg95 : ACode := .ops [oM 11 35]
def cmpF (neg : Bool) : Value := .func (.func (if neg then 100 else 97)) ⟨[]⟩ ⟨[]⟩
structure StlOk (S : Stl) (P : Par) (X N0 g : Nat) : Prop where
  nb : StlNb S
  hn : S.n = P.l.length
  nbs : ∀ c, c < S.n → S.nb c = (nbrs P.w P.h c).map Int.toNat
  pok : POk P
  isF : ∃ f x y, S.stepF = .func f x y
  vals : ∀ vs la A, S.Inv vs la A → A.get S.rv = some (.cells (ints vs) false)
  grid : ∀ vs la A, S.Inv vs la A → (∃ xc, A.get X = some (.cells xc false) ∧ partA xc 4 (some 4) = some (gridV P.w P.h P.s P.sl)) ∧ groundOf A P.sl = some P.l
  rv : S.rv < N0
  rl : S.rl < N0
  X : X < N0
  hg : g ≤ S.rv ∧ g ≤ N0
  keep : ∀ vs la A A', S.Inv vs la A → (∀ x, x < N0 → A'.get x = A.get x) → A.n ≤ A'.n → S.Inv vs la A'
  put : ∀ vs la A d v, S.Inv vs la A → d < S.n → vs.length = S.n → S.Inv (vs.set d v) la (A.set S.rv (some (.cells (ints (vs.set d v)) false)))
  step : ∀ (a b : Nat) (vs la : List Int) (A : Hp) (V : Value → Hp → Prop), S.Inv vs la A → a < S.n → b ∈ S.nb a → S.Val a (gi vs a) → vs.length = S.n → la.length = S.n → N0 ≤ A.n →
    (∀ A', Keep (fun x => x = S.rl) A A' → S.Inv vs (S.lup la a b (gi vs a)) A' → V (.tuple ⟨[.int .i64 (S.sp a b (gi vs a)).1, .bool (S.sp a b (gi vs a)).2]⟩) A') →
    WV AP KL g S.stepF [.int .i64 a, .int .i64 b, .int .i64 (gi vs a)] A V
def QS (N0 N1 N2 : Nat) (A : Hp) (q : List Nat) (sv : Value) : Prop :=
  ∃ b o c cs, sv = .slice (some ⟨b, o, some 1⟩) q.length c ∧ A.get b = some (.cells cs false) ∧ cs.drop o = ints (q.map fun (x : Nat) => (x : Int)) ∧ o + q.length = cs.length ∧ N0 + 4 ≤ b ∧ (b < N1 ∨ N2 ≤ b)
structure LI (S : Stl) (N0 N1 N2 : Nat) (vs la : List Int) (q : List Nat) (sv : Value) (A : Hp) : Prop where
  inv : S.Inv vs la A
  b4 : A.get N0 = some (.cells [rowS1 S.rv S.n] false)
  b6 : A.get (N0 + 1) = some (.cells [cmpF S.neg] false)
  b7 : A.get (N0 + 2) = some (.cells [S.stepF] false)
  b8 : A.get (N0 + 3) = some (.cells [sv] false)
  qs : QS N0 N1 N2 A q sv
theorem setRange_ints {vs : List Int} {d : Nat} {v : Int} (h : d < vs.length) : setRange (ints vs) d [.int .i64 v] = ints (vs.set d v) := by
  unfold setRange ints
  apply List.ext_getElem?
  intro i
  rw [List.getElem?_map, List.getElem?_set]
  by_cases h1 : i < d
  · rw [List.append_assoc, List.getElem?_append_left (by simp; omega), List.getElem?_take]
    simp [h1, show ¬ d = i by omega]
  · by_cases h2 : i = d
    · subst h2
      simp [List.getElem?_append, h, Nat.min_eq_left (Nat.le_of_lt h)]
    · rw [List.getElem?_append_right (by simp; omega)]
      simp [show ¬ d = i by omega, Nat.min_eq_left (Nat.le_of_lt h), show d + 1 + (i - (d + 1)) = i by omega]
theorem QS.add {N0 N1 N2 g : Nat} {A : Hp} {q : List Nat} {sv : Value} {d : Nat} (h : QS N0 N1 N2 A q sv) (hg : g ≤ N0) (h2 : N2 ≤ A.n) (h0 : N0 + 4 ≤ A.n) (hlen : q.length < 8000000000000) :
    ∃ sv' A', appendA g (A.push (.cells [.int .i64 (d : Int)] false)) 1 8 sv (.slice (some ⟨A.n, 0, some 1⟩) 1 1) = some (sv', A') ∧ QS N0 N1 N2 A' (q ++ [d]) sv' ∧ A.n ≤ A'.n ∧
      (∀ x, x < A.n → (x < N0 + 4 ∨ (N1 ≤ x ∧ x < N2)) → A'.get x = A.get x) ∧ (∀ x, A.get x = some .marks → A'.get x = some .marks) ∧ (∃ p n c, sv' = .slice p n c) := by
  obtain ⟨b, o, c, cs, rfl, hb, hd, hl, h4, h5⟩ := h
  have hbn := Hp.lt_of_get hb
  have hb' : (A.push (.cells [.int .i64 (d : Int)] false)).get b = some (.cells cs false) := by rw [get_push_old hbn]; exact hb
  have hc : cellsAt (A.push (.cells [.int .i64 (d : Int)] false)) (1 * 1) (.slice (some ⟨A.n, 0, some 1⟩) 1 1) = some [.int .i64 (d : Int)] := by
    simp only [cellsAt, get_push_new]
    simp
  refine ⟨.slice (some ⟨A.n + 1, 0, some 1⟩) (q.length + 1) (q.length + 1), ((A.push (.cells [.int .i64 (d : Int)] false)).set b none).push (.cells (cs.drop o ++ [.int .i64 (d : Int)]) false), ?_, ?_, by simp; omega, ?_, ?_, _, _, _, rfl⟩
  · unfold appendA
    simp only [hc]
    rw [if_pos ⟨by simp [isCell], by decide⟩]
    simp only [if_neg (show ¬ (1 = 0) by decide), hb']
    rw [if_pos ⟨by omega, by unfold room; omega, by unfold room; omega, trivial⟩, if_pos (by omega)]
    simp
  · refine ⟨A.n + 1, 0, q.length + 1, cs.drop o ++ [.int .i64 (d : Int)], by simp, by rw [get_push_eq (by simp)], ?_, ?_, by omega, .inr (by omega)⟩
    · rw [List.drop_zero, hd, List.map_append, ints_append]; rfl
    · have hdl : (cs.drop o).length = q.length := by rw [List.length_drop]; omega
      simp only [List.length_append, hdl, List.length_singleton]
      omega
  · intro x hxn hne
    have hxb : x ≠ b := by omega
    rw [get_push_old (by simp; omega), get_set_ne (by simp; omega) hxb, get_push_old hxn]
  · intro x hx
    have hxn := Hp.lt_of_get hx
    have hxb : x ≠ b := fun e => by subst e; rw [hb] at hx; cases hx
    rw [get_push_old (by simp; omega), get_set_ne (by simp; omega) hxb, get_push_old hxn]
    exact hx
end Go.Ab.Wave
namespace Go.Ab.Wave
open Go Go.Ab
section
variable {S : Stl} {P : Par} {X N0 N1 N2 g : Nat} {vs la vs0 la0 : List Int} {q : List Nat} {sv : Value} {A : Hp} {V : Value → Hp → Prop}
theorem LI.keep {A' : Hp} (hS : StlOk S P X N0 g) (h : LI S N0 N1 N2 vs la q sv A) (hA : ∀ x cs, A.get x = some (.cells cs false) → A'.get x = some (.cells cs false)) (hlow : ∀ x, x < N0 → A'.get x = A.get x) (hn : A.n ≤ A'.n) : LI S N0 N1 N2 vs la q sv A' := by
  obtain ⟨b, o, c, cs, e1, e2, e3, e4, e5, e6⟩ := h.qs
  exact ⟨hS.keep _ _ _ _ h.inv hlow hn, hA _ _ h.b4, hA _ _ h.b6, hA _ _ h.b7, hA _ _ h.b8, b, o, c, cs, e1, hA _ _ e2, e3, e4, e5, e6⟩
theorem wCmp {neg : Bool} {u v : Int} (hQ : V (.bool (decide ((if neg then -u else u) < (if neg then -v else v)))) A) : WV AP KL g (cmpF neg) [.int .i64 u, .int .i64 v] A V := by
  cases neg
  · unfold cmpF
    simp (disch := as_aux_lemma => first | omega | simp only [hDs] <;> omega | simp [isCell]) [hRs, takeMarks, resA, resAll, resOne, Value.cells, WF_body (K := KL) rfl (show AP 97 = some F97 from rfl)]
    simpa using hQ
  · unfold cmpF
    simp (disch := as_aux_lemma => first | omega | simp only [hDs] <;> omega | simp [isCell]) [hRs, takeMarks, resA, resAll, resOne, Value.cells, WF_body (K := KL) rfl (show AP 100 = some F100 from rfl)]
    have : decide (v < u) = decide (-u < -v) := by
      by_cases h : v < u
      · simp [h]
      · simp [h]
    rw [this]
    simpa using hQ
theorem y95 {L B10 c d : Nat} {T0 : List Value} (hS : StlOk S P X N0 g) (hI : LI S N0 N1 N2 vs la q sv A) (hM : S.Mid vs0 la0 vs la q) (hL : A.get L = some (recL T0 [35] asg95 body95r)) (hLN : N1 ≤ L ∧ L < N2) (hN : N0 + 4 ≤ N1) (hN2 : N2 ≤ A.n)
    (h10 : A.get B10 = some (.cells [.int .i64 (c : Int)] false)) (hB : N1 ≤ B10 ∧ B10 < N2) (t4 : tget T0 4 = .pointer (some ⟨N0, 0, none⟩)) (t6 : tget T0 6 = .pointer (some ⟨N0 + 1, 0, none⟩)) (t7 : tget T0 7 = .pointer (some ⟨N0 + 2, 0, none⟩)) (t8 : tget T0 8 = .pointer (some ⟨N0 + 3, 0, none⟩))
    (t10 : tget T0 10 = .pointer (some ⟨B10, 0, none⟩)) (hc : c < S.n) (hd : d ∈ S.nb c) (hq : q.length < 8000000000000)
    (hQ : ∀ A' sv', LI S N0 N1 N2 (S.vs1 vs c d) (S.lup la c d (gi vs c)) (S.q1 vs q c d) sv' A' → A'.get L = some (recL T0 [35] asg95 body95r) → A.n ≤ A'.n → (∀ x, N1 ≤ x → x < N2 → x ≠ L → A'.get x = A.get x) → (∀ x, N0 + 4 ≤ x → A.get x = some .marks → A'.get x = some .marks) → V (.bool true) A') :
    WV AP KL g (.func (.yield L) #[] #[]) [.int .i64 (d : Int)] A V := by
  have hgN := hS.hg.2
  have hdn := hS.nb.lt c d hd
  refine WV_yield hL (by omega) ?_
  have hLn := Hp.lt_of_get hL
  obtain ⟨R, hR⟩ : ∃ R : ABlk, R = .loop { state := .busy, pending := none, tmps := T0, params := [35], assign := .ops [oM 11 35], body := body95r } := ⟨_, rfl⟩
  rw [← hR]
  obtain ⟨B, hBe⟩ : ∃ B, B = A.set L (some R) := ⟨_, rfl⟩
  rw [← hBe]
  have hBn : B.n = A.n := by rw [hBe]; rfl
  have hBo : ∀ x, x ≠ L → B.get x = A.get x := fun x hx => by rw [hBe, get_set_ne hLn hx]
  have hBL : B.get L = some R := by rw [hBe, get_set_same hL]
  have hBI : LI S N0 N1 N2 vs la q sv B := hI.keep hS (fun x cs hx => by rw [hBo x (fun e => by subst e; rw [hL] at hx; cases hx)]; exact hx) (fun x hx => hBo x (by omega)) (by omega)
  have hB10 : B.get B10 = some (.cells [.int .i64 (c : Int)] false) := by rw [hBo B10 (fun e => by subst e; rw [hL] at h10; cases h10)]; exact h10
  have b4 := hBI.b4
  have b6 := hBI.b6
  have b7 := hBI.b7
  have b8 := hBI.b8
  have brv := hS.vals _ _ _ hBI.inv
  have hvn : vs.length = S.n := hM.nv
  simp (disch := as_aux_lemma => first | omega | simp only [hDs] <;> omega | simp [isCell]) [hRs, takeMarks, resA, resAll, resOne, Value.cells, body95r, t7, t10, t4, b7, hB10, b4, rowS1, idxSA_ok, hc, brv, ints_get, hvn]
  refine hS.step c d vs la B _ hBI.inv hc hd (hM.val c hc) hvn hM.nl (by omega) fun A1 k1 i1 => ?_
  have hrl := hS.rl
  have o1 : ∀ x, N0 ≤ x → x < B.n → A1.get x = B.get x := fun x h1 h2 => k1.2 x h2 (by omega)
  have n1 := k1.1
  have hA1I : LI S N0 N1 N2 vs (S.lup la c d (gi vs c)) q sv A1 := by
    obtain ⟨b, o, cc, cs, e1, e2, e3, e4, e5, e6⟩ := hBI.qs
    exact ⟨i1, (o1 _ (by omega) (Hp.lt_of_get b4)).trans b4, (o1 _ (by omega) (Hp.lt_of_get b6)).trans b6, (o1 _ (by omega) (Hp.lt_of_get b7)).trans b7, (o1 _ (by omega) (Hp.lt_of_get b8)).trans b8, b, o, cc, cs, e1, (o1 _ (by omega) (Hp.lt_of_get e2)).trans e2, e3, e4, e5, e6⟩
  have a4 := hA1I.b4
  have a6 := hA1I.b6
  have a8 := hA1I.b8
  have arv := hS.vals _ _ _ i1
  have aL : A1.get L = some R := (o1 L (by omega) (by omega)).trans hBL
  have mk1 : ∀ x, N0 + 4 ≤ x → A.get x = some .marks → A1.get x = some .marks := fun x h0 hx => by
    have hxL : x ≠ L := fun e => by subst e; rw [hL] at hx; cases hx
    have := (hBo x hxL).trans hx
    exact (o1 x (by omega) (Hp.lt_of_get this)).trans this
  have fin : ¬ S.better vs c d = true → A1.get L = some (.loop { state := .busy, pending := none, tmps := T0, params := [35], assign := .ops [oM 11 35], body := body95r }) ∧ V (.bool true) (A1.set L (some (recL T0 [35] asg95 body95r))) := fun hbt => by
    refine ⟨by rw [aL, hR], ?_⟩
    have e1 : S.vs1 vs c d = vs := by simp [Stl.vs1, hbt]
    have e2 : S.q1 vs q c d = q := by simp [Stl.q1, hbt]
    rw [e1, e2] at hQ
    obtain ⟨A5, hA5⟩ : ∃ A5, A5 = A1.set L (some (recL T0 [35] asg95 body95r)) := ⟨_, rfl⟩
    have hLn1 := Hp.lt_of_get aL
    have o6 : ∀ x, x ≠ L → A5.get x = A1.get x := fun x hx => by rw [hA5, get_set_ne hLn1 hx]
    have n5 : A5.n = A1.n := by rw [hA5]; rfl
    have hA5I := hA1I.keep (A' := A5) hS (fun x cs hx => by rw [o6 x (fun e => by subst e; rw [aL, hR] at hx; cases hx)]; exact hx) (fun x hx => o6 x (by omega)) (by omega)
    have := hQ A5 _ hA5I (by rw [hA5, get_set_same aL]) (by omega) (fun x h1 h2 h3 => by rw [o6 x h3, o1 x (by omega) (by omega), hBo x h3]) (fun x h0 hx => by
      have hxL : x ≠ L := fun e => by subst e; rw [hL] at hx; cases hx
      rw [o6 x hxL]; exact mk1 x h0 hx)
    rw [hA5] at this
    exact this
  by_cases hsp : (S.sp c d (gi vs c)).2 = true
  · simp (disch := as_aux_lemma => first | omega | simp only [hDs] <;> omega | simp [isCell]) [hRs, takeMarks, resA, resAll, resOne, Value.cells, hsp, t6, t4, a6, a4, rowS1, idxSA_ok, hdn, arv, ints_get, hvn]
    refine wCmp ?_
    by_cases hk : S.key (S.sp c d (gi vs c)).1 < S.key (gi vs d)
    · have hbt : S.better vs c d = true := by simp [Stl.better, hsp, hk]
      have hk' : decide ((if S.neg then -(S.sp c d (gi vs c)).1 else (S.sp c d (gi vs c)).1) < (if S.neg then -(gi vs d) else gi vs d)) = true := by
        simp only [decide_eq_true_eq]; exact hk
      have hgr := hS.hg.1
      simp (disch := as_aux_lemma => first | omega | simp only [hDs] <;> omega | simp [isCell]) [hRs, takeMarks, resA, resAll, resOne, Value.cells, hk', t4, a4, rowS1, idxSA_ok, hdn, arv, storeB_cells, hvn, setRange_ints]
      obtain ⟨A2, hA2⟩ : ∃ A2, A2 = A1.set S.rv (some (.cells (ints (vs.set d (S.sp c d (gi vs c)).1)) false)) := ⟨_, rfl⟩
      rw [← hA2]
      have hrv := hS.rv
      have hrvn := Hp.lt_of_get arv
      have n2 : A2.n = A1.n := by rw [hA2]; rfl
      have o2 : ∀ x, x ≠ S.rv → A2.get x = A1.get x := fun x hx => by rw [hA2, get_set_ne hrvn hx]
      have i2 := hS.put _ _ _ d (S.sp c d (gi vs c)).1 i1 hdn hvn
      rw [← hA2] at i2
      have c8 := (o2 (N0 + 3) (by omega)).trans a8
      have hq2 : QS N0 N1 N2 A2 q sv := by
        obtain ⟨b, o, cc, cs, e1, e2, e3, e4, e5, e6⟩ := hA1I.qs
        exact ⟨b, o, cc, cs, e1, (o2 b (by omega)).trans e2, e3, e4, e5, e6⟩
      obtain ⟨sv', A3, ea, hq3, n3, o3, mk3, p, nn, cc, rfl⟩ := hq2.add (g := g) (d := d) hgN (by omega) (by omega) hq
      have d8 := (o3 (N0 + 3) (by omega) (.inl (by omega))).trans c8
      simp (disch := as_aux_lemma => first | omega | simp only [hDs] <;> omega | simp [isCell]) [hRs, takeMarks, resA, resAll, resOne, Value.cells, t8, c8, slitA, fillA, setRange, ea, d8, storeB_cells, RoundQ]
      obtain ⟨A4, hA4⟩ : ∃ A4, A4 = A3.set (N0 + 3) (some (.cells [.slice p nn cc] false)) := ⟨_, rfl⟩
      rw [← hA4]
      have hb8n := Hp.lt_of_get d8
      have n4 : A4.n = A3.n := by rw [hA4]; rfl
      have o4 : ∀ x, x ≠ N0 + 3 → A4.get x = A3.get x := fun x hx => by rw [hA4, get_set_ne hb8n hx]
      have o5 : ∀ x, x < A1.n → x ≠ S.rv → x ≠ N0 + 3 → (x < N0 + 4 ∨ (N1 ≤ x ∧ x < N2)) → A4.get x = A1.get x := fun x hx h1 h2 h3 => by
        rw [o4 x h2, o3 x (by omega) h3, o2 x h1]
      have eL : A4.get L = some R := (o5 L (by omega) (by omega) (by omega) (.inr hLN)).trans aL
      refine ⟨by rw [eL, hR]; rfl, ?_⟩
      have hlow : ∀ x, x < N0 → A4.get x = A2.get x := fun x hx => by rw [o4 x (by omega), o3 x (by omega) (.inl (by omega))]
      have hA4 : LI S N0 N1 N2 (S.vs1 vs c d) (S.lup la c d (gi vs c)) (S.q1 vs q c d) (.slice p nn cc) A4 := by
        have e1 : S.vs1 vs c d = vs.set d (S.sp c d (gi vs c)).1 := by simp [Stl.vs1, hbt]
        have e2 : S.q1 vs q c d = q ++ [d] := by simp [Stl.q1, hbt]
        rw [e1, e2]
        refine ⟨hS.keep _ _ _ _ i2 hlow (by omega), (o5 _ (by omega) (by omega) (by omega) (.inl (by omega))).trans a4, (o5 _ (by omega) (by omega) (by omega) (.inl (by omega))).trans a6, (o5 _ (by omega) (by omega) (by omega) (.inl (by omega))).trans hA1I.b7, ?_, ?_⟩
        · rw [hA4, get_set_same d8]
        · obtain ⟨b, o, cc', cs, f1, f2, f3, f4, f5, f6⟩ := hq3
          exact ⟨b, o, cc', cs, f1, (o4 b (by omega)).trans f2, f3, f4, f5, f6⟩
      have hLn4 := Hp.lt_of_get eL
      obtain ⟨A5, hA5⟩ : ∃ A5, A5 = A4.set L (some (recL T0 [35] asg95 body95r)) := ⟨_, rfl⟩
      have o6 : ∀ x, x ≠ L → A5.get x = A4.get x := fun x hx => by rw [hA5, get_set_ne hLn4 hx]
      have n5 : A5.n = A4.n := by rw [hA5]; rfl
      have hA5I := hA4.keep (A' := A5) hS (fun x cs hx => by rw [o6 x (fun e => by subst e; rw [eL, hR] at hx; cases hx)]; exact hx) (fun x hx => o6 x (by omega)) (by omega)
      have := hQ A5 _ hA5I (by rw [hA5, get_set_same eL]) (by omega) (fun x h1 h2 h3 => by
        rw [o6 x h3, o5 x (by omega) (by omega) (by omega) (.inr ⟨h1, h2⟩), o1 x (by omega) (by omega), hBo x h3]) (fun x h0 hx => by
          have hxL : x ≠ L := fun e => by subst e; rw [hL] at hx; cases hx
          rw [o6 x hxL, o4 x (by omega)]
          exact mk3 x ((o2 x (by omega)).trans (mk1 x h0 hx)))
      rw [hA5] at this
      exact this
    · have hbt : ¬ S.better vs c d = true := by simp [Stl.better, hsp, hk]
      have hk' : decide ((if S.neg then -(S.sp c d (gi vs c)).1 else (S.sp c d (gi vs c)).1) < (if S.neg then -(gi vs d) else gi vs d)) = false := by
        simp only [decide_eq_false_iff_not]; exact hk
      simp (disch := as_aux_lemma => first | omega | simp only [hDs] <;> omega | simp [isCell]) [hRs, takeMarks, resA, resAll, resOne, Value.cells, hk', RoundQ]
      exact fin hbt
  · have hbt : ¬ S.better vs c d = true := by simp [Stl.better, hsp]
    simp (disch := as_aux_lemma => first | omega | simp only [hDs] <;> omega | simp [isCell]) [hRs, takeMarks, resA, resAll, resOne, Value.cells, hsp, RoundQ]
    exact fin hbt
end
end Go.Ab.Wave
namespace Go.Ab.Wave
open Go Go.Ab
section
variable {S : Stl} {P : Par} {X N0 N1 N2 g : Nat} {vs0 la0 : List Int}
theorem loop109 {A0 : Hp} {L B10 c K0 : Nat} {T0 : List Value} {nv : Value} {D : List Nat} {rd : Option Nat} {Q : Ex → St → Prop} (hS : StlOk S P X N0 g) (hLN : N1 ≤ L ∧ L < N2) (hN : N0 + 4 ≤ N1) (hN2 : N2 ≤ A0.n) (hL0 : A0.get L = some (recL T0 [35] asg95 body95r))
    (h10 : A0.get B10 = some (.cells [.int .i64 (c : Int)] false)) (hB : N1 ≤ B10 ∧ B10 < N2) (t4 : tget T0 4 = .pointer (some ⟨N0, 0, none⟩)) (t6 : tget T0 6 = .pointer (some ⟨N0 + 1, 0, none⟩)) (t7 : tget T0 7 = .pointer (some ⟨N0 + 2, 0, none⟩)) (t8 : tget T0 8 = .pointer (some ⟨N0 + 3, 0, none⟩))
    (t10 : tget T0 10 = .pointer (some ⟨B10, 0, none⟩)) (hc : c < S.n) (hnv : RdS A0 1 (S.nb c).length (ints ((S.nb c).map fun (x : Nat) => (x : Int))) nv) (hnp : ∀ b o k m cc, nv = .slice (some ⟨b, o, k⟩) m cc → N1 ≤ b ∧ b < N2) (hsm : (S.nb c).length < 1000) (hK0 : K0 < 8000000000000)
    (hQ : ∀ T' A' vs la q sv, LI S N0 N1 N2 vs la q sv A' → S.Mid vs0 la0 vs la q → S.Open vs la q (some c) (S.nb c) → 2 * S.pot vs + q.length ≤ K0 → A'.get L = some (recL T0 [35] asg95 body95r) → A0.n ≤ A'.n → (∀ x, N1 ≤ x → x < N2 → x ≠ L → A'.get x = A0.get x) → (∀ x, N0 + 4 ≤ x → A0.get x = some .marks → A'.get x = some .marks) → Q (.exit 0) ⟨T', D, A'⟩) :
    ∀ (k i : Nat) (T : List Value) (A : Hp) (vs la : List Int) (q : List Nat) (sv : Value), i + k = (S.nb c).length → LI S N0 N1 N2 vs la q sv A → S.Mid vs0 la0 vs la q → S.Open vs la q (some c) ((S.nb c).take i) → 2 * S.pot vs + q.length ≤ K0 →
      A.get L = some (recL T0 [35] asg95 body95r) → A0.n ≤ A.n → (∀ x, N1 ≤ x → x < N2 → x ≠ L → A.get x = A0.get x) → (∀ x, N0 + 4 ≤ x → A0.get x = some .marks → A.get x = some .marks) → tget T 0 = .func (.yield L) #[] #[] → tget T 17 = nv → tget T 18 = .int .i64 (S.nb c).length → tget T 19 = .int .i64 i → W AP KL g rd (.loop body109) ⟨T, D, A⟩ Q := by
  intro k
  induction k with
  | zero =>
    intro i T A vs la q sv hi hI hM hO hp hL hn hprot hmk u0 u17 u18 u19
    have : i = (S.nb c).length := by omega
    subst this
    rw [W_loop]
    simp (disch := as_aux_lemma => first | omega | simp only [hDs] <;> omega | simp [isCell]) [hRs, takeMarks, resA, resAll, resOne, Value.cells, body109, u18, u19]
    exact hQ _ _ vs la q sv hI hM (by rw [List.take_length] at hO; exact hO) hp hL hn hprot hmk
  | succ k ih =>
    intro i T A vs la q sv hi hI hM hO hp hL hn hprot hmk u0 u17 u18 u19
    have hil : i < (S.nb c).length := by omega
    have hzl : ((S.nb c).map fun (x : Nat) => (x : Int)).length = (S.nb c).length := List.length_map ..
    obtain ⟨b, cc, ro, rfl, hb⟩ := hnv.at hil
    obtain ⟨p1, p2⟩ := hnp b 0 (some 1) _ _ rfl
    have hbL : b ≠ L := fun e => by subst e; rw [hL0] at hb; cases hb
    have hb' := (hprot b p1 p2 hbL).trans hb
    have hBL : B10 ≠ L := fun e => by subst e; rw [hL0] at h10; cases h10
    have hd : (S.nb c)[i]'hil ∈ S.nb c := List.getElem_mem hil
    have hgi : gi ((S.nb c).map fun (x : Nat) => (x : Int)) i = ((S.nb c)[i]'hil : Nat) := by simp [gi, hil]
    rw [W_loop]
    simp (disch := as_aux_lemma => first | omega | simp only [hDs] <;> omega | simp [isCell]) [hRs, takeMarks, resA, resAll, resOne, Value.cells, body109, u0, u17, u18, u19, show ((i : Int) < ((S.nb c).length : Int)) by omega, idxSA_ok, hil, hb', ints_get, hzl, hgi]
    refine y95 hS hI hM hL hLN hN (by omega) ((hprot B10 hB.1 hB.2 hBL).trans h10) hB t4 t6 t7 t8 t10 hc hd (by omega) fun A' sv' k1 k2 k3 k4 k5 => ?_
    obtain ⟨m1, m2⟩ := hM.edge hS.nb hc hd
    have o1 := hO.edge hS.nb hM hc hd
    rw [← List.take_succ_eq_append_getElem hil] at o1
    simp (disch := as_aux_lemma => first | omega | simp only [hDs] <;> omega | simp [isCell]) [hRs, takeMarks, resA, resAll, resOne, Value.cells, u19]
    exact ih (i + 1) _ A' _ _ _ sv' (by omega) k1 m1 o1 (by omega) k2 (by omega) (fun x h1 h2 h3 => by rw [k4 x h1 h2 h3, hprot x h1 h2 h3]) (fun x h0 hx => k5 x h0 (hmk x h0 hx)) (by simp [u0]) (by simp [u17]) (by simp [u18]) (by simp [u19, wrId (n := (i : Int) + 1) (by omega) (by omega)])
end
end Go.Ab.Wave
namespace Go.Ab.Wave
open Go Go.Ab
theorem takeMarks_all : ∀ (D : List Nat) (A : Hp), D.Nodup → (∀ x, x ∈ D → A.get x = some .marks) → ∃ A', takeMarks A D = some A' ∧ A'.n = A.n ∧ ∀ x, x ∉ D → A'.get x = A.get x
  | [], A, _, _ => ⟨A, rfl, rfl, fun _ _ => rfl⟩
  | y :: D, A, hD, h => by
    have hy := h y (by simp)
    have hyn := Hp.lt_of_get hy
    obtain ⟨hyD, hD'⟩ := List.nodup_cons.1 hD
    obtain ⟨A', h1, h2, h3⟩ := takeMarks_all D (A.set y none) hD' (fun x hx => by rw [get_set_ne hyn (fun e => hyD (e ▸ hx))]; exact h x (by simp [hx]))
    refine ⟨A', by simp only [takeMarks, hy]; exact h1, h2, fun x hx => ?_⟩
    simp at hx
    rw [h3 x hx.2, get_set_ne hyn hx.1]
section
variable {S : Stl} {P : Par} {X N0 g : Nat} {vs0 la0 : List Int}
theorem nb_parts (hS : StlOk S P X N0 g) {c : Nat} (hc : c < S.n) : ints (nbrs P.w P.h c) = ints ((S.nb c).map fun (x : Nat) => (x : Int)) ∧ (nbrs P.w P.h c).length = (S.nb c).length ∧ (S.nb c).length ≤ 4 := by
  obtain ⟨hw, hh, _, hl⟩ := check_parts hS.pok.chk
  have hcn : (c : Int) < P.w * P.h := by rw [← hl, ← hS.hn]; omega
  obtain ⟨⟨p1, p2⟩, p3, p4⟩ := cell_parts hw.1 (by omega) hcn
  have hnn : ∀ z, z ∈ nbrs P.w P.h c → 0 ≤ z := by
    intro z hz
    unfold nbrs at hz
    obtain ⟨d, _, hz⟩ := List.mem_flatMap.1 hz
    unfold nbD at hz
    split at hz
    · rename_i hc
      rw [List.mem_singleton] at hz
      subst hz
      exact Int.add_nonneg (Int.mul_nonneg hc.2.1 (show 0 ≤ P.w by omega)) hc.1.1
    · cases hz
  have e : (S.nb c).map (fun (x : Nat) => (x : Int)) = nbrs P.w P.h c := by
    rw [hS.nbs c hc, List.map_map]
    conv => rhs; rw [← List.map_id (nbrs P.w P.h c)]
    refine List.map_congr_left fun z hz => ?_
    have := hnn z hz
    simp only [Function.comp, id]
    omega
  have hlen : (nbrs P.w P.h c).length ≤ 4 := nbI_len (w := P.w) (h := P.h) (c := c) 4 (Nat.le_refl _)
  refine ⟨by rw [e], by rw [← e, List.length_map], by rw [← e, List.length_map] at hlen; exact hlen⟩
structure Head (S : Stl) (N0 : Nat) (vs0 la0 vs la : List Int) (q : List Nat) (sv : Value) (A : Hp) (D : List Nat) : Prop where
  li : LI S N0 A.n A.n vs la q sv A
  mid : S.Mid vs0 la0 vs la q
  op : S.Open vs la q none []
  n : N0 + 4 ≤ A.n
  nd : D.Nodup
  mks : ∀ x, x ∈ D → N0 + 4 ≤ x ∧ A.get x = some .marks
theorem S110_eq {A : Hp} {g : Nat} {sl : Value} {l : List (Int × Int)} {w h s c : Int} (hl : groundOf A sl = some l) (hc : checkG w h s l = 0) (h0 : 0 ≤ c) (h1 : c < (l.length : Int)) :
    S110 g [gridV w h s sl, .int .i64 c] A = some (.tuple ⟨[accV A.n 1 (ints (nbrs w h c)), .int .i64 0]⟩, outHp A (accOut (ints (nbrs w h c)))) := by
  simp [S110, gridV, J, hl, hc, h0, h1]
theorem range95 {C0 : Hp} {N1 B10 bx bc c K0 : Nat} {T1 : List Value} {D : List Nat} {vs la : List Int} {q : List Nat} {sv : Value} {Q : Ex → St → Prop} (hS : StlOk S P X N0 g) (hI : LI S N0 N1 C0.n vs la q sv C0) (hM : S.Mid vs0 la0 vs la q) (hO : S.Open vs la q (some c) [])
    (hN : N0 + 4 ≤ N1) (hc : c < S.n) (h10 : C0.get B10 = some (.cells [.int .i64 (c : Int)] false)) (hB : N1 ≤ B10) (hx : C0.get bx = some (.cells [.pointer (some ⟨X, 0, none⟩)] false)) (hbc : C0.get bc = some (.cells [.int .i64 (c : Int)] false))
    (t4 : tget T1 4 = .pointer (some ⟨N0, 0, none⟩)) (t6 : tget T1 6 = .pointer (some ⟨N0 + 1, 0, none⟩)) (t7 : tget T1 7 = .pointer (some ⟨N0 + 2, 0, none⟩)) (t8 : tget T1 8 = .pointer (some ⟨N0 + 3, 0, none⟩))
    (t10 : tget T1 10 = .pointer (some ⟨B10, 0, none⟩)) (t34 : tget T1 34 = .func (.func 109) ⟨[]⟩ ⟨[.pointer (some ⟨bx, 0, none⟩), .pointer (some ⟨bc, 0, none⟩)]⟩) (hk : 2 * S.pot vs + q.length ≤ K0) (hK0 : K0 < 8000000000000)
    (hQ : ∀ A' vs la q sv, LI S N0 A'.n A'.n vs la q sv A' → S.Mid vs0 la0 vs la q → S.Open vs la q none [] → 2 * S.pot vs + q.length ≤ K0 → A'.get C0.n = some .marks → (∀ x, N0 + 4 ≤ x → C0.get x = some .marks → A'.get x = some .marks) → C0.n ≤ A'.n → Q .normal ⟨T1, C0.n :: D, A'⟩) :
    W AP KL g none (.rangeF (.t 34) [35] asg95 body95r) ⟨T1, D, C0⟩ Q := by
  refine W_range (h := 109) (first := []) (captured := [.pointer (some ⟨bx, 0, none⟩), .pointer (some ⟨bc, 0, none⟩)]) t34 ?_
  rw [WF_body rfl (show AP 109 = some F109 from rfl)]
  have hgr := hS.hg
  have hX0 := hS.X
  have b4 := hI.b4
  have hC4 := Hp.lt_of_get hI.b8
  have hxn := Hp.lt_of_get hx
  have hcn := Hp.lt_of_get hbc
  have h10n := Hp.lt_of_get h10
  obtain ⟨C, hC⟩ : ∃ C, C = (C0.push .marks).push (recL T1 [35] asg95 body95r) := ⟨_, rfl⟩
  rw [← hC]
  have hCn : C.n = C0.n + 2 := by rw [hC]; rfl
  have hCo : ∀ x, x < C0.n → C.get x = C0.get x := fun x h => by rw [hC]; exact push2_old h
  have hCm : C.get C0.n = some .marks := by rw [hC]; exact push2_a
  have hCL : C.get (C0.n + 1) = some (recL T1 [35] asg95 body95r) := by rw [hC]; exact push2_b
  have hCI : LI S N0 N1 C0.n vs la q sv C := hI.keep hS (fun x cs hx => by rw [hCo x (Hp.lt_of_get hx)]; exact hx) (fun x hx => hCo x (by omega)) (by omega)
  obtain ⟨⟨xc, gx, gp⟩, hgl⟩ := hS.grid _ _ _ hCI.inv
  have hcl : (c : Int) < (P.l.length : Int) := by rw [← hS.hn]; omega
  obtain ⟨e1, e2, e3⟩ := nb_parts hS hc
  have hx' := (hCo bx hxn).trans hx
  have hbc' := (hCo bc hcn).trans hbc
  simp (disch := as_aux_lemma => first | omega | simp only [hDs] <;> omega | simp [isCell]) [hRs, takeMarks, resA, resAll, resOne, Value.cells, hx', hbc', gx, gp, WF_spec (show KL 110 = some S110 from rfl), S110_eq hgl hS.pok.chk (show (0 : Int) ≤ (c : Int) by omega) hcl]
  obtain ⟨A0, hA0⟩ : ∃ A0, A0 = outHp C (accOut (ints (nbrs P.w P.h c))) := ⟨_, rfl⟩
  rw [← hA0]
  have hA0o : ∀ x, x < C.n → A0.get x = C.get x := fun x h => by rw [hA0]; exact outHp_old h
  have hA0n : C.n ≤ A0.n := by rw [hA0]; exact outHp_n
  have hA0I : LI S N0 N1 A0.n vs la q sv A0 := by
    have := hCI.keep (A' := A0) hS (fun x cs hx => by rw [hA0o x (Hp.lt_of_get hx)]; exact hx) (fun x hx => hA0o x (by omega)) hA0n
    obtain ⟨b, o, cc, cs, f1, f2, f3, f4, f5, f6⟩ := this.qs
    refine ⟨this.inv, this.b4, this.b6, this.b7, this.b8, b, o, cc, cs, f1, f2, f3, f4, f5, ?_⟩
    rcases f6 with h | h
    · exact .inl h
    · obtain ⟨b', o', cc', cs', f1', f2', _, _, _, f6'⟩ := hI.qs
      rw [f1'] at f1
      cases f1
      have := Hp.lt_of_get f2'
      omega
  obtain ⟨nv, hnv⟩ : ∃ nv, nv = accV C.n 1 (ints (nbrs P.w P.h c)) := ⟨_, rfl⟩
  rw [← hnv]
  have hacc : AccS C.n A0 1 (ints ((S.nb c).map fun (x : Nat) => (x : Int))) nv := by
    rw [hA0, hnv, ← e1]; exact accV_acc (by decide) ⟨_, (Nat.one_mul _).symm⟩ (Nat.le_refl _)
  have hrd := hacc.rd (n := (S.nb c).length) (by simp) (by decide)
  have hnp : ∀ b o k m cc, nv = .slice (some ⟨b, o, k⟩) m cc → N1 ≤ b ∧ b < A0.n := fun b o k m cc he => by
    rcases hacc with ⟨h, _⟩ | ⟨b', m', h, h2, h3, _⟩
    · rw [h] at he; cases he
    · rw [h] at he; cases he; exact ⟨by omega, Hp.lt_of_get h2⟩
  have hlen := hrd.len
  simp (disch := as_aux_lemma => first | omega | simp only [hDs] <;> omega | simp [isCell]) [hRs, takeMarks, resA, resAll, resOne, Value.cells, hlen]
  refine loop109 (A0 := A0) (N1 := N1) (N2 := A0.n) (L := C0.n + 1) (B10 := B10) (c := c) (K0 := K0) (T0 := T1) (nv := nv) hS ⟨by omega, by omega⟩ hN (Nat.le_refl _) ((hA0o _ (by omega)).trans hCL) ((hA0o _ (by omega)).trans ((hCo _ h10n).trans h10)) ⟨hB, by omega⟩ t4 t6 t7 t8 t10 hc hrd hnp (by omega) hK0
    (fun T' A' vs' la' q' sv' k1 k2 k3 k4 k5 k6 k7 k8 => ?_) (S.nb c).length 0 _ A0 vs la q sv (by omega) hA0I hM (by simpa using hO) hk ((hA0o _ (by omega)).trans hCL) (Nat.le_refl _) (fun _ _ _ _ => rfl) (fun _ _ h => h) ?_ ?_ ?_ ?_
  · have hLn := Hp.lt_of_get k5
    simp (disch := as_aux_lemma => first | omega | simp only [hDs] <;> omega | simp [isCell]) [hRs, takeMarks, resA, resAll, resOne, Value.cells, EndQ, recL, k5]
    obtain ⟨A5, hA5⟩ : ∃ A5, A5 = A'.set (C0.n + 1) (some (.loop { state := .exhausted, pending := none, tmps := T1, params := [35], assign := asg95, body := body95r })) := ⟨_, rfl⟩
    rw [← hA5]
    have o5 : ∀ x, x ≠ C0.n + 1 → A5.get x = A'.get x := fun x hx => by rw [hA5, get_set_ne hLn hx]
    have n5 : A5.n = A'.n := by rw [hA5]; rfl
    have hI5 := k1.keep (A' := A5) hS (fun x cs hx => by rw [o5 x (fun e => by subst e; rw [k5] at hx; cases hx)]; exact hx) (fun x hx => o5 x (by omega)) (by omega)
    refine hQ A5 vs' la' q' sv' ?_ k2 k3.shut k4 ?_ ?_ (by omega)
    · obtain ⟨b, o, cc, cs, f1, f2, f3, f4, f5, f6⟩ := hI5.qs
      exact ⟨hI5.inv, hI5.b4, hI5.b6, hI5.b7, hI5.b8, b, o, cc, cs, f1, f2, f3, f4, f5, .inl (Hp.lt_of_get f2)⟩
    · rw [o5 _ (by omega), k7 _ (by omega) (by omega) (by omega), hA0o _ (by omega)]; exact hCm
    · intro x h0 hx
      have hxn := Hp.lt_of_get hx
      rw [o5 _ (by omega)]
      exact k8 x h0 ((hA0o _ (by omega)).trans ((hCo _ hxn).trans hx))
  all_goals simp [hCn]
theorem loop95b {Q : Ex → St → Prop} {af : Value} (hS : StlOk S P X N0 g) (haf : af = .func (.func 96) ⟨[.pointer (some ⟨X, 0, none⟩)]⟩ ⟨[]⟩) {K0 : Nat} (hK0 : K0 < 8000000000000)
    (hQ : ∀ T' A' D' vs la sv, Head S N0 vs0 la0 vs la [] sv A' D' → Q (.exit 2) ⟨T', D', A'⟩) :
    ∀ (k : Nat) (T : List Value) (A : Hp) (D : List Nat) (vs la : List Int) (q : List Nat) (sv : Value), 2 * S.pot vs + q.length ≤ k → k ≤ K0 → Head S N0 vs0 la0 vs la q sv A D → tget T 1 = af → tget T 4 = .pointer (some ⟨N0, 0, none⟩) → tget T 6 = .pointer (some ⟨N0 + 1, 0, none⟩) → tget T 7 = .pointer (some ⟨N0 + 2, 0, none⟩) →
      tget T 8 = .pointer (some ⟨N0 + 3, 0, none⟩) → W AP KL g none (.loop body95b) ⟨T, D, A⟩ Q := by
  intro k
  induction k with
  | zero =>
    intro T A D vs la q sv hk _ hH t1 t4 t6 t7 t8
    have hq : q = [] := List.eq_nil_of_length_eq_zero (by omega)
    subst hq
    obtain ⟨b, o, c, cs, rfl, _⟩ := hH.li.qs
    have b8 := hH.li.b8
    rw [W_loop]
    simp (disch := as_aux_lemma => first | omega | simp only [hDs] <;> omega | simp [isCell]) [hRs, takeMarks, resA, resAll, resOne, Value.cells, body95b, t8, b8]
    exact hQ _ _ _ _ _ _ hH
  | succ k ih =>
    intro T A D vs la q sv hk hkK hH t1 t4 t6 t7 t8
    have b8 := hH.li.b8
    cases q with
    | nil =>
      obtain ⟨b, o, c, cs, rfl, _⟩ := hH.li.qs
      rw [W_loop]
      simp (disch := as_aux_lemma => first | omega | simp only [hDs] <;> omega | simp [isCell]) [hRs, takeMarks, resA, resAll, resOne, Value.cells, body95b, t8, b8]
      exact hQ _ _ _ _ _ _ hH
    | cons c q =>
      obtain ⟨b, o, cc, cs, rfl, hb, hcs, hol, hb4, hbn⟩ := hH.li.qs
      have hc : c < S.n := hH.mid.qlt c (by simp)
      have hgr := hS.hg
      have hb8n := Hp.lt_of_get b8
      have hbn' := Hp.lt_of_get hb
      have hcell : cellAt cs o = some (.int .i64 (c : Int)) := by
        have : (cs.drop o)[0]? = some (.int .i64 (c : Int)) := by rw [hcs]; rfl
        rw [List.getElem?_drop, Nat.add_zero] at this
        exact this
      have hol' : o + (q.length + 1) = cs.length := by simpa using hol
      rw [W_loop]
      simp (disch := as_aux_lemma => first | omega | simp only [hDs] <;> omega | simp [isCell]) [hRs, takeMarks, resA, resAll, resOne, Value.cells, body95b, t8, b8, idxSA_ok, hb, hcell, storeB_cells, setRange, resliceA_from, t1, haf, WF_body (K := KL) rfl (show AP 96 = some F96 from rfl)]
      obtain ⟨sv1, hsv1⟩ : ∃ sv1, sv1 = Value.slice (some ⟨b, o + 1, some 1⟩) q.length (Max.max (q.length + 1) cc - 1) := ⟨_, rfl⟩
      obtain ⟨B, hBe⟩ : ∃ B, B = A.set (N0 + 3) (some (.cells [sv1] false)) := ⟨_, rfl⟩
      rw [← hsv1, ← hBe]
      have hBn : B.n = A.n := by rw [hBe]; rfl
      have hBo : ∀ x, x ≠ N0 + 3 → B.get x = A.get x := fun x hx => by rw [hBe, get_set_ne hb8n hx]
      have hB8 : B.get (N0 + 3) = some (.cells [sv1] false) := by rw [hBe, get_set_same b8]
      obtain ⟨C, hC⟩ : ∃ C, C = ((B.push (.cells [.int .i64 (c : Int)] false)).push (.cells [.pointer (some ⟨X, 0, none⟩)] false)).push (.cells [.int .i64 (c : Int)] false) := ⟨_, rfl⟩
      rw [← hC]
      have hCn : C.n = A.n + 3 := by rw [hC, push3_n, hBn]
      have hCo : ∀ x, x < A.n → C.get x = B.get x := fun x hx => by rw [hC]; exact push3_old (by omega)
      have hca : C.get A.n = some (.cells [.int .i64 (c : Int)] false) := by rw [hC, ← hBn]; exact push3_a
      have hcb : C.get (A.n + 1) = some (.cells [.pointer (some ⟨X, 0, none⟩)] false) := by rw [hC, ← hBn]; exact push3_b
      have hcc : C.get (A.n + 2) = some (.cells [.int .i64 (c : Int)] false) := by rw [hC, ← hBn]; exact push3_c
      have hn4 := hH.n
      have h4n := Hp.lt_of_get hH.li.b4
      have h6n := Hp.lt_of_get hH.li.b6
      have h7n := Hp.lt_of_get hH.li.b7
      have hLI : LI S N0 A.n C.n vs la q sv1 C := by
        refine ⟨hS.keep _ _ _ _ hH.li.inv (fun x hx => by rw [hCo x (by omega), hBo x (by omega)]) (by omega), ?_, ?_, ?_, ?_, ?_⟩
        · rw [hCo _ h4n, hBo _ (by omega)]; exact hH.li.b4
        · rw [hCo _ h6n, hBo _ (by omega)]; exact hH.li.b6
        · rw [hCo _ h7n, hBo _ (by omega)]; exact hH.li.b7
        · rw [hCo _ hb8n]; exact hB8
        · refine ⟨b, o + 1, _, cs, hsv1, ?_, ?_, by omega, hb4, .inl hbn'⟩
          · rw [hCo _ hbn', hBo _ (by omega)]; exact hb
          · rw [← List.drop_drop, hcs]; rfl
      have hmid : S.Mid vs0 la0 vs la q := ⟨hH.mid.nv, hH.mid.nl, hH.mid.val, hH.mid.der, hH.mid.land, fun x hx => hH.mid.qlt x (by simp [hx]), hH.mid.glob, hH.mid.imp, hH.mid.lge⟩
      have hk' : 2 * S.pot vs + q.length ≤ k := by simp at hk; omega
      refine range95 (N1 := A.n) (B10 := A.n) (bx := A.n + 1) (bc := A.n + 2) (c := c) (K0 := k) hS hLI hmid hH.op.pop (by omega) hc hca (Nat.le_refl _) hcb hcc (by simp [t4]) (by simp [t6]) (by simp [t7]) (by simp [t8]) (by simp) (by simp) hk' (by omega)
        (fun A' vs' la' q' sv' k1 k2 k3 k4 k5 k6 k7 => ?_)
      simp (disch := as_aux_lemma => first | omega | simp only [hDs] <;> omega | simp [isCell]) [hRs, takeMarks, resA, resAll, resOne, Value.cells]
      refine ih _ A' _ vs' la' q' sv' k4 (by omega) ⟨k1, k2, k3, by omega, ?_, ?_⟩ (by simp [t1]) (by simp [t4]) (by simp [t6]) (by simp [t7]) (by simp [t8])
      · refine List.nodup_cons.2 ⟨fun hm => ?_, hH.nd⟩
        have := Hp.lt_of_get (hH.mks _ hm).2
        omega
      · intro x hx
        rcases List.mem_cons.1 hx with h | h
        · subst h; exact ⟨by omega, k5⟩
        · obtain ⟨h1, h2⟩ := hH.mks x h
          refine ⟨h1, k6 x h1 ?_⟩
          rw [hCo x (Hp.lt_of_get h2), hBo x (by omega)]
          exact h2
end
end Go.Ab.Wave
namespace Go.Ab.Wave
open Go Go.Ab
section
variable {S : Stl} {P : Par} {X N0 g : Nat} {vs0 la0 : List Int}
def rangeI (i : Nat) : List Int := (List.range i).map fun (x : Nat) => (x : Int)
theorem rangeI_succ (i : Nat) : ints (rangeI (i + 1)) = ints (rangeI i) ++ [.int .i64 (i : Int)] := by
  simp [rangeI, List.range_succ, ints]
theorem loop95a {A0 : Hp} {T0 : List Value} {n : Nat} {D : List Nat} {Q : Ex → St → Prop} (hn : n < 1000000) (hN : N0 + 4 ≤ A0.n) (hg : g ≤ N0)
    (hQ : ∀ T' A' sv, AccS (N0 + 4) A' 1 (ints (rangeI n)) sv → A'.get (N0 + 3) = some (.cells [sv] false) → (∀ x, x < N0 + 4 → x ≠ N0 + 3 → A'.get x = A0.get x) → A0.n ≤ A'.n → (∀ i, i < 9 → tget T' i = tget T0 i) → Q (.exit 0) ⟨T', D, A'⟩) (h8 : tget T0 8 = .pointer (some ⟨N0 + 3, 0, none⟩)) :
    ∀ (k i : Nat) (T : List Value) (A : Hp) (sv : Value), i + k = n → AccS (N0 + 4) A 1 (ints (rangeI i)) sv → A.get (N0 + 3) = some (.cells [sv] false) → (∀ x, x < N0 + 4 → x ≠ N0 + 3 → A.get x = A0.get x) → A0.n ≤ A.n → (∀ i, i < 9 → tget T i = tget T0 i) →
      tget T 15 = .int .i64 n → tget T 16 = .int .i64 i → W AP KL g none (.loop body95a) ⟨T, D, A⟩ Q := by
  intro k
  induction k with
  | zero =>
    intro i T A sv hi hacc hb hold hnn hT t15 t16
    have : i = n := by omega
    subst this
    rw [W_loop]
    simp (disch := as_aux_lemma => first | omega | simp only [hDs] <;> omega | simp [isCell]) [hRs, takeMarks, resA, resAll, resOne, Value.cells, body95a, t15, t16]
    refine hQ _ A sv hacc hb hold hnn fun i hi => ?_
    simp only [tget_tset]
    rw [if_neg (by omega)]
    exact hT i hi
  | succ k ih =>
    intro i T A sv hi hacc hb hold hnn hT t15 t16
    have t8 := (hT 8 (by omega)).trans h8
    have hbn := Hp.lt_of_get hb
    obtain ⟨sv', A', e, hacc', hold', hn'⟩ := hacc.add (g := g) (bytes := 8) (new := [.int .i64 (i : Int)]) (ro := false) (n := i) (by omega) (by omega) rfl (by decide) rfl (by simp [rangeI]) (by unfold room; omega)
    have hb' := (hold' (N0 + 3) (by omega)).trans hb
    obtain ⟨p, m, c, rfl⟩ := hacc'.isSlice
    rw [W_loop]
    simp (disch := as_aux_lemma => first | omega | simp only [hDs] <;> omega | simp [isCell]) [hRs, takeMarks, resA, resAll, resOne, Value.cells, body95a, t15, t16, t8, show ((i : Int) < (n : Int)) by omega, hb, slitA, fillA, setRange, e, hb', storeB_cells]
    have hbn' := Hp.lt_of_get hb'
    obtain ⟨A2, hA2⟩ : ∃ A2, A2 = A'.set (N0 + 3) (some (.cells [.slice p m c] false)) := ⟨_, rfl⟩
    rw [← hA2]
    have o2 : ∀ x, x ≠ N0 + 3 → A2.get x = A'.get x := fun x hx => by rw [hA2, get_set_ne hbn' hx]
    have n2 : A2.n = A'.n := by rw [hA2]; rfl
    refine ih (i + 1) _ A2 (.slice p m c) (by omega) ?_ (by rw [hA2, get_set_same hb']) (fun x h1 h2 => by rw [o2 x h2, hold' x h1, hold x h1 h2]) (by omega) (fun j hj => ?_) (by simp [t15]) (by simp [t16, wrId (n := (i : Int) + 1) (by omega) (by omega)])
    · rw [rangeI_succ]
      rcases hacc' with h | ⟨b, k', q1, q3, q4, q5, q6⟩
      · exact .inl h
      · exact .inr ⟨b, k', q1, by rw [o2 b (by omega)]; exact q3, q4, q5, q6⟩
    · simp only [tget_tset]
      repeat (rw [if_neg (by omega)])
      by_cases h9 : j = 9
      · omega
      · exact hT j hj
structure Stl.Fin (S : Stl) (vs0 la0 vs la : List Int) : Prop where
  mid : S.Mid vs0 la0 vs la []
  cl : ∀ c d, c < S.n → d ∈ S.nb c → S.Cl vs la c d
theorem w95 {A : Hp} {V : Value → Hp → Prop} (hS : StlOk S P X A.n g) (hI : S.Inv vs0 la0 A) (hM : S.Mid vs0 la0 vs0 la0 []) (hn0 : 0 < S.n) (hn : S.n < 1000) (hK : 2 * S.pot vs0 + S.n < 8000000000000)
    (hQ : ∀ A' vs la, S.Inv vs la A' → S.Fin vs0 la0 vs la → A.n ≤ A'.n → V (.tuple ⟨[]⟩) A') :
    WF AP KL g 95 [rowS1 S.rv S.n, .func (.func 96) ⟨[.pointer (some ⟨X, 0, none⟩)]⟩ ⟨[]⟩, cmpF S.neg, S.stepF] A V := by
  have hgr := hS.hg
  obtain ⟨f, x, y, hf⟩ := hS.isF
  have b4 : ((((A.push (.cells [rowS1 S.rv S.n] false)).push (.cells [cmpF S.neg] false)).push (.cells [S.stepF] false)).push (.cells [.slice none 0 0] false)).get A.n = some (.cells [rowS1 S.rv S.n] false) := by
    rw [get_push_old (by rw [push3_n]; omega)]; exact push3_a
  have b6 : ((((A.push (.cells [rowS1 S.rv S.n] false)).push (.cells [cmpF S.neg] false)).push (.cells [S.stepF] false)).push (.cells [.slice none 0 0] false)).get (A.n + 1) = some (.cells [cmpF S.neg] false) := by
    rw [get_push_old (by rw [push3_n]; omega)]; exact push3_b
  have b7 : ((((A.push (.cells [rowS1 S.rv S.n] false)).push (.cells [cmpF S.neg] false)).push (.cells [S.stepF] false)).push (.cells [.slice none 0 0] false)).get (A.n + 2) = some (.cells [S.stepF] false) := by
    rw [get_push_old (by rw [push3_n]; omega)]; exact push3_c
  have b8 : ((((A.push (.cells [rowS1 S.rv S.n] false)).push (.cells [cmpF S.neg] false)).push (.cells [S.stepF] false)).push (.cells [.slice none 0 0] false)).get (A.n + 3) = some (.cells [.slice none 0 0] false) := by
    rw [get_push_eq (by rw [push3_n]; omega)]
  obtain ⟨B, hB⟩ : ∃ B, B = (((A.push (.cells [rowS1 S.rv S.n] false)).push (.cells [cmpF S.neg] false)).push (.cells [S.stepF] false)).push (.cells [.slice none 0 0] false) := ⟨_, rfl⟩
  have hBn : B.n = A.n + 4 := by rw [hB]; rfl
  have hBo : ∀ x, x < A.n → B.get x = A.get x := fun x hx => by rw [hB]; exact push4_old hx
  rw [← hB] at b4 b6 b7 b8
  rw [WF_body rfl (show AP 95 = some F95 from rfl), hf]
  rw [hf] at hB b7
  simp (disch := as_aux_lemma => first | omega | simp only [hDs] <;> omega | simp [isCell]) [hRs, takeMarks, resA, resAll, resOne, Value.cells, rowS1, cmpF, get_push_eq]
  have hB' := hB
  simp only [rowS1, cmpF] at hB'
  rw [← hB']
  refine loop95a (T0 := _) (A0 := B) (N0 := A.n) (n := S.n) (by omega) (by omega) (by omega) (fun T' A' sv k1 k2 k3 k4 k5 => ?_) ?_ S.n 0 _ B (.slice none 0 0) (by omega) AccS.nil b8 (fun _ _ _ => rfl) (Nat.le_refl _) (fun _ _ => rfl) ?_ ?_
  · have q1 := k5 1 (by omega)
    have q4 := k5 4 (by omega)
    have q6 := k5 6 (by omega)
    have q7 := k5 7 (by omega)
    have q8 := k5 8 (by omega)
    simp at q1 q4 q6 q7 q8
    obtain ⟨b, e1, e2⟩ := k1.someOf (n := S.n) (i := 0) (by simp [rangeI]) hn0 (by decide)
    simp (disch := as_aux_lemma => first | omega | simp only [hDs] <;> omega | simp [isCell]) [hRs, takeMarks, resA, resAll, resOne, Value.cells]
    refine loop95b (S := S) (P := P) (X := X) (N0 := A.n) (vs0 := vs0) (la0 := la0) (K0 := 2 * S.pot vs0 + S.n) hS rfl hK (fun T2 A2 D2 vs la sv2 hH => ?_) (2 * S.pot vs0 + S.n) T' A' [] vs0 la0 (List.range S.n) sv (by simp) (Nat.le_refl _) ?_ q1 q4 q6 q7 q8
    · obtain ⟨A3, m1, m2, m3⟩ := takeMarks_all D2 A2 hH.nd fun x hx => (hH.mks x hx).2
      simp (disch := as_aux_lemma => first | omega | simp only [hDs] <;> omega | simp [isCell]) [hRs, takeMarks, resA, resAll, resOne, Value.cells, m1]
      refine hQ A3 vs la ?_ ⟨hH.mid, fun c d hc hd => hH.op c hc (by simp) d hd (fun e => by cases e)⟩ ?_
      · exact hS.keep _ _ _ _ hH.li.inv (fun x hx => m3 x (fun hm => by have := (hH.mks x hm).1; omega)) (by omega)
      · have := hH.n; omega
    · refine ⟨⟨hS.keep _ _ _ _ hI (fun z hz => by rw [k3 z (by omega) (by omega), hBo z hz]) (by omega), ?_, ?_, ?_, k2, ?_⟩, ⟨hM.nv, hM.nl, hM.val, hM.der, hM.land, fun c hc => by simpa using hc, hM.glob, hM.imp, hM.lge⟩, fun c hc hq => absurd (List.mem_range.2 hc) hq, by omega, List.nodup_nil, fun z hz => by cases hz⟩
      · rw [k3 _ (by omega) (by omega)]; exact b4
      · rw [k3 _ (by omega) (by omega)]; exact b6
      · rw [k3 _ (by omega) (by omega), hf]; exact b7
      · rcases k1 with ⟨h1, h2⟩ | ⟨b', m, h1, h2, h3, h4, h5⟩
        · rw [h1] at e1; cases e1
        · rw [h1] at e1
          cases e1
          exact ⟨b, 0, S.n, _, by simp [h1], h2, rfl, by simp [rangeI], h3, .inl (Hp.lt_of_get h2)⟩
  all_goals simp
end
end Go.Ab.Wave
namespace Go.Ab.Wave
open Go Go.Ab
def Never : Int := 1099511627776
theorem dv_bounds {b : Bool} {x y : Int} (hx : 0 ≤ x) (hy : 0 < y) : 0 ≤ dv b x y ∧ dv b x y * y ≤ x + y - 1 := by
  unfold dv upI
  cases b
  · simp only [Bool.false_eq_true, if_false]
    rw [Int.tdiv_eq_ediv_of_nonneg hx]
    exact ⟨Int.ediv_nonneg hx (by omega), by have := Int.ediv_mul_le x (show y ≠ 0 by omega); omega⟩
  · simp only [if_true]
    rw [Int.tdiv_eq_ediv_of_nonneg (by omega)]
    exact ⟨Int.ediv_nonneg (by omega) (by omega), Int.ediv_mul_le _ (show y ≠ 0 by omega)⟩
theorem dv_le {b : Bool} {x y z : Int} (hx : 0 ≤ x) (hy : 0 < y) (h : x ≤ z * y) : dv b x y ≤ z := by
  have hd := dv_bounds (b := b) hx hy
  by_cases h' : z < dv b x y
  · have h2 := Int.mul_le_mul_of_nonneg_right (show z + 1 ≤ dv b x y by omega) (show 0 ≤ y by omega)
    have e : (z + 1) * y = z * y + y := by rw [Int.add_mul, Int.one_mul]
    omega
  · omega
def Par.num (P : Par) : Int := P.s * P.s * 10000000000
def Par.den (P : Par) (a b : Nat) : Int := 981 * min (P.dep a) (P.dep b)
def Par.cross (P : Par) (a b : Nat) : Int := rt (!P.up) (dv (!P.up) P.num (P.den a b))
theorem POk.num {P : Par} (h : POk P) : 0 ≤ P.s * P.s ∧ P.s * P.s ≤ 100000000 := by
  obtain ⟨_, _, hs, _⟩ := check_parts h.chk
  exact ⟨Int.mul_nonneg (by omega) (by omega), Int.mul_le_mul (show P.s ≤ 10000 by omega) (show P.s ≤ 10000 by omega) (by omega) (by omega)⟩
theorem POk.quot {P : Par} (h : POk P) {b : Bool} {d : Int} (hd : 981 ≤ d) : 0 ≤ dv b P.num d ∧ dv b P.num d ≤ 1024000000000000 := by
  have hn := h.num
  unfold Par.num
  refine ⟨(dv_bounds (by omega) (by omega)).1, dv_le (by omega) (by omega) ?_⟩
  omega
theorem POk.cross {P : Par} (h : POk P) {a b : Nat} (ha : 1 ≤ P.dep a) (hb : 1 ≤ P.dep b) : 0 ≤ P.cross a b ∧ P.cross a b ≤ 32000000 := by
  have hq := h.quot (b := !P.up) (d := P.den a b) (by unfold Par.den; omega)
  unfold Par.cross
  exact ⟨le_rt (r := 0) hq.1 (by omega) (by omega), rt_le hq.1 (by omega) (by omega)⟩
section
variable {g : Nat} {A : Hp} {V : Value → Hp → Prop} {P : Par} {X ra rs ru rl : Nat} {ar st su la : List Int} {a b : Nat}
theorem w99 (hS : Sheet A P X ra rs ru rl ar st su la) (hP : POk P) (ha : a < P.l.length) (hb : b < P.l.length) (hda : 1 ≤ P.dep a) (hdb : 1 ≤ P.dep b) (hQ : ∀ A', Ext' A A' → V (.int .i64 (P.cross a b)) A') :
    WF AP KL g 99 [.pointer (some ⟨X, 0, none⟩), .int .i64 a, .int .i64 b] A V := by
  have hX := hS.hx
  have hn := hP.num
  have d1 := hP.dep ha
  have d2 := hP.dep hb
  have hden : 981 ≤ P.den a b ∧ P.den a b ≤ 2000000000 := by unfold Par.den; omega
  have hqt := hP.quot (b := !P.up) hden.1
  have e1 : wr .i64 (P.s * P.s) = P.s * P.s := wrId (by omega) (by omega)
  have e2 : wr .i64 (P.s * P.s * 10000000000) = P.num := wrId (by omega) (by omega)
  have e3 : wr .i64 (981 * min (P.dep a) (P.dep b)) = P.den a b := wrId (by unfold Par.den at hden; omega) (by unfold Par.den at hden; omega)
  have e4 : P.num = P.s * P.s * 10000000000 := rfl
  have e0 : P.num.tdiv (P.den a b) = dv false P.num (P.den a b) := rfl
  rw [WF_body rfl (show AP 99 = some F99 from rfl)]
  simp (disch := as_aux_lemma => first | omega | simp only [hDs] <;> omega | simp [isCell]) [hRs, takeMarks, resA, resAll, resOne, Value.cells, hX, shCells, e1, e2]
  refine w87 hS hP ha fun A1 k1 => ?_
  simp (disch := as_aux_lemma => first | omega | simp only [hDs] <;> omega | simp [isCell]) [hRs, takeMarks, resA, resAll, resOne, Value.cells]
  refine w87 (hS.ext k1) hP hb fun A2 k2 => ?_
  have hX2 := k2.get (k1.get hX)
  have hQ2 := hQ A2 (k1.trans k2)
  unfold Par.cross at hQ2
  cases hup : P.up
  · rw [hup] at hQ2
    have hqt' : 0 ≤ upI P.num (P.den a b) ∧ upI P.num (P.den a b) ≤ 1024000000000000 := by simpa [dv] using hP.quot (b := true) hden.1
    simp (disch := as_aux_lemma => first | omega | simp only [hDs] <;> omega | simp [isCell]) [hRs, takeMarks, resA, resAll, resOne, Value.cells, e3, hX2, shCells, hup]
    refine w68 (by omega) (by omega) (by omega) (by omega) ?_
    simp (disch := as_aux_lemma => first | omega | simp only [hDs] <;> omega | simp [isCell]) [hRs, takeMarks, resA, resAll, resOne, Value.cells]
    refine w67 hqt'.1 (by have := hqt'.2; omega) ?_
    simp (disch := as_aux_lemma => first | omega | simp only [hDs] <;> omega | simp [isCell]) [hRs, takeMarks, resA, resAll, resOne, Value.cells]
    exact hQ2
  · rw [hup] at hQ2
    have hqt' : 0 ≤ P.num.tdiv (P.den a b) ∧ P.num.tdiv (P.den a b) ≤ 1024000000000000 := by simpa [dv] using hP.quot (b := false) hden.1
    simp (disch := as_aux_lemma => first | omega | simp only [hDs] <;> omega | simp [isCell]) [hRs, takeMarks, resA, resAll, resOne, Value.cells, e3, hX2, shCells, hup, binA_quo (show P.den a b ≠ 0 by omega)]
    rw [wrId (n := P.num.tdiv (P.den a b)) (by omega) (by omega)]
    refine w65 hqt'.1 (by omega) ?_
    simp (disch := as_aux_lemma => first | omega | simp only [hDs] <;> omega | simp [isCell]) [hRs, takeMarks, resA, resAll, resOne, Value.cells]
    exact hQ2
def ptrV (x : Nat) : Value := .pointer (some ⟨x, 0, none⟩)
def openF (B2 : Nat) : Value := .func (.func 94) ⟨[]⟩ ⟨[ptrV B2]⟩
def Par.open (P : Par) (a b : Nat) : Bool := decide (1 ≤ P.dep a) && decide (1 ≤ P.dep b)
theorem w94 {B2 : Nat} (hS : Sheet A P X ra rs ru rl ar st su la) (hP : POk P) (ha : a < P.l.length) (hb : b < P.l.length) (h2 : A.get B2 = some (.cells [ptrV X] false)) (hQ : ∀ A', Ext' A A' → V (.bool (P.open a b)) A') :
    WF AP KL g 94 [.int .i64 a, .int .i64 b, ptrV B2] A V := by
  rw [WF_body rfl (show AP 94 = some F94 from rfl)]
  simp (disch := as_aux_lemma => first | omega | simp only [hDs] <;> omega | simp [isCell]) [hRs, takeMarks, resA, resAll, resOne, Value.cells, ptrV, h2]
  refine w63 hS hP ha fun A1 k1 => ?_
  have h2' := k1.get h2
  by_cases h : 1 ≤ P.dep a
  · simp (disch := as_aux_lemma => first | omega | simp only [hDs] <;> omega | simp [isCell]) [hRs, takeMarks, resA, resAll, resOne, Value.cells, h, h2', ptrV]
    refine w63 (hS.ext k1) hP hb fun A2 k2 => ?_
    simp (disch := as_aux_lemma => first | omega | simp only [hDs] <;> omega | simp [isCell]) [hRs, takeMarks, resA, resAll, resOne, Value.cells]
    have := hQ A2 (k1.trans k2)
    simpa [Par.open, h] using this
  · simp (disch := as_aux_lemma => first | omega | simp only [hDs] <;> omega | simp [isCell]) [hRs, takeMarks, resA, resAll, resOne, Value.cells, h]
    have := hQ A1 k1
    simpa [Par.open, h] using this
def Par.spA (P : Par) (a b : Nat) (t : Int) : Int × Bool := if P.open a b = true ∧ t ≠ Never then (t + P.cross a b, true) else (0, false)
theorem w98 {B2 B7 : Nat} {t : Int} (hS : Sheet A P X ra rs ru rl ar st su la) (hP : POk P) (ha : a < P.l.length) (hb : b < P.l.length) (h2 : A.get B2 = some (.cells [ptrV X] false)) (h7 : A.get B7 = some (.cells [openF B2] false)) (ht : 0 ≤ t ∧ t ≤ Never)
    (hQ : ∀ A', Ext' A A' → V (.tuple ⟨[.int .i64 (P.spA a b t).1, .bool (P.spA a b t).2]⟩) A') :
    WF AP KL g 98 [.int .i64 a, .int .i64 b, .int .i64 t, ptrV B7, ptrV B2] A V := by
  unfold Never at ht
  rw [WF_body rfl (show AP 98 = some F98 from rfl)]
  simp (disch := as_aux_lemma => first | omega | simp only [hDs] <;> omega | simp [isCell]) [hRs, takeMarks, resA, resAll, resOne, Value.cells, ptrV, h7, openF]
  refine w94 hS hP ha hb h2 fun A1 k1 => ?_
  have h2' := k1.get h2
  by_cases ho : P.open a b = true
  · by_cases hn : t = 1099511627776
    · simp (disch := as_aux_lemma => first | omega | simp only [hDs] <;> omega | simp [isCell]) [hRs, takeMarks, resA, resAll, resOne, Value.cells, ho, hn]
      have := hQ A1 k1
      simpa [Par.spA, ho, hn, Never] using this
    · have ho' := ho
      simp only [Par.open, Bool.and_eq_true, decide_eq_true_eq] at ho'
      have hcr := hP.cross ho'.1 ho'.2
      simp (disch := as_aux_lemma => first | omega | simp only [hDs] <;> omega | simp [isCell]) [hRs, takeMarks, resA, resAll, resOne, Value.cells, ho, hn, h2', ptrV]
      refine w99 (hS.ext k1) hP ha hb ho'.1 ho'.2 fun A2 k2 => ?_
      simp (disch := as_aux_lemma => first | omega | simp only [hDs] <;> omega | simp [isCell]) [hRs, takeMarks, resA, resAll, resOne, Value.cells, wrId (n := t + P.cross a b) (by omega) (by omega)]
      have := hQ A2 (k1.trans k2)
      simpa [Par.spA, ho, hn, Never] using this
  · simp (disch := as_aux_lemma => first | omega | simp only [hDs] <;> omega | simp [isCell]) [hRs, takeMarks, resA, resAll, resOne, Value.cells, ho]
    have := hQ A1 k1
    simpa [Par.spA, ho] using this
def Par.spS (P : Par) (a b : Nat) (v : Int) : Int × Bool := (dv P.up (v * ofE P.up P.k0 P.k1) 1024, P.open a b && decide (0 < v))
theorem w101 {B2 B7 : Nat} {v : Int} (hS : Sheet A P X ra rs ru rl ar st su la) (hP : POk P) (ha : a < P.l.length) (hb : b < P.l.length) (h2 : A.get B2 = some (.cells [ptrV X] false)) (h7 : A.get B7 = some (.cells [openF B2] false)) (hv : 0 ≤ v ∧ v ≤ 200000000)
    (hQ : ∀ A', Ext' A A' → V (.tuple ⟨[.int .i64 (P.spS a b v).1, .bool (P.spS a b v).2]⟩) A') :
    WF AP KL g 101 [.int .i64 a, .int .i64 b, .int .i64 v, ptrV B2, ptrV B7] A V := by
  have hX := hS.hx
  have hk := hP.keep
  have hk' : 1 ≤ ofE P.up P.k0 P.k1 ∧ ofE P.up P.k0 P.k1 ≤ 1024 := by unfold ofE; split <;> omega
  have hm : 0 ≤ v * ofE P.up P.k0 P.k1 ∧ v * ofE P.up P.k0 P.k1 ≤ 200000000 * 1024 := ⟨Int.mul_nonneg (by omega) (by omega), Int.mul_le_mul (by omega) (by omega) (by omega) (by omega)⟩
  rw [WF_body rfl (show AP 101 = some F101 from rfl)]
  simp (disch := as_aux_lemma => first | omega | simp only [hDs] <;> omega | simp [isCell]) [hRs, takeMarks, resA, resAll, resOne, Value.cells, ptrV, h2, hX, shCells]
  refine w91 fun A1 k1 => ?_
  have h7' := k1.get h7
  simp (disch := as_aux_lemma => first | omega | simp only [hDs] <;> omega | simp [isCell]) [hRs, takeMarks, resA, resAll, resOne, Value.cells, wrId (n := v * ofE P.up P.k0 P.k1) (by omega) (by omega), dF]
  refine wDiv (by omega) (by omega) (by omega) (by omega) ?_
  simp (disch := as_aux_lemma => first | omega | simp only [hDs] <;> omega | simp [isCell]) [hRs, takeMarks, resA, resAll, resOne, Value.cells, h7', openF]
  refine w94 (hS.ext k1) hP ha hb (k1.get h2) fun A2 k2 => ?_
  have := hQ A2 (k1.trans k2)
  by_cases ho : P.open a b = true
  · simp (disch := as_aux_lemma => first | omega | simp only [hDs] <;> omega | simp [isCell]) [hRs, takeMarks, resA, resAll, resOne, Value.cells, ho]
    simpa [Par.spS, ho] using this
  · simp (disch := as_aux_lemma => first | omega | simp only [hDs] <;> omega | simp [isCell]) [hRs, takeMarks, resA, resAll, resOne, Value.cells, ho]
    simpa [Par.spS, ho] using this
end
end Go.Ab.Wave
