/- A site for the document: copies of the tide's parts and of the gauges. -/
import Derived.Test.YtekljelnebadeaaGreatZ13
import Derived.Test.YtekljelnebadeaaGreatZ11
set_option linter.unusedSimpArgs false
set_option linter.unusedVariables false
set_option linter.unusedSectionVars false
set_option maxRecDepth 100000
namespace Go.Ab.Gauge
open Go Go.Ab
section
variable {g : Nat} {rd : Option Nat} {T : List Value} {D : List Nat} {A : Hp} {Q : Ex → St → Prop} {V : Value → Hp → Prop}
theorem w450 {x : Site} {gl tl ul : Value} (hI : SiteIn A x gl tl ul) (hS : Small x) (hok : tideE x.mean x.pn x.ps = 0) (hg : g ≤ A.n) (hV : ∀ A', Ext' A A' → V (spV x.lo x.hi) A') : WF AP KL g 450 [.agg ⟨x.cells gl tl ul⟩] A V := by
  rw [WF_body rfl (show AP 450 = some F450 from rfl)]
  have hpn := hS.pn
  have eP : Ext' A ((A.push (.cells (x.cells gl tl ul) false)).push (.cells [.int .i64 0, .int .i64 0] false)) := (Ext'.push _ _).trans (Ext'.push _ _)
  have q1 : x.mean - ampS x.ps x.pn = x.lo := rfl
  have q2 : x.mean + ampS x.ps x.pn = x.hi := rfl
  unfold Site.cells at eP
  simp (disch := as_aux_lemma => first | omega | simp only [hDs] <;> omega | simp [isCell]) [hRs, takeMarks, resA, resAll, resOne, Value.cells, F450, Site.cells]
  refine w481 (mean := x.mean) (eP.rdS hI.tl) (by omega) (by simp; omega) fun A1 e1 => ?_
  have c1 : A1.get (A.n + 1) = some (.cells [.int .i64 0, .int .i64 0] false) := e1.get (by rw [get_push_eq (by simp)])
  have n1 := Hp.lt_of_get c1
  unfold rangeV
  simp (disch := as_aux_lemma => first | omega | simp only [hDs] <;> omega | simp [isCell]) [hRs, takeMarks, resA, resAll, resOne, Value.cells, hok, q1, q2, storeB_cells, setRange, set_push_eq, c1, get_set_same c1]
  exact hV _ (Ext'.trans (show Ext' A (A1.set (A.n + 1) _) from ⟨by have := e1.1; simp at this ⊢; omega, fun z hz => by rw [get_set_ne n1 (by omega), e1.2 z (by simp; omega), eP.2 z hz]⟩) (Ext'.push _ _))
theorem loop413 {A0 : Hp} {x : Site} {X : Nat} {gl tl ul : Value} (hI : SiteIn A0 x gl tl ul) (hS : Small x) (hok : tideE x.mean x.pn x.ps = 0) (hz : GrdOk x.m x.zs) (hl : -20000 ≤ x.lo ∧ x.lo ≤ 20000) (hX : A0.get X = some (.cells (x.cells gl tl ul) false)) (hg : g ≤ A0.n)
    (hQ : ∀ T' A', Ext' A0 A' → x.gauS x.gn = 0 → Q (.exit 0) ⟨T', D, A'⟩)
    (hR : ∀ T' A', Ext' A0 A' → tget T' 2 = .int .i64 (x.gauS x.gn) → Q .ret ⟨T', D, A'⟩) :
    ∀ (k i : Nat) {T1 : List Value} {A : Hp}, i + k = x.gn → x.gauS i = 0 → Ext' A0 A → tget T1 1 = .pointer (some ⟨X, 0, none⟩) → tget T1 4 = .int .i64 i → W AP KL g rd (.loop body413) ⟨T1, D, A⟩ Q := by
  intro k
  have hgl : x.gs.length = x.gn * 9 := by have := hI.ul.1; simpa using this
  have hgn := hS.gn
  have hm := hS.m
  have hul := hI.ul.len
  have hll := hI.gl.len
  unfold Site.cells at hX
  induction k with
  | zero =>
    intro i T1 A hi h0 he t1 t4
    obtain rfl : i = x.gn := by omega
    rw [W_loop]
    simp (disch := as_aux_lemma => first | omega | simp only [hDs] <;> omega | simp [isCell]) [hRs, takeMarks, resA, resAll, resOne, Value.cells, body413, t1, t4, he.get hX, hul]
    exact hQ _ _ he h0
  | succ k ih =>
    intro i T1 A hi h0 he t1 t4
    have e5 : wr .i64 ((i : Int) + 1) = ((i + 1 : Nat) : Int) := by rw [wrId (by omega) (by omega)]; simp
    have e6 : wr .i64 ((x.m : Int) - 1) = (x.m : Int) - 1 := wrId (by omega) (by omega)
    obtain ⟨xb, xc, xr, hsq, hxb⟩ := (he.rdS hI.ul).at (show i < x.gn by omega)
    have hA := he.1
    have hXA := he.get hX
    have hXn := Hp.lt_of_get hXA
    have hE : x.gauS (i + 1) = x.gauE i := by rw [Site.gauS, if_pos h0]
    have bad : ∀ (v : Int) (T' : List Value) (A' : Hp), v ≠ 0 → x.gauE i = v → Ext' A0 A' → tget T' 2 = .int .i64 v → Q .ret ⟨T', D, A'⟩ := fun v T' A' hv h e t2 => by
      have hs := Site.gauS_stay (x := x) (i := i + 1) (by rw [hE, h]; exact hv) (k := x.gn) (by omega)
      rw [hE, h] at hs
      exact hR _ _ e (by rw [hs]; exact t2)
    unfold Site.gauE at bad hE
    rw [W_loop]
    simp (disch := as_aux_lemma => first | omega | simp only [hDs] <;> omega | simp [isCell]) [hRs, takeMarks, resA, resAll, resOne, Value.cells, body413, t1, t4, hXA, hul, show ((i : Int) < x.gn) by omega, show i < x.gn by omega, hsq, idxSA_ok, hxb, ints_9, storeB_cells, setRange, set_push_eq, hll, e6]
    refine w451 ?_
    generalize gi x.gs (i * 9) = ce at *
    generalize gi x.gs (i * 9 + 1) = c0 at *
    generalize gi x.gs (i * 9 + 2) = c1 at *
    generalize gi x.gs (i * 9 + 3) = a0 at *
    generalize gi x.gs (i * 9 + 4) = a1 at *
    generalize gi x.gs (i * 9 + 5) = r0 at *
    generalize gi x.gs (i * 9 + 6) = r1 at *
    generalize gi x.gs (i * 9 + 7) = si at *
    generalize gi x.gs (i * 9 + 8) = no at *
    unfold gauE at hE bad
    have eP := he.trans (Ext'.push A (.cells [.int .i64 ce, .int .i64 c0, .int .i64 c1, .int .i64 a0, .int .i64 a1, .int .i64 r0, .int .i64 r1, .int .i64 si, .int .i64 no] false))
    have eP' := Ext'.push A (.cells [.int .i64 ce, .int .i64 c0, .int .i64 c1, .int .i64 a0, .int .i64 a1, .int .i64 r0, .int .i64 r1, .int .i64 si, .int .i64 no] false)
    cases h1 : inB ce 0 ((x.m : Int) - 1) with
    | false =>
      simp (disch := as_aux_lemma => first | omega | simp only [hDs] <;> omega | simp [isCell]) [hRs, takeMarks, resA, resAll, resOne, Value.cells]
      exact bad 4 _ _ (by omega) (by simp [h1]) eP (by simp)
    | true =>
      have h1' := inB_iff.1 h1
      obtain ⟨yb, yc, yr, hsy, hyb⟩ := hI.gl.at (show ce.toNat < x.m by omega)
      obtain ⟨z0, z1, z2⟩ := hz.2 ce.toNat (by omega)
      have zl := hz.1
      have e2 : wr .i64 (x.lo - gi x.zs (ce.toNat * 2 + 1)) = x.lo - gi x.zs (ce.toNat * 2 + 1) := wrId (by omega) (by omega)
      simp (disch := as_aux_lemma => first | omega | simp only [hDs] <;> omega | simp [isCell]) [hRs, takeMarks, resA, resAll, resOne, Value.cells, t1, hXA]
      refine w450 (x := x) (hI.ext eP) hS hok (by simp) fun A1 e1 => ?_
      have f1 := eP'.trans e1
      have p1 := own_get e1
      have hX1 := f1.get hXA
      have hy1 := (he.trans f1).get hyb
      by_cases h2 : x.lo - gi x.zs (ce.toNat * 2 + 1) < 1
      · simp (disch := as_aux_lemma => first | omega | simp only [hDs] <;> omega | simp [isCell]) [hRs, takeMarks, resA, resAll, resOne, Value.cells, t1, hX1, p1, hsy, idxSA_ok, hy1, ints_get, e2, h2]
        exact bad 19 _ _ (by omega) (by simp [h1, h2]) (he.trans f1) (by simp)
      · simp (disch := as_aux_lemma => first | omega | simp only [hDs] <;> omega | simp [isCell]) [hRs, takeMarks, resA, resAll, resOne, Value.cells, t1, hX1, p1, hsy, idxSA_ok, hy1, ints_get, e2, h2]
        refine w449 fun A2 e2 => ?_
        have p2 := e2.get p1
        have g2 := (he.trans f1).trans e2
        cases h3 : validB c0 c1 (-100000000) 100000000 with
        | false =>
          simp (disch := as_aux_lemma => first | omega | simp only [hDs] <;> omega | simp [isCell]) [hRs, takeMarks, resA, resAll, resOne, Value.cells]
          exact bad 3 _ _ (by omega) (by simp [h1, h2, h3]) g2 (by simp)
        | true =>
          simp (disch := as_aux_lemma => first | omega | simp only [hDs] <;> omega | simp [isCell]) [hRs, takeMarks, resA, resAll, resOne, Value.cells, p2]
          refine w449 fun A3 e3 => ?_
          have p3 := e3.get p2
          have g3 := g2.trans e3
          cases h4 : validB a0 a1 (-10000) 10000 with
          | false =>
            simp (disch := as_aux_lemma => first | omega | simp only [hDs] <;> omega | simp [isCell]) [hRs, takeMarks, resA, resAll, resOne, Value.cells]
            exact bad 3 _ _ (by omega) (by simp [h1, h2, h3, h4]) g3 (by simp)
          | true =>
            simp (disch := as_aux_lemma => first | omega | simp only [hDs] <;> omega | simp [isCell]) [hRs, takeMarks, resA, resAll, resOne, Value.cells, p3]
            refine w449 fun A4 e4 => ?_
            have p4 := e4.get p3
            have g4 := g3.trans e4
            cases h5 : validB r0 r1 (-1000) 1000 with
            | false =>
              simp (disch := as_aux_lemma => first | omega | simp only [hDs] <;> omega | simp [isCell]) [hRs, takeMarks, resA, resAll, resOne, Value.cells]
              exact bad 3 _ _ (by omega) (by simp [h1, h2, h3, h4, h5]) g4 (by simp)
            | true =>
              simp (disch := as_aux_lemma => first | omega | simp only [hDs] <;> omega | simp [isCell]) [hRs, takeMarks, resA, resAll, resOne, Value.cells, p4]
              refine w451 ?_
              cases h6 : inB si 0 1000000000 with
              | false =>
                simp (disch := as_aux_lemma => first | omega | simp only [hDs] <;> omega | simp [isCell]) [hRs, takeMarks, resA, resAll, resOne, Value.cells]
                exact bad 3 _ _ (by omega) (by simp [h1, h2, h3, h4, h5, h6]) g4 (by simp)
              | true =>
                simp (disch := as_aux_lemma => first | omega | simp only [hDs] <;> omega | simp [isCell]) [hRs, takeMarks, resA, resAll, resOne, Value.cells, p4]
                refine w451 ?_
                cases h7 : inB no 0 5000 with
                | false =>
                  simp (disch := as_aux_lemma => first | omega | simp only [hDs] <;> omega | simp [isCell]) [hRs, takeMarks, resA, resAll, resOne, Value.cells]
                  exact bad 3 _ _ (by omega) (by simp [h1, h2, h3, h4, h5, h6, h7]) g4 (by simp)
                | true =>
                  simp (disch := as_aux_lemma => first | omega | simp only [hDs] <;> omega | simp [isCell]) [hRs, takeMarks, resA, resAll, resOne, Value.cells, t4, e5]
                  refine ih (i + 1) (by omega) ?_ g4 ?_ ?_
                  · rw [hE]; simp [h1, h2, h3, h4, h5, h6, h7]
                  all_goals simp [t1]
theorem w413 {x : Site} {gl tl ul : Value} (hI : SiteIn A x gl tl ul) (hS : Small x) (hg : g ≤ A.n) (hV : ∀ A', Ext' A A' → V (.int .i64 x.E) A') : WF AP KL g 413 [.agg ⟨x.cells gl tl ul⟩] A V := by
  rw [WF_body rfl (show AP 413 = some F413 from rfl)]
  have hzl : x.zs.length = x.m * 2 := by have := hI.gl.1; simpa using this
  have hul := hI.ul.len
  have hm := hS.m
  have hpn := hS.pn
  have hgn := hS.gn
  unfold Site.E at hV
  simp (disch := as_aux_lemma => first | omega | simp only [hDs] <;> omega | simp [isCell]) [hRs, takeMarks, resA, resAll, resOne, Value.cells, F413, Site.cells]
  have eP := Ext'.push A (.cells (x.cells gl tl ul) false)
  have own : ∀ {A1 : Hp}, Ext' (A.push (.cells (x.cells gl tl ul) false)) A1 → A1.get A.n = some (.cells (x.cells gl tl ul) false) := fun e => own_get e
  unfold Site.cells at eP own
  refine w40 (w := x.w) (h := x.h) (s := x.s) (eP.rdS hI.gl) (by omega) (by simp; omega) fun A1 e1 => ?_
  have f1 := eP.trans e1
  have o1 := own e1
  by_cases h1 : gridE x.w x.h x.s x.m x.zs = 0
  · simp (disch := as_aux_lemma => first | omega | simp only [hDs] <;> omega | simp [isCell]) [hRs, takeMarks, resA, resAll, resOne, Value.cells, h1, o1]
    refine w448 (f1.rdS hI.tl) (by omega) (by have := f1.1; omega) fun A2 e2 => ?_
    have f2 := f1.trans e2
    have n2 := f2.1
    have o2 := e2.get o1
    by_cases h2 : tideE x.mean x.pn x.ps = 0
    · have hok := tide_ok h2
      have hgo := grd_ok hzl h1
      simp (disch := as_aux_lemma => first | omega | simp only [hDs] <;> omega | simp [isCell]) [hRs, takeMarks, resA, resAll, resOne, Value.cells, h2, o2]
      refine w450 (x := x) (hI.ext f2) hS h2 (by omega) fun A3 e3 => ?_
      simp (disch := as_aux_lemma => first | omega | simp only [hDs] <;> omega | simp [isCell]) [hRs, takeMarks, resA, resAll, resOne, Value.cells]
      refine w449 fun A4 e4 => ?_
      have f4 := (f2.trans e3).trans e4
      have o4 := (e3.trans e4).get o2
      cases h3 : validB x.lo x.hi (-20000) 20000 with
      | false =>
        simp (disch := as_aux_lemma => first | omega | simp only [hDs] <;> omega | simp [isCell]) [hRs, takeMarks, resA, resAll, resOne, Value.cells]
        exact hV' hV f4 (by simp [h1, h2, h3])
      | true =>
        have hv := validB_iff.1 h3
        simp (disch := as_aux_lemma => first | omega | simp only [hDs] <;> omega | simp [isCell]) [hRs, takeMarks, resA, resAll, resOne, Value.cells, o4]
        refine w15 fun A5 e5 => ?_
        have f5 := f4.trans e5
        have o5 := e5.get o4
        by_cases h4 : waveE x.k0 x.k1 x.l0 x.l1 x.o0 x.o1 = 0
        · by_cases h5 : 32 < x.gn
          · simp (disch := as_aux_lemma => first | omega | simp only [hDs] <;> omega | simp [isCell]) [hRs, takeMarks, resA, resAll, resOne, Value.cells, h4, o5, hul, show (32 : Int) < x.gn by omega]
            exact hV' hV f5 (by simp [h1, h2, h3, h4, h5])
          · simp (disch := as_aux_lemma => first | omega | simp only [hDs] <;> omega | simp [isCell]) [hRs, takeMarks, resA, resAll, resOne, Value.cells, h4, o5, hul, show ¬ (32 : Int) < x.gn by omega]
            have n5 := f5.1
            refine loop413 (A0 := A5) (X := A.n) (hI.ext f5) hS h2 hgo (by omega) o5 (by omega) ?_ ?_ x.gn 0 (by omega) rfl (Ext'.refl _) (by simp) (by simp)
            · intro T' A' e h6
              simp (disch := as_aux_lemma => first | omega | simp only [hDs] <;> omega | simp [isCell]) [hRs, takeMarks, resA, resAll, resOne, Value.cells]
              exact hV' hV (f5.trans e) (by simp [h1, h2, h3, h4, h5, h6])
            · intro T' A' e t2
              simp (disch := as_aux_lemma => first | omega | simp only [hDs] <;> omega | simp [isCell]) [hRs, takeMarks, resA, resAll, resOne, Value.cells, t2]
              exact hV' hV (f5.trans e) (by simp [h1, h2, h3, h4, h5])
        · simp (disch := as_aux_lemma => first | omega | simp only [hDs] <;> omega | simp [isCell]) [hRs, takeMarks, resA, resAll, resOne, Value.cells, h4]
          exact hV' hV f5 (by simp [h1, h2, h3, h4])
    · simp (disch := as_aux_lemma => first | omega | simp only [hDs] <;> omega | simp [isCell]) [hRs, takeMarks, resA, resAll, resOne, Value.cells, h2]
      exact hV' hV f2 (by simp [h1, h2])
  · simp (disch := as_aux_lemma => first | omega | simp only [hDs] <;> omega | simp [isCell]) [hRs, takeMarks, resA, resAll, resOne, Value.cells, h1]
    exact hV' hV f1 (by simp [h1])
end
end Go.Ab.Gauge
set_option maxRecDepth 100000
namespace Go.Ab.Gauge
open Go Go.Ab
def up8 (n : Int) : Int := -((-n) / 86400000)
def dLo (r0 r1 p q : Int) : Int := min (min (min (r0 * p) (r0 * q)) (r1 * p)) (r1 * q) / 86400000
def dHi (r0 r1 p q : Int) : Int := up8 (max (max (max (r0 * p) (r0 * q)) (r1 * p)) (r1 * q))
section
variable {g : Nat} {rd : Option Nat} {T : List Value} {D : List Nat} {A : Hp} {Q : Ex → St → Prop} {V : Value → Hp → Prop}
theorem w496 {a b : Int} (hb : 0 < b) (ha : -1000000000000000000 ≤ a ∧ a ≤ 1000000000000000000) (hV : V (.int .i64 (a / b)) A) : WF AP KL g 496 [.int .i64 a, .int .i64 b] A V := by
  rw [WF_body rfl (show AP 496 = some F496 from rfl)]
  have h1 := floor_t (a := a) hb
  have h2 := tdiv_abs hb ha
  have e1 : wr .i64 (a.tdiv b) = a.tdiv b := wrId (by omega) (by omega)
  have e2 : wr .i64 (a.tdiv b - 1) = a.tdiv b - 1 := wrId (by omega) (by omega)
  by_cases h : a.tmod b < 0
  · rw [if_pos h] at h1
    simp (disch := as_aux_lemma => first | omega | simp only [hDs] <;> omega | simp [isCell]) [hRs, takeMarks, resA, resAll, resOne, Value.cells, F496, binA_quo (show b ≠ 0 by omega), binA_rem (show b ≠ 0 by omega), e1, e2, h]
    rw [h1]; exact hV
  · rw [if_neg h] at h1
    simp (disch := as_aux_lemma => first | omega | simp only [hDs] <;> omega | simp [isCell]) [hRs, takeMarks, resA, resAll, resOne, Value.cells, F496, binA_quo (show b ≠ 0 by omega), binA_rem (show b ≠ 0 by omega), e1, e2, h]
    rw [h1]; exact hV
theorem w480 {a : Int} (ha : -1000000000000000000 ≤ a ∧ a ≤ 1000000000000000000) (hV : V (.int .i64 (a / 86400000)) A) : WF AP KL g 480 [.int .i64 a, .int .i64 86400000] A V := by
  rw [WF_body rfl (show AP 480 = some F480 from rfl)]
  have h1 := floor_t (a := a) (show (0 : Int) < 86400000 by decide)
  have h2 := tdiv_abs (show (0 : Int) < 86400000 by decide) ha
  have h3 := Int.mul_tdiv_add_tmod a 86400000
  have h4 := Int.tmod_lt_of_pos a (show (0 : Int) < 86400000 by decide)
  have h5 := Int.lt_tmod_of_pos a (show (0 : Int) < 86400000 by decide)
  have e1 : wr .i64 (a.tdiv 86400000) = a.tdiv 86400000 := wrId (by omega) (by omega)
  have e2 : wr .i64 (a.tdiv 86400000 - 1) = a.tdiv 86400000 - 1 := wrId (by omega) (by omega)
  have e3 : wr .i64 (a.tdiv 86400000 * 86400000) = a.tdiv 86400000 * 86400000 := wrId (by omega) (by omega)
  by_cases h : a.tmod 86400000 < 0
  · rw [if_pos h] at h1
    simp (disch := as_aux_lemma => first | omega | simp only [hDs] <;> omega | simp [isCell]) [hRs, takeMarks, resA, resAll, resOne, Value.cells, F480, binA_quo (show (86400000 : Int) ≠ 0 by decide), e1, e2, e3, show a < a.tdiv 86400000 * 86400000 by omega]
    rw [h1]; exact hV
  · rw [if_neg h] at h1
    simp (disch := as_aux_lemma => first | omega | simp only [hDs] <;> omega | simp [isCell]) [hRs, takeMarks, resA, resAll, resOne, Value.cells, F480, binA_quo (show (86400000 : Int) ≠ 0 by decide), e1, e2, e3, show ¬ a < a.tdiv 86400000 * 86400000 by omega]
    rw [h1]; exact hV
theorem prod_rng {r u : Int} (hr : -1000 ≤ r ∧ r ≤ 1000) (hu : -2000000000 ≤ u ∧ u ≤ 2000000000) : -2000000000000 ≤ r * u ∧ r * u ≤ 2000000000000 := by
  have h := Int.natAbs_mul r u
  have h2 := Nat.mul_le_mul (show r.natAbs ≤ 1000 by omega) (show u.natAbs ≤ 2000000000 by omega)
  omega
theorem wr_1 : wr .i64 1 = 1 := rfl
theorem wr_2 : wr .i64 2 = 2 := rfl
set_option maxHeartbeats 2000000 in
theorem w478 {ce c0 c1 a0 a1 r0 r1 si no p q : Int} (hr : -1000 ≤ r0 ∧ r0 ≤ r1 ∧ r1 ≤ 1000) (hs : 0 ≤ si ∧ si ≤ 1000000000) (hp : 0 ≤ p ∧ p ≤ 1000000000) (hq : 0 ≤ q ∧ q ≤ 1000000000) (hg : g ≤ A.n)
    (hV : ∀ A', Ext' A A' → V (spV (dLo r0 r1 (p - si) (q - si)) (dHi r0 r1 (p - si) (q - si))) A') :
    WF AP KL g 478 [.agg ⟨[.int .i64 ce, .int .i64 c0, .int .i64 c1, .int .i64 a0, .int .i64 a1, .int .i64 r0, .int .i64 r1, .int .i64 si, .int .i64 no]⟩, spV p q] A V := by
  rw [WF_body rfl (show AP 478 = some F478 from rfl)]
  have m1 := prod_rng (r := r0) (u := p - si) (by omega) (by omega)
  have m2 := prod_rng (r := r0) (u := q - si) (by omega) (by omega)
  have m3 := prod_rng (r := r1) (u := p - si) (by omega) (by omega)
  have m4 := prod_rng (r := r1) (u := q - si) (by omega) (by omega)
  have e1 : wr .i64 (p - si) = p - si := wrId (by omega) (by omega)
  have e2 : wr .i64 (q - si) = q - si := wrId (by omega) (by omega)
  have hfin : spV (dLo r0 r1 (p - si) (q - si)) (dHi r0 r1 (p - si) (q - si)) = spV (min 1099511627776 (min (r0 * (p - si) / 86400000) (min (r0 * (q - si) / 86400000) (min (r1 * (p - si) / 86400000) (r1 * (q - si) / 86400000)))))
      (max (-1099511627776) (max (up8 (r0 * (p - si))) (max (up8 (r0 * (q - si))) (max (up8 (r1 * (p - si))) (up8 (r1 * (q - si))))))) := by
    unfold dLo dHi up8
    congr 5
    · omega
    · omega
  rw [hfin] at hV
  clear hfin
  generalize hn1 : r0 * (p - si) = n1 at *
  have fn1 : wr .i64 (r0 * (p - si)) = n1 := by rw [hn1]; exact wrId (by omega) (by omega)
  have gn1 : wr .i64 (-n1) = -n1 := wrId (by omega) (by omega)
  have kn1 : wr .i64 (-(-n1 / 86400000)) = up8 n1 := wrId (by omega) (by omega)
  generalize hn2 : r0 * (q - si) = n2 at *
  have fn2 : wr .i64 (r0 * (q - si)) = n2 := by rw [hn2]; exact wrId (by omega) (by omega)
  have gn2 : wr .i64 (-n2) = -n2 := wrId (by omega) (by omega)
  have kn2 : wr .i64 (-(-n2 / 86400000)) = up8 n2 := wrId (by omega) (by omega)
  generalize hn3 : r1 * (p - si) = n3 at *
  have fn3 : wr .i64 (r1 * (p - si)) = n3 := by rw [hn3]; exact wrId (by omega) (by omega)
  have gn3 : wr .i64 (-n3) = -n3 := wrId (by omega) (by omega)
  have kn3 : wr .i64 (-(-n3 / 86400000)) = up8 n3 := wrId (by omega) (by omega)
  generalize hn4 : r1 * (q - si) = n4 at *
  have fn4 : wr .i64 (r1 * (q - si)) = n4 := by rw [hn4]; exact wrId (by omega) (by omega)
  have gn4 : wr .i64 (-n4) = -n4 := wrId (by omega) (by omega)
  have kn4 : wr .i64 (-(-n4 / 86400000)) = up8 n4 := wrId (by omega) (by omega)
  simp (disch := as_aux_lemma => first | omega | simp only [hDs] <;> omega | simp [isCell]) [hRs, takeMarks, resA, resAll, resOne, Value.cells, F478, e1, e2, fn1, fn2, fn3, fn4, gn1, gn2, gn3, gn4, kn1, kn2, kn3, kn4, wr_1, wr_2, idxSA_ok, storeB_cells, setRange, set_push_eq, fillA, slitA, show zeros 2 [Value.int .i64 0] = [.int .i64 0, .int .i64 0] from rfl]
  rw [W_loop]
  simp (disch := as_aux_lemma => first | omega | simp only [hDs] <;> omega | simp [isCell]) [hRs, takeMarks, resA, resAll, resOne, Value.cells, e1, e2, fn1, fn2, fn3, fn4, gn1, gn2, gn3, gn4, kn1, kn2, kn3, kn4, wr_1, wr_2, idxSA_ok, storeB_cells, setRange, set_push_eq, fillA, slitA, show zeros 2 [Value.int .i64 0] = [.int .i64 0, .int .i64 0] from rfl]
  rw [W_loop]
  simp (disch := as_aux_lemma => first | omega | simp only [hDs] <;> omega | simp [isCell]) [hRs, takeMarks, resA, resAll, resOne, Value.cells, e1, e2, fn1, fn2, fn3, fn4, gn1, gn2, gn3, gn4, kn1, kn2, kn3, kn4, wr_1, wr_2, idxSA_ok, storeB_cells, setRange, set_push_eq, fillA, slitA, show zeros 2 [Value.int .i64 0] = [.int .i64 0, .int .i64 0] from rfl]
  refine w496 (by omega) (by omega) ?_
  simp (disch := as_aux_lemma => first | omega | simp only [hDs] <;> omega | simp [isCell]) [hRs, takeMarks, resA, resAll, resOne, Value.cells, e1, e2, fn1, fn2, fn3, fn4, gn1, gn2, gn3, gn4, kn1, kn2, kn3, kn4, wr_1, wr_2, idxSA_ok, storeB_cells, setRange, set_push_eq, fillA, slitA, show zeros 2 [Value.int .i64 0] = [.int .i64 0, .int .i64 0] from rfl]
  refine w496 (by omega) (by omega) ?_
  simp (disch := as_aux_lemma => first | omega | simp only [hDs] <;> omega | simp [isCell]) [hRs, takeMarks, resA, resAll, resOne, Value.cells, e1, e2, fn1, fn2, fn3, fn4, gn1, gn2, gn3, gn4, kn1, kn2, kn3, kn4, wr_1, wr_2, idxSA_ok, storeB_cells, setRange, set_push_eq, fillA, slitA, show zeros 2 [Value.int .i64 0] = [.int .i64 0, .int .i64 0] from rfl]
  rw [W_loop]
  simp (disch := as_aux_lemma => first | omega | simp only [hDs] <;> omega | simp [isCell]) [hRs, takeMarks, resA, resAll, resOne, Value.cells, e1, e2, fn1, fn2, fn3, fn4, gn1, gn2, gn3, gn4, kn1, kn2, kn3, kn4, wr_1, wr_2, idxSA_ok, storeB_cells, setRange, set_push_eq, fillA, slitA, show zeros 2 [Value.int .i64 0] = [.int .i64 0, .int .i64 0] from rfl]
  refine w496 (by omega) (by omega) ?_
  simp (disch := as_aux_lemma => first | omega | simp only [hDs] <;> omega | simp [isCell]) [hRs, takeMarks, resA, resAll, resOne, Value.cells, e1, e2, fn1, fn2, fn3, fn4, gn1, gn2, gn3, gn4, kn1, kn2, kn3, kn4, wr_1, wr_2, idxSA_ok, storeB_cells, setRange, set_push_eq, fillA, slitA, show zeros 2 [Value.int .i64 0] = [.int .i64 0, .int .i64 0] from rfl]
  refine w496 (by omega) (by omega) ?_
  simp (disch := as_aux_lemma => first | omega | simp only [hDs] <;> omega | simp [isCell]) [hRs, takeMarks, resA, resAll, resOne, Value.cells, e1, e2, fn1, fn2, fn3, fn4, gn1, gn2, gn3, gn4, kn1, kn2, kn3, kn4, wr_1, wr_2, idxSA_ok, storeB_cells, setRange, set_push_eq, fillA, slitA, show zeros 2 [Value.int .i64 0] = [.int .i64 0, .int .i64 0] from rfl]
  rw [W_loop]
  simp (disch := as_aux_lemma => first | omega | simp only [hDs] <;> omega | simp [isCell]) [hRs, takeMarks, resA, resAll, resOne, Value.cells, e1, e2, fn1, fn2, fn3, fn4, gn1, gn2, gn3, gn4, kn1, kn2, kn3, kn4, wr_1, wr_2, idxSA_ok, storeB_cells, setRange, set_push_eq, fillA, slitA, show zeros 2 [Value.int .i64 0] = [.int .i64 0, .int .i64 0] from rfl]
  rw [W_loop]
  simp (disch := as_aux_lemma => first | omega | simp only [hDs] <;> omega | simp [isCell]) [hRs, takeMarks, resA, resAll, resOne, Value.cells, e1, e2, fn1, fn2, fn3, fn4, gn1, gn2, gn3, gn4, kn1, kn2, kn3, kn4, wr_1, wr_2, idxSA_ok, storeB_cells, setRange, set_push_eq, fillA, slitA, show zeros 2 [Value.int .i64 0] = [.int .i64 0, .int .i64 0] from rfl]
  rw [W_loop]
  simp (disch := as_aux_lemma => first | omega | simp only [hDs] <;> omega | simp [isCell]) [hRs, takeMarks, resA, resAll, resOne, Value.cells, e1, e2, fn1, fn2, fn3, fn4, gn1, gn2, gn3, gn4, kn1, kn2, kn3, kn4, wr_1, wr_2, idxSA_ok, storeB_cells, setRange, set_push_eq, fillA, slitA, show zeros 2 [Value.int .i64 0] = [.int .i64 0, .int .i64 0] from rfl]
  refine w496 (by omega) (by omega) ?_
  simp (disch := as_aux_lemma => first | omega | simp only [hDs] <;> omega | simp [isCell]) [hRs, takeMarks, resA, resAll, resOne, Value.cells, e1, e2, fn1, fn2, fn3, fn4, gn1, gn2, gn3, gn4, kn1, kn2, kn3, kn4, wr_1, wr_2, idxSA_ok, storeB_cells, setRange, set_push_eq, fillA, slitA, show zeros 2 [Value.int .i64 0] = [.int .i64 0, .int .i64 0] from rfl]
  refine w496 (by omega) (by omega) ?_
  simp (disch := as_aux_lemma => first | omega | simp only [hDs] <;> omega | simp [isCell]) [hRs, takeMarks, resA, resAll, resOne, Value.cells, e1, e2, fn1, fn2, fn3, fn4, gn1, gn2, gn3, gn4, kn1, kn2, kn3, kn4, wr_1, wr_2, idxSA_ok, storeB_cells, setRange, set_push_eq, fillA, slitA, show zeros 2 [Value.int .i64 0] = [.int .i64 0, .int .i64 0] from rfl]
  rw [W_loop]
  simp (disch := as_aux_lemma => first | omega | simp only [hDs] <;> omega | simp [isCell]) [hRs, takeMarks, resA, resAll, resOne, Value.cells, e1, e2, fn1, fn2, fn3, fn4, gn1, gn2, gn3, gn4, kn1, kn2, kn3, kn4, wr_1, wr_2, idxSA_ok, storeB_cells, setRange, set_push_eq, fillA, slitA, show zeros 2 [Value.int .i64 0] = [.int .i64 0, .int .i64 0] from rfl]
  refine w496 (by omega) (by omega) ?_
  simp (disch := as_aux_lemma => first | omega | simp only [hDs] <;> omega | simp [isCell]) [hRs, takeMarks, resA, resAll, resOne, Value.cells, e1, e2, fn1, fn2, fn3, fn4, gn1, gn2, gn3, gn4, kn1, kn2, kn3, kn4, wr_1, wr_2, idxSA_ok, storeB_cells, setRange, set_push_eq, fillA, slitA, show zeros 2 [Value.int .i64 0] = [.int .i64 0, .int .i64 0] from rfl]
  refine w496 (by omega) (by omega) ?_
  simp (disch := as_aux_lemma => first | omega | simp only [hDs] <;> omega | simp [isCell]) [hRs, takeMarks, resA, resAll, resOne, Value.cells, e1, e2, fn1, fn2, fn3, fn4, gn1, gn2, gn3, gn4, kn1, kn2, kn3, kn4, wr_1, wr_2, idxSA_ok, storeB_cells, setRange, set_push_eq, fillA, slitA, show zeros 2 [Value.int .i64 0] = [.int .i64 0, .int .i64 0] from rfl]
  rw [W_loop]
  simp (disch := as_aux_lemma => first | omega | simp only [hDs] <;> omega | simp [isCell]) [hRs, takeMarks, resA, resAll, resOne, Value.cells, e1, e2, fn1, fn2, fn3, fn4, gn1, gn2, gn3, gn4, kn1, kn2, kn3, kn4, wr_1, wr_2, idxSA_ok, storeB_cells, setRange, set_push_eq, fillA, slitA, show zeros 2 [Value.int .i64 0] = [.int .i64 0, .int .i64 0] from rfl]
  rw [W_loop]
  simp (disch := as_aux_lemma => first | omega | simp only [hDs] <;> omega | simp [isCell]) [hRs, takeMarks, resA, resAll, resOne, Value.cells, e1, e2, fn1, fn2, fn3, fn4, gn1, gn2, gn3, gn4, kn1, kn2, kn3, kn4, wr_1, wr_2, idxSA_ok, storeB_cells, setRange, set_push_eq, fillA, slitA, show zeros 2 [Value.int .i64 0] = [.int .i64 0, .int .i64 0] from rfl]
  exact hV _ (by repeat (first | exact Ext'.push _ _ | refine Ext'.trans ?_ (Ext'.push _ _)))
end
end Go.Ab.Gauge
set_option maxRecDepth 100000
namespace Go.Ab.Gauge
open Go Go.Ab
structure Rdg where
  kd : Int
  gg : Int
  t0 : Int
  t1 : Int
  v0 : Int
  v1 : Int
def Rdg.cells (r : Rdg) : List Value := [.int .i64 r.kd, .int .i64 r.gg, .int .i64 r.t0, .int .i64 r.t1, .int .i64 r.v0, .int .i64 r.v1]
def Site.ga (x : Site) (r : Rdg) (j : Nat) : Int := gi x.gs (r.gg.toNat * 9 + j)
def Site.oLo (x : Site) (r : Rdg) : Int := r.t0 + x.ga r 1
def Site.oHi (x : Site) (r : Rdg) : Int := r.t1 + x.ga r 2
def Site.iLo (x : Site) (r : Rdg) : Int := r.t0 + x.ga r 2
def Site.iHi (x : Site) (r : Rdg) : Int := r.t1 + x.ga r 1
def Site.vLo (x : Site) (r : Rdg) : Int := r.v0 + x.ga r 3 + dLo (x.ga r 5) (x.ga r 6) (x.oLo r - x.ga r 7) (x.oHi r - x.ga r 7)
def Site.vHi (x : Site) (r : Rdg) : Int := r.v1 + x.ga r 4 + dHi (x.ga r 5) (x.ga r 6) (x.oLo r - x.ga r 7) (x.oHi r - x.ga r 7)
def Site.td (x : Site) (r : Rdg) : Int × Int := levelA x.mean x.pn x.ps (x.oLo r) (x.oHi r)
def Site.readE (x : Site) (r : Rdg) : Int :=
  if inB r.kd 1 4 = false then 2 else if inB r.gg 0 ((x.gn : Int) - 1) = false then 4 else
  if (validB r.t0 r.t1 (-100000000) 1100000000 && validB r.v0 r.v1 (-20000) 20000) = false then 3 else
  if validB (x.oLo r) (x.oHi r) 0 1000000000 = false then 3 else 0
def Site.shC (x : Site) (r : Rdg) : List Value := [.int .i64 r.kd, .int .i64 r.gg, .int .i64 r.t0, .int .i64 r.t1, .int .i64 r.v0, .int .i64 r.v1,
  .int .i64 (x.ga r 0), .int .i64 (x.ga r 1), .int .i64 (x.ga r 2), .int .i64 (x.ga r 3), .int .i64 (x.ga r 4), .int .i64 (x.ga r 5), .int .i64 (x.ga r 6), .int .i64 (x.ga r 7), .int .i64 (x.ga r 8),
  .int .i64 (x.oLo r), .int .i64 (x.oHi r), .int .i64 (x.iLo r), .int .i64 (x.iHi r), .int .i64 (x.vLo r), .int .i64 (x.vHi r), .int .i64 (x.td r).1, .int .i64 (x.td r).2]
def z23 : List Value := [.int .i64 0, .int .i64 0, .int .i64 0, .int .i64 0, .int .i64 0, .int .i64 0, .int .i64 0, .int .i64 0, .int .i64 0, .int .i64 0, .int .i64 0, .int .i64 0, .int .i64 0, .int .i64 0, .int .i64 0, .int .i64 0, .int .i64 0, .int .i64 0, .int .i64 0, .int .i64 0, .int .i64 0, .int .i64 0, .int .i64 0]
structure GauOk (x : Site) (i : Nat) : Prop where
  cell : 0 ≤ gi x.gs (i * 9) ∧ gi x.gs (i * 9) ≤ (x.m : Int) - 1
  sea : 1 ≤ x.lo - gi x.zs ((gi x.gs (i * 9)).toNat * 2 + 1)
  clock : -100000000 ≤ gi x.gs (i * 9 + 1) ∧ gi x.gs (i * 9 + 1) ≤ gi x.gs (i * 9 + 2) ∧ gi x.gs (i * 9 + 2) ≤ 100000000
  datum : -10000 ≤ gi x.gs (i * 9 + 3) ∧ gi x.gs (i * 9 + 3) ≤ gi x.gs (i * 9 + 4) ∧ gi x.gs (i * 9 + 4) ≤ 10000
  drift : -1000 ≤ gi x.gs (i * 9 + 5) ∧ gi x.gs (i * 9 + 5) ≤ gi x.gs (i * 9 + 6) ∧ gi x.gs (i * 9 + 6) ≤ 1000
  since : 0 ≤ gi x.gs (i * 9 + 7) ∧ gi x.gs (i * 9 + 7) ≤ 1000000000
  notice : 0 ≤ gi x.gs (i * 9 + 8) ∧ gi x.gs (i * 9 + 8) ≤ 5000
theorem gau_ok {x : Site} {i : Nat} (h : x.gauE i = 0) : GauOk x i := by
  unfold Site.gauE gauE at h
  split at h
  · cases h
  rename_i h1
  split at h
  · cases h
  rename_i h2
  split at h
  · rename_i h3
    simp only [Bool.and_eq_true, validB_iff, inB_iff] at h3
    simp only [Bool.not_eq_false, inB_iff] at h1
    obtain ⟨a, b, c, d, e⟩ := h3
    exact ⟨by omega, by omega, by omega, by omega, by omega, by omega, by omega⟩
  · cases h
theorem gaus_ok {x : Site} : ∀ {k : Nat}, x.gauS k = 0 → ∀ i, i < k → GauOk x i
  | 0, _, i, hi => by omega
  | k + 1, h, i, hi => by
    rw [Site.gauS] at h
    split at h
    · rename_i h0
      by_cases hik : i = k
      · subst hik; exact gau_ok h
      · exact gaus_ok h0 i (by omega)
    · rename_i h0; exact absurd h h0
theorem site_ok {x : Site} (h : x.E = 0) : tideE x.mean x.pn x.ps = 0 ∧ x.gn ≤ 32 ∧ (∀ i, i < x.gn → GauOk x i) ∧ (-20000 ≤ x.lo ∧ x.lo ≤ x.hi ∧ x.hi ≤ 20000) ∧ waveE x.k0 x.k1 x.l0 x.l1 x.o0 x.o1 = 0 := by
  unfold Site.E at h
  split at h
  · rename_i h1; exact absurd h h1
  split at h
  · rename_i h1; exact absurd h h1
  rename_i h2
  split at h
  · cases h
  rename_i h3
  split at h
  · rename_i h1; exact absurd h h1
  rename_i h4
  split at h
  · cases h
  rename_i h5
  simp only [Bool.not_eq_false, validB_iff] at h3
  exact ⟨by omega, by omega, gaus_ok h, by omega, by omega⟩
theorem off_rng {r0 r1 p q : Int} (hr : -1000 ≤ r0 ∧ r0 ≤ r1 ∧ r1 ≤ 1000) (hp : -2000000000 ≤ p ∧ p ≤ 2000000000) (hq : -2000000000 ≤ q ∧ q ≤ 2000000000) : (-30000 ≤ dLo r0 r1 p q ∧ dLo r0 r1 p q ≤ 30000) ∧ (-30000 ≤ dHi r0 r1 p q ∧ dHi r0 r1 p q ≤ 30000) := by
  have m1 := prod_rng (r := r0) (u := p) (by omega) hp
  have m2 := prod_rng (r := r0) (u := q) (by omega) hq
  have m3 := prod_rng (r := r1) (u := p) (by omega) hp
  have m4 := prod_rng (r := r1) (u := q) (by omega) hq
  unfold dLo dHi up8
  omega
section
variable {g : Nat} {rd : Option Nat} {T : List Value} {D : List Nat} {A : Hp} {Q : Ex → St → Prop} {V : Value → Hp → Prop}
set_option maxHeartbeats 2000000 in
theorem w445 {x : Site} {r : Rdg} {X : Nat} {gl tl ul mp : Value} (hI : SiteIn A x gl tl ul) (hok : x.E = 0) (hX : A.get X = some (.cells (x.st gl tl ul mp) false)) (hg : g ≤ A.n)
    (hE : ∀ A', Ext' A A' → x.readE r ≠ 0 → V (.tuple ⟨[.agg ⟨z23⟩, .int .i64 (x.readE r)]⟩) A')
    (hK : ∀ A', Ext' A A' → x.readE r = 0 → V (.tuple ⟨[.agg ⟨x.shC r⟩, .int .i64 0]⟩) A') : WF AP KL g 445 [.pointer (some ⟨X, 0, none⟩), .agg ⟨r.cells⟩] A V := by
  obtain ⟨kd, gg, t0, t1, v0, v1⟩ := r
  rw [WF_body rfl (show AP 445 = some F445 from rfl)]
  obtain ⟨hT, hgn, hga, _, _⟩ := site_ok hok
  have hTO := tide_ok hT
  have hul := hI.ul.len
  have hn := Hp.lt_of_get hX
  have hgl : x.gs.length = x.gn * 9 := by have := hI.ul.1; simpa using this
  unfold Site.st at hX
  have e1 : wr .i64 ((x.gn : Int) - 1) = (x.gn : Int) - 1 := wrId (by omega) (by omega)
  generalize hB : (A.push (.cells [.int .i64 kd, .int .i64 gg, .int .i64 t0, .int .i64 t1, .int .i64 v0, .int .i64 v1] false)).push (.cells z23 false) = B
  have eB : Ext' A B := by rw [← hB]; exact (Ext'.push _ _).trans (Ext'.push _ _)
  have nB : B.n = A.n + 2 := by rw [← hB]; rfl
  have b3 : B.get A.n = some (.cells [.int .i64 kd, .int .i64 gg, .int .i64 t0, .int .i64 t1, .int .i64 v0, .int .i64 v1] false) := by rw [← hB, get_push_old (by simp), get_push_new]
  have b4 : B.get (A.n + 1) = some (.cells z23 false) := by rw [← hB, get_push_eq (by simp)]
  have bX := eB.get hX
  have fin : ∀ {B' : Hp} (c : List Value), Ext' B B' → Ext' A (B'.set (A.n + 1) (some (.cells c false))) := fun c e => ⟨by have := e.1; simp; omega, fun z hz => by rw [get_set_ne (Hp.lt_of_get (e.get b4)) (by omega), e.2 z (by omega), eB.2 z hz]⟩
  unfold Site.readE at hE hK
  simp only at hE hK
  have hz : ∀ {B' : Hp}, Ext' B B' → B'.get (A.n + 1) = some (.cells z23 false) := fun e => e.get b4
  have finz : ∀ {B' : Hp}, Ext' B B' → Ext' A (B'.set (A.n + 1) (some (.cells z23 false))) := fun e => fin _ e
  unfold z23 at hB hE hz finz
  simp (disch := as_aux_lemma => first | omega | simp only [hDs] <;> omega | simp [isCell]) [hRs, takeMarks, resA, resAll, resOne, Value.cells, F445, Rdg.cells, hB, b3]
  refine w458 ?_
  cases h1 : inB kd 1 4 with
  | false =>
    have c4 := hz (Ext'.refl B)
    simp (disch := as_aux_lemma => first | omega | simp only [hDs] <;> omega | simp [isCell]) [hRs, takeMarks, resA, resAll, resOne, Value.cells, fillA, setRange, storeB_cells, c4, get_set_same c4]
    have := hE _ (finz (Ext'.refl B))
    simp [h1] at this
    exact this
  | true =>
    simp (disch := as_aux_lemma => first | omega | simp only [hDs] <;> omega | simp [isCell]) [hRs, takeMarks, resA, resAll, resOne, Value.cells, b3, bX, hul, e1]
    refine w458 ?_
    cases h2 : inB gg 0 ((x.gn : Int) - 1) with
    | false =>
      have c4 := hz (Ext'.refl B)
      simp (disch := as_aux_lemma => first | omega | simp only [hDs] <;> omega | simp [isCell]) [hRs, takeMarks, resA, resAll, resOne, Value.cells, fillA, setRange, storeB_cells, c4, get_set_same c4]
      have := hE _ (finz (Ext'.refl B))
      simp [h1, h2] at this
      exact this
    | true =>
      have h2' := inB_iff.1 h2
      simp (disch := as_aux_lemma => first | omega | simp only [hDs] <;> omega | simp [isCell]) [hRs, takeMarks, resA, resAll, resOne, Value.cells, b3]
      refine w476 fun B1 f1 => ?_
      have d3 := f1.get b3
      cases h3 : validB t0 t1 (-100000000) 1100000000 with
      | false =>
        have c4 := hz f1
        simp (disch := as_aux_lemma => first | omega | simp only [hDs] <;> omega | simp [isCell]) [hRs, takeMarks, resA, resAll, resOne, Value.cells, fillA, setRange, storeB_cells, c4, get_set_same c4]
        have := hE _ (finz f1)
        simp [h1, h2, h3] at this
        exact this
      | true =>
        simp (disch := as_aux_lemma => first | omega | simp only [hDs] <;> omega | simp [isCell]) [hRs, takeMarks, resA, resAll, resOne, Value.cells, d3]
        refine w476 fun B2 f2 => ?_
        have f12 := f1.trans f2
        have g3 := f2.get d3
        have gX := f12.get bX
        cases h4 : validB v0 v1 (-20000) 20000 with
        | false =>
          have c4 := hz f12
          simp (disch := as_aux_lemma => first | omega | simp only [hDs] <;> omega | simp [isCell]) [hRs, takeMarks, resA, resAll, resOne, Value.cells, fillA, setRange, storeB_cells, c4, get_set_same c4]
          have := hE _ (finz f12)
          simp [h1, h2, h3, h4] at this
          exact this
        | true =>
          simp only [h1, h2, h3, h4, Bool.true_eq_false, if_false, Bool.and_true] at hE hK
          have hv3 := validB_iff.1 h3
          have hv4 := validB_iff.1 h4
          obtain ⟨xb, xc, xr, hsq, hxb⟩ := ((eB.trans f12).rdS hI.ul).at (show gg.toNat < x.gn by omega)
          have G := hga gg.toNat (by omega)
          have n2 := f12.1
          obtain ⟨q1, q2, q3, q4, q5, q6, q7⟩ := G
          have w1 : wr .i64 (t0 + gi x.gs (gg.toNat * 9 + 1)) = t0 + gi x.gs (gg.toNat * 9 + 1) := wrId (by omega) (by omega)
          have w2 : wr .i64 (t1 + gi x.gs (gg.toNat * 9 + 2)) = t1 + gi x.gs (gg.toNat * 9 + 2) := wrId (by omega) (by omega)
          have w3 : wr .i64 (t0 + gi x.gs (gg.toNat * 9 + 2)) = t0 + gi x.gs (gg.toNat * 9 + 2) := wrId (by omega) (by omega)
          have w4 : wr .i64 (t1 + gi x.gs (gg.toNat * 9 + 1)) = t1 + gi x.gs (gg.toNat * 9 + 1) := wrId (by omega) (by omega)
          simp (disch := as_aux_lemma => first | omega | simp only [hDs] <;> omega | simp [isCell]) [hRs, takeMarks, resA, resAll, resOne, Value.cells, g3, gX, hsq, show gg < x.gn by omega, idxSA_ok, hxb, ints_9, storeB_cells, setRange, set_push_eq, fillA, w1, w2, w3, w4]
          have o1 : x.oLo ⟨kd, gg, t0, t1, v0, v1⟩ = t0 + gi x.gs (gg.toNat * 9 + 1) := rfl
          have o2 : x.oHi ⟨kd, gg, t0, t1, v0, v1⟩ = t1 + gi x.gs (gg.toNat * 9 + 2) := rfl
          refine w476 fun B3 f3 => ?_
          have s3 := (Ext'.push B2 _).trans ((Ext'.push _ _).trans f3)
          have f13 := f12.trans s3
          rw [o1, o2] at hE hK
          cases h5 : validB (t0 + gi x.gs (gg.toNat * 9 + 1)) (t1 + gi x.gs (gg.toNat * 9 + 2)) 0 1000000000 with
          | false =>
            have c4 := hz f13
            simp (disch := as_aux_lemma => first | omega | simp only [hDs] <;> omega | simp [isCell]) [hRs, takeMarks, resA, resAll, resOne, Value.cells, fillA, setRange, storeB_cells, c4, get_set_same c4]
            have := hE _ (finz f13)
            simp [h5] at this
            exact this
          | true =>
            have hv5 := validB_iff.1 h5
            have p6 : B3.get B2.n = some (.cells [.int .i64 (gi x.gs (gg.toNat * 9)), .int .i64 (gi x.gs (gg.toNat * 9 + 1)), .int .i64 (gi x.gs (gg.toNat * 9 + 2)), .int .i64 (gi x.gs (gg.toNat * 9 + 3)), .int .i64 (gi x.gs (gg.toNat * 9 + 4)), .int .i64 (gi x.gs (gg.toNat * 9 + 5)), .int .i64 (gi x.gs (gg.toNat * 9 + 6)), .int .i64 (gi x.gs (gg.toNat * 9 + 7)), .int .i64 (gi x.gs (gg.toNat * 9 + 8))] false) := f3.get (by rw [get_push_old (by simp), get_push_new])
            have p7 : B3.get (B2.n + 1) = some (.cells [.int .i64 kd, .int .i64 gg, .int .i64 t0, .int .i64 t1, .int .i64 v0, .int .i64 v1, .int .i64 (gi x.gs (gg.toNat * 9)), .int .i64 (gi x.gs (gg.toNat * 9 + 1)), .int .i64 (gi x.gs (gg.toNat * 9 + 2)), .int .i64 (gi x.gs (gg.toNat * 9 + 3)), .int .i64 (gi x.gs (gg.toNat * 9 + 4)), .int .i64 (gi x.gs (gg.toNat * 9 + 5)), .int .i64 (gi x.gs (gg.toNat * 9 + 6)), .int .i64 (gi x.gs (gg.toNat * 9 + 7)), .int .i64 (gi x.gs (gg.toNat * 9 + 8)), .int .i64 (t0 + gi x.gs (gg.toNat * 9 + 1)), .int .i64 (t1 + gi x.gs (gg.toNat * 9 + 2)), .int .i64 (t0 + gi x.gs (gg.toNat * 9 + 2)), .int .i64 (t1 + gi x.gs (gg.toNat * 9 + 1)), .int .i64 0, .int .i64 0, .int .i64 0, .int .i64 0] false) := f3.get (by rw [get_push_eq (by simp)])
            have n3 := f13.1
            simp (disch := as_aux_lemma => first | omega | simp only [hDs] <;> omega | simp [isCell]) [hRs, takeMarks, resA, resAll, resOne, Value.cells, p6, p7]
            refine w478 (by omega) (by omega) (by omega) (by omega) (by omega) fun B4 f4 => ?_
            have f14 := f13.trans f4
            have g6 := f4.get p6
            have g7 := f4.get p7
            have gb3 := f14.get b3
            have gbX := f14.get bX
            have c4 := hz f14
            have n7 := Hp.lt_of_get g7
            have n4 := f14.1
            obtain ⟨y1, y2⟩ := off_rng (r0 := gi x.gs (gg.toNat * 9 + 5)) (r1 := gi x.gs (gg.toNat * 9 + 6)) (p := t0 + gi x.gs (gg.toNat * 9 + 1) - gi x.gs (gg.toNat * 9 + 7)) (q := t1 + gi x.gs (gg.toNat * 9 + 2) - gi x.gs (gg.toNat * 9 + 7)) (by omega) (by omega) (by omega)
            generalize hy1 : dLo (gi x.gs (gg.toNat * 9 + 5)) (gi x.gs (gg.toNat * 9 + 6)) (t0 + gi x.gs (gg.toNat * 9 + 1) - gi x.gs (gg.toNat * 9 + 7)) (t1 + gi x.gs (gg.toNat * 9 + 2) - gi x.gs (gg.toNat * 9 + 7)) = u1 at *
            generalize hy2 : dHi (gi x.gs (gg.toNat * 9 + 5)) (gi x.gs (gg.toNat * 9 + 6)) (t0 + gi x.gs (gg.toNat * 9 + 1) - gi x.gs (gg.toNat * 9 + 7)) (t1 + gi x.gs (gg.toNat * 9 + 2) - gi x.gs (gg.toNat * 9 + 7)) = u2 at *
            have w5 : wr .i64 (v0 + gi x.gs (gg.toNat * 9 + 3)) = v0 + gi x.gs (gg.toNat * 9 + 3) := wrId (by omega) (by omega)
            have w6 : wr .i64 (v0 + gi x.gs (gg.toNat * 9 + 3) + u1) = v0 + gi x.gs (gg.toNat * 9 + 3) + u1 := wrId (by omega) (by omega)
            have w7 : wr .i64 (v1 + gi x.gs (gg.toNat * 9 + 4)) = v1 + gi x.gs (gg.toNat * 9 + 4) := wrId (by omega) (by omega)
            have w8 : wr .i64 (v1 + gi x.gs (gg.toNat * 9 + 4) + u2) = v1 + gi x.gs (gg.toNat * 9 + 4) + u2 := wrId (by omega) (by omega)
            have st : ∀ (b : ABlk), (B4.set (B2.n + 1) (some b)).get (B2.n + 1) = some b := fun b => get_set_same g7
            have bx2 : ∀ (b : ABlk), (B4.set (B2.n + 1) (some b)).get X = B4.get X := fun b => get_set_ne n7 (by omega)
            simp (disch := as_aux_lemma => first | omega | simp only [hDs] <;> omega | simp [isCell]) [hRs, takeMarks, resA, resAll, resOne, Value.cells, g6, g7, gb3, gbX, storeB_cells, setRange, set_push_eq, fillA, w5, w6, w7, w8, st, bx2]
            generalize hC : (B4.set (B2.n + 1) (some (.cells [.int .i64 kd, .int .i64 gg, .int .i64 t0, .int .i64 t1, .int .i64 v0, .int .i64 v1, .int .i64 (gi x.gs (gg.toNat * 9)), .int .i64 (gi x.gs (gg.toNat * 9 + 1)), .int .i64 (gi x.gs (gg.toNat * 9 + 2)), .int .i64 (gi x.gs (gg.toNat * 9 + 3)), .int .i64 (gi x.gs (gg.toNat * 9 + 4)), .int .i64 (gi x.gs (gg.toNat * 9 + 5)), .int .i64 (gi x.gs (gg.toNat * 9 + 6)), .int .i64 (gi x.gs (gg.toNat * 9 + 7)), .int .i64 (gi x.gs (gg.toNat * 9 + 8)), .int .i64 (t0 + gi x.gs (gg.toNat * 9 + 1)), .int .i64 (t1 + gi x.gs (gg.toNat * 9 + 2)), .int .i64 (t0 + gi x.gs (gg.toNat * 9 + 2)), .int .i64 (t1 + gi x.gs (gg.toNat * 9 + 1)), .int .i64 (v0 + gi x.gs (gg.toNat * 9 + 3) + u1), .int .i64 (v1 + gi x.gs (gg.toNat * 9 + 4) + u2), .int .i64 0, .int .i64 0] false))).push (.cells [.int .i64 u1, .int .i64 u2] false) = C
            have nC : C.n = B4.n + 1 := by rw [← hC]; rfl
            have h7 : C.get (B2.n + 1) = some (.cells [.int .i64 kd, .int .i64 gg, .int .i64 t0, .int .i64 t1, .int .i64 v0, .int .i64 v1, .int .i64 (gi x.gs (gg.toNat * 9)), .int .i64 (gi x.gs (gg.toNat * 9 + 1)), .int .i64 (gi x.gs (gg.toNat * 9 + 2)), .int .i64 (gi x.gs (gg.toNat * 9 + 3)), .int .i64 (gi x.gs (gg.toNat * 9 + 4)), .int .i64 (gi x.gs (gg.toNat * 9 + 5)), .int .i64 (gi x.gs (gg.toNat * 9 + 6)), .int .i64 (gi x.gs (gg.toNat * 9 + 7)), .int .i64 (gi x.gs (gg.toNat * 9 + 8)), .int .i64 (t0 + gi x.gs (gg.toNat * 9 + 1)), .int .i64 (t1 + gi x.gs (gg.toNat * 9 + 2)), .int .i64 (t0 + gi x.gs (gg.toNat * 9 + 2)), .int .i64 (t1 + gi x.gs (gg.toNat * 9 + 1)), .int .i64 (v0 + gi x.gs (gg.toNat * 9 + 3) + u1), .int .i64 (v1 + gi x.gs (gg.toNat * 9 + 4) + u2), .int .i64 0, .int .i64 0] false) := by rw [← hC, get_push_old (by simp; omega), st]
            have eC : Ext' B C := ⟨by omega, fun z hz => by rw [← hC, get_push_old (by simp; omega), get_set_ne n7 (by omega), f14.2 z hz]⟩
            refine w479 ((eB.trans eC).rdS hI.tl) hT (by omega) (by omega) fun C1 fC => ?_
            have j7 := fC.get h7
            have j4 := hz (eC.trans fC)
            have nj := fC.1
            have n77 := Hp.lt_of_get j7
            have st1 : ∀ (b : ABlk), (C1.set (B2.n + 1) (some b)).get (B2.n + 1) = some b := fun b => get_set_same j7
            have st2 : ∀ (b : ABlk), (C1.set (B2.n + 1) (some b)).get (A.n + 1) = C1.get (A.n + 1) := fun b => get_set_ne n77 (by omega)
            have st3 : ∀ (b c : ABlk), ((C1.set (B2.n + 1) (some b)).set (A.n + 1) (some c)).get (A.n + 1) = some c := fun b c => get_set_same (by rw [st2]; exact j4)
            simp (disch := as_aux_lemma => first | omega | simp only [hDs] <;> omega | simp [isCell]) [hRs, takeMarks, resA, resAll, resOne, Value.cells, j7, j4, storeB_cells, setRange, set_push_eq, fillA, st1, st2, st3]
            have hfin : ∀ (b c : ABlk) (d : ABlk), Ext' A (((C1.set (B2.n + 1) (some b)).set (A.n + 1) (some c)).push d) := fun b c d => ⟨by simp; omega, fun z hz => by
              rw [get_push_old (by simp; omega), get_set_ne (by simp; omega) (by omega), get_set_ne n77 (by omega), fC.2 z (by omega), eC.2 z (by omega), eB.2 z hz]⟩
            simp only [Site.shC, Site.ga, Site.oLo, Site.oHi, Site.iLo, Site.iHi, Site.vLo, Site.vHi, Site.td, Nat.add_zero, hy1, hy2] at hK
            exact hK _ (hfin _ _ _) (by simp [h5])
end
end Go.Ab.Gauge
set_option maxRecDepth 100000
namespace Go.Ab.Gauge
open Go Go.Ab
abbrev tI : Ty := .int .i64
abbrev tSpan : Ty := .pair tI (.pair tI .unit)
abbrev tPart : Ty := .pair tI (.pair tI (.pair tI .unit))
abbrev tGau : Ty := .pair tI (.pair tSpan (.pair tSpan (.pair tSpan (.pair tI (.pair tI .unit)))))
abbrev tGrid : Ty := .pair tI (.pair tI (.pair tI (.pair (.slice tSpan) .unit)))
abbrev tTide : Ty := .pair tI (.pair (.slice tPart) .unit)
abbrev tWave : Ty := .pair tSpan (.pair tSpan (.pair tSpan .unit))
def tSite : Ty := .pair tGrid (.pair tTide (.pair tWave (.pair (.slice tGau) .unit)))
def tRdg : Ty := .pair tI (.pair tI (.pair tSpan (.pair tSpan .unit)))
theorem sh_sp {rows : List (List Value)} {cs : List Value} (h : Sh rows tSpan cs) : ∃ a b : Int, cs = [.int .i64 a, .int .i64 b] := by
  obtain ⟨_, _, rfl, h1, ⟨_, _, rfl, h2, rfl⟩⟩ := h
  obtain ⟨a, rfl, _⟩ := sh_int h1
  obtain ⟨b, rfl, _⟩ := sh_int h2
  exact ⟨a, b, rfl⟩
theorem sh_site {rows : List (List Value)} {cs : List Value} (h : Sh rows tSite cs) : ∃ (x : Site) (gl tl ul : Value), mkV tSite cs = .agg ⟨x.cells gl tl ul⟩ ∧ SiteIn (roHp rows) x gl tl ul := by
  obtain ⟨_, _, rfl, hg, ⟨_, _, rfl, ht, ⟨_, _, rfl, hw, ⟨_, _, rfl, hu, rfl⟩⟩⟩⟩ := h
  obtain ⟨_, _, rfl, h1, ⟨_, _, rfl, h2, ⟨_, _, rfl, h3, ⟨_, _, rfl, h4, rfl⟩⟩⟩⟩ := hg
  obtain ⟨w, rfl, _⟩ := sh_int h1
  obtain ⟨hh, rfl, _⟩ := sh_int h2
  obtain ⟨s, rfl, _⟩ := sh_int h3
  obtain ⟨m, zs, gl, rfl, rg, _, _⟩ := sh_slice_k (k := .i64) rfl h4
  obtain ⟨_, _, rfl, h5, ⟨_, _, rfl, h6, rfl⟩⟩ := ht
  obtain ⟨mean, rfl, _⟩ := sh_int h5
  obtain ⟨pn, ps, tl, rfl, rt, _, _⟩ := sh_slice_k (k := .i64) rfl h6
  obtain ⟨_, _, rfl, h7, ⟨_, _, rfl, h8, ⟨_, _, rfl, h9, rfl⟩⟩⟩ := hw
  obtain ⟨k0, k1, rfl⟩ := sh_sp h7
  obtain ⟨l0, l1, rfl⟩ := sh_sp h8
  obtain ⟨o0, o1, rfl⟩ := sh_sp h9
  obtain ⟨gn, gs, ul, rfl, ru, _, _⟩ := sh_slice_k (k := .i64) rfl hu
  exact ⟨⟨w, hh, s, m, zs, mean, pn, ps, k0, k1, l0, l1, o0, o1, gn, gs⟩, gl, tl, ul, rfl, ⟨rg, rt, ru⟩⟩
theorem sh_rdg {rows : List (List Value)} {cs : List Value} (h : Sh rows tRdg cs) : ∃ r : Rdg, mkV tRdg cs = .agg ⟨r.cells⟩ := by
  obtain ⟨_, _, rfl, h1, ⟨_, _, rfl, h2, ⟨_, _, rfl, h3, ⟨_, _, rfl, h4, rfl⟩⟩⟩⟩ := h
  obtain ⟨a, rfl, _⟩ := sh_int h1
  obtain ⟨b, rfl, _⟩ := sh_int h2
  obtain ⟨c, d, rfl⟩ := sh_sp h3
  obtain ⟨e, f, rfl⟩ := sh_sp h4
  exact ⟨⟨a, b, c, d, e, f⟩, rfl⟩
theorem SiteIn.more {rows rows' : List (List Value)} {x : Site} {gl tl ul : Value} (h : SiteIn (roHp rows) x gl tl ul) (m : ∀ (i : Nat) r, rows[i]? = some r → rows'[i]? = some r) : SiteIn (roHp rows') x gl tl ul :=
  ⟨h.gl.more m, h.tl.more m, h.ul.more m⟩
end Go.Ab.Gauge
set_option maxRecDepth 100000
namespace Go.Ab.Gauge
open Go Go.Ab
def Site.shE (x : Site) (r : Rdg) : Int := if x.E = 0 then x.readE r else x.E
def Site.shV (x : Site) (r : Rdg) : Value :=
  if x.shE r = 0 then .tuple ⟨[spV (x.oLo r) (x.oHi r), spV (x.vLo r) (x.vHi r), .int .i64 0]⟩ else .tuple ⟨[spV 0 0, spV 0 0, .int .i64 (x.shE r)]⟩
section
variable {g : Nat} {rd : Option Nat} {T : List Value} {D : List Nat} {A : Hp} {Q : Ex → St → Prop} {V : Value → Hp → Prop}
theorem w407 {x : Site} {r : Rdg} {gl tl ul : Value} (hI : SiteIn A x gl tl ul) (hS : Small x) (hg : g ≤ A.n) (hV : ∀ A', Ext' A A' → V (x.shV r) A') : WF AP KL g 407 [.agg ⟨x.cells gl tl ul⟩, .agg ⟨r.cells⟩] A V := by
  rw [WF_body rfl (show AP 407 = some F407 from rfl)]
  generalize hB : (((A.push (.cells (x.cells gl tl ul) false)).push (.cells r.cells false)).push (.cells [.int .i64 0, .int .i64 0] false)).push (.cells [.int .i64 0, .int .i64 0] false) = B
  have eB : Ext' A B := by rw [← hB]; exact (((Ext'.push _ _).trans (Ext'.push _ _)).trans (Ext'.push _ _)).trans (Ext'.push _ _)
  have nB : B.n = A.n + 4 := by rw [← hB]; rfl
  have b2 : B.get A.n = some (.cells (x.cells gl tl ul) false) := by rw [← hB, get_push_old (by simp <;> omega), get_push_old (by simp <;> omega), get_push_old (by simp), get_push_new]
  have b3 : B.get (A.n + 1) = some (.cells r.cells false) := by rw [← hB, get_push_old (by simp <;> omega), get_push_old (by simp), get_push_eq (by simp)]
  have b4 : B.get (A.n + 2) = some (.cells [.int .i64 0, .int .i64 0] false) := by rw [← hB, get_push_old (by simp), get_push_eq (by simp)]
  have b5 : B.get (A.n + 3) = some (.cells [.int .i64 0, .int .i64 0] false) := by rw [← hB, get_push_eq (by simp)]
  have fin : ∀ {C : Hp} (b c : ABlk), Ext' B C → Ext' A ((C.set (A.n + 2) (some b)).set (A.n + 3) (some c)) := fun {C} b c e => ⟨by have := e.1; simp; omega, fun z hz => by
    have := e.1
    rw [get_set_ne (by simp; omega) (by omega), get_set_ne (by omega) (by omega), e.2 z (by omega), eB.2 z hz]⟩
  have hV2 : ∀ v, x.shV r = v → ∀ A', Ext' A A' → V v A' := fun v h A' e => h ▸ hV A' e
  have lc : (x.cells gl tl ul).length = 13 := rfl
  have lr : r.cells.length = 6 := rfl
  simp (disch := as_aux_lemma => first | omega | simp only [hDs] <;> omega | simp [isCell]) [hRs, takeMarks, resA, resAll, resOne, Value.cells, F407, hB, b2, lc]
  refine w444 (x := x) (hI.ext eB) hS (by omega) (fun B1 e1 h1 => ?_) (fun B1 X M e1 h1 hz hT hX1 hM1 hXM hX hM => ?_)
  · have c4 := e1.get b4
    have c5 := e1.get b5
    have n5 := Hp.lt_of_get c5
    have st1 : ∀ (b : ABlk), (B1.set (A.n + 2) (some b)).get (A.n + 3) = B1.get (A.n + 3) := fun b => get_set_ne (by omega) (by omega)
    have st2 : ∀ (b c : ABlk), ((B1.set (A.n + 2) (some b)).set (A.n + 3) (some c)).get (A.n + 2) = some b := fun b c => by rw [get_set_ne (by simp; omega) (by omega), get_set_same c4]
    have st3 : ∀ (b c : ABlk), ((B1.set (A.n + 2) (some b)).set (A.n + 3) (some c)).get (A.n + 3) = some c := fun b c => get_set_same (by rw [st1]; exact c5)
    simp (disch := as_aux_lemma => first | omega | simp only [hDs] <;> omega | simp [isCell]) [hRs, takeMarks, resA, resAll, resOne, Value.cells, h1, fillA, setRange, storeB_cells, c4, c5, st1, st2, st3]
    exact hV2 _ (by simp [Site.shV, Site.shE, h1]) _ (fin _ _ e1)
  · have c4 := e1.get b4
    have c5 := e1.get b5
    have c3 := e1.get b3
    have n5 := Hp.lt_of_get c5
    simp (disch := as_aux_lemma => first | omega | simp only [hDs] <;> omega | simp [isCell]) [hRs, takeMarks, resA, resAll, resOne, Value.cells, c3, lr]
    have n1 := e1.1
    have fb := eB.trans e1
    refine w445 (x := x) (r := r) (hI.ext fb) h1 hX (by omega) (fun C e2 h2 => ?_) (fun C e2 h2 => ?_)
    · have d4 := e2.get c4
      have d5 := e2.get c5
      have m5 := Hp.lt_of_get d5
      have st1 : ∀ (b : ABlk), (C.set (A.n + 2) (some b)).get (A.n + 3) = C.get (A.n + 3) := fun b => get_set_ne (by omega) (by omega)
      have st2 : ∀ (b c : ABlk), ((C.set (A.n + 2) (some b)).set (A.n + 3) (some c)).get (A.n + 2) = some b := fun b c => by rw [get_set_ne (by simp; omega) (by omega), get_set_same d4]
      have st3 : ∀ (b c : ABlk), ((C.set (A.n + 2) (some b)).set (A.n + 3) (some c)).get (A.n + 3) = some c := fun b c => get_set_same (by rw [st1]; exact d5)
      simp (disch := as_aux_lemma => first | omega | simp only [hDs] <;> omega | simp [isCell]) [hRs, takeMarks, resA, resAll, resOne, Value.cells, z23, fillA, setRange, storeB_cells, set_push_eq, d4, d5, st1, st2, st3, apartA, show ¬ A.n + 2 = C.n by omega]
      exact hV2 _ (by simp [Site.shV, Site.shE, h1, h2]) _ ((fin _ _ (e1.trans e2)).trans (Ext'.push _ _))
    · have d4 := e2.get c4
      have d5 := e2.get c5
      have m5 := Hp.lt_of_get d5
      have st1 : ∀ (b : ABlk), (C.set (A.n + 2) (some b)).get (A.n + 3) = C.get (A.n + 3) := fun b => get_set_ne (by omega) (by omega)
      have st2 : ∀ (b c : ABlk), ((C.set (A.n + 2) (some b)).set (A.n + 3) (some c)).get (A.n + 2) = some b := fun b c => by rw [get_set_ne (by simp; omega) (by omega), get_set_same d4]
      have st3 : ∀ (b c : ABlk), ((C.set (A.n + 2) (some b)).set (A.n + 3) (some c)).get (A.n + 3) = some c := fun b c => get_set_same (by rw [st1]; exact d5)
      simp (disch := as_aux_lemma => first | omega | simp only [hDs] <;> omega | simp [isCell]) [hRs, takeMarks, resA, resAll, resOne, Value.cells, Site.shC, fillA, setRange, storeB_cells, set_push_eq, d4, d5, st1, st2, st3, apartA, show ¬ A.n + 2 = C.n by omega]
      exact hV2 _ (by simp [Site.shV, Site.shE, h1, h2]) _ ((fin _ _ (e1.trans e2)).trans (Ext'.push _ _))
end
end Go.Ab.Gauge
set_option maxRecDepth 100000
namespace Go.Ab.Gauge
open Go Go.Ab
theorem minA_four {a b c d : Int} : minA [.int .i64 a, .int .i64 b, .int .i64 c, .int .i64 d] = some (.int .i64 (min (min (min a b) c) d)) := by
  simp only [minA, foldInt]
  simp
  repeat' split
  all_goals omega
def Site.seenC (x : Site) (r : Rdg) : List Value := [.int .i64 r.kd,
  .int .i64 (x.ga r 0), .int .i64 (x.ga r 1), .int .i64 (x.ga r 2), .int .i64 (x.ga r 3), .int .i64 (x.ga r 4), .int .i64 (x.ga r 5), .int .i64 (x.ga r 6), .int .i64 (x.ga r 7), .int .i64 (x.ga r 8),
  .int .i64 (x.oLo r), .int .i64 (x.oHi r), .int .i64 (x.iLo r), .int .i64 (x.iHi r), .int .i64 (x.vLo r), .int .i64 (x.vHi r)]
section
variable {g : Nat} {rd : Option Nat} {T : List Value} {D : List Nat} {A : Hp} {Q : Ex → St → Prop} {V : Value → Hp → Prop}
set_option maxHeartbeats 2000000 in
theorem w447 {x : Site} {r : Rdg} {gl tl ul : Value} (hI : SiteIn A x gl tl ul) (hga : ∀ i, i < x.gn → GauOk x i) (hgg : 0 ≤ r.gg ∧ r.gg < x.gn) (ht : -100000000 ≤ r.t0 ∧ r.t0 ≤ r.t1 ∧ r.t1 ≤ 1100000000) (hv : -20000 ≤ r.v0 ∧ r.v0 ≤ r.v1 ∧ r.v1 ≤ 20000) (hg : g ≤ A.n)
    (hV : ∀ A', Ext' A A' → V (.agg ⟨x.seenC r⟩) A') : WF AP KL g 447 [.agg ⟨x.cells gl tl ul⟩, .agg ⟨r.cells⟩] A V := by
  obtain ⟨kd, gg, t0, t1, v0, v1⟩ := r
  simp only at hgg ht hv
  rw [WF_body rfl (show AP 447 = some F447 from rfl)]
  obtain ⟨xb, xc, xr, hsq, hxb⟩ := hI.ul.at (show gg.toNat < x.gn by omega)
  have hgl : x.gs.length = x.gn * 9 := by have := hI.ul.1; simpa using this
  have hxn := Hp.lt_of_get hxb
  obtain ⟨q1, q2, q3, q4, q5, q6, q7⟩ := hga gg.toNat (by omega)
  simp only [Site.seenC, Site.ga, Site.oLo, Site.oHi, Site.iLo, Site.iHi, Site.vLo, Site.vHi, Nat.add_zero] at hV
  have i9 : partA (ints x.gs) (gg.toNat * 9) (some 9) = _ := ints_9 (by omega)
  generalize gi x.gs (gg.toNat * 9) = ce at *
  generalize gi x.gs (gg.toNat * 9 + 1) = c0 at *
  generalize gi x.gs (gg.toNat * 9 + 2) = c1 at *
  generalize gi x.gs (gg.toNat * 9 + 3) = a0 at *
  generalize gi x.gs (gg.toNat * 9 + 4) = a1 at *
  generalize gi x.gs (gg.toNat * 9 + 5) = r0 at *
  generalize gi x.gs (gg.toNat * 9 + 6) = r1 at *
  generalize gi x.gs (gg.toNat * 9 + 7) = si at *
  generalize gi x.gs (gg.toNat * 9 + 8) = no at *
  have w1 : wr .i64 (t0 + c0) = t0 + c0 := wrId (by omega) (by omega)
  have w2 : wr .i64 (t1 + c1) = t1 + c1 := wrId (by omega) (by omega)
  have w3 : wr .i64 (t0 + c1) = t0 + c1 := wrId (by omega) (by omega)
  have w4 : wr .i64 (t1 + c0) = t1 + c0 := wrId (by omega) (by omega)
  have w5 : wr .i64 (t0 + c0 - si) = t0 + c0 - si := wrId (by omega) (by omega)
  have w6 : wr .i64 (t1 + c1 - si) = t1 + c1 - si := wrId (by omega) (by omega)
  obtain ⟨y1, y2⟩ := off_rng (r0 := r0) (r1 := r1) (p := t0 + c0 - si) (q := t1 + c1 - si) (by omega) (by omega) (by omega)
  have m1 := prod_rng (r := r0) (u := t0 + c0 - si) (by omega) (by omega)
  have m2 := prod_rng (r := r0) (u := t1 + c1 - si) (by omega) (by omega)
  have m3 := prod_rng (r := r1) (u := t0 + c0 - si) (by omega) (by omega)
  have m4 := prod_rng (r := r1) (u := t1 + c1 - si) (by omega) (by omega)
  have z1 : wr .i64 (r0 * (t0 + c0 - si)) = r0 * (t0 + c0 - si) := wrId (by omega) (by omega)
  have z2 : wr .i64 (r0 * (t1 + c1 - si)) = r0 * (t1 + c1 - si) := wrId (by omega) (by omega)
  have z3 : wr .i64 (r1 * (t0 + c0 - si)) = r1 * (t0 + c0 - si) := wrId (by omega) (by omega)
  have z4 : wr .i64 (r1 * (t1 + c1 - si)) = r1 * (t1 + c1 - si) := wrId (by omega) (by omega)
  have d1 : dLo r0 r1 (t0 + c0 - si) (t1 + c1 - si) = min (min (min (r0 * (t0 + c0 - si)) (r0 * (t1 + c1 - si))) (r1 * (t0 + c0 - si))) (r1 * (t1 + c1 - si)) / 86400000 := rfl
  have d2 : dHi r0 r1 (t0 + c0 - si) (t1 + c1 - si) = -(-(max (max (max (r0 * (t0 + c0 - si)) (r0 * (t1 + c1 - si))) (r1 * (t0 + c0 - si))) (r1 * (t1 + c1 - si))) / 86400000) := rfl
  generalize dLo r0 r1 (t0 + c0 - si) (t1 + c1 - si) = u1 at *
  generalize dHi r0 r1 (t0 + c0 - si) (t1 + c1 - si) = u2 at *
  generalize hmn : min (min (min (r0 * (t0 + c0 - si)) (r0 * (t1 + c1 - si))) (r1 * (t0 + c0 - si))) (r1 * (t1 + c1 - si)) = mn at *
  generalize hmx : max (max (max (r0 * (t0 + c0 - si)) (r0 * (t1 + c1 - si))) (r1 * (t0 + c0 - si))) (r1 * (t1 + c1 - si)) = mx at *
  have w7 : wr .i64 (v0 + a0) = v0 + a0 := wrId (by omega) (by omega)
  have w8 : wr .i64 (v0 + a0 + u1) = v0 + a0 + u1 := wrId (by omega) (by omega)
  have w9 : wr .i64 (v1 + a1) = v1 + a1 := wrId (by omega) (by omega)
  have w10 : wr .i64 (-mx) = -mx := wrId (by omega) (by omega)
  have w11 : wr .i64 (v1 + a1 - -mx / 86400000) = v1 + a1 + u2 := by rw [wrId (by omega) (by omega)]; omega
  have hmn' : min (r0 * (t0 + c0 - si)) (min (r0 * (t1 + c1 - si)) (min (r1 * (t0 + c0 - si)) (r1 * (t1 + c1 - si)))) = mn := by rw [← hmn]; omega
  have hmx' : max (r0 * (t0 + c0 - si)) (max (r0 * (t1 + c1 - si)) (max (r1 * (t0 + c0 - si)) (r1 * (t1 + c1 - si)))) = mx := by rw [← hmx]; omega
  have rmn : -1000000000000000000 ≤ mn ∧ mn ≤ 1000000000000000000 := by omega
  have rmx : -1000000000000000000 ≤ -mx ∧ -mx ≤ 1000000000000000000 := by omega
  have hgn : gg < x.gn := by omega
  have hg0 : 0 ≤ gg := hgg.1
  have d1' : mn / 86400000 = u1 := d1.symm
  clear m1 m2 m3 m4 q1 q2 q3 q4 q5 q6 q7 y1 y2 hgg hga d1 d2 hmn hmx ht hv hI hgl
  simp (disch := as_aux_lemma => first | omega | simp only [hDs] <;> omega | simp [isCell]) [hRs, takeMarks, resA, resAll, resOne, Value.cells, F447, Site.cells, Rdg.cells, hsq, hgn, idxSA_ok, hxb, i9, storeB_cells, setRange, set_push_eq, fillA, w1, w2, w3, w4, w5, w6, z1, z2, z3, z4, minA_four, maxA_four, hmn', hmx', w7]
  refine w480 rmn ?_
  simp (disch := as_aux_lemma => first | omega | simp only [hDs] <;> omega | simp [isCell]) [hRs, takeMarks, resA, resAll, resOne, Value.cells, w7, w8, w9, w10, d1']
  refine w480 rmx ?_
  simp (disch := as_aux_lemma => first | omega | simp only [hDs] <;> omega | simp [isCell]) [hRs, takeMarks, resA, resAll, resOne, Value.cells, w7, w8, w9, w10, w11, fillA, storeB_cells, setRange, set_push_eq]
  exact hV _ (by repeat (first | exact Ext'.push _ _ | refine Ext'.trans ?_ (Ext'.push _ _)))
end
end Go.Ab.Gauge
set_option maxRecDepth 100000
namespace Go.Ab.Gauge
open Go Go.Ab
section
variable {g : Nat} {rd : Option Nat} {T : List Value} {D : List Nat} {A : Hp} {Q : Ex → St → Prop} {V : Value → Hp → Prop}
theorem w446 {x : Site} {r : Rdg} {gl tl ul : Value} (hI : SiteIn A x gl tl ul) (hok : x.E = 0) (hg : g ≤ A.n) (hV : ∀ A', Ext' A A' → V (.int .i64 (x.readE r)) A') : WF AP KL g 446 [.agg ⟨x.cells gl tl ul⟩, .agg ⟨r.cells⟩] A V := by
  rw [WF_body rfl (show AP 446 = some F446 from rfl)]
  obtain ⟨hT, hgn, hga, _, _⟩ := site_ok hok
  have hul := hI.ul.len
  have e1 : wr .i64 ((x.gn : Int) - 1) = (x.gn : Int) - 1 := wrId (by omega) (by omega)
  generalize hB : (A.push (.cells (x.cells gl tl ul) false)).push (.cells r.cells false) = B
  have eB : Ext' A B := by rw [← hB]; exact (Ext'.push _ _).trans (Ext'.push _ _)
  have nB : B.n = A.n + 2 := by rw [← hB]; rfl
  have b2 : B.get A.n = some (.cells (x.cells gl tl ul) false) := by rw [← hB, get_push_old (by simp), get_push_new]
  have b3 : B.get (A.n + 1) = some (.cells r.cells false) := by rw [← hB, get_push_eq (by simp)]
  have hV2 : ∀ v, x.readE r = v → ∀ A', Ext' A A' → V (.int .i64 v) A' := fun v h A' e => h ▸ hV A' e
  have hI2 : ∀ {B' : Hp}, Ext' B B' → SiteIn B' x gl tl ul := fun e => hI.ext (eB.trans e)
  unfold Site.cells at b2
  unfold Rdg.cells at b3
  simp (disch := as_aux_lemma => first | omega | simp only [hDs] <;> omega | simp [isCell]) [hRs, takeMarks, resA, resAll, resOne, Value.cells, F446, hB, b3]
  refine w451 ?_
  cases h1 : inB r.kd 1 4 with
  | false =>
    simp (disch := as_aux_lemma => first | omega | simp only [hDs] <;> omega | simp [isCell]) [hRs, takeMarks, resA, resAll, resOne, Value.cells]
    exact hV2 _ (by simp [Site.readE, h1]) _ eB
  | true =>
    simp (disch := as_aux_lemma => first | omega | simp only [hDs] <;> omega | simp [isCell]) [hRs, takeMarks, resA, resAll, resOne, Value.cells, b3, b2, hul, e1]
    refine w451 ?_
    cases h2 : inB r.gg 0 ((x.gn : Int) - 1) with
    | false =>
      simp (disch := as_aux_lemma => first | omega | simp only [hDs] <;> omega | simp [isCell]) [hRs, takeMarks, resA, resAll, resOne, Value.cells]
      exact hV2 _ (by simp [Site.readE, h1, h2]) _ eB
    | true =>
      have h2' := inB_iff.1 h2
      simp (disch := as_aux_lemma => first | omega | simp only [hDs] <;> omega | simp [isCell]) [hRs, takeMarks, resA, resAll, resOne, Value.cells, b3]
      refine w449 fun B1 f1 => ?_
      cases h3 : validB r.t0 r.t1 (-100000000) 1100000000 with
      | false =>
        simp (disch := as_aux_lemma => first | omega | simp only [hDs] <;> omega | simp [isCell]) [hRs, takeMarks, resA, resAll, resOne, Value.cells]
        exact hV2 _ (by simp [Site.readE, h1, h2, h3]) _ (eB.trans f1)
      | true =>
        have c3 := f1.get b3
        simp (disch := as_aux_lemma => first | omega | simp only [hDs] <;> omega | simp [isCell]) [hRs, takeMarks, resA, resAll, resOne, Value.cells, c3]
        refine w449 fun B2 f2 => ?_
        have f12 := f1.trans f2
        cases h4 : validB r.v0 r.v1 (-20000) 20000 with
        | false =>
          simp (disch := as_aux_lemma => first | omega | simp only [hDs] <;> omega | simp [isCell]) [hRs, takeMarks, resA, resAll, resOne, Value.cells]
          exact hV2 _ (by simp [Site.readE, h1, h2, h3, h4]) _ (eB.trans f12)
        | true =>
          have d3 := f12.get b3
          have d2 := f12.get b2
          have hv3 := validB_iff.1 h3
          have hv4 := validB_iff.1 h4
          have n2 := f12.1
          simp (disch := as_aux_lemma => first | omega | simp only [hDs] <;> omega | simp [isCell]) [hRs, takeMarks, resA, resAll, resOne, Value.cells, d3, d2]
          refine w447 (x := x) (r := r) (hI2 f12) hga (by omega) (by omega) (by omega) (by omega) fun B3 f3 => ?_
          simp (disch := as_aux_lemma => first | omega | simp only [hDs] <;> omega | simp [isCell]) [hRs, takeMarks, resA, resAll, resOne, Value.cells, Site.seenC]
          refine w449 fun B4 f4 => ?_
          cases h5 : validB (x.oLo r) (x.oHi r) 0 1000000000 with
          | false =>
            simp (disch := as_aux_lemma => first | omega | simp only [hDs] <;> omega | simp [isCell]) [hRs, takeMarks, resA, resAll, resOne, Value.cells]
            exact hV2 _ (by simp [Site.readE, h1, h2, h3, h4, h5]) _ (((eB.trans f12).trans f3).trans f4)
          | true =>
            simp (disch := as_aux_lemma => first | omega | simp only [hDs] <;> omega | simp [isCell]) [hRs, takeMarks, resA, resAll, resOne, Value.cells]
            exact hV2 _ (by simp [Site.readE, h1, h2, h3, h4, h5]) _ (((eB.trans f12).trans f3).trans f4)
theorem read_ok {x : Site} {r : Rdg} (h : x.readE r = 0) : (1 ≤ r.kd ∧ r.kd ≤ 4) ∧ (0 ≤ r.gg ∧ r.gg < x.gn) ∧ (-100000000 ≤ r.t0 ∧ r.t0 ≤ r.t1 ∧ r.t1 ≤ 1100000000) ∧ (-20000 ≤ r.v0 ∧ r.v0 ≤ r.v1 ∧ r.v1 ≤ 20000) ∧ (0 ≤ x.oLo r ∧ x.oLo r ≤ x.oHi r ∧ x.oHi r ≤ 1000000000) := by
  unfold Site.readE at h
  split at h
  · cases h
  rename_i h1
  split at h
  · cases h
  rename_i h2
  split at h
  · cases h
  rename_i h3
  split at h
  · cases h
  rename_i h4
  simp only [Bool.not_eq_false, Bool.and_eq_true, validB_iff, inB_iff] at h1 h2 h3 h4
  omega
theorem w410 {x : Site} {r : Rdg} {gl tl ul : Value} (hI : SiteIn A x gl tl ul) (hS : Small x) (hg : g ≤ A.n) (hV : ∀ A', Ext' A A' → V (x.shV r) A') : WF AP KL g 410 [.agg ⟨x.cells gl tl ul⟩, .agg ⟨r.cells⟩] A V := by
  rw [WF_body rfl (show AP 410 = some F410 from rfl)]
  generalize hB : (((A.push (.cells (x.cells gl tl ul) false)).push (.cells r.cells false)).push (.cells [.int .i64 0, .int .i64 0] false)).push (.cells [.int .i64 0, .int .i64 0] false) = B
  have eB : Ext' A B := by rw [← hB]; exact (((Ext'.push _ _).trans (Ext'.push _ _)).trans (Ext'.push _ _)).trans (Ext'.push _ _)
  have nB : B.n = A.n + 4 := by rw [← hB]; rfl
  have b2 : B.get A.n = some (.cells (x.cells gl tl ul) false) := by rw [← hB, get_push_old (by simp <;> omega), get_push_old (by simp <;> omega), get_push_old (by simp), get_push_new]
  have b3 : B.get (A.n + 1) = some (.cells r.cells false) := by rw [← hB, get_push_old (by simp <;> omega), get_push_old (by simp), get_push_eq (by simp)]
  have b4 : B.get (A.n + 2) = some (.cells [.int .i64 0, .int .i64 0] false) := by rw [← hB, get_push_old (by simp), get_push_eq (by simp)]
  have b5 : B.get (A.n + 3) = some (.cells [.int .i64 0, .int .i64 0] false) := by rw [← hB, get_push_eq (by simp)]
  have fin : ∀ {C : Hp} (b c : ABlk), Ext' B C → Ext' A ((C.set (A.n + 2) (some b)).set (A.n + 3) (some c)) := fun {C} b c e => ⟨by have := e.1; simp; omega, fun z hz => by
    have := e.1
    rw [get_set_ne (by simp; omega) (by omega), get_set_ne (by omega) (by omega), e.2 z (by omega), eB.2 z hz]⟩
  have hV2 : ∀ v, x.shV r = v → ∀ A', Ext' A A' → V v A' := fun v h A' e => h ▸ hV A' e
  have lc : (x.cells gl tl ul).length = 13 := rfl
  have lr : r.cells.length = 6 := rfl
  have s4 : ∀ {C : Hp}, Ext' B C → C.get (A.n + 2) = some (.cells [.int .i64 0, .int .i64 0] false) ∧ C.get (A.n + 3) = some (.cells [.int .i64 0, .int .i64 0] false) ∧ (∀ (b : ABlk), (C.set (A.n + 2) (some b)).get (A.n + 3) = some (.cells [.int .i64 0, .int .i64 0] false)) ∧
      (∀ (b c : ABlk), ((C.set (A.n + 2) (some b)).set (A.n + 3) (some c)).get (A.n + 2) = some b) ∧ (∀ (b c : ABlk), ((C.set (A.n + 2) (some b)).set (A.n + 3) (some c)).get (A.n + 3) = some c) := fun {C} e => by
    have c4 := e.get b4
    have c5 := e.get b5
    have n5 := Hp.lt_of_get c5
    have st1 : ∀ (b : ABlk), (C.set (A.n + 2) (some b)).get (A.n + 3) = C.get (A.n + 3) := fun b => get_set_ne (by omega) (by omega)
    exact ⟨c4, c5, fun b => by rw [st1]; exact c5, fun b c => by rw [get_set_ne (by simp; omega) (by omega), get_set_same c4], fun b c => get_set_same (by rw [st1]; exact c5)⟩
  simp (disch := as_aux_lemma => first | omega | simp only [hDs] <;> omega | simp [isCell]) [hRs, takeMarks, resA, resAll, resOne, Value.cells, F410, hB, b2, lc]
  refine w413 (x := x) (hI.ext eB) hS (by omega) fun B1 e1 => ?_
  have n1 := e1.1
  by_cases h1 : x.E = 0
  · have c2 := e1.get b2
    have c3 := e1.get b3
    simp (disch := as_aux_lemma => first | omega | simp only [hDs] <;> omega | simp [isCell]) [hRs, takeMarks, resA, resAll, resOne, Value.cells, h1, c2, c3, lc, lr]
    refine w446 (x := x) (r := r) (hI.ext (eB.trans e1)) h1 (by omega) fun B2 e2 => ?_
    have e12 := e1.trans e2
    have n2 := e12.1
    by_cases h2 : x.readE r = 0
    · obtain ⟨r1, r2, r3, r4, r5⟩ := read_ok h2
      obtain ⟨_, _, hga, _, _⟩ := site_ok h1
      have d2 := e2.get c2
      have d3 := e2.get c3
      simp (disch := as_aux_lemma => first | omega | simp only [hDs] <;> omega | simp [isCell]) [hRs, takeMarks, resA, resAll, resOne, Value.cells, h2, d2, d3, lc, lr]
      refine w447 (x := x) (r := r) (hI.ext (eB.trans e12)) hga r2 r3 r4 (by omega) fun B3 e3 => ?_
      have e13 := e12.trans e3
      have n3 := e13.1
      obtain ⟨t1, t2, t3, t4, t5⟩ := s4 e13
      simp (disch := as_aux_lemma => first | omega | simp only [hDs] <;> omega | simp [isCell]) [hRs, takeMarks, resA, resAll, resOne, Value.cells, Site.seenC, fillA, setRange, storeB_cells, set_push_eq, t1, t2, t3, t4, t5, apartA, show ¬ A.n + 2 = B3.n by omega]
      exact hV2 _ (by simp [Site.shV, Site.shE, h1, h2]) _ ((fin _ _ e13).trans (Ext'.push _ _))
    · obtain ⟨t1, t2, t3, t4, t5⟩ := s4 e12
      simp (disch := as_aux_lemma => first | omega | simp only [hDs] <;> omega | simp [isCell]) [hRs, takeMarks, resA, resAll, resOne, Value.cells, h2, fillA, setRange, storeB_cells, t1, t2, t3, t4, t5]
      exact hV2 _ (by simp [Site.shV, Site.shE, h1, h2]) _ (fin _ _ e12)
  · obtain ⟨t1, t2, t3, t4, t5⟩ := s4 e1
    simp (disch := as_aux_lemma => first | omega | simp only [hDs] <;> omega | simp [isCell]) [hRs, takeMarks, resA, resAll, resOne, Value.cells, h1, fillA, setRange, storeB_cells, t1, t2, t3, t4, t5]
    exact hV2 _ (by simp [Site.shV, Site.shE, h1]) _ (fin _ _ e1)
end
end Go.Ab.Gauge
set_option maxRecDepth 100000
namespace Go.Ab.Gauge
open Go Go.Ab
theorem rd_slice {A : Hp} {k n : Nat} {cs : List Value} {sv : Value} (h : RdS A k n cs sv) : ∃ p m c, sv = .slice p m c := by
  obtain ⟨_, ⟨rfl, _⟩ | ⟨b, c, ro, rfl, _⟩⟩ := h <;> exact ⟨_, _, _, rfl⟩
theorem take_row {l : List Int} {k i : Nat} {vs : List Value} (h : partA (ints l) (i * k) (some k) = some (.agg ⟨vs⟩)) (hk : i * k + k ≤ l.length) : (ints l).take ((i + 1) * k) = (ints l).take (i * k) ++ vs := by
  rw [partA_some (by rw [ints_length]; exact hk)] at h
  have h' : ((ints l).drop (i * k)).take k = vs := by cases h; rfl
  rw [Nat.add_mul, Nat.one_mul, List.take_add, h']
section
variable {g : Nat} {rd : Option Nat} {T : List Value} {D : List Nat} {A : Hp} {Q : Ex → St → Prop} {V : Value → Hp → Prop}
theorem loop411a {A0 : Hp} {x : Site} {X1 X3 : Nat} {gl tl ul : Value} (hI : SiteIn A0 x gl tl ul) (hS : Small x) (hX1 : A0.get X1 = some (.cells (x.cells gl tl ul) false)) (h13 : X1 ≠ X3) (h3 : X3 < A0.n) (htl : ∀ b, blkOf tl = some b → b ≠ X3) (hg : g ≤ X3)
    (hQ : ∀ T' A' sv, But X3 A0 A' → A'.get X3 = some (.cells (x.cells gl sv (.slice none 0 0)) false) → AccS A0.n A' 3 (ints x.ps) sv → KeepT [1, 2, 3] T T' → Q (.exit 0) ⟨T', D, A'⟩) :
    ∀ (k i : Nat) {T1 : List Value} {A : Hp} (sv : Value), i + k = x.pn → But X3 A0 A → A.get X3 = some (.cells (x.cells gl sv (.slice none 0 0)) false) → AccS A0.n A 3 ((ints x.ps).take (i * 3)) sv → KeepT [1, 2, 3] T T1 →
      tget T1 1 = .pointer (some ⟨X1, 0, none⟩) → tget T1 3 = .pointer (some ⟨X3, 0, none⟩) → tget T1 4 = .int .i64 i → W AP KL g rd (.loop body411a) ⟨T1, D, A⟩ Q := by
  intro k
  have hpl : x.ps.length = x.pn * 3 := by have := hI.tl.1; simpa using this
  have hlen := hI.tl.len
  have hpn := hS.pn
  unfold Site.cells at hX1
  induction k with
  | zero =>
    intro i T1 A sv hi hb hX hacc hk t1 t3 t4
    obtain rfl : i = x.pn := by omega
    have hX1' := (hb.2 X1 (Hp.lt_of_get hX1) h13).trans hX1
    rw [W_loop]
    simp (disch := as_aux_lemma => first | omega | simp only [hDs] <;> omega | simp [isCell]) [hRs, takeMarks, resA, resAll, resOne, Value.cells, body411a, t1, t4, hX1', hlen]
    refine hQ _ _ sv hb hX ?_ (fun j hj => by simp at hj; rcases hj with rfl | rfl | rfl <;> simp [hk.at])
    rwa [List.take_of_length_le (by rw [ints_length]; omega)] at hacc
  | succ k ih =>
    intro i T1 A sv hi hb hX hacc hk t1 t3 t4
    have hX1' := (hb.2 X1 (Hp.lt_of_get hX1) h13).trans hX1
    have e5 : wr .i64 ((i : Int) + 1) = ((i + 1 : Nat) : Int) := by rw [wrId (by omega) (by omega)]; simp
    have hAn := hb.1
    obtain ⟨xb, xc, xr, hsq, hxb⟩ := (hI.tl.keepB (A' := A) fun z hz => hb.2 z (hI.tl.blk_lt hz) (htl z hz)).at (show i < x.pn by omega)
    have i3 : partA (ints x.ps) (i * 3) (some 3) = _ := ints_3 (by omega)
    have tr := take_row i3 (by omega)
    generalize gi x.ps (i * 3) = p0 at *
    generalize gi x.ps (i * 3 + 1) = p1 at *
    generalize gi x.ps (i * 3 + 2) = p2 at *
    have z1 : zeros 1 [Value.int .i64 0, .int .i64 0, .int .i64 0] = [.int .i64 0, .int .i64 0, .int .i64 0] := rfl
    obtain ⟨sv', A1, a1, a2, a3, a4⟩ := hacc.add (g := g) (bytes := 24) (n := i) (new := [.int .i64 p0, .int .i64 p1, .int .i64 p2]) (ro := false) (by omega) hAn rfl (by decide) rfl (by rw [List.length_take, ints_length]; omega) (by unfold room; omega)
    rw [← tr] at a2
    obtain ⟨ad, nn, cc, rfl⟩ : ∃ ad nn cc, sv' = .slice ad nn cc := by rcases a2 with ⟨rfl, _⟩ | ⟨_, _, rfl, _⟩ <;> exact ⟨_, _, _, rfl⟩
    have c3 : A1.get X3 = some (.cells (x.cells gl sv (.slice none 0 0)) false) := by rw [a3 _ h3]; exact hX
    have n3 := Hp.lt_of_get c3
    unfold Site.cells at hX c3
    rw [W_loop]
    simp (disch := as_aux_lemma => first | omega | simp only [hDs] <;> omega | simp [isCell]) [hRs, takeMarks, resA, resAll, resOne, Value.cells, body411a, t1, t3, t4, hX, hX1', hlen, show ((i : Int) < x.pn) by omega, show i < x.pn by omega, hsq, idxSA_ok, hxb, i3, slitA, fillA, setRange, z1, a1, c3, storeB_cells, e5]
    refine ih (i + 1) (.slice ad nn cc) (by omega) ⟨by simp; omega, fun z hz hzn => ?_⟩ (get_set_same c3) (a2.keepB fun b hbb => get_set_ne n3 (by have := (a2.blk_ge hbb).1; omega)) ?_ ?_ ?_ ?_
    · rw [get_set_ne n3 hzn, a3 z hz, hb.2 z hz hzn]
    · exact fun j hj => by simp at hj; rcases hj with rfl | rfl | rfl <;> simp [hk.at]
    all_goals simp [t1, t3]
theorem loop411b {A0 : Hp} {x : Site} {X1 X3 : Nat} {gl tl tl2 ul : Value} (hI : SiteIn A0 x gl tl ul) (hS : Small x) (hX1 : A0.get X1 = some (.cells (x.cells gl tl ul) false)) (h13 : X1 ≠ X3) (h3 : X3 < A0.n) (hul0 : ∀ b, blkOf ul = some b → b ≠ X3) (hg : g ≤ X3)
    (hQ : ∀ T' A' sv, But X3 A0 A' → A'.get X3 = some (.cells (x.cells gl tl2 sv) false) → AccS A0.n A' 9 (ints x.gs) sv → KeepT [1, 2, 3] T T' → Q (.exit 2) ⟨T', D, A'⟩) :
    ∀ (k i : Nat) {T1 : List Value} {A : Hp} (sv : Value), i + k = x.gn → But X3 A0 A → A.get X3 = some (.cells (x.cells gl tl2 sv) false) → AccS A0.n A 9 ((ints x.gs).take (i * 9)) sv → KeepT [1, 2, 3] T T1 →
      tget T1 1 = .pointer (some ⟨X1, 0, none⟩) → tget T1 3 = .pointer (some ⟨X3, 0, none⟩) → tget T1 5 = .int .i64 i → W AP KL g rd (.loop body411b) ⟨T1, D, A⟩ Q := by
  intro k
  have hpl : x.gs.length = x.gn * 9 := by have := hI.ul.1; simpa using this
  have hlen := hI.ul.len
  have hpn := hS.gn
  unfold Site.cells at hX1
  induction k with
  | zero =>
    intro i T1 A sv hi hb hX hacc hk t1 t3 t5
    obtain rfl : i = x.gn := by omega
    have hX1' := (hb.2 X1 (Hp.lt_of_get hX1) h13).trans hX1
    rw [W_loop]
    simp (disch := as_aux_lemma => first | omega | simp only [hDs] <;> omega | simp [isCell]) [hRs, takeMarks, resA, resAll, resOne, Value.cells, body411b, t1, t5, hX1', hlen]
    refine hQ _ _ sv hb hX ?_ (fun j hj => by simp at hj; rcases hj with rfl | rfl | rfl <;> simp [hk.at])
    rwa [List.take_of_length_le (by rw [ints_length]; omega)] at hacc
  | succ k ih =>
    intro i T1 A sv hi hb hX hacc hk t1 t3 t5
    have hX1' := (hb.2 X1 (Hp.lt_of_get hX1) h13).trans hX1
    have e5 : wr .i64 ((i : Int) + 1) = ((i + 1 : Nat) : Int) := by rw [wrId (by omega) (by omega)]; simp
    have hAn := hb.1
    obtain ⟨xb, xc, xr, hsq, hxb⟩ := (hI.ul.keepB (A' := A) fun z hz => hb.2 z (hI.ul.blk_lt hz) (hul0 z hz)).at (show i < x.gn by omega)
    have i3 : partA (ints x.gs) (i * 9) (some 9) = _ := ints_9 (by omega)
    have tr := take_row i3 (by omega)
    generalize gi x.gs (i * 9) = p0 at *
    generalize gi x.gs (i * 9 + 1) = p1 at *
    generalize gi x.gs (i * 9 + 2) = p2 at *
    generalize gi x.gs (i * 9 + 3) = p3 at *
    generalize gi x.gs (i * 9 + 4) = p4 at *
    generalize gi x.gs (i * 9 + 5) = p5 at *
    generalize gi x.gs (i * 9 + 6) = p6 at *
    generalize gi x.gs (i * 9 + 7) = p7 at *
    generalize gi x.gs (i * 9 + 8) = p8 at *
    have z1 : zeros 1 [Value.int .i64 0, .int .i64 0, .int .i64 0, .int .i64 0, .int .i64 0, .int .i64 0, .int .i64 0, .int .i64 0, .int .i64 0] = [.int .i64 0, .int .i64 0, .int .i64 0, .int .i64 0, .int .i64 0, .int .i64 0, .int .i64 0, .int .i64 0, .int .i64 0] := rfl
    obtain ⟨sv', A1, a1, a2, a3, a4⟩ := hacc.add (g := g) (bytes := 72) (n := i) (new := [.int .i64 p0, .int .i64 p1, .int .i64 p2, .int .i64 p3, .int .i64 p4, .int .i64 p5, .int .i64 p6, .int .i64 p7, .int .i64 p8]) (ro := false) (by omega) hAn rfl (by decide) rfl (by rw [List.length_take, ints_length]; omega) (by unfold room; omega)
    rw [← tr] at a2
    obtain ⟨ad, nn, cc, rfl⟩ : ∃ ad nn cc, sv' = .slice ad nn cc := by rcases a2 with ⟨rfl, _⟩ | ⟨_, _, rfl, _⟩ <;> exact ⟨_, _, _, rfl⟩
    have c3 : A1.get X3 = some (.cells (x.cells gl tl2 sv) false) := by rw [a3 _ h3]; exact hX
    have n3 := Hp.lt_of_get c3
    unfold Site.cells at hX c3
    rw [W_loop]
    simp (disch := as_aux_lemma => first | omega | simp only [hDs] <;> omega | simp [isCell]) [hRs, takeMarks, resA, resAll, resOne, Value.cells, body411b, t1, t3, t5, hX, hX1', hlen, show ((i : Int) < x.gn) by omega, show i < x.gn by omega, hsq, idxSA_ok, hxb, i3, slitA, fillA, setRange, z1, a1, c3, storeB_cells, e5]
    refine ih (i + 1) (.slice ad nn cc) (by omega) ⟨by simp; omega, fun z hz hzn => ?_⟩ (get_set_same c3) (a2.keepB fun b hbb => get_set_ne n3 (by have := (a2.blk_ge hbb).1; omega)) ?_ ?_ ?_ ?_
    · rw [get_set_ne n3 hzn, a3 z hz, hb.2 z hz hzn]
    · exact fun j hj => by simp at hj; rcases hj with rfl | rfl | rfl <;> simp [hk.at]
    all_goals simp [t1, t3]
theorem w411 {x : Site} {gl tl ul : Value} (hI : SiteIn A x gl tl ul) (hS : Small x) (hg : g ≤ A.n) (hV : ∀ A' tl' ul', Ext' A A' → SiteIn A' x gl tl' ul' → V (.agg ⟨x.cells gl tl' ul'⟩) A') : WF AP KL g 411 [.agg ⟨x.cells gl tl ul⟩] A V := by
  rw [WF_body rfl (show AP 411 = some F411 from rfl)]
  have lc : ∀ a b c : Value, (x.cells a b c).length = 13 := fun _ _ _ => rfl
  obtain ⟨gp, gm, gc, rfl⟩ := rd_slice hI.gl
  obtain ⟨tp, tm, tc, rfl⟩ := rd_slice hI.tl
  obtain ⟨up, um, uc, rfl⟩ := rd_slice hI.ul
  generalize hB0 : (A.push (.cells (x.cells (.slice gp gm gc) (.slice tp tm tc) (.slice up um uc)) false)).push (.cells [.int .i64 0, .int .i64 0, .int .i64 0, .slice none 0 0, .int .i64 0, .slice none 0 0, .int .i64 0, .int .i64 0, .int .i64 0, .int .i64 0, .int .i64 0, .int .i64 0, .slice none 0 0] false) = B0
  have nB0 : B0.n = A.n + 2 := by rw [← hB0]; rfl
  have b01 : B0.get A.n = some (.cells (x.cells (.slice gp gm gc) (.slice tp tm tc) (.slice up um uc)) false) := by rw [← hB0, get_push_old (by simp), get_push_new]
  have eB0 : Ext' A B0 := by rw [← hB0]; exact (Ext'.push _ _).trans (Ext'.push _ _)
  have b02 : B0.get (A.n + 1) = some (.cells [.int .i64 0, .int .i64 0, .int .i64 0, .slice none 0 0, .int .i64 0, .slice none 0 0, .int .i64 0, .int .i64 0, .int .i64 0, .int .i64 0, .int .i64 0, .int .i64 0, .slice none 0 0] false) := by rw [← hB0, get_push_eq (by simp)]
  have b01' := b01
  unfold Site.cells at b01'
  simp (disch := as_aux_lemma => first | omega | simp only [hDs] <;> omega | simp [isCell]) [hRs, takeMarks, resA, resAll, resOne, Value.cells, F411, hB0, b01', fillA, setRange, storeB_cells, set_push_eq]
  generalize hB : B0.push (.cells (x.cells (.slice gp gm gc) (.slice none 0 0) (.slice none 0 0)) false) = B
  have eB : Ext' A B := by rw [← hB]; exact eB0.trans (Ext'.push _ _)
  have nB : B.n = A.n + 3 := by rw [← hB]; simp [nB0]
  have b1 : B.get A.n = some (.cells (x.cells (.slice gp gm gc) (.slice tp tm tc) (.slice up um uc)) false) := by rw [← hB, get_push_old (by omega)]; exact b01
  have b2 := (show Ext' B0 B by rw [← hB]; exact Ext'.push _ _).get b02
  have b3 : B.get (A.n + 2) = some (.cells (x.cells (.slice gp gm gc) (.slice none 0 0) (.slice none 0 0)) false) := by rw [← hB, get_push_eq (by omega)]
  unfold Site.cells at hB
  rw [hB]
  refine loop411a (A0 := B) (X1 := A.n) (X3 := A.n + 2) (hI.ext eB) hS b1 (by omega) (by omega) (fun b hb => by have := hI.tl.blk_lt hb; omega) (by omega) ?_ x.pn 0 (.slice none 0 0) (by omega) (But.of_ext (Ext'.refl _)) b3 (.inl ⟨rfl, by simp⟩) (fun j hj => rfl) (by simp) (by simp [nB0]) (by simp)
  intro T' C sv hb h3 hacc hk
  have k1 := hk.at 1 rfl
  have k2 := hk.at 2 rfl
  have k3 := hk.at 3 rfl
  simp at k1 k2 k3
  have nC := hb.1
  have c1 : C.get A.n = some (.cells (x.cells (.slice gp gm gc) (.slice tp tm tc) (.slice up um uc)) false) := by rw [hb.2 A.n (by omega) (by omega)]; exact b1
  have hpl : x.ps.length = x.pn * 3 := by have := hI.tl.1; simpa using this
  have hIC : SiteIn C x (.slice gp gm gc) (.slice tp tm tc) (.slice up um uc) := ⟨hI.gl.keepB fun z hz => by have := hI.gl.blk_lt hz; rw [hb.2 z (by omega) (by omega), eB.2 z this], hI.tl.keepB fun z hz => by have := hI.tl.blk_lt hz; rw [hb.2 z (by omega) (by omega), eB.2 z this], hI.ul.keepB fun z hz => by have := hI.ul.blk_lt hz; rw [hb.2 z (by omega) (by omega), eB.2 z this]⟩
  have n3 := Hp.lt_of_get h3
  simp (disch := as_aux_lemma => first | omega | simp only [hDs] <;> omega | simp [isCell]) [hRs, takeMarks, resA, resAll, resOne, Value.cells, k1, k2, k3]
  refine loop411b (A0 := C) (X1 := A.n) (X3 := A.n + 2) (tl2 := sv) hIC hS c1 (by omega) n3 (fun b hb => by have := hI.ul.blk_lt hb; omega) (by omega) ?_ x.gn 0 (.slice none 0 0) (by omega) (But.of_ext (Ext'.refl _)) h3 (.inl ⟨rfl, by simp⟩) (fun j hj => rfl) (by simp [k1]) (by simp [k3]) (by simp)
  intro T2 E sv2 hb2 h32 hacc2 hk2
  have j2 := hk2.at 2 rfl
  have j3 := hk2.at 3 rfl
  simp [k2, k3, nB0] at j2 j3
  have nE := hb2.1
  have e2 : E.get (A.n + 1) = some (.cells [.int .i64 0, .int .i64 0, .int .i64 0, .slice none 0 0, .int .i64 0, .slice none 0 0, .int .i64 0, .int .i64 0, .int .i64 0, .int .i64 0, .int .i64 0, .int .i64 0, .slice none 0 0] false) := by
    rw [hb2.2 (A.n + 1) (by omega) (by omega), hb.2 (A.n + 1) (by omega) (by omega)]; exact b2
  have n2 := Hp.lt_of_get e2
  have hgl : x.gs.length = x.gn * 9 := by have := hI.ul.1; simpa using this
  have hE : Ext' A E := ⟨by omega, fun z hz => by rw [hb2.2 z (by omega) (by omega), hb.2 z (by omega) (by omega), eB.2 z hz]⟩
  have st : ∀ z, z < E.n → z ≠ A.n + 1 → ∀ b, (E.set (A.n + 1) b).get z = E.get z := fun z hz hn b => get_set_ne n2 hn
  obtain ⟨sp, sm, sc, rfl⟩ := hacc.isSlice
  obtain ⟨s2p, s2m, s2c, rfl⟩ := hacc2.isSlice
  have h32' := h32
  unfold Site.cells at h32'
  simp (disch := as_aux_lemma => first | omega | simp only [hDs] <;> omega | simp [isCell]) [hRs, takeMarks, resA, resAll, resOne, Value.cells, j2, j3, h32', e2, storeB_cells, setRange, get_set_same e2]
  have acc1 : AccS B.n E 3 (ints x.ps) (.slice sp sm sc) := hacc.keepB fun b hbb => by
    have := hacc.blk_ge hbb
    rw [hb2.2 b this.2 (by omega)]
  refine hV _ (.slice sp sm sc) (.slice s2p s2m s2c) ⟨by first | omega | (simp; omega) | (show A.n ≤ E.n; omega), fun z hz => by rw [st z (by omega) (by omega), hE.2 z hz]⟩ ⟨?_, ?_, ?_⟩
  · exact hI.gl.keepB fun z hz => by have := hI.gl.blk_lt hz; rw [st z (by omega) (by omega), hE.2 z this]
  · exact (acc1.keepB fun b hbb => st b (acc1.blk_ge hbb).2 (by have := (acc1.blk_ge hbb).1; omega) _).rd (by rw [ints_length]; exact hpl) (by decide)
  · exact (hacc2.keepB fun b hbb => st b (hacc2.blk_ge hbb).2 (by have := (hacc2.blk_ge hbb).1; omega) _).rd (by rw [ints_length]; exact hgl) (by decide)
end
end Go.Ab.Gauge
