/- The law GaugeShows, walked. -/
import Derived.Test.YtekljelnebadeaaGreatZ14
set_option linter.unusedSimpArgs false
set_option linter.unusedVariables false
set_option linter.unusedSectionVars false
set_option maxRecDepth 100000
namespace Go.Ab.Gauge
open Go Go.Ab
section
variable {g : Nat} {rd : Option Nat} {T : List Value} {D : List Nat} {A : Hp} {Q : Ex → St → Prop} {V : Value → Hp → Prop}
theorem w409 {x : Site} {gl tl ul : Value} (hI : SiteIn A x gl tl ul) (hV : ∀ A', Ext' A A' → V (.bool (decide (x.m ≤ 600) && (decide (x.pn ≤ 20) && decide (x.gn ≤ 40)))) A') : WF AP KL g 409 [.agg ⟨x.cells gl tl ul⟩] A V := by
  rw [WF_body rfl (show AP 409 = some F409 from rfl)]
  have hV' := hV _ (Ext'.push A (.cells (x.cells gl tl ul) false))
  have h1 := hI.gl.len
  have h2 := hI.tl.len
  have h3 := hI.ul.len
  unfold Site.cells at hV' ⊢
  by_cases c1 : x.m ≤ 600
  · by_cases c2 : x.pn ≤ 20
    · by_cases c3 : x.gn ≤ 40
      · simp (disch := as_aux_lemma => first | omega | simp only [hDs] <;> omega | simp [isCell]) [hRs, takeMarks, resA, resAll, resOne, Value.cells, F409, h1, h2, h3, show (x.m : Int) ≤ 600 by omega, show (x.pn : Int) ≤ 20 by omega, show (x.gn : Int) ≤ 40 by omega]
        simpa [c1, c2, c3] using hV'
      · simp (disch := as_aux_lemma => first | omega | simp only [hDs] <;> omega | simp [isCell]) [hRs, takeMarks, resA, resAll, resOne, Value.cells, F409, h1, h2, h3, show (x.m : Int) ≤ 600 by omega, show (x.pn : Int) ≤ 20 by omega, show ¬ (x.gn : Int) ≤ 40 by omega]
        simpa [c1, c2, c3] using hV'
    · simp (disch := as_aux_lemma => first | omega | simp only [hDs] <;> omega | simp [isCell]) [hRs, takeMarks, resA, resAll, resOne, Value.cells, F409, h1, h2, show (x.m : Int) ≤ 600 by omega, show ¬ (x.pn : Int) ≤ 20 by omega]
      simpa [c1, c2] using hV'
  · simp (disch := as_aux_lemma => first | omega | simp only [hDs] <;> omega | simp [isCell]) [hRs, takeMarks, resA, resAll, resOne, Value.cells, F409, h1, show ¬ (x.m : Int) ≤ 600 by omega]
    simpa [c1] using hV'
theorem shV_form (x : Site) (r : Rdg) : ∃ a b c d e, x.shV r = .tuple ⟨[spV a b, spV c d, .int .i64 e]⟩ := by
  unfold Site.shV
  split
  · exact ⟨_, _, _, _, _, rfl⟩
  · exact ⟨_, _, _, _, _, rfl⟩
theorem law393 {x : Site} {r : Rdg} {gl tl ul : Value} (hI : SiteIn A x gl tl ul) (hg : g ≤ A.n) (hV : ∀ A', V (.bool true) A') : WF AP KL g 393 [.agg ⟨x.cells gl tl ul⟩, .agg ⟨r.cells⟩] A V := by
  rw [WF_body rfl (show AP 393 = some F393 from rfl)]
  have lc : (x.cells gl tl ul).length = 13 := rfl
  have lr : r.cells.length = 6 := rfl
  generalize hB : (A.push (.cells (x.cells gl tl ul) false)).push (.cells r.cells false) = B
  have eB : Ext' A B := by rw [← hB]; exact (Ext'.push _ _).trans (Ext'.push _ _)
  have nB : B.n = A.n + 2 := by rw [← hB]; rfl
  have b2 : B.get A.n = some (.cells (x.cells gl tl ul) false) := by rw [← hB, get_push_old (by simp), get_push_new]
  have b3 : B.get (A.n + 1) = some (.cells r.cells false) := by rw [← hB, get_push_eq (by simp)]
  simp (disch := as_aux_lemma => first | omega | simp only [hDs] <;> omega | simp [isCell]) [hRs, takeMarks, resA, resAll, resOne, Value.cells, F393, hB, b2, lc]
  refine w409 (hI.ext eB) fun B1 e1 => ?_
  by_cases hs : x.m ≤ 600 ∧ x.pn ≤ 20 ∧ x.gn ≤ 40
  · have hS : Small x := ⟨hs.1, hs.2.1, hs.2.2⟩
    have c2 := e1.get b2
    have c3 := e1.get b3
    have n1 := e1.1
    simp (disch := as_aux_lemma => first | omega | simp only [hDs] <;> omega | simp [isCell]) [hRs, takeMarks, resA, resAll, resOne, Value.cells, hs.1, hs.2.1, hs.2.2, c2, c3, lc, lr]
    obtain ⟨a, b, c, d, e, hsh⟩ := shV_form x r
    refine w407 (x := x) (r := r) (hI.ext (eB.trans e1)) hS (by omega) fun B2 e2 => ?_
    have e12 := e1.trans e2
    have d2 := e12.get b2
    have d3 := e12.get b3
    have n2 := e12.1
    rw [hsh]
    simp (disch := as_aux_lemma => first | omega | simp only [hDs] <;> omega | simp [isCell]) [hRs, takeMarks, resA, resAll, resOne, Value.cells, storeB_cells, setRange, set_push_eq, d2, d3, lc, lr]
    generalize hC : (B2.push (.cells [.int .i64 a, .int .i64 b] false)).push (.cells [.int .i64 c, .int .i64 d] false) = C
    have eC : Ext' B2 C := by rw [← hC]; exact (Ext'.push _ _).trans (Ext'.push _ _)
    have nC : C.n = B2.n + 2 := by rw [← hC]; rfl
    have p5 : C.get B2.n = some (.cells [.int .i64 a, .int .i64 b] false) := by rw [← hC, get_push_old (by simp), get_push_new]
    have p6 : C.get (B2.n + 1) = some (.cells [.int .i64 c, .int .i64 d] false) := by rw [← hC, get_push_eq (by simp)]
    have f2 := eC.get d2
    have f3 := eC.get d3
    refine w411 (x := x) (hI.ext ((eB.trans e12).trans eC)) hS (by omega) fun B3 tl' ul' e3 hI3 => ?_
    have g3 := e3.get f3
    have n3 := e3.1
    simp (disch := as_aux_lemma => first | omega | simp only [hDs] <;> omega | simp [isCell]) [hRs, takeMarks, resA, resAll, resOne, Value.cells, g3, lr]
    refine w410 (x := x) (r := r) hI3 hS (by omega) fun B4 e4 => ?_
    have e34 := e3.trans e4
    have h2 := e34.get f2
    have n4 := e34.1
    rw [hsh]
    simp (disch := as_aux_lemma => first | omega | simp only [hDs] <;> omega | simp [isCell]) [hRs, takeMarks, resA, resAll, resOne, Value.cells, storeB_cells, setRange, set_push_eq]
    generalize hE : (B4.push (.cells [.int .i64 a, .int .i64 b] false)).push (.cells [.int .i64 c, .int .i64 d] false) = E
    have eE : Ext' B4 E := by rw [← hE]; exact (Ext'.push _ _).trans (Ext'.push _ _)
    have nE : E.n = B4.n + 2 := by rw [← hE]; rfl
    have p8 : E.get B4.n = some (.cells [.int .i64 a, .int .i64 b] false) := by rw [← hE, get_push_old (by simp), get_push_new]
    have p9 : E.get (B4.n + 1) = some (.cells [.int .i64 c, .int .i64 d] false) := by rw [← hE, get_push_eq (by simp)]
    have k2 := eE.get h2
    have eCE := e34.trans eE
    have eAll := (((eB.trans e12).trans eC).trans eCE)
    simp (disch := as_aux_lemma => first | omega | simp only [hDs] <;> omega | simp [isCell]) [hRs, takeMarks, resA, resAll, resOne, Value.cells, h2, lc]
    refine w412 (x := x) (hI.ext eAll) hS (by omega) fun B5 e5 => ?_
    have k5 := e5.get k2
    have n5 := e5.1
    simp (disch := as_aux_lemma => first | omega | simp only [hDs] <;> omega | simp [isCell]) [hRs, takeMarks, resA, resAll, resOne, Value.cells, k5, lc]
    refine w411 (x := x) (hI.ext (eAll.trans e5)) hS (by omega) fun B6 tl2 ul2 e6 hI6 => ?_
    have n6 := e6.1
    simp (disch := as_aux_lemma => first | omega | simp only [hDs] <;> omega | simp [isCell]) [hRs, takeMarks, resA, resAll, resOne, Value.cells]
    refine w413 (x := x) hI6 hS (by omega) fun B7 e7 => ?_
    have e57 := (e5.trans e6).trans e7
    have q5 := (eCE.trans e57).get p5
    have q6 := (eCE.trans e57).get p6
    have q8 := e57.get p8
    have q9 := e57.get p9
    simp (disch := as_aux_lemma => first | omega | simp only [hDs] <;> omega | simp [isCell]) [hRs, takeMarks, resA, resAll, resOne, Value.cells, q5, q6, q8, q9, eqv2]
    exact hV _
  · have hf : (decide (x.m ≤ 600) && (decide (x.pn ≤ 20) && decide (x.gn ≤ 40))) = false := by
      rw [Bool.eq_false_iff]
      intro h
      simp only [Bool.and_eq_true, decide_eq_true_eq] at h
      exact hs h
    rw [hf]
    simp (disch := as_aux_lemma => first | omega | simp only [hDs] <;> omega | simp [isCell]) [hRs, takeMarks, resA, resAll, resOne, Value.cells]
    exact hV _
end
end Go.Ab.Gauge
