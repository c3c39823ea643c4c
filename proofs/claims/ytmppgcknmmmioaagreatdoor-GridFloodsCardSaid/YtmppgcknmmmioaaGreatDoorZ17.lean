/- The document's sills: all cells once. -/
import Derived.Test.YtmppgcknmmmioaaGreatDoorZ15
import Derived.Test.YtmppgcknmmmioaaGreatDoorZ13
import Derived.Test.YtmppgcknmmmioaaGreatDoorZ16
set_option linter.unusedSimpArgs false
set_option linter.unusedVariables false
set_option linter.unusedSectionVars false
set_option maxRecDepth 100000
namespace Go.Ab.Grid
open Go Go.Ab
def refNb (w h c : Int) : List Int :=
  (if c.tmod w + 1 < w then [c + 1] else []) ++ (if c.tdiv w + 1 < h then [c + w] else []) ++ (if 0 < c.tmod w then [c - 1] else []) ++ (if 0 < c.tdiv w then [c - w] else [])
theorem cell_xy {w h c : Int} (hw : 1 ≤ w) (hc : 0 ≤ c ∧ c < w * h) : 0 ≤ c.tmod w ∧ c.tmod w < w ∧ 0 ≤ c.tdiv w ∧ c.tdiv w < h ∧ c = c.tdiv w * w + c.tmod w := by
  have e : w * c.tdiv w + c.tmod w = c := Int.mul_tdiv_add_tmod c w
  have h1 : 0 ≤ c.tmod w := Int.tmod_nonneg _ hc.1
  have h2 : c.tmod w < w := Int.tmod_lt_of_pos _ (by omega)
  have h3 : 0 ≤ c.tdiv w := Int.tdiv_nonneg hc.1 (by omega)
  rw [Int.mul_comm] at e
  refine ⟨h1, h2, h3, ?_, e.symm⟩
  by_cases hh : c.tdiv w < h
  · exact hh
  · have := Int.mul_le_mul_of_nonneg_right (show h ≤ c.tdiv w by omega) (show 0 ≤ w by omega)
    rw [Int.mul_comm w h] at hc
    omega
theorem refNb_eq {w h c : Int} (hw : 1 ≤ w) (hc : 0 ≤ c ∧ c < w * h) : refNb w h c = nbrs w h c := by
  obtain ⟨p1, p2, p3, p4, p5⟩ := cell_xy hw hc
  unfold refNb nbrs nbD dirs
  simp only [List.flatMap_cons, List.flatMap_nil, List.append_nil, List.append_assoc]
  generalize c.tmod w = x at *
  generalize c.tdiv w = y at *
  have e1 : (y + 1) * w = y * w + w := by rw [Int.add_mul, Int.one_mul]
  have e2 : (y + -1) * w = y * w - w := by rw [Int.add_mul, Int.neg_mul, Int.one_mul]; omega
  have f1 : ((0 ≤ x + 1 ∧ x + 1 ≤ w - 1) ∧ 0 ≤ y + 0 ∧ y + 0 ≤ h - 1) ↔ x + 1 < w := by omega
  have f2 : ((0 ≤ x + 0 ∧ x + 0 ≤ w - 1) ∧ 0 ≤ y + 1 ∧ y + 1 ≤ h - 1) ↔ y + 1 < h := by omega
  have f3 : ((0 ≤ x + -1 ∧ x + -1 ≤ w - 1) ∧ 0 ≤ y + 0 ∧ y + 0 ≤ h - 1) ↔ 0 < x := by omega
  have f4 : ((0 ≤ x + 0 ∧ x + 0 ≤ w - 1) ∧ 0 ≤ y + -1 ∧ y + -1 ≤ h - 1) ↔ 0 < y := by omega
  simp only [f1, f2, f3, f4]
  rw [show (y + 0) * w + (x + 1) = c + 1 by rw [Int.add_zero]; omega, show (y + 1) * w + (x + 0) = c + w by omega, show (y + 0) * w + (x + -1) = c - 1 by rw [Int.add_zero]; omega, show (y + -1) * w + (x + 0) = c - w by omega]
def ptrV (x : Nat) : Value := .pointer (some ⟨x, 0, none⟩)
def p73a : ACode := (.seq
 (.ops [
oM 16 6,
oC 17 .add 16 1,
oF 18 2 0,
oL 19 18,
oB 20 .lss 17 19])
 (.cond (.t 20)
 (.ops [
oM 21 5,
oM 22 1,
oC 23 .add 22 1,
oP 24 (.slit 1 1 [.int .i64 0] [(0, .t 23)]),
oP 25 (.append (.t 21) (.t 24) 1 8),
oM 5 25])
 .skip))
def p73b : ACode := (.seq
 (.ops [
oM 26 7,
oC 27 .add 26 1,
oF 28 2 1,
oL 29 28,
oB 30 .lss 27 29])
 (.cond (.t 30)
 (.ops [
oM 31 5,
oM 32 1,
oF 33 2 0,
oL 34 33,
oB 35 .add 32 34,
oP 36 (.slit 1 1 [.int .i64 0] [(0, .t 35)]),
oP 37 (.append (.t 31) (.t 36) 1 8),
oM 5 37])
 .skip))
def p73c : ACode := (.seq
 (.ops [
oM 38 6,
oC 39 .gtr 38 0])
 (.cond (.t 39)
 (.ops [
oM 40 5,
oM 41 1,
oC 42 .sub 41 1,
oP 43 (.slit 1 1 [.int .i64 0] [(0, .t 42)]),
oP 44 (.append (.t 40) (.t 43) 1 8),
oM 5 44])
 .skip))
def p73d : ACode := (.seq
 (.ops [
oM 45 7,
oC 46 .gtr 45 0])
 (.cond (.t 46)
 (.ops [
oM 47 5,
oM 48 1,
oF 49 2 0,
oL 50 49,
oB 51 .sub 48 50,
oP 52 (.slit 1 1 [.int .i64 0] [(0, .t 51)]),
oP 53 (.append (.t 47) (.t 52) 1 8),
oM 5 53])
 .skip))
def h73 : ACode := .seq (.ops [
oP 2 (.box (.t 0)),
oP 4 (.move (.k (.slice none 0 0)))]) (.seq (.ops [
oP 5 (.move (.k (.slice none 0 0)))]) (.seq (.ops [
oM 8 1,
oF 9 2 0,
oL 10 9,
oB 11 .rem 8 10,
oM 12 1,
oF 13 2 0,
oL 14 13,
oB 15 .quo 12 14,
oM 6 11,
oM 7 15]) (.seq p73a (.seq p73b (.seq p73c (.seq p73d (.seq
 (.ops [
oM 54 5,
oM 4 54])
 .ret)))))))
theorem AP73 : AP 73 = some (.fn 55 [.tmp 4] h73) := rfl
section
variable {g : Nat} {A : Hp} {V : Value → Hp → Prop}
structure N73 (g : Nat) (A0 : Hp) (w h c : Int) (b : Nat) (N : Nat) (l : List Int) (T : List Value) (A : Hp) : Prop where
  acc : ∃ sv, tget T 5 = sv ∧ AccS N A 1 (ints l) sv
  old : ∀ x, x < N → A.get x = A0.get x
  n : N ≤ A.n
  t1 : tget T 1 = .int .i64 c
  t2 : tget T 2 = ptrV b
  t6 : tget T 6 = .int .i64 (c.tmod w)
  t7 : tget T 7 = .int .i64 (c.tdiv w)
  len : l.length < 10
theorem N73.add {A0 : Hp} {w h c : Int} {b N : Nat} {l : List Int} {T : List Value} (hN : N73 g A0 w h c b N l T A) (hg : g ≤ N) (z : Int) :
    ∃ sv sv' A', tget T 5 = sv ∧ appendA g (A.push (.cells [.int .i64 z] false)) 1 8 sv (.slice (some ⟨A.n, 0, some 1⟩) 1 1) = some (sv', A') ∧ AccS N A' 1 (ints (l ++ [z])) sv' ∧ (∀ x, x < N → A'.get x = A0.get x) ∧ N ≤ A'.n := by
  obtain ⟨sv, h5, hacc⟩ := hN.acc
  have hl := hN.len
  obtain ⟨sv', A', e, h1, h2, h3⟩ := hacc.add (g := g) (bytes := 8) (new := [.int .i64 z]) (ro := false) (n := l.length) hg hN.n rfl (by decide) rfl (by simp) (by unfold room; omega)
  refine ⟨sv, sv', A', h5, e, ?_, fun x hx => by rw [h2 x hx, hN.old x hx], by have := hN.n; omega⟩
  rw [ints_append]; exact h1
theorem r73a {A0 : Hp} {w h c s : Int} {sl : Value} {b N : Nat} {l : List Int} {T : List Value} {D : List Nat} {rd : Option Nat} (hN : N73 g A0 w h c b N l T A) (hb : b < N) (hgb : A0.get b = some (.cells [.int .i64 w, .int .i64 h, .int .i64 s, sl] false)) (hg : g ≤ N) (hw : 1 ≤ w ∧ w ≤ 24) (hh : 1 ≤ h ∧ h ≤ 24) (hc : 0 ≤ c ∧ c < 1000) (hll : l.length < 9) :
    W AP KL g rd p73a ⟨T, D, A⟩ (fun ex st => ex = .normal ∧ st.D = D ∧ N73 g A0 w h c b N (l ++ (if c.tmod w + 1 < w then [c + 1] else [])) st.T st.A) := by
  have gb := (hN.old b hb).trans hgb
  have hbn := Hp.lt_of_get gb
  have t1 := hN.t1
  have t2 := hN.t2
  have t6 := hN.t6
  have t7 := hN.t7
  have x0 : 0 ≤ c.tmod w ∧ c.tmod w < w := ⟨Int.tmod_nonneg _ hc.1, Int.tmod_lt_of_pos _ (by omega)⟩
  have y0 : 0 ≤ c.tdiv w ∧ c.tdiv w ≤ c := ⟨Int.tdiv_nonneg hc.1 (by omega), by rw [Int.tdiv_eq_ediv_of_nonneg hc.1]; exact Int.ediv_le_self _ hc.1⟩
  by_cases hq : c.tmod w + 1 < w
  · obtain ⟨sv, sv', A', h5, e, h1, h2, h3⟩ := hN.add hg (c + 1)
    have hn := hN.n
    simp (disch := as_aux_lemma => first | omega | simp only [hDs] <;> omega | simp [isCell]) [hRs, takeMarks, resA, resAll, resOne, Value.cells, p73a, t1, t2, t6, t7, ptrV, gb, wrId (n := c.tmod w + 1) (by omega) (by omega), wrId (n := c.tdiv w + 1) (by omega) (by omega), hq, h5, wrId (n := c + 1) (by omega) (by omega), slitA, fillA, setRange, e]
    refine ⟨⟨_, by simp, h1⟩, h2, h3, by simp [t1], by simp [t2, ptrV], by simp [t6], by simp [t7], by simp; omega⟩
  · simp (disch := as_aux_lemma => first | omega | simp only [hDs] <;> omega | simp [isCell]) [hRs, takeMarks, resA, resAll, resOne, Value.cells, p73a, t1, t2, t6, t7, ptrV, gb, wrId (n := c.tmod w + 1) (by omega) (by omega), wrId (n := c.tdiv w + 1) (by omega) (by omega), hq]
    obtain ⟨sv, h5, hacc⟩ := hN.acc
    refine ⟨⟨sv, by simp [h5], hacc⟩, hN.old, hN.n, by simp [t1], by simp [t2, ptrV], by simp [t6], by simp [t7], hN.len⟩
theorem r73b {A0 : Hp} {w h c s : Int} {sl : Value} {b N : Nat} {l : List Int} {T : List Value} {D : List Nat} {rd : Option Nat} (hN : N73 g A0 w h c b N l T A) (hb : b < N) (hgb : A0.get b = some (.cells [.int .i64 w, .int .i64 h, .int .i64 s, sl] false)) (hg : g ≤ N) (hw : 1 ≤ w ∧ w ≤ 24) (hh : 1 ≤ h ∧ h ≤ 24) (hc : 0 ≤ c ∧ c < 1000) (hll : l.length < 9) :
    W AP KL g rd p73b ⟨T, D, A⟩ (fun ex st => ex = .normal ∧ st.D = D ∧ N73 g A0 w h c b N (l ++ (if c.tdiv w + 1 < h then [c + w] else [])) st.T st.A) := by
  have gb := (hN.old b hb).trans hgb
  have hbn := Hp.lt_of_get gb
  have t1 := hN.t1
  have t2 := hN.t2
  have t6 := hN.t6
  have t7 := hN.t7
  have x0 : 0 ≤ c.tmod w ∧ c.tmod w < w := ⟨Int.tmod_nonneg _ hc.1, Int.tmod_lt_of_pos _ (by omega)⟩
  have y0 : 0 ≤ c.tdiv w ∧ c.tdiv w ≤ c := ⟨Int.tdiv_nonneg hc.1 (by omega), by rw [Int.tdiv_eq_ediv_of_nonneg hc.1]; exact Int.ediv_le_self _ hc.1⟩
  by_cases hq : c.tdiv w + 1 < h
  · obtain ⟨sv, sv', A', h5, e, h1, h2, h3⟩ := hN.add hg (c + w)
    have hn := hN.n
    simp (disch := as_aux_lemma => first | omega | simp only [hDs] <;> omega | simp [isCell]) [hRs, takeMarks, resA, resAll, resOne, Value.cells, p73b, t1, t2, t6, t7, ptrV, gb, wrId (n := c.tmod w + 1) (by omega) (by omega), wrId (n := c.tdiv w + 1) (by omega) (by omega), hq, h5, wrId (n := c + w) (by omega) (by omega), slitA, fillA, setRange, e]
    refine ⟨⟨_, by simp, h1⟩, h2, h3, by simp [t1], by simp [t2, ptrV], by simp [t6], by simp [t7], by simp; omega⟩
  · simp (disch := as_aux_lemma => first | omega | simp only [hDs] <;> omega | simp [isCell]) [hRs, takeMarks, resA, resAll, resOne, Value.cells, p73b, t1, t2, t6, t7, ptrV, gb, wrId (n := c.tmod w + 1) (by omega) (by omega), wrId (n := c.tdiv w + 1) (by omega) (by omega), hq]
    obtain ⟨sv, h5, hacc⟩ := hN.acc
    refine ⟨⟨sv, by simp [h5], hacc⟩, hN.old, hN.n, by simp [t1], by simp [t2, ptrV], by simp [t6], by simp [t7], hN.len⟩
theorem r73c {A0 : Hp} {w h c s : Int} {sl : Value} {b N : Nat} {l : List Int} {T : List Value} {D : List Nat} {rd : Option Nat} (hN : N73 g A0 w h c b N l T A) (hb : b < N) (hgb : A0.get b = some (.cells [.int .i64 w, .int .i64 h, .int .i64 s, sl] false)) (hg : g ≤ N) (hw : 1 ≤ w ∧ w ≤ 24) (hh : 1 ≤ h ∧ h ≤ 24) (hc : 0 ≤ c ∧ c < 1000) (hll : l.length < 9) :
    W AP KL g rd p73c ⟨T, D, A⟩ (fun ex st => ex = .normal ∧ st.D = D ∧ N73 g A0 w h c b N (l ++ (if 0 < c.tmod w then [c - 1] else [])) st.T st.A) := by
  have gb := (hN.old b hb).trans hgb
  have hbn := Hp.lt_of_get gb
  have t1 := hN.t1
  have t2 := hN.t2
  have t6 := hN.t6
  have t7 := hN.t7
  have x0 : 0 ≤ c.tmod w ∧ c.tmod w < w := ⟨Int.tmod_nonneg _ hc.1, Int.tmod_lt_of_pos _ (by omega)⟩
  have y0 : 0 ≤ c.tdiv w ∧ c.tdiv w ≤ c := ⟨Int.tdiv_nonneg hc.1 (by omega), by rw [Int.tdiv_eq_ediv_of_nonneg hc.1]; exact Int.ediv_le_self _ hc.1⟩
  by_cases hq : 0 < c.tmod w
  · obtain ⟨sv, sv', A', h5, e, h1, h2, h3⟩ := hN.add hg (c - 1)
    have hn := hN.n
    simp (disch := as_aux_lemma => first | omega | simp only [hDs] <;> omega | simp [isCell]) [hRs, takeMarks, resA, resAll, resOne, Value.cells, p73c, t1, t2, t6, t7, ptrV, gb, wrId (n := c.tmod w + 1) (by omega) (by omega), wrId (n := c.tdiv w + 1) (by omega) (by omega), hq, h5, wrId (n := c - 1) (by omega) (by omega), slitA, fillA, setRange, e]
    refine ⟨⟨_, by simp, h1⟩, h2, h3, by simp [t1], by simp [t2, ptrV], by simp [t6], by simp [t7], by simp; omega⟩
  · simp (disch := as_aux_lemma => first | omega | simp only [hDs] <;> omega | simp [isCell]) [hRs, takeMarks, resA, resAll, resOne, Value.cells, p73c, t1, t2, t6, t7, ptrV, gb, wrId (n := c.tmod w + 1) (by omega) (by omega), wrId (n := c.tdiv w + 1) (by omega) (by omega), hq]
    obtain ⟨sv, h5, hacc⟩ := hN.acc
    refine ⟨⟨sv, by simp [h5], hacc⟩, hN.old, hN.n, by simp [t1], by simp [t2, ptrV], by simp [t6], by simp [t7], hN.len⟩
theorem r73d {A0 : Hp} {w h c s : Int} {sl : Value} {b N : Nat} {l : List Int} {T : List Value} {D : List Nat} {rd : Option Nat} (hN : N73 g A0 w h c b N l T A) (hb : b < N) (hgb : A0.get b = some (.cells [.int .i64 w, .int .i64 h, .int .i64 s, sl] false)) (hg : g ≤ N) (hw : 1 ≤ w ∧ w ≤ 24) (hh : 1 ≤ h ∧ h ≤ 24) (hc : 0 ≤ c ∧ c < 1000) (hll : l.length < 9) :
    W AP KL g rd p73d ⟨T, D, A⟩ (fun ex st => ex = .normal ∧ st.D = D ∧ N73 g A0 w h c b N (l ++ (if 0 < c.tdiv w then [c - w] else [])) st.T st.A) := by
  have gb := (hN.old b hb).trans hgb
  have hbn := Hp.lt_of_get gb
  have t1 := hN.t1
  have t2 := hN.t2
  have t6 := hN.t6
  have t7 := hN.t7
  have x0 : 0 ≤ c.tmod w ∧ c.tmod w < w := ⟨Int.tmod_nonneg _ hc.1, Int.tmod_lt_of_pos _ (by omega)⟩
  have y0 : 0 ≤ c.tdiv w ∧ c.tdiv w ≤ c := ⟨Int.tdiv_nonneg hc.1 (by omega), by rw [Int.tdiv_eq_ediv_of_nonneg hc.1]; exact Int.ediv_le_self _ hc.1⟩
  by_cases hq : 0 < c.tdiv w
  · obtain ⟨sv, sv', A', h5, e, h1, h2, h3⟩ := hN.add hg (c - w)
    have hn := hN.n
    simp (disch := as_aux_lemma => first | omega | simp only [hDs] <;> omega | simp [isCell]) [hRs, takeMarks, resA, resAll, resOne, Value.cells, p73d, t1, t2, t6, t7, ptrV, gb, wrId (n := c.tmod w + 1) (by omega) (by omega), wrId (n := c.tdiv w + 1) (by omega) (by omega), hq, h5, wrId (n := c - w) (by omega) (by omega), slitA, fillA, setRange, e]
    refine ⟨⟨_, by simp, h1⟩, h2, h3, by simp [t1], by simp [t2, ptrV], by simp [t6], by simp [t7], by simp; omega⟩
  · simp (disch := as_aux_lemma => first | omega | simp only [hDs] <;> omega | simp [isCell]) [hRs, takeMarks, resA, resAll, resOne, Value.cells, p73d, t1, t2, t6, t7, ptrV, gb, wrId (n := c.tmod w + 1) (by omega) (by omega), wrId (n := c.tdiv w + 1) (by omega) (by omega), hq]
    obtain ⟨sv, h5, hacc⟩ := hN.acc
    refine ⟨⟨sv, by simp [h5], hacc⟩, hN.old, hN.n, by simp [t1], by simp [t2, ptrV], by simp [t6], by simp [t7], hN.len⟩
theorem w73 {w h s c : Int} {sl : Value} (hw : 1 ≤ w ∧ w ≤ 24) (hh : 1 ≤ h ∧ h ≤ 24) (hc : 0 ≤ c ∧ c < 1000) (hg : g ≤ A.n) (hQ : ∀ A' sv, Ext' A A' → AccS A.n A' 1 (ints (refNb w h c)) sv → V sv A') :
    WF AP KL g 73 [gridV w h s sl, .int .i64 c] A V := by
  have x0 : 0 ≤ c.tmod w ∧ c.tmod w < w := ⟨Int.tmod_nonneg _ hc.1, Int.tmod_lt_of_pos _ (by omega)⟩
  have y0 : 0 ≤ c.tdiv w ∧ c.tdiv w ≤ c := ⟨Int.tdiv_nonneg hc.1 (by omega), by rw [Int.tdiv_eq_ediv_of_nonneg hc.1]; exact Int.ediv_le_self _ hc.1⟩
  obtain ⟨B, hB⟩ : ∃ B, B = A.push (.cells [.int .i64 w, .int .i64 h, .int .i64 s, sl] false) := ⟨_, rfl⟩
  have kB : Ext' A B := by rw [hB]; exact Ext'.push _ _
  have gB : B.get A.n = some (.cells [.int .i64 w, .int .i64 h, .int .i64 s, sl] false) := by rw [hB]; exact get_push_new
  have nB : B.n = A.n + 1 := by rw [hB]; rfl
  rw [WF_body rfl AP73]
  simp (disch := as_aux_lemma => first | omega | simp only [hDs] <;> omega | simp [isCell]) [hRs, takeMarks, resA, resAll, resOne, Value.cells, h73, gridV, J, binA_rem (show w ≠ 0 by omega), binA_quo (show w ≠ 0 by omega), wrId (n := c.tdiv w) (by omega) (by omega)]
  rw [← hB]
  refine W_mono (r73a (A0 := B) (b := A.n) (N := A.n + 1) (l := []) ⟨⟨.slice none 0 0, by simp, AccS.nil⟩, fun _ _ => rfl, by omega, by simp, by simp [ptrV], by simp, by simp, by simp⟩ (by omega) gB (by omega) hw hh hc (by simp)) ?_
  rintro _ ⟨T1, D1, A1⟩ ⟨rfl, rfl, h1⟩
  simp (disch := as_aux_lemma => first | omega | simp only [hDs] <;> omega | simp [isCell]) [hRs, takeMarks, resA, resAll, resOne, Value.cells]
  refine W_mono (r73b h1 (by omega) gB (by omega) hw hh hc (by split <;> simp)) ?_
  rintro _ ⟨T2, D2, A2⟩ ⟨rfl, rfl, h2⟩
  simp (disch := as_aux_lemma => first | omega | simp only [hDs] <;> omega | simp [isCell]) [hRs, takeMarks, resA, resAll, resOne, Value.cells]
  refine W_mono (r73c h2 (by omega) gB (by omega) hw hh hc (by split <;> split <;> simp)) ?_
  rintro _ ⟨T3, D3, A3⟩ ⟨rfl, rfl, h3⟩
  simp (disch := as_aux_lemma => first | omega | simp only [hDs] <;> omega | simp [isCell]) [hRs, takeMarks, resA, resAll, resOne, Value.cells]
  refine W_mono (r73d h3 (by omega) gB (by omega) hw hh hc (by split <;> split <;> split <;> simp)) ?_
  rintro _ ⟨T4, D4, A4⟩ ⟨rfl, rfl, h4⟩
  obtain ⟨sv, h5, hacc⟩ := h4.acc
  simp (disch := as_aux_lemma => first | omega | simp only [hDs] <;> omega | simp [isCell]) [hRs, takeMarks, resA, resAll, resOne, Value.cells, h5]
  have hn4 : A.n + 1 ≤ A4.n := h4.n
  refine hQ A4 sv ⟨by omega, fun x hx => by rw [h4.old x (by omega), kB.2 x hx]⟩ ?_
  exact hacc.weaken (by omega)
end
end Go.Ab.Grid
set_option maxRecDepth 100000
namespace Go.Ab.Grid
open Go Go.Ab
def asg113 : ACode := (.ops [oM 5 7])
def body113 : ACode := (.block 1
 (.ops [
oL 8 2,
oM 9 5,
oP 10 (.slit 1 1 [.int .i64 0] [(0, .t 9)]),
oP 11 (.append (.t 8) (.t 10) 1 8),
oT 2 11 1]))
structure NbP (A0 : Hp) (T1 : List Value) (done : List Int) (A : Hp) : Prop where
  e : Ext' A0 A
  n : A0.n + 4 ≤ A.n
  m : A.get (A0.n + 1) = some .marks
  l : A.get (A0.n + 2) = some (recL T1 [7] asg113 body113)
  r : A.get (A0.n + 3) = some (.cells (ints dirI) false)
  s : ∃ sv, A.get A0.n = some (.cells [sv] false) ∧ AccS (A0.n + 4) A 1 (ints done) sv
theorem NbP.push {A0 A : Hp} {T1 : List Value} {done : List Int} (h : NbP A0 T1 done A) (b : ABlk) : NbP A0 T1 done (A.push b) := by
  obtain ⟨e, n, m, l, r, sv, s1, s2⟩ := h
  have k := Ext'.push A b
  exact ⟨e.trans k, by simp; omega, k.get m, k.get l, k.get r, sv, k.get s1, s2.mono k.2⟩
section
variable {g : Nat} {rd : Option Nat} {T : List Value} {D : List Nat} {A : Hp} {Q : Ex → St → Prop} {V : Value → Hp → Prop}
end
end Go.Ab.Grid
set_option maxRecDepth 100000
namespace Go.Ab.Grid
open Go Go.Ab
def asg324 : ACode := (.ops [oM 12 23])
def body324 : ACode := (.block 1
 (.ops [
oL 24 11,
oL 25 10,
oM 26 12,
oI 27 25 26 1,
oL 28 27,
oP 29 (.min [.t 24, .t 28]),
oT 11 29 1]))
def leastL (o : List Int) (l : List Int) : Int := l.foldl (fun a d => min a (gi o d.toNat)) 1073741824
theorem leastL_snoc {o l : List Int} {d : Int} : leastL o (l ++ [d]) = min (leastL o l) (gi o d.toNat) := by simp [leastL]
section
variable {g : Nat} {rd : Option Nat} {T : List Value} {D : List Nat} {A : Hp} {Q : Ex → St → Prop} {V : Value → Hp → Prop}
theorem loop199 {n : Nat} {cs : List Int} {sv : Value} {x : Int} (hs : RdS A 1 n (ints cs) sv) (hn : n < 1000000)
    (hQ : ∀ T', x ∉ cs → Q (.exit 0) ⟨T', D, A⟩) (hR : ∀ T' (i : Nat), x ∈ cs → tget T' 4 = .int .i64 i → Q .ret ⟨T', D, A⟩) :
    ∀ (k i : Nat) {T : List Value}, i + k = n → (∀ j, j < i → gi cs j ≠ x) → tget T 0 = sv → tget T 1 = .int .i64 x → tget T 7 = .int .i64 n → tget T 8 = .int .i64 i → W AP KL g rd (.loop body199) ⟨T, D, A⟩ Q := by
  intro k
  have lc : cs.length = n := by have := hs.1; simpa using this
  induction k with
  | zero =>
    intro i T hi hp t0 t1 t7 t8
    rw [W_loop]
    simp (disch := as_aux_lemma => first | omega | simp only [hDs] <;> omega | simp [isCell]) [hRs, takeMarks, resA, resAll, resOne, Value.cells, body199, t7, t8, show ¬ ((i : Int) < n) by omega]
    refine hQ _ fun hx => ?_
    obtain ⟨j, hj, rfl⟩ := List.getElem_of_mem hx
    exact hp j (by omega) (gi_eq hj)
  | succ k ih =>
    intro i T hi hp t0 t1 t7 t8
    have e5 : wr .i64 ((i : Int) + 1) = ((i + 1 : Nat) : Int) := by rw [wrId (by omega) (by omega)]; simp
    obtain ⟨xb, xc, xr, rfl, hxb⟩ := hs.at (show i < n by omega)
    rw [W_loop]
    by_cases he : x = gi cs i
    · have hm : x ∈ cs := by rw [he, gi_eq (show i < cs.length by omega)]; exact List.getElem_mem _
      simp (disch := as_aux_lemma => first | omega | simp only [hDs] <;> omega | simp [isCell]) [hRs, takeMarks, resA, resAll, resOne, Value.cells, body199, t0, t1, t7, t8, show ((i : Int) < n) by omega, show i < n by omega, idxSA_ok, hxb, ints_get, lc, he]
      exact hR _ i hm (by simp)
    · simp (disch := as_aux_lemma => first | omega | simp only [hDs] <;> omega | simp [isCell]) [hRs, takeMarks, resA, resAll, resOne, Value.cells, body199, t0, t1, t7, t8, show ((i : Int) < n) by omega, show i < n by omega, idxSA_ok, hxb, ints_get, lc, he, e5]
      refine ih (i + 1) (by omega) (fun j hj => ?_) ?_ ?_ ?_ ?_
      · by_cases h : j = i
        · rw [h]; exact fun h' => he h'.symm
        · exact hp j (by omega)
      all_goals simp [t0, t1, t7]
theorem w169 {n : Nat} {cs : List Int} {sv : Value} {x : Int} (hs : RdS A 1 n (ints cs) sv) (hn : n < 1000000) (hV : V (.bool (decide (x ∈ cs))) A) : WF AP KL g 169 [sv, .int .i64 x] A V := by
  rw [WF_body (show KL 169 = none from rfl) (show AP 169 = some F169 from rfl)]
  simp (disch := as_aux_lemma => first | omega | simp only [hDs] <;> omega | simp [isCell]) [hRs, takeMarks, resA, resAll, resOne, Value.cells, F169]
  rw [WF_body (show KL 199 = none from rfl) (show AP 199 = some F199 from rfl)]
  have hl := hs.len
  simp (disch := as_aux_lemma => first | omega | simp only [hDs] <;> omega | simp [isCell]) [hRs, takeMarks, resA, resAll, resOne, Value.cells, F199, hl]
  refine loop199 (x := x) hs hn (fun T' hx => ?_) (fun T' i hx t4 => ?_) n 0 (by omega) (fun j hj => by omega) ?_ ?_ ?_ ?_
  · simp (disch := as_aux_lemma => first | omega | simp only [hDs] <;> omega | simp [isCell]) [hRs, takeMarks, resA, resAll, resOne, Value.cells, hx]
    simpa [hx] using hV
  · simp (disch := as_aux_lemma => first | omega | simp only [hDs] <;> omega | simp [isCell]) [hRs, takeMarks, resA, resAll, resOne, Value.cells, t4]
    simpa [hx] using hV
  all_goals simp
structure BrI (A0 : Hp) (X11 : Nat) (T1 : List Value) (o done : List Int) (A : Hp) : Prop where
  e : But X11 A0 A
  n : A0.n + 3 ≤ A.n
  m : A.get A0.n = some .marks
  l : A.get (A0.n + 1) = some (recL T1 [23] asg324 body324)
  r : A.get (A0.n + 2) = some (.cells (ints dirI) false)
  s : A.get X11 = some (.cells [.int .i64 (leastL o done)] false)
theorem BrI.push {A0 A : Hp} {X11 : Nat} {T1 : List Value} {o done : List Int} (h : BrI A0 X11 T1 o done A) (b : ABlk) : BrI A0 X11 T1 o done (A.push b) := by
  obtain ⟨e, n, m, l, r, s⟩ := h
  have k := Ext'.push A b
  exact ⟨e.trans (But.of_ext k), by simp; omega, k.get m, k.get l, k.get r, k.get s⟩
theorem y324 {A0 : Hp} {X10 X11 OB m : Nat} {T1 : List Value} {o done : List Int} {d : Nat} (h : BrI A0 X11 T1 o done A) (hg : g ≤ X11) (hX : X11 < A0.n) (hne : X10 ≠ X11) (hOB : OB ≠ X11) (h10 : A0.get X10 = some (.cells [rowS1 OB m] false)) (ho : A0.get OB = some (.cells (ints o) false)) (hlo : o.length = m) (hd : d < m)
    (t10 : tget T1 10 = .pointer (some ⟨X10, 0, none⟩)) (t11 : tget T1 11 = .pointer (some ⟨X11, 0, none⟩)) (hV : ∀ A', BrI A0 X11 T1 o (done ++ [(d : Int)]) A' → V (.bool true) A') :
    WV AP KL g (.func (.yield (A0.n + 1)) #[] #[]) [.int .i64 d] A V := by
  obtain ⟨e, n, m', l, r, s⟩ := h
  have n10 := Hp.lt_of_get h10
  have nO := Hp.lt_of_get ho
  refine WV_yield l (by omega) ?_
  obtain ⟨B, hB⟩ : ∃ B, B = A.set (A0.n + 1) (some (.loop { state := .busy, pending := none, tmps := T1, params := [23], assign := .ops [oM 12 23], body := body324 })) := ⟨_, rfl⟩
  rw [← hB]
  have nB : B.n = A.n := by rw [hB]; rfl
  have oB : ∀ z, z < A.n → z ≠ A0.n + 1 → B.get z = A.get z := fun z hz hne => by rw [hB, get_set_ne (by omega) hne]
  have lB : B.get (A0.n + 1) = some (.loop { state := .busy, pending := none, tmps := T1, params := [23], assign := .ops [oM 12 23], body := body324 }) := by rw [hB, get_set_same l]
  have b10 : B.get X10 = some (.cells [rowS1 OB m] false) := by rw [oB _ (by omega) (by omega), e.2 _ n10 hne]; exact h10
  have bO : B.get OB = some (.cells (ints o) false) := by rw [oB _ (by omega) (by omega), e.2 _ nO hOB]; exact ho
  have b11 : B.get X11 = some (.cells [.int .i64 (leastL o done)] false) := by rw [oB _ (by omega) (by omega)]; exact s
  unfold rowS1 at b10
  have g2 : ∀ (k : ABlk) z, z ≠ X11 → z < A.n → (B.set X11 (some k)).get z = B.get z := fun k z hz hzn => get_set_ne (by omega) hz
  have l2 : ∀ k, (B.set X11 (some k)).get (A0.n + 1) = some (.loop { state := .busy, pending := none, tmps := T1, params := [23], assign := .ops [oM 12 23], body := body324 }) := fun k => by rw [g2 _ _ (by omega) (by omega)]; exact lB
  simp (disch := as_aux_lemma => first | omega | simp only [hDs] <;> omega | simp [isCell]) [hRs, takeMarks, resA, resAll, resOne, Value.cells, body324, t10, t11, b10, b11, bO, idxSA_ok, hd, ints_get, hlo, storeB_cells, setRange_all, RoundQ]
  unfold body324 at l2
  refine ⟨l2 _, hV _ ?_⟩
  have g3 : ∀ (k k' : ABlk) z, z ≠ X11 → z ≠ A0.n + 1 → z < A.n → ((B.set X11 (some k)).set (A0.n + 1) (some k')).get z = A.get z := fun k k' z h1 h2 hzn => by rw [get_set_ne (by simp; omega) h2, g2 _ _ h1 hzn, oB _ hzn h2]
  refine ⟨⟨by simp; have := e.1; omega, fun z hz hzn => by rw [g3 _ _ z hzn (by omega) (by omega)]; exact e.2 z hz hzn⟩, by simp; omega, ?_, ?_, ?_, ?_⟩
  · rw [g3 _ _ _ (by omega) (by omega) (by omega)]; exact m'
  · exact get_set_same (l2 _)
  · rw [g3 _ _ _ (by omega) (by omega) (by omega)]; exact r
  · rw [get_set_ne (by simp; omega) (by omega), get_set_same b11, leastL_snoc, Int.toNat_natCast]
theorem range324 {A0 : Hp} {X10 X11 OB m gb cb : Nat} {T1 : List Value} {o : List Int} {w h s c : Int} {sl : Value} (hw : 1 ≤ w ∧ w ≤ 24) (hh : 1 ≤ h ∧ h ≤ 24) (hc : 0 ≤ c ∧ c < w * h) (hm : (m : Int) = w * h) (hlo : o.length = m) (hg : g ≤ X11)
    (hgb : A0.get gb = some (.cells [.int .i64 w, .int .i64 h, .int .i64 s, sl] false)) (hcb : A0.get cb = some (.cells [.int .i64 c] false)) (h10 : A0.get X10 = some (.cells [rowS1 OB m] false)) (h11 : A0.get X11 = some (.cells [.int .i64 1073741824] false)) (ho : A0.get OB = some (.cells (ints o) false))
    (n10 : X10 ≠ X11) (nO : OB ≠ X11) (ng : gb ≠ X11) (nc : cb ≠ X11)
    (t10 : tget T1 10 = .pointer (some ⟨X10, 0, none⟩)) (t11 : tget T1 11 = .pointer (some ⟨X11, 0, none⟩)) (t22 : tget T1 22 = .func (.func 114) ⟨[]⟩ ⟨[.pointer (some ⟨cb, 0, none⟩), .pointer (some ⟨gb, 0, none⟩)]⟩)
    (hQ : ∀ A', But X11 A0 A' → A'.get X11 = some (.cells [.int .i64 (leastL o (nbrs w h c))] false) → A'.get A0.n = some .marks → Q .normal ⟨T1, A0.n :: D, A'⟩) :
    W AP KL g none (.rangeF (.t 22) [23] asg324 body324) ⟨T1, D, A0⟩ Q := by
  refine W_range (h := 114) (first := []) (captured := [.pointer (some ⟨cb, 0, none⟩), .pointer (some ⟨gb, 0, none⟩)]) t22 ?_
  rw [WF_body (show KL 114 = none from rfl) (show AP 114 = some F114 from rfl)]
  have gn := Hp.lt_of_get hgb
  have cn := Hp.lt_of_get hcb
  have n11 := Hp.lt_of_get h11
  obtain ⟨C, hC⟩ : ∃ C, C = (A0.push .marks).push (recL T1 [23] asg324 body324) := ⟨_, rfl⟩
  rw [← hC]
  have nC : C.n = A0.n + 2 := by rw [hC]; simp
  have e1 : Ext' A0 C := by rw [hC]; exact (Ext'.push A0 _).trans (Ext'.push _ _)
  have mC : C.get A0.n = some .marks := by rw [hC, get_push_old (by simp), get_push_new]
  have lC : C.get (A0.n + 1) = some (recL T1 [23] asg324 body324) := by rw [hC, get_push_eq (by simp)]
  obtain ⟨⟨p1, p2⟩, p3, p4⟩ := cell_parts hw.1 hc.1 hc.2
  have c24 : w * h ≤ 24 * 24 := Int.mul_le_mul hw.2 hh.2 (by omega) (by omega)
  have z4 : zeros 4 [Value.int .i64 0, .int .i64 0] = [.int .i64 0, .int .i64 0, .int .i64 0, .int .i64 0, .int .i64 0, .int .i64 0, .int .i64 0, .int .i64 0] := rfl
  have q1 : wr .i64 (c.tdiv w) = c.tdiv w := wrId (by omega) (by omega)
  have q2 : wr .i64 (c.tmod w) = c.tmod w := wrId (by omega) (by omega)
  have q1' : wr .i64 (c / w) = c / w := by rwa [Int.tdiv_eq_ediv_of_nonneg hc.1] at q1
  have hcb' := e1.get hcb
  have hgb' := e1.get hgb
  have hcbn := Hp.lt_of_get hcb'
  have hgbn := Hp.lt_of_get hgb'
  simp (disch := as_aux_lemma => first | omega | simp only [hDs] <;> omega | simp [isCell]) [hRs, takeMarks, resA, resAll, resOne, Value.cells, F114, hcb', hgb', binA_rem (show w ≠ 0 by omega), binA_quo (show w ≠ 0 by omega), q1, q2, slitA, fillA, setRange, z4]
  obtain ⟨E0, hE⟩ : ∃ E0, E0 = C.push (.cells (ints dirI) false) := ⟨_, rfl⟩
  have hE' := hE.symm
  simp only [dirI, ints, List.map_cons, List.map_nil] at hE'
  rw [hE']
  have e2 : Ext' C E0 := by rw [hE]; exact Ext'.push C _
  have h0 : BrI A0 X11 T1 o [] E0 := ⟨But.of_ext (e1.trans e2), by rw [hE]; simp [nC], e2.get mC, e2.get lC, by rw [hE]; exact get_push_eq (by omega), (e1.trans e2).get h11⟩
  refine loop114 (P := BrI A0 X11 T1 o) (L := A0.n + 1) (G := gb) (R := A0.n + 2) (w := w) (h := h) (c := c) (s := s) (sl := sl) hw hh ⟨p1, p2⟩ ⟨p3, p4⟩ (fun dn A' hP => ⟨by rw [hP.e.2 _ gn ng]; exact hgb, hP.r, by have := hP.n; omega⟩) (fun dn A' b hP => hP.push b)
    (fun dn d A' V' hl hP hd hV' => ?_) (fun T' A' hP => ?_) 4 0 (by omega) h0 ?_ ?_ ?_ ?_ ?_ ?_ ?_
  · obtain ⟨d0, d1⟩ := nbrs_range hw.1 hd
    obtain ⟨dN, rfl⟩ : ∃ dN : Nat, d = (dN : Int) := ⟨d.toNat, by omega⟩
    exact y324 hP hg n11 n10 nO h10 ho hlo (by omega) t10 t11 hV'
  · obtain ⟨e, n, m', l, r, s'⟩ := hP
    simp (disch := as_aux_lemma => first | omega | simp only [hDs] <;> omega | simp [isCell]) [hRs, takeMarks, resA, resAll, resOne, Value.cells, EndQ, l, recL]
    have g3 : ∀ (k : ABlk) z, z ≠ A0.n + 1 → z < A'.n → (A'.set (A0.n + 1) (some k)).get z = A'.get z := fun k z hz hzn => get_set_ne (by omega) hz
    refine hQ _ ⟨by simp; exact e.1, fun z hz hzn => by rw [g3 _ z (by omega) (by have := e.1; omega)]; exact e.2 z hz hzn⟩ ?_ ?_
    · rw [g3 _ _ (by omega) (by omega)]; exact s'
    · rw [g3 _ _ (by omega) (by omega)]; exact m'
  all_goals simp [nC, q1']
theorem htok349 {up : Bool} {w h s : Int} {zs : List Int} {sl : Value} {m c : Nat} {sea : List Nat} {b1 X X6 : Nat} {r1 r2 r3 : Bool} (hb1 : A.get b1 = some (.cells [endF up] r1)) (hX : A.get X = some (.cells [.int .i64 w, .int .i64 h, .int .i64 s, sl] r2)) (hX6 : A.get X6 = some (.cells [.int .i64 c] r3)) (hsl : RdS A 2 m (ints zs) sl) :
    HtOk g (sPar up (some c) w h m zs sea) A A.n (.func (.func 349) ⟨[]⟩ ⟨[.pointer (some ⟨b1, 0, none⟩), .pointer (some ⟨X, 0, none⟩), .pointer (some ⟨X6, 0, none⟩)]⟩) := by
  intro B d V hB hn hd hV
  have q1 : B.get b1 = some (.cells [endF up] r1) := by rw [hB b1 (Hp.lt_of_get hb1)]; exact hb1
  have q2 : B.get X = some (.cells [.int .i64 w, .int .i64 h, .int .i64 s, sl] r2) := by rw [hB X (Hp.lt_of_get hX)]; exact hX
  have q6 : B.get X6 = some (.cells [.int .i64 c] r3) := by rw [hB X6 (Hp.lt_of_get hX6)]; exact hX6
  have hd8 : d < m := hd
  obtain ⟨z, cc, ro, rfl, hz⟩ := hsl.at hd8
  have q3 := (hB z (Hp.lt_of_get hz)).trans hz
  have hl := hsl.1
  rw [ints_length] at hl
  have i2 := ints_two (l := zs) (o := d * 2) (by omega)
  simp (disch := as_aux_lemma => first | omega | simp only [hDs] <;> omega | simp [isCell]) [hRs, takeMarks, resA, resAll, resOne, Value.cells]
  rw [WF_body (show KL 349 = none from rfl) (show AP 349 = some F349 from rfl)]
  simp (disch := as_aux_lemma => first | omega | simp only [hDs] <;> omega | simp [isCell]) [hRs, takeMarks, resA, resAll, resOne, Value.cells, F349, q1, q2, q3, q6, show (d : Int) < m by omega, hd8, idxSA_ok, i2]
  refine wEnd fun A' e' => ?_
  simp (disch := as_aux_lemma => first | omega | simp only [hDs] <;> omega | simp [isCell]) [hRs, takeMarks, resA, resAll, resOne, Value.cells, e'.get q6]
  by_cases hdc : d = c
  · have := hV A' (if up then gi zs (d * 2 + 1) else gi zs (d * 2)) false e' (.inr ⟨rfl, by simp [sPar, hdc]⟩)
    simpa [hdc] using this
  · have := hV A' (if up then gi zs (d * 2 + 1) else gi zs (d * 2)) true e' (.inl ⟨rfl, by cases up <;> simp [sPar, upN, hdc]⟩)
    have hdc' : ¬ (d : Int) = (c : Int) := by omega
    simpa [hdc, hdc'] using this
def BrinkV (up : Bool) (w h : Int) (m : Nat) (zs : List Int) (cs : List Int) (c : Nat) (v : Value) : Prop :=
  if (c : Int) ∈ cs then v = .tuple ⟨[.int .i64 0, .bool false]⟩ else ∃ o, SFin (sPar up (some c) w h m zs (seaN cs)) o ∧ v = .tuple ⟨[.int .i64 (leastL o (nbrs w h c)), .bool true]⟩
theorem w324 {up : Bool} {w h s : Int} {zs : List Int} {sl sv0 : Value} {m n c : Nat} {cs : List Int} (hm60 : m ≤ 60) (hn : n < 1000000) (hz : RdS A 1 n (ints cs) sv0) (hsl : RdS A 2 m (ints zs) sl) (hg : g ≤ A.n) (h0 : seaE w h s m zs n cs = 0) (hc : c < m)
    (hV : ∀ A' v, Ext' A A' → BrinkV up w h m zs cs c v → V v A') : WF AP KL g 324 [gridV w h s sl, sv0, .int .i64 c, endF up] A V := by
  have hcl : cs.length = n := by have := hz.1; simpa using this
  obtain ⟨hE, hn0, hsea, hcast⟩ := seaE_zero hcl h0
  obtain ⟨gw, gh, gm, _⟩ := gridE_parts hE
  have hsl' : (seaN cs).length = n := by simp [seaN, hcl]
  rw [WF_body (show KL 324 = none from rfl) (show AP 324 = some F324 from rfl)]
  obtain ⟨B, hB⟩ : ∃ B, B = ((A.push (.cells [.int .i64 w, .int .i64 h, .int .i64 s, sl] false)).push (.cells [.int .i64 c] false)).push (.cells [endF up] false) := ⟨_, rfl⟩
  have eB : Ext' A B := by rw [hB]; exact ((Ext'.push _ _).trans (Ext'.push _ _)).trans (Ext'.push _ _)
  have nB : B.n = A.n + 3 := by rw [hB]; rfl
  have b4 : B.get A.n = some (.cells [.int .i64 w, .int .i64 h, .int .i64 s, sl] false) := by rw [hB, get_push_old (by simp; omega), get_push_old (by simp), get_push_eq (by omega)]
  have b6 : B.get (A.n + 1) = some (.cells [.int .i64 c] false) := by rw [hB, get_push_old (by simp), get_push_eq (by simp)]
  have b7 : B.get (A.n + 2) = some (.cells [endF up] false) := by rw [hB, get_push_eq (by simp)]
  have hB' := hB.symm
  unfold endF at hB'
  unfold endF
  simp (disch := as_aux_lemma => first | omega | simp only [hDs] <;> omega | simp [isCell]) [hRs, takeMarks, resA, resAll, resOne, Value.cells, F324, gridV, hB', b6]
  refine w169 (eB.rdS hz) hn ?_
  by_cases hin : (c : Int) ∈ cs
  · simp (disch := as_aux_lemma => first | omega | simp only [hDs] <;> omega | simp [isCell]) [hRs, takeMarks, resA, resAll, resOne, Value.cells, hin]
    exact hV B _ eB (by rw [BrinkV, if_pos hin])
  · simp (disch := as_aux_lemma => first | omega | simp only [hDs] <;> omega | simp [isCell]) [hRs, takeMarks, resA, resAll, resOne, Value.cells, hin, b4]
    refine w269 (P := sPar up (some c) w h m zs (seaN cs)) (sPar_line (up := up) (s := s) hE hm60 hsea) hsl.len (by show RdS B 1 (seaN cs).length (ints (castS (seaN cs))) sv0; rw [hsl', hcast]; exact eB.rdS hz) (by show (seaN cs).length < _; omega) rfl (htok349 (A := B) b7 b4 b6 (eB.rdS hsl)) (by omega) fun A1 o OB k1 k2 k3 k4 => ?_
    have n1 := k2.1
    unfold rowS1
    simp (disch := as_aux_lemma => first | omega | simp only [hDs] <;> omega | simp [isCell]) [hRs, takeMarks, resA, resAll, resOne, Value.cells, storeB_cells, set_push_eq, setRange_all, k2.get b4, k2.get b6]
    rw [WF_body (show KL 112 = none from rfl) (show AP 112 = some F112 from rfl)]
    simp (disch := as_aux_lemma => first | omega | simp only [hDs] <;> omega | simp [isCell]) [hRs, takeMarks, resA, resAll, resOne, Value.cells, F112]
    obtain ⟨C, hC⟩ : ∃ C, C = (((A1.push (.cells [.slice (some ⟨OB, 0, some 1⟩) m m] false)).push (.cells [.int .i64 1073741824] false)).push (.cells [.int .i64 w, .int .i64 h, .int .i64 s, sl] false)).push (.cells [.int .i64 c] false) := ⟨_, rfl⟩
    have hOn := Hp.lt_of_get k4
    have eC : Ext' A1 C := by rw [hC]; exact (((Ext'.push _ _).trans (Ext'.push _ _)).trans (Ext'.push _ _)).trans (Ext'.push _ _)
    have nC : C.n = A1.n + 4 := by rw [hC]; rfl
    have c0 : C.get A1.n = some (.cells [.slice (some ⟨OB, 0, some 1⟩) m m] false) := by rw [hC, get_push_old (by simp <;> omega), get_push_old (by simp <;> omega), get_push_old (by simp), get_push_eq (by omega)]
    have c1 : C.get (A1.n + 1) = some (.cells [.int .i64 1073741824] false) := by rw [hC, get_push_old (by simp <;> omega), get_push_old (by simp), get_push_eq (by simp)]
    have c2 : C.get (A1.n + 2) = some (.cells [.int .i64 w, .int .i64 h, .int .i64 s, sl] false) := by rw [hC, get_push_old (by simp), get_push_eq (by simp)]
    have c3 : C.get (A1.n + 3) = some (.cells [.int .i64 c] false) := by rw [hC, get_push_eq (by simp)]
    show W AP KL g none (.rangeF (.t 22) [23] asg324 body324) ⟨_, [], (((A1.push (.cells [.slice (some ⟨OB, 0, some 1⟩) m m] false)).push (.cells [.int .i64 1073741824] false)).push (.cells [.int .i64 w, .int .i64 h, .int .i64 s, sl] false)).push (.cells [.int .i64 c] false)⟩ _
    rw [← hC]
    refine range324 (A0 := C) (X10 := A1.n) (X11 := A1.n + 1) (OB := OB) (m := m) (gb := A1.n + 2) (cb := A1.n + 3) (o := o) (w := w) (h := h) (s := s) (c := c) (sl := sl) gw gh ⟨by omega, by omega⟩ gm k1.len (by omega) c2 c3 c0 c1 (eC.get k4) (by omega) (by omega) (by omega) (by omega) ?_ ?_ ?_ fun A' hb h11 hmk => ?_
    · simp
    · simp
    · simp
    · have hn' := hb.1
      have hmn := Hp.lt_of_get hmk
      simp (disch := as_aux_lemma => first | omega | simp only [hDs] <;> omega | simp [isCell]) [hRs, takeMarks, resA, resAll, resOne, Value.cells, h11, hmk]
      refine hV _ _ ⟨by simp; have := eB.1; omega, fun z hz => ?_⟩ ?_
      · rw [get_set_ne (by omega) (by have := eB.1; have := k2.1; omega), hb.2 z (by have := eB.1; have := k2.1; omega) (by have := eB.1; have := k2.1; omega), (eB.trans (k2.trans eC)).2 z hz]
      · rw [BrinkV, if_neg hin]
        exact ⟨o, k1, rfl⟩
end
end Go.Ab.Grid
set_option maxRecDepth 100000
namespace Go.Ab.Grid
open Go Go.Ab
theorem _root_.Go.Ab.AccS.rdS {N : Nat} {A : Hp} {k : Nat} {cs : List Value} {sv : Value} (h : AccS N A k cs sv) : ∃ n, RdS A k n cs sv := by
  rcases h with ⟨rfl, rfl⟩ | ⟨b, n, rfl, h2, _, h4, _⟩
  · exact ⟨0, by simp, .inl ⟨rfl, rfl⟩⟩
  · exact ⟨n, h4, .inr ⟨b, n, false, rfl, h2⟩⟩
theorem list_gi {a b : List Int} (h : a.length = b.length) (hx : ∀ i, i < a.length → gi a i = gi b i) : a = b := by
  apply List.ext_getElem h
  intro i h1 h2
  have := hx i h1
  simpa [gi, List.getD, h1, h2] using this
section
variable {g : Nat} {rd : Option Nat} {T : List Value} {D : List Nat} {A : Hp} {Q : Ex → St → Prop} {V : Value → Hp → Prop}
end
end Go.Ab.Grid
set_option maxRecDepth 100000
namespace Go.Ab.Grid
open Go Go.Ab
structure G where
  w : Int
  h : Int
  s : Int
  m : Nat
  zs : List Int
def G0 : G := ⟨0, 0, 0, 0, []⟩
def G.E (x : G) : Int := gridE x.w x.h x.s x.m x.zs
def GAt (A : Hp) (x : G) (v : Value) : Prop := ∃ sl, v = gridV x.w x.h x.s sl ∧ RdS A 2 x.m (ints x.zs) sl
theorem GAt.mono {A A' : Hp} {x : G} {v : Value} (h : GAt A x v) (e : Ext' A A') : GAt A' x v := by
  obtain ⟨sl, h1, h2⟩ := h; exact ⟨sl, h1, e.rdS h2⟩
theorem GAt.zero {A : Hp} : GAt A G0 (gridV 0 0 0 (.slice none 0 0)) := ⟨_, rfl, by simp [G0, ints], .inl ⟨rfl, rfl⟩⟩
theorem eqv2 {a b a' b' : Int} : eqvA true [false, false] (.agg ⟨[.int .i64 a, .int .i64 b]⟩) (.agg ⟨[.int .i64 a', .int .i64 b']⟩) = some (.bool (!(decide (a = a') && decide (b = b')))) := by
  simp [eqvA, eqCells, cellEq, kEq]
  rfl
section
variable {g : Nat} {rd : Option Nat} {T : List Value} {D : List Nat} {A : Hp} {Q : Ex → St → Prop} {V : Value → Hp → Prop}
theorem loop294 {n : Nat} {a b : List Int} {x y : Value} (ha : RdS A 2 n (ints a) x) (hb : RdS A 2 n (ints b) y) (hn : n < 1000000)
    (hQ : ∀ T', a = b → Q (.exit 0) ⟨T', D, A⟩) (hR : ∀ T', a ≠ b → tget T' 4 = .bool false → Q .ret ⟨T', D, A⟩) :
    ∀ (k i : Nat) {T : List Value}, i + k = n → (∀ j, j < i * 2 → gi a j = gi b j) → tget T 0 = x → tget T 1 = y → tget T 5 = .int .i64 i → W AP KL g rd (.loop body294) ⟨T, D, A⟩ Q := by
  intro k
  have la : a.length = n * 2 := by have := ha.1; simpa using this
  have lb : b.length = n * 2 := by have := hb.1; simpa using this
  have hl := ha.len
  induction k with
  | zero =>
    intro i T hi hp t0 t1 t5
    rw [W_loop]
    simp (disch := as_aux_lemma => first | omega | simp only [hDs] <;> omega | simp [isCell]) [hRs, takeMarks, resA, resAll, resOne, Value.cells, body294, t0, t1, t5, hl, show ¬ ((i : Int) < n) by omega]
    exact hQ _ (list_gi (by omega) fun j hj => hp j (by omega))
  | succ k ih =>
    intro i T hi hp t0 t1 t5
    have e5 : wr .i64 ((i : Int) + 1) = ((i + 1 : Nat) : Int) := by rw [wrId (by omega) (by omega)]; simp
    obtain ⟨xb, xc, xr, rfl, hxb⟩ := ha.at (show i < n by omega)
    obtain ⟨yb, yc, yr, rfl, hyb⟩ := hb.at (show i < n by omega)
    rw [W_loop]
    by_cases he : gi a (i * 2) = gi b (i * 2) ∧ gi a (i * 2 + 1) = gi b (i * 2 + 1)
    · simp (disch := as_aux_lemma => first | omega | simp only [hDs] <;> omega | simp [isCell]) [hRs, takeMarks, resA, resAll, resOne, Value.cells, body294, t0, t1, t5, hl, show ((i : Int) < n) by omega, show i < n by omega, idxSA_ok, hxb, hyb, ints_two, la, lb, he.1, he.2, e5, eqv2]
      refine ih (i + 1) (by omega) (fun j hj => ?_) ?_ ?_ ?_
      · by_cases h : j = i * 2
        · rw [h]; exact he.1
        · by_cases h' : j = i * 2 + 1
          · rw [h']; exact he.2
          · exact hp j (by omega)
      all_goals simp [t0, t1]
    · have hne : a ≠ b := fun h => he (by rw [h]; exact ⟨rfl, rfl⟩)
      have hd : (decide (gi a (i * 2) = gi b (i * 2)) && decide (gi a (i * 2 + 1) = gi b (i * 2 + 1))) = false := by simpa using he
      have hd' : (!decide (gi a (i * 2) = gi b (i * 2)) || !decide (gi a (i * 2 + 1) = gi b (i * 2 + 1))) = true := by rw [← Bool.not_and, hd]; rfl
      simp (disch := as_aux_lemma => first | omega | simp only [hDs] <;> omega | simp [isCell]) [hRs, takeMarks, resA, resAll, resOne, Value.cells, body294, t0, t1, t5, hl, show ((i : Int) < n) by omega, show i < n by omega, idxSA_ok, hxb, hyb, ints_two, la, lb, hd, hd', e5, eqv2]
      exact hR _ hne (by simp)
theorem w294 {na nb : Nat} {a b : List Int} {x y : Value} (ha : RdS A 2 na (ints a) x) (hb : RdS A 2 nb (ints b) y) (hn : na < 1000000) (hV : V (.bool (decide (a = b))) A) : WF AP KL g 294 [x, y] A V := by
  rw [WF_body (show KL 294 = none from rfl) (show AP 294 = some F294 from rfl)]
  have la : a.length = na * 2 := by have := ha.1; simpa using this
  have lb : b.length = nb * 2 := by have := hb.1; simpa using this
  have h1 := ha.len
  have h2 := hb.len
  by_cases he : na = nb
  · subst he
    simp (disch := as_aux_lemma => first | omega | simp only [hDs] <;> omega | simp [isCell]) [hRs, takeMarks, resA, resAll, resOne, Value.cells, F294, h1, h2]
    refine loop294 ha hb hn (fun T' he' => ?_) (fun T' he' t4 => ?_) na 0 (by omega) (fun j hj => by omega) ?_ ?_ ?_
    · simp (disch := as_aux_lemma => first | omega | simp only [hDs] <;> omega | simp [isCell]) [hRs, takeMarks, resA, resAll, resOne, Value.cells, he']
      simpa [he'] using hV
    · simp (disch := as_aux_lemma => first | omega | simp only [hDs] <;> omega | simp [isCell]) [hRs, takeMarks, resA, resAll, resOne, Value.cells, t4]
      simpa [he'] using hV
    all_goals simp
  · simp (disch := as_aux_lemma => first | omega | simp only [hDs] <;> omega | simp [isCell]) [hRs, takeMarks, resA, resAll, resOne, Value.cells, F294, h1, h2, show ¬ ((na : Int) = nb) by omega]
    have : a ≠ b := fun h => he (by rw [h] at la; omega)
    simpa [this] using hV
end
end Go.Ab.Grid
set_option maxRecDepth 100000
namespace Go.Ab.Grid
open Go Go.Ab
def GV3 (A : Hp) (r : G × Int × Int) (v : Value) : Prop := ∃ vg, v = .tuple ⟨[vg, .int .i64 r.2.1, .int .i64 r.2.2]⟩ ∧ GAt A r.1 vg
theorem setRange_two {cur : List Int} {i : Nat} {a b : Int} (h : i * 2 + 2 ≤ cur.length) : setRange (ints cur) (i * 2) [.int .i64 a, .int .i64 b] = ints ((cur.set (i * 2) a).set (i * 2 + 1) b) := by
  have hl : (ints cur).length = cur.length := by simp
  have e1 : ints ((cur.set (i * 2) a).set (i * 2 + 1) b) = ((ints cur).set (i * 2) (.int .i64 a)).set (i * 2 + 1) (.int .i64 b) := by simp [ints, List.map_set]
  rw [e1]
  generalize ints cur = l at hl ⊢
  apply List.ext_getElem?
  intro j
  simp only [setRange, List.length_cons, List.length_nil]
  rw [List.getElem?_set, List.getElem?_set, List.append_assoc]
  by_cases h1 : j < i * 2
  · rw [List.getElem?_append_left (by simp; omega), List.getElem?_take_of_lt h1, if_neg (by omega), if_neg (by omega)]
  · rw [List.getElem?_append_right (by simp; omega)]
    have ht : (l.take (i * 2)).length = i * 2 := by simp; omega
    rw [ht]
    by_cases h2 : j = i * 2
    · subst h2
      simp [show i * 2 < l.length by omega]
    · by_cases h3 : j = i * 2 + 1
      · subst h3
        simp [show i * 2 + 1 < l.length by omega]
      · obtain ⟨q, rfl⟩ : ∃ q, j = i * 2 + 2 + q := ⟨j - (i * 2 + 2), by omega⟩
        rw [if_neg (by omega), if_neg (by omega), show i * 2 + 2 + q - i * 2 = q + 2 by omega]
        simp [List.getElem?_drop]
section
variable {g : Nat} {rd : Option Nat} {T : List Value} {D : List Nat} {A : Hp} {Q : Ex → St → Prop} {V : Value → Hp → Prop}
theorem GAt.tuple {A : Hp} {x : G} {vg : Value} {i e : Int} (h : GAt A x vg) : GV3 A (x, i, e) (.tuple ⟨[vg, .int .i64 i, .int .i64 e]⟩) := ⟨vg, rfl, h⟩
end
end Go.Ab.Grid
set_option maxRecDepth 100000
namespace Go.Ab.Grid
open Go Go.Ab
def PondC (w h : Int) (m : Nat) (zs cs : List Int) (i : Nat) (a b : Int) : Prop :=
  if (i : Int) ∈ cs then a = 0 ∧ b = 0 else ∃ ol oh, SFin (sPar false (some i) w h m zs (seaN cs)) ol ∧ SFin (sPar true (some i) w h m zs (seaN cs)) oh ∧ a = max 0 (leastL ol (nbrs w h i) - gi zs (i * 2 + 1)) ∧ b = max 0 (leastL oh (nbrs w h i) - gi zs (i * 2))
theorem leastL_rng {o : List Int} (ho : ∀ c, -1073741824 ≤ gi o c ∧ gi o c ≤ 1073741824) (l : List Int) : -1073741824 ≤ leastL o l ∧ leastL o l ≤ 1073741824 := by
  unfold leastL
  suffices h : ∀ a : Int, -1073741824 ≤ a ∧ a ≤ 1073741824 → -1073741824 ≤ l.foldl (fun a d => min a (gi o d.toNat)) a ∧ l.foldl (fun a d => min a (gi o d.toNat)) a ≤ 1073741824 from h _ (by omega)
  induction l with
  | nil => intro a ha; exact ha
  | cons x l ih =>
    intro a ha
    have := ho x.toNat
    exact ih (min a (gi o x.toNat)) (by omega)
theorem zeros2 {n : Nat} : zeros n [.int .i64 0, .int .i64 0] = ints (List.replicate (n * 2) 0) := by
  unfold zeros ints
  apply List.ext_getElem (by simp)
  intro i h1 h2
  have : i % 2 = 0 ∨ i % 2 = 1 := by omega
  rcases this with h | h <;> simp [h]
theorem makeS2_ok {n : Nat} {A : Hp} (hn : n < 1000000) : makeSA 2 16 [.int .i64 0, .int .i64 0] (.int .i64 n) (.int .i64 n) A = some (.slice (some ⟨A.n, 0, some 2⟩) n n, A.push (.cells (ints (List.replicate (n * 2) 0)) false)) := by
  unfold makeSA
  simp only
  rw [if_pos ⟨by omega, by omega, by unfold room; omega, by unfold room; omega⟩, zeros2]
  rfl
section
variable {g : Nat} {rd : Option Nat} {T : List Value} {D : List Nat} {A : Hp} {Q : Ex → St → Prop} {V : Value → Hp → Prop}
theorem SFin.rng {P : SPar} {o : List Int} (h : SFin P o) (c : Nat) : -1073741824 ≤ gi o c ∧ gi o c ≤ 1073741824 := by
  by_cases hc : c < P.m
  · exact h.le c hc
  · have : gi o c = 0 := by simp [gi, List.getD, show o.length ≤ c by have := h.len; omega]
    omega
theorem loop297 {A0 : Hp} {w h s : Int} {zs cs : List Int} {sl sv0 : Value} {m n X2 Y : Nat} (hm60 : m ≤ 60) (hn : n < 1000000) (hz : RdS A0 1 n (ints cs) sv0) (hsl : RdS A0 2 m (ints zs) sl) (hg : g ≤ Y) (h0 : seaE w h s m zs n cs = 0) (hX2 : A0.get X2 = some (.cells [.int .i64 w, .int .i64 h, .int .i64 s, sl] false))
    (hYn : Y < A0.n) (hYz : ∀ z, blkOf sv0 = some z → z ≠ Y) (hYs : ∀ z, blkOf sl = some z → z ≠ Y) (hY2 : X2 ≠ Y)
    (hQ : ∀ T' A' cur, But Y A0 A' → A'.get Y = some (.cells (ints cur) false) → cur.length = m * 2 → (∀ j, j < m → PondC w h m zs cs j (gi cur (j * 2)) (gi cur (j * 2 + 1))) → tget T' 7 = .slice (some ⟨Y, 0, some 2⟩) m m → Q (.exit 0) ⟨T', D, A'⟩) :
    ∀ (k i : Nat) {T : List Value} {A : Hp} (cur : List Int), i + k = m → But Y A0 A → A.get Y = some (.cells (ints cur) false) → cur.length = m * 2 → (∀ j, j < i → PondC w h m zs cs j (gi cur (j * 2)) (gi cur (j * 2 + 1))) → (∀ j, i * 2 ≤ j → gi cur j = 0) →
      tget T 1 = sv0 → tget T 2 = .pointer (some ⟨X2, 0, none⟩) → tget T 7 = .slice (some ⟨Y, 0, some 2⟩) m m → tget T 25 = sl → tget T 26 = .int .i64 m → tget T 27 = .int .i64 i → W AP KL g rd (.loop body297) ⟨T, D, A⟩ Q := by
  intro k
  have lz : zs.length = m * 2 := by have := hsl.1; simpa using this
  have hcl : cs.length = n := by have := hz.1; simpa using this
  have hE := (seaE_zero hcl h0).1
  obtain ⟨gw, gh, gm, gv⟩ := gridE_parts hE
  have hX2n := Hp.lt_of_get hX2
  induction k with
  | zero =>
    intro i T A cur hi hb hA hc hp hz0 t1 t2 t7 t25 t26 t27
    have : i = m := by omega
    subst this
    rw [W_loop]
    simp (disch := as_aux_lemma => first | omega | simp only [hDs] <;> omega | simp [isCell]) [hRs, takeMarks, resA, resAll, resOne, Value.cells, body297, t26, t27]
    exact hQ _ _ cur hb hA hc hp (by simp [t7])
  | succ k ih =>
    intro i T A cur hi hb hA hc hp hz0 t1 t2 t7 t25 t26 t27
    have e5 : wr .i64 ((i : Int) + 1) = ((i + 1 : Nat) : Int) := by rw [wrId (by omega) (by omega)]; simp
    have hAn := hb.1
    have hYA := Hp.lt_of_get hA
    have hzA := hz.keepB (A' := A) fun z hz' => hb.2 z (hz.blk_lt hz') (hYz z hz')
    have hsA := hsl.keepB (A' := A) fun z hz' => hb.2 z (hsl.blk_lt hz') (hYs z hz')
    obtain ⟨xb, xc, xr, rfl, hxb⟩ := hsA.at (show i < m by omega)
    have hxbn := Hp.lt_of_get hxb
    have a2 : A.get X2 = some (.cells [.int .i64 w, .int .i64 h, .int .i64 s, .slice (some ⟨xb, 0, some 2⟩) m xc] false) := by rw [hb.2 _ hX2n hY2]; exact hX2
    have gvi := gv i (by omega)
    rw [W_loop]
    simp (disch := as_aux_lemma => first | omega | simp only [hDs] <;> omega | simp [isCell]) [hRs, takeMarks, resA, resAll, resOne, Value.cells, body297, t1, t2, t7, t25, t26, t27, show ((i : Int) < m) by omega, show i < m by omega, idxSA_ok, hxb, ints_two, lz, storeB_cells, setRange_all, set_push_eq, a2]
    have f1 := Ext'.push A (.cells [.int .i64 (gi zs (i * 2)), .int .i64 (gi zs (i * 2 + 1))] false)
    refine w324 (up := false) (s := s) hm60 hn (f1.rdS hzA) (f1.rdS hsA) (by simp; omega) h0 (show i < m by omega) fun A1 v1 e1 hv1 => ?_
    have e01 := f1.trans e1
    have n01 := e01.1
    unfold BrinkV at hv1
    by_cases hin : (i : Int) ∈ cs
    · rw [if_pos hin] at hv1
      subst hv1
      simp (disch := as_aux_lemma => first | omega | simp only [hDs] <;> omega | simp [isCell]) [hRs, takeMarks, resA, resAll, resOne, Value.cells, t1, t2, e01.get a2]
      refine w324 (up := true) (s := s) hm60 hn (e01.rdS hzA) (e01.rdS hsA) (by omega) h0 (show i < m by omega) fun A2 v2 e2 hv2 => ?_
      unfold BrinkV at hv2
      rw [if_pos hin] at hv2
      subst hv2
      have e02 := e01.trans e2
      simp (disch := as_aux_lemma => first | omega | simp only [hDs] <;> omega | simp [isCell]) [hRs, takeMarks, resA, resAll, resOne, Value.cells, t27, e5]
      refine ih (i + 1) cur (by omega) (hb.trans (But.of_ext e02)) (e02.get hA) hc (fun j hj => ?_) (fun j hj => hz0 j (by omega)) ?_ ?_ ?_ ?_ ?_ ?_
      · by_cases hji : j = i
        · subst hji
          rw [PondC, if_pos hin]
          exact ⟨hz0 _ (by omega), hz0 _ (by omega)⟩
        · exact hp j (by omega)
      all_goals simp [t1, t2, t7, t25, t26]
    · rw [if_neg hin] at hv1
      obtain ⟨ol, s1, rfl⟩ := hv1
      simp (disch := as_aux_lemma => first | omega | simp only [hDs] <;> omega | simp [isCell]) [hRs, takeMarks, resA, resAll, resOne, Value.cells, t1, t2, e01.get a2]
      refine w324 (up := true) (s := s) hm60 hn (e01.rdS hzA) (e01.rdS hsA) (by omega) h0 (show i < m by omega) fun A2 v2 e2 hv2 => ?_
      unfold BrinkV at hv2
      rw [if_neg hin] at hv2
      obtain ⟨oh, s2, rfl⟩ := hv2
      have e02 := e01.trans e2
      have n02 := e02.1
      have b9 : A2.get A.n = some (.cells [.int .i64 (gi zs (i * 2)), .int .i64 (gi zs (i * 2 + 1))] false) := (e1.trans e2).get get_push_new
      have r1 := leastL_rng (o := ol) (fun c => s1.rng c) (nbrs w h i)
      have r2 := leastL_rng (o := oh) (fun c => s2.rng c) (nbrs w h i)
      have u1 : wr .i64 (leastL ol (nbrs w h i) - gi zs (i * 2 + 1)) = leastL ol (nbrs w h i) - gi zs (i * 2 + 1) := wrId (by omega) (by omega)
      have u2 : wr .i64 (leastL oh (nbrs w h i) - gi zs (i * 2)) = leastL oh (nbrs w h i) - gi zs (i * 2) := wrId (by omega) (by omega)
      have hA2 := e02.get hA
      simp (disch := as_aux_lemma => first | omega | simp only [hDs] <;> omega | simp [isCell]) [hRs, takeMarks, resA, resAll, resOne, Value.cells, t7, t27, e5, b9, u1, u2, fillA, setRange, idxSA_ok, show i < m by omega, storeB_cells, hA2, hc]
      have e6 : ∀ a b : Int, List.take (i * 2) (ints cur) ++ .int .i64 a :: .int .i64 b :: List.drop (i * 2 + 2) (ints cur) = ints ((cur.set (i * 2) a).set (i * 2 + 1) b) := fun a b => by
        rw [← setRange_two (by omega)]; simp [setRange]
      rw [e6]
      refine ih (i + 1) _ (by omega) (hb.trans (But.set hYA e02)) (get_set_same hA2) (by simp [hc]) (fun j hj => ?_) (fun j hj => ?_) ?_ ?_ ?_ ?_ ?_ ?_
      · by_cases hji : j = i
        · subst hji
          rw [gi_setI (by simp; omega), if_neg (by omega), gi_setI (by omega), if_pos rfl, gi_setI (by simp; omega), if_pos rfl, PondC, if_neg hin]
          exact ⟨ol, oh, s1, s2, rfl, rfl⟩
        · rw [gi_setI (by simp; omega), if_neg (by omega), gi_setI (by omega), if_neg (by omega), gi_setI (by simp; omega), if_neg (by omega), gi_setI (by omega), if_neg (by omega)]
          exact hp j (by omega)
      · rw [gi_setI (by simp; omega), if_neg (by omega), gi_setI (by omega), if_neg (by omega)]
        exact hz0 j (by omega)
      all_goals simp [t1, t2, t7, t25, t26]
def PondV (A : Hp) (w h s : Int) (m : Nat) (zs : List Int) (n : Nat) (cs : List Int) (N : Nat) (sv : Value) (e : Int) : Prop :=
  e = seaE w h s m zs n cs ∧ if e = 0 then ∃ ps : List Int, ps.length = m * 2 ∧ (∀ j, j < m → PondC w h m zs cs j (gi ps (j * 2)) (gi ps (j * 2 + 1))) ∧ RdS A 2 m (ints ps) sv ∧ ∀ b, blkOf sv = some b → N ≤ b else sv = .slice none 0 0
theorem w297 {w h s : Int} {zs cs : List Int} {sl sv0 : Value} {m n : Nat} (hm60 : m ≤ 60) (hn : n < 1000000) (hz : RdS A 1 n (ints cs) sv0) (hsl : RdS A 2 m (ints zs) sl) (hg : g ≤ A.n)
    (hV : ∀ A' sv e, Ext' A A' → PondV A' w h s m zs n cs A.n sv e → V (.tuple ⟨[sv, .int .i64 e]⟩) A') : WF AP KL g 297 [gridV w h s sl, sv0] A V := by
  rw [WF_body (show KL 297 = none from rfl) (show AP 297 = some F297 from rfl)]
  obtain ⟨B, hB⟩ : ∃ B, B = A.push (.cells [.int .i64 w, .int .i64 h, .int .i64 s, sl] false) := ⟨_, rfl⟩
  have eB : Ext' A B := by rw [hB]; exact Ext'.push _ _
  have nB : B.n = A.n + 1 := by rw [hB]; rfl
  have b2 : B.get A.n = some (.cells [.int .i64 w, .int .i64 h, .int .i64 s, sl] false) := by rw [hB]; exact get_push_new
  have hl := hsl.len
  simp (disch := as_aux_lemma => first | omega | simp only [hDs] <;> omega | simp [isCell]) [hRs, takeMarks, resA, resAll, resOne, Value.cells, F297, gridV, ← hB, b2]
  refine w266 (by omega) hn (eB.rdS hz) (eB.rdS hsl) fun A1 e1 => ?_
  have e01 := eB.trans e1
  have n1 := e1.1
  by_cases h0 : seaE w h s m zs n cs = 0
  · simp (disch := as_aux_lemma => first | omega | simp only [hDs] <;> omega | simp [isCell]) [hRs, takeMarks, resA, resAll, resOne, Value.cells, h0, e1.get b2, hl, makeS2_ok (n := m) (by omega)]
    obtain ⟨C, hC⟩ : ∃ C, C = A1.push (.cells (ints (List.replicate (m * 2) 0)) false) := ⟨_, rfl⟩
    rw [← hC]
    have eC : Ext' A1 C := by rw [hC]; exact Ext'.push _ _
    have nC : C.n = A1.n + 1 := by rw [hC]; rfl
    have cY : C.get A1.n = some (.cells (ints (List.replicate (m * 2) 0)) false) := by rw [hC]; exact get_push_new
    refine loop297 (A0 := C) (X2 := A.n) (Y := A1.n) (w := w) (h := h) (s := s) (zs := zs) (cs := cs) (sl := sl) (sv0 := sv0) hm60 hn ((e01.trans eC).rdS hz) ((e01.trans eC).rdS hsl) (by omega) h0 ((e1.trans eC).get b2) (by omega) (fun z hz' => by have := hz.blk_lt hz'; omega) (fun z hz' => by have := hsl.blk_lt hz'; omega) (by omega)
      (fun T' A' cur hb hA' hc hp t7 => ?_) m 0 (List.replicate (m * 2) 0) (by omega) (But.of_ext ⟨Nat.le_refl _, fun _ _ => rfl⟩) cY (by simp) (fun j hj => by omega) (fun j _ => ?_) ?_ ?_ ?_ ?_ ?_ ?_
    · simp (disch := as_aux_lemma => first | omega | simp only [hDs] <;> omega | simp [isCell]) [hRs, takeMarks, resA, resAll, resOne, Value.cells, t7]
      have hn' := hb.1
      refine hV A' _ 0 ⟨by omega, fun z hz' => by rw [hb.2 z (by omega) (by omega), (e01.trans eC).2 z hz']⟩ ⟨h0.symm, ?_⟩
      rw [if_pos rfl]
      refine ⟨cur, hc, hp, ⟨by simp [hc], .inr ⟨A1.n, m, false, rfl, hA'⟩⟩, fun b hb' => ?_⟩
      have : A1.n = b := by simpa [blkOf] using hb'
      omega
    · unfold gi
      by_cases hj : j < m * 2
      · simp [List.getD, hj]
      · simp [List.getD, hj]
    all_goals simp [hl]
  · simp (disch := as_aux_lemma => first | omega | simp only [hDs] <;> omega | simp [isCell]) [hRs, takeMarks, resA, resAll, resOne, Value.cells, h0]
    refine hV A1 _ _ e01 ⟨rfl, ?_⟩
    rw [if_neg h0]
end
end Go.Ab.Grid
set_option maxRecDepth 100000
namespace Go.Ab.Grid
open Go Go.Ab
@[simp] theorem GuardW_un {AP : Nat → Option AFunc} {K : Nat → Option Spec} {g : Nat} {dst : Option Nat} {op : AOp} {l : List AOper} {T : List Value} {A : Hp} {R : List Value → Hp → Prop} {b : Bool} :
    GuardW AP K g dst op l T A R b undef = WO AP K g l (putA dst T undef) A R := rfl
section
variable {g : Nat} {rd : Option Nat} {T : List Value} {D : List Nat} {A : Hp} {Q : Ex → St → Prop} {V : Value → Hp → Prop}
end
end Go.Ab.Grid
set_option maxRecDepth 100000
namespace Go.Ab.Grid
open Go Go.Ab
section
variable {g : Nat} {rd : Option Nat} {T : List Value} {D : List Nat} {A : Hp} {Q : Ex → St → Prop} {V : Value → Hp → Prop}
end
end Go.Ab.Grid
set_option maxRecDepth 100000
namespace Go.Ab.Grid
open Go Go.Ab
section
variable {g : Nat} {rd : Option Nat} {T : List Value} {D : List Nat} {A : Hp} {Q : Ex → St → Prop} {V : Value → Hp → Prop}
theorem w59i {x lo hi : Int} : WF AP KL g 59 [.int .i64 x, .int .i64 lo, .int .i64 hi] A V ↔ V (.bool (decide (lo ≤ x) && decide (x ≤ hi))) A := by
  rw [WF_body (show KL 59 = none from rfl) (show AP 59 = some F59 from rfl)]
  by_cases h : lo ≤ x
  · simp (disch := as_aux_lemma => first | omega | simp only [hDs] <;> omega | simp [isCell]) [hRs, takeMarks, resA, resAll, resOne, Value.cells, F59, h]
  · simp (disch := as_aux_lemma => first | omega | simp only [hDs] <;> omega | simp [isCell]) [hRs, takeMarks, resA, resAll, resOne, Value.cells, F59, h]
end
end Go.Ab.Grid
set_option maxRecDepth 100000
namespace Go.Ab.Grid
open Go Go.Ab
def terI (up : Bool) (zs : List Int) (n : Nat) : List Int := (List.range n).map fun i => gi zs (i * 2 + upN up)
theorem terI_succ {up : Bool} {zs : List Int} {n : Nat} : terI up zs (n + 1) = terI up zs n ++ [gi zs (n * 2 + upN up)] := by unfold terI; rw [List.range_succ]; simp
theorem terI_len {up : Bool} {zs : List Int} {n : Nat} : (terI up zs n).length = n := by simp [terI]
theorem terI_get {up : Bool} {zs : List Int} {n i : Nat} (h : i < n) : gi (terI up zs n) i = gi zs (i * 2 + upN up) := by simp [terI, gi, List.getD, h]
section
variable {g : Nat} {rd : Option Nat} {T : List Value} {D : List Nat} {A : Hp} {Q : Ex → St → Prop} {V : Value → Hp → Prop}
theorem loop321 {w h s : Int} {sl sv : Value} {m n X2 : Nat} {cs : List Int} (hm : m < 1000000) (hn : n < 1000000) (hs : RdS A 1 n (ints cs) sv) (hX : A.get X2 = some (.cells [.int .i64 w, .int .i64 h, .int .i64 s, sl] false)) (hl : lenV sl = some (.int .i64 m))
    (hQ : ∀ T', (List.range n).any (outB m cs) = false → Q (.exit 0) ⟨T', D, A⟩) (hR : ∀ T', (List.range n).any (outB m cs) = true → tget T' 4 = .int .i64 4 → Q .ret ⟨T', D, A⟩) :
    ∀ (k i : Nat) {T : List Value}, i + k = n → (∀ j, j < i → outB m cs j = false) → tget T 1 = sv → tget T 2 = .pointer (some ⟨X2, 0, none⟩) → tget T 6 = .int .i64 i → W AP KL g rd (.loop body321) ⟨T, D, A⟩ Q := by
  intro k
  have lc : cs.length = n := by have := hs.1; simpa using this
  have hls := hs.len
  have em : wr .i64 ((m : Int) - 1) = (m : Int) - 1 := wrId (by omega) (by omega)
  induction k with
  | zero =>
    intro i T hi hp t1 t2 t6
    rw [W_loop]
    simp (disch := as_aux_lemma => first | omega | simp only [hDs] <;> omega | simp [isCell]) [hRs, takeMarks, resA, resAll, resOne, Value.cells, body321, t1, t6, hls, show ¬ ((i : Int) < n) by omega]
    refine hQ _ ?_
    rw [List.any_eq_false]
    intro j hj
    rw [hp j (by have := List.mem_range.1 hj; omega)]
    decide
  | succ k ih =>
    intro i T hi hp t1 t2 t6
    have e5 : wr .i64 ((i : Int) + 1) = ((i + 1 : Nat) : Int) := by rw [wrId (by omega) (by omega)]; simp
    obtain ⟨xb, xc, xr, rfl, hxb⟩ := hs.at (show i < n by omega)
    rw [W_loop]
    cases ho : outB m cs i with
    | true =>
      have ho' : (!decide (0 ≤ gi cs i) || !decide (gi cs i ≤ (m : Int) - 1)) = true := by rw [← Bool.not_and]; exact ho
      simp (disch := as_aux_lemma => first | omega | simp only [hDs] <;> omega | simp [isCell]) [hRs, takeMarks, resA, resAll, resOne, Value.cells, body321, t1, t2, t6, hls, show ((i : Int) < n) by omega, show i < n by omega, idxSA_ok, hxb, ints_get, lc, hX, hl, em, w59i, ho']
      exact hR _ (List.any_eq_true.2 ⟨i, List.mem_range.2 (by omega), ho⟩) (by simp)
    | false =>
      have hc : 0 ≤ gi cs i ∧ gi cs i ≤ (m : Int) - 1 := by
        unfold outB at ho
        simp only [Bool.not_eq_false', Bool.and_eq_true, decide_eq_true_eq] at ho
        exact ho
      simp (disch := as_aux_lemma => first | omega | simp only [hDs] <;> omega | simp [isCell]) [hRs, takeMarks, resA, resAll, resOne, Value.cells, body321, t1, t2, t6, hls, show ((i : Int) < n) by omega, show i < n by omega, idxSA_ok, hxb, ints_get, lc, hX, hl, em, w59i, hc.1, hc.2, e5]
      refine ih (i + 1) (by omega) (fun j hj => ?_) ?_ ?_ ?_
      · by_cases h : j = i
        · rw [h]; exact ho
        · exact hp j (by omega)
      all_goals simp [t1, t2]
theorem w321 {w h s : Int} {zs : List Int} {sl sv0 : Value} {m n : Nat} {cs : List Int} (hm : m < 1000000) (hn : n < 1000000) (hz : RdS A 1 n (ints cs) sv0) (hsl : RdS A 2 m (ints zs) sl) (hg : g ≤ A.n)
    (hV : ∀ A', Ext' A A' → V (.int .i64 (seaE w h s m zs n cs)) A') : WF AP KL g 321 [gridV w h s sl, sv0] A V := by
  rw [WF_body (show KL 321 = none from rfl) (show AP 321 = some F321 from rfl)]
  obtain ⟨B, hB⟩ : ∃ B, B = A.push (.cells [.int .i64 w, .int .i64 h, .int .i64 s, sl] false) := ⟨_, rfl⟩
  have eB : Ext' A B := by rw [hB]; exact Ext'.push A _
  have hX : B.get A.n = some (.cells [.int .i64 w, .int .i64 h, .int .i64 s, sl] false) := by rw [hB, get_push_new]
  have nB := eB.1
  have hl := hz.len
  simp (disch := as_aux_lemma => first | omega | simp only [hDs] <;> omega | simp [isCell]) [hRs, takeMarks, resA, resAll, resOne, Value.cells, F321, gridV, ← hB, hX]
  refine w40 (eB.rdS hsl) hm (by omega) fun A1 e1 => ?_
  have hV1 := hV A1 (eB.trans e1)
  by_cases hE : gridE w h s m zs = 0
  · by_cases h0 : n = 0
    · rw [seaE, if_pos hE, if_pos h0] at hV1
      simp (disch := as_aux_lemma => first | omega | simp only [hDs] <;> omega | simp [isCell]) [hRs, takeMarks, resA, resAll, resOne, Value.cells, hE, hl, h0]
      exact hV1
    · rw [seaE, if_pos hE, if_neg h0] at hV1
      simp (disch := as_aux_lemma => first | omega | simp only [hDs] <;> omega | simp [isCell]) [hRs, takeMarks, resA, resAll, resOne, Value.cells, hE, hl, show ¬ (n : Int) = 0 by omega, h0]
      refine loop321 (X2 := A.n) (w := w) (h := h) (s := s) hm hn ((eB.trans e1).rdS hz) (e1.get hX) hsl.len (fun T' ha => ?_) (fun T' ha t4 => ?_) n 0 (by omega) (fun j hj => by omega) ?_ ?_ ?_
      · rw [if_neg (by rw [ha]; decide)] at hV1
        simp (disch := as_aux_lemma => first | omega | simp only [hDs] <;> omega | simp [isCell]) [hRs, takeMarks, resA, resAll, resOne, Value.cells]
        exact hV1
      · rw [if_pos ha] at hV1
        simp (disch := as_aux_lemma => first | omega | simp only [hDs] <;> omega | simp [isCell]) [hRs, takeMarks, resA, resAll, resOne, Value.cells, t4]
        exact hV1
      all_goals simp
  · rw [seaE, if_neg hE] at hV1
    simp (disch := as_aux_lemma => first | omega | simp only [hDs] <;> omega | simp [isCell]) [hRs, takeMarks, resA, resAll, resOne, Value.cells, hE]
    exact hV1
theorem loop323 {A0 : Hp} {w h s : Int} {zs : List Int} {sl : Value} {m X2 N : Nat} {up : Bool} (hm : m < 1000000) (hsl : RdS A0 2 m (ints zs) sl) (hX : A0.get X2 = some (.cells [.int .i64 w, .int .i64 h, .int .i64 s, sl] false)) (hN : A0.n = N) (hg : g ≤ N)
    (hQ : ∀ T' A' sv, Ext' A0 A' → AccS N A' 1 (ints (terI up zs m)) sv → tget T' 5 = sv → Q (.exit 0) ⟨T', D, A'⟩) :
    ∀ (k i : Nat) {T : List Value} {A : Hp} (sv : Value), i + k = m → Ext' A0 A → AccS N A 1 (ints (terI up zs i)) sv → tget T 1 = .bool up → tget T 2 = .pointer (some ⟨X2, 0, none⟩) → tget T 5 = sv → tget T 6 = .int .i64 i → W AP KL g rd (.loop body323) ⟨T, D, A⟩ Q := by
  intro k
  have lz : zs.length = m * 2 := by have := hsl.1; simpa using this
  have hl := hsl.len
  induction k with
  | zero =>
    intro i T A sv hi hb hacc t1 t2 t5 t6
    have : i = m := by omega
    subst this
    rw [W_loop]
    simp (disch := as_aux_lemma => first | omega | simp only [hDs] <;> omega | simp [isCell]) [hRs, takeMarks, resA, resAll, resOne, Value.cells, body323, t2, t6, hb.get hX, hl]
    exact hQ _ _ sv hb hacc (by simp [t5])
  | succ k ih =>
    intro i T A sv hi hb hacc t1 t2 t5 t6
    have e5 : wr .i64 ((i : Int) + 1) = ((i + 1 : Nat) : Int) := by rw [wrId (by omega) (by omega)]; simp
    have hAn := hb.1
    obtain ⟨xb, xc, xr, rfl, hxb⟩ := (hb.rdS hsl).at (show i < m by omega)
    obtain ⟨sv', A1, a1, a2, a3, a4⟩ := append_acc (g := g) (bytes := 8) (y := A.n) (A := A.push (.cells [.int .i64 (gi zs (i * 2 + upN up))] false)) (new := [.int .i64 (gi zs (i * 2 + upN up))]) (ro := false) (n := i) (hacc.mono (Ext'.push A _).2) (by omega) (by simp; omega) get_push_new rfl (by decide) rfl (by simp [terI_len]) (by unfold room; omega)
    rw [show ints (terI up zs i) ++ [.int .i64 (gi zs (i * 2 + upN up))] = ints (terI up zs (i + 1)) by rw [terI_succ, ints_append]; rfl] at a2
    have fin : ∀ T', tget T' 1 = .bool up → tget T' 2 = .pointer (some ⟨X2, 0, none⟩) → tget T' 5 = sv' → tget T' 6 = .int .i64 ((i + 1 : Nat) : Int) → W AP KL g rd (.loop body323) ⟨T', D, A1⟩ Q := fun T' u1 u2 u5 u6 =>
      ih (i + 1) sv' (by omega) ⟨by rw [a4]; simp; omega, fun z hz => by rw [a3 z (by omega), get_push_old (by omega), hb.2 z hz]⟩ a2 u1 u2 u5 u6
    rw [W_loop]
    cases up with
    | true =>
      rw [show upN true = 1 from rfl] at a1
      simp (disch := as_aux_lemma => first | omega | simp only [hDs] <;> omega | simp [isCell]) [hRs, takeMarks, resA, resAll, resOne, Value.cells, body323, t1, t2, t5, t6, hb.get hX, hl, show ((i : Int) < m) by omega, show i < m by omega, idxSA_ok, hxb, ints_get, lz, slitA, fillA, setRange, zeros, a1, e5]
      exact fin _ (by simp [t1]) (by simp [t2]) (by simp) (by simp)
    | false =>
      rw [show upN false = 0 from rfl] at a1
      simp only [Nat.add_zero] at a1
      simp (disch := as_aux_lemma => first | omega | simp only [hDs] <;> omega | simp [isCell]) [hRs, takeMarks, resA, resAll, resOne, Value.cells, body323, t1, t2, t5, t6, hb.get hX, hl, show ((i : Int) < m) by omega, show i < m by omega, idxSA_ok, hxb, ints_get, lz, slitA, fillA, setRange, zeros, a1, e5]
      exact fin _ (by simp [t1]) (by simp [t2]) (by simp) (by simp)
theorem w323 {w h s : Int} {zs : List Int} {sl : Value} {m : Nat} {up : Bool} (hm : m < 1000000) (hsl : RdS A 2 m (ints zs) sl) (hg : g ≤ A.n)
    (hV : ∀ A' sv, Ext' A A' → AccS A.n A' 1 (ints (terI up zs m)) sv → V sv A') : WF AP KL g 323 [gridV w h s sl, .bool up] A V := by
  rw [WF_body (show KL 323 = none from rfl) (show AP 323 = some F323 from rfl)]
  obtain ⟨B, hB⟩ : ∃ B, B = A.push (.cells [.int .i64 w, .int .i64 h, .int .i64 s, sl] false) := ⟨_, rfl⟩
  have eB : Ext' A B := by rw [hB]; exact Ext'.push A _
  have hX : B.get A.n = some (.cells [.int .i64 w, .int .i64 h, .int .i64 s, sl] false) := by rw [hB, get_push_new]
  have nB := eB.1
  simp (disch := as_aux_lemma => first | omega | simp only [hDs] <;> omega | simp [isCell]) [hRs, takeMarks, resA, resAll, resOne, Value.cells, F323, gridV, ← hB]
  refine loop323 (A0 := B) (N := B.n) (X2 := A.n) (w := w) (h := h) (s := s) (up := up) hm (eB.rdS hsl) hX rfl (by omega) (fun T' A' sv e hacc t5 => ?_) m 0 (.slice none 0 0) (by omega) ⟨Nat.le_refl _, fun _ _ => rfl⟩ (by simp [terI, ints]; exact AccS.nil) ?_ ?_ ?_ ?_
  · simp (disch := as_aux_lemma => first | omega | simp only [hDs] <;> omega | simp [isCell]) [hRs, takeMarks, resA, resAll, resOne, Value.cells, t5]
    exact hV A' sv (eB.trans e) (hacc.weaken nB)
  all_goals simp
end
end Go.Ab.Grid
set_option maxRecDepth 100000
namespace Go.Ab.Grid
open Go Go.Ab
structure RI (P : SPar) (o : List Int) (q : List Nat) : Prop where
  len : o.length = P.m
  le : ∀ c, c < P.m → -1073741824 ≤ gi o c ∧ gi o c ≤ noneV
  out : ∀ c, c < P.m → gi o c = noneV ∨ P.Der c (gi o c)
  sea : ∀ c, c ∈ q → gi o c ≤ max (P.ht c) (-1073741824)
def Still (P : SPar) (o : List Int) (c d : Nat) : Prop := gi o c ≤ max (P.ht c) (gi o d)
theorem RI.start {P : SPar} : RI P (List.replicate P.m noneV) [] := by
  have hg : ∀ c, c < P.m → gi (List.replicate P.m noneV) c = noneV := fun c hc => by simp [gi, List.getD, hc]
  exact ⟨by simp, fun c hc => by rw [hg c hc]; decide, fun c hc => .inl (hg c hc), fun c hc => by cases hc⟩
theorem RI.seaOne {P : SPar} {o : List Int} {q : List Nat} {c : Nat} (hP : SParOk P) (h : RI P o q) (hc : c ∈ P.sea) (hb : P.ht c ≤ 2000000) : RI P (o.set c (P.ht c)) (q ++ [c]) := by
  have hcm := hP.sea c hc
  have hh := hP.ht c hcm
  have hl := h.len
  have hm : max (P.ht c) (-1073741824) = P.ht c := by omega
  refine ⟨by simp [hl], fun a ha => ?_, fun a ha => ?_, fun a ha => ?_⟩
  · rw [gi_setI (by omega)]
    split
    · unfold noneV; omega
    · exact h.le a ha
  · rw [gi_setI (by omega)]
    split
    · rename_i hac
      subst hac
      refine .inr ?_
      have := SPar.Der.base (P := P) hc
      rwa [hm] at this
    · exact h.out a ha
  · rw [gi_setI (by omega)]
    rcases List.mem_append.1 ha with ha | ha
    · split
      · rename_i hac
        subst hac
        omega
      · exact h.sea a ha
    · rw [List.mem_singleton] at ha
      rw [if_pos ha, ha]; omega
theorem RI.seaBar {P : SPar} {o : List Int} {q : List Nat} {c : Nat} (h : RI P o q) (hc : c < P.m) (hb : P.ht c = 1073741824) : RI P o (q ++ [c]) := by
  refine ⟨h.len, h.le, h.out, fun a ha => ?_⟩
  rcases List.mem_append.1 ha with ha | ha
  · exact h.sea a ha
  · rw [List.mem_singleton] at ha
    subst ha
    have := (h.le a hc).2
    unfold noneV at this
    omega
theorem RI.low {P : SPar} {o : List Int} {q : List Nat} {c d : Nat} (hP : SParOk P) (h : RI P o q) (hc : c < P.m) (hd : d < P.m) (hnb : c ∈ P.nb d) : RI P (lowO P o c (gi o d)) q := by
  have hl := h.len
  have hco : c < o.length := by omega
  have hh := hP.ht c hc
  refine ⟨by rw [lowO_length, hl], fun a ha => ?_, fun a ha => ?_, fun a ha => ?_⟩
  · rw [lowO_get hco]
    split
    · rename_i hx
      have := (h.le c hc).2
      omega
    · exact h.le a ha
  · rw [lowO_get hco]
    split
    · rename_i hx
      obtain ⟨rfl, hlt⟩ := hx
      have hle := (h.le a hc).2
      rcases h.out d hd with hn | hder
      · rw [hn] at hlt
        omega
      · exact .inr (.step hder hnb)
    · exact h.out a ha
  · exact Int.le_trans (lowO_le hco a) (h.sea a ha)
theorem RI.fin {P : SPar} {o : List Int} (h : RI P o P.sea) (hcl : ∀ c, c < P.m → ∀ d, c ∈ P.nb d → d < P.m → Still P o c d) (hP : SParOk P) : SFin P o :=
  ⟨h.len, h.le, h.out, h.sea, fun a ha _ d hd => hcl d (hP.nb a ha d hd) a hd ha⟩
def Adv (o o' : List Int) (fl fl' : Bool) (C : Prop) : Prop := (o' = o ∧ fl' = fl ∧ C) ∨ (fl' = true ∧ potS o' < potS o)
theorem Adv.refl {o : List Int} {fl : Bool} {C : Prop} (h : C) : Adv o o fl fl C := .inl ⟨rfl, rfl, h⟩
theorem Adv.trans {o o1 o2 : List Int} {fl fl1 fl2 : Bool} {C C' C'' : Prop} (h : Adv o o1 fl fl1 C) (h' : Adv o1 o2 fl1 fl2 C') (hC : o1 = o → o2 = o1 → C → C' → C'') : Adv o o2 fl fl2 C'' := by
  rcases h with ⟨rfl, rfl, h⟩ | ⟨rfl, h⟩
  · rcases h' with ⟨rfl, rfl, h'⟩ | ⟨rfl, h'⟩
    · exact .inl ⟨rfl, rfl, hC rfl rfl h h'⟩
    · exact .inr ⟨rfl, h'⟩
  · rcases h' with ⟨rfl, rfl, _⟩ | ⟨rfl, h'⟩
    · exact .inr ⟨rfl, h⟩
    · exact .inr ⟨rfl, by omega⟩
theorem Adv.low {P : SPar} {o : List Int} {c d : Nat} {fl : Bool} (hP : SParOk P) (hl : o.length = P.m) (hc : c < P.m) : Adv o (lowO P o c (gi o d)) fl (if max (P.ht c) (gi o d) < gi o c then true else fl) (Still P o c d) := by
  by_cases h : max (P.ht c) (gi o d) < gi o c
  · rw [if_pos h]
    have hh := hP.ht c hc
    exact .inr ⟨rfl, potS_low (by omega) (by omega) h⟩
  · rw [if_neg h]
    refine .inl ⟨?_, rfl, ?_⟩
    · unfold lowO; rw [if_neg h]
    · unfold Still; omega
theorem SFin.uniq {P : SPar} {o o' : List Int} (hP : SParOk P) (h : SFin P o) (h' : SFin P o') : o = o' := by
  refine list_gi (by rw [h.len, h'.len]) fun c hc => ?_
  rw [h.len] at hc
  have h1 := h.le c hc
  have h2 := h'.le c hc
  rcases h.out c hc with a | a
  · rcases h'.out c hc with b | b
    · rw [a, b]
    · have := SFin.least hP h b
      omega
  · have p := SFin.least hP h' a
    rcases h'.out c hc with b | b
    · omega
    · have := SFin.least hP h b
      omega
end Go.Ab.Grid
set_option maxRecDepth 100000
namespace Go.Ab.Grid
open Go Go.Ab
section
variable {g : Nat} {rd : Option Nat} {T : List Value} {D : List Nat} {A : Hp} {Q : Ex → St → Prop} {V : Value → Hp → Prop}
theorem loop322e {A0 : Hp} {P : SPar} {H l o0 : List Int} {fl0 : Bool} {sh sn : Value} {OB nn c : Nat} {wo : Int} {T0 : List Value} (hP : SParOk P) (hm : P.m ≤ 60) (hh : RdS A0 1 P.m (ints H) sh) (hn : RdS A0 1 nn (ints l) sn) (hnn : nn < 1000000) (hg : g ≤ OB) (hO : OB < A0.n) (hhO : ∀ z, blkOf sh = some z → z ≠ OB) (hnO : ∀ z, blkOf sn = some z → z ≠ OB)
    (hc : c < P.m) (hl : ∀ d, d ∈ l → 0 ≤ d ∧ d.toNat < P.m ∧ c ∈ P.nb d.toNat) (hht : (c : Int) ≠ wo → P.ht c = gi H c)
    (hQ : ∀ T' A' o' fl', But OB A0 A' → A'.get OB = some (.cells (ints o') false) → RI P o' P.sea → Adv o0 o' fl0 fl' (∀ d, d ∈ l → (c : Int) ≠ wo → Still P o' c d.toNat) → tget T' 12 = .bool fl' → (∀ t, t = 1 ∨ t = 2 ∨ t = 3 ∨ t = 4 ∨ t = 9 ∨ t = 13 → tget T' t = tget T0 t) → Q (.exit 8) ⟨T', D, A'⟩) :
    ∀ (k i : Nat) {T : List Value} {A : Hp} (o : List Int) (fl : Bool), i + k = nn → But OB A0 A → A.get OB = some (.cells (ints o) false) → RI P o P.sea → Adv o0 o fl0 fl (∀ j, j < i → (c : Int) ≠ wo → Still P o c (gi l j).toNat) → tget T 12 = .bool fl → (∀ t, t = 1 ∨ t = 2 ∨ t = 3 ∨ t = 4 ∨ t = 9 ∨ t = 13 → tget T t = tget T0 t) →
      tget T0 1 = sh → tget T0 3 = .int .i64 wo → tget T0 9 = rowS1 OB P.m → tget T0 13 = .int .i64 c → tget T 14 = sn → tget T 15 = .int .i64 i → W AP KL g rd (.loop body322e) ⟨T, D, A⟩ Q := by
  intro k
  have ll : l.length = nn := by have := hn.1; simpa using this
  have lH : H.length = P.m := by have := hh.1; simpa using this
  have hnl := hn.len
  induction k with
  | zero =>
    intro i T A o fl hi hb hA hR hAd t12 hk T1 T3 T9 T13 t14 t15
    have t13 := (hk 13 (by simp)).trans T13
    rw [W_loop]
    simp (disch := as_aux_lemma => first | omega | simp only [hDs] <;> omega | simp [isCell]) [hRs, takeMarks, resA, resAll, resOne, Value.cells, body322e, t14, t15, hnl, show ¬ ((i : Int) < nn) by omega]
    refine hQ _ _ o fl hb hA hR (hAd.elim (fun ⟨a, b, h⟩ => .inl ⟨a, b, fun d hd hw => ?_⟩) .inr) (by simp [t12]) fun t ht => ?_
    · obtain ⟨j, hj, rfl⟩ := List.getElem_of_mem hd
      have := h j (by omega) hw
      rwa [gi_eq hj] at this
    · rcases ht with rfl | rfl | rfl | rfl | rfl | rfl <;> simp [hk]
  | succ k ih =>
    intro i T A o fl hi hb hA hR hAd t12 hk T1 T3 T9 T13 t14 t15
    have t1 := (hk 1 (by simp)).trans T1
    have t3 := (hk 3 (by simp)).trans T3
    have t9 := (hk 9 (by simp)).trans T9
    have t13 := (hk 13 (by simp)).trans T13
    unfold rowS1 at t9
    have e5 : wr .i64 ((i : Int) + 1) = ((i + 1 : Nat) : Int) := by rw [wrId (by omega) (by omega)]; simp
    have hAn := hb.1
    have hOA := Hp.lt_of_get hA
    rw [W_loop]
    by_cases hw : (c : Int) = wo
    · simp (disch := as_aux_lemma => first | omega | simp only [hDs] <;> omega | simp [isCell]) [hRs, takeMarks, resA, resAll, resOne, Value.cells, body322e, t3, t13, t14, t15, hnl, show ((i : Int) < nn) by omega, show i < nn by omega, hw]
      refine hQ _ _ o fl hb hA hR (hAd.elim (fun ⟨a, b, h⟩ => .inl ⟨a, b, fun d hd hw' => absurd hw hw'⟩) .inr) (by simp [t12]) fun t ht => ?_
      rcases ht with rfl | rfl | rfl | rfl | rfl | rfl <;> simp [hk]
    · obtain ⟨xb, xc, xr, rfl, hxb⟩ := (hn.keepB (A' := A) fun z hz => hb.2 z (hn.blk_lt hz) (hnO z hz)).at (show i < nn by omega)
      obtain ⟨yb, yc, yr, rfl, hyb⟩ := (hh.keepB (A' := A) fun z hz => hb.2 z (hh.blk_lt hz) (hhO z hz)).at hc
      obtain ⟨d0, d1, d2⟩ := hl (gi l i) (by rw [gi_eq (show i < l.length by omega)]; exact List.getElem_mem _)
      obtain ⟨d, hd⟩ : ∃ d : Nat, gi l i = (d : Int) := ⟨(gi l i).toNat, by omega⟩
      rw [hd, Int.toNat_natCast] at d1 d2
      have hol := hR.len
      have hhc := hht hw
      have hR' := hR.low hP hc d1 d2
      have hAd' := hAd.trans (Adv.low (P := P) (o := o) (c := c) (d := d) (fl := fl) hP hol hc) (C'' := ∀ j, j < i + 1 → (c : Int) ≠ wo → Still P (lowO P o c (gi o d)) c (gi l j).toNat) fun _ ho h1 h2 j hj hw' => by
        rw [ho]
        by_cases hji : j = i
        · rw [hji, hd, Int.toNat_natCast]; exact h2
        · exact h1 j (by omega) hw'
      by_cases hlt : max (P.ht c) (gi o d) < gi o c
      · have hlow : lowO P o c (gi o d) = o.set c (max (P.ht c) (gi o d)) := by unfold lowO; rw [if_pos hlt]
        have hlt' : max (gi o d) (gi H c) < gi o c := by rw [← hhc]; omega
        have hmx : max (P.ht c) (gi o d) = max (gi o d) (gi H c) := by rw [← hhc]; omega
        simp (disch := as_aux_lemma => first | omega | simp only [hDs] <;> omega | simp [isCell]) [hRs, takeMarks, resA, resAll, resOne, Value.cells, body322e, t1, t3, t9, t13, t14, t15, hnl, show ((i : Int) < nn) by omega, show i < nn by omega, hw, idxSA_ok, hxb, hyb, ints_get, ll, lH, hd, hA, hol, d1, hc, hlt', storeB_cells, setRange_intsI, e5]
        rw [if_pos hlt] at hAd'
        refine ih (i + 1) (lowO P o c (gi o d)) true (by omega) (hb.trans (But.set hOA ⟨Nat.le_refl _, fun _ _ => rfl⟩)) (by rw [get_set_same hA, hlow, hmx]) hR' hAd' (by simp) (fun t ht => ?_) T1 T3 T9 T13 (by simp [t14]) (by simp)
        rcases ht with rfl | rfl | rfl | rfl | rfl | rfl <;> simp [hk]
      · have hlow : lowO P o c (gi o d) = o := by unfold lowO; rw [if_neg hlt]
        have hlt' : ¬ max (gi o d) (gi H c) < gi o c := by rw [← hhc]; omega
        simp (disch := as_aux_lemma => first | omega | simp only [hDs] <;> omega | simp [isCell]) [hRs, takeMarks, resA, resAll, resOne, Value.cells, body322e, t1, t3, t9, t13, t14, t15, hnl, show ((i : Int) < nn) by omega, show i < nn by omega, hw, idxSA_ok, hxb, hyb, ints_get, ll, lH, hd, hA, hol, d1, hc, hlt', e5]
        rw [if_neg hlt, hlow] at hAd'
        refine ih (i + 1) o fl (by omega) hb hA hR hAd' (by simp [t12]) (fun t ht => ?_) T1 T3 T9 T13 (by simp [t14]) (by simp)
        rcases ht with rfl | rfl | rfl | rfl | rfl | rfl <;> simp [hk]
end
end Go.Ab.Grid
set_option maxRecDepth 100000
namespace Go.Ab.Grid
open Go Go.Ab
theorem cell_uniq {w x y x' y' : Int} (hx : 0 ≤ x ∧ x < w) (hx' : 0 ≤ x' ∧ x' < w) (h : y * w + x = y' * w + x') : x = x' ∧ y = y' := by
  by_cases h1 : y < y'
  · have := Int.mul_le_mul_of_nonneg_right (show y + 1 ≤ y' by omega) (show 0 ≤ w by omega)
    rw [Int.add_mul] at this
    omega
  · by_cases h2 : y' < y
    · have := Int.mul_le_mul_of_nonneg_right (show y' + 1 ≤ y by omega) (show 0 ≤ w by omega)
      rw [Int.add_mul] at this
      omega
    · have : y = y' := by omega
      subst this
      omega
theorem nbrs_symm {w h c d : Int} (hw : 1 ≤ w) (hc : 0 ≤ c ∧ c < w * h) (hd : d ∈ nbrs w h c) : (0 ≤ d ∧ d < w * h) ∧ c ∈ nbrs w h d := by
  obtain ⟨p1, p2, p3, p4, p5⟩ := cell_xy hw hc
  rw [← refNb_eq hw hc] at hd
  unfold refNb at hd
  generalize c.tmod w = x at *
  generalize c.tdiv w = y at *
  have e1 : (y + 1) * w = y * w + w := by rw [Int.add_mul, Int.one_mul]
  have e2 : (y - 1) * w = y * w - w := by rw [Int.sub_mul, Int.one_mul]
  have key : ∀ x' y' : Int, 0 ≤ x' → x' < w → 0 ≤ y' → y' < h → d = y' * w + x' → (0 ≤ d ∧ d < w * h) ∧ d.tmod w = x' ∧ d.tdiv w = y' := by
    intro x' y' h1 h2 h3 h4 e
    have m1 := Int.mul_nonneg h3 (show 0 ≤ w by omega)
    have m2 := Int.mul_le_mul_of_nonneg_right (show y' ≤ h - 1 by omega) (show 0 ≤ w by omega)
    rw [Int.sub_mul, Int.one_mul] at m2
    have hb : 0 ≤ d ∧ d < w * h := by rw [Int.mul_comm w h]; omega
    obtain ⟨q1, q2, q3, q4, q5⟩ := cell_xy hw hb
    have := cell_uniq (x := d.tmod w) (y := d.tdiv w) (x' := x') (y' := y') ⟨q1, q2⟩ ⟨h1, h2⟩ (by rw [← q5]; exact e)
    exact ⟨hb, this.1, this.2⟩
  simp only [List.mem_append] at hd
  have fin : ∀ x' y' : Int, 0 ≤ x' → x' < w → 0 ≤ y' → y' < h → d = y' * w + x' → (x' + 1 < w ∧ c = d + 1 ∨ y' + 1 < h ∧ c = d + w ∨ 0 < x' ∧ c = d - 1 ∨ 0 < y' ∧ c = d - w) → (0 ≤ d ∧ d < w * h) ∧ c ∈ nbrs w h d := by
    intro x' y' h1 h2 h3 h4 e hh
    obtain ⟨k1, k2, k3⟩ := key x' y' h1 h2 h3 h4 e
    refine ⟨k1, ?_⟩
    rw [← refNb_eq hw k1]
    unfold refNb
    rw [k2, k3]
    simp only [List.mem_append]
    rcases hh with ⟨a, b⟩ | ⟨a, b⟩ | ⟨a, b⟩ | ⟨a, b⟩
    · rw [if_pos a]; exact .inl (.inl (.inl (by simp [b])))
    · rw [if_pos a]; exact .inl (.inl (.inr (by simp [b])))
    · rw [if_pos a]; exact .inl (.inr (by simp [b]))
    · rw [if_pos a]; exact .inr (by simp [b])
  rcases hd with ((hd | hd) | hd) | hd
  · split at hd
    · rw [List.mem_singleton] at hd
      exact fin (x + 1) y (by omega) (by omega) p3 p4 (by omega) (.inr (.inr (.inl ⟨by omega, by omega⟩)))
    · cases hd
  · split at hd
    · rw [List.mem_singleton] at hd
      exact fin x (y + 1) p1 p2 (by omega) (by omega) (by omega) (.inr (.inr (.inr ⟨by omega, by omega⟩)))
    · cases hd
  · split at hd
    · rw [List.mem_singleton] at hd
      exact fin (x - 1) y (by omega) (by omega) p3 p4 (by omega) (.inl ⟨by omega, by omega⟩)
    · cases hd
  · split at hd
    · rw [List.mem_singleton] at hd
      exact fin x (y - 1) p1 p2 (by omega) (by omega) (by omega) (.inr (.inl ⟨by omega, by omega⟩))
    · cases hd
def body322d : ACode := (.seq
 (.seq
 (.ops [
oM 55 13,
oM 56 1,
oP 57 (.len (.t 56)),
oB 58 .lss 55 57])
 (.cond (.t 58)
 .skip
 (.exit 6)))
 (.seq
 (.block 7
 (.seq
 (.ops [
oD 61 4 4,
oM 62 13,
oA 63 73 [.t 61, .t 62] false,
oM 14 63])
 (.seq
 (.ops [
oP 15 (.move (oK 0))])
 (.block 8
 (.loop
 (.seq
 (.seq
 (.ops [
oM 64 15,
oM 65 14,
oP 66 (.len (.t 65)),
oB 67 .lss 64 66,
oM 68 67,
oN 69 68 true 13,
oN 70 68 true 3,
oQ 71 68 true (.bin .neq (.t 69) (.t 70)),
oP 72 (.pick (.t 68) (.t 71) (.k (.bool false)))])
 (.cond (.t 72)
 .skip
 (.exit 8)))
 (.seq
 (.block 9
 (.seq
 (.ops [
oM 75 9,
oM 76 14,
oM 77 15,
oI 78 76 77 1,
oL 79 78,
oI 80 75 79 1,
oL 81 80,
oM 82 1,
oM 83 13,
oI 84 82 83 1,
oL 85 84,
oP 86 (.max [.t 81, .t 85]),
oM 16 86])
 (.seq
 (.ops [
oM 87 16,
oM 88 9,
oM 89 13,
oI 90 88 89 1,
oL 91 90,
oB 92 .lss 87 91])
 (.cond (.t 92)
 (.seq
 (.ops [
oM 93 9,
oM 94 13,
oM 95 16,
oI 96 93 94 1,
oT 96 95 1])
 (.ops [
oP 12 (.move (.k (.bool true)))]))
 .skip))))
 (.ops [
oM 73 15,
oC 74 .add 73 1,
oM 15 74]))))))))
 (.ops [
oM 59 13,
oC 60 .add 59 1,
oM 13 60])))
section
variable {g : Nat} {rd : Option Nat} {T : List Value} {D : List Nat} {A : Hp} {Q : Ex → St → Prop} {V : Value → Hp → Prop}
theorem loop322d {A0 : Hp} {P : SPar} {H o0 : List Int} {fl0 : Bool} {sh sl : Value} {OB X4 : Nat} {w h s wo : Int} {T0 : List Value} (hL : SLine P w h) (hh : RdS A0 1 P.m (ints H) sh) (hX : A0.get X4 = some (.cells [.int .i64 w, .int .i64 h, .int .i64 s, sl] false)) (hg : g ≤ OB) (hO : OB < A0.n) (hhO : ∀ z, blkOf sh = some z → z ≠ OB) (hXO : X4 ≠ OB)
    (hht : ∀ c : Nat, c < P.m → (c : Int) ≠ wo → P.ht c = gi H c)
    (hQ : ∀ T' A' o' fl', But OB A0 A' → A'.get OB = some (.cells (ints o') false) → RI P o' P.sea → Adv o0 o' fl0 fl' (∀ c : Nat, c < P.m → (c : Int) ≠ wo → ∀ d, d ∈ nbrs w h c → Still P o' c d.toNat) → tget T' 12 = .bool fl' → (∀ t, t = 1 ∨ t = 2 ∨ t = 3 ∨ t = 4 ∨ t = 9 → tget T' t = tget T0 t) → Q (.exit 6) ⟨T', D, A'⟩) :
    ∀ (k i : Nat) {T : List Value} {A : Hp} (o : List Int) (fl : Bool), i + k = P.m → But OB A0 A → A.get OB = some (.cells (ints o) false) → RI P o P.sea → Adv o0 o fl0 fl (∀ c : Nat, c < i → (c : Int) ≠ wo → ∀ d, d ∈ nbrs w h c → Still P o c d.toNat) → tget T 12 = .bool fl → (∀ t, t = 1 ∨ t = 2 ∨ t = 3 ∨ t = 4 ∨ t = 9 → tget T t = tget T0 t) →
      tget T0 1 = sh → tget T0 3 = .int .i64 wo → tget T0 4 = .pointer (some ⟨X4, 0, none⟩) → tget T0 9 = rowS1 OB P.m → tget T 13 = .int .i64 i → W AP KL g rd (.loop body322d) ⟨T, D, A⟩ Q := by
  intro k
  have lH : H.length = P.m := by have := hh.1; simpa using this
  have hlh := hh.len
  have hm60 := hL.m
  have hXn := Hp.lt_of_get hX
  have hwh := hL.wh
  have hw := hL.wr
  induction k with
  | zero =>
    intro i T A o fl hi hb hA hR hAd t12 hk T1 T3 T4 T9 t13
    have t1 := (hk 1 (by simp)).trans T1
    have : i = P.m := by omega
    subst this
    rw [W_loop]
    simp (disch := as_aux_lemma => first | omega | simp only [hDs] <;> omega | simp [isCell]) [hRs, takeMarks, resA, resAll, resOne, Value.cells, body322d, t1, t13, hlh]
    refine hQ _ _ o fl hb hA hR hAd (by simp [t12]) fun t ht => ?_
    rcases ht with rfl | rfl | rfl | rfl | rfl <;> simp [hk]
  | succ k ih =>
    intro i T A o fl hi hb hA hR hAd t12 hk T1 T3 T4 T9 t13
    have t1 := (hk 1 (by simp)).trans T1
    have t3 := (hk 3 (by simp)).trans T3
    have t4 := (hk 4 (by simp)).trans T4
    have t9 := (hk 9 (by simp)).trans T9
    have e5 : wr .i64 ((i : Int) + 1) = ((i + 1 : Nat) : Int) := by rw [wrId (by omega) (by omega)]; simp
    have hAn := hb.1
    have hOA := Hp.lt_of_get hA
    have aX : A.get X4 = some (.cells [.int .i64 w, .int .i64 h, .int .i64 s, sl] false) := by rw [hb.2 _ hXn hXO]; exact hX
    have hic : 0 ≤ (i : Int) ∧ (i : Int) < w * h := by omega
    rw [W_loop]
    simp (disch := as_aux_lemma => first | omega | simp only [hDs] <;> omega | simp [isCell]) [hRs, takeMarks, resA, resAll, resOne, Value.cells, body322d, t1, t4, t13, hlh, show ((i : Int) < P.m) by omega, show i < P.m by omega, aX]
    refine w73 (w := w) (h := h) (c := i) (s := s) hL.wr hL.hr (by omega) (by omega) fun A1 sv e1 hacc => ?_
    rw [refNb_eq hw.1 hic] at hacc
    obtain ⟨nn, hsn⟩ := hacc.rdS
    have hnn : nn ≤ 4 := by
      have a := hsn.1
      have b : (nbrs w h i).length ≤ 4 := nbI_len (Nat.le_refl 4)
      simp at a
      omega
    have n1 := e1.1
    simp (disch := as_aux_lemma => first | omega | simp only [hDs] <;> omega | simp [isCell]) [hRs, takeMarks, resA, resAll, resOne, Value.cells]
    have hb1 := hb.trans (But.of_ext e1)
    refine loop322e (A0 := A1) (P := P) (H := H) (l := nbrs w h i) (o0 := o) (fl0 := fl) (sh := sh) (sn := sv) (OB := OB) (nn := nn) (c := i) (wo := wo) hL.ok (by omega) (hh.keepB fun z hz => hb1.2 z (hh.blk_lt hz) (hhO z hz)) hsn (by omega) hg (by omega) hhO (fun z hz => by have := (hacc.blk_ge hz).1; omega) (by omega) (fun d hd => ?_) (hht i (by omega))
      (fun T' A' o' fl' hb' hA' hR' hAd' t12' hk' => ?_) nn 0 o fl (by omega) (But.of_ext ⟨Nat.le_refl _, fun _ _ => rfl⟩) (e1.get hA) hR (Adv.refl fun j hj => by omega) ?_ (fun t _ => rfl) ?_ ?_ ?_ ?_ ?_ ?_
    · obtain ⟨⟨d0, d1⟩, d2⟩ := nbrs_symm hw.1 hic hd
      refine ⟨d0, by omega, ?_⟩
      rw [hL.nb _ (by omega)]
      refine List.mem_map.2 ⟨(i : Int), ?_, by simp⟩
      rw [Int.toNat_of_nonneg d0]
      exact d2
    · have u13 := hk' 13 (by simp)
      simp [t13] at u13
      simp (disch := as_aux_lemma => first | omega | simp only [hDs] <;> omega | simp [isCell]) [hRs, takeMarks, resA, resAll, resOne, Value.cells, u13, e5]
      refine ih (i + 1) o' fl' (by omega) (hb1.trans hb') hA' hR' (hAd.trans hAd' fun _ h2 p1 p2 c hc hcw => ?_) (by simp [t12']) (fun t ht => ?_) T1 T3 T4 T9 (by simp)
      · by_cases hci : c = i
        · subst hci
          exact fun d hd => p2 d hd hcw
        · rw [h2]; exact p1 c (by omega) hcw
      · have := hk' t (by rcases ht with rfl | rfl | rfl | rfl | rfl <;> simp)
        rcases ht with rfl | rfl | rfl | rfl | rfl <;> simp at this <;> simp [this, hk]
    all_goals simp [t1, t3, t9, t12, t13]
end
end Go.Ab.Grid
