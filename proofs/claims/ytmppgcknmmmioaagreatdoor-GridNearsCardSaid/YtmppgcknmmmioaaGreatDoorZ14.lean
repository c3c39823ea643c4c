/- A grid among a law's arguments. -/
import Derived.Test.YtmppgcknmmmioaaGreatDoorZ13
import Derived.Test.YtmppgcknmmmioaaGreatDoorZ12
import Derived.Test.YtmppgcknmmmioaaGreatDoorTie
import Derived.Lib.LaidU8
import Derived.Shelf.Vars
import Derived.Lay
import Derived.Handed
import Derived.MakeChecks
set_option linter.unusedSimpArgs false
set_option linter.unusedVariables false
set_option linter.unusedSectionVars false
set_option maxRecDepth 100000
namespace Go.Ab.Grid
open Go Go.Ab
def refNb (w h c : Int) : List Int :=
  (if c.tmod w + 1 < w then [c + 1] else []) ++ (if c.tdiv w + 1 < h then [c + w] else []) ++ (if 0 < c.tmod w then [c - 1] else []) ++ (if 0 < c.tdiv w then [c - w] else [])
theorem cell_xy {w h c : Int} (hw : 1 ≤ w) (hc : 0 ≤ c ∧ c < w * h) : 0 ≤ c.tmod w ∧ c.tmod w < w ∧ 0 ≤ c.tdiv w ∧ c.tdiv w < h ∧ c = c.tdiv w * w + c.tmod w := by
  have e : w * c.tdiv w + c.tmod w = c := Int.mul_tdiv_add_tmod c w
  have h1 : 0 ≤ c.tmod w := Int.tmod_nonneg _ hc.1
  have h2 : c.tmod w < w := Int.tmod_lt_of_pos _ (by omega)
  have h3 : 0 ≤ c.tdiv w := Int.tdiv_nonneg hc.1 (by omega)
  rw [Int.mul_comm] at e
  refine ⟨h1, h2, h3, ?_, e.symm⟩
  by_cases hh : c.tdiv w < h
  · exact hh
  · have := Int.mul_le_mul_of_nonneg_right (show h ≤ c.tdiv w by omega) (show 0 ≤ w by omega)
    rw [Int.mul_comm w h] at hc
    omega
theorem refNb_eq {w h c : Int} (hw : 1 ≤ w) (hc : 0 ≤ c ∧ c < w * h) : refNb w h c = nbrs w h c := by
  obtain ⟨p1, p2, p3, p4, p5⟩ := cell_xy hw hc
  unfold refNb nbrs nbD dirs
  simp only [List.flatMap_cons, List.flatMap_nil, List.append_nil, List.append_assoc]
  generalize c.tmod w = x at *
  generalize c.tdiv w = y at *
  have e1 : (y + 1) * w = y * w + w := by rw [Int.add_mul, Int.one_mul]
  have e2 : (y + -1) * w = y * w - w := by rw [Int.add_mul, Int.neg_mul, Int.one_mul]; omega
  have f1 : ((0 ≤ x + 1 ∧ x + 1 ≤ w - 1) ∧ 0 ≤ y + 0 ∧ y + 0 ≤ h - 1) ↔ x + 1 < w := by omega
  have f2 : ((0 ≤ x + 0 ∧ x + 0 ≤ w - 1) ∧ 0 ≤ y + 1 ∧ y + 1 ≤ h - 1) ↔ y + 1 < h := by omega
  have f3 : ((0 ≤ x + -1 ∧ x + -1 ≤ w - 1) ∧ 0 ≤ y + 0 ∧ y + 0 ≤ h - 1) ↔ 0 < x := by omega
  have f4 : ((0 ≤ x + 0 ∧ x + 0 ≤ w - 1) ∧ 0 ≤ y + -1 ∧ y + -1 ≤ h - 1) ↔ 0 < y := by omega
  simp only [f1, f2, f3, f4]
  rw [show (y + 0) * w + (x + 1) = c + 1 by rw [Int.add_zero]; omega, show (y + 1) * w + (x + 0) = c + w by omega, show (y + 0) * w + (x + -1) = c - 1 by rw [Int.add_zero]; omega, show (y + -1) * w + (x + 0) = c - w by omega]
def ptrV (x : Nat) : Value := .pointer (some ⟨x, 0, none⟩)
def p73a : ACode := (.seq
 (.ops [
oM 16 6,
oC 17 .add 16 1,
oF 18 2 0,
oL 19 18,
oB 20 .lss 17 19])
 (.cond (.t 20)
 (.ops [
oM 21 5,
oM 22 1,
oC 23 .add 22 1,
oP 24 (.slit 1 1 [.int .i64 0] [(0, .t 23)]),
oP 25 (.append (.t 21) (.t 24) 1 8),
oM 5 25])
 .skip))
def p73b : ACode := (.seq
 (.ops [
oM 26 7,
oC 27 .add 26 1,
oF 28 2 1,
oL 29 28,
oB 30 .lss 27 29])
 (.cond (.t 30)
 (.ops [
oM 31 5,
oM 32 1,
oF 33 2 0,
oL 34 33,
oB 35 .add 32 34,
oP 36 (.slit 1 1 [.int .i64 0] [(0, .t 35)]),
oP 37 (.append (.t 31) (.t 36) 1 8),
oM 5 37])
 .skip))
def p73c : ACode := (.seq
 (.ops [
oM 38 6,
oC 39 .gtr 38 0])
 (.cond (.t 39)
 (.ops [
oM 40 5,
oM 41 1,
oC 42 .sub 41 1,
oP 43 (.slit 1 1 [.int .i64 0] [(0, .t 42)]),
oP 44 (.append (.t 40) (.t 43) 1 8),
oM 5 44])
 .skip))
def p73d : ACode := (.seq
 (.ops [
oM 45 7,
oC 46 .gtr 45 0])
 (.cond (.t 46)
 (.ops [
oM 47 5,
oM 48 1,
oF 49 2 0,
oL 50 49,
oB 51 .sub 48 50,
oP 52 (.slit 1 1 [.int .i64 0] [(0, .t 51)]),
oP 53 (.append (.t 47) (.t 52) 1 8),
oM 5 53])
 .skip))
def h73 : ACode := .seq (.ops [
oP 2 (.box (.t 0)),
oP 4 (.move (.k (.slice none 0 0)))]) (.seq (.ops [
oP 5 (.move (.k (.slice none 0 0)))]) (.seq (.ops [
oM 8 1,
oF 9 2 0,
oL 10 9,
oB 11 .rem 8 10,
oM 12 1,
oF 13 2 0,
oL 14 13,
oB 15 .quo 12 14,
oM 6 11,
oM 7 15]) (.seq p73a (.seq p73b (.seq p73c (.seq p73d (.seq
 (.ops [
oM 54 5,
oM 4 54])
 .ret)))))))
theorem AP73 : AP 73 = some (.fn 55 [.tmp 4] h73) := rfl
section
variable {g : Nat} {A : Hp} {V : Value → Hp → Prop}
structure N73 (g : Nat) (A0 : Hp) (w h c : Int) (b : Nat) (N : Nat) (l : List Int) (T : List Value) (A : Hp) : Prop where
  acc : ∃ sv, tget T 5 = sv ∧ AccS N A 1 (ints l) sv
  old : ∀ x, x < N → A.get x = A0.get x
  n : N ≤ A.n
  t1 : tget T 1 = .int .i64 c
  t2 : tget T 2 = ptrV b
  t6 : tget T 6 = .int .i64 (c.tmod w)
  t7 : tget T 7 = .int .i64 (c.tdiv w)
  len : l.length < 10
theorem N73.add {A0 : Hp} {w h c : Int} {b N : Nat} {l : List Int} {T : List Value} (hN : N73 g A0 w h c b N l T A) (hg : g ≤ N) (z : Int) :
    ∃ sv sv' A', tget T 5 = sv ∧ appendA g (A.push (.cells [.int .i64 z] false)) 1 8 sv (.slice (some ⟨A.n, 0, some 1⟩) 1 1) = some (sv', A') ∧ AccS N A' 1 (ints (l ++ [z])) sv' ∧ (∀ x, x < N → A'.get x = A0.get x) ∧ N ≤ A'.n := by
  obtain ⟨sv, h5, hacc⟩ := hN.acc
  have hl := hN.len
  obtain ⟨sv', A', e, h1, h2, h3⟩ := hacc.add (g := g) (bytes := 8) (new := [.int .i64 z]) (ro := false) (n := l.length) hg hN.n rfl (by decide) rfl (by simp) (by unfold room; omega)
  refine ⟨sv, sv', A', h5, e, ?_, fun x hx => by rw [h2 x hx, hN.old x hx], by have := hN.n; omega⟩
  rw [ints_append]; exact h1
theorem r73a {A0 : Hp} {w h c s : Int} {sl : Value} {b N : Nat} {l : List Int} {T : List Value} {D : List Nat} {rd : Option Nat} (hN : N73 g A0 w h c b N l T A) (hb : b < N) (hgb : A0.get b = some (.cells [.int .i64 w, .int .i64 h, .int .i64 s, sl] false)) (hg : g ≤ N) (hw : 1 ≤ w ∧ w ≤ 24) (hh : 1 ≤ h ∧ h ≤ 24) (hc : 0 ≤ c ∧ c < 1000) (hll : l.length < 9) :
    W AP KL g rd p73a ⟨T, D, A⟩ (fun ex st => ex = .normal ∧ st.D = D ∧ N73 g A0 w h c b N (l ++ (if c.tmod w + 1 < w then [c + 1] else [])) st.T st.A) := by
  have gb := (hN.old b hb).trans hgb
  have hbn := Hp.lt_of_get gb
  have t1 := hN.t1
  have t2 := hN.t2
  have t6 := hN.t6
  have t7 := hN.t7
  have x0 : 0 ≤ c.tmod w ∧ c.tmod w < w := ⟨Int.tmod_nonneg _ hc.1, Int.tmod_lt_of_pos _ (by omega)⟩
  have y0 : 0 ≤ c.tdiv w ∧ c.tdiv w ≤ c := ⟨Int.tdiv_nonneg hc.1 (by omega), by rw [Int.tdiv_eq_ediv_of_nonneg hc.1]; exact Int.ediv_le_self _ hc.1⟩
  by_cases hq : c.tmod w + 1 < w
  · obtain ⟨sv, sv', A', h5, e, h1, h2, h3⟩ := hN.add hg (c + 1)
    have hn := hN.n
    simp (disch := as_aux_lemma => first | omega | simp only [hDs] <;> omega | simp [isCell]) [hRs, takeMarks, resA, resAll, resOne, Value.cells, p73a, t1, t2, t6, t7, ptrV, gb, wrId (n := c.tmod w + 1) (by omega) (by omega), wrId (n := c.tdiv w + 1) (by omega) (by omega), hq, h5, wrId (n := c + 1) (by omega) (by omega), slitA, fillA, setRange, e]
    refine ⟨⟨_, by simp, h1⟩, h2, h3, by simp [t1], by simp [t2, ptrV], by simp [t6], by simp [t7], by simp; omega⟩
  · simp (disch := as_aux_lemma => first | omega | simp only [hDs] <;> omega | simp [isCell]) [hRs, takeMarks, resA, resAll, resOne, Value.cells, p73a, t1, t2, t6, t7, ptrV, gb, wrId (n := c.tmod w + 1) (by omega) (by omega), wrId (n := c.tdiv w + 1) (by omega) (by omega), hq]
    obtain ⟨sv, h5, hacc⟩ := hN.acc
    refine ⟨⟨sv, by simp [h5], hacc⟩, hN.old, hN.n, by simp [t1], by simp [t2, ptrV], by simp [t6], by simp [t7], hN.len⟩
theorem r73b {A0 : Hp} {w h c s : Int} {sl : Value} {b N : Nat} {l : List Int} {T : List Value} {D : List Nat} {rd : Option Nat} (hN : N73 g A0 w h c b N l T A) (hb : b < N) (hgb : A0.get b = some (.cells [.int .i64 w, .int .i64 h, .int .i64 s, sl] false)) (hg : g ≤ N) (hw : 1 ≤ w ∧ w ≤ 24) (hh : 1 ≤ h ∧ h ≤ 24) (hc : 0 ≤ c ∧ c < 1000) (hll : l.length < 9) :
    W AP KL g rd p73b ⟨T, D, A⟩ (fun ex st => ex = .normal ∧ st.D = D ∧ N73 g A0 w h c b N (l ++ (if c.tdiv w + 1 < h then [c + w] else [])) st.T st.A) := by
  have gb := (hN.old b hb).trans hgb
  have hbn := Hp.lt_of_get gb
  have t1 := hN.t1
  have t2 := hN.t2
  have t6 := hN.t6
  have t7 := hN.t7
  have x0 : 0 ≤ c.tmod w ∧ c.tmod w < w := ⟨Int.tmod_nonneg _ hc.1, Int.tmod_lt_of_pos _ (by omega)⟩
  have y0 : 0 ≤ c.tdiv w ∧ c.tdiv w ≤ c := ⟨Int.tdiv_nonneg hc.1 (by omega), by rw [Int.tdiv_eq_ediv_of_nonneg hc.1]; exact Int.ediv_le_self _ hc.1⟩
  by_cases hq : c.tdiv w + 1 < h
  · obtain ⟨sv, sv', A', h5, e, h1, h2, h3⟩ := hN.add hg (c + w)
    have hn := hN.n
    simp (disch := as_aux_lemma => first | omega | simp only [hDs] <;> omega | simp [isCell]) [hRs, takeMarks, resA, resAll, resOne, Value.cells, p73b, t1, t2, t6, t7, ptrV, gb, wrId (n := c.tmod w + 1) (by omega) (by omega), wrId (n := c.tdiv w + 1) (by omega) (by omega), hq, h5, wrId (n := c + w) (by omega) (by omega), slitA, fillA, setRange, e]
    refine ⟨⟨_, by simp, h1⟩, h2, h3, by simp [t1], by simp [t2, ptrV], by simp [t6], by simp [t7], by simp; omega⟩
  · simp (disch := as_aux_lemma => first | omega | simp only [hDs] <;> omega | simp [isCell]) [hRs, takeMarks, resA, resAll, resOne, Value.cells, p73b, t1, t2, t6, t7, ptrV, gb, wrId (n := c.tmod w + 1) (by omega) (by omega), wrId (n := c.tdiv w + 1) (by omega) (by omega), hq]
    obtain ⟨sv, h5, hacc⟩ := hN.acc
    refine ⟨⟨sv, by simp [h5], hacc⟩, hN.old, hN.n, by simp [t1], by simp [t2, ptrV], by simp [t6], by simp [t7], hN.len⟩
theorem r73c {A0 : Hp} {w h c s : Int} {sl : Value} {b N : Nat} {l : List Int} {T : List Value} {D : List Nat} {rd : Option Nat} (hN : N73 g A0 w h c b N l T A) (hb : b < N) (hgb : A0.get b = some (.cells [.int .i64 w, .int .i64 h, .int .i64 s, sl] false)) (hg : g ≤ N) (hw : 1 ≤ w ∧ w ≤ 24) (hh : 1 ≤ h ∧ h ≤ 24) (hc : 0 ≤ c ∧ c < 1000) (hll : l.length < 9) :
    W AP KL g rd p73c ⟨T, D, A⟩ (fun ex st => ex = .normal ∧ st.D = D ∧ N73 g A0 w h c b N (l ++ (if 0 < c.tmod w then [c - 1] else [])) st.T st.A) := by
  have gb := (hN.old b hb).trans hgb
  have hbn := Hp.lt_of_get gb
  have t1 := hN.t1
  have t2 := hN.t2
  have t6 := hN.t6
  have t7 := hN.t7
  have x0 : 0 ≤ c.tmod w ∧ c.tmod w < w := ⟨Int.tmod_nonneg _ hc.1, Int.tmod_lt_of_pos _ (by omega)⟩
  have y0 : 0 ≤ c.tdiv w ∧ c.tdiv w ≤ c := ⟨Int.tdiv_nonneg hc.1 (by omega), by rw [Int.tdiv_eq_ediv_of_nonneg hc.1]; exact Int.ediv_le_self _ hc.1⟩
  by_cases hq : 0 < c.tmod w
  · obtain ⟨sv, sv', A', h5, e, h1, h2, h3⟩ := hN.add hg (c - 1)
    have hn := hN.n
    simp (disch := as_aux_lemma => first | omega | simp only [hDs] <;> omega | simp [isCell]) [hRs, takeMarks, resA, resAll, resOne, Value.cells, p73c, t1, t2, t6, t7, ptrV, gb, wrId (n := c.tmod w + 1) (by omega) (by omega), wrId (n := c.tdiv w + 1) (by omega) (by omega), hq, h5, wrId (n := c - 1) (by omega) (by omega), slitA, fillA, setRange, e]
    refine ⟨⟨_, by simp, h1⟩, h2, h3, by simp [t1], by simp [t2, ptrV], by simp [t6], by simp [t7], by simp; omega⟩
  · simp (disch := as_aux_lemma => first | omega | simp only [hDs] <;> omega | simp [isCell]) [hRs, takeMarks, resA, resAll, resOne, Value.cells, p73c, t1, t2, t6, t7, ptrV, gb, wrId (n := c.tmod w + 1) (by omega) (by omega), wrId (n := c.tdiv w + 1) (by omega) (by omega), hq]
    obtain ⟨sv, h5, hacc⟩ := hN.acc
    refine ⟨⟨sv, by simp [h5], hacc⟩, hN.old, hN.n, by simp [t1], by simp [t2, ptrV], by simp [t6], by simp [t7], hN.len⟩
theorem r73d {A0 : Hp} {w h c s : Int} {sl : Value} {b N : Nat} {l : List Int} {T : List Value} {D : List Nat} {rd : Option Nat} (hN : N73 g A0 w h c b N l T A) (hb : b < N) (hgb : A0.get b = some (.cells [.int .i64 w, .int .i64 h, .int .i64 s, sl] false)) (hg : g ≤ N) (hw : 1 ≤ w ∧ w ≤ 24) (hh : 1 ≤ h ∧ h ≤ 24) (hc : 0 ≤ c ∧ c < 1000) (hll : l.length < 9) :
    W AP KL g rd p73d ⟨T, D, A⟩ (fun ex st => ex = .normal ∧ st.D = D ∧ N73 g A0 w h c b N (l ++ (if 0 < c.tdiv w then [c - w] else [])) st.T st.A) := by
  have gb := (hN.old b hb).trans hgb
  have hbn := Hp.lt_of_get gb
  have t1 := hN.t1
  have t2 := hN.t2
  have t6 := hN.t6
  have t7 := hN.t7
  have x0 : 0 ≤ c.tmod w ∧ c.tmod w < w := ⟨Int.tmod_nonneg _ hc.1, Int.tmod_lt_of_pos _ (by omega)⟩
  have y0 : 0 ≤ c.tdiv w ∧ c.tdiv w ≤ c := ⟨Int.tdiv_nonneg hc.1 (by omega), by rw [Int.tdiv_eq_ediv_of_nonneg hc.1]; exact Int.ediv_le_self _ hc.1⟩
  by_cases hq : 0 < c.tdiv w
  · obtain ⟨sv, sv', A', h5, e, h1, h2, h3⟩ := hN.add hg (c - w)
    have hn := hN.n
    simp (disch := as_aux_lemma => first | omega | simp only [hDs] <;> omega | simp [isCell]) [hRs, takeMarks, resA, resAll, resOne, Value.cells, p73d, t1, t2, t6, t7, ptrV, gb, wrId (n := c.tmod w + 1) (by omega) (by omega), wrId (n := c.tdiv w + 1) (by omega) (by omega), hq, h5, wrId (n := c - w) (by omega) (by omega), slitA, fillA, setRange, e]
    refine ⟨⟨_, by simp, h1⟩, h2, h3, by simp [t1], by simp [t2, ptrV], by simp [t6], by simp [t7], by simp; omega⟩
  · simp (disch := as_aux_lemma => first | omega | simp only [hDs] <;> omega | simp [isCell]) [hRs, takeMarks, resA, resAll, resOne, Value.cells, p73d, t1, t2, t6, t7, ptrV, gb, wrId (n := c.tmod w + 1) (by omega) (by omega), wrId (n := c.tdiv w + 1) (by omega) (by omega), hq]
    obtain ⟨sv, h5, hacc⟩ := hN.acc
    refine ⟨⟨sv, by simp [h5], hacc⟩, hN.old, hN.n, by simp [t1], by simp [t2, ptrV], by simp [t6], by simp [t7], hN.len⟩
theorem w73 {w h s c : Int} {sl : Value} (hw : 1 ≤ w ∧ w ≤ 24) (hh : 1 ≤ h ∧ h ≤ 24) (hc : 0 ≤ c ∧ c < 1000) (hg : g ≤ A.n) (hQ : ∀ A' sv, Ext' A A' → AccS A.n A' 1 (ints (refNb w h c)) sv → V sv A') :
    WF AP KL g 73 [gridV w h s sl, .int .i64 c] A V := by
  have x0 : 0 ≤ c.tmod w ∧ c.tmod w < w := ⟨Int.tmod_nonneg _ hc.1, Int.tmod_lt_of_pos _ (by omega)⟩
  have y0 : 0 ≤ c.tdiv w ∧ c.tdiv w ≤ c := ⟨Int.tdiv_nonneg hc.1 (by omega), by rw [Int.tdiv_eq_ediv_of_nonneg hc.1]; exact Int.ediv_le_self _ hc.1⟩
  obtain ⟨B, hB⟩ : ∃ B, B = A.push (.cells [.int .i64 w, .int .i64 h, .int .i64 s, sl] false) := ⟨_, rfl⟩
  have kB : Ext' A B := by rw [hB]; exact Ext'.push _ _
  have gB : B.get A.n = some (.cells [.int .i64 w, .int .i64 h, .int .i64 s, sl] false) := by rw [hB]; exact get_push_new
  have nB : B.n = A.n + 1 := by rw [hB]; rfl
  rw [WF_body rfl AP73]
  simp (disch := as_aux_lemma => first | omega | simp only [hDs] <;> omega | simp [isCell]) [hRs, takeMarks, resA, resAll, resOne, Value.cells, h73, gridV, J, binA_rem (show w ≠ 0 by omega), binA_quo (show w ≠ 0 by omega), wrId (n := c.tdiv w) (by omega) (by omega)]
  rw [← hB]
  refine W_mono (r73a (A0 := B) (b := A.n) (N := A.n + 1) (l := []) ⟨⟨.slice none 0 0, by simp, AccS.nil⟩, fun _ _ => rfl, by omega, by simp, by simp [ptrV], by simp, by simp, by simp⟩ (by omega) gB (by omega) hw hh hc (by simp)) ?_
  rintro _ ⟨T1, D1, A1⟩ ⟨rfl, rfl, h1⟩
  simp (disch := as_aux_lemma => first | omega | simp only [hDs] <;> omega | simp [isCell]) [hRs, takeMarks, resA, resAll, resOne, Value.cells]
  refine W_mono (r73b h1 (by omega) gB (by omega) hw hh hc (by split <;> simp)) ?_
  rintro _ ⟨T2, D2, A2⟩ ⟨rfl, rfl, h2⟩
  simp (disch := as_aux_lemma => first | omega | simp only [hDs] <;> omega | simp [isCell]) [hRs, takeMarks, resA, resAll, resOne, Value.cells]
  refine W_mono (r73c h2 (by omega) gB (by omega) hw hh hc (by split <;> split <;> simp)) ?_
  rintro _ ⟨T3, D3, A3⟩ ⟨rfl, rfl, h3⟩
  simp (disch := as_aux_lemma => first | omega | simp only [hDs] <;> omega | simp [isCell]) [hRs, takeMarks, resA, resAll, resOne, Value.cells]
  refine W_mono (r73d h3 (by omega) gB (by omega) hw hh hc (by split <;> split <;> split <;> simp)) ?_
  rintro _ ⟨T4, D4, A4⟩ ⟨rfl, rfl, h4⟩
  obtain ⟨sv, h5, hacc⟩ := h4.acc
  simp (disch := as_aux_lemma => first | omega | simp only [hDs] <;> omega | simp [isCell]) [hRs, takeMarks, resA, resAll, resOne, Value.cells, h5]
  have hn4 : A.n + 1 ≤ A4.n := h4.n
  refine hQ A4 sv ⟨by omega, fun x hx => by rw [h4.old x (by omega), kB.2 x hx]⟩ ?_
  exact hacc.weaken (by omega)
end
end Go.Ab.Grid
set_option maxRecDepth 100000
namespace Go.Ab.Grid
open Go Go.Ab
def asg113 : ACode := (.ops [oM 5 7])
def body113 : ACode := (.block 1
 (.ops [
oL 8 2,
oM 9 5,
oP 10 (.slit 1 1 [.int .i64 0] [(0, .t 9)]),
oP 11 (.append (.t 8) (.t 10) 1 8),
oT 2 11 1]))
structure NbP (A0 : Hp) (T1 : List Value) (done : List Int) (A : Hp) : Prop where
  e : Ext' A0 A
  n : A0.n + 4 ≤ A.n
  m : A.get (A0.n + 1) = some .marks
  l : A.get (A0.n + 2) = some (recL T1 [7] asg113 body113)
  r : A.get (A0.n + 3) = some (.cells (ints dirI) false)
  s : ∃ sv, A.get A0.n = some (.cells [sv] false) ∧ AccS (A0.n + 4) A 1 (ints done) sv
theorem NbP.push {A0 A : Hp} {T1 : List Value} {done : List Int} (h : NbP A0 T1 done A) (b : ABlk) : NbP A0 T1 done (A.push b) := by
  obtain ⟨e, n, m, l, r, sv, s1, s2⟩ := h
  have k := Ext'.push A b
  exact ⟨e.trans k, by simp; omega, k.get m, k.get l, k.get r, sv, k.get s1, s2.mono k.2⟩
section
variable {g : Nat} {rd : Option Nat} {T : List Value} {D : List Nat} {A : Hp} {Q : Ex → St → Prop} {V : Value → Hp → Prop}
theorem y113 {A0 : Hp} {T1 : List Value} {done : List Int} {d : Int} (h : NbP A0 T1 done A) (hd : done.length ≤ 4) (hg : g ≤ A0.n) (t2 : tget T1 2 = .pointer (some ⟨A0.n, 0, none⟩)) (hV : ∀ A', NbP A0 T1 (done ++ [d]) A' → V (.bool true) A') :
    WV AP KL g (.func (.yield (A0.n + 2)) #[] #[]) [.int .i64 d] A V := by
  obtain ⟨e, n, m, l, r, sv, s1, s2⟩ := h
  refine WV_yield l (by omega) ?_
  obtain ⟨B, hB⟩ : ∃ B, B = A.set (A0.n + 2) (some (.loop { state := .busy, pending := none, tmps := T1, params := [7], assign := .ops [oM 5 7], body := body113 })) := ⟨_, rfl⟩
  rw [← hB]
  have nB : B.n = A.n := by rw [hB]; rfl
  have oB : ∀ z, z < A.n → z ≠ A0.n + 2 → B.get z = A.get z := fun z hz hne => by rw [hB, get_set_ne (by omega) hne]
  have lB : B.get (A0.n + 2) = some (.loop { state := .busy, pending := none, tmps := T1, params := [7], assign := .ops [oM 5 7], body := body113 }) := by rw [hB, get_set_same l]
  have s1B : B.get A0.n = some (.cells [sv] false) := by rw [oB _ (by omega) (by omega)]; exact s1
  have s2B : AccS (A0.n + 4) B 1 (ints done) sv := s2.keepB fun b hb => oB _ (s2.blk_ge hb).2 (by have := (s2.blk_ge hb).1; omega)
  have hdl : (ints done).length = done.length * 1 := by simp
  obtain ⟨sv', A1, a1, a2, a3, a4⟩ := append_acc (g := g) (bytes := 8) (y := B.n) (A := B.push (.cells [.int .i64 d] false)) (new := [.int .i64 d]) (ro := false) (s2B.mono (Ext'.push B _).2) (by omega) (by simp; omega) get_push_new rfl (by decide) rfl hdl (by unfold room; omega)
  obtain ⟨ad, nn, cc, rfl⟩ : ∃ ad nn cc, sv' = .slice ad nn cc := by rcases a2 with ⟨rfl, _⟩ | ⟨_, _, rfl, _⟩ <;> exact ⟨_, _, _, rfl⟩
  have c0 : A1.get A0.n = some (.cells [sv] false) := by rw [a3 _ (by omega), get_push_old (by omega)]; exact s1B
  have c2 : A1.get (A0.n + 2) = some (.loop { state := .busy, pending := none, tmps := T1, params := [7], assign := .ops [oM 5 7], body := body113 }) := by rw [a3 _ (by omega), get_push_old (by omega)]; exact lB
  have n1 : A1.n = A.n + 2 := by rw [a4]; simp [nB]
  simp (disch := as_aux_lemma => first | omega | simp only [hDs] <;> omega | simp [isCell]) [hRs, takeMarks, resA, resAll, resOne, Value.cells, body113, t2, s1B, slitA, fillA, setRange, zeros, a1, c0, storeB_cells, setRange_all, RoundQ, c2]
  have g2 : ∀ z, z ≠ A0.n → z < A1.n → (A1.set A0.n (some (.cells [.slice ad nn cc] false))).get z = A1.get z := fun z hz hzn => get_set_ne (by omega) hz
  refine ⟨by rw [g2 _ (by omega) (by omega)]; exact c2, hV _ ?_⟩
  have g3 : ∀ (k : ABlk) z, z ≠ A0.n + 2 → z < A1.n → ((A1.set A0.n (some (.cells [.slice ad nn cc] false))).set (A0.n + 2) (some k)).get z = (A1.set A0.n (some (.cells [.slice ad nn cc] false))).get z := fun k z hz hzn => get_set_ne (by simp; omega) hz
  have old : ∀ z, z < A0.n + 4 → A1.get z = B.get z := fun z hz => by rw [a3 _ hz, get_push_old (by omega)]
  refine ⟨⟨by simp; omega, fun z hz => by rw [g3 _ _ (by omega) (by omega), g2 _ (by omega) (by omega), old _ (by omega), oB _ (by omega) (by omega)]; exact e.2 z hz⟩, by simp; omega, ?_, ?_, ?_, .slice ad nn cc, ?_, ?_⟩
  · rw [g3 _ _ (by omega) (by omega), g2 _ (by omega) (by omega), old _ (by omega), oB _ (by omega) (by omega)]; exact m
  · exact get_set_same (b0 := _) (by rw [g2 _ (by omega) (by omega)]; exact c2)
  · rw [g3 _ _ (by omega) (by omega), g2 _ (by omega) (by omega), old _ (by omega), oB _ (by omega) (by omega)]; exact r
  · rw [g3 _ _ (by omega) (by omega)]; exact get_set_same c0
  · rw [ints_append]
    exact a2.keepB fun b hb => by have := a2.blk_ge hb; rw [g3 _ _ (by omega) (by omega), g2 _ (by omega) (by omega)]
theorem w113 {w h c s : Int} {sl : Value} {gb cb : Nat} (hw : 1 ≤ w ∧ w ≤ 24) (hh : 1 ≤ h ∧ h ≤ 24) (hc : 0 ≤ c ∧ c < w * h) (hg : g ≤ A.n)
    (hgb : A.get gb = some (.cells [.int .i64 w, .int .i64 h, .int .i64 s, sl] false)) (hcb : A.get cb = some (.cells [.int .i64 c] false))
    (hV : ∀ A' sv, Ext' A A' → AccS A.n A' 1 (ints (nbrs w h c)) sv → V sv A') :
    WF AP KL g 113 [.slice none 0 0, .func (.func 114) ⟨[]⟩ ⟨[.pointer (some ⟨cb, 0, none⟩), .pointer (some ⟨gb, 0, none⟩)]⟩] A V := by
  have gn := Hp.lt_of_get hgb
  have cn := Hp.lt_of_get hcb
  rw [WF_body (show KL 113 = none from rfl) (show AP 113 = some F113 from rfl)]
  simp (disch := as_aux_lemma => first | omega | simp only [hDs] <;> omega | simp [isCell]) [hRs, takeMarks, resA, resAll, resOne, Value.cells, F113]
  obtain ⟨B, hB⟩ : ∃ B, B = A.push (.cells [.slice none 0 0] false) := ⟨_, rfl⟩
  rw [← hB]
  obtain ⟨T1, hT1⟩ : ∃ T1, T1 = tset (tset (tset [.slice none 0 0, .func (.func 114) ⟨[]⟩ ⟨[.pointer (some ⟨cb, 0, none⟩), .pointer (some ⟨gb, 0, none⟩)]⟩] 2 (.pointer (some ⟨A.n, 0, none⟩))) 4 (.slice none 0 0)) 6 (.func (.func 114) ⟨[]⟩ ⟨[.pointer (some ⟨cb, 0, none⟩), .pointer (some ⟨gb, 0, none⟩)]⟩) := ⟨_, rfl⟩
  have t2 : tget T1 2 = .pointer (some ⟨A.n, 0, none⟩) := by rw [hT1]; simp
  have t6 : tget T1 6 = .func (.func 114) ⟨[]⟩ ⟨[.pointer (some ⟨cb, 0, none⟩), .pointer (some ⟨gb, 0, none⟩)]⟩ := by rw [hT1]; simp
  rw [← hT1]
  refine W_range (h := 114) (first := []) (captured := [.pointer (some ⟨cb, 0, none⟩), .pointer (some ⟨gb, 0, none⟩)]) t6 ?_
  rw [WF_body (show KL 114 = none from rfl) (show AP 114 = some F114 from rfl)]
  have nB : B.n = A.n + 1 := by rw [hB]; rfl
  have e0 : Ext' A B := by rw [hB]; exact Ext'.push _ _
  have s0 : B.get A.n = some (.cells [.slice none 0 0] false) := by rw [hB]; exact get_push_new
  obtain ⟨C, hC⟩ : ∃ C, C = (B.push .marks).push (recL T1 [7] asg113 body113) := ⟨_, rfl⟩
  have hC' := hC
  unfold asg113 body113 at hC'
  rw [← hC']
  have nC : C.n = A.n + 3 := by rw [hC]; simp [nB]
  have e1 : Ext' B C := by rw [hC]; exact (Ext'.push B _).trans (Ext'.push _ _)
  have mC : C.get (A.n + 1) = some .marks := by rw [hC, get_push_old (by simp; omega), get_push_eq (by omega)]
  have lC : C.get (A.n + 2) = some (recL T1 [7] asg113 body113) := by rw [hC, get_push_eq (by simp; omega)]
  obtain ⟨⟨p1, p2⟩, p3, p4⟩ := cell_parts hw.1 hc.1 hc.2
  have c24 : w * h ≤ 24 * 24 := Int.mul_le_mul hw.2 hh.2 (by omega) (by omega)
  have z4 : zeros 4 [Value.int .i64 0, .int .i64 0] = [.int .i64 0, .int .i64 0, .int .i64 0, .int .i64 0, .int .i64 0, .int .i64 0, .int .i64 0, .int .i64 0] := rfl
  have q1 : wr .i64 (c.tdiv w) = c.tdiv w := wrId (by omega) (by omega)
  have q2 : wr .i64 (c.tmod w) = c.tmod w := wrId (by omega) (by omega)
  have q1' : wr .i64 (c / w) = c / w := by rwa [Int.tdiv_eq_ediv_of_nonneg hc.1] at q1
  have hcb' := (e0.trans e1).get hcb
  have hgb' := (e0.trans e1).get hgb
  have hcbn := Hp.lt_of_get hcb'
  have hgbn := Hp.lt_of_get hgb'
  simp (disch := as_aux_lemma => first | omega | simp only [hDs] <;> omega | simp [isCell]) [hRs, takeMarks, resA, resAll, resOne, Value.cells, F114, hcb', hgb', binA_rem (show w ≠ 0 by omega), binA_quo (show w ≠ 0 by omega), q1, q2, slitA, fillA, setRange, z4]
  obtain ⟨E0, hE⟩ : ∃ E0, E0 = C.push (.cells (ints dirI) false) := ⟨_, rfl⟩
  have hE' := hE.symm
  simp only [dirI, ints, List.map_cons, List.map_nil] at hE'
  rw [hE']
  have e2 : Ext' C E0 := by rw [hE]; exact Ext'.push C _
  have h0 : NbP A T1 [] E0 := ⟨(e0.trans e1).trans e2, by rw [hE]; simp [nC], e2.get mC, e2.get lC, by rw [hE]; exact get_push_eq (by omega), _, e2.get (e1.get s0), AccS.nil⟩
  refine loop114 (P := NbP A T1) (L := A.n + 2) (G := gb) (R := A.n + 3) (w := w) (h := h) (c := c) (s := s) (sl := sl) hw hh ⟨p1, p2⟩ ⟨p3, p4⟩ (fun dn A' hP => ⟨hP.e.get hgb, hP.r, by have := hP.n; omega⟩) (fun dn A' b hP => hP.push b)
    (fun dn d A' V' hl hP _ hV' => y113 hP hl hg t2 hV') (fun T' A' hP => ?_) 4 0 (by omega) h0 ?_ ?_ ?_ ?_ ?_ ?_ ?_
  · obtain ⟨e, n, m, l, r, sv, s1, s2⟩ := hP
    simp (disch := as_aux_lemma => first | omega | simp only [hDs] <;> omega | simp [isCell]) [hRs, takeMarks, resA, resAll, resOne, Value.cells, EndQ, l, recL, nB]
    obtain ⟨A2, hA2⟩ : ∃ A2, A2 = A'.set (A.n + 2) (some (.loop { state := LoopState.exhausted, pending := none, tmps := T1, params := [7], assign := asg113, body := body113 })) := ⟨_, rfl⟩
    rw [show A.n + 1 + 1 = A.n + 2 from rfl, ← hA2]
    have n2 : A2.n = A'.n := by rw [hA2]; rfl
    have o2 : ∀ z, z < A'.n → z ≠ A.n + 2 → A2.get z = A'.get z := fun z hz hzn => by rw [hA2, get_set_ne (by omega) hzn]
    have c1 : A2.get A.n = some (.cells [sv] false) := by rw [o2 _ (by omega) (by omega)]; exact s1
    have c2 : A2.get (A.n + 1) = some .marks := by rw [o2 _ (by omega) (by omega)]; exact m
    simp (disch := as_aux_lemma => first | omega | simp only [hDs] <;> omega | simp [isCell]) [hRs, takeMarks, resA, resAll, resOne, Value.cells, t2, c1, c2]
    have o3 : ∀ z, z < A'.n → z ≠ A.n + 1 → z ≠ A.n + 2 → (A2.set (A.n + 1) none).get z = A'.get z := fun z hz h1 h2 => by rw [get_set_ne (by omega) h1, o2 z hz h2]
    refine hV _ _ ⟨by simp; omega, fun z hz => by rw [o3 z (by omega) (by omega) (by omega)]; exact e.2 z hz⟩ ?_
    exact (s2.keepB fun b hb => by have := s2.blk_ge hb; exact o3 b (by omega) (by omega) (by omega)).weaken (by omega)
  all_goals simp [nB, nC, q1']
def nearOk (w h s : Int) (m : Nat) (zs : List Int) (c : Int) : Bool := decide (gridE w h s m zs = 0) && (decide (0 ≤ c) && decide (c ≤ (m : Int) - 1))
def nearE (w h s : Int) (m : Nat) (zs : List Int) (c : Int) : Int := if gridE w h s m zs = 0 then (if nearOk w h s m zs c = true then 0 else 4) else gridE w h s m zs
def nearL (w h s : Int) (m : Nat) (zs : List Int) (c : Int) : List Int := if nearOk w h s m zs c = true then nbrs w h c else []
theorem w111 {f : Value} (hf : WF AP KL g 113 [.slice none 0 0, f] A V) : WF AP KL g 111 [f] A V := by
  rw [WF_body (show KL 111 = none from rfl) (show AP 111 = some F111 from rfl)]
  simp (disch := as_aux_lemma => first | omega | simp only [hDs] <;> omega | simp [isCell]) [hRs, takeMarks, resA, resAll, resOne, Value.cells, F111]
  refine WF_mono hf fun v A' h => ?_
  simp (disch := as_aux_lemma => first | omega | simp only [hDs] <;> omega | simp [isCell]) [hRs, takeMarks, resA, resAll, resOne, Value.cells]
  exact h
theorem w110 {w h s c : Int} {m : Nat} {zs : List Int} {sl : Value} (hsl : RdS A 2 m (ints zs) sl) (hm : m < 1000000) (hg : g ≤ A.n)
    (hV : ∀ A' sv, Ext' A A' → AccS A.n A' 1 (ints (nearL w h s m zs c)) sv → V (.tuple ⟨[sv, .int .i64 (nearE w h s m zs c)]⟩) A') : WF AP KL g 110 [gridV w h s sl, .int .i64 c] A V := by
  rw [WF_body (show KL 110 = none from rfl) (show AP 110 = some F110 from rfl)]
  have hX : (A.push (.cells [.int .i64 w, .int .i64 h, .int .i64 s, sl] false)).get A.n = some (.cells [.int .i64 w, .int .i64 h, .int .i64 s, sl] false) := get_push_new
  have eX := Ext'.push A (.cells [.int .i64 w, .int .i64 h, .int .i64 s, sl] false)
  obtain ⟨B, hB⟩ : ∃ B, B = A.push (.cells [.int .i64 w, .int .i64 h, .int .i64 s, sl] false) := ⟨_, rfl⟩
  rw [← hB] at hX eX
  simp (disch := as_aux_lemma => first | omega | simp only [hDs] <;> omega | simp [isCell]) [hRs, takeMarks, resA, resAll, resOne, Value.cells, F110, gridV, ← hB, hX]
  refine w37 (eX.rdS hsl) hm fun A1 e1 => ?_
  have hX1 := e1.get hX
  by_cases hE : gridE w h s m zs = 0
  · have hl := hsl.len
    have em : wr .i64 ((m : Int) - 1) = (m : Int) - 1 := wrId (by omega) (by omega)
    by_cases hc : (0 ≤ c ∧ c ≤ (m : Int) - 1)
    · have hb : nearOk w h s m zs c = true := by simp [nearOk, hE, hc]
      obtain ⟨gw, gh, gm, _⟩ := gridE_parts hE
      simp (disch := as_aux_lemma => first | omega | simp only [hDs] <;> omega | simp [isCell]) [hRs, takeMarks, resA, resAll, resOne, Value.cells, hE, hX1, hl, em, w55i, hc]
      rw [WF_body (show KL 112 = none from rfl) (show AP 112 = some F112 from rfl)]
      simp (disch := as_aux_lemma => first | omega | simp only [hDs] <;> omega | simp [isCell]) [hRs, takeMarks, resA, resAll, resOne, Value.cells, F112]
      refine w111 ?_
      obtain ⟨C, hC⟩ : ∃ C, C = (A1.push (.cells [.int .i64 w, .int .i64 h, .int .i64 s, sl] false)).push (.cells [.int .i64 c] false) := ⟨_, rfl⟩
      rw [← hC]
      have eC : Ext' A1 C := by rw [hC]; exact (Ext'.push _ _).trans (Ext'.push _ _)
      have e0 := (eX.trans e1).trans eC
      have h0 := e0.1
      refine w113 (w := w) (h := h) (c := c) (s := s) (sl := sl) gw gh ⟨hc.1, by omega⟩ (by omega) (by rw [hC, get_push_old (by simp), get_push_eq (by omega)]) (by rw [hC, get_push_eq (by simp)]) fun A' sv e' hacc => ?_
      simp (disch := as_aux_lemma => first | omega | simp only [hDs] <;> omega | simp [isCell]) [hRs, takeMarks, resA, resAll, resOne, Value.cells]
      have := hV A' sv (e0.trans e') (by rw [nearL, if_pos hb]; exact hacc.weaken h0)
      rw [nearE, if_pos hE, if_pos hb] at this
      exact this
    · have hb : nearOk w h s m zs c = false := by simp [nearOk, hE]; omega
      have hc' : (!decide (0 ≤ c) || !decide (c ≤ (m : Int) - 1)) = true := by simp; omega
      simp (disch := as_aux_lemma => first | omega | simp only [hDs] <;> omega | simp [isCell]) [hRs, takeMarks, resA, resAll, resOne, Value.cells, hE, hX1, hl, em, w55i, hc']
      have := hV A1 (.slice none 0 0) (eX.trans e1) (by rw [nearL, hb]; exact AccS.nil)
      rw [nearE, if_pos hE, hb] at this
      exact this
  · simp (disch := as_aux_lemma => first | omega | simp only [hDs] <;> omega | simp [isCell]) [hRs, takeMarks, resA, resAll, resOne, Value.cells, hE]
    have hb : nearOk w h s m zs c = false := by simp [nearOk, hE]
    have := hV A1 (.slice none 0 0) (eX.trans e1) (by rw [nearL, hb]; exact AccS.nil)
    rw [nearE, if_neg hE] at this
    exact this
theorem w290 {w h s c : Int} {m : Nat} {zs : List Int} {sl : Value} (hsl : RdS A 2 m (ints zs) sl) (hm : m < 1000000) (hg : g ≤ A.n)
    (hV : ∀ A' sv, Ext' A A' → AccS A.n A' 1 (ints (nearL w h s m zs c)) sv → V (.tuple ⟨[sv, .int .i64 (nearE w h s m zs c)]⟩) A') : WF AP KL g 290 [gridV w h s sl, .int .i64 c] A V := by
  rw [WF_body (show KL 290 = none from rfl) (show AP 290 = some F290 from rfl)]
  have hX : (A.push (.cells [.int .i64 w, .int .i64 h, .int .i64 s, sl] false)).get A.n = some (.cells [.int .i64 w, .int .i64 h, .int .i64 s, sl] false) := get_push_new
  have eX := Ext'.push A (.cells [.int .i64 w, .int .i64 h, .int .i64 s, sl] false)
  obtain ⟨B, hB⟩ : ∃ B, B = A.push (.cells [.int .i64 w, .int .i64 h, .int .i64 s, sl] false) := ⟨_, rfl⟩
  rw [← hB] at hX eX
  have hBn := eX.1
  simp (disch := as_aux_lemma => first | omega | simp only [hDs] <;> omega | simp [isCell]) [hRs, takeMarks, resA, resAll, resOne, Value.cells, F290, gridV, ← hB, hX]
  refine w40 (eX.rdS hsl) hm (by omega) fun A1 e1 => ?_
  have hX1 := e1.get hX
  have e0 := eX.trans e1
  have h0 := e0.1
  by_cases hE : gridE w h s m zs = 0
  · have hl := hsl.len
    have em : wr .i64 ((m : Int) - 1) = (m : Int) - 1 := wrId (by omega) (by omega)
    by_cases hc : (0 ≤ c ∧ c ≤ (m : Int) - 1)
    · have hb : nearOk w h s m zs c = true := by simp [nearOk, hE, hc]
      obtain ⟨gw, gh, gm, _⟩ := gridE_parts hE
      have c24 : w * h ≤ 24 * 24 := Int.mul_le_mul gw.2 gh.2 (by omega) (by omega)
      simp (disch := as_aux_lemma => first | omega | simp only [hDs] <;> omega | simp [isCell]) [hRs, takeMarks, resA, resAll, resOne, Value.cells, hE, hX1, hl, em]
      refine w59 ?_
      simp (disch := as_aux_lemma => first | omega | simp only [hDs] <;> omega | simp [isCell]) [hRs, takeMarks, resA, resAll, resOne, Value.cells, hc, hX1]
      refine w73 (w := w) (h := h) (c := c) (s := s) gw gh ⟨hc.1, by omega⟩ (by omega) fun A' sv e' hacc => ?_
      simp (disch := as_aux_lemma => first | omega | simp only [hDs] <;> omega | simp [isCell]) [hRs, takeMarks, resA, resAll, resOne, Value.cells]
      rw [refNb_eq gw.1 ⟨hc.1, by omega⟩] at hacc
      have := hV A' sv (e0.trans e') (by rw [nearL, if_pos hb]; exact hacc.weaken h0)
      rw [nearE, if_pos hE, if_pos hb] at this
      exact this
    · have hb : nearOk w h s m zs c = false := by simp [nearOk, hE]; omega
      have hc' : (!decide (0 ≤ c) || !decide (c ≤ (m : Int) - 1)) = true := by simp; omega
      simp (disch := as_aux_lemma => first | omega | simp only [hDs] <;> omega | simp [isCell]) [hRs, takeMarks, resA, resAll, resOne, Value.cells, hE, hX1, hl, em]
      refine w59 ?_
      simp (disch := as_aux_lemma => first | omega | simp only [hDs] <;> omega | simp [isCell]) [hRs, takeMarks, resA, resAll, resOne, Value.cells, hc']
      have := hV A1 (.slice none 0 0) e0 (by rw [nearL, hb]; exact AccS.nil)
      rw [nearE, if_pos hE, hb] at this
      exact this
  · simp (disch := as_aux_lemma => first | omega | simp only [hDs] <;> omega | simp [isCell]) [hRs, takeMarks, resA, resAll, resOne, Value.cells, hE]
    have hb : nearOk w h s m zs c = false := by simp [nearOk, hE]
    have := hV A1 (.slice none 0 0) e0 (by rw [nearL, hb]; exact AccS.nil)
    rw [nearE, if_neg hE] at this
    exact this
end
end Go.Ab.Grid
set_option maxRecDepth 100000
namespace Go.Ab.Grid
open Go Go.Ab
theorem _root_.Go.Ab.AccS.rdS {N : Nat} {A : Hp} {k : Nat} {cs : List Value} {sv : Value} (h : AccS N A k cs sv) : ∃ n, RdS A k n cs sv := by
  rcases h with ⟨rfl, rfl⟩ | ⟨b, n, rfl, h2, _, h4, _⟩
  · exact ⟨0, by simp, .inl ⟨rfl, rfl⟩⟩
  · exact ⟨n, h4, .inr ⟨b, n, false, rfl, h2⟩⟩
theorem list_gi {a b : List Int} (h : a.length = b.length) (hx : ∀ i, i < a.length → gi a i = gi b i) : a = b := by
  apply List.ext_getElem h
  intro i h1 h2
  have := hx i h1
  simpa [gi, List.getD, h1, h2] using this
section
variable {g : Nat} {rd : Option Nat} {T : List Value} {D : List Nat} {A : Hp} {Q : Ex → St → Prop} {V : Value → Hp → Prop}
theorem loop291 {n : Nat} {a b : List Int} {x y : Value} (ha : RdS A 1 n (ints a) x) (hb : RdS A 1 n (ints b) y) (hn : n < 1000000)
    (hQ : ∀ T', a = b → Q (.exit 0) ⟨T', D, A⟩) (hR : ∀ T', a ≠ b → tget T' 4 = .bool false → Q .ret ⟨T', D, A⟩) :
    ∀ (k i : Nat) {T : List Value}, i + k = n → (∀ j, j < i → gi a j = gi b j) → tget T 0 = x → tget T 1 = y → tget T 5 = .int .i64 i → W AP KL g rd (.loop body291) ⟨T, D, A⟩ Q := by
  intro k
  have la : a.length = n := by have := ha.1; simpa using this
  have lb : b.length = n := by have := hb.1; simpa using this
  have hl := ha.len
  induction k with
  | zero =>
    intro i T hi hp t0 t1 t5
    rw [W_loop]
    simp (disch := as_aux_lemma => first | omega | simp only [hDs] <;> omega | simp [isCell]) [hRs, takeMarks, resA, resAll, resOne, Value.cells, body291, t0, t1, t5, hl, show ¬ ((i : Int) < n) by omega]
    exact hQ _ (list_gi (by omega) fun j hj => hp j (by omega))
  | succ k ih =>
    intro i T hi hp t0 t1 t5
    have e5 : wr .i64 ((i : Int) + 1) = ((i + 1 : Nat) : Int) := by rw [wrId (by omega) (by omega)]; simp
    obtain ⟨xb, xc, xr, rfl, hxb⟩ := ha.at (show i < n by omega)
    obtain ⟨yb, yc, yr, rfl, hyb⟩ := hb.at (show i < n by omega)
    rw [W_loop]
    by_cases he : gi a i = gi b i
    · simp (disch := as_aux_lemma => first | omega | simp only [hDs] <;> omega | simp [isCell]) [hRs, takeMarks, resA, resAll, resOne, Value.cells, body291, t0, t1, t5, hl, show ((i : Int) < n) by omega, show i < n by omega, idxSA_ok, hxb, hyb, ints_get, la, lb, he, e5]
      refine ih (i + 1) (by omega) (fun j hj => ?_) ?_ ?_ ?_
      · by_cases h : j = i
        · rw [h]; exact he
        · exact hp j (by omega)
      all_goals simp [t0, t1]
    · simp (disch := as_aux_lemma => first | omega | simp only [hDs] <;> omega | simp [isCell]) [hRs, takeMarks, resA, resAll, resOne, Value.cells, body291, t0, t1, t5, hl, show ((i : Int) < n) by omega, show i < n by omega, idxSA_ok, hxb, hyb, ints_get, la, lb, he, e5]
      exact hR _ (fun h => he (by rw [h])) (by simp)
theorem w291 {na nb : Nat} {a b : List Int} {x y : Value} (ha : RdS A 1 na (ints a) x) (hb : RdS A 1 nb (ints b) y) (hn : na < 1000000) (hV : V (.bool (decide (a = b))) A) : WF AP KL g 291 [x, y] A V := by
  rw [WF_body (show KL 291 = none from rfl) (show AP 291 = some F291 from rfl)]
  have la : a.length = na := by have := ha.1; simpa using this
  have lb : b.length = nb := by have := hb.1; simpa using this
  have h1 := ha.len
  have h2 := hb.len
  by_cases he : na = nb
  · subst he
    simp (disch := as_aux_lemma => first | omega | simp only [hDs] <;> omega | simp [isCell]) [hRs, takeMarks, resA, resAll, resOne, Value.cells, F291, h1, h2]
    refine loop291 ha hb hn (fun T' he' => ?_) (fun T' he' t4 => ?_) na 0 (by omega) (fun j hj => by omega) ?_ ?_ ?_
    · simp (disch := as_aux_lemma => first | omega | simp only [hDs] <;> omega | simp [isCell]) [hRs, takeMarks, resA, resAll, resOne, Value.cells, he']
      simpa [he'] using hV
    · simp (disch := as_aux_lemma => first | omega | simp only [hDs] <;> omega | simp [isCell]) [hRs, takeMarks, resA, resAll, resOne, Value.cells, t4]
      simpa [he'] using hV
    all_goals simp
  · simp (disch := as_aux_lemma => first | omega | simp only [hDs] <;> omega | simp [isCell]) [hRs, takeMarks, resA, resAll, resOne, Value.cells, F291, h1, h2, show ¬ ((na : Int) = nb) by omega]
    have : a ≠ b := fun h => he (by rw [← la, ← lb, h])
    simpa [this] using hV
end
end Go.Ab.Grid
set_option maxRecDepth 100000
namespace Go.Ab.Grid
open Go Go.Ab
section
variable {g : Nat} {rd : Option Nat} {T : List Value} {D : List Nat} {A : Hp} {Q : Ex → St → Prop} {V : Value → Hp → Prop}
theorem law279 {w h s c : Int} {m : Nat} {zs : List Int} {sl : Value} (hsl : RdS A 2 m (ints zs) sl) (hg : g ≤ A.n) (hV : ∀ A', V (.bool true) A') : WF AP KL g 279 [gridV w h s sl, .int .i64 c] A V := by
  rw [WF_body (show KL 279 = none from rfl) (show AP 279 = some F279 from rfl)]
  have hX : (A.push (.cells [.int .i64 w, .int .i64 h, .int .i64 s, sl] false)).get A.n = some (.cells [.int .i64 w, .int .i64 h, .int .i64 s, sl] false) := get_push_new
  have eX := Ext'.push A (.cells [.int .i64 w, .int .i64 h, .int .i64 s, sl] false)
  obtain ⟨B, hB⟩ : ∃ B, B = A.push (.cells [.int .i64 w, .int .i64 h, .int .i64 s, sl] false) := ⟨_, rfl⟩
  rw [← hB] at hX eX
  have hBn := eX.1
  have hl := hsl.len
  by_cases hm : (600 : Int) < m
  · simp (disch := as_aux_lemma => first | omega | simp only [hDs] <;> omega | simp [isCell]) [hRs, takeMarks, resA, resAll, resOne, Value.cells, F279, gridV, ← hB, hX, hl, hm]
    exact hV _
  · have hsB := eX.rdS hsl
    simp (disch := as_aux_lemma => first | omega | simp only [hDs] <;> omega | simp [isCell]) [hRs, takeMarks, resA, resAll, resOne, Value.cells, F279, gridV, ← hB, hX, hl, hm]
    refine w110 hsB (by omega) (by omega) fun A1 x e1 hx => ?_
    have hX1 := e1.get hX
    simp (disch := as_aux_lemma => first | omega | simp only [hDs] <;> omega | simp [isCell]) [hRs, takeMarks, resA, resAll, resOne, Value.cells, hX1]
    have hBn1 := e1.1
    refine w290 (e1.rdS hsB) (by omega) (by omega) fun A2 y e2 hy => ?_
    have hX2 := e2.get hX1
    simp (disch := as_aux_lemma => first | omega | simp only [hDs] <;> omega | simp [isCell]) [hRs, takeMarks, resA, resAll, resOne, Value.cells, hX2]
    have hBn2 := e2.1
    refine w37 (e2.rdS (e1.rdS hsB)) (by omega) fun A3 e3 => ?_
    have hX3 := e3.get hX2
    have hBn3 := e3.1
    simp (disch := as_aux_lemma => first | omega | simp only [hDs] <;> omega | simp [isCell]) [hRs, takeMarks, resA, resAll, resOne, Value.cells, hX3]
    refine w40 (e3.rdS (e2.rdS (e1.rdS hsB))) (by omega) (by omega) fun A4 e4 => ?_
    obtain ⟨n1, r1⟩ := hx.rdS
    obtain ⟨n2, r2⟩ := hy.rdS
    have hln : (nearL w h s m zs c).length < 1000000 := by
      unfold nearL
      split
      · exact Nat.lt_of_le_of_lt (show (nbrs w h c).length ≤ 4 from nbI_len (Nat.le_refl 4)) (by decide)
      · decide
    have l1 : n1 < 1000000 := by have := r1.1; simp at this; omega
    simp (disch := as_aux_lemma => first | omega | simp only [hDs] <;> omega | simp [isCell]) [hRs, takeMarks, resA, resAll, resOne, Value.cells]
    refine w291 (((e2.trans e3).trans e4).rdS r1) ((e3.trans e4).rdS r2) l1 ?_
    simp (disch := as_aux_lemma => first | omega | simp only [hDs] <;> omega | simp [isCell]) [hRs, takeMarks, resA, resAll, resOne, Value.cells]
    exact hV _
end
end Go.Ab.Grid
set_option maxRecDepth 100000
namespace Go.Ab.Grid
open Go Go.Ab Go.Proofs Go.Shelf Go.ChangeShapes Go.WideShapes Go.ChangeAt Go.RowKit Go.Proofs.YtmppgcknmmmioaaGreatDoor
theorem isFn' (f nt : Nat) (rs : List ARes) (c : ACode) {W0 : Array Obj} (h : AP f = some (.fn nt rs c)) : ∃ nt rs body, (E W0).AP f = some (.fn nt rs body) := ⟨nt, rs, c, h⟩
theorem own : ownKnob Tryz.prog.godebug = none := by kernel_rfl
theorem laidOut : laidOutB Tryz.prog = true := by kernel_rfl
abbrev laidL : List (String × DataW Unit) := Rows.gridNearsRow.laid
theorem white {w : World} : Lib.VarReads Tryz.prog w "unicode.White_Space" Lib.whiteData → Lib.WhiteTab 1 w := fun h =>
  whiteTab_of_reads (ρ := Tryz.lays157_ren) { Tryz.lays157 with } { n6 := by kernel_rfl, y6 := by kernel_rfl, c3 := by kernel_rfl, c49 := by kernel_rfl, c193 := by kernel_rfl, c194 := by kernel_rfl, c196 := by kernel_rfl, c198 := by kernel_rfl } h
theorem var_heap {w : World} {n : String} {g : Nat} {cs : Array Value} (hg : Tryz.prog.globalNamed n = some g) (h : w.var? Tryz.prog n = some cs) : ∃ t fr, w.heap[g]? = some (.cells cs t fr) := by
  unfold World.var? at h
  rw [hg] at h
  simp only [Option.bind_some] at h
  split at h
  · rename_i cs' t fr he; cases h; exact ⟨t, fr, he⟩
  · cases h
theorem laidW_of {w : World} (hm : laidMet Tryz.prog laidL w) (hs : w.ShapedOpen Tryz.prog) : LaidW w := by
  have hp := Lib.laidMet.reads hm (d := Rows.laid_internal_strconv_uint64pow10) (List.mem_cons_of_mem _ (List.mem_cons_of_mem _ List.mem_cons_self))
  have hr := Lib.laidMet.reads hm (d := Rows.laid_strconv_ErrRange) (List.mem_cons_of_mem _ (List.mem_cons_of_mem _ (List.mem_cons_of_mem _ List.mem_cons_self)))
  have hy := Lib.laidMet.reads hm (d := Rows.laid_strconv_ErrSyntax) (List.mem_cons_of_mem _ (List.mem_cons_of_mem _ (List.mem_cons_of_mem _ (List.mem_cons_of_mem _ List.mem_cons_self))))
  have hw := Lib.laidMet.reads hm (d := Rows.laid_unicode_White_Space) (List.mem_cons_of_mem _ (List.mem_cons_of_mem _ (List.mem_cons_of_mem _ (List.mem_cons_of_mem _ (List.mem_cons_of_mem _ List.mem_cons_self)))))
  have ha := Lib.laidMet.reads hm (d := Rows.laid_strings_asciiSpace) (List.mem_cons_of_mem _ (List.mem_cons_of_mem _ (List.mem_cons_of_mem _ (List.mem_cons_of_mem _ (List.mem_cons_of_mem _ (List.mem_cons_of_mem _ List.mem_cons_self))))))
  have iface : ∀ {n : String} {nm : String} {d : DataW Unit} {g : Nat} {t : TypeId} {ms : Array (String × TypeId)}, Tryz.prog.globalNamed n = some g → (Tryz.prog.globals[g]?).map (·.type) = some t → Tryz.prog.underlying t = some (.interface ms) →
      Lib.VarReads Tryz.prog w n (.iface nm d) → ∃ ev, w.cell? ⟨g, 0, none⟩ = some ev ∧ (ev = .nilIface ∨ ∃ te pe, ev = .iface te pe) := by
    intro n nm d g t ms hg ht hu h
    obtain ⟨g', t', cs, fuel, p, hg', ht', hv, hd⟩ := h
    obtain rfl := Option.some.inj (hg.symm.trans hg')
    obtain rfl := Option.some.inj (ht.symm.trans ht')
    obtain ⟨_, u, v, hcs, _, _⟩ := iface_of_trod hu hd
    have := World.var?_cell hg hv 0
    rw [← Array.getElem?_toList, hcs] at this
    exact ⟨_, this, .inr ⟨u, v, rfl⟩⟩
  have tab : ∀ {n : String} {k : IntKind} {zs : List Int} {g : Nat} {t e : TypeId} {N : Nat}, Tryz.prog.globalNamed n = some g → (Tryz.prog.globals[g]?).map (·.type) = some t → Tryz.prog.underlying t = some (.array N e) →
      Tryz.prog.underlying e = some (.int k) → Tryz.prog.cellsOf e = 1 → Tryz.prog.cellsOf t = N → Lib.VarReads Tryz.prog w n (Lib.tabData k zs) → ∃ t fr, w.heap[g]? = some (.cells (zs.map fun z => Value.int k z).toArray t fr) := by
    intro n k zs g t e N hg ht hu he hce hct h
    obtain ⟨g', t', cs, fuel, p, hg', ht', hv, hd⟩ := h
    obtain rfl := Option.some.inj (hg.symm.trans hg')
    obtain rfl := Option.some.inj (ht.symm.trans ht')
    have hcs := Lib.cells_of_tab hu he hce hct hd
    obtain ⟨t, fr, h⟩ := var_heap hg hv
    exact ⟨t, fr, by rw [h, ← hcs]⟩
  refine ⟨?_, ?_, ?_, ?_, ?_, white hw⟩
  · exact cell_of_shapedOpen_int (zero := #[.int .i64 0]) (t := 3) hs (of_decide_eq_true (by kernel_rfl)) (by kernel_rfl) rfl (by kernel_rfl) (by kernel_rfl) Tryz.underlying3
  · exact iface (by kernel_rfl) (by kernel_rfl) Tryz.underlying122 hy
  · exact iface (by kernel_rfl) (by kernel_rfl) Tryz.underlying122 hr
  · exact tab (by kernel_rfl) (by kernel_rfl) Tryz.underlying207 (by kernel_rfl) (by kernel_rfl) (by kernel_rfl) ((show Rows.laid_internal_strconv_uint64pow10 = Lib.tabData .u64 Lib.pow10Tab by kernel_rfl) ▸ hp)
  · exact tab (by kernel_rfl) (by kernel_rfl) Tryz.underlying153 (by kernel_rfl) (by kernel_rfl) (by kernel_rfl) ((show Rows.laid_strings_asciiSpace = Lib.tabData .u8 Lib.asciiSpaceTab by kernel_rfl) ▸ ha)
section
variable {H : Type} {enc : TypeId × Value → H} {os : Os}
theorem laid_all (args : Array Value) : laidMetH Tryz.prog laidL ((World.laidAll Tryz.prog os laidL).forCall (fun _ _ => 0) ⟨#[], args, []⟩).memory := by
  rw [MakeChecks.laidMetH_plain _ _ _ (by kernel_rfl)]
  exact laidMet_laidAll _ (by kernel_rfl) (by kernel_rfl)
theorem laid_shaped (args : Array Value) : ((World.laidAll Tryz.prog os laidL).forCall (fun _ _ => 0) ⟨#[], args, []⟩).Shaped Tryz.prog := World.shaped_of_ZipB (by kernel_rfl) (by kernel_rfl)
theorem returns_laid {f : FuncId} {fn : Func} {s : ChangeSpec} (started : os.Started) (noInit : Tryz.checked.prog.inits.idxOf? f = none) (hfn : Tryz.checked.prog.funcs[f]? = some fn) (args0 : Array Value)
    (hok : Input.okWideB Tryz.checked.prog ((World.laidAll Tryz.prog os laidL).forCall (fun _ _ => 0) ⟨#[], args0, []⟩) f ⟨#[], args0, []⟩ = true)
    (hpre : s.preB enc Tryz.checked.prog fn [] false ((World.laidAll Tryz.prog os laidL).forCall (fun _ _ => 0) ⟨#[], args0, []⟩).memory args0 8 = true)
    (hsz : s.sizedB enc Tryz.checked.prog fn false ((World.laidAll Tryz.prog os laidL).forCall (fun _ _ => 0) ⟨#[], args0, []⟩).memory args0 8 = true)
    (contract : ∀ (W : World) (base : Nat) (args : Array Value) (ds gs : List (DataW H)) (before : List MemPlace),
      (∀ (j : Nat) t v, fn.params[j]? = some t → args[j]? = some v → Value.okWide Tryz.prog W .any base t v) →
      DataW.Whole enc Tryz.prog fn.params.toList s.vars false W args.toList ds gs before → LaidW W →
      Calls Tryz.prog f args W fun e W' => ∃ v, e = .returned v ∧ s.post enc Tryz.prog fn false true false false W args v W') :
    ReturnsInHanded {} Tryz.checked os f .any (fun w args => (s.pre enc Tryz.checked.prog fn [] false w args ∧ laidMetH Tryz.checked.prog laidL w) ∧ sizedMet enc Tryz.checked.prog fn (OpenSpec.ofChange s) false w args)
      (s.post enc Tryz.checked.prog fn false true false false) := by
  refine returnsInHanded_of_calls (C := Tryz.checked) own started noInit
    (ChangeSpec.witness_shaped (enc := enc) (C := Tryz.checked) (os := os) (s := s) (X := fun w _ => laidMetH Tryz.prog laidL w) false (World.laidAll Tryz.prog os laidL) args0 8 (World.laidAll_os _ _ _) (laid_shaped args0) hok hpre hsz (laid_all args0)) ?_
  intro w tape i _ hsh _ hok hpre _
  obtain ⟨_, _, _, fn', hfn', _, _, _, _, hval⟩ := hok
  have e : fn' = fn := Option.some.inj (hfn'.symm.trans hfn)
  subst e
  obtain ⟨⟨⟨ds, gs, before, hw, _⟩, hx⟩, _⟩ := hpre
  have hw' := DataW.Whole.of_heap (w' := w.forCall tape i) (by rfl) hw
  have hx' : laidMet Tryz.prog laidL (w.forCall tape i) := by
    have hx1 : laidMetH Tryz.prog laidL (w.forCall tape i).memory := hx
    rw [MakeChecks.laidMetH_plain _ _ _ (by kernel_rfl)] at hx1
    exact hx1.of_heap (by rfl)
  refine (contract (w.forCall tape i) w.heap.size i.args ds gs before hval hw' (laidW_of hx' hsh)).mono fun e W' ⟨v, he, hp⟩ => ?_
  subst he
  exact ChangeSpec.post_blind hp
end
end Go.Ab.Grid
set_option maxRecDepth 100000
namespace Go.Ab.Grid
open Go Go.Ab
def tGrid : Ty := .pair (.int .i64) (.pair (.int .i64) (.pair (.int .i64) (.pair (.slice (.rep 2 (.int .i64))) .unit)))
theorem sh_grid {rows : List (List Value)} {cs : List Value} (h : Sh rows tGrid cs) :
    ∃ (w h s : Int) (m : Nat) (zs : List Int) (sl : Value), mkV tGrid cs = gridV w h s sl ∧ RdS (roHp rows) 2 m (ints zs) sl ∧ m ≤ maxLen ∧ (∀ z ∈ zs, -9223372036854775808 ≤ z ∧ z ≤ 9223372036854775807) := by
  obtain ⟨_, _, rfl, h1, ⟨_, _, rfl, h2, ⟨_, _, rfl, h3, ⟨_, _, rfl, h4, rfl⟩⟩⟩⟩ := h
  obtain ⟨a1, rfl, b1⟩ := sh_int h1
  obtain ⟨a2, rfl, b2⟩ := sh_int h2
  obtain ⟨a3, rfl, b3⟩ := sh_int h3
  obtain ⟨n, zs, sl, rfl, r, m, b⟩ := sh_slice_k (k := .i64) rfl h4
  exact ⟨a1, a2, a3, n, zs, sl, rfl, r, m, b⟩
end Go.Ab.Grid
