/- the reference: rounds until nothing changes, the whole loop; what sail keeps. -/
import Derived.Test.YtmmpjfknmdlpoaaZ17
set_option linter.unusedSimpArgs false
set_option linter.unusedVariables false
set_option linter.unusedSectionVars false
namespace Go.Ab.Wave
open Go Go.Ab
def refNb (w h c : Int) : List Int :=
  (if c.tmod w + 1 < w then [c + 1] else []) ++ (if c.tdiv w + 1 < h then [c + w] else []) ++ (if 0 < c.tmod w then [c - 1] else []) ++ (if 0 < c.tdiv w then [c - w] else [])
theorem cell_xy {w h c : Int} (hw : 1 ≤ w) (hc : 0 ≤ c ∧ c < w * h) : 0 ≤ c.tmod w ∧ c.tmod w < w ∧ 0 ≤ c.tdiv w ∧ c.tdiv w < h ∧ c = c.tdiv w * w + c.tmod w := by
  have e : w * c.tdiv w + c.tmod w = c := Int.mul_tdiv_add_tmod c w
  have h1 : 0 ≤ c.tmod w := Int.tmod_nonneg _ hc.1
  have h2 : c.tmod w < w := Int.tmod_lt_of_pos _ (by omega)
  have h3 : 0 ≤ c.tdiv w := Int.tdiv_nonneg hc.1 (by omega)
  rw [Int.mul_comm] at e
  refine ⟨h1, h2, h3, ?_, e.symm⟩
  by_cases hh : c.tdiv w < h
  · exact hh
  · have := Int.mul_le_mul_of_nonneg_right (show h ≤ c.tdiv w by omega) (show 0 ≤ w by omega)
    rw [Int.mul_comm w h] at hc
    omega
theorem cell_uniq {w x y x' y' : Int} (hx : 0 ≤ x ∧ x < w) (hx' : 0 ≤ x' ∧ x' < w) (h : y * w + x = y' * w + x') : x = x' ∧ y = y' := by
  by_cases h1 : y < y'
  · have := Int.mul_le_mul_of_nonneg_right (show y + 1 ≤ y' by omega) (show 0 ≤ w by omega)
    rw [Int.add_mul] at this
    omega
  · by_cases h2 : y' < y
    · have := Int.mul_le_mul_of_nonneg_right (show y' + 1 ≤ y by omega) (show 0 ≤ w by omega)
      rw [Int.add_mul] at this
      omega
    · have : y = y' := by omega
      subst this
      omega
theorem refNb_mem {w h c d : Int} (hw : 1 ≤ w) (hc : 0 ≤ c ∧ c < w * h) : d ∈ refNb w h c ↔ d ∈ nbrs w h c := by
  obtain ⟨p1, p2, p3, p4, p5⟩ := cell_xy hw hc
  unfold refNb nbrs nbD dirs
  simp only [List.flatMap_cons, List.flatMap_nil, List.append_nil, List.mem_append, List.append_assoc]
  generalize c.tmod w = x at *
  generalize c.tdiv w = y at *
  have e1 : (y + 1) * w = y * w + w := by rw [Int.add_mul, Int.one_mul]
  have e2 : (y + -1) * w = y * w - w := by rw [Int.add_mul, Int.neg_mul, Int.one_mul]; omega
  have f1 : ((0 ≤ x + 1 ∧ x + 1 ≤ w - 1) ∧ 0 ≤ y + 0 ∧ y + 0 ≤ h - 1) ↔ x + 1 < w := by omega
  have f2 : ((0 ≤ x + 0 ∧ x + 0 ≤ w - 1) ∧ 0 ≤ y + 1 ∧ y + 1 ≤ h - 1) ↔ y + 1 < h := by omega
  have f3 : ((0 ≤ x + -1 ∧ x + -1 ≤ w - 1) ∧ 0 ≤ y + 0 ∧ y + 0 ≤ h - 1) ↔ 0 < x := by omega
  have f4 : ((0 ≤ x + 0 ∧ x + 0 ≤ w - 1) ∧ 0 ≤ y + -1 ∧ y + -1 ≤ h - 1) ↔ 0 < y := by omega
  simp only [f1, f2, f3, f4]
  rw [show (y + 0) * w + (x + 1) = c + 1 by rw [Int.add_zero]; omega, show (y + 1) * w + (x + 0) = c + w by omega, show (y + 0) * w + (x + -1) = c - 1 by rw [Int.add_zero]; omega, show (y + -1) * w + (x + 0) = c - w by omega]
theorem nbrs_symm {w h c d : Int} (hw : 1 ≤ w) (hc : 0 ≤ c ∧ c < w * h) (hd : d ∈ nbrs w h c) : (0 ≤ d ∧ d < w * h) ∧ c ∈ nbrs w h d := by
  obtain ⟨p1, p2, p3, p4, p5⟩ := cell_xy hw hc
  rw [← refNb_mem hw hc] at hd
  unfold refNb at hd
  generalize c.tmod w = x at *
  generalize c.tdiv w = y at *
  have e1 : (y + 1) * w = y * w + w := by rw [Int.add_mul, Int.one_mul]
  have e2 : (y - 1) * w = y * w - w := by rw [Int.sub_mul, Int.one_mul]
  have key : ∀ x' y' : Int, 0 ≤ x' → x' < w → 0 ≤ y' → y' < h → d = y' * w + x' → (0 ≤ d ∧ d < w * h) ∧ d.tmod w = x' ∧ d.tdiv w = y' := by
    intro x' y' h1 h2 h3 h4 e
    have m1 := Int.mul_nonneg h3 (show 0 ≤ w by omega)
    have m2 := Int.mul_le_mul_of_nonneg_right (show y' ≤ h - 1 by omega) (show 0 ≤ w by omega)
    rw [Int.sub_mul, Int.one_mul] at m2
    have hb : 0 ≤ d ∧ d < w * h := by rw [Int.mul_comm w h]; omega
    obtain ⟨q1, q2, q3, q4, q5⟩ := cell_xy hw hb
    have := cell_uniq (x := d.tmod w) (y := d.tdiv w) (x' := x') (y' := y') ⟨q1, q2⟩ ⟨h1, h2⟩ (by rw [← q5]; exact e)
    exact ⟨hb, this.1, this.2⟩
  simp only [List.mem_append] at hd
  have fin : ∀ x' y' : Int, 0 ≤ x' → x' < w → 0 ≤ y' → y' < h → d = y' * w + x' → (x' + 1 < w ∧ c = d + 1 ∨ y' + 1 < h ∧ c = d + w ∨ 0 < x' ∧ c = d - 1 ∨ 0 < y' ∧ c = d - w) → (0 ≤ d ∧ d < w * h) ∧ c ∈ nbrs w h d := by
    intro x' y' h1 h2 h3 h4 e hh
    obtain ⟨k1, k2, k3⟩ := key x' y' h1 h2 h3 h4 e
    refine ⟨k1, (refNb_mem hw k1).1 ?_⟩
    unfold refNb
    rw [k2, k3]
    simp only [List.mem_append]
    rcases hh with ⟨a, b⟩ | ⟨a, b⟩ | ⟨a, b⟩ | ⟨a, b⟩
    · rw [if_pos a]; exact .inl (.inl (.inl (by simp [b])))
    · rw [if_pos a]; exact .inl (.inl (.inr (by simp [b])))
    · rw [if_pos a]; exact .inl (.inr (by simp [b]))
    · rw [if_pos a]; exact .inr (by simp [b])
  rcases hd with ((hd | hd) | hd) | hd
  · split at hd
    · rw [List.mem_singleton] at hd
      exact fin (x + 1) y (by omega) (by omega) p3 p4 (by omega) (.inr (.inr (.inl ⟨by omega, by omega⟩)))
    · cases hd
  · split at hd
    · rw [List.mem_singleton] at hd
      exact fin x (y + 1) p1 p2 (by omega) (by omega) (by omega) (.inr (.inr (.inr ⟨by omega, by omega⟩)))
    · cases hd
  · split at hd
    · rw [List.mem_singleton] at hd
      exact fin (x - 1) y (by omega) (by omega) p3 p4 (by omega) (.inl ⟨by omega, by omega⟩)
    · cases hd
  · split at hd
    · rw [List.mem_singleton] at hd
      exact fin x (y - 1) p1 p2 (by omega) (by omega) (by omega) (.inr (.inl ⟨by omega, by omega⟩))
    · cases hd
def refN (P : Par) (c : Nat) : List Nat := (refNb P.w P.h c).map Int.toNat
theorem refN_mem {P : Par} (h : POk P) {a b : Nat} (hb : b < P.l.length) : a ∈ refN P b ↔ (a < P.l.length ∧ b ∈ nbP P a) := by
  obtain ⟨hw, hh, _, hl⟩ := check_parts h.chk
  have hcb : 0 ≤ (b : Int) ∧ (b : Int) < P.w * P.h := ⟨by omega, by rw [← hl]; omega⟩
  constructor
  · intro ha
    obtain ⟨z, hz, hza⟩ := List.mem_map.1 ha
    rw [refNb_mem hw.1 hcb] at hz
    obtain ⟨k1, k2⟩ := nbrs_symm hw.1 hcb hz
    have e : z = (a : Int) := by omega
    rw [e] at k1 k2
    exact ⟨by rw [← hl] at k1; omega, List.mem_map.2 ⟨_, k2, by simp⟩⟩
  · rintro ⟨ha, hb'⟩
    have hca : 0 ≤ (a : Int) ∧ (a : Int) < P.w * P.h := ⟨by omega, by rw [← hl]; omega⟩
    obtain ⟨z, hz, hzb⟩ := List.mem_map.1 hb'
    obtain ⟨k1, k2⟩ := nbrs_symm hw.1 hca hz
    have e : z = (b : Int) := by omega
    rw [e] at k2
    exact List.mem_map.2 ⟨_, (refNb_mem hw.1 hcb).2 k2, by simp⟩
theorem refN_len {P : Par} {c : Nat} : (refN P c).length ≤ 4 := by
  unfold refN refNb
  simp only [List.length_map, List.length_append]
  split <;> split <;> split <;> split <;> simp
end Go.Ab.Wave
namespace Go.Ab.Wave
open Go Go.Ab
def rowS2 (r n : Nat) : Value := .slice (some ⟨r, 0, some 2⟩) n n
def wkCells (P : Par) (rd : Nat) (r : Nat → Nat) : List Value :=
  [.int .i64 P.w, .int .i64 P.h, .int .i64 P.s, P.sl, .int .i64 P.slo, .int .i64 P.shi, .int .i64 P.k0, .int .i64 P.k1, .int .i64 P.l0, .int .i64 P.l1, .int .i64 P.o0, .int .i64 P.o1,
   rowS2 rd P.l.length, rowS1 (r 0) P.l.length, rowS1 (r 1) P.l.length, rowS1 (r 2) P.l.length, rowS1 (r 3) P.l.length, rowS1 (r 4) P.l.length, rowS1 (r 5) P.l.length, rowS1 (r 6) P.l.length, rowS1 (r 7) P.l.length, rowS1 (r 8) P.l.length]
def depI (P : Par) (i : Nat) : List Int := (List.range i).flatMap fun c => [(P.at false).dep c, (P.at true).dep c]
def depL (P : Par) : List Int := depI P P.l.length
theorem depI_succ {P : Par} {i : Nat} : depI P (i + 1) = depI P i ++ [(P.at false).dep i, (P.at true).dep i] := by
  unfold depI
  rw [List.range_succ, List.flatMap_append, List.flatMap_singleton]
theorem depI_len {P : Par} : ∀ {i : Nat}, (depI P i).length = i * 2
  | 0 => rfl
  | i + 1 => by rw [depI_succ, List.length_append, depI_len]; simp; omega
theorem depI_get {P : Par} : ∀ {i c : Nat}, c < i → gi (depI P i) (c * 2) = (P.at false).dep c ∧ gi (depI P i) (c * 2 + 1) = (P.at true).dep c
  | i + 1, c, h => by
    have hl : (depI P i).length = i * 2 := depI_len
    rw [depI_succ]
    by_cases e : c = i
    · subst e
      have e0 : gi (depI P c ++ [(P.at false).dep c, (P.at true).dep c]) (c * 2) = gi [(P.at false).dep c, (P.at true).dep c] 0 := by
        have := gi_pre (pre := depI P c) (j := 0) (l := [(P.at false).dep c, (P.at true).dep c])
        rw [hl] at this
        exact this
      have e1 : gi (depI P c ++ [(P.at false).dep c, (P.at true).dep c]) (c * 2 + 1) = gi [(P.at false).dep c, (P.at true).dep c] 1 := by
        have := gi_pre (pre := depI P c) (j := 1) (l := [(P.at false).dep c, (P.at true).dep c])
        rw [hl] at this
        exact this
      rw [e0, e1]
      exact ⟨rfl, rfl⟩
    · have ih := depI_get (P := P) (i := i) (c := c) (by omega)
      have q : ∀ o, o < i * 2 → gi (depI P i ++ [(P.at false).dep i, (P.at true).dep i]) o = gi (depI P i) o := by
        intro o ho
        unfold gi
        rw [List.getD_eq_getElem?_getD, List.getD_eq_getElem?_getD, List.getElem?_append_left (by omega)]
      rw [q _ (by omega), q _ (by omega)]
      exact ih
structure Work (A : Hp) (P : Par) (X rd : Nat) (r : Nat → Nat) (v : Nat → List Int) : Prop where
  hx : A.get X = some (.cells (wkCells P rd r) false)
  hd : A.get rd = some (.cells (ints (depL P)) false)
  hv : ∀ i, i < 9 → A.get (r i) = some (.cells (ints (v i)) false)
  nv : ∀ i, i < 9 → (v i).length = P.l.length
  hg : groundOf A P.sl = some P.l
  ne : ∀ i j, i < 9 → j < 9 → i ≠ j → r i ≠ r j
  nd : ∀ i, i < 9 → r i ≠ rd ∧ r i ≠ X
  sep : ∀ i x o k n c, i < 9 → P.sl = .slice (some ⟨x, o, k⟩) n c → x ≠ r i
def upd (v : Nat → List Int) (i : Nat) (l : List Int) : Nat → List Int := fun j => if j = i then l else v j
theorem Work.ext {A A' : Hp} {P : Par} {X rd : Nat} {r : Nat → Nat} {v : Nat → List Int} (h : Work A P X rd r v) (e : Ext' A A') : Work A' P X rd r v :=
  ⟨e.get h.hx, e.get h.hd, fun i hi => e.get (h.hv i hi), h.nv, groundOf_mono h.hg e.2, h.ne, h.nd, h.sep⟩
theorem Work.put {A : Hp} {P : Par} {X rd : Nat} {r : Nat → Nat} {v : Nat → List Int} (h : Work A P X rd r v) {i : Nat} (hi : i < 9) {l : List Int} (hl : l.length = P.l.length) : Work (A.set (r i) (some (.cells (ints l) false))) P X rd r (upd v i l) := by
  have hr := Hp.lt_of_get (h.hv i hi)
  have hn := h.nd i hi
  refine ⟨?_, ?_, fun j hj => ?_, fun j hj => ?_, ground_set hr (fun x _ _ _ _ e => h.sep i x _ _ _ _ hi e) h.hg, h.ne, h.nd, h.sep⟩
  · rw [get_set_ne hr (fun e => hn.2 e.symm)]; exact h.hx
  · rw [get_set_ne hr (fun e => hn.1 e.symm)]; exact h.hd
  · unfold upd
    by_cases e : j = i
    · subst e; rw [if_pos rfl]; exact get_set_same (h.hv j hj)
    · rw [if_neg e, get_set_ne hr (h.ne j i hj hi e)]; exact h.hv j hj
  · unfold upd
    by_cases e : j = i
    · rw [if_pos e]; exact hl
    · rw [if_neg e]; exact h.nv j hj
section
variable {g : Nat} {A : Hp} {V : Value → Hp → Prop} {P : Par} {X rd : Nat} {r : Nat → Nat} {v : Nat → List Int} {c : Nat}
theorem Work.dep {P : Par} (hc : c < P.l.length) : ∃ _ : (depL P).length = P.l.length * 2, gi (depL P) (c * 2) = (P.at false).dep c ∧ gi (depL P) (c * 2 + 1) = (P.at true).dep c := ⟨depI_len, depI_get hc⟩
theorem w69 (hW : Work A P X rd r v) (hc : c < P.l.length) (hQ : V (.bool (decide (1 ≤ (P.at true).dep c))) A) : WF AP KL g 69 [ptrV X, .int .i64 c] A V := by
  obtain ⟨hl, e0, e1⟩ := Work.dep hc
  rw [WF_body rfl (show AP 69 = some F69 from rfl)]
  simp (disch := as_aux_lemma => first | omega | simp only [hDs] <;> omega | simp [isCell]) [hRs, takeMarks, resA, resAll, resOne, Value.cells, ptrV, hW.hx, wkCells, rowS2, idxSA_ok, show (c : Int) < P.l.length by omega, hW.hd, ints_get, e1]
  exact hQ
theorem w71 (hW : Work A P X rd r v) (hc : c < P.l.length) (hQ : V (.bool (decide (1 ≤ (P.at false).dep c))) A) : WF AP KL g 71 [ptrV X, .int .i64 c] A V := by
  obtain ⟨hl, e0, e1⟩ := Work.dep hc
  rw [WF_body rfl (show AP 71 = some F71 from rfl)]
  simp (disch := as_aux_lemma => first | omega | simp only [hDs] <;> omega | simp [isCell]) [hRs, takeMarks, resA, resAll, resOne, Value.cells, ptrV, hW.hx, wkCells, rowS2, idxSA_ok, show (c : Int) < P.l.length by omega, hW.hd, ints_get, e0]
  exact hQ
theorem w79 (hW : Work A P X rd r v) (hc : c < P.l.length) (hQ : V (.bool (decide ((P.at true).dep c ≤ 0))) A) : WF AP KL g 79 [ptrV X, .int .i64 c] A V := by
  obtain ⟨hl, e0, e1⟩ := Work.dep hc
  rw [WF_body rfl (show AP 79 = some F79 from rfl)]
  simp (disch := as_aux_lemma => first | omega | simp only [hDs] <;> omega | simp [isCell]) [hRs, takeMarks, resA, resAll, resOne, Value.cells, ptrV, hW.hx, wkCells, rowS2, idxSA_ok, show (c : Int) < P.l.length by omega, hW.hd, ints_get, e1]
  exact hQ
theorem w75 (hW : Work A P X rd r v) (hP : POk (P.at true)) (hc : c < P.l.length) (hst : 0 ≤ gi (v 3) c ∧ gi (v 3) c ≤ 200000000) (hQ : V (.int .i64 ((P.at true).rise (v 3) c)) A) : WF AP KL g 75 [ptrV X, .int .i64 c] A V := by
  obtain ⟨hl, e0, e1⟩ := Work.dep hc
  have h3 := hW.hv 3 (by omega)
  have n3 : c < (v 3).length := by rw [hW.nv 3 (by omega)]; exact hc
  have hlst := hP.lst (c := c) hc
  have el : (P.at false).dep c = (P.at true).lst c := rfl
  obtain ⟨_, f1, f2⟩ := fourth_bounds (b := false) (d := max 1 ((P.at true).lst c)) (by omega) (by omega)
  rw [WF_body rfl (show AP 75 = some F75 from rfl)]
  simp (disch := as_aux_lemma => first | omega | simp only [hDs] <;> omega | simp [isCell]) [hRs, takeMarks, resA, resAll, resOne, Value.cells, ptrV, hW.hx, wkCells, rowS2, rowS1, idxSA_ok, show (c : Int) < P.l.length by omega, hW.hd, h3, ints_get, e0]
  rw [el]
  refine wRt (b := false) (by omega) (by omega) ?_
  simp (disch := as_aux_lemma => first | omega | simp only [hDs] <;> omega | simp [isCell]) [hRs, takeMarks, resA, resAll, resOne, Value.cells]
  refine w81 hst.1 (by omega) (by omega) (by omega) ?_
  simp (disch := as_aux_lemma => first | omega | simp only [hDs] <;> omega | simp [isCell]) [hRs, takeMarks, resA, resAll, resOne, Value.cells]
  exact hQ
theorem w76 (hW : Work A P X rd r v) (hP : POk (P.at false)) (hc : c < P.l.length) (hd : 1 ≤ (P.at false).lst c) (hst : 0 ≤ gi (v 2) c ∧ gi (v 2) c ≤ 200000000) (hQ : V (.int .i64 ((P.at false).rise (v 2) c)) A) : WF AP KL g 76 [ptrV X, .int .i64 c] A V := by
  obtain ⟨hl, e0, e1⟩ := Work.dep hc
  have h3 := hW.hv 2 (by omega)
  have n3 : c < (v 2).length := by rw [hW.nv 2 (by omega)]; exact hc
  have hlst := hP.lst (c := c) hc
  have el : (P.at true).dep c = (P.at false).lst c := rfl
  obtain ⟨_, f1, f2⟩ := fourth_bounds (b := true) (d := (P.at false).lst c) hd (by omega)
  have hq : 0 ≤ (gi (v 2) c).tdiv (fourthE true ((P.at false).lst c)) ∧ (gi (v 2) c).tdiv (fourthE true ((P.at false).lst c)) ≤ gi (v 2) c := by
    rw [Int.tdiv_eq_ediv_of_nonneg hst.1]
    exact ⟨Int.ediv_nonneg hst.1 (by omega), Int.ediv_le_self _ hst.1⟩
  rw [WF_body rfl (show AP 76 = some F76 from rfl)]
  simp (disch := as_aux_lemma => first | omega | simp only [hDs] <;> omega | simp [isCell]) [hRs, takeMarks, resA, resAll, resOne, Value.cells, ptrV, hW.hx, wkCells, rowS2, rowS1, idxSA_ok, show (c : Int) < P.l.length by omega, hW.hd, h3, ints_get, e1]
  rw [el]
  refine wRt (b := true) hd (by omega) ?_
  simp (disch := as_aux_lemma => first | omega | simp only [hDs] <;> omega | simp [isCell]) [hRs, takeMarks, resA, resAll, resOne, Value.cells, binA_quo (show fourthE true ((P.at false).lst c) ≠ 0 by omega), wrId (n := (gi (v 2) c).tdiv (fourthE true ((P.at false).lst c))) (by omega) (by omega)]
  exact hQ
end
end Go.Ab.Wave
namespace Go.Ab.Wave
open Go Go.Ab
def p73a : ACode := (.seq
 (.ops [
oM 16 6,
oC 17 .add 16 1,
oF 18 2 0,
oL 19 18,
oB 20 .lss 17 19])
 (.cond (.t 20)
 (.ops [
oM 21 5,
oM 22 1,
oC 23 .add 22 1,
oP 24 (.slit 1 1 [.int .i64 0] [(0, .t 23)]),
oP 25 (.append (.t 21) (.t 24) 1 8),
oM 5 25])
 .skip))
def p73b : ACode := (.seq
 (.ops [
oM 26 7,
oC 27 .add 26 1,
oF 28 2 1,
oL 29 28,
oB 30 .lss 27 29])
 (.cond (.t 30)
 (.ops [
oM 31 5,
oM 32 1,
oF 33 2 0,
oL 34 33,
oB 35 .add 32 34,
oP 36 (.slit 1 1 [.int .i64 0] [(0, .t 35)]),
oP 37 (.append (.t 31) (.t 36) 1 8),
oM 5 37])
 .skip))
def p73c : ACode := (.seq
 (.ops [
oM 38 6,
oC 39 .gtr 38 0])
 (.cond (.t 39)
 (.ops [
oM 40 5,
oM 41 1,
oC 42 .sub 41 1,
oP 43 (.slit 1 1 [.int .i64 0] [(0, .t 42)]),
oP 44 (.append (.t 40) (.t 43) 1 8),
oM 5 44])
 .skip))
def p73d : ACode := (.seq
 (.ops [
oM 45 7,
oC 46 .gtr 45 0])
 (.cond (.t 46)
 (.ops [
oM 47 5,
oM 48 1,
oF 49 2 0,
oL 50 49,
oB 51 .sub 48 50,
oP 52 (.slit 1 1 [.int .i64 0] [(0, .t 51)]),
oP 53 (.append (.t 47) (.t 52) 1 8),
oM 5 53])
 .skip))
def h73 : ACode := .seq (.ops [
oP 2 (.box (.t 0)),
oP 4 (.move (.k (.slice none 0 0)))]) (.seq (.ops [
oP 5 (.move (.k (.slice none 0 0)))]) (.seq (.ops [
oM 8 1,
oF 9 2 0,
oL 10 9,
oB 11 .rem 8 10,
oM 12 1,
oF 13 2 0,
oL 14 13,
oB 15 .quo 12 14,
oM 6 11,
oM 7 15]) (.seq p73a (.seq p73b (.seq p73c (.seq p73d (.seq
 (.ops [
oM 54 5,
oM 4 54])
 .ret)))))))
theorem AP73 : AP 73 = some (.fn 55 [.tmp 4] h73) := rfl
section
variable {g : Nat} {A : Hp} {V : Value → Hp → Prop}
structure N73 (g : Nat) (A0 : Hp) (w h c : Int) (b : Nat) (N : Nat) (l : List Int) (T : List Value) (A : Hp) : Prop where
  acc : ∃ sv, tget T 5 = sv ∧ AccS N A 1 (ints l) sv
  old : ∀ x, x < N → A.get x = A0.get x
  n : N ≤ A.n
  t1 : tget T 1 = .int .i64 c
  t2 : tget T 2 = ptrV b
  t6 : tget T 6 = .int .i64 (c.tmod w)
  t7 : tget T 7 = .int .i64 (c.tdiv w)
  len : l.length < 10
theorem N73.add {A0 : Hp} {w h c : Int} {b N : Nat} {l : List Int} {T : List Value} (hN : N73 g A0 w h c b N l T A) (hg : g ≤ N) (z : Int) :
    ∃ sv sv' A', tget T 5 = sv ∧ appendA g (A.push (.cells [.int .i64 z] false)) 1 8 sv (.slice (some ⟨A.n, 0, some 1⟩) 1 1) = some (sv', A') ∧ AccS N A' 1 (ints (l ++ [z])) sv' ∧ (∀ x, x < N → A'.get x = A0.get x) ∧ N ≤ A'.n := by
  obtain ⟨sv, h5, hacc⟩ := hN.acc
  have hl := hN.len
  obtain ⟨sv', A', e, h1, h2, h3⟩ := hacc.add (g := g) (bytes := 8) (new := [.int .i64 z]) (ro := false) (n := l.length) hg hN.n rfl (by decide) rfl (by simp) (by unfold room; omega)
  refine ⟨sv, sv', A', h5, e, ?_, fun x hx => by rw [h2 x hx, hN.old x hx], by have := hN.n; omega⟩
  rw [ints_append]; exact h1
theorem r73a {A0 : Hp} {w h c s : Int} {sl : Value} {b N : Nat} {l : List Int} {T : List Value} {D : List Nat} {rd : Option Nat} (hN : N73 g A0 w h c b N l T A) (hb : b < N) (hgb : A0.get b = some (.cells [.int .i64 w, .int .i64 h, .int .i64 s, sl] false)) (hg : g ≤ N) (hw : 1 ≤ w ∧ w ≤ 24) (hh : 1 ≤ h ∧ h ≤ 24) (hc : 0 ≤ c ∧ c < 1000) (hll : l.length < 9) :
    W AP KL g rd p73a ⟨T, D, A⟩ (fun ex st => ex = .normal ∧ st.D = D ∧ N73 g A0 w h c b N (l ++ (if c.tmod w + 1 < w then [c + 1] else [])) st.T st.A) := by
  have gb := (hN.old b hb).trans hgb
  have hbn := Hp.lt_of_get gb
  have t1 := hN.t1
  have t2 := hN.t2
  have t6 := hN.t6
  have t7 := hN.t7
  have x0 : 0 ≤ c.tmod w ∧ c.tmod w < w := ⟨Int.tmod_nonneg _ hc.1, Int.tmod_lt_of_pos _ (by omega)⟩
  have y0 : 0 ≤ c.tdiv w ∧ c.tdiv w ≤ c := ⟨Int.tdiv_nonneg hc.1 (by omega), by rw [Int.tdiv_eq_ediv_of_nonneg hc.1]; exact Int.ediv_le_self _ hc.1⟩
  by_cases hq : c.tmod w + 1 < w
  · obtain ⟨sv, sv', A', h5, e, h1, h2, h3⟩ := hN.add hg (c + 1)
    have hn := hN.n
    simp (disch := as_aux_lemma => first | omega | simp only [hDs] <;> omega | simp [isCell]) [hRs, takeMarks, resA, resAll, resOne, Value.cells, p73a, t1, t2, t6, t7, ptrV, gb, wrId (n := c.tmod w + 1) (by omega) (by omega), wrId (n := c.tdiv w + 1) (by omega) (by omega), hq, h5, wrId (n := c + 1) (by omega) (by omega), slitA, fillA, setRange, e]
    refine ⟨⟨_, by simp, h1⟩, h2, h3, by simp [t1], by simp [t2, ptrV], by simp [t6], by simp [t7], by simp; omega⟩
  · simp (disch := as_aux_lemma => first | omega | simp only [hDs] <;> omega | simp [isCell]) [hRs, takeMarks, resA, resAll, resOne, Value.cells, p73a, t1, t2, t6, t7, ptrV, gb, wrId (n := c.tmod w + 1) (by omega) (by omega), wrId (n := c.tdiv w + 1) (by omega) (by omega), hq]
    obtain ⟨sv, h5, hacc⟩ := hN.acc
    refine ⟨⟨sv, by simp [h5], hacc⟩, hN.old, hN.n, by simp [t1], by simp [t2, ptrV], by simp [t6], by simp [t7], hN.len⟩
theorem r73b {A0 : Hp} {w h c s : Int} {sl : Value} {b N : Nat} {l : List Int} {T : List Value} {D : List Nat} {rd : Option Nat} (hN : N73 g A0 w h c b N l T A) (hb : b < N) (hgb : A0.get b = some (.cells [.int .i64 w, .int .i64 h, .int .i64 s, sl] false)) (hg : g ≤ N) (hw : 1 ≤ w ∧ w ≤ 24) (hh : 1 ≤ h ∧ h ≤ 24) (hc : 0 ≤ c ∧ c < 1000) (hll : l.length < 9) :
    W AP KL g rd p73b ⟨T, D, A⟩ (fun ex st => ex = .normal ∧ st.D = D ∧ N73 g A0 w h c b N (l ++ (if c.tdiv w + 1 < h then [c + w] else [])) st.T st.A) := by
  have gb := (hN.old b hb).trans hgb
  have hbn := Hp.lt_of_get gb
  have t1 := hN.t1
  have t2 := hN.t2
  have t6 := hN.t6
  have t7 := hN.t7
  have x0 : 0 ≤ c.tmod w ∧ c.tmod w < w := ⟨Int.tmod_nonneg _ hc.1, Int.tmod_lt_of_pos _ (by omega)⟩
  have y0 : 0 ≤ c.tdiv w ∧ c.tdiv w ≤ c := ⟨Int.tdiv_nonneg hc.1 (by omega), by rw [Int.tdiv_eq_ediv_of_nonneg hc.1]; exact Int.ediv_le_self _ hc.1⟩
  by_cases hq : c.tdiv w + 1 < h
  · obtain ⟨sv, sv', A', h5, e, h1, h2, h3⟩ := hN.add hg (c + w)
    have hn := hN.n
    simp (disch := as_aux_lemma => first | omega | simp only [hDs] <;> omega | simp [isCell]) [hRs, takeMarks, resA, resAll, resOne, Value.cells, p73b, t1, t2, t6, t7, ptrV, gb, wrId (n := c.tmod w + 1) (by omega) (by omega), wrId (n := c.tdiv w + 1) (by omega) (by omega), hq, h5, wrId (n := c + w) (by omega) (by omega), slitA, fillA, setRange, e]
    refine ⟨⟨_, by simp, h1⟩, h2, h3, by simp [t1], by simp [t2, ptrV], by simp [t6], by simp [t7], by simp; omega⟩
  · simp (disch := as_aux_lemma => first | omega | simp only [hDs] <;> omega | simp [isCell]) [hRs, takeMarks, resA, resAll, resOne, Value.cells, p73b, t1, t2, t6, t7, ptrV, gb, wrId (n := c.tmod w + 1) (by omega) (by omega), wrId (n := c.tdiv w + 1) (by omega) (by omega), hq]
    obtain ⟨sv, h5, hacc⟩ := hN.acc
    refine ⟨⟨sv, by simp [h5], hacc⟩, hN.old, hN.n, by simp [t1], by simp [t2, ptrV], by simp [t6], by simp [t7], hN.len⟩
theorem r73c {A0 : Hp} {w h c s : Int} {sl : Value} {b N : Nat} {l : List Int} {T : List Value} {D : List Nat} {rd : Option Nat} (hN : N73 g A0 w h c b N l T A) (hb : b < N) (hgb : A0.get b = some (.cells [.int .i64 w, .int .i64 h, .int .i64 s, sl] false)) (hg : g ≤ N) (hw : 1 ≤ w ∧ w ≤ 24) (hh : 1 ≤ h ∧ h ≤ 24) (hc : 0 ≤ c ∧ c < 1000) (hll : l.length < 9) :
    W AP KL g rd p73c ⟨T, D, A⟩ (fun ex st => ex = .normal ∧ st.D = D ∧ N73 g A0 w h c b N (l ++ (if 0 < c.tmod w then [c - 1] else [])) st.T st.A) := by
  have gb := (hN.old b hb).trans hgb
  have hbn := Hp.lt_of_get gb
  have t1 := hN.t1
  have t2 := hN.t2
  have t6 := hN.t6
  have t7 := hN.t7
  have x0 : 0 ≤ c.tmod w ∧ c.tmod w < w := ⟨Int.tmod_nonneg _ hc.1, Int.tmod_lt_of_pos _ (by omega)⟩
  have y0 : 0 ≤ c.tdiv w ∧ c.tdiv w ≤ c := ⟨Int.tdiv_nonneg hc.1 (by omega), by rw [Int.tdiv_eq_ediv_of_nonneg hc.1]; exact Int.ediv_le_self _ hc.1⟩
  by_cases hq : 0 < c.tmod w
  · obtain ⟨sv, sv', A', h5, e, h1, h2, h3⟩ := hN.add hg (c - 1)
    have hn := hN.n
    simp (disch := as_aux_lemma => first | omega | simp only [hDs] <;> omega | simp [isCell]) [hRs, takeMarks, resA, resAll, resOne, Value.cells, p73c, t1, t2, t6, t7, ptrV, gb, wrId (n := c.tmod w + 1) (by omega) (by omega), wrId (n := c.tdiv w + 1) (by omega) (by omega), hq, h5, wrId (n := c - 1) (by omega) (by omega), slitA, fillA, setRange, e]
    refine ⟨⟨_, by simp, h1⟩, h2, h3, by simp [t1], by simp [t2, ptrV], by simp [t6], by simp [t7], by simp; omega⟩
  · simp (disch := as_aux_lemma => first | omega | simp only [hDs] <;> omega | simp [isCell]) [hRs, takeMarks, resA, resAll, resOne, Value.cells, p73c, t1, t2, t6, t7, ptrV, gb, wrId (n := c.tmod w + 1) (by omega) (by omega), wrId (n := c.tdiv w + 1) (by omega) (by omega), hq]
    obtain ⟨sv, h5, hacc⟩ := hN.acc
    refine ⟨⟨sv, by simp [h5], hacc⟩, hN.old, hN.n, by simp [t1], by simp [t2, ptrV], by simp [t6], by simp [t7], hN.len⟩
theorem r73d {A0 : Hp} {w h c s : Int} {sl : Value} {b N : Nat} {l : List Int} {T : List Value} {D : List Nat} {rd : Option Nat} (hN : N73 g A0 w h c b N l T A) (hb : b < N) (hgb : A0.get b = some (.cells [.int .i64 w, .int .i64 h, .int .i64 s, sl] false)) (hg : g ≤ N) (hw : 1 ≤ w ∧ w ≤ 24) (hh : 1 ≤ h ∧ h ≤ 24) (hc : 0 ≤ c ∧ c < 1000) (hll : l.length < 9) :
    W AP KL g rd p73d ⟨T, D, A⟩ (fun ex st => ex = .normal ∧ st.D = D ∧ N73 g A0 w h c b N (l ++ (if 0 < c.tdiv w then [c - w] else [])) st.T st.A) := by
  have gb := (hN.old b hb).trans hgb
  have hbn := Hp.lt_of_get gb
  have t1 := hN.t1
  have t2 := hN.t2
  have t6 := hN.t6
  have t7 := hN.t7
  have x0 : 0 ≤ c.tmod w ∧ c.tmod w < w := ⟨Int.tmod_nonneg _ hc.1, Int.tmod_lt_of_pos _ (by omega)⟩
  have y0 : 0 ≤ c.tdiv w ∧ c.tdiv w ≤ c := ⟨Int.tdiv_nonneg hc.1 (by omega), by rw [Int.tdiv_eq_ediv_of_nonneg hc.1]; exact Int.ediv_le_self _ hc.1⟩
  by_cases hq : 0 < c.tdiv w
  · obtain ⟨sv, sv', A', h5, e, h1, h2, h3⟩ := hN.add hg (c - w)
    have hn := hN.n
    simp (disch := as_aux_lemma => first | omega | simp only [hDs] <;> omega | simp [isCell]) [hRs, takeMarks, resA, resAll, resOne, Value.cells, p73d, t1, t2, t6, t7, ptrV, gb, wrId (n := c.tmod w + 1) (by omega) (by omega), wrId (n := c.tdiv w + 1) (by omega) (by omega), hq, h5, wrId (n := c - w) (by omega) (by omega), slitA, fillA, setRange, e]
    refine ⟨⟨_, by simp, h1⟩, h2, h3, by simp [t1], by simp [t2, ptrV], by simp [t6], by simp [t7], by simp; omega⟩
  · simp (disch := as_aux_lemma => first | omega | simp only [hDs] <;> omega | simp [isCell]) [hRs, takeMarks, resA, resAll, resOne, Value.cells, p73d, t1, t2, t6, t7, ptrV, gb, wrId (n := c.tmod w + 1) (by omega) (by omega), wrId (n := c.tdiv w + 1) (by omega) (by omega), hq]
    obtain ⟨sv, h5, hacc⟩ := hN.acc
    refine ⟨⟨sv, by simp [h5], hacc⟩, hN.old, hN.n, by simp [t1], by simp [t2, ptrV], by simp [t6], by simp [t7], hN.len⟩
theorem w73 {w h s c : Int} {sl : Value} (hw : 1 ≤ w ∧ w ≤ 24) (hh : 1 ≤ h ∧ h ≤ 24) (hc : 0 ≤ c ∧ c < 1000) (hg : g ≤ A.n) (hQ : ∀ A' sv, Ext' A A' → AccS A.n A' 1 (ints (refNb w h c)) sv → V sv A') :
    WF AP KL g 73 [gridV w h s sl, .int .i64 c] A V := by
  have x0 : 0 ≤ c.tmod w ∧ c.tmod w < w := ⟨Int.tmod_nonneg _ hc.1, Int.tmod_lt_of_pos _ (by omega)⟩
  have y0 : 0 ≤ c.tdiv w ∧ c.tdiv w ≤ c := ⟨Int.tdiv_nonneg hc.1 (by omega), by rw [Int.tdiv_eq_ediv_of_nonneg hc.1]; exact Int.ediv_le_self _ hc.1⟩
  obtain ⟨B, hB⟩ : ∃ B, B = A.push (.cells [.int .i64 w, .int .i64 h, .int .i64 s, sl] false) := ⟨_, rfl⟩
  have kB : Ext' A B := by rw [hB]; exact Ext'.push _ _
  have gB : B.get A.n = some (.cells [.int .i64 w, .int .i64 h, .int .i64 s, sl] false) := by rw [hB]; exact get_push_new
  have nB : B.n = A.n + 1 := by rw [hB]; rfl
  rw [WF_body rfl AP73]
  simp (disch := as_aux_lemma => first | omega | simp only [hDs] <;> omega | simp [isCell]) [hRs, takeMarks, resA, resAll, resOne, Value.cells, h73, gridV, J, binA_rem (show w ≠ 0 by omega), binA_quo (show w ≠ 0 by omega), wrId (n := c.tdiv w) (by omega) (by omega)]
  rw [← hB]
  refine W_mono (r73a (A0 := B) (b := A.n) (N := A.n + 1) (l := []) ⟨⟨.slice none 0 0, by simp, AccS.nil⟩, fun _ _ => rfl, by omega, by simp, by simp [ptrV], by simp, by simp, by simp⟩ (by omega) gB (by omega) hw hh hc (by simp)) ?_
  rintro _ ⟨T1, D1, A1⟩ ⟨rfl, rfl, h1⟩
  simp (disch := as_aux_lemma => first | omega | simp only [hDs] <;> omega | simp [isCell]) [hRs, takeMarks, resA, resAll, resOne, Value.cells]
  refine W_mono (r73b h1 (by omega) gB (by omega) hw hh hc (by split <;> simp)) ?_
  rintro _ ⟨T2, D2, A2⟩ ⟨rfl, rfl, h2⟩
  simp (disch := as_aux_lemma => first | omega | simp only [hDs] <;> omega | simp [isCell]) [hRs, takeMarks, resA, resAll, resOne, Value.cells]
  refine W_mono (r73c h2 (by omega) gB (by omega) hw hh hc (by split <;> split <;> simp)) ?_
  rintro _ ⟨T3, D3, A3⟩ ⟨rfl, rfl, h3⟩
  simp (disch := as_aux_lemma => first | omega | simp only [hDs] <;> omega | simp [isCell]) [hRs, takeMarks, resA, resAll, resOne, Value.cells]
  refine W_mono (r73d h3 (by omega) gB (by omega) hw hh hc (by split <;> split <;> split <;> simp)) ?_
  rintro _ ⟨T4, D4, A4⟩ ⟨rfl, rfl, h4⟩
  obtain ⟨sv, h5, hacc⟩ := h4.acc
  simp (disch := as_aux_lemma => first | omega | simp only [hDs] <;> omega | simp [isCell]) [hRs, takeMarks, resA, resAll, resOne, Value.cells, h5]
  have hn4 : A.n + 1 ≤ A4.n := h4.n
  refine hQ A4 sv ⟨by omega, fun x hx => by rw [h4.old x (by omega), kB.2 x hx]⟩ ?_
  exact hacc.weaken (by omega)
end
end Go.Ab.Wave
namespace Go.Ab.Wave
open Go Go.Ab
def p74a : ACode := (.seq
 (.ops [
oM 41 0,
oM 42 1,
oA 43 69 [.t 41, .t 42] false,
oM 44 43,
oN 45 44 true 0,
oN 46 44 true 2,
oQ 47 44 true (.call (.k (.func (.func 69) ⟨[]⟩ ⟨[]⟩)) [.t 45, .t 46] false),
oP 48 (.pick (.t 44) (.t 47) (.k (.bool false))),
oM 49 48,
oN 50 49 true 0,
oQ 51 49 true (.nilCheck (.t 50)),
oQ 52 49 true (.fieldAddr (.t 51) 13),
oQ 53 49 true (.load (.t 52) none),
oN 54 49 true 1,
oQ 55 49 true (.idxS (.t 53) (.t 54) 1),
oQ 56 49 true (.load (.t 55) none),
oQ 57 49 true (.bin .lss (.t 56) (oK 1099511627776)),
oP 58 (.pick (.t 49) (.t 57) (.k (.bool false)))])
 (.cond (.t 58)
 (.seq
 (.ops [
oM 60 0,
oP 61 (.nilCheck (.t 60)),
oF 62 61 0,
oF 63 62 2,
oL 64 63,
oM 65 0,
oP 66 (.nilCheck (.t 65)),
oF 67 66 12,
oL 68 67,
oM 69 1,
oI 70 68 69 2,
oF 71 70 1,
oL 72 71,
oM 73 0,
oP 74 (.nilCheck (.t 73)),
oF 75 74 12,
oL 76 75,
oM 77 2,
oI 78 76 77 2,
oF 79 78 1,
oL 80 79,
oP 81 (.min [.t 72, .t 80]),
oA 82 92 [.t 64, .t 81] false,
oM 59 82,
oX 83 59 0,
oX 84 59 1,
oM 8 83,
oM 9 84])
 (.seq
 (.ops [
oM 85 0,
oP 86 (.nilCheck (.t 85)),
oF 87 86 13,
oL 88 87,
oM 89 2,
oM 90 0,
oP 91 (.nilCheck (.t 90)),
oF 92 91 13,
oL 93 92,
oM 94 2,
oI 95 93 94 1,
oL 96 95,
oM 97 0,
oP 98 (.nilCheck (.t 97)),
oF 99 98 13,
oL 100 99,
oM 101 1,
oI 102 100 101 1,
oL 103 102,
oM 104 8,
oB 105 .add 103 104,
oP 106 (.min [.t 96, .t 105]),
oI 107 88 89 1,
oT 107 106 1])
 (.ops [
oM 108 0,
oP 109 (.nilCheck (.t 108)),
oF 110 109 16,
oL 111 110,
oM 112 2,
oM 113 0,
oP 114 (.nilCheck (.t 113)),
oF 115 114 16,
oL 116 115,
oM 117 2,
oI 118 116 117 1,
oL 119 118,
oM 120 0,
oP 121 (.nilCheck (.t 120)),
oF 122 121 16,
oL 123 122,
oM 124 1,
oI 125 123 124 1,
oL 126 125,
oM 127 0,
oP 128 (.nilCheck (.t 127)),
oF 129 128 6,
oF 130 129 0,
oF 131 130 1,
oL 132 131,
oB 133 .mul 126 132,
oA 134 81 [.t 133, .k (.int .i64 1024)] true,
oP 135 (.max [.t 119, .t 134]),
oI 136 111 112 1,
oT 136 135 1])))
 .skip))
def p74b : ACode := (.seq
 (.ops [
oM 137 0,
oM 138 1,
oA 139 71 [.t 137, .t 138] false,
oM 140 139,
oN 141 140 true 0,
oN 142 140 true 2,
oQ 143 140 true (.call (.k (.func (.func 71) ⟨[]⟩ ⟨[]⟩)) [.t 141, .t 142] false),
oP 144 (.pick (.t 140) (.t 143) (.k (.bool false))),
oM 145 144,
oN 146 145 true 0,
oQ 147 145 true (.nilCheck (.t 146)),
oQ 148 145 true (.fieldAddr (.t 147) 14),
oQ 149 145 true (.load (.t 148) none),
oN 150 145 true 1,
oQ 151 145 true (.idxS (.t 149) (.t 150) 1),
oQ 152 145 true (.load (.t 151) none),
oQ 153 145 true (.bin .lss (.t 152) (oK 1099511627776)),
oP 154 (.pick (.t 145) (.t 153) (.k (.bool false)))])
 (.cond (.t 154)
 (.seq
 (.ops [
oM 156 0,
oP 157 (.nilCheck (.t 156)),
oF 158 157 0,
oF 159 158 2,
oL 160 159,
oM 161 0,
oP 162 (.nilCheck (.t 161)),
oF 163 162 12,
oL 164 163,
oM 165 1,
oI 166 164 165 2,
oF 167 166 0,
oL 168 167,
oM 169 0,
oP 170 (.nilCheck (.t 169)),
oF 171 170 12,
oL 172 171,
oM 173 2,
oI 174 172 173 2,
oF 175 174 0,
oL 176 175,
oP 177 (.min [.t 168, .t 176]),
oA 178 92 [.t 160, .t 177] false,
oM 155 178,
oX 179 155 0,
oX 180 155 1,
oM 10 179,
oM 11 180])
 (.seq
 (.ops [
oM 181 0,
oP 182 (.nilCheck (.t 181)),
oF 183 182 14,
oL 184 183,
oM 185 2,
oM 186 0,
oP 187 (.nilCheck (.t 186)),
oF 188 187 14,
oL 189 188,
oM 190 2,
oI 191 189 190 1,
oL 192 191,
oM 193 0,
oP 194 (.nilCheck (.t 193)),
oF 195 194 14,
oL 196 195,
oM 197 1,
oI 198 196 197 1,
oL 199 198,
oM 200 11,
oB 201 .add 199 200,
oP 202 (.min [.t 192, .t 201]),
oI 203 184 185 1,
oT 203 202 1])
 (.ops [
oM 204 0,
oP 205 (.nilCheck (.t 204)),
oF 206 205 15,
oL 207 206,
oM 208 2,
oM 209 0,
oP 210 (.nilCheck (.t 209)),
oF 211 210 15,
oL 212 211,
oM 213 2,
oI 214 212 213 1,
oL 215 214,
oM 216 0,
oP 217 (.nilCheck (.t 216)),
oF 218 217 15,
oL 219 218,
oM 220 1,
oI 221 219 220 1,
oL 222 221,
oM 223 0,
oP 224 (.nilCheck (.t 223)),
oF 225 224 6,
oF 226 225 0,
oF 227 226 0,
oL 228 227,
oB 229 .mul 222 228,
oC 230 .quo 229 1024,
oP 231 (.max [.t 215, .t 230]),
oI 232 207 208 1,
oT 232 231 1])))
 .skip))
def h74 : ACode := .seq (.ops [
oP 6 (.move (.k (.bool false)))]) (.seq (.ops [
oM 12 0,
oP 13 (.nilCheck (.t 12)),
oF 14 13 13,
oL 15 14,
oM 16 2,
oI 17 15 16 1,
oL 18 17,
oM 19 0,
oP 20 (.nilCheck (.t 19)),
oF 21 20 14,
oL 22 21,
oM 23 2,
oI 24 22 23 1,
oL 25 24,
oM 26 0,
oP 27 (.nilCheck (.t 26)),
oF 28 27 15,
oL 29 28,
oM 30 2,
oI 31 29 30 1,
oL 32 31,
oM 33 0,
oP 34 (.nilCheck (.t 33)),
oF 35 34 16,
oL 36 35,
oM 37 2,
oI 38 36 37 1,
oL 39 38,
oP 40 (.build [.int .i64 0, .int .i64 0, .int .i64 0, .int .i64 0] [(0, 1, .t 18), (1, 1, .t 25), (2, 1, .t 32), (3, 1, .t 39)]),
oP 7 (.alloc [.int .i64 0, .int .i64 0, .int .i64 0, .int .i64 0]),
oT 7 40 4]) (.seq p74a (.seq p74b (.seq
 (.ops [
oD 233 7 4,
oM 234 0,
oP 235 (.nilCheck (.t 234)),
oF 236 235 13,
oL 237 236,
oM 238 2,
oI 239 237 238 1,
oL 240 239,
oM 241 0,
oP 242 (.nilCheck (.t 241)),
oF 243 242 14,
oL 244 243,
oM 245 2,
oI 246 244 245 1,
oL 247 246,
oM 248 0,
oP 249 (.nilCheck (.t 248)),
oF 250 249 15,
oL 251 250,
oM 252 2,
oI 253 251 252 1,
oL 254 253,
oM 255 0,
oP 256 (.nilCheck (.t 255)),
oF 257 256 16,
oL 258 257,
oM 259 2,
oI 260 258 259 1,
oL 261 260,
oP 262 (.build [.int .i64 0, .int .i64 0, .int .i64 0, .int .i64 0] [(0, 1, .t 240), (1, 1, .t 247), (2, 1, .t 254), (3, 1, .t 261)]),
oP 263 (.eqv true [false, false, false, false] (.t 233) (.t 262)),
oM 6 263])
 .ret))))
theorem AP74 : AP 74 = some (.fn 264 [.tmp 6] h74) := rfl
def passA (P : Par) (va vs : List Int) (a b : Nat) : List Int × List Int :=
  if P.open a b = true ∧ gi va a < Never then (va.set b (min (gi va b) (gi va a + P.cross a b)), vs.set b (max (gi vs b) (dv P.up (gi vs a * ofE P.up P.k0 P.k1) 1024))) else (va, vs)
def passU (P : Par) (a b : Nat) (v : Nat → List Int) : Nat → List Int := upd (upd v 0 (passA (P.at true) (v 0) (v 3) a b).1) 3 (passA (P.at true) (v 0) (v 3) a b).2
def passD (P : Par) (a b : Nat) (v : Nat → List Int) : Nat → List Int := upd (upd v 1 (passA (P.at false) (v 1) (v 2) a b).1) 2 (passA (P.at false) (v 1) (v 2) a b).2
theorem upd_same {v : Nat → List Int} {i : Nat} : upd v i (v i) = v := by
  funext j
  unfold upd
  split
  · rename_i h; rw [h]
  · rfl
def WK (r : Nat → Nat) (y : Nat) : Prop := ∃ i, i < 9 ∧ y = r i
structure VOk (P : Par) (v : Nat → List Int) : Prop where
  a0 : ∀ c, c < P.l.length → 0 ≤ gi (v 0) c ∧ gi (v 0) c ≤ Never
  a1 : ∀ c, c < P.l.length → 0 ≤ gi (v 1) c ∧ gi (v 1) c ≤ Never
  a2 : ∀ c, c < P.l.length → 0 ≤ gi (v 2) c ∧ gi (v 2) c ≤ 200000000
  a3 : ∀ c, c < P.l.length → 0 ≤ gi (v 3) c ∧ gi (v 3) c ≤ 200000000
structure S74 (P : Par) (X rd : Nat) (r : Nat → Nat) (a b B7 : Nat) (bc : List Value) (A0 : Hp) (v : Nat → List Int) (T : List Value) (A : Hp) : Prop where
  w : Work A P X rd r v
  b7 : A.get B7 = some (.cells bc false)
  ne7 : ∀ i, i < 9 → B7 ≠ r i
  k : Keep (WK r) A0 A
  t0 : tget T 0 = ptrV X
  t1 : tget T 1 = .int .i64 a
  t2 : tget T 2 = .int .i64 b
  t7 : tget T 7 = ptrV B7
section
variable {g : Nat} {A : Hp} {V : Value → Hp → Prop} {P : Par} {X rd : Nat} {r : Nat → Nat} {v : Nat → List Int} {a b B7 : Nat} {bc : List Value} {A0 : Hp} {T : List Value} {D : List Nat} {rdd : Option Nat}
theorem S74.ext {A' : Hp} (h : S74 P X rd r a b B7 bc A0 v T A) (e : Ext' A A') : S74 P X rd r a b B7 bc A0 v T A' := ⟨h.w.ext e, e.get h.b7, h.ne7, h.k.trans (e.keep _), h.t0, h.t1, h.t2, h.t7⟩
theorem S74.put {T' : List Value} (h : S74 P X rd r a b B7 bc A0 v T A) {i : Nat} (hi : i < 9) {l : List Int} (hl : l.length = P.l.length) (hT : ∀ j, j < 8 → tget T' j = tget T j) : S74 P X rd r a b B7 bc A0 (upd v i l) T' (A.set (r i) (some (.cells (ints l) false))) :=
  ⟨h.w.put hi hl, by rw [get_set_ne (Hp.lt_of_get (h.w.hv i hi)) (h.ne7 i hi)]; exact h.b7, h.ne7, Keep.put' h.k (Hp.lt_of_get (h.w.hv i hi)) ⟨i, hi, rfl⟩, (hT 0 (by omega)).trans h.t0, (hT 1 (by omega)).trans h.t1, (hT 2 (by omega)).trans h.t2, (hT 7 (by omega)).trans h.t7⟩
theorem S74.same {T' : List Value} (h : S74 P X rd r a b B7 bc A0 v T A) (hT : ∀ j, j < 8 → tget T' j = tget T j) : S74 P X rd r a b B7 bc A0 v T' A :=
  ⟨h.w, h.b7, h.ne7, h.k, (hT 0 (by omega)).trans h.t0, (hT 1 (by omega)).trans h.t1, (hT 2 (by omega)).trans h.t2, (hT 7 (by omega)).trans h.t7⟩
theorem r74a (hP : POk (P.at true)) (hO : VOk P v) (ha : a < P.l.length) (hb : b < P.l.length) (hg : ∀ i, i < 9 → g ≤ r i) (h : S74 P X rd r a b B7 bc A0 v T A) :
    W AP KL g rdd p74a ⟨T, D, A⟩ (fun ex st => ex = .normal ∧ st.D = D ∧ S74 P X rd r a b B7 bc A0 (passU P a b v) st.T st.A) := by
  have t0 := h.t0
  have t1 := h.t1
  have t2 := h.t2
  have hW := h.w
  have hX := hW.hx
  have hd := hW.hd
  have va := hW.hv 0 (by omega)
  have vs := hW.hv 3 (by omega)
  have na : (v 0).length = P.l.length := hW.nv 0 (by omega)
  have ns : (v 3).length = P.l.length := hW.nv 3 (by omega)
  have oa := hO.a0 a ha
  have ob := hO.a0 b hb
  have sa := hO.a3 a ha
  have sb := hO.a3 b hb
  have sm : ∀ z, (A.set (r 0) z).get (r 0) = z := fun z => get_set_same va
  have sx : ∀ z, (A.set (r 0) z).get X = A.get X := fun z => get_set_ne (Hp.lt_of_get va) (fun e => (hW.nd 0 (by omega)).2 e.symm)
  have sv : ∀ z, (A.set (r 0) z).get (r 3) = A.get (r 3) := fun z => get_set_ne (Hp.lt_of_get va) (hW.ne 3 0 (by omega) (by omega) (by omega))
  obtain ⟨hl, da0, da1⟩ := Work.dep ha
  obtain ⟨_, db0, db1⟩ := Work.dep hb
  have hNe : passA (P.at true) (v 0) (v 3) a b = (v 0, v 3) → passU P a b v = v := by
    intro e; unfold passU; rw [e]; simp only [upd_same]
  simp (disch := as_aux_lemma => first | omega | simp only [hDs] <;> omega | simp [isCell]) [hRs, takeMarks, resA, resAll, resOne, Value.cells, p74a, t0, t1, t2]
  refine w69 hW ha ?_
  by_cases ca : 1 ≤ (P.at true).dep a
  · simp (disch := as_aux_lemma => first | omega | simp only [hDs] <;> omega | simp [isCell]) [hRs, takeMarks, resA, resAll, resOne, Value.cells, ca, t0, t1, t2]
    refine w69 hW hb ?_
    by_cases cb : 1 ≤ (P.at true).dep b
    · by_cases cn : gi (v 0) a < 1099511627776
      · have hop : (P.at true).open a b = true := by unfold Par.open; simp [ca, cb]
        have hcr := hP.cross (a := a) (b := b) ca cb
        have hdA := hP.dep (c := a) ha
        have hdB := hP.dep (c := b) hb
        have hs' : 1 ≤ P.s ∧ P.s ≤ 10000 := (check_parts hP.chk).2.2.1
        have hkp := hP.keep
        have hkp' : 1 ≤ P.k0 ∧ P.k0 ≤ P.k1 ∧ P.k1 ≤ 1024 := hkp
        have hpa : passA (P.at true) (v 0) (v 3) a b = ((v 0).set b (min (gi (v 0) b) (gi (v 0) a + (P.at true).cross a b)), (v 3).set b (max (gi (v 3) b) (dv (P.at true).up (gi (v 3) a * ofE (P.at true).up (P.at true).k0 (P.at true).k1) 1024))) := by
          unfold passA; rw [if_pos ⟨hop, cn⟩]
        obtain ⟨m, hm⟩ : ∃ m, m = min ((P.at true).dep a) ((P.at true).dep b) := ⟨_, rfl⟩
        simp (disch := as_aux_lemma => first | omega | simp only [hDs] <;> omega | simp [isCell]) [hRs, takeMarks, resA, resAll, resOne, Value.cells, cb, cn, t0, t1, t2, ptrV, hX, wkCells, rowS2, rowS1, idxSA_ok, show (a : Int) < P.l.length by omega, show (b : Int) < P.l.length by omega, hd, va, ints_get, da1, db1]
        rw [← hm]
        refine w92 hs' (by omega) ?_
        have hcE : crossD true P.s m = (P.at true).cross a b := by rw [hm]; rfl
        have hst := h.put (T' := T) (i := 0) (by omega) (l := (v 0).set b (min (gi (v 0) b) (gi (v 0) a + (P.at true).cross a b))) (by rw [List.length_set]; exact na) (fun _ _ => rfl)
        obtain ⟨A1, hA1⟩ : ∃ A1, A1 = A.set (r 0) (some (.cells (ints ((v 0).set b (min (gi (v 0) b) (gi (v 0) a + (P.at true).cross a b)))) false)) := ⟨_, rfl⟩
        have mk : 0 ≤ gi (v 3) a * P.k1 ∧ gi (v 3) a * P.k1 ≤ 200000000 * 1024 := ⟨Int.mul_nonneg sa.1 (by omega), Int.mul_le_mul sa.2 (by omega) (by omega) (by omega)⟩
        simp (disch := as_aux_lemma => first | omega | simp only [hDs] <;> omega | simp [isCell]) [hRs, takeMarks, resA, resAll, resOne, Value.cells, t0, t1, t2, ptrV, hX, wkCells, rowS2, rowS1, idxSA_ok, show (a : Int) < P.l.length by omega, show (b : Int) < P.l.length by omega, hd, va, ints_get, hcE, wrId (n := gi (v 0) a + (P.at true).cross a b) (by omega) (by omega), storeB_int (show b < (v 0).length by omega) (hg 0 (by omega)), sx, sv, vs, wrId (n := gi (v 3) a * P.k1) (by omega) (by omega)]
        refine w81 mk.1 (by omega) (by omega) (by omega) ?_
        simp (disch := as_aux_lemma => first | omega | simp only [hDs] <;> omega | simp [isCell]) [hRs, takeMarks, resA, resAll, resOne, Value.cells, idxSA_ok, show (b : Int) < P.l.length by omega, sv, vs, storeB_int (show b < (v 3).length by omega) (hg 3 (by omega))]
        have hf := hst.put (T' := T) (i := 3) (by omega) (l := (v 3).set b (max (gi (v 3) b) (dv (P.at true).up (gi (v 3) a * ofE (P.at true).up (P.at true).k0 (P.at true).k1) 1024))) (by rw [List.length_set]; exact ns) (fun _ _ => rfl)
        unfold passU
        rw [hpa]
        refine hf.same fun j hj => ?_
        simp only [tget_tset]
        repeat (rw [if_neg (by omega)])
      · simp (disch := as_aux_lemma => first | omega | simp only [hDs] <;> omega | simp [isCell]) [hRs, takeMarks, resA, resAll, resOne, Value.cells, cb, cn, t0, t1, t2, ptrV, hX, wkCells, rowS2, rowS1, idxSA_ok, show (a : Int) < P.l.length by omega, va, ints_get]
        rw [hNe (by unfold passA; rw [if_neg (fun hh => cn hh.2)])]
        refine h.same fun j hj => ?_
        simp only [tget_tset]
        repeat (rw [if_neg (by omega)])
    · simp (disch := as_aux_lemma => first | omega | simp only [hDs] <;> omega | simp [isCell]) [hRs, takeMarks, resA, resAll, resOne, Value.cells, cb]
      rw [hNe (by unfold passA; rw [if_neg (fun hh => cb (open_dep hh.1).2)])]
      refine h.same fun j hj => ?_
      simp only [tget_tset]
      repeat (rw [if_neg (by omega)])
  · simp (disch := as_aux_lemma => first | omega | simp only [hDs] <;> omega | simp [isCell]) [hRs, takeMarks, resA, resAll, resOne, Value.cells, ca]
    rw [hNe (by unfold passA; rw [if_neg (fun hh => ca (open_dep hh.1).1)])]
    refine h.same fun j hj => ?_
    simp only [tget_tset]
    repeat (rw [if_neg (by omega)])
theorem r74b (hP : POk (P.at false)) (hO : VOk P v) (ha : a < P.l.length) (hb : b < P.l.length) (hg : ∀ i, i < 9 → g ≤ r i) (h : S74 P X rd r a b B7 bc A0 v T A) :
    W AP KL g rdd p74b ⟨T, D, A⟩ (fun ex st => ex = .normal ∧ st.D = D ∧ S74 P X rd r a b B7 bc A0 (passD P a b v) st.T st.A) := by
  have t0 := h.t0
  have t1 := h.t1
  have t2 := h.t2
  have hW := h.w
  have hX := hW.hx
  have hd := hW.hd
  have va := hW.hv 1 (by omega)
  have vs := hW.hv 2 (by omega)
  have na : (v 1).length = P.l.length := hW.nv 1 (by omega)
  have ns : (v 2).length = P.l.length := hW.nv 2 (by omega)
  have oa := hO.a1 a ha
  have ob := hO.a1 b hb
  have sa := hO.a2 a ha
  have sb := hO.a2 b hb
  have sm : ∀ z, (A.set (r 1) z).get (r 1) = z := fun z => get_set_same va
  have sx : ∀ z, (A.set (r 1) z).get X = A.get X := fun z => get_set_ne (Hp.lt_of_get va) (fun e => (hW.nd 1 (by omega)).2 e.symm)
  have sv : ∀ z, (A.set (r 1) z).get (r 2) = A.get (r 2) := fun z => get_set_ne (Hp.lt_of_get va) (hW.ne 2 1 (by omega) (by omega) (by omega))
  obtain ⟨hl, da0, da1⟩ := Work.dep ha
  obtain ⟨_, db0, db1⟩ := Work.dep hb
  have hNe : passA (P.at false) (v 1) (v 2) a b = (v 1, v 2) → passD P a b v = v := by
    intro e; unfold passD; rw [e]; simp only [upd_same]
  simp (disch := as_aux_lemma => first | omega | simp only [hDs] <;> omega | simp [isCell]) [hRs, takeMarks, resA, resAll, resOne, Value.cells, p74b, t0, t1, t2]
  refine w71 hW ha ?_
  by_cases ca : 1 ≤ (P.at false).dep a
  · simp (disch := as_aux_lemma => first | omega | simp only [hDs] <;> omega | simp [isCell]) [hRs, takeMarks, resA, resAll, resOne, Value.cells, ca, t0, t1, t2]
    refine w71 hW hb ?_
    by_cases cb : 1 ≤ (P.at false).dep b
    · by_cases cn : gi (v 1) a < 1099511627776
      · have hop : (P.at false).open a b = true := by unfold Par.open; simp [ca, cb]
        have hcr := hP.cross (a := a) (b := b) ca cb
        have hdA := hP.dep (c := a) ha
        have hdB := hP.dep (c := b) hb
        have hs' : 1 ≤ P.s ∧ P.s ≤ 10000 := (check_parts hP.chk).2.2.1
        have hkp := hP.keep
        have hkp' : 1 ≤ P.k0 ∧ P.k0 ≤ P.k1 ∧ P.k1 ≤ 1024 := hkp
        have hpa : passA (P.at false) (v 1) (v 2) a b = ((v 1).set b (min (gi (v 1) b) (gi (v 1) a + (P.at false).cross a b)), (v 2).set b (max (gi (v 2) b) (dv (P.at false).up (gi (v 2) a * ofE (P.at false).up (P.at false).k0 (P.at false).k1) 1024))) := by
          unfold passA; rw [if_pos ⟨hop, cn⟩]
        obtain ⟨m, hm⟩ : ∃ m, m = min ((P.at false).dep a) ((P.at false).dep b) := ⟨_, rfl⟩
        simp (disch := as_aux_lemma => first | omega | simp only [hDs] <;> omega | simp [isCell]) [hRs, takeMarks, resA, resAll, resOne, Value.cells, cb, cn, t0, t1, t2, ptrV, hX, wkCells, rowS2, rowS1, idxSA_ok, show (a : Int) < P.l.length by omega, show (b : Int) < P.l.length by omega, hd, va, ints_get, da0, db0]
        rw [← hm]
        refine w92 hs' (by omega) ?_
        have hcE : crossD false P.s m = (P.at false).cross a b := by rw [hm]; rfl
        have hst := h.put (T' := T) (i := 1) (by omega) (l := (v 1).set b (min (gi (v 1) b) (gi (v 1) a + (P.at false).cross a b))) (by rw [List.length_set]; exact na) (fun _ _ => rfl)
        obtain ⟨A1, hA1⟩ : ∃ A1, A1 = A.set (r 1) (some (.cells (ints ((v 1).set b (min (gi (v 1) b) (gi (v 1) a + (P.at false).cross a b)))) false)) := ⟨_, rfl⟩
        have mk : 0 ≤ gi (v 2) a * P.k0 ∧ gi (v 2) a * P.k0 ≤ 200000000 * 1024 := ⟨Int.mul_nonneg sa.1 (by omega), Int.mul_le_mul sa.2 (by omega) (by omega) (by omega)⟩
        simp (disch := as_aux_lemma => first | omega | simp only [hDs] <;> omega | simp [isCell]) [hRs, takeMarks, resA, resAll, resOne, Value.cells, t0, t1, t2, ptrV, hX, wkCells, rowS2, rowS1, idxSA_ok, show (a : Int) < P.l.length by omega, show (b : Int) < P.l.length by omega, hd, va, ints_get, hcE, wrId (n := gi (v 1) a + (P.at false).cross a b) (by omega) (by omega), storeB_int (show b < (v 1).length by omega) (hg 1 (by omega)), sx, sv, vs, wrId (n := gi (v 2) a * P.k0) (by omega) (by omega)]
        have hq : 0 ≤ (gi (v 2) a * P.k0).tdiv 1024 ∧ (gi (v 2) a * P.k0).tdiv 1024 ≤ gi (v 2) a * P.k0 := by
          rw [Int.tdiv_eq_ediv_of_nonneg mk.1]
          exact ⟨Int.ediv_nonneg mk.1 (by omega), Int.ediv_le_self _ mk.1⟩
        simp (disch := as_aux_lemma => first | omega | simp only [hDs] <;> omega | simp [isCell]) [hRs, takeMarks, resA, resAll, resOne, Value.cells, binA_quo, wrId (n := (gi (v 2) a * P.k0).tdiv 1024) (by omega) (by omega), idxSA_ok, show (b : Int) < P.l.length by omega, sv, vs, storeB_int (show b < (v 2).length by omega) (hg 2 (by omega))]
        have hf := hst.put (T' := T) (i := 2) (by omega) (l := (v 2).set b (max (gi (v 2) b) (dv (P.at false).up (gi (v 2) a * ofE (P.at false).up (P.at false).k0 (P.at false).k1) 1024))) (by rw [List.length_set]; exact ns) (fun _ _ => rfl)
        unfold passD
        rw [hpa]
        refine hf.same fun j hj => ?_
        simp only [tget_tset]
        repeat (rw [if_neg (by omega)])
      · simp (disch := as_aux_lemma => first | omega | simp only [hDs] <;> omega | simp [isCell]) [hRs, takeMarks, resA, resAll, resOne, Value.cells, cb, cn, t0, t1, t2, ptrV, hX, wkCells, rowS2, rowS1, idxSA_ok, show (a : Int) < P.l.length by omega, va, ints_get]
        rw [hNe (by unfold passA; rw [if_neg (fun hh => cn hh.2)])]
        refine h.same fun j hj => ?_
        simp only [tget_tset]
        repeat (rw [if_neg (by omega)])
    · simp (disch := as_aux_lemma => first | omega | simp only [hDs] <;> omega | simp [isCell]) [hRs, takeMarks, resA, resAll, resOne, Value.cells, cb]
      rw [hNe (by unfold passA; rw [if_neg (fun hh => cb (open_dep hh.1).2)])]
      refine h.same fun j hj => ?_
      simp only [tget_tset]
      repeat (rw [if_neg (by omega)])
  · simp (disch := as_aux_lemma => first | omega | simp only [hDs] <;> omega | simp [isCell]) [hRs, takeMarks, resA, resAll, resOne, Value.cells, ca]
    rw [hNe (by unfold passA; rw [if_neg (fun hh => ca (open_dep hh.1).1)])]
    refine h.same fun j hj => ?_
    simp only [tget_tset]
    repeat (rw [if_neg (by omega)])
end
end Go.Ab.Wave
namespace Go.Ab.Wave
open Go Go.Ab
theorem eqv4 {a b c d a' b' c' d' : Int} : eqvA true [false, false, false, false] (.agg ⟨[.int .i64 a, .int .i64 b, .int .i64 c, .int .i64 d]⟩) (.agg ⟨[.int .i64 a', .int .i64 b', .int .i64 c', .int .i64 d']⟩) =
    some (.bool (!(decide (a = a') && (decide (b = b') && (decide (c = c') && decide (d = d')))))) := by
  simp [eqvA, eqCells, cellEq, kEq]
  rfl
def passR (P : Par) (a b : Nat) (v : Nat → List Int) : Nat → List Int := passD P a b (passU P a b v)
def flag4 (v v' : Nat → List Int) (b : Nat) : Bool := !(decide (gi (v 0) b = gi (v' 0) b) && (decide (gi (v 1) b = gi (v' 1) b) && (decide (gi (v 2) b = gi (v' 2) b) && decide (gi (v 3) b = gi (v' 3) b))))
theorem passU_val {P : Par} (hP : POk (P.at true)) {v : Nat → List Int} (h : VOk P v) (hn : ∀ i, i < 9 → (v i).length = P.l.length) {a b : Nat} (ha : a < P.l.length) (hb : b < P.l.length) : VOk P (passU P a b v) := by
  unfold passU passA
  split
  · rename_i hc
    have hcr := hP.cross (open_dep hc.1).1 (open_dep hc.1).2
    have n0 := hn 0 (by omega)
    have n3 := hn 3 (by omega)
    have p1 := h.a0 a ha
    have p2 := h.a0 b hb
    have q1 := h.a3 a ha
    have q2 := h.a3 b hb
    have hsp := spS_le hP (a := a) (b := b) q1.1
    have hsp' : 0 ≤ dv (P.at true).up (gi (v 3) a * ofE (P.at true).up (P.at true).k0 (P.at true).k1) 1024 ∧ dv (P.at true).up (gi (v 3) a * ofE (P.at true).up (P.at true).k0 (P.at true).k1) 1024 ≤ gi (v 3) a := hsp
    refine ⟨fun c hc' => ?_, fun c hc' => h.a1 c hc', fun c hc' => h.a2 c hc', fun c hc' => ?_⟩
    · show 0 ≤ gi ((v 0).set b _) c ∧ gi ((v 0).set b _) c ≤ Never
      rw [gi_set (by omega)]
      have := h.a0 c hc'
      split <;> omega
    · show 0 ≤ gi ((v 3).set b _) c ∧ gi ((v 3).set b _) c ≤ 200000000
      rw [gi_set (by omega)]
      have := h.a3 c hc'
      split <;> omega
  · simp only [upd_same]; exact h
section
variable {g : Nat} {A : Hp} {V : Value → Hp → Prop} {P : Par} {X rd : Nat} {r : Nat → Nat} {v : Nat → List Int} {a b : Nat}
theorem w74 (hu : POk (P.at true)) (hl : POk (P.at false)) (hW : Work A P X rd r v) (hO : VOk P v) (ha : a < P.l.length) (hb : b < P.l.length) (hg : ∀ i, i < 9 → g ≤ r i)
    (hQ : ∀ A', Keep (WK r) A A' → Work A' P X rd r (passR P a b v) → V (.bool (flag4 v (passR P a b v) b)) A') :
    WF AP KL g 74 [ptrV X, .int .i64 a, .int .i64 b] A V := by
  have hX := hW.hx
  have n0 := hW.nv 0 (by omega)
  have n1 := hW.nv 1 (by omega)
  have n2 := hW.nv 2 (by omega)
  have n3 := hW.nv 3 (by omega)
  have g0 := hg 0 (by omega)
  have hr0 := Hp.lt_of_get (hW.hv 0 (by omega))
  obtain ⟨bc, hbc⟩ : ∃ bc : List Value, bc = [.int .i64 (gi (v 0) b), .int .i64 (gi (v 1) b), .int .i64 (gi (v 2) b), .int .i64 (gi (v 3) b)] := ⟨_, rfl⟩
  obtain ⟨B, hB⟩ : ∃ B, B = A.push (.cells bc false) := ⟨_, rfl⟩
  have kB : Ext' A B := by rw [hB]; exact Ext'.push _ _
  have gB : B.get A.n = some (.cells bc false) := by rw [hB]; exact get_push_new
  have hB' := hB
  rw [hbc] at hB'
  rw [WF_body rfl AP74]
  simp (disch := as_aux_lemma => first | omega | simp only [hDs] <;> omega | simp [isCell]) [hRs, takeMarks, resA, resAll, resOne, Value.cells, h74, ptrV, hX, wkCells, rowS1, rowS2, idxSA_ok, show (b : Int) < P.l.length by omega, hW.hv 0, hW.hv 1, hW.hv 2, hW.hv 3, ints_get, fillA, setRange, storeB_cells, setRange_all, set_push_eq]
  rw [← hB']
  refine W_mono (r74a (B7 := A.n) (bc := bc) (A0 := B) hu hO ha hb hg ⟨hW.ext kB, gB, fun i hi => by have := Hp.lt_of_get (hW.hv i hi); omega, Keep.refl _ _, by simp [ptrV], by simp, by simp, by simp [ptrV]⟩) ?_
  rintro _ ⟨T1, D1, A1⟩ ⟨rfl, rfl, h1⟩
  simp (disch := as_aux_lemma => first | omega | simp only [hDs] <;> omega | simp [isCell]) [hRs, takeMarks, resA, resAll, resOne, Value.cells]
  refine W_mono (r74b hl (passU_val hu hO hW.nv ha hb) ha hb hg h1) ?_
  rintro _ ⟨T2, D2, A2⟩ ⟨rfl, rfl, h2⟩
  have hW2 := h2.w
  have hX2 : A2.get X = _ := hW2.hx
  have t0 : tget T2 0 = ptrV X := h2.t0
  have t2 : tget T2 2 = .int .i64 b := h2.t2
  have t7 : tget T2 7 = ptrV A.n := h2.t7
  have b7 : A2.get A.n = some (.cells bc false) := h2.b7
  rw [hbc] at b7
  have hW3 : Work A2 P X rd r (passR P a b v) := hW2
  have m0 := hW3.nv 0 (by omega)
  have m1 := hW3.nv 1 (by omega)
  have m2 := hW3.nv 2 (by omega)
  have m3 := hW3.nv 3 (by omega)
  simp (disch := as_aux_lemma => first | omega | simp only [hDs] <;> omega | simp [isCell]) [hRs, takeMarks, resA, resAll, resOne, Value.cells, t0, t2, t7, b7, ptrV, hX2, wkCells, rowS1, rowS2, idxSA_ok, show (b : Int) < P.l.length by omega, hW3.hv 0, hW3.hv 1, hW3.hv 2, hW3.hv 3, ints_get, fillA, setRange, eqv4]
  have := hQ A2 ((kB.keep _).trans h2.k) hW3
  unfold flag4 at this
  simp at this
  exact this
end
end Go.Ab.Wave
namespace Go.Ab.Wave
open Go Go.Ab
theorem refNb_nat {P : Par} (h : POk P) {c : Nat} (hc : c < P.l.length) : refNb P.w P.h c = (refN P c).map fun (x : Nat) => (x : Int) := by
  obtain ⟨hw, hh, _, hl⟩ := check_parts h.chk
  have hcb : 0 ≤ (c : Int) ∧ (c : Int) < P.w * P.h := ⟨by omega, by rw [← hl]; omega⟩
  unfold refN
  rw [List.map_map]
  conv => lhs; rw [← List.map_id (refNb P.w P.h c)]
  apply List.map_congr_left
  intro z hz
  rw [refNb_mem hw.1 hcb] at hz
  have := (nbrs_symm hw.1 hcb hz).1
  show z = ((z.toNat : Nat) : Int)
  omega
structure Rd where
  I : (Nat → List Int) → Prop
  pot : (Nat → List Int) → Nat
  step : Nat → Nat → (Nat → List Int) → (Nat → List Int)
  fl : Nat → Nat → (Nat → List Int) → Bool
structure RdOk (R : Rd) (P : Par) : Prop where
  keep : ∀ v a b, R.I v → a < P.l.length → b ∈ nbP P a → R.I (R.step a b v)
  quiet : ∀ v a b, R.I v → a < P.l.length → b ∈ nbP P a → R.fl a b v = false → R.step a b v = v
  down : ∀ v a b, R.I v → a < P.l.length → b ∈ nbP P a → R.fl a b v = true → R.pot (R.step a b v) < R.pot v
structure Rnd (R : Rd) (v0 v : Nat → List Int) (f : Bool) : Prop where
  i : R.I v
  q : f = false → v = v0
  d : f = true → R.pot v < R.pot v0
def Shut (R : Rd) (P : Par) (v : Nat → List Int) (c : Nat) : Prop := ∀ a, a ∈ refN P c → R.step a c v = v
theorem Rnd.step {R : Rd} {P : Par} (hR : RdOk R P) {v0 v : Nat → List Int} {f : Bool} (h : Rnd R v0 v f) {a b : Nat} (ha : a < P.l.length) (hb : b ∈ nbP P a) :
    Rnd R v0 (R.step a b v) (f || R.fl a b v) ∧ ((f || R.fl a b v) = false → R.step a b v0 = v0) := by
  cases hf : R.fl a b v
  · have hs := hR.quiet v a b h.i ha hb hf
    rw [Bool.or_false, hs]
    refine ⟨h, fun e => ?_⟩
    have := h.q e
    rw [← this]; exact hs
  · have hd := hR.down v a b h.i ha hb hf
    rw [Bool.or_true]
    refine ⟨⟨hR.keep v a b h.i ha hb, fun e => absurd e (by decide), fun _ => ?_⟩, fun e => absurd e (by decide)⟩
    cases f
    · rw [← h.q rfl]; exact hd
    · exact Nat.lt_trans hd (h.d rfl)
def body52o : ACode := (.seq
 (.seq
 (.ops [
oM 127 6])
 (.cond (.t 127)
 .skip
 (.exit 2)))
 (.block 3
 (.seq
 (.ops [
oP 6 (.move (.k (.bool false)))])
 (.seq
 (.ops [
oP 7 (.move (oK 0))])
 (.block 4
 (.loop
 body52c))))))
section
variable {g : Nat} {P : Par} {X rd : Nat} {r : Nat → Nat} {R : Rd} {D : List Nat} {rdd : Option Nat} {Q : Ex → St → Prop}
theorem loop52k (hP : POk P) (hR : RdOk R P) (hcall : ∀ (A : Hp) (v : Nat → List Int) (a b : Nat) (V : Value → Hp → Prop), Work A P X rd r v → R.I v → a < P.l.length → b ∈ nbP P a → (∀ A', Keep (WK r) A A' → Work A' P X rd r (R.step a b v) → V (.bool (R.fl a b v)) A') → WF AP KL g 74 [ptrV X, .int .i64 a, .int .i64 b] A V)
    {A0 : Hp} {c N : Nat} {v0 : Nat → List Int} {sv : Value} {f0 : Bool} (hc : c < P.l.length) (hN : ∀ i, i < 9 → r i < N) (hN0 : N ≤ A0.n)
    (hQ : ∀ T' A' v f, Keep (WK r) A0 A' → Work A' P X rd r v → Rnd R v0 v f → (f = false → f0 = false) → (f = false → Shut R P v0 c) → tget T' 0 = ptrV X → tget T' 6 = .bool f → tget T' 7 = .int .i64 c → Q (.exit 6) ⟨T', D, A'⟩) :
    ∀ (k i : Nat) (T : List Value) (A : Hp) (v : Nat → List Int) (f : Bool), i + k = (refN P c).length → Keep (WK r) A0 A → AccS N A 1 (ints ((refN P c).map fun (x : Nat) => (x : Int))) sv → Work A P X rd r v → Rnd R v0 v f → (f = false → f0 = false) → (f = false → ∀ j (h : j < (refN P c).length), j < i → R.step (refN P c)[j] c v0 = v0) →
      tget T 0 = ptrV X → tget T 6 = .bool f → tget T 7 = .int .i64 c → tget T 8 = sv → tget T 9 = .int .i64 i → W AP KL g rdd (.loop body52k) ⟨T, D, A⟩ Q := by
  have hl4 := refN_len (P := P) (c := c)
  intro k
  induction k with
  | zero =>
    intro i T A v f hi hk hacc hW hr hm hs t0 tf tc tn tk
    have e : i = (refN P c).length := by omega
    have hlen := hacc.lenI (n := (refN P c).length) (by simp) (by decide)
    rw [W_loop]
    simp (disch := as_aux_lemma => first | omega | simp only [hDs] <;> omega | simp [isCell]) [hRs, takeMarks, resA, resAll, resOne, Value.cells, body52k, tn, tk, hlen, show ¬ (i : Int) < ((refN P c).length : Int) by omega]
    refine hQ _ A v f hk hW hr hm (fun hf a ha => ?_) (by simp [t0]) (by simp [tf]) (by simp [tc])
    obtain ⟨j, hj, rfl⟩ := List.mem_iff_getElem.1 ha
    exact hs hf j hj (by omega)
  | succ k ih =>
    intro i T A v f hi hk hacc hW hr hm hs t0 tf tc tn tk
    have hil : i < (refN P c).length := by omega
    have hlen := hacc.lenI (n := (refN P c).length) (by simp) (by decide)
    obtain ⟨y, hsl, hy⟩ := hacc.someOf (n := (refN P c).length) (i := i) (by simp) hil (by decide)
    obtain ⟨a, ha⟩ : ∃ a, a = (refN P c)[i] := ⟨_, rfl⟩
    have hmem : a ∈ refN P c := by rw [ha]; exact List.getElem_mem hil
    obtain ⟨hal, hab⟩ := (refN_mem hP hc).1 hmem
    have hgi : gi ((refN P c).map fun (x : Nat) => (x : Int)) i = (a : Int) := by rw [gi_eq (by simpa using hil)]; simp [ha]
    rw [hsl] at tn hlen
    rw [W_loop]
    simp (disch := as_aux_lemma => first | omega | simp only [hDs] <;> omega | simp [isCell]) [hRs, takeMarks, resA, resAll, resOne, Value.cells, body52k, t0, tc, tn, tk, show (i : Int) < ((refN P c).length : Int) by omega, idxSA_ok, hy, ints_get (show i < ((refN P c).map fun (x : Nat) => (x : Int)).length by rw [List.length_map]; exact hil), hgi]
    refine hcall A v a c _ hW hr.i hal hab fun A' k' hW' => ?_
    obtain ⟨q1, q2⟩ := hr.step hR hal hab
    have hacc' : AccS N A' 1 (ints ((refN P c).map fun (x : Nat) => (x : Int))) sv := by
      rcases hacc with h | ⟨b, m, h1, h2, h3, h4, h5⟩
      · exact .inl h
      · exact .inr ⟨b, m, h1, by rw [k'.2 b (Hp.lt_of_get h2) (by rintro ⟨j, hj, e⟩; have := hN j hj; omega)]; exact h2, h3, h4, h5⟩
    have hs' : (f || R.fl a c v) = false → ∀ j (h : j < (refN P c).length), j < i + 1 → R.step (refN P c)[j] c v0 = v0 := by
      intro e j hj hji
      by_cases ej : j = i
      · subst ej
        rw [← ha]; exact q2 e
      · exact hs (by cases f <;> simp_all) j hj (by omega)
    cases hf : R.fl a c v
    · rw [hf] at q1 hs'
      rw [Bool.or_false] at q1 hs'
      simp (disch := as_aux_lemma => first | omega | simp only [hDs] <;> omega | simp [isCell]) [hRs, takeMarks, resA, resAll, resOne, Value.cells, tk]
      refine ih (i + 1) _ A' _ f (by omega) (hk.trans k') hacc' hW' q1 hm hs' ?_ ?_ ?_ ?_ ?_
      · simp [t0]
      · simp [tf]
      · simp [tc]
      · simp [tn, hsl]
      · simp [wrId (n := (i : Int) + 1) (by omega) (by omega)]
    · rw [hf] at q1 hs'
      rw [Bool.or_true] at q1 hs'
      simp (disch := as_aux_lemma => first | omega | simp only [hDs] <;> omega | simp [isCell]) [hRs, takeMarks, resA, resAll, resOne, Value.cells, tk]
      refine ih (i + 1) _ A' _ true (by omega) (hk.trans k') hacc' hW' q1 (fun e => absurd e (by decide)) hs' ?_ ?_ ?_ ?_ ?_
      · simp [t0]
      · simp
      · simp [tc]
      · simp [tn, hsl]
      · simp [wrId (n := (i : Int) + 1) (by omega) (by omega)]
theorem loop52c (hP : POk P) (hR : RdOk R P) (hcall : ∀ (A : Hp) (v : Nat → List Int) (a b : Nat) (V : Value → Hp → Prop), Work A P X rd r v → R.I v → a < P.l.length → b ∈ nbP P a → (∀ A', Keep (WK r) A A' → Work A' P X rd r (R.step a b v) → V (.bool (R.fl a b v)) A') → WF AP KL g 74 [ptrV X, .int .i64 a, .int .i64 b] A V)
    {A0 : Hp} {v0 : Nat → List Int} (hg : g ≤ A0.n)
    (hQ : ∀ T' A' v f, Keep (WK r) A0 A' → Work A' P X rd r v → Rnd R v0 v f → (f = false → ∀ c, c < P.l.length → Shut R P v0 c) → tget T' 0 = ptrV X → tget T' 6 = .bool f → Q (.exit 4) ⟨T', D, A'⟩) :
    ∀ (k i : Nat) (T : List Value) (A : Hp) (v : Nat → List Int) (f : Bool), i + k = P.l.length → Keep (WK r) A0 A → Work A P X rd r v → Rnd R v0 v f → (f = false → ∀ c, c < i → Shut R P v0 c) →
      tget T 0 = ptrV X → tget T 6 = .bool f → tget T 7 = .int .i64 i → W AP KL g rdd (.loop body52c) ⟨T, D, A⟩ Q := by
  have hsm := hP.small
  obtain ⟨hw, hh, _, _⟩ := check_parts hP.chk
  intro k
  induction k with
  | zero =>
    intro i T A v f hi hk hW hr hs t0 tf tc
    have e : i = P.l.length := by omega
    have hX := hW.hx
    rw [W_loop]
    simp (disch := as_aux_lemma => first | omega | simp only [hDs] <;> omega | simp [isCell]) [hRs, takeMarks, resA, resAll, resOne, Value.cells, body52c, t0, tc, ptrV, hX, wkCells, rowS2, show ¬ (i : Int) < (P.l.length : Int) by omega]
    exact hQ _ A v f hk hW hr (fun hf c hc => hs hf c (by omega)) (by simp [t0, ptrV]) (by simp [tf])
  | succ k ih =>
    intro i T A v f hi hk hW hr hs t0 tf tc
    have hil : i < P.l.length := by omega
    have hX := hW.hx
    have hkn := hk.1
    rw [W_loop]
    simp (disch := as_aux_lemma => first | omega | simp only [hDs] <;> omega | simp [isCell]) [hRs, takeMarks, resA, resAll, resOne, Value.cells, body52c, t0, tc, ptrV, hX, wkCells, rowS2, show (i : Int) < (P.l.length : Int) by omega]
    refine w73 (w := P.w) (h := P.h) (s := P.s) (sl := P.sl) (c := i) hw hh (by omega) (by omega) fun A1 sv k1 hacc => ?_
    rw [refNb_nat hP hil] at hacc
    simp (disch := as_aux_lemma => first | omega | simp only [hDs] <;> omega | simp [isCell]) [hRs, takeMarks, resA, resAll, resOne, Value.cells]
    refine loop52k (A0 := A1) (c := i) (N := A.n) (v0 := v0) (sv := sv) hP hR hcall hil (fun j hj => Hp.lt_of_get (hW.hv j hj)) k1.1 (f0 := f) (fun T' A2 v2 f2 k2 hW2 hr2 hm2 hs2 p0 pf pc => ?_) (refN P i).length 0 _ A1 v f (by omega) (Keep.refl _ _) hacc (hW.ext k1) hr id (fun _ j _ hj => by omega) ?_ ?_ ?_ ?_ ?_
    · simp (disch := as_aux_lemma => first | omega | simp only [hDs] <;> omega | simp [isCell]) [hRs, takeMarks, resA, resAll, resOne, Value.cells, pc]
      refine ih (i + 1) _ A2 v2 f2 (by omega) ((hk.trans (k1.keep _)).trans k2) hW2 hr2 ?_ ?_ ?_ ?_
      · intro hf c hc
        by_cases e : c = i
        · rw [e]; exact hs2 hf
        · exact hs (hm2 hf) c (by omega)
      · simp [p0]
      · simp [pf]
      · simp [wrId (n := (i : Int) + 1) (by omega) (by omega)]
    all_goals simp [t0, tf, tc, ptrV]
end
def body53o : ACode := (.seq
 (.seq
 (.ops [
oM 88 3])
 (.cond (.t 88)
 .skip
 (.exit 2)))
 (.block 3
 (.seq
 (.ops [
oP 3 (.move (.k (.bool false)))])
 (.seq
 (.ops [
oP 4 (.move (oK 0))])
 (.block 4
 (.loop
 body53c))))))
section
variable {g : Nat} {P : Par} {X rd : Nat} {r : Nat → Nat} {R : Rd} {D : List Nat} {rdd : Option Nat} {Q : Ex → St → Prop}
theorem loop53k (hP : POk P) (hR : RdOk R P) (hcall : ∀ (A : Hp) (v : Nat → List Int) (a b : Nat) (V : Value → Hp → Prop), Work A P X rd r v → R.I v → a < P.l.length → b ∈ nbP P a → (∀ A', Keep (WK r) A A' → Work A' P X rd r (R.step a b v) → V (.bool (R.fl a b v)) A') → WF AP KL g 77 [ptrV X, .int .i64 a, .int .i64 b] A V)
    {A0 : Hp} {c N : Nat} {v0 : Nat → List Int} {sv : Value} {f0 : Bool} (hc : c < P.l.length) (hN : ∀ i, i < 9 → r i < N) (hN0 : N ≤ A0.n)
    (hQ : ∀ T' A' v f, Keep (WK r) A0 A' → Work A' P X rd r v → Rnd R v0 v f → (f = false → f0 = false) → (f = false → Shut R P v0 c) → tget T' 0 = ptrV X → tget T' 3 = .bool f → tget T' 4 = .int .i64 c → Q (.exit 6) ⟨T', D, A'⟩) :
    ∀ (k i : Nat) (T : List Value) (A : Hp) (v : Nat → List Int) (f : Bool), i + k = (refN P c).length → Keep (WK r) A0 A → AccS N A 1 (ints ((refN P c).map fun (x : Nat) => (x : Int))) sv → Work A P X rd r v → Rnd R v0 v f → (f = false → f0 = false) → (f = false → ∀ j (h : j < (refN P c).length), j < i → R.step (refN P c)[j] c v0 = v0) →
      tget T 0 = ptrV X → tget T 3 = .bool f → tget T 4 = .int .i64 c → tget T 5 = sv → tget T 6 = .int .i64 i → W AP KL g rdd (.loop body53k) ⟨T, D, A⟩ Q := by
  have hl4 := refN_len (P := P) (c := c)
  intro k
  induction k with
  | zero =>
    intro i T A v f hi hk hacc hW hr hm hs t0 tf tc tn tk
    have e : i = (refN P c).length := by omega
    have hlen := hacc.lenI (n := (refN P c).length) (by simp) (by decide)
    rw [W_loop]
    simp (disch := as_aux_lemma => first | omega | simp only [hDs] <;> omega | simp [isCell]) [hRs, takeMarks, resA, resAll, resOne, Value.cells, body53k, tn, tk, hlen, show ¬ (i : Int) < ((refN P c).length : Int) by omega]
    refine hQ _ A v f hk hW hr hm (fun hf a ha => ?_) (by simp [t0]) (by simp [tf]) (by simp [tc])
    obtain ⟨j, hj, rfl⟩ := List.mem_iff_getElem.1 ha
    exact hs hf j hj (by omega)
  | succ k ih =>
    intro i T A v f hi hk hacc hW hr hm hs t0 tf tc tn tk
    have hil : i < (refN P c).length := by omega
    have hlen := hacc.lenI (n := (refN P c).length) (by simp) (by decide)
    obtain ⟨y, hsl, hy⟩ := hacc.someOf (n := (refN P c).length) (i := i) (by simp) hil (by decide)
    obtain ⟨a, ha⟩ : ∃ a, a = (refN P c)[i] := ⟨_, rfl⟩
    have hmem : a ∈ refN P c := by rw [ha]; exact List.getElem_mem hil
    obtain ⟨hal, hab⟩ := (refN_mem hP hc).1 hmem
    have hgi : gi ((refN P c).map fun (x : Nat) => (x : Int)) i = (a : Int) := by rw [gi_eq (by simpa using hil)]; simp [ha]
    rw [hsl] at tn hlen
    rw [W_loop]
    simp (disch := as_aux_lemma => first | omega | simp only [hDs] <;> omega | simp [isCell]) [hRs, takeMarks, resA, resAll, resOne, Value.cells, body53k, t0, tc, tn, tk, show (i : Int) < ((refN P c).length : Int) by omega, idxSA_ok, hy, ints_get (show i < ((refN P c).map fun (x : Nat) => (x : Int)).length by rw [List.length_map]; exact hil), hgi]
    refine hcall A v a c _ hW hr.i hal hab fun A' k' hW' => ?_
    obtain ⟨q1, q2⟩ := hr.step hR hal hab
    have hacc' : AccS N A' 1 (ints ((refN P c).map fun (x : Nat) => (x : Int))) sv := by
      rcases hacc with h | ⟨b, m, h1, h2, h3, h4, h5⟩
      · exact .inl h
      · exact .inr ⟨b, m, h1, by rw [k'.2 b (Hp.lt_of_get h2) (by rintro ⟨j, hj, e⟩; have := hN j hj; omega)]; exact h2, h3, h4, h5⟩
    have hs' : (f || R.fl a c v) = false → ∀ j (h : j < (refN P c).length), j < i + 1 → R.step (refN P c)[j] c v0 = v0 := by
      intro e j hj hji
      by_cases ej : j = i
      · subst ej
        rw [← ha]; exact q2 e
      · exact hs (by cases f <;> simp_all) j hj (by omega)
    cases hf : R.fl a c v
    · rw [hf] at q1 hs'
      rw [Bool.or_false] at q1 hs'
      simp (disch := as_aux_lemma => first | omega | simp only [hDs] <;> omega | simp [isCell]) [hRs, takeMarks, resA, resAll, resOne, Value.cells, tk]
      refine ih (i + 1) _ A' _ f (by omega) (hk.trans k') hacc' hW' q1 hm hs' ?_ ?_ ?_ ?_ ?_
      · simp [t0]
      · simp [tf]
      · simp [tc]
      · simp [tn, hsl]
      · simp [wrId (n := (i : Int) + 1) (by omega) (by omega)]
    · rw [hf] at q1 hs'
      rw [Bool.or_true] at q1 hs'
      simp (disch := as_aux_lemma => first | omega | simp only [hDs] <;> omega | simp [isCell]) [hRs, takeMarks, resA, resAll, resOne, Value.cells, tk]
      refine ih (i + 1) _ A' _ true (by omega) (hk.trans k') hacc' hW' q1 (fun e => absurd e (by decide)) hs' ?_ ?_ ?_ ?_ ?_
      · simp [t0]
      · simp
      · simp [tc]
      · simp [tn, hsl]
      · simp [wrId (n := (i : Int) + 1) (by omega) (by omega)]
theorem loop53c (hP : POk P) (hR : RdOk R P) (hcall : ∀ (A : Hp) (v : Nat → List Int) (a b : Nat) (V : Value → Hp → Prop), Work A P X rd r v → R.I v → a < P.l.length → b ∈ nbP P a → (∀ A', Keep (WK r) A A' → Work A' P X rd r (R.step a b v) → V (.bool (R.fl a b v)) A') → WF AP KL g 77 [ptrV X, .int .i64 a, .int .i64 b] A V)
    {A0 : Hp} {v0 : Nat → List Int} (hg : g ≤ A0.n)
    (hQ : ∀ T' A' v f, Keep (WK r) A0 A' → Work A' P X rd r v → Rnd R v0 v f → (f = false → ∀ c, c < P.l.length → Shut R P v0 c) → tget T' 0 = ptrV X → tget T' 3 = .bool f → Q (.exit 4) ⟨T', D, A'⟩) :
    ∀ (k i : Nat) (T : List Value) (A : Hp) (v : Nat → List Int) (f : Bool), i + k = P.l.length → Keep (WK r) A0 A → Work A P X rd r v → Rnd R v0 v f → (f = false → ∀ c, c < i → Shut R P v0 c) →
      tget T 0 = ptrV X → tget T 3 = .bool f → tget T 4 = .int .i64 i → W AP KL g rdd (.loop body53c) ⟨T, D, A⟩ Q := by
  have hsm := hP.small
  obtain ⟨hw, hh, _, _⟩ := check_parts hP.chk
  intro k
  induction k with
  | zero =>
    intro i T A v f hi hk hW hr hs t0 tf tc
    have e : i = P.l.length := by omega
    have hX := hW.hx
    rw [W_loop]
    simp (disch := as_aux_lemma => first | omega | simp only [hDs] <;> omega | simp [isCell]) [hRs, takeMarks, resA, resAll, resOne, Value.cells, body53c, t0, tc, ptrV, hX, wkCells, rowS2, show ¬ (i : Int) < (P.l.length : Int) by omega]
    exact hQ _ A v f hk hW hr (fun hf c hc => hs hf c (by omega)) (by simp [t0, ptrV]) (by simp [tf])
  | succ k ih =>
    intro i T A v f hi hk hW hr hs t0 tf tc
    have hil : i < P.l.length := by omega
    have hX := hW.hx
    have hkn := hk.1
    rw [W_loop]
    simp (disch := as_aux_lemma => first | omega | simp only [hDs] <;> omega | simp [isCell]) [hRs, takeMarks, resA, resAll, resOne, Value.cells, body53c, t0, tc, ptrV, hX, wkCells, rowS2, show (i : Int) < (P.l.length : Int) by omega]
    refine w73 (w := P.w) (h := P.h) (s := P.s) (sl := P.sl) (c := i) hw hh (by omega) (by omega) fun A1 sv k1 hacc => ?_
    rw [refNb_nat hP hil] at hacc
    simp (disch := as_aux_lemma => first | omega | simp only [hDs] <;> omega | simp [isCell]) [hRs, takeMarks, resA, resAll, resOne, Value.cells]
    refine loop53k (A0 := A1) (c := i) (N := A.n) (v0 := v0) (sv := sv) hP hR hcall hil (fun j hj => Hp.lt_of_get (hW.hv j hj)) k1.1 (f0 := f) (fun T' A2 v2 f2 k2 hW2 hr2 hm2 hs2 p0 pf pc => ?_) (refN P i).length 0 _ A1 v f (by omega) (Keep.refl _ _) hacc (hW.ext k1) hr id (fun _ j _ hj => by omega) ?_ ?_ ?_ ?_ ?_
    · simp (disch := as_aux_lemma => first | omega | simp only [hDs] <;> omega | simp [isCell]) [hRs, takeMarks, resA, resAll, resOne, Value.cells, pc]
      refine ih (i + 1) _ A2 v2 f2 (by omega) ((hk.trans (k1.keep _)).trans k2) hW2 hr2 ?_ ?_ ?_ ?_
      · intro hf c hc
        by_cases e : c = i
        · rw [e]; exact hs2 hf
        · exact hs (hm2 hf) c (by omega)
      · simp [p0]
      · simp [pf]
      · simp [wrId (n := (i : Int) + 1) (by omega) (by omega)]
    all_goals simp [t0, tf, tc, ptrV]
end
end Go.Ab.Wave
namespace Go.Ab.Wave
open Go Go.Ab
section
variable {g : Nat} {P : Par} {X rd : Nat} {r : Nat → Nat} {R : Rd} {D : List Nat} {rdd : Option Nat} {Q : Ex → St → Prop}
theorem loop52o (hP : POk P) (hR : RdOk R P) (hcall : ∀ (A : Hp) (v : Nat → List Int) (a b : Nat) (V : Value → Hp → Prop), Work A P X rd r v → R.I v → a < P.l.length → b ∈ nbP P a → (∀ A', Keep (WK r) A A' → Work A' P X rd r (R.step a b v) → V (.bool (R.fl a b v)) A') → WF AP KL g 74 [ptrV X, .int .i64 a, .int .i64 b] A V)
    {A0 : Hp} (hg : g ≤ A0.n)
    (hQ : ∀ T' A' v, Keep (WK r) A0 A' → Work A' P X rd r v → R.I v → (∀ c, c < P.l.length → Shut R P v c) → Q (.exit 2) ⟨T', D, A'⟩) :
    ∀ (m : Nat) (T : List Value) (A : Hp) (v : Nat → List Int) (f : Bool), Keep (WK r) A0 A → Work A P X rd r v → R.I v → (f = true → R.pot v < m) → (f = false → ∀ c, c < P.l.length → Shut R P v c) →
      tget T 0 = ptrV X → tget T 6 = .bool f → W AP KL g rdd (.loop body52o) ⟨T, D, A⟩ Q := by
  intro m
  induction m with
  | zero =>
    intro T A v f hk hW hI hp hs t0 tf
    have e : f = false := by cases f; rfl; exact absurd (hp rfl) (by omega)
    subst e
    rw [W_loop]
    simp (disch := as_aux_lemma => first | omega | simp only [hDs] <;> omega | simp [isCell]) [hRs, takeMarks, resA, resAll, resOne, Value.cells, body52o, tf]
    exact hQ _ A v hk hW hI (hs rfl)
  | succ m ih =>
    intro T A v f hk hW hI hp hs t0 tf
    cases f
    · rw [W_loop]
      simp (disch := as_aux_lemma => first | omega | simp only [hDs] <;> omega | simp [isCell]) [hRs, takeMarks, resA, resAll, resOne, Value.cells, body52o, tf]
      exact hQ _ A v hk hW hI (hs rfl)
    · have hkn := hk.1
      rw [W_loop]
      simp (disch := as_aux_lemma => first | omega | simp only [hDs] <;> omega | simp [isCell]) [hRs, takeMarks, resA, resAll, resOne, Value.cells, body52o, tf, t0]
      refine loop52c (A0 := A) (v0 := v) hP hR hcall (by omega) (fun T' A' v' f' k' hW' hr' hs' p0 pf => ?_) P.l.length 0 _ A v false (by omega) (Keep.refl _ _) hW ⟨hI, fun _ => rfl, fun e => absurd e (by decide)⟩ (fun _ c hc => by omega) ?_ ?_ ?_
      · simp (disch := as_aux_lemma => first | omega | simp only [hDs] <;> omega | simp [isCell]) [hRs, takeMarks, resA, resAll, resOne, Value.cells]
        refine ih _ A' v' f' (hk.trans k') hW' hr'.i (fun e => ?_) (fun e c hc => ?_) p0 pf
        · have := hr'.d e
          have := hp rfl
          omega
        · rw [hr'.q e]; exact hs' e c hc
      all_goals simp [t0]
end
section
variable {g : Nat} {P : Par} {X rd : Nat} {r : Nat → Nat} {R : Rd} {D : List Nat} {rdd : Option Nat} {Q : Ex → St → Prop}
theorem loop53o (hP : POk P) (hR : RdOk R P) (hcall : ∀ (A : Hp) (v : Nat → List Int) (a b : Nat) (V : Value → Hp → Prop), Work A P X rd r v → R.I v → a < P.l.length → b ∈ nbP P a → (∀ A', Keep (WK r) A A' → Work A' P X rd r (R.step a b v) → V (.bool (R.fl a b v)) A') → WF AP KL g 77 [ptrV X, .int .i64 a, .int .i64 b] A V)
    {A0 : Hp} (hg : g ≤ A0.n)
    (hQ : ∀ T' A' v, Keep (WK r) A0 A' → Work A' P X rd r v → R.I v → (∀ c, c < P.l.length → Shut R P v c) → Q (.exit 2) ⟨T', D, A'⟩) :
    ∀ (m : Nat) (T : List Value) (A : Hp) (v : Nat → List Int) (f : Bool), Keep (WK r) A0 A → Work A P X rd r v → R.I v → (f = true → R.pot v < m) → (f = false → ∀ c, c < P.l.length → Shut R P v c) →
      tget T 0 = ptrV X → tget T 3 = .bool f → W AP KL g rdd (.loop body53o) ⟨T, D, A⟩ Q := by
  intro m
  induction m with
  | zero =>
    intro T A v f hk hW hI hp hs t0 tf
    have e : f = false := by cases f; rfl; exact absurd (hp rfl) (by omega)
    subst e
    rw [W_loop]
    simp (disch := as_aux_lemma => first | omega | simp only [hDs] <;> omega | simp [isCell]) [hRs, takeMarks, resA, resAll, resOne, Value.cells, body53o, tf]
    exact hQ _ A v hk hW hI (hs rfl)
  | succ m ih =>
    intro T A v f hk hW hI hp hs t0 tf
    cases f
    · rw [W_loop]
      simp (disch := as_aux_lemma => first | omega | simp only [hDs] <;> omega | simp [isCell]) [hRs, takeMarks, resA, resAll, resOne, Value.cells, body53o, tf]
      exact hQ _ A v hk hW hI (hs rfl)
    · have hkn := hk.1
      rw [W_loop]
      simp (disch := as_aux_lemma => first | omega | simp only [hDs] <;> omega | simp [isCell]) [hRs, takeMarks, resA, resAll, resOne, Value.cells, body53o, tf, t0]
      refine loop53c (A0 := A) (v0 := v) hP hR hcall (by omega) (fun T' A' v' f' k' hW' hr' hs' p0 pf => ?_) P.l.length 0 _ A v false (by omega) (Keep.refl _ _) hW ⟨hI, fun _ => rfl, fun e => absurd e (by decide)⟩ (fun _ c hc => by omega) ?_ ?_ ?_
      · simp (disch := as_aux_lemma => first | omega | simp only [hDs] <;> omega | simp [isCell]) [hRs, takeMarks, resA, resAll, resOne, Value.cells]
        refine ih _ A' v' f' (hk.trans k') hW' hr'.i (fun e => ?_) (fun e c hc => ?_) p0 pf
        · have := hr'.d e
          have := hp rfl
          omega
        · rw [hr'.q e]; exact hs' e c hc
      all_goals simp [t0]
end
structure EndI (P : Par) (zs : List Int) (n : Nat) (va vs : List Int) : Prop where
  na : va.length = P.l.length
  ns : vs.length = P.l.length
  a : ∀ c, c < P.l.length → 0 ≤ gi va c ∧ gi va c ≤ Never
  s : ∀ c, c < P.l.length → 0 ≤ gi vs c ∧ gi vs c ≤ 200000000
  da : ∀ c, c < P.l.length → (PA P).Der (arr0 P zs n) c (gi va c)
  ds : ∀ c, c < P.l.length → (PS P).Der (str0 P zs n) c (gi vs c)
  ga : GA 1000000000 32000000 va
  pos : ∀ c, c < P.l.length → 0 < gi vs c → gi va c < Never
  ia : ∀ c, c < P.l.length → gi va c ≤ gi (arr0 P zs n) c
  is : ∀ c, c < P.l.length → gi (str0 P zs n) c ≤ gi vs c
def rankS (v : Int) : Nat := (200000000 - v).toNat
def potE (va vs : List Int) : Nat := (va.map (rankA 2300000000)).sum + (vs.map rankS).sum
theorem set_self {l : List Int} {i : Nat} {v : Int} (hi : i < l.length) (h : v = gi l i) : l.set i v = l := by
  refine gi_ext (n := l.length) (by simp) rfl fun j hj => ?_
  rw [gi_set hi]
  split
  · rename_i e; rw [h, e]
  · rfl
theorem EndI.pass {P : Par} {zs : List Int} {n : Nat} {va vs : List Int} (hP : POk P) (h : EndI P zs n va vs) {a b : Nat} (ha : a < P.l.length) (hb : b ∈ nbP P a) :
    EndI P zs n (passA P va vs a b).1 (passA P va vs a b).2 ∧ potE (passA P va vs a b).1 (passA P va vs a b).2 ≤ potE va vs ∧
    (gi (passA P va vs a b).1 b = gi va b → gi (passA P va vs a b).2 b = gi vs b → passA P va vs a b = (va, vs)) ∧
    (¬ (gi (passA P va vs a b).1 b = gi va b ∧ gi (passA P va vs a b).2 b = gi vs b) → potE (passA P va vs a b).1 (passA P va vs a b).2 < potE va vs) := by
  have hbn := nb_lt hP hb
  have hsm := hP.small
  by_cases hc : P.open a b = true ∧ gi va a < Never
  · have hcr := hP.cross (open_dep hc.1).1 (open_dep hc.1).2
    have oa := h.a a ha
    have ob := h.a b hbn
    have sa := h.s a ha
    have sb := h.s b hbn
    have hsp := spS_le hP (a := a) (b := b) sa.1
    obtain ⟨u, hu⟩ : ∃ u, u = gi va a + P.cross a b := ⟨_, rfl⟩
    obtain ⟨w, hw⟩ : ∃ w, w = (P.spS a b (gi vs a)).1 := ⟨_, rfl⟩
    have hw' : dv P.up (gi vs a * ofE P.up P.k0 P.k1) 1024 = w := hw.symm
    rw [← hw] at hsp
    have hp : passA P va vs a b = (va.set b (min (gi va b) u), vs.set b (max (gi vs b) w)) := by unfold passA; rw [if_pos hc, hw', hu]
    rw [hp]
    dsimp only
    have ba : b < va.length := by rw [h.na]; exact hbn
    have bs : b < vs.length := by rw [h.ns]; exact hbn
    have hga := h.ga a (by rw [h.na]; exact ha) hc.2
    have hfl := fin_le va
    have hfm : (fin va : Int) * 32000000 ≤ 40 * 32000000 := Int.mul_le_mul_of_nonneg_right (by rw [h.na] at hfl; omega) (by omega)
    have hun : u < Never := by unfold Never; omega
    have hA : (∀ c, c < P.l.length → (0 ≤ gi (va.set b (min (gi va b) u)) c ∧ gi (va.set b (min (gi va b) u)) c ≤ Never) ∧ (PA P).Der (arr0 P zs n) c (gi (va.set b (min (gi va b) u)) c) ∧ gi (va.set b (min (gi va b) u)) c ≤ gi va c) ∧ GA 1000000000 32000000 (va.set b (min (gi va b) u)) ∧
        ((va.set b (min (gi va b) u)).map (rankA 2300000000)).sum ≤ (va.map (rankA 2300000000)).sum ∧ (u < gi va b → ((va.set b (min (gi va b) u)).map (rankA 2300000000)).sum < (va.map (rankA 2300000000)).sum) := by
      by_cases hlt : u < gi va b
      · rw [show min (gi va b) u = u by omega]
        obtain ⟨g1, g2⟩ := GA_step (a := a) (b := b) (u := u) (RB := 2300000000) (by omega) h.ga (by rw [h.na]; exact ha) ba hc.2 (by omega) (by omega) hlt ob.2 (by rw [h.na]; omega)
        have hsum := sum_set (f := rankA 2300000000) (l := va) (i := b) (v := u) ba g2
        refine ⟨fun c hc' => ?_, g1, Nat.le_of_lt hsum, fun _ => hsum⟩
        rw [gi_set ba]
        by_cases e : c = b
        · subst e
          rw [if_pos rfl]
          refine ⟨by omega, ?_, by omega⟩
          have e2 : P.spA a c (gi va a) = (u, true) := by unfold Par.spA; rw [if_pos ⟨hc.1, by omega⟩, hu]
          have hst := Stl.Der.step (S := PA P) (vs0 := arr0 P zs n) (a := a) (b := c) (v := gi va a) ha (h.da a ha) hb (by show (P.spA a c (gi va a)).2 = true; rw [e2])
          have e3 : ((PA P).sp a c (gi va a)).1 = u := by show (P.spA a c (gi va a)).1 = u; rw [e2]
          rw [e3] at hst
          exact hst
        · rw [if_neg e]; exact ⟨h.a c hc', h.da c hc', Int.le_refl _⟩
      · rw [show min (gi va b) u = gi va b by omega, set_self ba rfl]
        exact ⟨fun c hc' => ⟨h.a c hc', h.da c hc', Int.le_refl _⟩, h.ga, Nat.le_refl _, fun e => absurd e hlt⟩
    have hS : (∀ c, c < P.l.length → (0 ≤ gi (vs.set b (max (gi vs b) w)) c ∧ gi (vs.set b (max (gi vs b) w)) c ≤ 200000000) ∧ (PS P).Der (str0 P zs n) c (gi (vs.set b (max (gi vs b) w)) c) ∧ gi vs c ≤ gi (vs.set b (max (gi vs b) w)) c) ∧
        ((vs.set b (max (gi vs b) w)).map rankS).sum ≤ (vs.map rankS).sum ∧ (gi vs b < w → ((vs.set b (max (gi vs b) w)).map rankS).sum < (vs.map rankS).sum) := by
      by_cases hlt : gi vs b < w
      · rw [show max (gi vs b) w = w by omega]
        have hsum := sum_set (f := rankS) (l := vs) (i := b) (v := w) bs (by unfold rankS; omega)
        refine ⟨fun c hc' => ?_, Nat.le_of_lt hsum, fun _ => hsum⟩
        rw [gi_set bs]
        by_cases e : c = b
        · subst e
          rw [if_pos rfl]
          refine ⟨by omega, ?_, by omega⟩
          have hst := Stl.Der.step (S := PS P) (vs0 := str0 P zs n) (a := a) (b := c) (v := gi vs a) ha (h.ds a ha) hb (by
            show (P.spS a c (gi vs a)).2 = true
            unfold Par.spS
            simp only [Bool.and_eq_true, decide_eq_true_eq]
            exact ⟨hc.1, by omega⟩)
          have e3 : ((PS P).sp a c (gi vs a)).1 = w := hw.symm
          rw [e3] at hst
          exact hst
        · rw [if_neg e]; exact ⟨h.s c hc', h.ds c hc', Int.le_refl _⟩
      · rw [show max (gi vs b) w = gi vs b by omega, set_self bs rfl]
        exact ⟨fun c hc' => ⟨h.s c hc', h.ds c hc', Int.le_refl _⟩, Nat.le_refl _, fun e => absurd e hlt⟩
    obtain ⟨hA1, hA2, hA3, hA4⟩ := hA
    obtain ⟨hS1, hS2, hS3⟩ := hS
    refine ⟨⟨by simp [h.na], by simp [h.ns], fun c hc' => (hA1 c hc').1, fun c hc' => (hS1 c hc').1, fun c hc' => (hA1 c hc').2.1, fun c hc' => (hS1 c hc').2.1, hA2, fun c hc' hpos => ?_, fun c hc' => Int.le_trans (hA1 c hc').2.2 (h.ia c hc'), fun c hc' => Int.le_trans (h.is c hc') (hS1 c hc').2.2⟩, ?_, fun e1 e2 => ?_, fun hne => ?_⟩
    · have hle := (hA1 c hc').2.2
      rw [gi_set bs] at hpos
      by_cases e : c = b
      · subst e
        rw [gi_set ba, if_pos rfl]; omega
      · rw [if_neg e] at hpos
        have := h.pos c hc' hpos
        omega
    · unfold potE; exact Nat.add_le_add hA3 hS2
    · rw [gi_set ba, if_pos rfl] at e1
      rw [gi_set bs, if_pos rfl] at e2
      rw [set_self ba e1, set_self bs e2]
    · rw [gi_set ba, if_pos rfl, gi_set bs, if_pos rfl] at hne
      unfold potE
      by_cases c1 : u < gi va b
      · have := hA4 c1; omega
      · by_cases c2 : gi vs b < w
        · have := hS3 c2; omega
        · exact absurd ⟨by omega, by omega⟩ hne
  · have hp : passA P va vs a b = (va, vs) := by unfold passA; rw [if_neg hc]
    rw [hp]
    exact ⟨h, Nat.le_refl _, fun _ _ => rfl, fun hne => absurd ⟨rfl, rfl⟩ hne⟩
theorem EndI.fin {P : Par} {zs : List Int} {n : Nat} {va vs : List Int} (hP : POk P) (hz : StartOk P zs n) (h : EndI P zs n va vs) (hq : ∀ a b, a < P.l.length → b ∈ nbP P a → passA P va vs a b = (va, vs)) :
    va = arrF P zs n ∧ vs = strF P zs n := by
  have a0 := arr0_ok hz n (Nat.le_refl _)
  have s0 := str0_ok hP hz n (Nat.le_refl _)
  have key : ∀ a b, a < P.l.length → b ∈ nbP P a → P.open a b = true → gi va a < Never → gi va b ≤ gi va a + P.cross a b ∧ (P.spS a b (gi vs a)).1 ≤ gi vs b := by
    intro a b ha hb ho hn
    have hbn := nb_lt hP hb
    have e := hq a b ha hb
    unfold passA at e
    rw [if_pos ⟨ho, hn⟩] at e
    have e1 : gi (va.set b (min (gi va b) (gi va a + P.cross a b))) b = gi va b := by rw [(Prod.mk.inj e).1]
    have e2 : gi (vs.set b (max (gi vs b) (dv P.up (gi vs a * ofE P.up P.k0 P.k1) 1024))) b = gi vs b := by rw [(Prod.mk.inj e).2]
    rw [gi_set (by rw [h.na]; exact hbn), if_pos rfl] at e1
    rw [gi_set (by rw [h.ns]; exact hbn), if_pos rfl] at e2
    refine ⟨by omega, ?_⟩
    show dv P.up (gi vs a * ofE P.up P.k0 P.k1) 1024 ≤ _
    omega
  have hFA : (PA P).FinV (arr0 P zs n) va := by
    refine ⟨⟨h.na, a0.1, h.a, h.da, fun b hb => .inl rfl, fun c hc => absurd hc List.not_mem_nil, h.ga, fun b hb => h.ia b hb, fun _ => Int.le_refl _⟩, fun c d hc hd hs => ⟨?_, fun e => by cases e⟩⟩
    obtain ⟨h1, h2, h3⟩ := spA_true (show (P.spA c d (gi va c)).2 = true from hs)
    have hcn := h.a c hc
    have := (key c d hc hd h1 (by omega)).1
    show ¬ (P.spA c d (gi va c)).1 < gi va d
    rw [h3]; omega
  have hFS : (PS P).FinV (str0 P zs n) vs := by
    refine ⟨⟨h.ns, s0.1, h.s, h.ds, fun b hb => .inl rfl, fun c hc => absurd hc List.not_mem_nil, trivial, fun b hb => ?_, fun _ => Int.le_refl _⟩, fun c d hc hd hs => ⟨?_, fun e => by cases e⟩⟩
    · show -(gi vs b) ≤ -(gi (str0 P zs n) b)
      have := h.is b hb
      omega
    · have hs' : (P.spS c d (gi vs c)).2 = true := hs
      unfold Par.spS at hs'
      simp only [Bool.and_eq_true, decide_eq_true_eq] at hs'
      have := (key c d hc hd hs'.1 (h.pos c hc hs'.2)).2
      show ¬ -(P.spS c d (gi vs c)).1 < -(gi vs d)
      omega
  exact ⟨(hFA.out (PA_mon hP)).1, (hFS.out (PS_mon hP)).1⟩
end Go.Ab.Wave
