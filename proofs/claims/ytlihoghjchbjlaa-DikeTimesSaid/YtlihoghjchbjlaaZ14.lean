/- Shapes of jobs. -/
import Derived.Test.YtlihoghjchbjlaaZ13
import Derived.Test.YtlihoghjchbjlaaZ12
set_option linter.unusedSimpArgs false
set_option linter.unusedVariables false
set_option linter.unusedSectionVars false
namespace Go.Ab.Dike
open Go Go.Ab
theorem _root_.Go.Ab.AccS.row {N n k : Nat} {A : Hp} {cs : List Value} {sv : Value} (h : AccS N A k cs sv) (hl : cs.length = n * k) (hn : 0 < n) (hk : 0 < k) : ∃ X, sv = .slice (some ⟨X, 0, some k⟩) n n ∧ A.get X = some (.cells cs false) ∧ N ≤ X := by
  rcases h with ⟨_, rfl⟩ | ⟨b, m, rfl, hb, hN, hm, _⟩
  · have := Nat.mul_pos hn hk
    simp at hl; omega
  · have : m = n := Nat.eq_of_mul_eq_mul_right hk (hm.symm.trans hl)
    subst this
    exact ⟨b, rfl, hb, hN⟩
def tset1 (S : Nat → StepT) (i : Nat) (v w : Int) (j : Nat) : StepT := if j = i then { S j with tl := v, th := w } else S j
theorem Grow.row {N n i : Nat} {A : Hp} {S : Nat → StepT} {sv : Value} (h : Grow N A n S sv) (hi : i < n) : ∃ X cells, sv = .slice (some ⟨X, 0, some 7⟩) n n ∧ A.get X = some (.cells cells false) ∧ N ≤ X ∧ cells.length = n * 7 ∧ cellAt cells (i * 7 + 2) = some (.int .i64 (S i).tl) ∧ cellAt cells (i * 7 + 3) = some (.int .i64 (S i).th) ∧
    ∀ (v w : Int) (A' : Hp), A'.get X = some (.cells (setRange (setRange cells (i * 7 + 2) [.int .i64 v]) (i * 7 + 3) [.int .i64 w]) false) → (∀ z, z < A.n → z ≠ X → A'.get z = A.get z) → Grow N A' n (tset1 S i v w) sv := by
  obtain ⟨cells, h1, h2, h3⟩ := h
  obtain ⟨X, rfl, hX, hN⟩ := h1.row h2 (by omega) (by decide)
  obtain ⟨ai, q1, _, _⟩ := h3 i hi
  refine ⟨X, cells, rfl, hX, hN, h2, q1 2 _ rfl, q1 3 _ rfl, fun v w A' hX' ho => ?_⟩
  have l1 : (setRange cells (i * 7 + 2) [.int .i64 v]).length = cells.length := setRange_length (by simp; omega)
  have l2 : (setRange (setRange cells (i * 7 + 2) [.int .i64 v]) (i * 7 + 3) [.int .i64 w]).length = cells.length := (setRange_length (by simp; omega)).trans l1
  have hat : ∀ q, (setRange (setRange cells (i * 7 + 2) [.int .i64 v]) (i * 7 + 3) [.int .i64 w])[q]? = if q = i * 7 + 3 then some (.int .i64 w) else if q = i * 7 + 2 then some (.int .i64 v) else cells[q]? := fun q => by
    rw [setRange_get (by simp; omega), setRange_get (by simp; omega)]
    simp only [List.length_singleton]
    by_cases c1 : q = i * 7 + 3
    · rw [if_pos (by omega), if_pos c1, show q - (i * 7 + 3) = 0 by omega]; rfl
    · rw [if_neg (by omega), if_neg c1]
      by_cases c2 : q = i * 7 + 2
      · rw [if_pos (by omega), if_pos c2, show q - (i * 7 + 2) = 0 by omega]; rfl
      · rw [if_neg (by omega), if_neg c2]
  refine ⟨_, .inr ⟨X, n, rfl, hX', hN, by omega, by omega⟩, by omega, fun j hj => ?_⟩
  obtain ⟨a, p1, p2, p3⟩ := h3 j hj
  have hr : ∀ z, blkOf a = some z → A'.get z = A.get z := fun z hz => ho z (p2.blk_lt hz) (fun h => p3 z hz (by rw [h]; rfl))
  by_cases hji : j = i
  · subst hji
    refine (show SSep _ _ _ j (tset1 S j v w j) from ⟨a, fun o x hx => ?_, ?_, p3⟩)
    · rw [hat]
      rw [tset1, if_pos rfl] at hx
      match o with
      | 0 => rw [if_neg (by omega), if_neg (by omega)]; exact p1 0 _ hx
      | 1 => rw [if_neg (by omega), if_neg (by omega)]; exact p1 1 _ hx
      | 2 => rw [if_neg (by omega), if_pos (by omega)]; exact hx
      | 3 => rw [if_pos (by omega)]; exact hx
      | 4 => rw [if_neg (by omega), if_neg (by omega)]; exact p1 4 _ hx
      | 5 => rw [if_neg (by omega), if_neg (by omega)]; exact p1 5 _ hx
      | 6 => rw [if_neg (by omega), if_neg (by omega)]; exact p1 6 _ hx
      | o + 7 => cases hx
    · rw [tset1, if_pos rfl]
      exact p2.keepB hr
  · refine (show SSep _ _ _ j (tset1 S i v w j) from ?_)
    rw [tset1, if_neg hji]
    refine ⟨a, fun o x hx => ?_, p2.keepB hr, p3⟩
    have := p1 o x hx
    have ho7 : o < 7 := by
      have := (List.getElem?_eq_some_iff.1 hx).1
      simpa [stepC] using this
    rw [hat, if_neg (by omega), if_neg (by omega)]; exact this
theorem Grow.same {N n : Nat} {A : Hp} {S S' : Nat → StepT} {sv : Value} (h : Grow N A n S sv) (hs : ∀ j, j < n → S j = S' j) : Grow N A n S' sv := by
  obtain ⟨cells, h1, h2, h3⟩ := h
  exact ⟨cells, h1, h2, fun j hj => hs j hj ▸ h3 j hj⟩
def lngS (J : Nat → JobT) (i : Nat) : Nat → StepT := stp J (fun j => if j < i then (J j).lo + 1 else (J j).lo) fun j => if j < i then (J j).lo + (J j).more + 2 else (J j).lo + (J j).more
theorem app_more {g k bytes m n c xc Y : Nat} {xb : _} {A : Hp} {cs new : List Value} (hY : A.get Y = some (.cells cs false)) (hcs : cs.length = m * k) (hnew : cellsAt A (n * k) (.slice xb n xc) = some new) (hl : new.length = n * k) (hcell : new.all isCell = true) (hg : g ≤ Y) (hk : 0 < k) (hr : (m + n) * bytes ≤ room ∧ m + n ≤ room) :
    ∃ Y' c' A', appendA g A k bytes (.slice (some ⟨Y, 0, some k⟩) m c) (.slice xb n xc) = some (.slice (some ⟨Y', 0, some k⟩) (m + n) c', A') ∧ A'.get Y' = some (.cells (cs ++ new) false) ∧ (∀ z, z < A.n → z ≠ Y → A'.get z = A.get z) ∧ A.n ≤ A'.n ∧ (Y' = Y ∨ A.n ≤ Y') := by
  have hYn := Hp.lt_of_get hY
  unfold appendA
  simp only [hnew]
  rw [if_pos ⟨hcell, hk⟩]
  by_cases hn : n = 0
  · subst hn
    rw [if_pos rfl]
    have : new = [] := List.eq_nil_of_length_eq_zero (by simpa using hl)
    exact ⟨Y, c, A, rfl, by rw [this, List.append_nil]; exact hY, fun _ _ _ => rfl, Nat.le_refl _, .inl rfl⟩
  · rw [if_neg hn]
    simp only [hY]
    rw [if_pos ⟨hg, hr.1, hr.2, trivial⟩, if_pos (by omega)]
    refine ⟨A.n, m + n, (A.set Y none).push (.cells (cs ++ new) false), by simp, by rw [get_push_eq (by simp)], fun z hz hzY => ?_, by simp, .inr (Nat.le_refl _)⟩
    rw [get_push_old (by simp; omega), get_set_ne hYn hzY]
theorem resl_from1 {b k n i : Nat} (h : i < n) : resliceA k (.slice (some ⟨b, 0, some k⟩) n n) (some ((i : Int) + 1)) (fun m => some (m : Int)) = some (.slice (some ⟨b, (i + 1) * k, some k⟩) (n - (i + 1)) (n - (i + 1))) := by
  simp only [resliceA]
  rw [if_pos ⟨trivial, by omega, by omega, by omega⟩]
  congr 3
  all_goals first | omega | skip
  · congr 2
    rw [show ((i : Int) + 1).toNat = i + 1 by omega]; omega
def pP120 : ACode := (.seq
 (.ops [
oM 216 14,
oP 217 (.len (.t 216)),
oC 218 .gtr 217 0])
 (.cond (.t 218)
 (.seq
 (.ops [
oM 219 5,
oP 220 (.toInt .i64 (.t 219)),
oM 221 14,
oP 222 (.len (.t 221)),
oB 223 .rem 220 222,
oM 34 223])
 (.ops [
oP 224 (.slit 0 2 [.int .i64 0, .int .i64 0] []),
oM 225 14,
oM 226 34,
oP 227 (.reslice (.t 225) none (some (.t 226)) 2),
oP 228 (.append (.t 224) (.t 227) 2 16),
oM 229 14,
oM 230 34,
oC 231 .add 230 1,
oP 232 (.reslice (.t 229) (some (.t 231)) none 2),
oP 233 (.append (.t 228) (.t 232) 2 16),
oM 14 233]))
 .skip))
section
variable {g : Nat} {rd : Option Nat} {T : List Value} {D : List Nat} {A : Hp} {Q : Ex → St → Prop} {V : Value → Hp → Prop}
theorem loop120d {N n : Nat} {A0 : Hp} {J : Nat → JobT} {sv : Value} (hn : n ≤ 20) (hJ : ∀ i, JobOk (J i)) (hg : g ≤ N) (hNA : N ≤ A0.n)
    (hQ : ∀ T' A', KeepT [5, 14, 15, 16, 17, 32] T T' → Grow N A' n (lngS J n) sv → A0.n ≤ A'.n → (∀ z, z < N → A'.get z = A0.get z) → Q (.exit 6) ⟨T', D, A'⟩) (t32 : tget T 32 = sv) :
    ∀ (r i : Nat) {T1 : List Value} {A : Hp}, i + r = n → KeepT [5, 14, 15, 16, 17, 32] T T1 → tget T1 191 = .int .i64 n → tget T1 192 = .int .i64 i → Grow N A n (lngS J i) sv → A0.n ≤ A.n → (∀ z, z < N → A.get z = A0.get z) → W AP KL g rd (.loop body120d) ⟨T1, D, A⟩ Q := by
  intro r
  induction r with
  | zero =>
    intro i T1 A hir hk t191 t192 hG hA ho
    have : i = n := by omega
    subst this
    rw [W_loop]
    simp (disch := as_aux_lemma => first | omega | simp only [hDs] <;> omega | simp [isCell]) [hRs, takeMarks, resA, resAll, resOne, Value.cells, body120d, t191, t192]
    exact hQ _ _ (hk.trans (by simp)) hG hA ho
  | succ r ih =>
    intro i T1 A hir hk t191 t192 hG hA ho
    have u32 := (hk.at 32 rfl).trans t32
    obtain ⟨X, cells, rfl, hX, hN, hl, c2, c3, hset⟩ := hG.row (i := i) (by omega)
    have hXn := Hp.lt_of_get hX
    obtain ⟨⟨l0, l1⟩, ⟨m0, m1⟩, _⟩ := hJ i
    have ea : (lngS J i i).tl = (J i).lo := by show (if i < i then _ else _) = _; rw [if_neg (by omega)]
    have eb : (lngS J i i).th = (J i).lo + (J i).more := by show (if i < i then _ else _) = _; rw [if_neg (by omega)]
    rw [ea] at c2
    rw [eb] at c3
    have e1 := wrId (n := (i : Int) + 1) (by omega) (by omega)
    have e2 := wrId (n := (J i).lo + 1) (by omega) (by omega)
    have e3 := wrId (n := (J i).lo + (J i).more + 2) (by omega) (by omega)
    have c3' : cellAt (setRange cells (i * 7 + 2) [.int .i64 ((J i).lo + 1)]) (i * 7 + 3) = some (.int .i64 ((J i).lo + (J i).more)) := by
      show (setRange cells (i * 7 + 2) _)[i * 7 + 3]? = _
      rw [setRange_get (by simp; omega), if_neg (by simp)]; exact c3
    have l1' : (setRange cells (i * 7 + 2) [.int .i64 ((J i).lo + 1)]).length = n * 7 := (setRange_length (by simp; omega)).trans hl
    have st1 : storeB (some (.cells cells false)) g A X (i * 7 + 2) [.int .i64 ((J i).lo + 1)] 1 = some (undef, A.set X (some (.cells (setRange cells (i * 7 + 2) [.int .i64 ((J i).lo + 1)]) false))) := storeB_cells rfl (by omega) (by omega) rfl
    obtain ⟨B, hB⟩ : ∃ B, B = A.set X (some (.cells (setRange cells (i * 7 + 2) [.int .i64 ((J i).lo + 1)]) false)) := ⟨_, rfl⟩
    rw [← hB] at st1
    have hBn : B.n = A.n := by rw [hB]; rfl
    have hXB : B.get X = some (.cells (setRange cells (i * 7 + 2) [.int .i64 ((J i).lo + 1)]) false) := by rw [hB]; exact get_set_same hX
    have st2 : storeB (some (.cells (setRange cells (i * 7 + 2) [.int .i64 ((J i).lo + 1)]) false)) g B X (i * 7 + 3) [.int .i64 ((J i).lo + (J i).more + 2)] 1 = some (undef, B.set X (some (.cells (setRange (setRange cells (i * 7 + 2) [.int .i64 ((J i).lo + 1)]) (i * 7 + 3) [.int .i64 ((J i).lo + (J i).more + 2)]) false))) := storeB_cells rfl (by omega) (by omega) rfl
    rw [W_loop]
    simp (disch := as_aux_lemma => first | omega | simp only [hDs] <;> omega | simp [isCell]) [hRs, takeMarks, resA, resAll, resOne, Value.cells, body120d, u32, t191, t192, show ((i : Int) < n) by omega, idxSA_ok, hX, c2, e2, st1, hXB, c3', e3, st2]
    refine ih (i + 1) (by omega) (hk.trans (by simp)) (by simp [t191]) (by simp [e1, t192]) ?_ (by simp; omega) fun z hz => ?_
    · refine (hset ((J i).lo + 1) ((J i).lo + (J i).more + 2) _ (get_set_same hXB) fun z hz hzX => ?_).same fun j hj => ?_
      · rw [get_set_ne (by omega) hzX, hB, get_set_ne hXn hzX]
      · unfold tset1
        by_cases hji : j = i
        · subst hji
          rw [if_pos rfl]
          simp [lngS, stp]
        · rw [if_neg hji]
          have : (j < i) ↔ (j < i + 1) := by omega
          simp [lngS, stp, this]
    · rw [get_set_ne (by omega) (by omega), hB, get_set_ne hXn (by omega), ho z hz]
theorem pP120_ok {N nw : Nat} {ws : List Int} {wl : Value} {wo : Int} (hacc : AccS N A 2 (ints ws) wl) (hl : ws.length = nw * 2) (hnw : nw ≤ 1000) (hw : WinOk ws nw) (hwo : 0 ≤ wo ∧ wo ≤ 255) (hg : g ≤ A.n) (t5 : tget T 5 = .int .u8 wo) (t14 : tget T 14 = wl)
    (hQ : ∀ T' A' wl' ws' nw', KeepT [15, 16, 17, 32] T T' → tget T' 14 = wl' → RdS A' 2 nw' (ints ws') wl' → nw' ≤ nw → WinOk ws' nw' → WSub ws nw ws' nw' → Ext' A A' → Q .normal ⟨T', D, A'⟩) : W AP KL g rd pP120 ⟨T, D, A⟩ Q := by
  have hrd := hacc.rd (n := nw) (by rw [ints_length]; exact hl) (by decide)
  have hlen := hrd.len
  by_cases c : 0 < nw
  · obtain ⟨X, rfl, hX, hN⟩ := hacc.row (n := nw) (by rw [ints_length]; exact hl) (by omega) (by decide)
    have hXn := Hp.lt_of_get hX
    obtain ⟨d, hd⟩ : ∃ d : Nat, wo.tmod nw = (d : Int) := ⟨(wo.tmod nw).toNat, by have := Int.tmod_nonneg (nw : Int) hwo.1; omega⟩
    have hdn : d < nw := by have := Int.tmod_lt_of_pos wo (b := (nw : Int)) (by omega); omega
    have f1 := wrId (n := wo) (by omega) (by omega)
    have f2 := wrId (n := (d : Int) + 1) (by omega) (by omega)
    have hnw0 : ¬ nw = 0 := by omega
    have hzer : zeros 0 [Value.int IntKind.i64 0, Value.int IntKind.i64 0] = [] := rfl
    obtain ⟨B, hB⟩ : ∃ B, B = A.push (.cells [] false) := ⟨_, rfl⟩
    have hBn : B.n = A.n + 1 := by rw [hB]; rfl
    have eB : Ext' A B := by rw [hB]; exact Ext'.push A _
    have hYB : B.get A.n = some (.cells [] false) := by rw [hB, get_push_new]
    have hXB := eB.get hX
    have c1 : cellsAt B (d * 2) (.slice (some ⟨X, 0, some 2⟩) d nw) = some (ints (ws.take (d * 2))) := by
      simp only [cellsAt, hXB]
      rw [if_pos (by rw [ints_length]; omega)]
      simp [ints, List.map_take]
    obtain ⟨Y1, q1, B1, h1, hY1, ho1, hn1, hor1⟩ := app_more (g := g) (k := 2) (bytes := 16) (m := 0) (n := d) (c := 0) hYB rfl c1 (by rw [ints_length, List.length_take]; omega) (ints_isCell _) hg (by decide) (by unfold room; omega)
    rw [Nat.zero_add] at h1
    have hXB1 := (ho1 X (by omega) (by omega)).trans hXB
    have hY1n := Hp.lt_of_get hY1
    have c2 : cellsAt B1 ((nw - (d + 1)) * 2) (.slice (some ⟨X, (d + 1) * 2, some 2⟩) (nw - (d + 1)) (nw - (d + 1))) = some (ints (ws.drop ((d + 1) * 2))) := by
      simp only [cellsAt, hXB1]
      rw [if_pos (by rw [ints_length]; omega), List.take_of_length_le (by rw [List.length_drop, ints_length]; omega)]
      simp [ints, List.map_drop]
    obtain ⟨Y2, q2, B2, h2, hY2, ho2, hn2, hor2⟩ := app_more (g := g) (k := 2) (bytes := 16) (m := d) (n := nw - (d + 1)) (c := q1) hY1 (by rw [List.nil_append, ints_length, List.length_take]; omega) c2 (by rw [ints_length, List.length_drop]; omega) (ints_isCell _) (by omega) (by decide) (by unfold room; omega)
    have r1 := resl_some (b := X) (k := 2) (n := nw) (c := nw) (i := d) (by omega)
    have r2 := resl_from1 (b := X) (k := 2) (n := nw) (i := d) hdn
    have hm : Nat.max nw nw = nw := Nat.max_self nw
    rw [hm] at r1
    simp (disch := as_aux_lemma => first | omega | simp only [hDs] <;> omega | simp [isCell]) [hRs, takeMarks, resA, resAll, resOne, Value.cells, pP120, t5, t14, c, toIntA, f1, f2, binA_rem, hnw0, hd, slitA, hzer, fillA, ← hB, intOfA, boundA, r1, r2, h1, h2]
    trace_state
    refine hQ _ _ _ (wDrop ws d) (nw - 1) (by simp) (by simp; rfl) ?_ (by omega) (winOk_drop hw hl hdn) (wSub_drop hl hdn) ⟨by omega, fun z hz => ?_⟩
    · rw [show d + (nw - (d + 1)) = nw - 1 by omega]
      refine ⟨by rw [ints_length, wDrop, List.length_append, List.length_take, List.length_drop]; omega, .inr ⟨Y2, _, false, rfl, ?_⟩⟩
      rw [hY2, List.nil_append, ← ints_append]; rfl
    · rw [ho2 z (by omega) (by omega), ho1 z (by omega) (by omega), eB.2 z hz]
  · have : nw = 0 := by omega
    subst this
    simp (disch := as_aux_lemma => first | omega | simp only [hDs] <;> omega | simp [isCell]) [hRs, takeMarks, resA, resAll, resOne, Value.cells, pP120, t14, hlen]
    exact hQ _ _ wl ws 0 (by simp) (by simp [t14]) hrd (Nat.le_refl _) hw (WSub.refl _ _) (Ext'.refl _)
theorem loop120e {n : Nat} {EL FL : List Int} {el fl : Value} (hel : RdS A 2 n (ints EL) el) (hfl : RdS A 2 n (ints FL) fl) (hn : n ≤ 20) (hle : ∀ i, i < n → gi EL (i * 2) ≤ gi FL (i * 2) ∧ gi EL (i * 2 + 1) ≤ gi FL (i * 2 + 1))
    (hQ : ∀ T', Q (.exit 8) ⟨T', D, A⟩) (t16 : tget T 16 = el) (t35 : tget T 35 = fl) :
    ∀ (r i : Nat) {T1 : List Value}, i + r = n → KeepT [16, 35] T T1 → tget T1 266 = .int .i64 n → tget T1 267 = .int .i64 i → W AP KL g rd (.loop body120e) ⟨T1, D, A⟩ Q := by
  have l1 := hel.1
  have l2 := hfl.1
  rw [ints_length] at l1 l2
  intro r
  induction r with
  | zero =>
    intro i T1 hir hk t266 t267
    have : i = n := by omega
    subst this
    rw [W_loop]
    simp (disch := as_aux_lemma => first | omega | simp only [hDs] <;> omega | simp [isCell]) [hRs, takeMarks, resA, resAll, resOne, Value.cells, body120e, t266, t267]
    exact hQ _
  | succ r ih =>
    intro i T1 hir hk t266 t267
    have u16 := (hk.at 16 rfl).trans t16
    have u35 := (hk.at 35 rfl).trans t35
    obtain ⟨x, cx, rx, rfl, hx⟩ := hel.at (i := i) (by omega)
    obtain ⟨y, cy, ry, rfl, hy⟩ := hfl.at (i := i) (by omega)
    obtain ⟨h1, h2⟩ := hle i (by omega)
    have p1 := ints_get (l := EL) (o := i * 2) (by omega)
    have p2 := ints_get (l := EL) (o := i * 2 + 1) (by omega)
    have p3 := ints_get (l := FL) (o := i * 2) (by omega)
    have p4 := ints_get (l := FL) (o := i * 2 + 1) (by omega)
    have e1 := wrId (n := (i : Int) + 1) (by omega) (by omega)
    rw [W_loop]
    simp (disch := as_aux_lemma => first | omega | simp only [hDs] <;> omega | simp [isCell]) [hRs, takeMarks, resA, resAll, resOne, Value.cells, body120e, t266, t267, u16, u35, show ((i : Int) < n) by omega, idxSA_ok, hx, hy, p1, p2, p3, p4, show ¬ gi FL (i * 2) < gi EL (i * 2) by omega, show ¬ gi FL (i * 2 + 1) < gi EL (i * 2 + 1) by omega]
    exact ih (i + 1) (by omega) (hk.trans (by simp)) (by simp [t266]) (by simp [e1])
end
end Go.Ab.Dike
namespace Go.Ab.Dike
open Go Go.Ab
def pI120 : ACode := (.ops [
oP 12 (.move (.k (.bool false)))])
def pG120 : ACode := (.seq
 (.ops [
oM 38 0,
oP 39 (.len (.t 38)),
oC 40 .gtr 39 10,
oM 41 40,
oN 42 41 false 4,
oQ 43 41 false (.len (.t 42)),
oQ 44 41 false (.bin .gtr (.t 43) (oK 8)),
oP 45 (.pick (.t 41) (.k (.bool true)) (.t 44))])
 (.cond (.t 45)
 (.seq
 (.ops [
oA 46 121 [] false,
oM 12 46])
 .ret)
 .skip))
def pA120 : ACode := (.ops [
oM 47 0,
oA 48 143 [.t 47] false,
oM 49 4,
oA 50 144 [.t 49] false,
oM 13 48,
oM 14 50])
def pB120 : ACode := (.ops [
oM 51 1,
oP 52 (.toInt .i64 (.t 51)),
oM 53 1,
oP 54 (.toInt .i64 (.t 53)),
oM 55 2,
oP 56 (.toInt .i64 (.t 55)),
oB 57 .add 54 56,
oA 58 141 [.t 52, .t 57] false,
oP 15 (.alloc [.int .i64 0, .int .i64 0]),
oT 15 58 2])
def pC120 : ACode := (.ops [
oM 60 13,
oD 61 15 2,
oM 62 14,
oA 63 133 [.t 60, .t 61, .t 62] false,
oM 59 63,
oX 64 59 0,
oX 65 59 1,
oX 66 59 2,
oP 17 (.alloc [.int .i64 0, .int .i64 0]),
oM 16 64,
oT 17 65 2,
oM 18 66])
def pD120 : ACode := (.seq
 (.ops [
oM 67 18,
oC 68 .neq 67 0,
oM 69 68,
oN 70 69 false 16,
oQ 71 69 false (.len (.t 70)),
oN 72 69 false 13,
oQ 73 69 false (.len (.t 72)),
oQ 74 69 false (.bin .neq (.t 71) (.t 73)),
oP 75 (.pick (.t 69) (.k (.bool true)) (.t 74))])
 (.cond (.t 75)
 (.seq
 (.ops [
oP 12 (.move (.k (.bool false)))])
 .ret)
 .skip))
def pE120 : ACode := (.ops [
oM 76 1,
oP 77 (.toInt .i64 (.t 76)),
oM 78 3,
oP 79 (.toInt .i64 (.t 78)),
oM 80 2,
oP 81 (.toInt .i64 (.t 80)),
oC 82 .add 81 1,
oB 83 .rem 79 82,
oB 84 .add 77 83,
oM 19 84])
def pF120 : ACode := (.ops [
oM 85 19,
oM 20 85])
def pH120 : ACode := (.ops [
oP 21 (.move (.k (.slice none 0 0)))])
def pL120 : ACode := (.seq
 (.ops [
oM 86 0,
oP 87 (.len (.t 86)),
oP 88 (.move (oK 0))])
 (.block 0
 (.loop
 (.seq
 (.ops [
oB 89 .lss 88 87])
 (.seq
 (.cond (.t 89)
 .skip
 (.exit 0))
 (.seq
 (.block 1
 (.seq
 (.ops [
oM 90 88,
oI 91 86 88 5,
oD 92 91 5,
oP 23 (.alloc [.int .u16 0, .int .u16 0, .int .u16 0, .bool false, .int .u16 0]),
oM 22 90,
oT 23 92 5])
 (.seq
 (.ops [
oM 93 19,
oM 24 93])
 (.seq
 (.seq
 (.ops [
oM 94 13,
oM 95 22,
oI 96 94 95 7,
oF 97 96 1,
oL 98 97,
oP 99 (.len (.t 98)),
oP 100 (.move (oK 0))])
 (.block 2
 (.loop
 (.seq
 (.ops [
oB 101 .lss 100 99])
 (.seq
 (.cond (.t 101)
 .skip
 (.exit 2))
 (.seq
 (.block 3
 (.seq
 (.ops [
oM 102 100,
oI 103 98 100 1,
oL 104 103,
oM 25 102,
oM 26 104])
 (.seq
 (.seq
 (.ops [
oM 105 25,
oC 106 .eql 105 0])
 (.cond (.t 106)
 (.ops [
oM 107 21,
oM 108 26,
oI 109 107 108 1,
oL 110 109,
oM 24 110])
 .skip))
 (.ops [
oM 111 24,
oM 112 21,
oM 113 26,
oI 114 112 113 1,
oL 115 114,
oP 116 (.max [.t 111, .t 115]),
oM 24 116]))))
 (.ops [
oC 117 .add 100 1,
oM 100 117])))))))
 (.seq
 (.ops [
oF 118 23 0,
oL 119 118,
oP 120 (.toInt .i64 (.t 119)),
oF 121 23 4,
oL 122 121,
oP 123 (.toInt .i64 (.t 122)),
oF 124 23 1,
oL 125 124,
oP 126 (.toInt .i64 (.t 125)),
oC 127 .add 126 1,
oB 128 .rem 123 127,
oB 129 .add 120 128,
oM 27 129])
 (.seq
 (.ops [
oM 130 24,
oM 131 27,
oB 132 .add 130 131,
oM 28 132])
 (.seq
 (.seq
 (.ops [
oF 133 23 3,
oL 134 133])
 (.cond (.t 134)
 (.seq
 (.ops [
oP 28 (.move (oK 1099511627776))])
 (.seq
 (.ops [
oM 135 14,
oP 136 (.len (.t 135)),
oP 137 (.move (oK 0))])
 (.block 4
 (.loop
 (.seq
 (.ops [
oB 138 .lss 137 136])
 (.seq
 (.cond (.t 138)
 .skip
 (.exit 4))
 (.seq
 (.block 5
 (.seq
 (.ops [
oI 139 135 137 2,
oD 140 139 2,
oP 30 (.alloc [.int .i64 0, .int .i64 0]),
oT 30 140 2])
 (.seq
 (.ops [
oM 141 24,
oF 142 30 0,
oL 143 142,
oP 144 (.max [.t 141, .t 143]),
oM 31 144])
 (.seq
 (.ops [
oM 145 28,
oC 146 .eql 145 1099511627776,
oM 147 146,
oN 148 147 true 24,
oQ 149 147 true (.bin .lss (.t 148) (oK 1099511627776)),
oP 150 (.pick (.t 147) (.t 149) (.k (.bool false))),
oM 151 150,
oN 152 151 true 31,
oN 153 151 true 27,
oQ 154 151 true (.bin .add (.t 152) (.t 153)),
oQ 155 151 true (.fieldAddr (.t 30) 1),
oQ 156 151 true (.load (.t 155) none),
oQ 157 151 true (.bin .leq (.t 154) (.t 156)),
oP 158 (.pick (.t 151) (.t 157) (.k (.bool false)))])
 (.cond (.t 158)
 (.ops [
oM 159 31,
oM 160 27,
oB 161 .add 159 160,
oM 28 161])
 .skip)))))
 (.ops [
oC 162 .add 137 1,
oM 137 162]))))))))
 .skip))
 (.seq
 (.seq
 (.ops [
oM 163 24,
oC 164 .geq 163 1099511627776])
 (.cond (.t 164)
 (.ops [
oP 28 (.move (oK 1099511627776))])
 .skip))
 (.seq
 (.ops [
oM 165 21,
oM 166 28,
oP 167 (.slit 1 1 [.int .i64 0] [(0, .t 166)]),
oP 168 (.append (.t 165) (.t 167) 1 8),
oM 169 20,
oM 170 28,
oP 171 (.max [.t 169, .t 170]),
oM 21 168,
oM 20 171])
 (.seq
 (.ops [
oM 172 28,
oM 173 28,
oA 174 141 [.t 172, .t 173] true,
oM 175 16,
oM 176 22,
oI 177 175 176 2,
oD 178 177 2,
oA 179 140 [.t 174, .t 178] false,
oP 180 (.not (.t 179))])
 (.cond (.t 180)
 (.seq
 (.ops [
oP 12 (.move (.k (.bool false)))])
 .ret)
 .skip)))))))))))
 (.ops [
oC 181 .add 88 1,
oM 88 181])))))))
def pM120 : ACode := (.seq
 (.ops [
oM 182 20,
oM 183 20,
oA 184 141 [.t 182, .t 183] true,
oD 185 17 2,
oA 186 140 [.t 184, .t 185] false,
oP 187 (.not (.t 186))])
 (.cond (.t 187)
 (.seq
 (.ops [
oP 12 (.move (.k (.bool false)))])
 .ret)
 .skip))
def pN120 : ACode := (.ops [
oM 188 0,
oA 189 143 [.t 188] false,
oM 32 189])
def pO120 : ACode := (.seq
 (.ops [
oM 190 32,
oP 191 (.len (.t 190)),
oP 192 (.move (oK 0))])
 (.block 6
 (.loop
 (.seq
 (.ops [
oB 193 .lss 192 191])
 (.seq
 (.cond (.t 193)
 .skip
 (.exit 6))
 (.seq
 (.block 7
 (.seq
 (.ops [
oM 194 192,
oM 33 194])
 (.seq
 (.ops [
oM 195 32,
oM 196 33,
oI 197 195 196 7,
oF 198 197 2,
oF 199 198 0,
oL 200 199,
oC 201 .add 200 1,
oI 202 195 196 7,
oF 203 202 2,
oF 204 203 0,
oT 204 201 1])
 (.ops [
oM 205 32,
oM 206 33,
oI 207 205 206 7,
oF 208 207 2,
oF 209 208 1,
oL 210 209,
oC 211 .add 210 2,
oI 212 205 206 7,
oF 213 212 2,
oF 214 213 1,
oT 214 211 1]))))
 (.ops [
oC 215 .add 192 1,
oM 192 215])))))))
def pQ120 : ACode := (.ops [
oM 235 32,
oD 236 15 2,
oM 237 14,
oA 238 133 [.t 235, .t 236, .t 237] false,
oM 234 238,
oX 239 234 0,
oX 240 234 1,
oX 241 234 2,
oP 36 (.alloc [.int .i64 0, .int .i64 0]),
oM 35 239,
oT 36 240 2,
oM 18 241])
def pR120 : ACode := (.seq
 (.ops [
oM 242 18,
oC 243 .neq 242 0,
oM 244 243,
oN 245 244 false 35,
oQ 246 244 false (.len (.t 245)),
oN 247 244 false 16,
oQ 248 244 false (.len (.t 247)),
oQ 249 244 false (.bin .neq (.t 246) (.t 248)),
oP 250 (.pick (.t 244) (.k (.bool true)) (.t 249)),
oM 251 250,
oQ 252 251 false (.fieldAddr (.t 36) 0),
oQ 253 251 false (.load (.t 252) none),
oQ 254 251 false (.fieldAddr (.t 17) 0),
oQ 255 251 false (.load (.t 254) none),
oQ 256 251 false (.bin .lss (.t 253) (.t 255)),
oP 257 (.pick (.t 251) (.k (.bool true)) (.t 256)),
oM 258 257,
oQ 259 258 false (.fieldAddr (.t 36) 1),
oQ 260 258 false (.load (.t 259) none),
oQ 261 258 false (.fieldAddr (.t 17) 1),
oQ 262 258 false (.load (.t 261) none),
oQ 263 258 false (.bin .lss (.t 260) (.t 262)),
oP 264 (.pick (.t 258) (.k (.bool true)) (.t 263))])
 (.cond (.t 264)
 (.seq
 (.ops [
oP 12 (.move (.k (.bool false)))])
 .ret)
 .skip))
def pS120 : ACode := (.seq
 (.ops [
oM 265 35,
oP 266 (.len (.t 265)),
oP 267 (.move (oK 0))])
 (.block 8
 (.loop
 (.seq
 (.ops [
oB 268 .lss 267 266])
 (.seq
 (.cond (.t 268)
 .skip
 (.exit 8))
 (.seq
 (.block 9
 (.seq
 (.ops [
oM 269 267,
oM 37 269])
 (.seq
 (.ops [
oM 270 35,
oM 271 37,
oI 272 270 271 2,
oF 273 272 0,
oL 274 273,
oM 275 16,
oM 276 37,
oI 277 275 276 2,
oF 278 277 0,
oL 279 278,
oB 280 .lss 274 279,
oM 281 280,
oN 282 281 false 35,
oN 283 281 false 37,
oQ 284 281 false (.idxS (.t 282) (.t 283) 2),
oQ 285 281 false (.fieldAddr (.t 284) 1),
oQ 286 281 false (.load (.t 285) none),
oN 287 281 false 16,
oN 288 281 false 37,
oQ 289 281 false (.idxS (.t 287) (.t 288) 2),
oQ 290 281 false (.fieldAddr (.t 289) 1),
oQ 291 281 false (.load (.t 290) none),
oQ 292 281 false (.bin .lss (.t 286) (.t 291)),
oP 293 (.pick (.t 281) (.k (.bool true)) (.t 292))])
 (.cond (.t 293)
 (.seq
 (.ops [
oP 12 (.move (.k (.bool false)))])
 .ret)
 .skip))))
 (.ops [
oC 294 .add 267 1,
oM 267 294])))))))
def pU120 : ACode := (.seq
 (.ops [
oA 295 121 [] false,
oM 12 295])
 .ret)
theorem eq120 : F120 = .fn 296 [.tmp 12] (.seq pI120 (.seq pG120 (.seq pA120 (.seq pB120 (.seq pC120 (.seq pD120 (.seq pE120 (.seq pF120 (.seq pH120 (.seq pL120 (.seq pM120 (.seq pN120 (.seq pO120 (.seq pP120 (.seq pQ120 (.seq pR120 (.seq pS120 pU120))))))))))))))))) := rfl
section
variable {g : Nat} {A : Hp} {V : Value → Hp → Prop}
theorem law120 {n nw : Nat} {J : Nat → JobT} {zs : List Int} {sl cl : Value} {be mo tr wo : Int} (hsl : Jobs A n J sl) (hJ : ∀ i, JobOk (J i)) (hcl : RdS A 2 nw (kints .u16 zs) cl) (hz : ∀ j, 0 ≤ gi zs j ∧ gi zs j ≤ 65535)
    (hbe : 0 ≤ be ∧ be ≤ 65535) (hmo : 0 ≤ mo ∧ mo ≤ 65535) (htr : 0 ≤ tr ∧ tr ≤ 65535) (hwo : 0 ≤ wo ∧ wo ≤ 255) (hg : g ≤ A.n) (hV : ∀ A', V (.bool true) A') : WF AP KL g 120 [sl, .int .u16 be, .int .u16 mo, .int .u16 tr, cl, .int .u8 wo] A V := by
  rw [WF_body (show KL 120 = none from rfl) ((show AP 120 = some F120 from rfl).trans (congrArg some eq120))]
  by_cases c1 : (10 : Int) < n
  · simp (disch := as_aux_lemma => first | omega | simp only [hDs] <;> omega | simp [isCell]) [hRs, takeMarks, resA, resAll, resOne, Value.cells, pI120, pG120, hsl.len, c1]
    exact hV _
  by_cases c2 : (8 : Int) < nw
  · simp (disch := as_aux_lemma => first | omega | simp only [hDs] <;> omega | simp [isCell]) [hRs, takeMarks, resA, resAll, resOne, Value.cells, pI120, pG120, hsl.len, hcl.len, c1, c2]
    exact hV _
  simp (disch := as_aux_lemma => first | omega | simp only [hDs] <;> omega | simp [isCell]) [hRs, takeMarks, resA, resAll, resOne, Value.cells, pI120, pG120, hsl.len, hcl.len, c1, c2]
  simp (disch := as_aux_lemma => first | omega | simp only [hDs] <;> omega | simp [isCell]) [hRs, takeMarks, resA, resAll, resOne, Value.cells, pA120]
  refine w143 hsl (by omega) hJ hg fun A1 st hG e1 => ?_
  have n1 := e1.1
  simp (disch := as_aux_lemma => first | omega | simp only [hDs] <;> omega | simp [isCell]) [hRs, takeMarks, resA, resAll, resOne, Value.cells]
  refine w144 (e1.rdS hcl) (by omega) hz (by omega) fun A2 wl hwl e2 => ?_
  have n2 := e2.1
  have f1 := wrId (n := be) (by omega) (by omega)
  have f2 := wrId (n := mo) (by omega) (by omega)
  have f3 := wrId (n := be + mo) (by omega) (by omega)
  have f4 := wrId (n := tr) (by omega) (by omega)
  have f5 := wrId (n := mo + 1) (by omega) (by omega)
  have r1 := Int.tmod_nonneg (mo + 1) htr.1
  have r2 := Int.tmod_lt_of_pos tr (b := mo + 1) (by omega)
  obtain ⟨rl, hrl⟩ : ∃ rl, rl = be + tr.tmod (mo + 1) := ⟨_, rfl⟩
  have f6 := wrId (n := be + tr.tmod (mo + 1)) (by omega) (by omega)
  simp (disch := as_aux_lemma => first | omega | simp only [hDs] <;> omega | simp [isCell]) [hRs, takeMarks, resA, resAll, resOne, Value.cells, pB120, toIntA, f1, f2, f3]
  refine w141 (by omega) fun A3 e3 => ?_
  have n3 := e3.1
  simp (disch := as_aux_lemma => first | omega | simp only [hDs] <;> omega | simp [isCell]) [hRs, takeMarks, resA, resAll, resOne, Value.cells, storeB_cells, setRange, set_push_eq]
  obtain ⟨B, hB⟩ : ∃ B, B = A3.push (pairB (be, be + mo)) := ⟨_, rfl⟩
  have hB' : A3.push (.cells [.int .i64 be, .int .i64 (be + mo)] false) = B := hB.symm
  have hBn : B.n = A3.n + 1 := by rw [hB]; rfl
  have eB : Ext' A3 B := by rw [hB]; exact Ext'.push A3 _
  have hX15 : B.get A3.n = some (.cells [.int .i64 be, .int .i64 (be + mo)] false) := by rw [hB, get_push_new]; rfl
  obtain ⟨ws, hws⟩ : ∃ ws, ws = winL zs nw := ⟨_, rfl⟩
  have hW : WinOk ws nw := by rw [hws]; exact winOk_L (by omega) hz
  have hwsl : ws.length = nw * 2 := by rw [hws]; exact winL_length zs nw
  rw [← hws] at hwl
  have e2B := e3.trans eB
  have hwlB := hwl.mono e2B.2
  have hrwl : RdS B 2 nw (ints ws) wl := hwlB.rd (by rw [ints_length]; exact hwsl) (by decide)
  have hGB := hG.mono (e2.trans e2B)
  have hT : TimesOk n (fun i => (J i).lo) (fun i => (J i).lo + (J i).more) be (be + mo) := ⟨by omega, fun i => by obtain ⟨_, _, _⟩ := hJ i; omega, by omega⟩
  have hclo := close_ok (J := J) hT hW (by omega)
  have hSn : ∀ (a b : Nat → Int) i, i < n → (stp J a b i).name.size < 1000000 ∧ (stp J a b i).an < 1000000 := fun a b i hi => ⟨by show 2 < 1000000; omega, by have := aftL_length (J i).after i; show (aftL (J i).after i).length < 1000000; omega⟩
  simp (disch := as_aux_lemma => first | omega | simp only [hDs] <;> omega | simp [isCell]) [hRs, takeMarks, resA, resAll, resOne, Value.cells, pC120, hB', hX15]
  refine w133 (b := (be, be + mo)) (n := n) (S := jobS J) hGB.steps (by omega) (hSn _ _) hrwl (by omega) (by omega) fun v A4 e4 hout => ?_
  have n4 := e4.1
  rcases hout with ⟨hne, _⟩ | ⟨_, el, rfl, hel⟩
  · exact absurd hclo hne
  obtain ⟨EL, hEL⟩ : ∃ EL, EL = endsL (jobS J) (be, be + mo) ws nw n := ⟨_, rfl⟩
  rw [← hEL] at hel
  obtain ⟨a1, ha1⟩ : ∃ a1, a1 = (allS (jobS J) (be, be + mo) ws nw n).1 := ⟨_, rfl⟩
  obtain ⟨a2, ha2⟩ : ∃ a2, a2 = (allS (jobS J) (be, be + mo) ws nw n).2 := ⟨_, rfl⟩
  rw [← ha1, ← ha2]
  have hll := hel.len
  obtain ⟨pe, qe, rfl⟩ := hel.isSlice
  simp (disch := as_aux_lemma => first | omega | simp only [hDs] <;> omega | simp [isCell]) [hRs, takeMarks, resA, resAll, resOne, Value.cells, storeB_cells, setRange, set_push_eq]
  obtain ⟨C, hC⟩ : ∃ C, C = A4.push (.cells [.int .i64 a1, .int .i64 a2] false) := ⟨_, rfl⟩
  rw [← hC]
  have hCn : C.n = A4.n + 1 := by rw [hC]; rfl
  have eC : Ext' A4 C := by rw [hC]; exact Ext'.push A4 _
  have hX17 : C.get A4.n = some (.cells [.int .i64 a1, .int .i64 a2] false) := by rw [hC, get_push_new]
  have hlst := hGB.steps.len
  simp (disch := as_aux_lemma => first | omega | simp only [hDs] <;> omega | simp [isCell]) [hRs, takeMarks, resA, resAll, resOne, Value.cells, pD120, hlst]
  simp (disch := as_aux_lemma => first | omega | simp only [hDs] <;> omega | simp [isCell]) [hRs, takeMarks, resA, resAll, resOne, Value.cells, pE120, toIntA, f1, f2, f4, f5, binA_rem, f6]
  have eBC := e4.trans eC
  have e0C := (e1.trans e2).trans (e2B.trans eBC)
  have htk : ∀ i, 0 ≤ (J i).lo ∧ (J i).lo ≤ tkT J i ∧ tkT J i ≤ 100000000 := fun i => by have := tk_bd hJ i; obtain ⟨_, _, _⟩ := hJ i; omega
  have htk2 : ∀ i, 0 ≤ tkT J i ∧ tkT J i ≤ (J i).lo + (J i).more ∧ (J i).lo + (J i).more ≤ 100000000 := fun i => by have := tk_bd hJ i; obtain ⟨_, _, _⟩ := hJ i; omega
  obtain ⟨g1, g2⟩ := ends_two (J := J) (a := fun i => (J i).lo) (b := fun i => (J i).lo + (J i).more) (p := be) (q := be + mo) (ws := ws) (nw := nw) n
  obtain ⟨g3, g4⟩ := all_two (J := J) (a := fun i => (J i).lo) (b := fun i => (J i).lo + (J i).more) (p := be) (q := be + mo) (ws := ws) (nw := nw) n
  have hin : ∀ i, i < n → gi EL (i * 2) ≤ nextE (en1 J (tkT J) rl ws nw i) (J i) i (tkT J i) rl ws nw ∧ nextE (en1 J (tkT J) rl ws nw i) (J i) i (tkT J i) rl ws nw ≤ gi EL (i * 2 + 1) := fun i hi => by
    rw [← en1_at hi]
    have x1 := g1 i
    have x2 := g2 i
    have y1 := en1_mono (J := J) (t := fun i => (J i).lo) (t' := tkT J) (b := be) (b' := rl) htk (by omega) hW hW (WSub.refl _ _) n (by omega) i
    have y2 := en1_mono (J := J) (t := tkT J) (t' := fun i => (J i).lo + (J i).more) (b := rl) (b' := be + mo) htk2 (by omega) hW hW (WSub.refl _ _) n (by omega) i
    rw [hEL]
    exact ⟨by rw [← x1] at y1; exact y1, by rw [← x2] at y2; exact y2⟩
  have hall : a1 ≤ al1 J (tkT J) rl ws nw n ∧ al1 J (tkT J) rl ws nw n ≤ a2 := by
    rw [ha1, ha2]
    have y1 := al1_mono (J := J) (t := fun i => (J i).lo) (t' := tkT J) (b := be) (b' := rl) htk (by omega) hW hW (WSub.refl _ _) n (by omega)
    have y2 := al1_mono (J := J) (t := tkT J) (t' := fun i => (J i).lo + (J i).more) (b := rl) (b' := be + mo) htk2 (by omega) hW hW (WSub.refl _ _) n (by omega)
    exact ⟨by rw [← g3] at y1; exact y1, by rw [← g4] at y2; exact y2⟩
  rw [← hrl]
  simp (disch := as_aux_lemma => first | omega | simp only [hDs] <;> omega | simp [isCell]) [hRs, takeMarks, resA, resAll, resOne, Value.cells, pF120, pH120, pL120, hsl.len]
  refine loop120a (A0 := C) (n := n) (nw := nw) (J := J) (ws := ws) (EL := EL) (b := rl) (hsl.ext e0C) (hGB.mono eBC).steps (eBC.rdS hrwl) (eC.rdS hel) (by omega) hJ hW (by omega) (by omega) (by omega) hin ?_ (T := _) ?_ ?_ ?_ ?_ n 0 (dv := .slice none 0 0) (by omega) (fun _ _ => rfl) (by simp [al1]) (by simp) AccS.nil (by simp) (by simp) (by simp) (Ext'.refl _)
  · intro T5 A5 k5 t20 e5
    have n5 := e5.1
    have v0 := k5.at 0 rfl
    have v5 := k5.at 5 rfl
    have v14 := k5.at 14 rfl
    have v15 := k5.at 15 rfl
    have v16 := k5.at 16 rfl
    have v17 := k5.at 17 rfl
    simp at v0 v5 v14 v15 v16 v17
    have hX17' := e5.get hX17
    obtain ⟨lst, hlst'⟩ : ∃ lst, lst = al1 J (tkT J) rl ws nw n := ⟨_, rfl⟩
    rw [← hlst'] at t20 hall
    simp (disch := as_aux_lemma => first | omega | simp only [hDs] <;> omega | simp [isCell]) [hRs, takeMarks, resA, resAll, resOne, Value.cells, pM120, t20]
    refine w141 (by omega) fun A6 e6 => ?_
    have n6 := e6.1
    have hX176 := e6.get hX17'
    simp (disch := as_aux_lemma => first | omega | simp only [hDs] <;> omega | simp [isCell]) [hRs, takeMarks, resA, resAll, resOne, Value.cells, v17, hX176]
    refine w140 hall.1 hall.2 (Int.le_refl _) fun A7 e7 => ?_
    have n7 := e7.1
    have eC7 := e5.trans (e6.trans e7)
    simp (disch := as_aux_lemma => first | omega | simp only [hDs] <;> omega | simp [isCell]) [hRs, takeMarks, resA, resAll, resOne, Value.cells, pN120, v0]
    refine w143 (hsl.ext (e0C.trans eC7)) (by omega) hJ (by omega) fun A8 lv hG8 e8 => ?_
    have n8 := e8.1
    have hlen8 := hG8.steps.len
    simp (disch := as_aux_lemma => first | omega | simp only [hDs] <;> omega | simp [isCell]) [hRs, takeMarks, resA, resAll, resOne, Value.cells, pO120, hlen8]
    refine loop120d (N := A7.n) (n := n) (A0 := A8) (J := J) (sv := lv) (by omega) hJ (by omega) (by omega) ?_ (T := _) ?_ n 0 (by omega) (fun _ _ => rfl) (by simp) (by simp) (hG8.same fun j hj => by simp [lngS, jobS, stp]) (Nat.le_refl _) (fun _ _ => rfl)
    · intro T9 A9 k9 hG9 n9 ho9
      have x5 := k9.at 5 rfl
      have x14 := k9.at 14 rfl
      have x15 := k9.at 15 rfl
      have x16 := k9.at 16 rfl
      have x17 := k9.at 17 rfl
      have x32 := k9.at 32 rfl
      simp [v5, v14, v15, v16, v17] at x5 x14 x15 x16 x17 x32
      have e79 : Ext' A7 A9 := ⟨by omega, fun z hz => by rw [ho9 z hz, e8.2 z hz]⟩
      have eC9 := eC7.trans e79
      have hwl9 := hwlB.mono (eBC.trans eC9).2
      simp (disch := as_aux_lemma => first | omega | simp only [hDs] <;> omega | simp [isCell]) [hRs, takeMarks, resA, resAll, resOne, Value.cells]
      refine pP120_ok hwl9 hwsl (by omega) hW hwo (by omega) x5 x14 fun T10 A10 wl' ws' nw' k10 t14' hrw hle hW' hS' e10 => ?_
      have n10 := e10.1
      have y15 := k10.at 15 rfl
      have y16 := k10.at 16 rfl
      have y17 := k10.at 17 rfl
      have y32 := k10.at 32 rfl
      simp [x15, x16, x17, x32] at y15 y16 y17 y32
      have hX1510 := (eBC.trans (eC9.trans e10)).get hX15
      have hT2 : TimesOk n (fun i => (J i).lo + 1) (fun i => (J i).lo + (J i).more + 2) be (be + mo) := ⟨by omega, fun i => by obtain ⟨_, _, _⟩ := hJ i; omega, by omega⟩
      have hclo2 := close_ok (J := J) hT2 hW' (by omega)
      have hG10 : Grow A7.n A10 n (stp J (fun i => (J i).lo + 1) (fun i => (J i).lo + (J i).more + 2)) lv := (hG9.mono e10).same fun j hj => by simp [lngS, stp, hj]
      simp (disch := as_aux_lemma => first | omega | simp only [hDs] <;> omega | simp [isCell]) [hRs, takeMarks, resA, resAll, resOne, Value.cells, pQ120, y15, y32, t14', hX1510]
      refine w133 (b := (be, be + mo)) (n := n) (S := stp J (fun i => (J i).lo + 1) (fun i => (J i).lo + (J i).more + 2)) hG10.steps (by omega) (hSn _ _) hrw (by omega) (by omega) fun v A11 e11 hout => ?_
      have n11 := e11.1
      rcases hout with ⟨hne, _⟩ | ⟨_, fl, rfl, hfl⟩
      · exact absurd hclo2 hne
      obtain ⟨FL, hFL⟩ : ∃ FL, FL = endsL (stp J (fun i => (J i).lo + 1) (fun i => (J i).lo + (J i).more + 2)) (be, be + mo) ws' nw' n := ⟨_, rfl⟩
      rw [← hFL] at hfl
      obtain ⟨b1, hb1⟩ : ∃ b1, b1 = (allS (stp J (fun i => (J i).lo + 1) (fun i => (J i).lo + (J i).more + 2)) (be, be + mo) ws' nw' n).1 := ⟨_, rfl⟩
      obtain ⟨b2, hb2⟩ : ∃ b2, b2 = (allS (stp J (fun i => (J i).lo + 1) (fun i => (J i).lo + (J i).more + 2)) (be, be + mo) ws' nw' n).2 := ⟨_, rfl⟩
      rw [← hb1, ← hb2]
      obtain ⟨g1', g2'⟩ := ends_two (J := J) (a := fun i => (J i).lo + 1) (b := fun i => (J i).lo + (J i).more + 2) (p := be) (q := be + mo) (ws := ws') (nw := nw') n
      obtain ⟨g3', g4'⟩ := all_two (J := J) (a := fun i => (J i).lo + 1) (b := fun i => (J i).lo + (J i).more + 2) (p := be) (q := be + mo) (ws := ws') (nw := nw') n
      have m1 : ∀ i, 0 ≤ (J i).lo ∧ (J i).lo ≤ (J i).lo + 1 ∧ (J i).lo + 1 ≤ 100000000 := fun i => by obtain ⟨_, _, _⟩ := hJ i; omega
      have m2 : ∀ i, 0 ≤ (J i).lo + (J i).more ∧ (J i).lo + (J i).more ≤ (J i).lo + (J i).more + 2 ∧ (J i).lo + (J i).more + 2 ≤ 100000000 := fun i => by obtain ⟨_, _, _⟩ := hJ i; omega
      have hle2 : ∀ i, i < n → gi EL (i * 2) ≤ gi FL (i * 2) ∧ gi EL (i * 2 + 1) ≤ gi FL (i * 2 + 1) := fun i hi => by
        have y1 := en1_mono (J := J) (t := fun i => (J i).lo) (t' := fun i => (J i).lo + 1) (b := be) (b' := be) m1 (by omega) hW hW' hS' n (by omega) i
        have y2 := en1_mono (J := J) (t := fun i => (J i).lo + (J i).more) (t' := fun i => (J i).lo + (J i).more + 2) (b := be + mo) (b' := be + mo) m2 (by omega) hW hW' hS' n (by omega) i
        rw [← g1, ← g1'] at y1
        rw [← g2, ← g2'] at y2
        rw [hEL, hFL]
        exact ⟨y1, y2⟩
      have hab : a1 ≤ b1 ∧ a2 ≤ b2 := by
        have y1 := al1_mono (J := J) (t := fun i => (J i).lo) (t' := fun i => (J i).lo + 1) (b := be) (b' := be) m1 (by omega) hW hW' hS' n (by omega)
        have y2 := al1_mono (J := J) (t := fun i => (J i).lo + (J i).more) (t' := fun i => (J i).lo + (J i).more + 2) (b := be + mo) (b' := be + mo) m2 (by omega) hW hW' hS' n (by omega)
        rw [← g3, ← g3'] at y1
        rw [← g4, ← g4'] at y2
        rw [ha1, ha2, hb1, hb2]
        exact ⟨y1, y2⟩
      have hlf := hfl.len
      obtain ⟨pf, qf, rfl⟩ := hfl.isSlice
      simp (disch := as_aux_lemma => first | omega | simp only [hDs] <;> omega | simp [isCell]) [hRs, takeMarks, resA, resAll, resOne, Value.cells, storeB_cells, setRange, set_push_eq]
      obtain ⟨C2, hC2⟩ : ∃ C2, C2 = A11.push (.cells [.int .i64 b1, .int .i64 b2] false) := ⟨_, rfl⟩
      rw [← hC2]
      have hC2n : C2.n = A11.n + 1 := by rw [hC2]; rfl
      have eC2 : Ext' A11 C2 := by rw [hC2]; exact Ext'.push A11 _
      have hX36 : C2.get A11.n = some (.cells [.int .i64 b1, .int .i64 b2] false) := by rw [hC2, get_push_new]
      have eCC := eC9.trans (e10.trans (e11.trans eC2))
      have hX172 := eCC.get hX17
      simp (disch := as_aux_lemma => first | omega | simp only [hDs] <;> omega | simp [isCell]) [hRs, takeMarks, resA, resAll, resOne, Value.cells, pR120, y16, y17, hX36, hX172, show ¬ b1 < a1 by omega, show ¬ b2 < a2 by omega]
      simp (disch := as_aux_lemma => first | omega | simp only [hDs] <;> omega | simp [isCell]) [hRs, takeMarks, resA, resAll, resOne, Value.cells, pS120]
      refine loop120e (n := n) (EL := EL) (FL := FL) (eCC.rdS (eC.rdS hel)) (eC2.rdS hfl) (by omega) hle2 ?_ (T := _) ?_ ?_ n 0 (by omega) (fun _ _ => rfl) (by simp) (by simp)
      · intro T12
        simp (disch := as_aux_lemma => first | omega | simp only [hDs] <;> omega | simp [isCell]) [hRs, takeMarks, resA, resAll, resOne, Value.cells, pU120]
        exact hV _
      · simp [y16]
      · simp
    · simp
  · simp
  · simp
  · simp
  · simp
end
end Go.Ab.Dike
namespace Go.Ab.Dike
open Go Go.Ab
instance : Inhabited JobT := ⟨⟨0, 0, 0, false, 0⟩⟩
def tJob : Ty := .pair (.int .u16) (.pair (.int .u16) (.pair (.int .u16) (.pair .bool (.pair (.int .u16) .unit))))
theorem u16_rng {n : Int} (h : IntKind.u16.min ≤ n ∧ n ≤ IntKind.u16.max) : 0 ≤ n ∧ n ≤ 65535 := by
  have e1 : IntKind.u16.min = 0 := by decide
  have e2 : IntKind.u16.max = 65535 := by decide
  rw [e1, e2] at h; exact h
theorem u8_rng {n : Int} (h : IntKind.u8.min ≤ n ∧ n ≤ IntKind.u8.max) : 0 ≤ n ∧ n ≤ 255 := by
  have e1 : IntKind.u8.min = 0 := by decide
  have e2 : IntKind.u8.max = 255 := by decide
  rw [e1, e2] at h; exact h
theorem sh_job {rows : List (List Value)} {cs : List Value} (h : Sh rows tJob cs) : ∃ j : JobT, cs = jobC j ∧ JobOk j := by
  obtain ⟨_, _, rfl, h1, ⟨_, _, rfl, h2, ⟨_, _, rfl, h3, ⟨_, _, rfl, ⟨calm, rfl⟩, ⟨_, _, rfl, h5, rfl⟩⟩⟩⟩⟩ := h
  obtain ⟨a, rfl, ha⟩ := sh_int h1
  obtain ⟨b, rfl, hb⟩ := sh_int h2
  obtain ⟨c, rfl, _⟩ := sh_int h3
  obtain ⟨d, rfl, hd⟩ := sh_int h5
  exact ⟨⟨a, b, c, calm, d⟩, rfl, u16_rng ha, u16_rng hb, u16_rng hd⟩
theorem sh_jobs {rows : List (List Value)} {cs : List Value} (h : Sh rows (.slice tJob) cs) : ∃ (n : Nat) (J : Nat → JobT) (sl : Value), cs = [sl] ∧ Jobs (roHp rows) n J sl ∧ ∀ i, JobOk (J i) := by
  have hd : JobOk default := ⟨⟨by decide, by decide⟩, ⟨by decide, by decide⟩, ⟨by decide, by decide⟩⟩
  rcases h with rfl | ⟨x, n, q, row, rfl, hn, hrow, hlen, _, f, rfl, hf⟩
  · exact ⟨0, fun _ => default, _, rfl, ⟨[], ⟨rfl, .inl ⟨rfl, rfl⟩⟩, fun i hi => absurd hi (by omega)⟩, fun _ => hd⟩
  · obtain ⟨p, hp⟩ := Go.Deep.choose_lt (α := JobT) (p := fun i p => f i = jobC p ∧ JobOk p) fun i hi => sh_job (hf i hi).1
    refine ⟨n, fun i => if i < n then p i else default, _, rfl, ⟨(List.range n).flatMap f, ⟨hlen, .inr ⟨x, q, true, rfl, by rw [roHp_get, hrow]; rfl⟩⟩, fun i hi => ?_⟩, fun i => ?_⟩
    · simp only [if_pos hi]
      have hl : ∀ q, q < n → (f q).length = 5 := fun q hq => (hf q hq).2
      refine partA_of (vs := jobC (p i)) (fun o v ho => ?_) (by simp [jobC])
      have ho' : o < 5 := by
        have := (List.getElem?_eq_some_iff.1 ho).1
        simpa [jobC] using this
      rw [flat_get hl hi ho', (hp i hi).1]; exact ho
    · simp only
      split
      · rename_i hi; exact (hp i hi).2
      · exact hd
theorem Jobs.more {rows rows' : List (List Value)} {n : Nat} {J : Nat → JobT} {sl : Value} (h : Jobs (roHp rows) n J sl) (hm : More rows rows') : Jobs (roHp rows') n J sl := by
  obtain ⟨cells, h1, h2⟩ := h
  exact ⟨cells, h1.more hm, h2⟩
theorem sh_pairs {rows : List (List Value)} {cs : List Value} (h : Sh rows (.slice (.rep 2 (.int .u16))) cs) : ∃ (n : Nat) (zs : List Int) (sl : Value), cs = [sl] ∧ RdS (roHp rows) 2 n (kints .u16 zs) sl ∧ ∀ j, 0 ≤ gi zs j ∧ gi zs j ≤ 65535 := by
  obtain ⟨n, zs, sl, rfl, h1, _, h2⟩ := sh_slice_k (k := .u16) (e := .rep 2 (.int .u16)) rfl h
  exact ⟨n, zs, sl, rfl, h1, fun j => u16_rng (gi_rng h2 (by decide) (by decide) j)⟩
end Go.Ab.Dike
