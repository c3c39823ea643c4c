/- The shape of a wall by numbers. -/
import Derived.Test.YtlihoghjchbjlaaZ12
import Derived.Test.YtlihoghjchbjlaaZ11
set_option linter.unusedSimpArgs false
set_option linter.unusedVariables false
set_option linter.unusedSectionVars false
namespace Go.Ab.Dike
open Go Go.Ab
theorem gi_crL (S : Sec) (zs : List Int) {k : Nat} : ∀ {m : Nat}, k < m → gi (crL S zs m) (k * 2) = (holdS S zs k).wc ∧ gi (crL S zs m) (k * 2 + 1) = (holdS S zs k).sc
  | m + 1, h => by
    have hl := crL_length S zs m
    show gi (crL S zs m ++ [(holdS S zs m).wc, (holdS S zs m).sc]) _ = _ ∧ gi (crL S zs m ++ [(holdS S zs m).wc, (holdS S zs m).sc]) _ = _
    unfold gi
    simp only [List.getD_eq_getElem?_getD, List.getElem?_append]
    rcases Nat.lt_or_ge k m with h' | h'
    · have := gi_crL S zs h'
      unfold gi at this
      simp only [List.getD_eq_getElem?_getD] at this
      rw [if_pos (by omega), if_pos (by omega)]; exact this
    · have : k = m := by omega
      subst this
      rw [if_neg (by omega), if_neg (by omega), show k * 2 - (crL S zs k).length = 0 by omega, show k * 2 + 1 - (crL S zs k).length = 1 by omega]
      exact ⟨rfl, rfl⟩
theorem gi_stL (S : Sec) (zs : List Int) {k : Nat} : ∀ {m : Nat}, k < m → gi (stL S zs m) (k * 2) = (holdS S zs k).ws ∧ gi (stL S zs m) (k * 2 + 1) = (holdS S zs k).ss
  | m + 1, h => by
    have hl := stL_length S zs m
    show gi (stL S zs m ++ [(holdS S zs m).ws, (holdS S zs m).ss]) _ = _ ∧ gi (stL S zs m ++ [(holdS S zs m).ws, (holdS S zs m).ss]) _ = _
    unfold gi
    simp only [List.getD_eq_getElem?_getD, List.getElem?_append]
    rcases Nat.lt_or_ge k m with h' | h'
    · have := gi_stL S zs h'
      unfold gi at this
      simp only [List.getD_eq_getElem?_getD] at this
      rw [if_pos (by omega), if_pos (by omega)]; exact this
    · have : k = m := by omega
      subst this
      rw [if_neg (by omega), if_neg (by omega), show k * 2 - (stL S zs k).length = 0 by omega, show k * 2 + 1 - (stL S zs k).length = 1 by omega]
      exact ⟨rfl, rfl⟩
section
variable {g : Nat} {rd : Option Nat} {T : List Value} {D : List Nat} {A : Hp} {Q : Ex → St → Prop} {V : Value → Hp → Prop}
theorem loop119a {A0 : Hp} {S : Sec} {XF n : Nat} {zs cL hL : List Int} {sa sb fa fb : Value} {may must : Int} (ha : RdS A0 1 (n + 1) (ints cL) sa) (hb : RdS A0 1 (n + 1) (ints hL) sb) (hl : Lists S zs n cL hL) (hF : A0.get XF = some (.cells [fa, fb, .int .i64 may, .int .i64 must] false)) (hfa : RdS A0 2 (n + 1) (ints (crL S zs (n + 1))) fa) (hfb : RdS A0 2 (n + 1) (ints (stL S zs (n + 1))) fb) (hn : n ≤ 1000) (hg : g ≤ A0.n)
    (hend : ∀ T' A', KeepT [1, 3, 4, 5, 6, 7, 10, 59] T T' → Ext' A0 A' → Q (.exit 0) ⟨T', D, A'⟩) (t5 : tget T 5 = .pointer (some ⟨XF, 0, none⟩)) (t8 : tget T 8 = sa) (t9 : tget T 9 = sb) :
    ∀ (k i : Nat) {T1 : List Value} {A : Hp}, i + k = n + 1 → KeepT [1, 3, 4, 5, 6, 7, 8, 9, 10, 59] T T1 → Ext' A0 A → tget T1 69 = .int .i64 ((n + 1 : Nat) : Int) → tget T1 70 = .int .i64 i → W AP KL g rd (.loop body119a) ⟨T1, D, A⟩ Q := by
  intro k
  induction k with
  | zero =>
    intro i T1 A hik hk he t69 t70
    have : i = n + 1 := by omega
    subst this
    rw [W_loop]
    simp (disch := as_aux_lemma => first | omega | simp only [hDs] <;> omega | simp [isCell]) [hRs, takeMarks, resA, resAll, resOne, Value.cells, body119a, t69, t70]
    refine hend _ A ?_ he
    simp [hk.at 1 rfl, hk.at 3 rfl, hk.at 4 rfl, hk.at 5 rfl, hk.at 6 rfl, hk.at 7 rfl, hk.at 10 rfl, hk.at 59 rfl]
  | succ k ih =>
    intro i T1 A hik hk he t69 t70
    have u5 := (hk.at 5 rfl).trans t5
    have u8 := (hk.at 8 rfl).trans t8
    have u9 := (hk.at 9 rfl).trans t9
    obtain ⟨m, hm⟩ : ∃ m, m = n + 1 := ⟨_, rfl⟩
    obtain ⟨⟨l1, l2⟩, l3, l4⟩ := hl.all i (by omega)
    have c1 := gi_crL S zs (k := i) (m := n + 1) (by omega)
    have c2 := gi_stL S zs (k := i) (m := n + 1) (by omega)
    have hll := hl.lc
    have hlh := hl.lh
    have lcr := crL_length S zs (n + 1)
    have lst := stL_length S zs (n + 1)
    have hgA := Nat.le_trans hg he.1
    obtain ⟨cr, hcr⟩ : ∃ cr, cr = crL S zs (n + 1) := ⟨_, rfl⟩
    obtain ⟨st, hst⟩ : ∃ st, st = stL S zs (n + 1) := ⟨_, rfl⟩
    rw [← hcr] at c1 lcr hfa
    rw [← hst] at c2 lst hfb
    rw [← hm] at t69 ha hb hfa hfb lcr lst hll hlh
    have hlt : (i : Int) < m := by omega
    obtain ⟨x, cx, rx, rfl, hx⟩ := (he.rdS ha).at (i := i) (by omega)
    obtain ⟨y, cy, ry, rfl, hy⟩ := (he.rdS hb).at (i := i) (by omega)
    obtain ⟨z, cz, rz, rfl, hz⟩ := (he.rdS hfa).at (i := i) (by omega)
    obtain ⟨w, cw, rw', rfl, hw⟩ := (he.rdS hfb).at (i := i) (by omega)
    have hFA := he.get hF
    have hxA := Hp.lt_of_get hx
    have hyA := Hp.lt_of_get hy
    have p1 := ints_two (l := cr) (o := i * 2) (by omega)
    have p2 := ints_two (l := st) (o := i * 2) (by omega)
    rw [c1.1, c1.2] at p1
    rw [c2.1, c2.2] at p2
    have e3 := wrId (n := (i : Int) + 1) (by omega) (by omega)
    rw [W_loop]
    simp (disch := as_aux_lemma => first | omega | simp only [hDs] <;> omega | simp [isCell]) [hRs, takeMarks, resA, resAll, resOne, Value.cells, body119a, t69, t70, u8, u9, hlt, idxSA_ok, hx, ints_get]
    refine w141 (Nat.le_refl _) fun A1 e1 => ?_
    have hF1 := e1.get hFA
    have hz1 := e1.get hz
    simp (disch := as_aux_lemma => first | omega | simp only [hDs] <;> omega | simp [isCell]) [hRs, takeMarks, resA, resAll, resOne, Value.cells, u5, hF1, idxSA_ok, hz1, p1]
    refine w140 l1 l2 (Int.le_refl _) fun A2 e2 => ?_
    have hy2 := (e1.trans e2).get hy
    have hw2 := (e1.trans e2).get hw
    have hF2 := e2.get hF1
    simp (disch := as_aux_lemma => first | omega | simp only [hDs] <;> omega | simp [isCell]) [hRs, takeMarks, resA, resAll, resOne, Value.cells, u9, idxSA_ok, hy2, ints_get]
    refine w141 (Nat.le_refl _) fun A3 e3' => ?_
    have hw3 := e3'.get hw2
    have hF3 := e3'.get hF2
    simp (disch := as_aux_lemma => first | omega | simp only [hDs] <;> omega | simp [isCell]) [hRs, takeMarks, resA, resAll, resOne, Value.cells, u5, hF3, idxSA_ok, hw3, p2]
    refine w140 l3 l4 (Int.le_refl _) fun A4 e4 => ?_
    simp (disch := as_aux_lemma => first | omega | simp only [hDs] <;> omega | simp [isCell]) [hRs, takeMarks, resA, resAll, resOne, Value.cells, t70, e3]
    exact ih (i + 1) (by omega) (hk.trans (by simp)) (he.trans (e1.trans (e2.trans (e3'.trans e4)))) (by simp [t69, hm]) (by simp)
theorem loop119c {A0 : Hp} {S P : Sec} {XF XP n : Nat} {zs ys : List Int} {fa fb pa pb : Value} {may must may' must' : Int} (hF : A0.get XF = some (.cells [fa, fb, .int .i64 may, .int .i64 must] false)) (hP : A0.get XP = some (.cells [pa, pb, .int .i64 may', .int .i64 must'] false)) (hfa : RdS A0 2 (n + 1) (ints (crL S zs (n + 1))) fa) (hfb : RdS A0 2 (n + 1) (ints (stL S zs (n + 1))) fb)
    (hpa : RdS A0 2 (n + 1) (ints (crL P ys (n + 1))) pa) (hpb : RdS A0 2 (n + 1) (ints (stL P ys (n + 1))) pb) (hnar : ∀ k, k ≤ n → Nar (holdS S zs k) (holdS P ys k) k) (hn : n ≤ 1000)
    (hend : ∀ T' A', KeepT [5, 17] T T' → Ext' A0 A' → Q (.exit 4) ⟨T', D, A'⟩) (t5 : tget T 5 = .pointer (some ⟨XF, 0, none⟩)) (t17 : tget T 17 = .pointer (some ⟨XP, 0, none⟩)) :
    ∀ (k i : Nat) {T1 : List Value} {A : Hp}, i + k = n + 1 → KeepT [5, 17] T T1 → Ext' A0 A → tget T1 194 = .int .i64 ((n + 1 : Nat) : Int) → tget T1 195 = .int .i64 i → W AP KL g rd (.loop body119c) ⟨T1, D, A⟩ Q := by
  intro k
  induction k with
  | zero =>
    intro i T1 A hik hk he t194 t195
    have : i = n + 1 := by omega
    subst this
    rw [W_loop]
    simp (disch := as_aux_lemma => first | omega | simp only [hDs] <;> omega | simp [isCell]) [hRs, takeMarks, resA, resAll, resOne, Value.cells, body119c, t194, t195]
    exact hend _ A (hk.trans (by simp)) he
  | succ k ih =>
    intro i T1 A hik hk he t194 t195
    have u5 := (hk.at 5 rfl).trans t5
    have u17 := (hk.at 17 rfl).trans t17
    obtain ⟨m, hm⟩ : ∃ m, m = n + 1 := ⟨_, rfl⟩
    obtain ⟨⟨l1, l2, l3⟩, ⟨l4, l5, l6⟩, _, _⟩ := hnar i (by omega)
    have c1 := gi_crL S zs (k := i) (m := n + 1) (by omega)
    have c2 := gi_stL S zs (k := i) (m := n + 1) (by omega)
    have d1 := gi_crL P ys (k := i) (m := n + 1) (by omega)
    have d2 := gi_stL P ys (k := i) (m := n + 1) (by omega)
    have lcr := crL_length S zs (n + 1)
    have lst := stL_length S zs (n + 1)
    have mcr := crL_length P ys (n + 1)
    have mst := stL_length P ys (n + 1)
    obtain ⟨cr, hcr⟩ : ∃ cr, cr = crL S zs (n + 1) := ⟨_, rfl⟩
    obtain ⟨st, hst⟩ : ∃ st, st = stL S zs (n + 1) := ⟨_, rfl⟩
    obtain ⟨qr, hqr⟩ : ∃ qr, qr = crL P ys (n + 1) := ⟨_, rfl⟩
    obtain ⟨qt, hqt⟩ : ∃ qt, qt = stL P ys (n + 1) := ⟨_, rfl⟩
    rw [← hcr] at c1 lcr hfa
    rw [← hst] at c2 lst hfb
    rw [← hqr] at d1 mcr hpa
    rw [← hqt] at d2 mst hpb
    rw [← hm] at t194 hfa hfb hpa hpb lcr lst mcr mst
    have hlt : (i : Int) < m := by omega
    obtain ⟨x, cx, rx, rfl, hx⟩ := (he.rdS hpa).at (i := i) (by omega)
    obtain ⟨y, cy, ry, rfl, hy⟩ := (he.rdS hpb).at (i := i) (by omega)
    obtain ⟨z, cz, rz, rfl, hz⟩ := (he.rdS hfa).at (i := i) (by omega)
    obtain ⟨w, cw, rw', rfl, hw⟩ := (he.rdS hfb).at (i := i) (by omega)
    have hFA := he.get hF
    have hPA := he.get hP
    have p1 := ints_two (l := cr) (o := i * 2) (by omega)
    have p2 := ints_two (l := st) (o := i * 2) (by omega)
    have p3 := ints_two (l := qr) (o := i * 2) (by omega)
    have p4 := ints_two (l := qt) (o := i * 2) (by omega)
    rw [c1.1, c1.2] at p1
    rw [c2.1, c2.2] at p2
    rw [d1.1, d1.2] at p3
    rw [d2.1, d2.2] at p4
    have e3 := wrId (n := (i : Int) + 1) (by omega) (by omega)
    rw [W_loop]
    simp (disch := as_aux_lemma => first | omega | simp only [hDs] <;> omega | simp [isCell]) [hRs, takeMarks, resA, resAll, resOne, Value.cells, body119c, t194, t195, u5, u17, hlt, hPA, hFA, idxSA_ok, hx, hz, p1, p3]
    refine w140 l1 l3 l2 fun A1 e1 => ?_
    have hP1 := e1.get hPA
    have hF1 := e1.get hFA
    have hy1 := e1.get hy
    have hw1 := e1.get hw
    simp (disch := as_aux_lemma => first | omega | simp only [hDs] <;> omega | simp [isCell]) [hRs, takeMarks, resA, resAll, resOne, Value.cells, u5, u17, hP1, hF1, idxSA_ok, hy1, hw1, p2, p4]
    refine w140 l4 l6 l5 fun A2 e2 => ?_
    simp (disch := as_aux_lemma => first | omega | simp only [hDs] <;> omega | simp [isCell]) [hRs, takeMarks, resA, resAll, resOne, Value.cells, t195, e3]
    exact ih (i + 1) (by omega) (hk.trans (by simp)) (he.trans (e1.trans e2)) (by simp [t194, hm]) (by simp)
def NarL (n : Nat) (zs ys : List Int) : Prop := ys.length = n * 2 ∧ ∀ j, j < n → gi zs (j * 2) ≤ gi ys (j * 2) ∧ gi ys (j * 2) ≤ gi ys (j * 2 + 1) ∧ gi ys (j * 2 + 1) ≤ gi zs (j * 2 + 1)
theorem NarL.next {n : Nat} {zs ys : List Int} {a b : Int} (h : NarL n zs ys) (h1 : gi zs (n * 2) ≤ a) (h2 : a ≤ b) (h3 : b ≤ gi zs (n * 2 + 1)) : NarL (n + 1) zs (ys ++ [a, b]) := by
  obtain ⟨hl, ha⟩ := h
  refine ⟨by simp [hl]; omega, fun j hj => ?_⟩
  have g1 : ∀ o, o < ys.length → gi (ys ++ [a, b]) o = gi ys o := fun o ho => by unfold gi; simp [List.getD_eq_getElem?_getD, List.getElem?_append_left ho]
  rcases Nat.lt_or_ge j n with h | h
  · rw [g1 _ (by omega), g1 _ (by omega)]; exact ha j h
  · have : j = n := by omega
    subst this
    have a1 : gi (ys ++ [a, b]) (j * 2) = a := by unfold gi; rw [List.getD_eq_getElem?_getD, List.getElem?_append_right (by omega), show j * 2 - ys.length = 0 by omega]; rfl
    have a2 : gi (ys ++ [a, b]) (j * 2 + 1) = b := by unfold gi; rw [List.getD_eq_getElem?_getD, List.getElem?_append_right (by omega), show j * 2 + 1 - ys.length = 1 by omega]; rfl
    rw [a1, a2]; exact ⟨h1, h2, h3⟩
theorem loop119b {A1 : Hp} {X3 X1 X7 N n : Nat} {zs : List Int} {sl : Value} {K0 : Int} {ro : Bool} (hK0 : K0 ≤ 10000) (hold : ∀ A : Hp, (∀ z, z < N → z ≠ X3 → A.get z = A1.get z) → RdS A 2 n (ints zs) sl ∧ A.get X7 = some (.cells [chF X3 X1] ro))
    (hch : ∀ (A : Hp) (kk : Int), N ≤ A.n → (∀ z, z < N → z ≠ X3 → A.get z = A1.get z) → A.get X3 = some (.cells [.int .i64 kk] false) → 0 ≤ kk → Ch A X3 X1 kk) (hl : LevOk n zs) (hn : n ≤ 1000) (hXN : X3 < N) (h73 : X7 ≠ X3) (h71 : X7 ≠ X1) (hgX : g ≤ X3) (hgN : g ≤ N)
    (hend : ∀ T' A' kk ys sv, KeepT [3, 4, 5, 6, 12] T T' → tget T' 14 = sv → Ch A' X3 X1 kk → kk ≤ K0 + 2 * n → NarL n zs ys → AccS N A' 2 (ints ys) sv → N ≤ A'.n → (∀ z, z < N → z ≠ X3 → A'.get z = A1.get z) → Q (.exit 2) ⟨T', D, A'⟩)
    (t13 : tget T 13 = .func (.func 142) ⟨[]⟩ ⟨[.pointer (some ⟨X7, 0, none⟩)]⟩) :
    ∀ (k i : Nat) {T1 : List Value} {A : Hp} {kk : Int} {ys : List Int} {sv : Value}, i + k = n → KeepT [3, 4, 5, 6, 12, 13] T T1 → tget T1 14 = sv → tget T1 153 = sl → tget T1 154 = .int .i64 n → tget T1 155 = .int .i64 i → Ch A X3 X1 kk → kk ≤ K0 + 2 * i → NarL i zs ys → AccS N A 2 (ints ys) sv → N ≤ A.n → (∀ z, z < N → z ≠ X3 → A.get z = A1.get z) → W AP KL g rd (.loop body119b) ⟨T1, D, A⟩ Q := by
  intro k
  induction k with
  | zero =>
    intro i T1 A kk ys sv hik hk t14 t153 t154 t155 hc hkk hy hacc hN ho
    have : i = n := by omega
    subst this
    rw [W_loop]
    simp (disch := as_aux_lemma => first | omega | simp only [hDs] <;> omega | simp [isCell]) [hRs, takeMarks, resA, resAll, resOne, Value.cells, body119b, t154, t155]
    exact hend _ A kk ys sv (by simp [hk.at 3 rfl, hk.at 4 rfl, hk.at 5 rfl, hk.at 6 rfl, hk.at 12 rfl]) (by simp [t14]) hc hkk hy hacc hN ho
  | succ k ih =>
    intro i T1 A kk ys sv hik hk t14 t153 t154 t155 hc hkk hy hacc hN ho
    have u13 := (hk.at 13 rfl).trans t13
    obtain ⟨hsl, h7⟩ := hold A ho
    obtain ⟨x, cx, rx, rfl, hx⟩ := hsl.at (i := i) (by omega)
    obtain ⟨l1, l2, l3⟩ := hl.2 i (by omega)
    have hll := hl.1
    have p1 := ints_two (l := zs) (o := i * 2) (by omega)
    obtain ⟨lo, hlo⟩ : ∃ lo, lo = gi zs (i * 2) := ⟨_, rfl⟩
    obtain ⟨hi, hhi⟩ : ∃ hi, hi = gi zs (i * 2 + 1) := ⟨_, rfl⟩
    simp only [← hlo, ← hhi] at l1 l2 l3 p1
    have e3 := wrId (n := (i : Int) + 1) (by omega) (by omega)
    rw [W_loop]
    simp (disch := as_aux_lemma => first | omega | simp only [hDs] <;> omega | simp [isCell]) [hRs, takeMarks, resA, resAll, resOne, Value.cells, body119b, t14, t153, t154, t155, u13, show ((i : Int) < n) by omega, idxSA_ok, hx, p1, storeB_cells, setRange, set_push_eq]
    have eB := Ext'.push A (.cells [.int .i64 lo, .int .i64 hi] false)
    refine w142 (eB.get h7) h73 h71 (hc.ext eB) (by omega) (by omega) l2 (by omega) hgX fun A2 a b b2 hc2 a1 a2 a3 => ?_
    have n2 := b2.1
    simp only [Hp.n_push] at n2
    have o2 : ∀ z, z < A.n → z ≠ X3 → A2.get z = A.get z := fun z hz hzX => by rw [b2.2 z (by simp; omega) hzX, eB.2 z hz]
    have acc2 : AccS N A2 2 (ints ys) sv := AccS.keepB hacc fun z hz => by
      have := hacc.blk_ge hz
      exact o2 z this.2 (by omega)
    obtain ⟨sv', A3, ha, hacc', hold', hn3⟩ := AccS.add (g := g) (bytes := 16) (n := i) (ro := false) (new := [.int .i64 a, .int .i64 b]) acc2 hgN (by omega) rfl (by decide) rfl (by rw [ints_length]; exact hy.1) (by unfold room; omega)
    simp (disch := as_aux_lemma => first | omega | simp only [hDs] <;> omega | simp [isCell]) [hRs, takeMarks, resA, resAll, resOne, Value.cells, t14, t155, slitA, fillA, setRange, ha, e3]
    have ho3 : ∀ z, z < N → z ≠ X3 → A3.get z = A1.get z := fun z hz hzX => by rw [hold' z hz, o2 z (by omega) hzX]; exact ho z hz hzX
    exact ih (i + 1) (sv := sv') (ys := ys ++ [a, b]) (by omega) (hk.trans (by simp)) (by simp) (by simp [t153]) (by simp [t154]) (by simp) (hch A3 (kk + 2) (by omega) ho3 (by rw [hold' X3 hXN]; exact hc2.next) hc2.k0) (by omega) (hy.next (by rw [← hlo]; exact a1) a2 (by rw [← hhi]; exact a3)) (by rw [ints_append]; exact hacc') (by omega) ho3
end
end Go.Ab.Dike
namespace Go.Ab.Dike
open Go Go.Ab
def pF119 : ACode := (.seq
 (.ops [
oM 108 10,
oC 109 .geq 108 0,
oM 110 109,
oQ 111 110 true (.fieldAddr (.t 5) 2),
oQ 112 110 true (.load (.t 111) none),
oQ 113 110 true (.bin .lss (.t 112) (oK 0)),
oN 114 110 true 113,
oN 115 114 false 10,
oQ 116 114 false (.fieldAddr (.t 5) 2),
oQ 117 114 false (.load (.t 116) none),
oQ 118 114 false (.bin .lss (.t 115) (.t 117)),
oQ 119 110 true (.pick (.t 114) (.k (.bool true)) (.t 118)),
oP 120 (.pick (.t 110) (.t 119) (.k (.bool false))),
oM 121 120,
oQ 122 121 false (.fieldAddr (.t 5) 3),
oQ 123 121 false (.load (.t 122) none),
oQ 124 121 false (.bin .geq (.t 123) (oK 0)),
oN 125 121 false 124,
oN 126 125 true 10,
oQ 127 125 true (.bin .lss (.t 126) (oK 0)),
oN 128 125 true 127,
oN 129 128 false 10,
oQ 130 128 false (.fieldAddr (.t 5) 3),
oQ 131 128 false (.load (.t 130) none),
oQ 132 128 false (.bin .gtr (.t 129) (.t 131)),
oQ 133 125 true (.pick (.t 128) (.k (.bool true)) (.t 132)),
oQ 134 121 false (.pick (.t 125) (.t 133) (.k (.bool false))),
oP 135 (.pick (.t 121) (.k (.bool true)) (.t 134))])
 (.cond (.t 135)
 (.seq
 (.ops [
oP 2 (.move (.k (.bool false)))])
 .ret)
 .skip))
def pZ119 : ACode := (.seq
 (.ops [
oF 225 17 2,
oL 226 225,
oC 227 .lss 226 0,
oM 228 227,
oQ 229 228 false (.fieldAddr (.t 5) 2),
oQ 230 228 false (.load (.t 229) none),
oQ 231 228 false (.bin .geq (.t 230) (oK 0)),
oN 232 228 false 231,
oQ 233 232 true (.fieldAddr (.t 17) 2),
oQ 234 232 true (.load (.t 233) none),
oQ 235 232 true (.fieldAddr (.t 5) 2),
oQ 236 232 true (.load (.t 235) none),
oQ 237 232 true (.bin .geq (.t 234) (.t 236)),
oQ 238 228 false (.pick (.t 232) (.t 237) (.k (.bool false))),
oP 239 (.pick (.t 228) (.k (.bool true)) (.t 238)),
oM 19 239])
 (.seq
 (.ops [
oF 240 5 3,
oL 241 240,
oC 242 .lss 241 0,
oM 243 242,
oQ 244 243 false (.fieldAddr (.t 17) 3),
oQ 245 243 false (.load (.t 244) none),
oQ 246 243 false (.bin .geq (.t 245) (oK 0)),
oN 247 243 false 246,
oQ 248 247 true (.fieldAddr (.t 17) 3),
oQ 249 247 true (.load (.t 248) none),
oQ 250 247 true (.fieldAddr (.t 5) 3),
oQ 251 247 true (.load (.t 250) none),
oQ 252 247 true (.bin .leq (.t 249) (.t 251)),
oQ 253 243 false (.pick (.t 247) (.t 252) (.k (.bool false))),
oP 254 (.pick (.t 243) (.k (.bool true)) (.t 253)),
oM 20 254])
 (.seq
 (.ops [
oM 255 19,
oM 256 255,
oN 257 256 true 20,
oP 258 (.pick (.t 256) (.t 257) (.k (.bool false))),
oM 259 258,
oQ 260 259 true (.call (.k (.func (.func 121) ⟨[]⟩ ⟨[]⟩)) [] false),
oP 261 (.pick (.t 259) (.t 260) (.k (.bool false))),
oM 2 261])
 .ret)))
section
variable {g : Nat} {rd : Option Nat} {T : List Value} {D : List Nat} {A : Hp} {Q : Ex → St → Prop} {V : Value → Hp → Prop}
theorem F119_ok {XF : Nat} {fa fb : Value} {s : HS} {c h f : Int} {n : Nat} (t5 : tget T 5 = .pointer (some ⟨XF, 0, none⟩)) (t10 : tget T 10 = .int .i64 f) (hF : A.get XF = some (.cells [fa, fb, .int .i64 s.may, .int .i64 s.must] false)) (hl : Liv s n c h f)
    (hQ : ∀ T', KeepT [1, 3, 4, 5, 6, 7, 59] T T' → Q .normal ⟨T', D, A⟩) : W AP KL g rd pF119 ⟨T, D, A⟩ Q := by
  obtain ⟨_, _, f0, may, must⟩ := hl
  by_cases c1 : 0 ≤ f
  · obtain ⟨m1, m2⟩ := may c1
    by_cases c2 : 0 ≤ s.must
    · obtain ⟨u1, u2⟩ := must c2
      simp (disch := as_aux_lemma => first | omega | simp only [hDs] <;> omega | simp [isCell]) [hRs, takeMarks, resA, resAll, resOne, Value.cells, pF119, t5, t10, hF, c1, c2, show ¬ s.may < 0 by omega, show ¬ f < s.may by omega, show ¬ f < 0 by omega, show ¬ s.must < f by omega]
      exact hQ _ (by simp)
    · simp (disch := as_aux_lemma => first | omega | simp only [hDs] <;> omega | simp [isCell]) [hRs, takeMarks, resA, resAll, resOne, Value.cells, pF119, t5, t10, hF, c1, c2, show ¬ s.may < 0 by omega, show ¬ f < s.may by omega]
      exact hQ _ (by simp)
  · by_cases c2 : 0 ≤ s.must
    · obtain ⟨u1, u2⟩ := must c2
      omega
    · simp (disch := as_aux_lemma => first | omega | simp only [hDs] <;> omega | simp [isCell]) [hRs, takeMarks, resA, resAll, resOne, Value.cells, pF119, t5, t10, hF, c1, c2]
      exact hQ _ (by simp)
theorem Z119_ok {XF XP : Nat} {fa fb pa pb : Value} {s p : HS} {n : Nat} (t5 : tget T 5 = .pointer (some ⟨XF, 0, none⟩)) (t17 : tget T 17 = .pointer (some ⟨XP, 0, none⟩)) (hF : A.get XF = some (.cells [fa, fb, .int .i64 s.may, .int .i64 s.must] false)) (hP : A.get XP = some (.cells [pa, pb, .int .i64 p.may, .int .i64 p.must] false)) (hn : Nar s p n)
    (hQ : ∀ T', tget T' 2 = .bool true → Q .ret ⟨T', D, A⟩) : W AP KL g rd pZ119 ⟨T, D, A⟩ Q := by
  obtain ⟨_, _, may, must⟩ := hn
  by_cases c1 : p.may < 0
  · by_cases c2 : s.must < 0
    · simp (disch := as_aux_lemma => first | omega | simp only [hDs] <;> omega | simp [isCell]) [hRs, takeMarks, resA, resAll, resOne, Value.cells, pZ119, t5, t17, hF, hP, c1, c2]
      exact hQ _ (by simp)
    · obtain ⟨u1, u2⟩ := must (by omega)
      simp (disch := as_aux_lemma => first | omega | simp only [hDs] <;> omega | simp [isCell]) [hRs, takeMarks, resA, resAll, resOne, Value.cells, pZ119, t5, t17, hF, hP, c1, c2, u1, u2]
      exact hQ _ (by simp)
  · obtain ⟨m1, m2⟩ := may (by omega)
    by_cases c2 : s.must < 0
    · simp (disch := as_aux_lemma => first | omega | simp only [hDs] <;> omega | simp [isCell]) [hRs, takeMarks, resA, resAll, resOne, Value.cells, pZ119, t5, t17, hF, hP, c1, c2, m1, m2]
      exact hQ _ (by simp)
    · obtain ⟨u1, u2⟩ := must (by omega)
      simp (disch := as_aux_lemma => first | omega | simp only [hDs] <;> omega | simp [isCell]) [hRs, takeMarks, resA, resAll, resOne, Value.cells, pZ119, t5, t17, hF, hP, c1, c2, m1, m2, u1, u2]
      exact hQ _ (by simp)
end
end Go.Ab.Dike
namespace Go.Ab.Dike
open Go Go.Ab
def pO119 : ACode := (.ops [
oM 138 13,
oF 139 3 1,
oD 140 139 2,
oP 141 (.callC (.t 59) (.t 138) [.t 140]),
oM 142 13,
oF 143 3 3,
⟨some 144, none, [(.t 59, 0, .t 143, 2)], .load (.t 143) (some 2)⟩,
oP 145 (.callC (.t 59) (.t 142) [.t 144]),
oM 146 13,
oF 147 3 6,
⟨some 148, none, [(.t 59, 0, .t 147, 2), (.t 59, 0, .t 147, 2)], .load (.t 147) (some 2)⟩,
oP 149 (.call (.t 146) [.t 148] false),
oF 150 12 1,
oT 150 141 2,
oF 151 12 3,
oT 151 145 2,
oF 152 12 6,
oT 152 149 2])
structure NarS (S P : Sec) : Prop where
  c : S.cl ≤ P.cl ∧ P.cl ≤ P.ch ∧ P.ch ≤ S.ch
  s : S.sl ≤ P.sl ∧ P.sl ≤ P.sh ∧ P.sh ≤ S.sh
  w : S.wl ≤ P.wl ∧ P.wl ≤ P.wh ∧ P.wh ≤ S.wh
  t : P.toe = S.toe
section
variable {g : Nat} {rd : Option Nat} {T : List Value} {D : List Nat} {A : Hp} {Q : Ex → St → Prop} {V : Value → Hp → Prop}
theorem O119_ok {XS XN X7 X3 X1 : Nat} {S : Sec} {kk : Int} {r1 r7 : Bool} (t3 : tget T 3 = .pointer (some ⟨XS, 0, none⟩)) (t12 : tget T 12 = .pointer (some ⟨XN, 0, none⟩)) (t13 : tget T 13 = .func (.func 142) ⟨[]⟩ ⟨[.pointer (some ⟨X7, 0, none⟩)]⟩) (t59 : tget T 59 = chF X3 X1)
    (hS : A.get XS = some (.cells S.cells r1)) (hN : A.get XN = some (.cells S.cells false)) (h7 : A.get X7 = some (.cells [chF X3 X1] r7)) (hc : Ch A X3 X1 kk) (hkk : kk ≤ 10000) (hw : WallOk S) (n1 : XS ≠ X3) (n2 : XS ≠ X1) (n3 : XN ≠ X3) (n4 : X7 ≠ X3) (n5 : X7 ≠ X1) (hgX : g ≤ X3) (hgN : g ≤ XN)
    (hch : ∀ (A' : Hp) (k : Int), A.n ≤ A'.n → (∀ z, z < A.n → z ≠ X3 → z ≠ XN → A'.get z = A.get z) → A'.get X3 = some (.cells [.int .i64 k] false) → 0 ≤ k → Ch A' X3 X1 k)
    (hQ : ∀ T' A' P, KeepT [1, 3, 4, 5, 6, 7, 12, 13, 59] T T' → NarS S P → A'.get XN = some (.cells P.cells false) → Ch A' X3 X1 (kk + 6) → A.n ≤ A'.n → (∀ z, z < A.n → z ≠ X3 → z ≠ XN → A'.get z = A.get z) → Q .normal ⟨T', D, A'⟩) : W AP KL g rd pO119 ⟨T, D, A⟩ Q := by
  have w1 := hw.c
  have w2 := hw.s
  have w3 := hw.w
  have hS' := hS
  unfold Sec.cells at hS'
  have hXSn := Hp.lt_of_get hS
  have hXNn := Hp.lt_of_get hN
  have h7n := Hp.lt_of_get h7
  unfold chF at t59
  simp (disch := as_aux_lemma => first | omega | simp only [hDs] <;> omega | simp [isCell]) [hRs, takeMarks, resA, resAll, resOne, Value.cells, pO119, t3, t13, hS']
  refine w142 h7 n4 n5 hc (by omega) (by omega) w1.2.1 (by omega) hgX fun A1 a b b1 hc1 a1 a2 a3 => ⟨by rw [t59]; exact onlyC_but b1, ?_⟩
  have m1 := b1.1
  have hS1 := (b1.2 XS (by omega) n1).trans hS'
  simp (disch := as_aux_lemma => first | omega | simp only [hDs] <;> omega | simp [isCell]) [hRs, takeMarks, resA, resAll, resOne, Value.cells, t3, t13, t59, hS1, apartA, capsOf, show ¬ X3 = XS by omega, show ¬ X1 = XS by omega]
  refine w142 ((b1.2 X7 (by omega) n4).trans h7) n4 n5 hc1 (by omega) (by omega) w2.2.1 (by omega) hgX fun A2 c d b2 hc2 c1 c2 c3 => ⟨onlyC_but b2, ?_⟩
  have m2 := b2.1
  have hS2 := (b2.2 XS (by omega) n1).trans hS1
  simp (disch := as_aux_lemma => first | omega | simp only [hDs] <;> omega | simp [isCell]) [hRs, takeMarks, resA, resAll, resOne, Value.cells, t3, t13, t59, hS2, apartA, capsOf, show ¬ X3 = XS by omega, show ¬ X1 = XS by omega]
  refine w142 (((b1.trans b2).2 X7 (by omega) n4).trans h7) n4 n5 hc2 (by omega) (by omega) w3.2.1 (by omega) hgX fun A3 e f b3 hc3 e1 e2 e3 => ?_
  have m3 := b3.1
  have b03 := b1.trans (b2.trans b3)
  have hN3 := (b03.2 XN (by omega) n3).trans hN
  unfold Sec.cells at hN3
  have gs : ∀ b', (A3.set XN (some b')).get XN = some b' := fun b' => get_set_same hN3
  have hN3n := Hp.lt_of_get hN3
  have gs2 : ∀ b' b'', ((A3.set XN (some b')).set XN (some b'')).get XN = some b'' := fun b' b'' => get_set_same (gs b')
  simp (disch := as_aux_lemma => first | omega | simp only [hDs] <;> omega | simp [isCell]) [hRs, takeMarks, resA, resAll, resOne, Value.cells, t12, hN3, storeB_cells, setRange, gs, gs2]
  have fr : ∀ b1 b2 b3 : Option ABlk, ∀ z, z < A.n → z ≠ X3 → z ≠ XN → (((A3.set XN b1).set XN b2).set XN b3).get z = A.get z := fun _ _ _ z hz hz3 hzN => by
    rw [get_set_ne (by simpa using hN3n) hzN, get_set_ne (by simpa using hN3n) hzN, get_set_ne hN3n hzN, b03.2 z hz hz3]
  refine hQ _ _ ⟨S.cell, a, b, c, d, S.toe, e, f⟩ (by simp) ⟨⟨a1, a2, a3⟩, ⟨c1, c2, c3⟩, ⟨e1, e2, e3⟩, rfl⟩ (get_set_same (gs2 _ _)) ?_ (by simp; omega) fun z hz hz3 hzN => ?_
  · refine hch _ _ (by simp; omega) (fr _ _ _) ?_ (by have := hc.k0; omega)
    rw [get_set_ne (by simpa using hN3n) (Ne.symm n3), get_set_ne (by simpa using hN3n) (Ne.symm n3), get_set_ne hN3n (Ne.symm n3), hc3.next, show kk + 2 + 2 + 2 = kk + 6 by omega]
  · exact fr _ _ _ z hz hz3 hzN
end
end Go.Ab.Dike
namespace Go.Ab.Dike
open Go Go.Ab
def pR119 : ACode := (.seq
 (.seq
 (.ops [
oM 108 10,
oC 109 .geq 108 0,
oM 110 109,
oQ 111 110 true (.fieldAddr (.t 5) 2),
oQ 112 110 true (.load (.t 111) none),
oQ 113 110 true (.bin .lss (.t 112) (oK 0)),
oN 114 110 true 113,
oN 115 114 false 10,
oQ 116 114 false (.fieldAddr (.t 5) 2),
oQ 117 114 false (.load (.t 116) none),
oQ 118 114 false (.bin .lss (.t 115) (.t 117)),
oQ 119 110 true (.pick (.t 114) (.k (.bool true)) (.t 118)),
oP 120 (.pick (.t 110) (.t 119) (.k (.bool false))),
oM 121 120,
oQ 122 121 false (.fieldAddr (.t 5) 3),
oQ 123 121 false (.load (.t 122) none),
oQ 124 121 false (.bin .geq (.t 123) (oK 0)),
oN 125 121 false 124,
oN 126 125 true 10,
oQ 127 125 true (.bin .lss (.t 126) (oK 0)),
oN 128 125 true 127,
oN 129 128 false 10,
oQ 130 128 false (.fieldAddr (.t 5) 3),
oQ 131 128 false (.load (.t 130) none),
oQ 132 128 false (.bin .gtr (.t 129) (.t 131)),
oQ 133 125 true (.pick (.t 128) (.k (.bool true)) (.t 132)),
oQ 134 121 false (.pick (.t 125) (.t 133) (.k (.bool false))),
oP 135 (.pick (.t 121) (.k (.bool true)) (.t 134))])
 (.cond (.t 135)
 (.seq
 (.ops [
oP 2 (.move (.k (.bool false)))])
 .ret)
 .skip))
 (.seq
 (.ops [
oD 136 3 8,
oP 12 (.alloc [.int .i64 0, .int .i64 0, .int .i64 0, .int .i64 0, .int .i64 0, .int .i64 0, .int .i64 0, .int .i64 0]),
oT 12 136 8])
 (.seq
 (.ops [
oP 137 (.makeFunc 142 [] [.t 7]),
oM 13 137])
 (.seq
 (.ops [
oM 138 13,
oF 139 3 1,
oD 140 139 2,
oP 141 (.callC (.t 59) (.t 138) [.t 140]),
oM 142 13,
oF 143 3 3,
⟨some 144, none, [(.t 59, 0, .t 143, 2)], .load (.t 143) (some 2)⟩,
oP 145 (.callC (.t 59) (.t 142) [.t 144]),
oM 146 13,
oF 147 3 6,
⟨some 148, none, [(.t 59, 0, .t 147, 2), (.t 59, 0, .t 147, 2)], .load (.t 147) (some 2)⟩,
oP 149 (.call (.t 146) [.t 148] false),
oF 150 12 1,
oT 150 141 2,
oF 151 12 3,
oT 151 145 2,
oF 152 12 6,
oT 152 149 2])
 (.seq
 (.ops [
oP 14 (.move (.k (.slice none 0 0)))])
 (.seq
 (.seq
 (.ops [
oM 153 4,
oP 154 (.len (.t 153)),
oP 155 (.move (oK 0))])
 (.block 2
 (.loop
 (.seq
 (.ops [
oB 156 .lss 155 154])
 (.seq
 (.cond (.t 156)
 .skip
 (.exit 2))
 (.seq
 (.block 3
 (.seq
 (.ops [
oI 157 153 155 2,
oD 158 157 2,
oP 16 (.alloc [.int .i64 0, .int .i64 0]),
oT 16 158 2])
 (.ops [
oM 159 14,
oM 160 13,
oD 161 16 2,
oP 162 (.call (.t 160) [.t 161] false),
oP 163 (.slit 1 2 [.int .i64 0, .int .i64 0] [(0, .t 162)]),
oP 164 (.append (.t 159) (.t 163) 2 16),
oM 14 164])))
 (.ops [
oC 165 .add 155 1,
oM 155 165])))))))
 (.seq
 (.ops [
oD 167 12 8,
oM 168 14,
oA 169 122 [.t 167, .t 168] false,
oM 166 169,
oX 170 166 0,
oX 171 166 1,
oP 17 (.alloc [.slice none 0 0, .slice none 0 0, .int .i64 0, .int .i64 0]),
oT 17 170 4,
oM 6 171])
 (.seq
 (.seq
 (.ops [
oM 172 6,
oC 173 .neq 172 0,
oM 174 173,
oQ 175 174 false (.fieldAddr (.t 17) 0),
oQ 176 174 false (.load (.t 175) none),
oQ 177 174 false (.len (.t 176)),
oQ 178 174 false (.fieldAddr (.t 5) 0),
oQ 179 174 false (.load (.t 178) none),
oQ 180 174 false (.len (.t 179)),
oQ 181 174 false (.bin .neq (.t 177) (.t 180)),
oP 182 (.pick (.t 174) (.k (.bool true)) (.t 181)),
oM 183 182,
oQ 184 183 false (.fieldAddr (.t 17) 1),
oQ 185 183 false (.load (.t 184) none),
oQ 186 183 false (.len (.t 185)),
oQ 187 183 false (.fieldAddr (.t 5) 1),
oQ 188 183 false (.load (.t 187) none),
oQ 189 183 false (.len (.t 188)),
oQ 190 183 false (.bin .neq (.t 186) (.t 189)),
oP 191 (.pick (.t 183) (.k (.bool true)) (.t 190))])
 (.cond (.t 191)
 (.seq
 (.ops [
oP 2 (.move (.k (.bool false)))])
 .ret)
 .skip))
 (.seq
 (.seq
 (.ops [
oF 192 17 0,
oL 193 192,
oP 194 (.len (.t 193)),
oP 195 (.move (oK 0))])
 (.block 4
 (.loop
 (.seq
 (.ops [
oB 196 .lss 195 194])
 (.seq
 (.cond (.t 196)
 .skip
 (.exit 4))
 (.seq
 (.block 5
 (.seq
 (.ops [
oM 197 195,
oM 18 197])
 (.seq
 (.ops [
oF 198 17 0,
oL 199 198,
oM 200 18,
oI 201 199 200 2,
oD 202 201 2,
oF 203 5 0,
oL 204 203,
oM 205 18,
oI 206 204 205 2,
oD 207 206 2,
oA 208 140 [.t 202, .t 207] false,
oP 209 (.not (.t 208)),
oM 210 209,
oQ 211 210 false (.fieldAddr (.t 17) 1),
oQ 212 210 false (.load (.t 211) none),
oN 213 210 false 18,
oQ 214 210 false (.idxS (.t 212) (.t 213) 2),
oQ 215 210 false (.load (.t 214) (some 2)),
oQ 216 210 false (.fieldAddr (.t 5) 1),
oQ 217 210 false (.load (.t 216) none),
oN 218 210 false 18,
oQ 219 210 false (.idxS (.t 217) (.t 218) 2),
oQ 220 210 false (.load (.t 219) (some 2)),
oQ 221 210 false (.call (.k (.func (.func 140) ⟨[]⟩ ⟨[]⟩)) [.t 215, .t 220] false),
oQ 222 210 false (.not (.t 221)),
oP 223 (.pick (.t 210) (.k (.bool true)) (.t 222))])
 (.cond (.t 223)
 (.seq
 (.ops [
oP 2 (.move (.k (.bool false)))])
 .ret)
 .skip))))
 (.ops [
oC 224 .add 195 1,
oM 195 224])))))))
 (.seq
 (.ops [
oF 225 17 2,
oL 226 225,
oC 227 .lss 226 0,
oM 228 227,
oQ 229 228 false (.fieldAddr (.t 5) 2),
oQ 230 228 false (.load (.t 229) none),
oQ 231 228 false (.bin .geq (.t 230) (oK 0)),
oN 232 228 false 231,
oQ 233 232 true (.fieldAddr (.t 17) 2),
oQ 234 232 true (.load (.t 233) none),
oQ 235 232 true (.fieldAddr (.t 5) 2),
oQ 236 232 true (.load (.t 235) none),
oQ 237 232 true (.bin .geq (.t 234) (.t 236)),
oQ 238 228 false (.pick (.t 232) (.t 237) (.k (.bool false))),
oP 239 (.pick (.t 228) (.k (.bool true)) (.t 238)),
oM 19 239])
 (.seq
 (.ops [
oF 240 5 3,
oL 241 240,
oC 242 .lss 241 0,
oM 243 242,
oQ 244 243 false (.fieldAddr (.t 17) 3),
oQ 245 243 false (.load (.t 244) none),
oQ 246 243 false (.bin .geq (.t 245) (oK 0)),
oN 247 243 false 246,
oQ 248 247 true (.fieldAddr (.t 17) 3),
oQ 249 247 true (.load (.t 248) none),
oQ 250 247 true (.fieldAddr (.t 5) 3),
oQ 251 247 true (.load (.t 250) none),
oQ 252 247 true (.bin .leq (.t 249) (.t 251)),
oQ 253 243 false (.pick (.t 247) (.t 252) (.k (.bool false))),
oP 254 (.pick (.t 243) (.k (.bool true)) (.t 253)),
oM 20 254])
 (.seq
 (.ops [
oM 255 19,
oM 256 255,
oN 257 256 true 20,
oP 258 (.pick (.t 256) (.t 257) (.k (.bool false))),
oM 259 258,
oQ 260 259 true (.call (.k (.func (.func 121) ⟨[]⟩ ⟨[]⟩)) [] false),
oP 261 (.pick (.t 259) (.t 260) (.k (.bool false))),
oM 2 261])
 .ret))))))))))))
def pM119 : ACode := (.ops [
oD 136 3 8,
oP 12 (.alloc [.int .i64 0, .int .i64 0, .int .i64 0, .int .i64 0, .int .i64 0, .int .i64 0, .int .i64 0, .int .i64 0]),
oT 12 136 8])
def pN119 : ACode := (.ops [
oP 137 (.makeFunc 142 [] [.t 7]),
oM 13 137])
def pQ119 : ACode := (.seq
 (.ops [
oP 14 (.move (.k (.slice none 0 0)))])
 (.seq
 (.seq
 (.ops [
oM 153 4,
oP 154 (.len (.t 153)),
oP 155 (.move (oK 0))])
 (.block 2
 (.loop
 (.seq
 (.ops [
oB 156 .lss 155 154])
 (.seq
 (.cond (.t 156)
 .skip
 (.exit 2))
 (.seq
 (.block 3
 (.seq
 (.ops [
oI 157 153 155 2,
oD 158 157 2,
oP 16 (.alloc [.int .i64 0, .int .i64 0]),
oT 16 158 2])
 (.ops [
oM 159 14,
oM 160 13,
oD 161 16 2,
oP 162 (.call (.t 160) [.t 161] false),
oP 163 (.slit 1 2 [.int .i64 0, .int .i64 0] [(0, .t 162)]),
oP 164 (.append (.t 159) (.t 163) 2 16),
oM 14 164])))
 (.ops [
oC 165 .add 155 1,
oM 155 165])))))))
 (.seq
 (.ops [
oD 167 12 8,
oM 168 14,
oA 169 122 [.t 167, .t 168] false,
oM 166 169,
oX 170 166 0,
oX 171 166 1,
oP 17 (.alloc [.slice none 0 0, .slice none 0 0, .int .i64 0, .int .i64 0]),
oT 17 170 4,
oM 6 171])
 (.seq
 (.seq
 (.ops [
oM 172 6,
oC 173 .neq 172 0,
oM 174 173,
oQ 175 174 false (.fieldAddr (.t 17) 0),
oQ 176 174 false (.load (.t 175) none),
oQ 177 174 false (.len (.t 176)),
oQ 178 174 false (.fieldAddr (.t 5) 0),
oQ 179 174 false (.load (.t 178) none),
oQ 180 174 false (.len (.t 179)),
oQ 181 174 false (.bin .neq (.t 177) (.t 180)),
oP 182 (.pick (.t 174) (.k (.bool true)) (.t 181)),
oM 183 182,
oQ 184 183 false (.fieldAddr (.t 17) 1),
oQ 185 183 false (.load (.t 184) none),
oQ 186 183 false (.len (.t 185)),
oQ 187 183 false (.fieldAddr (.t 5) 1),
oQ 188 183 false (.load (.t 187) none),
oQ 189 183 false (.len (.t 188)),
oQ 190 183 false (.bin .neq (.t 186) (.t 189)),
oP 191 (.pick (.t 183) (.k (.bool true)) (.t 190))])
 (.cond (.t 191)
 (.seq
 (.ops [
oP 2 (.move (.k (.bool false)))])
 .ret)
 .skip))
 (.seq
 (.seq
 (.ops [
oF 192 17 0,
oL 193 192,
oP 194 (.len (.t 193)),
oP 195 (.move (oK 0))])
 (.block 4
 (.loop
 (.seq
 (.ops [
oB 196 .lss 195 194])
 (.seq
 (.cond (.t 196)
 .skip
 (.exit 4))
 (.seq
 (.block 5
 (.seq
 (.ops [
oM 197 195,
oM 18 197])
 (.seq
 (.ops [
oF 198 17 0,
oL 199 198,
oM 200 18,
oI 201 199 200 2,
oD 202 201 2,
oF 203 5 0,
oL 204 203,
oM 205 18,
oI 206 204 205 2,
oD 207 206 2,
oA 208 140 [.t 202, .t 207] false,
oP 209 (.not (.t 208)),
oM 210 209,
oQ 211 210 false (.fieldAddr (.t 17) 1),
oQ 212 210 false (.load (.t 211) none),
oN 213 210 false 18,
oQ 214 210 false (.idxS (.t 212) (.t 213) 2),
oQ 215 210 false (.load (.t 214) (some 2)),
oQ 216 210 false (.fieldAddr (.t 5) 1),
oQ 217 210 false (.load (.t 216) none),
oN 218 210 false 18,
oQ 219 210 false (.idxS (.t 217) (.t 218) 2),
oQ 220 210 false (.load (.t 219) (some 2)),
oQ 221 210 false (.call (.k (.func (.func 140) ⟨[]⟩ ⟨[]⟩)) [.t 215, .t 220] false),
oQ 222 210 false (.not (.t 221)),
oP 223 (.pick (.t 210) (.k (.bool true)) (.t 222))])
 (.cond (.t 223)
 (.seq
 (.ops [
oP 2 (.move (.k (.bool false)))])
 .ret)
 .skip))))
 (.ops [
oC 224 .add 195 1,
oM 195 224])))))))
 (.seq
 (.ops [
oF 225 17 2,
oL 226 225,
oC 227 .lss 226 0,
oM 228 227,
oQ 229 228 false (.fieldAddr (.t 5) 2),
oQ 230 228 false (.load (.t 229) none),
oQ 231 228 false (.bin .geq (.t 230) (oK 0)),
oN 232 228 false 231,
oQ 233 232 true (.fieldAddr (.t 17) 2),
oQ 234 232 true (.load (.t 233) none),
oQ 235 232 true (.fieldAddr (.t 5) 2),
oQ 236 232 true (.load (.t 235) none),
oQ 237 232 true (.bin .geq (.t 234) (.t 236)),
oQ 238 228 false (.pick (.t 232) (.t 237) (.k (.bool false))),
oP 239 (.pick (.t 228) (.k (.bool true)) (.t 238)),
oM 19 239])
 (.seq
 (.ops [
oF 240 5 3,
oL 241 240,
oC 242 .lss 241 0,
oM 243 242,
oQ 244 243 false (.fieldAddr (.t 17) 3),
oQ 245 243 false (.load (.t 244) none),
oQ 246 243 false (.bin .geq (.t 245) (oK 0)),
oN 247 243 false 246,
oQ 248 247 true (.fieldAddr (.t 17) 3),
oQ 249 247 true (.load (.t 248) none),
oQ 250 247 true (.fieldAddr (.t 5) 3),
oQ 251 247 true (.load (.t 250) none),
oQ 252 247 true (.bin .leq (.t 249) (.t 251)),
oQ 253 243 false (.pick (.t 247) (.t 252) (.k (.bool false))),
oP 254 (.pick (.t 243) (.k (.bool true)) (.t 253)),
oM 20 254])
 (.seq
 (.ops [
oM 255 19,
oM 256 255,
oN 257 256 true 20,
oP 258 (.pick (.t 256) (.t 257) (.k (.bool false))),
oM 259 258,
oQ 260 259 true (.call (.k (.func (.func 121) ⟨[]⟩ ⟨[]⟩)) [] false),
oP 261 (.pick (.t 259) (.t 260) (.k (.bool false))),
oM 2 261])
 .ret))))))))
theorem eqR119 : pR119 = .seq pF119 (.seq pM119 (.seq pN119 (.seq pO119 pQ119))) := rfl
section
variable {g : Nat} {rd : Option Nat} {T : List Value} {D : List Nat} {A : Hp} {Q : Ex → St → Prop} {V : Value → Hp → Prop}
theorem Q119_ok {XF XN X7 X3 X1 n : Nat} {S P : Sec} {zs : List Int} {sl fa fb : Value} {kk : Int} {r7 : Bool} (t4 : tget T 4 = sl) (t5 : tget T 5 = .pointer (some ⟨XF, 0, none⟩)) (t12 : tget T 12 = .pointer (some ⟨XN, 0, none⟩)) (t13 : tget T 13 = .func (.func 142) ⟨[]⟩ ⟨[.pointer (some ⟨X7, 0, none⟩)]⟩)
    (hsl : RdS A 2 n (ints zs) sl) (hslX : ∀ z, blkOf sl = some z → z ≠ X3) (hn : n ≤ 20) (hF : A.get XF = some (.cells [fa, fb, .int .i64 (holdS S zs n).may, .int .i64 (holdS S zs n).must] false)) (hfa : RdS A 2 (n + 1) (ints (crL S zs (n + 1))) fa) (hfb : RdS A 2 (n + 1) (ints (stL S zs (n + 1))) fb)
    (hfaX : ∀ z, blkOf fa = some z → z ≠ X3) (hfbX : ∀ z, blkOf fb = some z → z ≠ X3) (hN : A.get XN = some (.cells P.cells false)) (h7 : A.get X7 = some (.cells [chF X3 X1] r7)) (hc : Ch A X3 X1 kk) (hkk : kk ≤ 10000) (hS : WallOk S) (hl : LevOk n zs) (hP : NarS S P) (n3 : XN ≠ X3) (n4 : X7 ≠ X3) (n5 : X7 ≠ X1) (n6 : XF ≠ X3) (hgX : g ≤ X3)
    (hQ : ∀ T' A', tget T' 2 = .bool true → Q .ret ⟨T', D, A'⟩) : W AP KL g rd pQ119 ⟨T, D, A⟩ Q := by
  have hX3n := Hp.lt_of_get hc.next
  have hXNn := Hp.lt_of_get hN
  have hXFn := Hp.lt_of_get hF
  have h7n := Hp.lt_of_get h7
  have keep : ∀ (A' : Hp) {k m : Nat} {cs : List Value} {v : Value}, RdS A k m cs v → (∀ z, blkOf v = some z → z ≠ X3) → (∀ z, z < A.n → z ≠ X3 → A'.get z = A.get z) → RdS A' k m cs v := fun A' {_ _ _ _} h hx ho => h.keepB fun z hz => ho z (h.blk_lt hz) (hx z hz)
  have hPok : WallOk P := by
    have a1 := hS.c
    have a2 := hS.s
    have a3 := hS.t
    have a4 := hS.w
    have b1 := hP.c
    have b2 := hP.s
    have b3 := hP.w
    have b4 := hP.t
    exact ⟨by omega, by omega, by omega, by omega⟩
  simp (disch := as_aux_lemma => first | omega | simp only [hDs] <;> omega | simp [isCell]) [hRs, takeMarks, resA, resAll, resOne, Value.cells, pQ119, t4, hsl.len]
  refine loop119b (A1 := A) (X3 := X3) (X1 := X1) (X7 := X7) (N := A.n) (n := n) (zs := zs) (sl := sl) (K0 := kk) hkk (fun A' ho => ⟨keep A' hsl hslX ho, (ho X7 h7n n4).trans h7⟩) (fun A' k hn' ho h hk' => hc.but ⟨hn', ho⟩ h hk') hl (by omega) hX3n n4 n5 hgX (by omega) ?_ (T := _) ?_ n 0 (kk := kk) (ys := []) (sv := .slice none 0 0) (by omega) (fun _ _ => rfl) (by simp) (by simp) (by simp) (by simp) hc (by omega) ⟨rfl, fun j hj => absurd hj (by omega)⟩ AccS.nil (Nat.le_refl _) (fun z _ _ => rfl)
  · intro T2 A2 k2 ys sv kp t14 hc2 hk2 hy hacc hN2 ho2
    have v5 := kp.at 5 rfl
    have v12 := kp.at 12 rfl
    simp [t5, t12] at v5 v12
    have hN' := (ho2 XN hXNn n3).trans hN
    have hF' := (ho2 XF hXFn n6).trans hF
    have hPc : partA P.cells 0 (some 8) = some (.agg ⟨P.cells⟩) := rfl
    have hyl : RdS A2 2 n (ints ys) sv := hacc.rd (by rw [ints_length]; exact hy.1) (by decide)
    have hlev : LevOk n ys := ⟨hy.1, fun j hj => by have q1 := hl.2 j hj; have q2 := hy.2 j hj; omega⟩
    simp (disch := as_aux_lemma => first | omega | simp only [hDs] <;> omega | simp [isCell]) [hRs, takeMarks, resA, resAll, resOne, Value.cells, v5, v12, t14, hN', hPc]
    refine w122 hyl (by omega) (by omega) fun v A3 e3 hout => ?_
    rcases hout with ⟨he, _⟩ | ⟨he, pa, pb, rfl, hpa, hpb⟩
    · exact absurd (hold_ok hPok hlev (by omega)) he
    · have rpa := hpa.rd (n := n + 1) (by rw [ints_length, crL_length]) (by decide)
      have rpb := hpb.rd (n := n + 1) (by rw [ints_length, stL_length]) (by decide)
      obtain ⟨p1, c1, rfl⟩ := rpa.isSlice
      obtain ⟨p2, c2, rfl⟩ := rpb.isSlice
      have rfa := e3.rdS (keep A2 hfa hfaX ho2)
      have rfb := e3.rdS (keep A2 hfb hfbX ho2)
      have hF3 := e3.get hF'
      obtain ⟨q1, d1, rfl⟩ := rfa.isSlice
      obtain ⟨q2, d2, rfl⟩ := rfb.isSlice
      have e4 := Ext'.push A3 (.cells [.slice p1 (n + 1) c1, .slice p2 (n + 1) c2, .int .i64 (holdS P ys n).may, .int .i64 (holdS P ys n).must] false)
      have hP4 : (A3.push (.cells [.slice p1 (n + 1) c1, .slice p2 (n + 1) c2, .int .i64 (holdS P ys n).may, .int .i64 (holdS P ys n).must] false)).get A3.n = _ := get_push_new
      have hF4 := e4.get hF3
      have hxF := Hp.lt_of_get hF3
      have n3' := e3.1
      obtain ⟨A4, hA4⟩ : ∃ A4, A4 = A3.push (.cells [.slice p1 (n + 1) c1, .slice p2 (n + 1) c2, .int .i64 (holdS P ys n).may, .int .i64 (holdS P ys n).must] false) := ⟨_, rfl⟩
      have l1 := rpa.len
      have l2 := rpb.len
      have l3 := rfa.len
      have l4 := rfb.len
      simp (disch := as_aux_lemma => first | omega | simp only [hDs] <;> omega | simp [isCell]) [hRs, takeMarks, resA, resAll, resOne, Value.cells, fateV, storeB_cells, setRange, set_push_eq, v5, hF3, l1, l2, l3, l4]
      rw [← hA4] at e4 hP4 hF4 ⊢
      have hnar := nar_all hS hPok (n := n) (zs := zs) (ys := ys) ⟨hP.c, hP.s, hP.w, hP.t, hy.2⟩ (by omega)
      refine loop119c (A0 := A4) (S := S) (P := P) (XF := XF) (XP := A3.n) (n := n) (zs := zs) (ys := ys) hF4 hP4 (e4.rdS rfa) (e4.rdS rfb) (e4.rdS rpa) (e4.rdS rpb) hnar (by omega) ?_ (T := _) ?_ ?_ (n + 1) 0 (by omega) (fun _ _ => rfl) (Ext'.refl _) (by simp) (by simp)
      · intro T5 A5 k5 e5
        have z5 := k5.at 5 rfl
        have z17 := k5.at 17 rfl
        simp [v5] at z5 z17
        simp only [BlkQ_exit, SeqQ_normal, if_true]
        show W AP KL g rd pZ119 _ _
        exact Z119_ok z5 z17 (e5.get hF4) (e5.get hP4) (hnar n (Nat.le_refl _)) fun T' t2 => hQ T' _ t2
      · simp [v5]
      · simp
  · simp [t13]
theorem R119_ok {XS XF X7 X3 X1 n : Nat} {S : Sec} {zs : List Int} {sl fa fb : Value} {kk c h f : Int} {r1 r7 : Bool} (t3 : tget T 3 = .pointer (some ⟨XS, 0, none⟩)) (t4 : tget T 4 = sl) (t5 : tget T 5 = .pointer (some ⟨XF, 0, none⟩)) (t7 : tget T 7 = .pointer (some ⟨X7, 0, none⟩)) (t10 : tget T 10 = .int .i64 f) (t59 : tget T 59 = chF X3 X1)
    (hsl : RdS A 2 n (ints zs) sl) (hslX : ∀ z, blkOf sl = some z → z ≠ X3) (hn : n ≤ 20) (hXS : A.get XS = some (.cells S.cells r1)) (hF : A.get XF = some (.cells [fa, fb, .int .i64 (holdS S zs n).may, .int .i64 (holdS S zs n).must] false)) (hfa : RdS A 2 (n + 1) (ints (crL S zs (n + 1))) fa) (hfb : RdS A 2 (n + 1) (ints (stL S zs (n + 1))) fb)
    (hfaX : ∀ z, blkOf fa = some z → z ≠ X3) (hfbX : ∀ z, blkOf fb = some z → z ≠ X3) (h7 : A.get X7 = some (.cells [chF X3 X1] r7)) (hc : Ch A X3 X1 kk) (hkk : kk ≤ 1000) (hS : WallOk S) (hl : LevOk n zs) (hliv : Liv (holdS S zs n) n c h f) (n1 : XS ≠ X3) (n2 : XS ≠ X1) (n4 : X7 ≠ X3) (n5 : X7 ≠ X1) (n6 : XF ≠ X3) (hgX : g ≤ X3)
    (hQ : ∀ T' A', tget T' 2 = .bool true → Q .ret ⟨T', D, A'⟩) : W AP KL g rd pR119 ⟨T, D, A⟩ Q := by
  rw [eqR119, W_seq]
  refine F119_ok t5 t10 hF hliv fun T1 k1 => ?_
  have hX3n := Hp.lt_of_get hc.next
  have hXSn := Hp.lt_of_get hXS
  have hXFn := Hp.lt_of_get hF
  have h7n := Hp.lt_of_get h7
  have u3 := (k1.at 3 rfl).trans t3
  have u4 := (k1.at 4 rfl).trans t4
  have u5 := (k1.at 5 rfl).trans t5
  have u7 := (k1.at 7 rfl).trans t7
  have u59 := (k1.at 59 rfl).trans t59
  have hSc : partA S.cells 0 (some 8) = some (.agg ⟨S.cells⟩) := rfl
  simp only [SeqQ_normal]
  simp (disch := as_aux_lemma => first | omega | simp only [hDs] <;> omega | simp [isCell]) [hRs, takeMarks, resA, resAll, resOne, Value.cells, pM119, u3, hXS, hSc, Sec.cells, storeB_cells, setRange, set_push_eq]
  obtain ⟨B, hB⟩ : ∃ B, B = A.push (.cells S.cells false) := ⟨_, rfl⟩
  have hB' : A.push (.cells [.int .i64 S.cell, .int .i64 S.cl, .int .i64 S.ch, .int .i64 S.sl, .int .i64 S.sh, .int .i64 S.toe, .int .i64 S.wl, .int .i64 S.wh] false) = B := hB.symm
  rw [hB']
  have hBn : B.n = A.n + 1 := by rw [hB]; rfl
  have eB : Ext' A B := by rw [hB]; exact Ext'.push A _
  have hN : B.get A.n = some (.cells S.cells false) := by rw [hB, get_push_new]
  simp (disch := as_aux_lemma => first | omega | simp only [hDs] <;> omega | simp [isCell]) [hRs, takeMarks, resA, resAll, resOne, Value.cells, pN119, u7]
  refine O119_ok (XS := XS) (XN := A.n) (X7 := X7) (X3 := X3) (X1 := X1) (S := S) (kk := kk) (by simp [u3]) (by simp) (by simp) (by simp [u59]) (eB.get hXS) hN (eB.get h7) (hc.ext eB) (by omega) hS n1 n2 (by omega) n4 n5 hgX (by omega) ?_ ?_
  · intro A' k hn' ho hx hk'
    exact hc.but ⟨by omega, fun z hz hzX => (ho z (by omega) hzX (by omega)).trans (eB.2 z hz)⟩ hx hk'
  · intro T2 A2 P k2 hnar hN2 hc2 hn2 ho2
    have o2 : ∀ z, z < A.n → z ≠ X3 → A2.get z = A.get z := fun z hz hzX => (ho2 z (by omega) hzX (by omega)).trans (eB.2 z hz)
    have keep : ∀ {k m : Nat} {cs : List Value} {v : Value}, RdS A k m cs v → (∀ z, blkOf v = some z → z ≠ X3) → RdS A2 k m cs v := fun {_ _ _ _} h hx => h.keepB fun z hz => o2 z (h.blk_lt hz) (hx z hz)
    simp only [SeqQ_normal]
    exact Q119_ok (S := S) (P := P) (zs := zs) (n := n) (by rw [k2.at 4 rfl]; simp [u4]) (by rw [k2.at 5 rfl]; simp [u5]) (by rw [k2.at 12 rfl]; simp) (by rw [k2.at 13 rfl]; simp) (keep hsl hslX) hslX hn ((o2 XF hXFn n6).trans hF) (keep hfa hfaX) (keep hfb hfbX) hfaX hfbX hN2 ((o2 X7 h7n n4).trans h7) hc2 (by omega) hS hl hnar (by omega) n4 n5 n6 hgX hQ
end
end Go.Ab.Dike
namespace Go.Ab.Dike
open Go Go.Ab
def pI119 : ACode := (.ops [
oP 1 (.box (.t 0)),
oP 2 (.move (.k (.bool false)))])
def pG119 : ACode := (.seq
 (.ops [
oF 21 1 7,
oL 22 21,
oP 23 (.len (.t 22)),
oC 24 .gtr 23 20])
 (.cond (.t 24)
 (.seq
 (.ops [
oA 25 121 [] false,
oM 2 25])
 .ret)
 .skip))
def pA119 : ACode := (.ops [
oD 27 1 10,
oA 28 137 [.t 27, .k (.int .i64 0)] false,
oM 26 28,
oX 29 26 0,
oX 30 26 1,
oP 3 (.alloc [.int .i64 0, .int .i64 0, .int .i64 0, .int .i64 0, .int .i64 0, .int .i64 0, .int .i64 0, .int .i64 0]),
oT 3 29 8,
oM 4 30])
def pB119 : ACode := (.ops [
oD 32 3 8,
oM 33 4,
oA 34 122 [.t 32, .t 33] false,
oM 31 34,
oX 35 31 0,
oX 36 31 1,
oP 5 (.alloc [.slice none 0 0, .slice none 0 0, .int .i64 0, .int .i64 0]),
oT 5 35 4,
oM 6 36])
def pC119 : ACode := (.seq
 (.ops [
oM 37 6,
oC 38 .neq 37 0,
oM 39 38,
oQ 40 39 false (.fieldAddr (.t 5) 0),
oQ 41 39 false (.load (.t 40) none),
oQ 42 39 false (.len (.t 41)),
oN 43 39 false 4,
oQ 44 39 false (.len (.t 43)),
oQ 45 39 false (.bin .add (.t 44) (oK 1)),
oQ 46 39 false (.bin .neq (.t 42) (.t 45)),
oP 47 (.pick (.t 39) (.k (.bool true)) (.t 46)),
oM 48 47,
oQ 49 48 false (.fieldAddr (.t 5) 1),
oQ 50 48 false (.load (.t 49) none),
oQ 51 48 false (.len (.t 50)),
oN 52 48 false 4,
oQ 53 48 false (.len (.t 52)),
oQ 54 48 false (.bin .add (.t 53) (oK 1)),
oQ 55 48 false (.bin .neq (.t 51) (.t 54)),
oP 56 (.pick (.t 48) (.k (.bool true)) (.t 55))])
 (.cond (.t 56)
 (.seq
 (.ops [
oP 2 (.move (.k (.bool false)))])
 .ret)
 .skip))
def pD119 : ACode := (.ops [
oF 57 1 9,
oL 58 57,
oA 59 138 [.t 58] false,
oP 7 (.alloc [.nilFunc]),
oT 7 59 1])
def pE119 : ACode := (.ops [
oD 61 3 8,
oM 62 4,
oL 63 7,
oA 64 139 [.t 61, .t 62, .t 63] false,
oM 60 64,
oX 65 60 0,
oX 66 60 1,
oX 67 60 2,
oM 8 65,
oM 9 66,
oM 10 67])
def pL119 : ACode := (.seq
 (.ops [
oM 68 8,
oP 69 (.len (.t 68)),
oP 70 (.move (oK 0))])
 (.block 0
 (.loop
 (.seq
 (.ops [
oB 71 .lss 70 69])
 (.seq
 (.cond (.t 71)
 .skip
 (.exit 0))
 (.seq
 (.block 1
 (.seq
 (.ops [
oM 72 70,
oM 11 72])
 (.seq
 (.ops [
oM 73 8,
oM 74 11,
oI 75 73 74 1,
oL 76 75,
oM 77 8,
oM 78 11,
oI 79 77 78 1,
oL 80 79,
oA 81 141 [.t 76, .t 80] true,
oF 82 5 0,
oL 83 82,
oM 84 11,
oI 85 83 84 2,
oD 86 85 2,
oA 87 140 [.t 81, .t 86] false,
oP 88 (.not (.t 87)),
oM 89 88,
oN 90 89 false 9,
oN 91 89 false 11,
oQ 92 89 false (.idxS (.t 90) (.t 91) 1),
oQ 93 89 false (.load (.t 92) none),
oN 94 89 false 9,
oN 95 89 false 11,
oQ 96 89 false (.idxS (.t 94) (.t 95) 1),
oQ 97 89 false (.load (.t 96) none),
oQ 98 89 false (.call (.k (.func (.func 141) ⟨[]⟩ ⟨[]⟩)) [.t 93, .t 97] true),
oQ 99 89 false (.fieldAddr (.t 5) 1),
oQ 100 89 false (.load (.t 99) none),
oN 101 89 false 11,
oQ 102 89 false (.idxS (.t 100) (.t 101) 2),
oQ 103 89 false (.load (.t 102) (some 2)),
oQ 104 89 false (.call (.k (.func (.func 140) ⟨[]⟩ ⟨[]⟩)) [.t 98, .t 103] false),
oQ 105 89 false (.not (.t 104)),
oP 106 (.pick (.t 89) (.k (.bool true)) (.t 105))])
 (.cond (.t 106)
 (.seq
 (.ops [
oP 2 (.move (.k (.bool false)))])
 .ret)
 .skip))))
 (.ops [
oC 107 .add 70 1,
oM 70 107])))))))
theorem eq119 : F119 = .fn 262 [.tmp 2] (.seq pI119 (.seq pG119 (.seq pA119 (.seq pB119 (.seq pC119 (.seq pD119 (.seq pE119 (.seq pL119 pR119)))))))) := rfl
section
variable {g : Nat} {A : Hp} {V : Value → Hp → Prop}
theorem law119 {n : Nat} {cs : List Value} (hw : WallIn A cs n) (hg : g ≤ A.n) (hV : ∀ A', V (.bool true) A') : WF AP KL g 119 [.agg ⟨cs⟩] A V := by
  rw [WF_body (show KL 119 = none from rfl) ((show AP 119 = some F119 from rfl).trans (congrArg some eq119))]
  obtain ⟨cr, st, toe, m0, m1, m2, wear, lv, wd, tr, m, q, xs, ys, us, hcs, h1, h2, h3, h4, h5, h6, h7, hlv, hxs, hwd, hm, hys, htr, hq, hus⟩ := hw.e
  obtain ⟨B, hB⟩ : ∃ B, B = A.push (.cells cs false) := ⟨_, rfl⟩
  have hBn : B.n = A.n + 1 := by rw [hB]; rfl
  have eB : Ext' A B := by rw [hB]; exact Ext'.push A _
  have hX : B.get A.n = some (.cells cs false) := by rw [hB, get_push_new]
  have hwB : WallIn B cs n := ⟨cr, st, toe, m0, m1, m2, wear, lv, wd, tr, m, q, xs, ys, us, hcs, h1, h2, h3, h4, h5, h6, h7, eB.rdS hlv, hxs, eB.rdS hwd, hm, hys, eB.rdS htr, hq, hus⟩
  have hc7 : cellAt cs 7 = some lv := by rw [hcs]; rfl
  have hc9 : cellAt cs 9 = some tr := by rw [hcs]; rfl
  have hca : partA cs 0 (some 10) = some (.agg ⟨cs⟩) := by rw [hcs]; rfl
  by_cases c1 : (20 : Int) < n
  · simp (disch := as_aux_lemma => first | omega | simp only [hDs] <;> omega | simp [isCell]) [hRs, takeMarks, resA, resAll, resOne, Value.cells, pI119, pG119, ← hB, hX, hc7, hlv.len, c1]
    exact hV _
  · simp (disch := as_aux_lemma => first | omega | simp only [hDs] <;> omega | simp [isCell]) [hRs, takeMarks, resA, resAll, resOne, Value.cells, pI119, pG119, ← hB, hX, hc7, hlv.len, c1]
    simp (disch := as_aux_lemma => first | omega | simp only [hDs] <;> omega | simp [isCell]) [hRs, takeMarks, resA, resAll, resOne, Value.cells, pA119, hX, hca]
    refine w137 hwB (by omega) (by omega) fun S zs sv A1 _ hS hl e1 hacc => ?_
    have n1 := e1.1
    have hX1 := e1.get hX
    have hSc : partA S.cells 0 (some 8) = some (.agg ⟨S.cells⟩) := rfl
    have hsl0 : RdS A1 2 n (ints zs) sv := hacc.rd (by rw [ints_length]; exact hl.1) (by decide)
    simp (disch := as_aux_lemma => first | omega | simp only [hDs] <;> omega | simp [isCell]) [hRs, takeMarks, resA, resAll, resOne, Value.cells, Sec.cells, storeB_cells, setRange, set_push_eq]
    obtain ⟨A2, hA2⟩ : ∃ A2, A2 = A1.push (.cells S.cells false) := ⟨_, rfl⟩
    have hA2' : A1.push (.cells [.int .i64 S.cell, .int .i64 S.cl, .int .i64 S.ch, .int .i64 S.sl, .int .i64 S.sh, .int .i64 S.toe, .int .i64 S.wl, .int .i64 S.wh] false) = A2 := hA2.symm
    rw [hA2']
    have e2 : Ext' A1 A2 := by rw [hA2]; exact Ext'.push A1 _
    have hA2n : A2.n = A1.n + 1 := by rw [hA2]; rfl
    have hXS : A2.get A1.n = some (.cells S.cells false) := by rw [hA2, get_push_new]
    have hsl := e2.rdS hsl0
    simp (disch := as_aux_lemma => first | omega | simp only [hDs] <;> omega | simp [isCell]) [hRs, takeMarks, resA, resAll, resOne, Value.cells, pB119, hXS, hSc]
    refine w122 hsl (by omega) (by omega) fun v A3 e3 hout => ?_
    have n3 := e3.1
    rcases hout with ⟨he, _⟩ | ⟨he, fa, fb, rfl, hfa, hfb⟩
    · exact absurd (hold_ok hS hl (by omega)) he
    · have rfa := hfa.rd (n := n + 1) (by rw [ints_length, crL_length]) (by decide)
      have rfb := hfb.rd (n := n + 1) (by rw [ints_length, stL_length]) (by decide)
      obtain ⟨p1, d1, rfl⟩ := rfa.isSlice
      obtain ⟨p2, d2, rfl⟩ := rfb.isSlice
      obtain ⟨s, hs⟩ : ∃ s, s = holdS S zs n := ⟨_, rfl⟩
      rw [← hs]
      simp (disch := as_aux_lemma => first | omega | simp only [hDs] <;> omega | simp [isCell]) [hRs, takeMarks, resA, resAll, resOne, Value.cells, fateV, storeB_cells, setRange, set_push_eq]
      obtain ⟨A4, hA4⟩ : ∃ A4, A4 = A3.push (.cells [.slice p1 (n + 1) d1, .slice p2 (n + 1) d2, .int .i64 s.may, .int .i64 s.must] false) := ⟨_, rfl⟩
      rw [← hA4]
      have e4 : Ext' A3 A4 := by rw [hA4]; exact Ext'.push A3 _
      have hA4n : A4.n = A3.n + 1 := by rw [hA4]; rfl
      have hXF : A4.get A3.n = some (.cells [.slice p1 (n + 1) d1, .slice p2 (n + 1) d2, .int .i64 s.may, .int .i64 s.must] false) := by rw [hA4, get_push_new]
      have l1 := rfa.len
      have l2 := rfb.len
      have l3 := hsl.len
      have w1 := wrId (n := (n : Int) + 1) (by omega) (by omega)
      have hX4 := ((e2.trans e3).trans e4).get hX1
      simp (disch := as_aux_lemma => first | omega | simp only [hDs] <;> omega | simp [isCell]) [hRs, takeMarks, resA, resAll, resOne, Value.cells, pC119, hXF, l1, l2, l3, w1]
      simp (disch := as_aux_lemma => first | omega | simp only [hDs] <;> omega | simp [isCell]) [hRs, takeMarks, resA, resAll, resOne, Value.cells, pD119, hX4, hc9]
      have e04 := eB.trans (((e1.trans e2).trans e3).trans e4)
      refine w138 (e04.rdS htr) hq hus (by omega) fun A5 X3 X1 e5 hc5 x1 x2 x3 => ?_
      have n5 := e5.1
      have hXS5 := ((e3.trans e4).trans e5).get hXS
      have hX1n : X1 < A5.n := by obtain ⟨_, _, _, _, z, _⟩ := hc5.list; exact Hp.lt_of_get z
      obtain ⟨A6, hA6⟩ : ∃ A6, A6 = A5.push (.cells [chF X3 X1] false) := ⟨_, rfl⟩
      have e6 : Ext' A5 A6 := by rw [hA6]; exact Ext'.push A5 _
      have hA6n : A6.n = A5.n + 1 := by rw [hA6]; rfl
      have hX7 : A6.get A5.n = some (.cells [chF X3 X1] false) := by rw [hA6, get_push_new]
      have hXS6 := e6.get hXS5
      have e26 := e3.trans (e4.trans (e5.trans e6))
      have hX7' : A6.get A5.n = some (.cells [.func (.func 172) ⟨[]⟩ ⟨[.pointer (some ⟨X3, 0, none⟩), .pointer (some ⟨X1, 0, none⟩)]⟩] false) := hX7
      have hA6' : A5.push (.cells [.func (.func 172) ⟨[]⟩ ⟨[.pointer (some ⟨X3, 0, none⟩), .pointer (some ⟨X1, 0, none⟩)]⟩] false) = A6 := hA6.symm
      simp (disch := as_aux_lemma => first | omega | simp only [hDs] <;> omega | simp [isCell]) [hRs, takeMarks, resA, resAll, resOne, Value.cells, chF, storeB_cells, setRange, set_push_eq, hA6']
      simp (disch := as_aux_lemma => first | omega | simp only [hDs] <;> omega | simp [isCell]) [hRs, takeMarks, resA, resAll, resOne, Value.cells, pE119, hXS6, hX7', hSc]
      have bsl : ∀ z, blkOf sv = some z → z < A2.n := fun z hz => hsl.blk_lt hz
      have bfa : ∀ z, blkOf (.slice p1 (n + 1) d1) = some z → z < A3.n := fun z hz => rfa.blk_lt hz
      have bfb : ∀ z, blkOf (.slice p2 (n + 1) d2) = some z → z < A3.n := fun z hz => rfb.blk_lt hz
      refine w139 (S := S) (e26.rdS hsl) (fun z hz => by have := bsl z hz; omega) hS hl (by omega) (hc5.ext e6) (by omega) (by omega) (by omega) fun A7 kk c h f cL hL sa sb b7 hc7 hk7 hliv hlst ra rb => ?_
      have n7 := b7.1
      have keep : ∀ {k m : Nat} {cs : List Value} {v : Value}, RdS A6 k m cs v → (∀ z, blkOf v = some z → z ≠ X3) → RdS A7 k m cs v := fun {_ _ _ _} h hx => h.keepB fun z hz => b7.2 z (h.blk_lt hz) (hx z hz)
      have e36 := e4.trans (e5.trans e6)
      have hXF7 := (b7.2 A3.n (by omega) (by omega)).trans ((e5.trans e6).get hXF)
      have hXS7 := (b7.2 A1.n (by omega) (by omega)).trans hXS6
      have hX77 := (b7.2 A5.n (by omega) (by omega)).trans hX7
      have rfa7 := keep (e36.rdS rfa) (fun z hz => by have := bfa z hz; omega)
      have rfb7 := keep (e36.rdS rfb) (fun z hz => by have := bfb z hz; omega)
      have rsl7 := keep (e26.rdS hsl) (fun z hz => by have := bsl z hz; omega)
      have hla := ra.len
      simp (disch := as_aux_lemma => first | omega | simp only [hDs] <;> omega | simp [isCell]) [hRs, takeMarks, resA, resAll, resOne, Value.cells, pL119, hla]
      refine loop119a (A0 := A7) (S := S) (XF := A3.n) (n := n) (zs := zs) (cL := cL) (hL := hL) ra rb hlst hXF7 rfa7 rfb7 (by omega) (by omega) ?_ (T := _) ?_ ?_ ?_ (n + 1) 0 (by omega) (fun _ _ => rfl) (Ext'.refl _) (by simp) (by simp)
      · intro T8 A8 k8 e8
        have v3 := k8.at 3 rfl
        have v4 := k8.at 4 rfl
        have v5 := k8.at 5 rfl
        have v7 := k8.at 7 rfl
        have v10 := k8.at 10 rfl
        have v59 := k8.at 59 rfl
        simp at v3 v4 v5 v7 v10 v59
        simp only [BlkQ_exit, SeqQ_normal, if_true]
        rw [hs] at hXF7
        refine R119_ok (XS := A1.n) (XF := A3.n) (X7 := A5.n) (X3 := X3) (X1 := X1) (S := S) (zs := zs) (n := n) v3 v4 v5 v7 v10 v59 (e8.rdS rsl7) (fun z hz => by have := bsl z hz; omega) (by omega) (e8.get hXS7) (e8.get hXF7) (e8.rdS rfa7) (e8.rdS rfb7) (fun z hz => by have := bfa z hz; omega) (fun z hz => by have := bfb z hz; omega) (e8.get hX77) (hc7.ext e8) (by omega) hS hl hliv (by omega) (by omega) (by omega) (by omega) (by omega) (by omega) fun T' A' t2 => ?_
        simp (disch := as_aux_lemma => first | omega | simp only [hDs] <;> omega | simp [isCell]) [hRs, takeMarks, resA, resAll, resOne, Value.cells, t2]
        exact hV _
      · simp
      · simp
      · simp
end
end Go.Ab.Dike
namespace Go.Ab.Dike
open Go Go.Ab
def tWall : Ty := .pair (.int .i16) (.pair (.int .i16) (.pair (.int .i16) (.pair (.rep 3 (.int .u8)) (.pair (.int .u8) (.pair (.slice (.int .i16)) (.pair (.slice (.int .u8)) (.pair (.slice (.int .u8)) .unit)))))))
theorem sh_wall {rows : List (List Value)} {cs : List Value} (h : Sh rows tWall cs) : ∃ n, mkV tWall cs = .agg ⟨cs⟩ ∧ WallIn (roHp rows) cs n := by
  refine ?_
  obtain ⟨_, _, rfl, h1, ⟨_, _, rfl, h2, ⟨_, _, rfl, h3, ⟨_, _, rfl, ⟨_, _, rfl, a1, ⟨_, _, rfl, a2, ⟨_, _, rfl, a3, rfl⟩⟩⟩, ⟨_, _, rfl, h5, ⟨_, _, rfl, h6, ⟨_, _, rfl, h7, ⟨_, _, rfl, h8, rfl⟩⟩⟩⟩⟩⟩⟩⟩ := h
  obtain ⟨c, rfl, hc⟩ := sh_int h1
  obtain ⟨s, rfl, hs⟩ := sh_int h2
  obtain ⟨t, rfl, ht⟩ := sh_int h3
  obtain ⟨m0, rfl, b0⟩ := sh_int a1
  obtain ⟨m1, rfl, b1⟩ := sh_int a2
  obtain ⟨m2, rfl, b2⟩ := sh_int a3
  obtain ⟨w, rfl, hw⟩ := sh_int h5
  obtain ⟨n, xs, lv, rfl, hlv, hn, hx⟩ := sh_slice_k (k := .i16) (e := .int .i16) rfl h6
  obtain ⟨m, ys, wd, rfl, hwd, hm, hy⟩ := sh_slice_k (k := .u8) (e := .int .u8) rfl h7
  obtain ⟨q, us, tr, rfl, htr, hq, hu⟩ := sh_slice_k (k := .u8) (e := .int .u8) rfl h8
  have e1 : IntKind.i16.min = -32768 := by decide
  have e2 : IntKind.i16.max = 32767 := by decide
  have e3 : IntKind.u8.min = 0 := by decide
  have e4 : IntKind.u8.max = 255 := by decide
  have e5 : maxLen < 9223372036854775808 := by decide
  rw [e1, e2] at hc hs ht
  rw [e3, e4] at b0 b1 b2 hw
  simp only [e1, e2] at hx
  simp only [e3, e4] at hy hu
  exact ⟨n, rfl, ⟨c, s, t, m0, m1, m2, w, lv, wd, tr, m, q, xs, ys, us, rfl, hc, hs, ht, b0, b1, b2, hw, hlv, gi_rng hx (by decide) (by decide), hwd, Nat.lt_of_le_of_lt hm e5, gi_rng hy (by decide) (by decide), htr, Nat.lt_of_le_of_lt hq e5, gi_rng hu (by decide) (by decide)⟩⟩
end Go.Ab.Dike
