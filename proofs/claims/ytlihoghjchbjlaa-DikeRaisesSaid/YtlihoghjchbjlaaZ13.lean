/- DikeRaises. -/
import Derived.Test.YtlihoghjchbjlaaZ12
import Derived.Test.YtlihoghjchbjlaaZ11
set_option linter.unusedSimpArgs false
set_option linter.unusedVariables false
set_option linter.unusedSectionVars false
namespace Go.Ab.Dike
open Go Go.Ab
theorem _root_.Go.Ab.RdS.cellsAt {A : Hp} {k n : Nat} {cs : List Value} {sv : Value} (h : RdS A k n cs sv) : cellsAt A (n * k) sv = some cs := by
  obtain ⟨h0, ⟨rfl, rfl⟩ | ⟨b, c, ro, rfl, hb⟩⟩ := h
  · have : cs = [] := List.eq_nil_of_length_eq_zero (by simpa using h0)
    subst this; simp [Go.Ab.cellsAt]
  · simp only [Go.Ab.cellsAt, hb]
    rw [if_pos (by omega)]
    simp [← h0]
theorem copy_fresh {g k bytes m : Nat} {A : Hp} {cs : List Value} {src : Value} (h : RdS A k m cs src) (hcell : cs.all isCell = true) (hg : g ≤ A.n) (hk : 0 < k) (hr : m * bytes ≤ room ∧ m ≤ room) :
    ∃ Y c A', appendA g (A.push (.cells [] false)) k bytes (.slice (some ⟨A.n, 0, some k⟩) 0 0) src = some (.slice (some ⟨Y, 0, some k⟩) m c, A') ∧ Ext' A A' ∧ A'.get Y = some (.cells cs false) ∧ A.n ≤ Y := by
  have e1 := Ext'.push A (.cells [] false)
  have hc := (h.push (x := .cells [] false)).cellsAt
  obtain ⟨p, c, rfl⟩ := h.isSlice
  unfold appendA
  simp only [hc]
  rw [if_pos ⟨hcell, hk⟩]
  by_cases hm : m = 0
  · subst hm
    rw [if_pos rfl]
    refine ⟨_, _, _, rfl, e1, ?_, Nat.le_refl _⟩
    have : cs = [] := List.eq_nil_of_length_eq_zero (by have := h.1; simpa using this)
    rw [get_push_new, this]
  · rw [if_neg hm]
    simp only [get_push_new]
    rw [if_pos ⟨hg, by simpa using hr.1, by simpa using hr.2, trivial⟩, if_pos (by simp)]
    refine ⟨A.n + 1, m, ((A.push (.cells [] false)).set A.n none).push (.cells cs false), by simp, ⟨by simp; omega, fun z hz => ?_⟩, by rw [get_push_eq (by simp)], by omega⟩
    rw [get_push_old (by simp; omega), get_set_ne (by simp) (by omega), get_push_old hz]
theorem gridE_zero {w h s : Int} {m : Nat} {zs : List Int} (h0 : gridE w h s m zs = 0) : 0 < m := by
  unfold gridE at h0
  split at h0
  · cases h0
  · rename_i hc
    split at h0
    · cases h0
    · rename_i hm
      have hm' : (m : Int) = wr .i64 (w * h) := Decidable.not_not.1 hm
      simp only [not_or, Bool.not_eq_false, Bool.and_eq_true, decide_eq_true_eq] at hc
      obtain ⟨⟨a1, a2⟩, ⟨b1, b2⟩, _⟩ := hc
      have l1 : 1 ≤ w * h := by have := Int.mul_le_mul a1 b1 (by decide) (by omega); simpa using this
      have l2 : w * h ≤ 576 := by have := Int.mul_le_mul a2 b2 (by omega) (by decide); simpa using this
      rw [wrId (by omega) (by omega)] at hm'
      omega
theorem check_zero {w h s : Int} {m n : Nat} {zs ss : List Int} (h0 : checkE w h s m zs n ss = 0) : 0 < m ∧ n ≤ 256 ∧ ∀ i, i < n → ∃ c : Nat, gi ss (i * 8) = (c : Int) ∧ c < m := by
  unfold checkE at h0
  split at h0
  · rename_i h'; exact absurd h0 h'
  · rename_i h1
    split at h0
    · cases h0
    · refine ⟨gridE_zero (Decidable.not_not.1 h1), by omega, fun i hi => ?_⟩
      have := firstE_all h0 i hi
      unfold stepE at this
      split at this
      · cases this
      · rename_i h2
        exact ⟨(gi ss (i * 8)).toNat, by omega, by omega⟩
def raiseE (w h s : Int) (m : Nat) (zs : List Int) (n : Nat) (ss : List Int) (nf : Nat) (F : Nat → FT) (step : Int) : Int :=
  if checkE w h s m zs n ss ≠ 0 then checkE w h s m zs n ss else if nf ≠ n then 11 else if step < 0 then 3 else firstE (fateE F step) nf
theorem raiseE_a {w h s : Int} {m : Nat} {zs : List Int} {n : Nat} {ss : List Int} {nf : Nat} {F : Nat → FT} {step : Int} (h1 : checkE w h s m zs n ss ≠ 0) : raiseE w h s m zs n ss nf F step = checkE w h s m zs n ss := if_pos h1
theorem raiseE_b {w h s : Int} {m : Nat} {zs : List Int} {n : Nat} {ss : List Int} {nf : Nat} {F : Nat → FT} {step : Int} (h1 : checkE w h s m zs n ss = 0) (h2 : nf ≠ n) : raiseE w h s m zs n ss nf F step = 11 := by rw [raiseE, if_neg (fun h => h h1), if_pos h2]
theorem raiseE_c {w h s : Int} {m : Nat} {zs : List Int} {n : Nat} {ss : List Int} {nf : Nat} {F : Nat → FT} {step : Int} (h1 : checkE w h s m zs n ss = 0) (h2 : nf = n) (h3 : step < 0) : raiseE w h s m zs n ss nf F step = 3 := by rw [raiseE, if_neg (fun h => h h1), if_neg (fun h => h h2), if_pos h3]
theorem raiseE_d {w h s : Int} {m : Nat} {zs : List Int} {n : Nat} {ss : List Int} {nf : Nat} {F : Nat → FT} {step : Int} (h1 : checkE w h s m zs n ss = 0) (h2 : nf = n) (h3 : ¬ step < 0) : raiseE w h s m zs n ss nf F step = firstE (fateE F step) nf := by rw [raiseE, if_neg (fun h => h h1), if_neg (fun h => h h2), if_neg h3]
def RaiseOut (w h s : Int) (m : Nat) (zs : List Int) (n : Nat) (ss : List Int) (nf : Nat) (F : Nat → FT) (step : Int) (v : Value) (A' : Hp) : Prop :=
  (raiseE w h s m zs n ss nf F step ≠ 0 ∧ v = .tuple ⟨[gridV 0 0 0 (.slice none 0 0), .int .i64 (raiseE w h s m zs n ss nf F step)]⟩) ∨
  (raiseE w h s m zs n ss nf F step = 0 ∧ ∃ sl, v = .tuple ⟨[gridV w h s sl, .int .i64 0]⟩ ∧ RdS A' 2 m (ints (raiseL ss F step.toNat zs n)) sl)
section
variable {g : Nat} {rd : Option Nat} {T : List Value} {D : List Nat} {A : Hp} {Q : Ex → St → Prop} {V : Value → Hp → Prop}
theorem w161 {m : Nat} {zs : List Int} {sl : Value} (hsl : RdS A 2 m (ints zs) sl) (hm : 0 < m) (hm2 : m < 1000000) (hg : g ≤ A.n) (hV : ∀ Y c A', Ext' A A' → A'.get Y = some (.cells (ints zs) false) → A.n ≤ Y → V (.slice (some ⟨Y, 0, some 2⟩) m c) A') : WF AP KL g 161 [sl] A V := by
  rw [WF_body (show KL 161 = none from rfl) (show AP 161 = some F161 from rfl)]
  obtain ⟨x, c, ro, rfl, hx⟩ := hsl.at hm
  obtain ⟨Y, c', A', ha, he, hY, hAY⟩ := copy_fresh (g := g) (bytes := 16) hsl (ints_isCell zs) hg (by decide) (by unfold room; omega)
  simp (disch := as_aux_lemma => first | omega | simp only [hDs] <;> omega | simp [isCell]) [hRs, takeMarks, resA, resAll, resOne, Value.cells, F161, slitA, fillA, eqNilA, isNil, show zeros 0 [Value.int IntKind.i64 0, Value.int IntKind.i64 0] = [] from rfl, ha]
  exact hV Y c' A' he hY hAY
theorem w126 {w h s step : Int} {m n nf : Nat} {zs ss : List Int} {F : Nat → FT} {gr sl fl : Value} (hgr : RdS A 2 m (ints zs) gr) (hm : m < 1000000) (hsl : RdS A 8 n (ints ss) sl) (hn : n < 1000000) (hfl : Fates A nf F fl) (hnf : nf < 1000000) (hg : g ≤ A.n)
    (hV : ∀ v A', Ext' A A' → RaiseOut w h s m zs n ss nf F step v A' → V v A') : WF AP KL g 126 [gridV w h s gr, sl, fl, .int .i64 step] A V := by
  rw [WF_body (show KL 126 = none from rfl) (show AP 126 = some F126 from rfl)]
  obtain ⟨B, hB⟩ : ∃ B, B = (A.push (.cells [.int .i64 w, .int .i64 h, .int .i64 s, gr] false)).push zGrid := ⟨_, rfl⟩
  have hBn : B.n = A.n + 2 := by rw [hB]; rfl
  have eB : Ext' A B := by rw [hB]; exact (Ext'.push A _).trans (Ext'.push _ _)
  have hX : B.get A.n = some (.cells [.int .i64 w, .int .i64 h, .int .i64 s, gr] false) := by rw [hB, get_push_old (by simp), get_push_new]
  have h8 : B.get (A.n + 1) = some zGrid := by rw [hB, get_push_eq (by simp)]
  have hB' : B = (A.push (.cells [.int .i64 w, .int .i64 h, .int .i64 s, gr] false)).push (.cells [.int .i64 0, .int .i64 0, .int .i64 0, .slice none 0 0] false) := hB
  have bad : ∀ (A2 : Hp) (e : Int), A2.get (A.n + 1) = some zGrid → But (A.n + 1) B A2 → raiseE w h s m zs n ss nf F step = e → e ≠ 0 → V (.tuple ⟨[gridV 0 0 0 (.slice none 0 0), .int .i64 e]⟩) A2 := by
    intro A2 e _ he hh h0
    have := he.1
    refine hV _ _ ⟨by omega, fun z hz => ?_⟩ (.inl ⟨by rw [hh]; exact h0, by rw [hh]⟩)
    rw [he.2 z (by omega) (by omega), eB.2 z hz]
  simp (disch := as_aux_lemma => first | omega | simp only [hDs] <;> omega | simp [isCell]) [hRs, takeMarks, resA, resAll, resOne, Value.cells, F126, gridV, ← hB', hX]
  refine w128 (eB.rdS hgr) hm (eB.rdS hsl) hn (by omega) fun A1 e1 => ?_
  have n1 := e1.1
  have g8 := e1.get h8
  by_cases c1 : checkE w h s m zs n ss = 0
  · obtain ⟨hm0, hn256, hcell⟩ := check_zero c1
    by_cases c2 : nf = n
    · subst c2
      by_cases c3 : step < 0
      · have gs := get_set_same (b := some (.cells [.int .i64 0, .int .i64 0, .int .i64 0, .slice none 0 0] false)) g8
        simp (disch := as_aux_lemma => first | omega | simp only [hDs] <;> omega | simp [isCell]) [hRs, takeMarks, resA, resAll, resOne, Value.cells, c1, hfl.len, hsl.len, c3, fillA, g8, storeB_cells, setRange, zGrid, gs]
        exact bad _ 3 gs (But.set (by omega) e1) (raiseE_c c1 rfl c3) (by decide)
      · have hE := raiseE_d (w := w) (h := h) (s := s) (m := m) (zs := zs) (ss := ss) (F := F) c1 rfl c3
        obtain ⟨st, hst⟩ : ∃ st : Nat, step = st := ⟨step.toNat, by omega⟩
        subst hst
        simp (disch := as_aux_lemma => first | omega | simp only [hDs] <;> omega | simp [isCell]) [hRs, takeMarks, resA, resAll, resOne, Value.cells, c1, hfl.len, hsl.len, c3]
        refine loop126a (A0 := A1) (X8 := A.n + 1) (n := nf) (F := F) (st := st) ((hfl.ext eB).ext e1) hnf g8 (by omega) ?_ ?_ (T := _) ?_ ?_ nf 0 (by omega) rfl (Ext'.refl _) (fun _ _ => rfl) (by simp) (by simp) (by simp)
        · intro T' A' e he hne hb g8' t8 t9
          simp (disch := as_aux_lemma => first | omega | simp only [hDs] <;> omega | simp [isCell]) [hRs, takeMarks, resA, resAll, resOne, Value.cells, t8, t9, g8', zGrid]
          exact bad A' e g8' ⟨by have := hb.1; omega, fun z hz hz8 => (hb.2 z (by omega) hz8).trans (e1.2 z hz)⟩ (by rw [hE]; exact he) hne
        · intro T' A2 he e2 hk
          have n2 := e2.1
          have u1 := hk.at 1 rfl
          have u2 := hk.at 2 rfl
          have u3 := hk.at 3 rfl
          have u4 := hk.at 4 rfl
          have u8 := hk.at 8 rfl
          simp at u1 u2 u3 u4 u8
          have hX2 := e2.get (e1.get hX)
          have g82 := e2.get g8
          have e02 := eB.trans (e1.trans e2)
          simp (disch := as_aux_lemma => first | omega | simp only [hDs] <;> omega | simp [isCell]) [hRs, takeMarks, resA, resAll, resOne, Value.cells, u4, hX2]
          refine w161 (e02.rdS hgr) hm0 hm (by omega) fun Y cY A3 e3 hY hY2 => ?_
          have n3 := e3.1
          have hX3 := e3.get hX2
          have hYn := Hp.lt_of_get hY
          simp (disch := as_aux_lemma => first | omega | simp only [hDs] <;> omega | simp [isCell]) [hRs, takeMarks, resA, resAll, resOne, Value.cells, u1, u4, hX3, storeB_cells, setRange, hsl.len]
          obtain ⟨A4, hA4⟩ : ∃ A4, A4 = A3.set A.n (some (gridB w h s Y m cY)) := ⟨_, rfl⟩
          have hA4' : A3.set A.n (some (.cells [.int .i64 w, .int .i64 h, .int .i64 s, .slice (some ⟨Y, 0, some 2⟩) m cY] false)) = A4 := hA4.symm
          rw [hA4']
          have hA4n : A4.n = A3.n := by rw [hA4]; rfl
          have o4 : ∀ z, z ≠ A.n → A4.get z = A3.get z := fun z hz => by rw [hA4, get_set_ne (by omega) hz]
          have hX4 : A4.get A.n = some (gridB w h s Y m cY) := by rw [hA4]; exact get_set_same hX3
          have e04 : Ext' A A4 := ⟨by omega, fun z hz => by rw [o4 z (by omega), e3.2 z (by omega), e02.2 z hz]⟩
          refine loop126 (A1 := A4) (X4 := A.n) (Y := Y) (N := A4.n) (n := nf) (m := m) (cY := cY) (st := st) (F := F) (zs := zs) (ss := ss) (sl := sl) (fl := fl) (w := w) (h := h) (s := s) ?_ hn (by have := hgr.1; rw [ints_length] at this; exact this) hcell (fun i hi => by have := fateE_len (firstE_all he i hi); omega) (by omega) (by omega) (by omega) (by omega) (by omega) ?_ (T := _) ?_ ?_ ?_ nf 0 (by omega) (fun _ _ => rfl) (by simp) (by simp) (by simp) (by rw [o4 Y (by omega)]; exact hY) (Nat.le_refl _) (fun z _ _ => rfl)
          · intro A' ho
            have hA' : ∀ z, z < A.n → A'.get z = A.get z := fun z hz => by rw [ho z (by omega) (by omega), e04.2 z hz]
            exact ⟨hsl.mono hA', hfl.mono hA', (ho A.n (by omega) (by omega)).trans hX4⟩
          · intro T5 A5 hk5 hY5 hN5 ho5
            have v4 := hk5.at 4 rfl
            have v8 := hk5.at 8 rfl
            simp [u4, u8] at v4 v8
            have hX5 : A5.get A.n = some (gridB w h s Y m cY) := (ho5 A.n (by omega) (by omega)).trans hX4
            have h85 : A5.get (A.n + 1) = some zGrid := by rw [ho5 _ (by omega) (by omega), o4 _ (by omega), e3.2 _ (by omega)]; exact g82
            have gs : ∀ b', (A5.set (A.n + 1) (some b')).get (A.n + 1) = some b' := fun b' => get_set_same h85
            unfold gridB at hX5
            unfold zGrid at h85
            simp (disch := as_aux_lemma => first | omega | simp only [hDs] <;> omega | simp [isCell]) [hRs, takeMarks, resA, resAll, resOne, Value.cells, v4, v8, hX5, h85, storeB_cells, setRange, gs]
            refine hV _ _ ⟨by simp; omega, fun z hz => ?_⟩ (.inr ⟨by rw [hE]; exact he, _, rfl, ?_⟩)
            · rw [get_set_ne (by omega) (by omega), ho5 z (by omega) (by omega), e04.2 z hz]
            · refine ⟨by rw [ints_length, raiseL_length]; have := hgr.1; rw [ints_length] at this; exact this, .inr ⟨Y, cY, false, rfl, ?_⟩⟩
              rw [get_set_ne (by omega) (by omega)]
              exact hY5
          · simp [u2]
          · simp [u3]
          · simp [u4]
        · simp
        · simp
    · have gs := get_set_same (b := some (.cells [.int .i64 0, .int .i64 0, .int .i64 0, .slice none 0 0] false)) g8
      simp (disch := as_aux_lemma => first | omega | simp only [hDs] <;> omega | simp [isCell]) [hRs, takeMarks, resA, resAll, resOne, Value.cells, c1, hfl.len, hsl.len, show ¬ (nf : Int) = n by omega, fillA, g8, storeB_cells, setRange, zGrid, gs]
      exact bad _ 11 gs (But.set (by omega) e1) (raiseE_b c1 c2) (by decide)
  · have gs := get_set_same (b := some (.cells [.int .i64 0, .int .i64 0, .int .i64 0, .slice none 0 0] false)) g8
    simp (disch := as_aux_lemma => first | omega | simp only [hDs] <;> omega | simp [isCell]) [hRs, takeMarks, resA, resAll, resOne, Value.cells, c1, fillA, g8, storeB_cells, setRange, zGrid, gs]
    exact bad _ _ gs (But.set (by omega) e1) (raiseE_a c1) c1
theorem w127 {w h s step : Int} {m n nf : Nat} {zs ss : List Int} {F : Nat → FT} {gr sl fl : Value} (hgr : RdS A 2 m (ints zs) gr) (hm : m < 1000000) (hsl : RdS A 8 n (ints ss) sl) (hn : n < 1000000) (hfl : Fates A nf F fl) (hnf : nf < 1000000) (hg : g ≤ A.n)
    (hV : ∀ v A', Ext' A A' → RaiseOut w h s m zs n ss nf F step v A' → V v A') : WF AP KL g 127 [gridV w h s gr, sl, fl, .int .i64 step] A V := by
  rw [WF_body (show KL 127 = none from rfl) (show AP 127 = some F127 from rfl)]
  obtain ⟨B, hB⟩ : ∃ B, B = (A.push (.cells [.int .i64 w, .int .i64 h, .int .i64 s, gr] false)).push zGrid := ⟨_, rfl⟩
  have hBn : B.n = A.n + 2 := by rw [hB]; rfl
  have eB : Ext' A B := by rw [hB]; exact (Ext'.push A _).trans (Ext'.push _ _)
  have hX : B.get A.n = some (.cells [.int .i64 w, .int .i64 h, .int .i64 s, gr] false) := by rw [hB, get_push_old (by simp), get_push_new]
  have h8 : B.get (A.n + 1) = some zGrid := by rw [hB, get_push_eq (by simp)]
  have hB' : B = (A.push (.cells [.int .i64 w, .int .i64 h, .int .i64 s, gr] false)).push (.cells [.int .i64 0, .int .i64 0, .int .i64 0, .slice none 0 0] false) := hB
  have bad : ∀ (A2 : Hp) (e : Int), A2.get (A.n + 1) = some zGrid → But (A.n + 1) B A2 → raiseE w h s m zs n ss nf F step = e → e ≠ 0 → V (.tuple ⟨[gridV 0 0 0 (.slice none 0 0), .int .i64 e]⟩) A2 := by
    intro A2 e _ he hh h0
    have := he.1
    refine hV _ _ ⟨by omega, fun z hz => ?_⟩ (.inl ⟨by rw [hh]; exact h0, by rw [hh]⟩)
    rw [he.2 z (by omega) (by omega), eB.2 z hz]
  simp (disch := as_aux_lemma => first | omega | simp only [hDs] <;> omega | simp [isCell]) [hRs, takeMarks, resA, resAll, resOne, Value.cells, F127, gridV, ← hB', hX]
  refine w129 (eB.rdS hgr) hm (eB.rdS hsl) hn (by omega) fun A1 e1 => ?_
  have n1 := e1.1
  have g8 := e1.get h8
  by_cases c1 : checkE w h s m zs n ss = 0
  · obtain ⟨hm0, hn256, hcell⟩ := check_zero c1
    by_cases c2 : nf = n
    · subst c2
      by_cases c3 : step < 0
      · have gs := get_set_same (b := some (.cells [.int .i64 0, .int .i64 0, .int .i64 0, .slice none 0 0] false)) g8
        simp (disch := as_aux_lemma => first | omega | simp only [hDs] <;> omega | simp [isCell]) [hRs, takeMarks, resA, resAll, resOne, Value.cells, c1, hfl.len, hsl.len, c3, fillA, g8, storeB_cells, setRange, zGrid, gs]
        exact bad _ 3 gs (But.set (by omega) e1) (raiseE_c c1 rfl c3) (by decide)
      · have hE := raiseE_d (w := w) (h := h) (s := s) (m := m) (zs := zs) (ss := ss) (F := F) c1 rfl c3
        obtain ⟨st, hst⟩ : ∃ st : Nat, step = st := ⟨step.toNat, by omega⟩
        subst hst
        simp (disch := as_aux_lemma => first | omega | simp only [hDs] <;> omega | simp [isCell]) [hRs, takeMarks, resA, resAll, resOne, Value.cells, c1, hfl.len, hsl.len, c3]
        refine loop127a (A0 := A1) (X8 := A.n + 1) (n := nf) (F := F) (st := st) (fl := fl) ((hfl.ext eB).ext e1) hnf g8 (by omega) ?_ ?_ (T := _) ?_ ?_ ?_ nf 0 (by omega) rfl (Ext'.refl _) (fun _ _ => rfl) (by simp)
        · intro T' A' e he hne hb g8' t8 t9
          simp (disch := as_aux_lemma => first | omega | simp only [hDs] <;> omega | simp [isCell]) [hRs, takeMarks, resA, resAll, resOne, Value.cells, t8, t9, g8', zGrid]
          exact bad A' e g8' ⟨by have := hb.1; omega, fun z hz hz8 => (hb.2 z (by omega) hz8).trans (e1.2 z hz)⟩ (by rw [hE]; exact he) hne
        · intro T' A2 he e2 hk
          have n2 := e2.1
          have u1 := hk.at 1 rfl
          have u2 := hk.at 2 rfl
          have u3 := hk.at 3 rfl
          have u4 := hk.at 4 rfl
          have u8 := hk.at 8 rfl
          simp at u1 u2 u3 u4 u8
          have hX2 := e2.get (e1.get hX)
          have g82 := e2.get g8
          have e02 := eB.trans (e1.trans e2)
          have eP := Ext'.push A2 (.cells [.int .i64 w, .int .i64 h, .int .i64 s, gr] false)
          obtain ⟨Y, cY, A3, ha, e3, hY, hY2⟩ := copy_fresh (g := g) (bytes := 16) ((e02.trans eP).rdS hgr) (ints_isCell zs) (by simp; omega) (by decide) (by unfold room; omega)
          have hgis := (e02.rdS hgr).at hm0
          obtain ⟨xg, cg, rog, rfl, hxg⟩ := hgis
          have n3 := e3.1
          simp only [Hp.n_push] at ha hY2 n3
          have hX3 := e3.get (get_push_new (A := A2) (b := (.cells [.int .i64 w, .int .i64 h, .int .i64 s, .slice (some ⟨xg, 0, some 2⟩) m cg] false)))
          have hYn := Hp.lt_of_get hY
          simp (disch := as_aux_lemma => first | omega | simp only [hDs] <;> omega | simp [isCell]) [hRs, takeMarks, resA, resAll, resOne, Value.cells, u4, hX2, storeB_cells, setRange, set_push_eq, slitA, fillA, show zeros 0 [Value.int IntKind.i64 0, Value.int IntKind.i64 0] = [] from rfl, ha, hX3]
          obtain ⟨A4, hA4⟩ : ∃ A4, A4 = A3.set A2.n (some (gridB w h s Y m cY)) := ⟨_, rfl⟩
          have hA4' : A3.set A2.n (some (.cells [.int .i64 w, .int .i64 h, .int .i64 s, .slice (some ⟨Y, 0, some 2⟩) m cY] false)) = A4 := hA4.symm
          rw [hA4']
          have hA4n : A4.n = A3.n := by rw [hA4]; rfl
          have o4 : ∀ z, z ≠ A2.n → A4.get z = A3.get z := fun z hz => by rw [hA4, get_set_ne (by omega) hz]
          have hX4 : A4.get A2.n = some (gridB w h s Y m cY) := by rw [hA4]; exact get_set_same hX3
          have e24 : ∀ z, z < A2.n → A4.get z = A2.get z := fun z hz => by rw [o4 z (by omega), e3.2 z (by simp; omega), eP.2 z hz]
          have e04 : Ext' A A4 := ⟨by omega, fun z hz => by rw [e24 z (by omega), e02.2 z hz]⟩
          refine loop127 (A1 := A4) (X4 := A2.n) (Y := Y) (N := A4.n) (n := nf) (m := m) (cY := cY) (st := st) (F := F) (zs := zs) (ss := ss) (sl := sl) (fl := fl) (w := w) (h := h) (s := s) ?_ hn (by have := hgr.1; rw [ints_length] at this; exact this) hcell (fun i hi => by have := fateE_len (firstE_all he i hi); omega) (by omega) (by omega) (by omega) (by omega) (by omega) ?_ (T := _) ?_ ?_ ?_ ?_ nf 0 (by omega) (fun _ _ => rfl) (by simp) (by rw [o4 Y (by omega)]; exact hY) (Nat.le_refl _) (fun z _ _ => rfl)
          · intro A' ho
            have hA' : ∀ z, z < A.n → A'.get z = A.get z := fun z hz => by rw [ho z (by omega) (by omega), e04.2 z hz]
            exact ⟨hsl.mono hA', hfl.mono hA', (ho A2.n (by omega) (by omega)).trans hX4⟩
          · intro T5 A5 hk5 hY5 hN5 ho5
            have v4 := hk5.at 12 rfl
            have v8 := hk5.at 8 rfl
            simp [u8] at v4 v8
            have hX5 : A5.get A2.n = some (gridB w h s Y m cY) := (ho5 A2.n (by omega) (by omega)).trans hX4
            have h85 : A5.get (A.n + 1) = some zGrid := by rw [ho5 _ (by omega) (by omega), e24 _ (by omega)]; exact g82
            have gs : ∀ b', (A5.set (A.n + 1) (some b')).get (A.n + 1) = some b' := fun b' => get_set_same h85
            unfold gridB at hX5
            unfold zGrid at h85
            simp (disch := as_aux_lemma => first | omega | simp only [hDs] <;> omega | simp [isCell]) [hRs, takeMarks, resA, resAll, resOne, Value.cells, v4, v8, hX5, h85, storeB_cells, setRange, gs]
            refine hV _ _ ⟨by simp; omega, fun z hz => ?_⟩ (.inr ⟨by rw [hE]; exact he, _, rfl, ?_⟩)
            · rw [get_set_ne (by omega) (by omega), ho5 z (by omega) (by omega), e04.2 z hz]
            · refine ⟨by rw [ints_length, raiseL_length]; have := hgr.1; rw [ints_length] at this; exact this, .inr ⟨Y, cY, false, rfl, ?_⟩⟩
              rw [get_set_ne (by omega) (by omega)]
              exact hY5
          · simp [u1]
          · simp [u2]
          · simp [u3]
          · simp
        · simp
        · simp
        · simp
    · have gs := get_set_same (b := some (.cells [.int .i64 0, .int .i64 0, .int .i64 0, .slice none 0 0] false)) g8
      simp (disch := as_aux_lemma => first | omega | simp only [hDs] <;> omega | simp [isCell]) [hRs, takeMarks, resA, resAll, resOne, Value.cells, c1, hfl.len, hsl.len, show ¬ (nf : Int) = n by omega, fillA, g8, storeB_cells, setRange, zGrid, gs]
      exact bad _ 11 gs (But.set (by omega) e1) (raiseE_b c1 c2) (by decide)
  · have gs := get_set_same (b := some (.cells [.int .i64 0, .int .i64 0, .int .i64 0, .slice none 0 0] false)) g8
    simp (disch := as_aux_lemma => first | omega | simp only [hDs] <;> omega | simp [isCell]) [hRs, takeMarks, resA, resAll, resOne, Value.cells, c1, fillA, g8, storeB_cells, setRange, zGrid, gs]
    exact bad _ _ gs (But.set (by omega) e1) (raiseE_a c1) c1
end
end Go.Ab.Dike
namespace Go.Ab.Dike
open Go Go.Ab
section
variable {g : Nat} {rd : Option Nat} {T : List Value} {D : List Nat} {A : Hp} {Q : Ex → St → Prop} {V : Value → Hp → Prop}
end
end Go.Ab.Dike
namespace Go.Ab.Dike
open Go Go.Ab
section
variable {g : Nat} {A : Hp} {V : Value → Hp → Prop}
theorem w123 {S : Sec} (hg : g ≤ A.n) (hV : ∀ A', Ext' A A' → V (.agg ⟨S.cells⟩) A') : WF AP KL g 123 [.agg ⟨S.cells⟩] A V := by
  rw [WF_body (show KL 123 = none from rfl) (show AP 123 = some F123 from rfl)]
  simp (disch := as_aux_lemma => first | omega | simp only [hDs] <;> omega | simp [isCell]) [hRs, takeMarks, resA, resAll, resOne, Value.cells, F123, Sec.cells, fillA, setRange, storeB_cells, set_push_eq]
  exact hV _ ((Ext'.push A _).trans (Ext'.push _ _))
end
end Go.Ab.Dike
namespace Go.Ab.Dike
open Go Go.Ab
theorem take_step (l : List Int) (o : Nat) : ∀ s, o + s ≤ l.length → l.take (o + s) = l.take o ++ (List.range s).map fun j => gi l (o + j)
  | 0, _ => by simp
  | s + 1, h => by
    have ih := take_step l o s (by omega)
    rw [← Nat.add_assoc, List.take_add_one, ih, List.range_succ, List.map_append, ← List.append_assoc]
    congr 1
    rw [List.getElem?_eq_getElem (by omega)]
    simp [gi_eq (show o + s < l.length by omega)]
def secPre (ss : List Int) (k : Nat) : List Int := ss.take (k * 8)
theorem secPre_step {ss : List Int} {k : Nat} (h : k * 8 + 8 ≤ ss.length) : ints (secPre ss (k + 1)) = ints (secPre ss k) ++ (secA ss k).cells := by
  unfold secPre
  rw [show (k + 1) * 8 = k * 8 + 8 by omega, take_step ss (k * 8) 8 h, ints_append]
  rfl
theorem secPre_all {ss : List Int} {n : Nat} (h : ss.length = n * 8) : secPre ss n = ss := List.take_of_length_le (by omega)
theorem secPre_len {ss : List Int} {k n : Nat} (h : ss.length = n * 8) (hk : k ≤ n) : (ints (secPre ss k)).length = k * 8 := by
  rw [ints_length, secPre, List.length_take]; omega
def FSep (A : Hp) (cells : List Value) (sv : Value) (j : Nat) (f : FT) : Prop :=
  ∃ a b, cellAt cells (j * 4) = some a ∧ cellAt cells (j * 4 + 1) = some b ∧ cellAt cells (j * 4 + 2) = some (.int .i64 f.may) ∧ cellAt cells (j * 4 + 3) = some (.int .i64 f.must) ∧ RdS A 2 f.cn (ints f.cz) a ∧ RdS A 2 f.sn (ints f.sz) b ∧
    (∀ z, blkOf a = some z → blkOf sv ≠ some z) ∧ (∀ z, blkOf b = some z → blkOf sv ≠ some z)
theorem FSep.at {A : Hp} {cells : List Value} {sv : Value} {j : Nat} {f : FT} (h : FSep A cells sv j f) : FateAt A cells j f := by
  obtain ⟨a, b, h1, h2, h3, h4, h5, h6, _⟩ := h
  exact ⟨a, b, part4 h1 h2 h3 h4, h1, h2, h3, h4, h5, h6⟩
theorem _root_.Go.Ab.RdS.keepB {A A' : Hp} {k n : Nat} {cs : List Value} {sv : Value} (h : RdS A k n cs sv) (hA : ∀ z, blkOf sv = some z → A'.get z = A.get z) : RdS A' k n cs sv := by
  obtain ⟨h0, h | ⟨b, c, ro, rfl, h2⟩⟩ := h
  · exact ⟨h0, .inl h⟩
  · exact ⟨h0, .inr ⟨b, c, ro, rfl, by rw [hA b rfl]; exact h2⟩⟩
theorem _root_.Go.Ab.RdS.blk_lt {A : Hp} {k n : Nat} {cs : List Value} {sv : Value} (h : RdS A k n cs sv) {z : Nat} (hz : blkOf sv = some z) : z < A.n := by
  obtain ⟨h0, ⟨rfl, _⟩ | ⟨b, c, ro, rfl, h2⟩⟩ := h
  · cases hz
  · cases hz; exact Hp.lt_of_get h2
theorem cellAt_left {cs ds : List Value} {o : Nat} {v : Value} (h : cellAt cs o = some v) : cellAt (cs ++ ds) o = some v := by
  have hl := (List.getElem?_eq_some_iff.1 (show cs[o]? = some v from h)).1
  show (cs ++ ds)[o]? = some v
  rw [List.getElem?_append_left hl]; exact h
theorem cellAt_right {cs ds : List Value} {o n : Nat} {v : Value} (hl : cs.length = n) (h : ds[o]? = some v) : cellAt (cs ++ ds) (n + o) = some v := by
  subst hl
  show (cs ++ ds)[cs.length + o]? = some v
  rw [List.getElem?_append_right (by omega), show cs.length + o - cs.length = o by omega]; exact h
theorem FSep.next {A A' : Hp} {cells new : List Value} {sv sv' : Value} {j : Nat} {f : FT} (h : FSep A cells sv j f) (hA : ∀ z, z < A.n → blkOf sv ≠ some z → A'.get z = A.get z) (hsv : ∀ z, blkOf sv' = some z → A.n ≤ z) : FSep A' (cells ++ new) sv' j f := by
  obtain ⟨a, b, h1, h2, h3, h4, h5, h6, h7, h8⟩ := h
  refine ⟨a, b, cellAt_left h1, cellAt_left h2, cellAt_left h3, cellAt_left h4, h5.keepB fun z hz => hA z (h5.blk_lt hz) (h7 z hz), h6.keepB fun z hz => hA z (h6.blk_lt hz) (h8 z hz), fun z hz h => ?_, fun z hz h => ?_⟩
  · have := hsv z h; have := h5.blk_lt hz; omega
  · have := hsv z h; have := h6.blk_lt hz; omega
def pb116 : ACode := (.seq
 (.ops [
oP 9 (.move (.k (.slice none 0 0)))])
 (.seq
 (.seq
 (.ops [
oP 10 (.move (oK 0))])
 (.block 0
 (.loop
 (.seq
 (.seq
 (.ops [
oM 42 10,
oM 43 1,
oP 44 (.len (.t 43)),
oB 45 .lss 42 44])
 (.cond (.t 45)
 .skip
 (.exit 0)))
 (.seq
 (.block 1
 (.ops [
oM 48 9,
oM 49 1,
oM 50 10,
oI 51 49 50 8,
oD 52 51 8,
oA 53 123 [.t 52] false,
oP 54 (.slit 1 8 [.int .i64 0, .int .i64 0, .int .i64 0, .int .i64 0, .int .i64 0, .int .i64 0, .int .i64 0, .int .i64 0] [(0, .t 53)]),
oP 55 (.append (.t 48) (.t 54) 8 64),
oM 9 55]))
 (.ops [
oM 46 10,
oC 47 .add 46 1,
oM 10 47]))))))
 (.seq
 (.ops [
oP 11 (.move (.k (.slice none 0 0)))])
 (.seq
 (.seq
 (.ops [
oP 12 (.move (oK 0))])
 (.block 2
 (.loop
 (.seq
 (.seq
 (.ops [
oM 56 12,
oM 57 2,
oP 58 (.len (.t 57)),
oB 59 .lss 56 58])
 (.cond (.t 59)
 .skip
 (.exit 2)))
 (.seq
 (.block 3
 (.seq
 (.seq
 (.ops [
oM 62 2,
oM 63 12,
oI 64 62 63 4,
oF 65 64 0,
oL 66 65,
oP 67 (.len (.t 66)),
oC 68 .gtr 67 20,
oM 69 68,
oN 70 69 false 2,
oN 71 69 false 12,
oQ 72 69 false (.idxS (.t 70) (.t 71) 4),
oQ 73 69 false (.fieldAddr (.t 72) 1),
oQ 74 69 false (.load (.t 73) none),
oQ 75 69 false (.len (.t 74)),
oQ 76 69 false (.bin .gtr (.t 75) (oK 20)),
oP 77 (.pick (.t 69) (.k (.bool true)) (.t 76))])
 (.cond (.t 77)
 (.seq
 (.ops [
oA 78 121 [] false,
oM 8 78])
 .ret)
 .skip))
 (.ops [
oM 79 11,
oP 80 (.slit 0 2 [.int .i64 0, .int .i64 0] []),
oM 81 2,
oM 82 12,
oI 83 81 82 4,
oF 84 83 0,
oL 85 84,
oP 86 (.append (.t 80) (.t 85) 2 16),
oP 87 (.slit 0 2 [.int .i64 0, .int .i64 0] []),
oM 88 2,
oM 89 12,
oI 90 88 89 4,
oF 91 90 1,
⟨some 92, none, [(.t 80, 0, .t 91, 1)], .load (.t 91) none⟩,
oP 93 (.append (.t 87) (.t 92) 2 16),
oM 94 2,
oM 95 12,
oI 96 94 95 4,
oF 97 96 2,
⟨some 98, none, [(.t 80, 0, .t 97, 1), (.t 87, 0, .t 97, 1)], .load (.t 97) none⟩,
oM 99 2,
oM 100 12,
oI 101 99 100 4,
oF 102 101 3,
⟨some 103, none, [(.t 80, 0, .t 102, 1), (.t 87, 0, .t 102, 1)], .load (.t 102) none⟩,
oP 104 (.build [.slice none 0 0, .slice none 0 0, .int .i64 0, .int .i64 0] [(0, 1, .t 86), (1, 1, .t 93), (2, 1, .t 98), (3, 1, .t 103)]),
oP 105 (.slit 1 4 [.slice none 0 0, .slice none 0 0, .int .i64 0, .int .i64 0] [(0, .t 104)]),
oP 106 (.append (.t 79) (.t 105) 4 64),
oM 11 106])))
 (.ops [
oM 60 12,
oC 61 .add 60 1,
oM 12 61]))))))
 (.seq
 (.ops [
oD 108 4 4,
oM 109 9,
oM 110 11,
oM 111 3,
oA 112 126 [.t 108, .t 109, .t 110, .t 111] false,
oM 107 112,
oX 113 107 0,
oX 114 107 1,
oP 13 (.alloc [.int .i64 0, .int .i64 0, .int .i64 0, .slice none 0 0]),
oT 13 113 4,
oM 14 114])
 (.seq
 (.ops [
oD 116 4 4,
oM 117 1,
oM 118 2,
oM 119 3,
oA 120 127 [.t 116, .t 117, .t 118, .t 119] false,
oM 115 120,
oX 121 115 0,
oX 122 115 1,
oP 15 (.alloc [.int .i64 0, .int .i64 0, .int .i64 0, .slice none 0 0]),
oT 15 121 4,
oM 16 122])
 (.seq
 (.ops [
oD 123 4 4,
oM 124 9,
oA 125 128 [.t 123, .t 124] true,
oD 126 4 4,
oM 127 1,
oA 128 129 [.t 126, .t 127] false,
oB 129 .eql 125 128,
oM 130 129,
oQ 131 130 true (.fieldAddr (.t 13) 0),
oQ 132 130 true (.load (.t 131) none),
oQ 133 130 true (.fieldAddr (.t 15) 0),
oQ 134 130 true (.load (.t 133) none),
oQ 135 130 true (.bin .eql (.t 132) (.t 134)),
oP 136 (.pick (.t 130) (.t 135) (.k (.bool false))),
oM 137 136,
oQ 138 137 true (.fieldAddr (.t 13) 1),
oQ 139 137 true (.load (.t 138) none),
oQ 140 137 true (.fieldAddr (.t 15) 1),
oQ 141 137 true (.load (.t 140) none),
oQ 142 137 true (.bin .eql (.t 139) (.t 141)),
oP 143 (.pick (.t 137) (.t 142) (.k (.bool false))),
oM 144 143,
oQ 145 144 true (.fieldAddr (.t 13) 2),
oQ 146 144 true (.load (.t 145) none),
oQ 147 144 true (.fieldAddr (.t 15) 2),
oQ 148 144 true (.load (.t 147) none),
oQ 149 144 true (.bin .eql (.t 146) (.t 148)),
oP 150 (.pick (.t 144) (.t 149) (.k (.bool false))),
oM 151 150,
oQ 152 151 true (.fieldAddr (.t 13) 3),
oQ 153 151 true (.load (.t 152) none),
oQ 154 151 true (.fieldAddr (.t 15) 3),
oQ 155 151 true (.load (.t 154) none),
oQ 156 151 true (.call (.k (.func (.func 125) ⟨[]⟩ ⟨[]⟩)) [.t 153, .t 155] false),
oP 157 (.pick (.t 151) (.t 156) (.k (.bool false))),
oM 158 157,
oN 159 158 true 14,
oN 160 158 true 16,
oQ 161 158 true (.bin .eql (.t 159) (.t 160)),
oP 162 (.pick (.t 158) (.t 161) (.k (.bool false))),
oM 163 162,
oQ 164 163 true (.call (.k (.func (.func 121) ⟨[]⟩ ⟨[]⟩)) [] false),
oP 165 (.pick (.t 163) (.t 164) (.k (.bool false))),
oM 8 165])
 .ret)))))))
def pa116 : ACode := (.seq
 (.ops [
oF 17 4 3,
oL 18 17,
oP 19 (.len (.t 18)),
oC 20 .gtr 19 60,
oM 21 20,
oN 22 21 false 1,
oQ 23 21 false (.len (.t 22)),
oQ 24 21 false (.bin .gtr (.t 23) (oK 20)),
oN 25 21 false 24,
oN 26 25 true 1,
oQ 27 25 true (.len (.t 26)),
oQ 28 25 true (.bin .leq (.t 27) (oK 256)),
oQ 29 21 false (.pick (.t 25) (.t 28) (.k (.bool false))),
oP 30 (.pick (.t 21) (.k (.bool true)) (.t 29)),
oM 31 30,
oN 32 31 false 1,
oQ 33 31 false (.len (.t 32)),
oQ 34 31 false (.bin .gtr (.t 33) (oK 260)),
oP 35 (.pick (.t 31) (.k (.bool true)) (.t 34)),
oM 36 35,
oN 37 36 false 2,
oQ 38 36 false (.len (.t 37)),
oQ 39 36 false (.bin .gtr (.t 38) (oK 20)),
oP 40 (.pick (.t 36) (.k (.bool true)) (.t 39))])
 (.cond (.t 40)
 (.seq
 (.ops [
oA 41 121 [] false,
oM 8 41])
 .ret)
 .skip))
section
variable {g : Nat} {rd : Option Nat} {T : List Value} {D : List Nat} {A : Hp} {Q : Ex → St → Prop} {V : Value → Hp → Prop}
theorem loop116a {A0 : Hp} {n : Nat} {ss : List Int} {sl : Value} (hsl : RdS A0 8 n (ints ss) sl) (hn : n ≤ 1000) (hg : g ≤ A0.n)
    (hend : ∀ T' A' sv, KeepT [1, 2, 3, 4] T T' → tget T' 9 = sv → AccS A0.n A' 8 (ints ss) sv → Ext' A0 A' → Q (.exit 0) ⟨T', D, A'⟩) (t1 : tget T 1 = sl) :
    ∀ (k i : Nat) {T1 : List Value} {A : Hp} {sv : Value}, i + k = n → KeepT [1, 2, 3, 4] T T1 → tget T1 9 = sv → tget T1 10 = .int .i64 i → AccS A0.n A 8 (ints (secPre ss i)) sv → Ext' A0 A → W AP KL g rd (.loop body116a) ⟨T1, D, A⟩ Q := by
  have hzl := hsl.1
  rw [ints_length] at hzl
  intro k
  induction k with
  | zero =>
    intro i T1 A sv hik hk t9 t10 hacc he
    have : i = n := by omega
    subst this
    have u1 := (hk.at 1 rfl).trans t1
    rw [W_loop]
    simp (disch := as_aux_lemma => first | omega | simp only [hDs] <;> omega | simp [isCell]) [hRs, takeMarks, resA, resAll, resOne, Value.cells, body116a, u1, t10, (he.rdS hsl).len]
    exact hend _ A sv (hk.trans (by simp)) (by simp [t9]) (by rw [secPre_all hzl] at hacc; exact hacc) he
  | succ k ih =>
    intro i T1 A sv hik hk t9 t10 hacc he
    have u1 := (hk.at 1 rfl).trans t1
    have hlen := (he.rdS hsl).len
    have hA0 := he.1
    obtain ⟨x, c, ro, rfl, hx⟩ := (he.rdS hsl).at (i := i) (by omega)
    have hp := sec_part (ss := ss) (i := i) (by omega)
    rw [W_loop]
    simp (disch := as_aux_lemma => first | omega | simp only [hDs] <;> omega | simp [isCell]) [hRs, takeMarks, resA, resAll, resOne, Value.cells, body116a, u1, t9, t10, hlen, show ((i : Int) < n) by omega, idxSA_ok, hx, hp]
    refine w123 (by omega) fun A1 e1 => ?_
    have n1 := e1.1
    obtain ⟨sv', A2, ha, hacc', hold, hn2⟩ := AccS.add (g := g) (bytes := 64) (n := i) (ro := false) (new := (secA ss i).cells) (hacc.mono e1.2) hg (by omega) rfl (by decide) rfl (secPre_len hzl (by omega)) (by unfold room; omega)
    have hz8 : setRange [Value.int .i64 0, .int .i64 0, .int .i64 0, .int .i64 0, .int .i64 0, .int .i64 0, .int .i64 0, .int .i64 0] 0 (secA ss i).cells = (secA ss i).cells := rfl
    simp only [Sec.cells, secA] at ha
    simp (disch := as_aux_lemma => first | omega | simp only [hDs] <;> omega | simp [isCell]) [hRs, takeMarks, resA, resAll, resOne, Value.cells, t10, t9, slitA, fillA, setRange, Sec.cells, secA, ha]
    refine ih (i + 1) (sv := sv') (by omega) (hk.trans (by simp)) (by simp) (by simp [wrId (n := (i : Int) + 1) (by omega) (by omega)]) (by rw [secPre_step (by omega)]; exact hacc') ⟨by omega, fun z hz => by rw [hold z hz, e1.2 z (by omega), he.2 z hz]⟩
theorem loop116b {A0 : Hp} {n : Nat} {F : Nat → FT} {fl : Value} (hfl : Fates A0 n F fl) (hn : n ≤ 20) (hg : g ≤ A0.n)
    (hret : ∀ T' A', tget T' 8 = .bool true → Q .ret ⟨T', D, A'⟩)
    (hend : ∀ T' A' sv, KeepT [1, 2, 3, 4, 9] T T' → tget T' 11 = sv → Fates A' n F sv → Ext' A0 A' → Q (.exit 2) ⟨T', D, A'⟩) (t2 : tget T 2 = fl) :
    ∀ (k i : Nat) {T1 : List Value} {A : Hp} {sv : Value} {cells : List Value}, i + k = n → KeepT [1, 2, 3, 4, 9] T T1 → tget T1 11 = sv → tget T1 12 = .int .i64 i → AccS A0.n A 4 cells sv → cells.length = i * 4 → (∀ j, j < i → FSep A cells sv j (F j)) → Ext' A0 A → W AP KL g rd (.loop body116b) ⟨T1, D, A⟩ Q := by
  intro k
  induction k with
  | zero =>
    intro i T1 A sv cells hik hk t11 t12 hacc hcl hF he
    have : i = n := by omega
    subst this
    have u2 := (hk.at 2 rfl).trans t2
    rw [W_loop]
    simp (disch := as_aux_lemma => first | omega | simp only [hDs] <;> omega | simp [isCell]) [hRs, takeMarks, resA, resAll, resOne, Value.cells, body116b, u2, t12, (hfl.ext he).len]
    exact hend _ A sv (hk.trans (by simp)) (by simp [t11]) ⟨cells, hacc.rd hcl (by decide), fun j hj => (hF j hj).at⟩ he
  | succ k ih =>
    intro i T1 A sv cells hik hk t11 t12 hacc hcl hF he
    have u2 := (hk.at 2 rfl).trans t2
    have hlen := (hfl.ext he).len
    have hA0 := he.1
    obtain ⟨x, c, ro, row, rfl, hx, a, b, p1, p2, p3, p4, p5, ra, rb⟩ := (hfl.ext he).at (i := i) (by omega)
    have hxn := Hp.lt_of_get hx
    have hla := ra.len
    have hlb := rb.len
    rw [W_loop]
    by_cases c1 : (20 : Int) < (F i).cn
    · simp (disch := as_aux_lemma => first | omega | simp only [hDs] <;> omega | simp [isCell]) [hRs, takeMarks, resA, resAll, resOne, Value.cells, body116b, u2, t12, hlen, show ((i : Int) < n) by omega, idxSA_ok, hx, p2, hla, c1]
      exact hret _ _ (by simp)
    · by_cases c2 : (20 : Int) < (F i).sn
      · simp (disch := as_aux_lemma => first | omega | simp only [hDs] <;> omega | simp [isCell]) [hRs, takeMarks, resA, resAll, resOne, Value.cells, body116b, u2, t12, hlen, show ((i : Int) < n) by omega, idxSA_ok, hx, p2, p3, hla, hlb, c1, c2]
        exact hret _ _ (by simp)
      · obtain ⟨Y1, c1', A1, ha1, e1, hY1, hAY1⟩ := copy_fresh (g := g) (bytes := 16) ra (ints_isCell _) (by omega) (by decide) (by unfold room; omega)
        have n1 := e1.1
        obtain ⟨Y2, c2', A2, ha2, e2, hY2, hAY2⟩ := copy_fresh (g := g) (bytes := 16) (e1.rdS rb) (ints_isCell _) (by omega) (by decide) (by unfold room; omega)
        have n2 := e2.1
        have e12 := e1.trans e2
        have hY1n := Hp.lt_of_get hY1
        have hY2n := Hp.lt_of_get hY2
        obtain ⟨sv', A3, ha3, hacc', hold, hn3, hb3⟩ := add_keep (g := g) (bytes := 64) (n := i) (ro := false) (new := [.slice (some ⟨Y1, 0, some 2⟩) (F i).cn c1', .slice (some ⟨Y2, 0, some 2⟩) (F i).sn c2', .int .i64 (F i).may, .int .i64 (F i).must]) (hacc.mono e12.2) hg (by omega) rfl (by decide) rfl hcl (by unfold room; omega)
        have hx1 := e1.get hx
        have hx2 := e12.get hx
        have hzer : zeros 0 [Value.int IntKind.i64 0, Value.int IntKind.i64 0] = [] := rfl
        have hxA1 : x < A1.n := by omega
        simp (disch := as_aux_lemma => first | omega | simp only [hDs] <;> omega | simp [isCell]) [hRs, takeMarks, resA, resAll, resOne, Value.cells, body116b, u2, t11, t12, hlen, show ((i : Int) < n) by omega, idxSA_ok, hx, p2, p3, p4, p5, hla, hlb, c1, c2, slitA, fillA, hzer, ha1, hx1, ha2, hx2, apartA, show ¬ x = A.n by omega, show ¬ x = A1.n by omega, setRange, ha3]
        refine ih (i + 1) (sv := sv') (cells := cells ++ [.slice (some ⟨Y1, 0, some 2⟩) (F i).cn c1', .slice (some ⟨Y2, 0, some 2⟩) (F i).sn c2', .int .i64 (F i).may, .int .i64 (F i).must]) (by omega) (hk.trans (by simp)) (by simp) (by simp [wrId (n := (i : Int) + 1) (by omega) (by omega)]) hacc' (by simp [hcl]; omega) ?_ ⟨by omega, fun z hz => ?_⟩
        · intro j hj
          have hsv : ∀ z, blkOf sv' = some z → A2.n ≤ z := fun z hz => by rw [hb3] at hz; cases hz; omega
          have hnot : ∀ z, blkOf sv = some z → z < A.n := fun z hz => (hacc.blk_ge hz).2
          by_cases hji : j = i
          · subst hji
            have r1 : RdS A3 2 (F j).cn (ints (F j).cz) (.slice (some ⟨Y1, 0, some 2⟩) (F j).cn c1') := ⟨ra.1, .inr ⟨Y1, c1', false, rfl, by rw [hold Y1 (by omega) (fun h => by have := hnot _ h; omega)]; exact e2.get hY1⟩⟩
            have r2 : RdS A3 2 (F j).sn (ints (F j).sz) (.slice (some ⟨Y2, 0, some 2⟩) (F j).sn c2') := ⟨rb.1, .inr ⟨Y2, c2', false, rfl, by rw [hold Y2 (by omega) (fun h => by have := hnot _ h; omega)]; exact hY2⟩⟩
            exact ⟨_, _, cellAt_right (o := 0) hcl rfl, cellAt_right (o := 1) hcl rfl, cellAt_right (o := 2) hcl rfl, cellAt_right (o := 3) hcl rfl, r1, r2, fun z hz h => by have := hsv z h; cases hz; omega, fun z hz h => by have := hsv z h; cases hz; omega⟩
          · refine (hF j (by omega)).next (fun z hz hzs => ?_) fun z hz => by have := hsv z hz; omega
            rw [hold z (by omega) hzs, e12.2 z hz]
        · rw [hold z (by omega) (fun h => by have := (hacc.blk_ge h).1; omega), e12.2 z (by omega), he.2 z hz]
theorem pb116_ok {X4 m n nf : Nat} {w h s step : Int} {zs ss : List Int} {F : Nat → FT} {gr sl fl : Value} (hgr : RdS A 2 m (ints zs) gr) (hm : m ≤ 60) (hsl : RdS A 8 n (ints ss) sl) (hn : n ≤ 1000) (hfl : Fates A nf F fl) (hnf : nf ≤ 20) (hg : g ≤ A.n) (h4 : A.get X4 = some (.cells [.int .i64 w, .int .i64 h, .int .i64 s, gr] false))
    (t1 : tget T 1 = sl) (t2 : tget T 2 = fl) (t3 : tget T 3 = .int .i64 step) (t4 : tget T 4 = .pointer (some ⟨X4, 0, none⟩)) (hQ : ∀ T' A', tget T' 8 = .bool true → Q .ret ⟨T', D, A'⟩) : W AP KL g rd pb116 ⟨T, D, A⟩ Q := by
  have hnil : ∀ A, RdS A 2 0 (ints []) (.slice none 0 0) := fun A => ⟨rfl, .inl ⟨rfl, rfl⟩⟩
  have hzl := hsl.1
  rw [ints_length] at hzl
  simp (disch := as_aux_lemma => first | omega | simp only [hDs] <;> omega | simp [isCell]) [hRs, takeMarks, resA, resAll, resOne, Value.cells, pb116]
  refine loop116a hsl hn hg ?_ (T := _) ?_ n 0 (sv := .slice none 0 0) (by omega) (fun _ _ => rfl) (by simp) (by simp) (by exact AccS.nil) (Ext'.refl _)
  · intro T1 A1 sa k1 t9 hacc e1
    have n1 := e1.1
    simp (disch := as_aux_lemma => first | omega | simp only [hDs] <;> omega | simp [isCell]) [hRs, takeMarks, resA, resAll, resOne, Value.cells]
    refine loop116b (hfl.ext e1) hnf (by omega) ?_ ?_ (T := _) ?_ nf 0 (sv := .slice none 0 0) (cells := []) (by omega) (fun _ _ => rfl) (by simp) (by simp) AccS.nil rfl (fun j hj => absurd hj (by omega)) (Ext'.refl _)
    · intro T' A' t8
      simp (disch := as_aux_lemma => first | omega | simp only [hDs] <;> omega | simp [isCell]) [hRs, takeMarks, resA, resAll, resOne, Value.cells]
      exact hQ _ _ t8
    · intro T2 A2 fa k2 t11 hfa e2
      have n2 := e2.1
      have u1 := (k2.at 1 rfl)
      have u2 := (k2.at 2 rfl)
      have u3 := (k2.at 3 rfl)
      have u4 := (k2.at 4 rfl)
      have u9 := (k2.at 9 rfl)
      simp [k1.at 1 rfl, k1.at 2 rfl, k1.at 3 rfl, k1.at 4 rfl, t1, t2, t3, t4, t9] at u1 u2 u3 u4 u9
      have e02 := e1.trans e2
      have hsa := e2.rdS (hacc.rd (n := n) (by rw [ints_length]; omega) (by decide))
      have h42 := e02.get h4
      simp (disch := as_aux_lemma => first | omega | simp only [hDs] <;> omega | simp [isCell]) [hRs, takeMarks, resA, resAll, resOne, Value.cells, u3, u4, u9, t11, h42]
      refine w126 (e02.rdS hgr) (by omega) hsa (by omega) hfa (by omega) (by omega) fun v A3 e3 ho3 => ?_
      have n3 := e3.1
      have e03 := e02.trans e3
      have h43 := e03.get h4
      have hx43 := Hp.lt_of_get h43
      have fin : ∀ (w' h' s' : Int) (k : Nat) (ws : List Int) (e : Int) (sl1 sl2 : Value) (A3 A4 : Hp) (T' : List Value), Ext' A A3 → Ext' A2 A3 → True := fun _ _ _ _ _ _ _ _ _ _ _ _ _ => trivial
      rcases ho3 with ⟨he, rfl⟩ | ⟨he, s1, rfl, hs1⟩
      · simp (disch := as_aux_lemma => first | omega | simp only [hDs] <;> omega | simp [isCell]) [hRs, takeMarks, resA, resAll, resOne, Value.cells, gridV, storeB_cells, setRange, set_push_eq, h43, u1, u2, u3, u4]
        have eF := Ext'.push A3 (.cells [.int .i64 0, .int .i64 0, .int .i64 0, .slice none 0 0] false)
        refine w127 (w := w) (h := h) (s := s) ((e03.trans eF).rdS hgr) (by omega) ((e03.trans eF).rdS hsl) (by omega) (hfl.ext (e03.trans eF)) (by omega) (by simp; omega) fun v A4 e4 ho4 => ?_
        have n4 := e4.1
        have hF := e4.get (get_push_new (A := A3) (b := (.cells [.int .i64 0, .int .i64 0, .int .i64 0, .slice none 0 0] false)))
        have e04 := (e03.trans eF).trans e4
        have h44 := e04.get h4
        have hx44 := Hp.lt_of_get h44
        have hxF := Hp.lt_of_get hF
        rcases ho4 with ⟨_, rfl⟩ | ⟨he', _⟩
        · simp (disch := as_aux_lemma => first | omega | simp only [hDs] <;> omega | simp [isCell]) [hRs, takeMarks, resA, resAll, resOne, Value.cells, gridV, storeB_cells, setRange, set_push_eq, h44, u1, u4, u9]
          have eG := Ext'.push A4 (.cells [.int .i64 0, .int .i64 0, .int .i64 0, .slice none 0 0] false)
          refine w128 ((e04.trans eG).rdS hgr) (by omega) (((e3.trans (eF.trans e4)).trans eG).rdS hsa) (by omega) (by simp only [Hp.n_push] at n4 ⊢; omega) fun A5 e5 => ?_
          have n5 := e5.1
          have hG := e5.get (get_push_new (A := A4) (b := (.cells [.int .i64 0, .int .i64 0, .int .i64 0, .slice none 0 0] false)))
          have h45 := ((e04.trans eG).trans e5).get h4
          simp (disch := as_aux_lemma => first | omega | simp only [hDs] <;> omega | simp [isCell]) [hRs, takeMarks, resA, resAll, resOne, Value.cells, h45, u1, u4]
          refine w129 (((e04.trans eG).trans e5).rdS hgr) (by omega) (((e04.trans eG).trans e5).rdS hsl) (by omega) (by simp only [Hp.n_push] at n4 n5 ⊢; omega) fun A6 e6 => ?_
          have hF6 := (eG.trans (e5.trans e6)).get hF
          have hG6 := e6.get hG
          simp (disch := as_aux_lemma => first | omega | simp only [hDs] <;> omega | simp [isCell]) [hRs, takeMarks, resA, resAll, resOne, Value.cells, hF6, hG6]
          refine w125 (hnil _) (hnil _) (by decide) ?_
          simp (disch := as_aux_lemma => first | omega | simp only [hDs] <;> omega | simp [isCell]) [hRs, takeMarks, resA, resAll, resOne, Value.cells]
          exact hQ _ _ (by simp)
        · exact absurd he' he
      · obtain ⟨p1, c1, rfl⟩ := hs1.isSlice
        simp (disch := as_aux_lemma => first | omega | simp only [hDs] <;> omega | simp [isCell]) [hRs, takeMarks, resA, resAll, resOne, Value.cells, gridV, storeB_cells, setRange, set_push_eq, h43, u1, u2, u3, u4]
        have eF := Ext'.push A3 (.cells [.int .i64 w, .int .i64 h, .int .i64 s, .slice p1 m c1] false)
        refine w127 (w := w) (h := h) (s := s) ((e03.trans eF).rdS hgr) (by omega) ((e03.trans eF).rdS hsl) (by omega) (hfl.ext (e03.trans eF)) (by omega) (by simp; omega) fun v A4 e4 ho4 => ?_
        have n4 := e4.1
        have hF := e4.get (get_push_new (A := A3) (b := (.cells [.int .i64 w, .int .i64 h, .int .i64 s, .slice p1 m c1] false)))
        have e04 := (e03.trans eF).trans e4
        have h44 := e04.get h4
        have hx44 := Hp.lt_of_get h44
        have hxF := Hp.lt_of_get hF
        rcases ho4 with ⟨he', _⟩ | ⟨_, s2, rfl, hs2⟩
        · exact absurd he he'
        · obtain ⟨p2, c2, rfl⟩ := hs2.isSlice
          simp (disch := as_aux_lemma => first | omega | simp only [hDs] <;> omega | simp [isCell]) [hRs, takeMarks, resA, resAll, resOne, Value.cells, gridV, storeB_cells, setRange, set_push_eq, h44, u1, u4, u9]
          have eG := Ext'.push A4 (.cells [.int .i64 w, .int .i64 h, .int .i64 s, .slice p2 m c2] false)
          refine w128 ((e04.trans eG).rdS hgr) (by omega) (((e3.trans (eF.trans e4)).trans eG).rdS hsa) (by omega) (by simp only [Hp.n_push] at n4 ⊢; omega) fun A5 e5 => ?_
          have n5 := e5.1
          have hG := e5.get (get_push_new (A := A4) (b := (.cells [.int .i64 w, .int .i64 h, .int .i64 s, .slice p2 m c2] false)))
          have h45 := ((e04.trans eG).trans e5).get h4
          simp (disch := as_aux_lemma => first | omega | simp only [hDs] <;> omega | simp [isCell]) [hRs, takeMarks, resA, resAll, resOne, Value.cells, h45, u1, u4]
          refine w129 (((e04.trans eG).trans e5).rdS hgr) (by omega) (((e04.trans eG).trans e5).rdS hsl) (by omega) (by simp only [Hp.n_push] at n4 n5 ⊢; omega) fun A6 e6 => ?_
          have hF6 := (eG.trans (e5.trans e6)).get hF
          have hG6 := e6.get hG
          simp (disch := as_aux_lemma => first | omega | simp only [hDs] <;> omega | simp [isCell]) [hRs, takeMarks, resA, resAll, resOne, Value.cells, hF6, hG6]
          refine w125 ((eF.trans (e4.trans (eG.trans (e5.trans e6)))).rdS hs1) ((eG.trans (e5.trans e6)).rdS hs2) (by omega) ?_
          simp (disch := as_aux_lemma => first | omega | simp only [hDs] <;> omega | simp [isCell]) [hRs, takeMarks, resA, resAll, resOne, Value.cells]
          exact hQ _ _ (by simp)
    · simp [k1.at 2 rfl, t2]
  · simp [t1]
theorem eq116 : F116 = .fn 166 [.tmp 8] (.seq (.ops [oP 4 (.box (.t 0)), oP 8 (.move (.k (.bool false)))]) (.seq pa116 pb116)) := rfl
theorem law116 {m n nf : Nat} {w h s step : Int} {zs ss : List Int} {F : Nat → FT} {gr sl fl : Value} (hgr : RdS A 2 m (ints zs) gr) (hsl : RdS A 8 n (ints ss) sl) (hfl : Fates A nf F fl) (hg : g ≤ A.n) (hV : ∀ A', V (.bool true) A') :
    WF AP KL g 116 [gridV w h s gr, sl, fl, .int .i64 step] A V := by
  rw [WF_body (show KL 116 = none from rfl) ((show AP 116 = some F116 from rfl).trans (congrArg some eq116))]
  have eB := Ext'.push A (.cells [.int .i64 w, .int .i64 h, .int .i64 s, gr] false)
  obtain ⟨B, hB⟩ : ∃ B, B = A.push (.cells [.int .i64 w, .int .i64 h, .int .i64 s, gr] false) := ⟨_, rfl⟩
  have hBn : B.n = A.n + 1 := by rw [hB]; rfl
  have hX : B.get A.n = some (.cells [.int .i64 w, .int .i64 h, .int .i64 s, gr] false) := by rw [hB, get_push_new]
  rw [← hB] at eB
  have goOn : m ≤ 60 → n ≤ 1000 → nf ≤ 20 → ∀ {T : List Value}, tget T 1 = sl → tget T 2 = fl → tget T 3 = .int .i64 step → tget T 4 = .pointer (some ⟨A.n, 0, none⟩) → W AP KL g none pb116 ⟨T, [], B⟩ (FinQ [.tmp 8] V) := by
    intro h1 h2 h3 T t1 t2 t3 t4
    refine pb116_ok (eB.rdS hgr) h1 (eB.rdS hsl) h2 (hfl.ext eB) h3 (by omega) hX t1 t2 t3 t4 fun T' A' t8 => ?_
    simp (disch := as_aux_lemma => first | omega | simp only [hDs] <;> omega | simp [isCell]) [hRs, takeMarks, resA, resAll, resOne, Value.cells, t8]
    exact hV _
  by_cases c1 : (60 : Int) < m
  · simp (disch := as_aux_lemma => first | omega | simp only [hDs] <;> omega | simp [isCell]) [hRs, takeMarks, resA, resAll, resOne, Value.cells, gridV, ← hB, hX, pa116, hgr.len, c1]
    exact hV _
  · by_cases c2 : (20 : Int) < n
    · by_cases c3 : (n : Int) ≤ 256
      · simp (disch := as_aux_lemma => first | omega | simp only [hDs] <;> omega | simp [isCell]) [hRs, takeMarks, resA, resAll, resOne, Value.cells, gridV, ← hB, hX, pa116, hgr.len, hsl.len, c1, c2, c3]
        exact hV _
      · by_cases c4 : (260 : Int) < n
        · simp (disch := as_aux_lemma => first | omega | simp only [hDs] <;> omega | simp [isCell]) [hRs, takeMarks, resA, resAll, resOne, Value.cells, gridV, ← hB, hX, pa116, hgr.len, hsl.len, c1, c2, c3, c4]
          exact hV _
        · by_cases c5 : (20 : Int) < nf
          · simp (disch := as_aux_lemma => first | omega | simp only [hDs] <;> omega | simp [isCell]) [hRs, takeMarks, resA, resAll, resOne, Value.cells, gridV, ← hB, hX, pa116, hgr.len, hsl.len, hfl.len, c1, c2, c3, c4, c5]
            exact hV _
          · simp (disch := as_aux_lemma => first | omega | simp only [hDs] <;> omega | simp [isCell]) [hRs, takeMarks, resA, resAll, resOne, Value.cells, gridV, ← hB, hX, pa116, hgr.len, hsl.len, hfl.len, c1, c2, c3, c4, c5]
            exact goOn (by omega) (by omega) (by omega) (by simp) (by simp) (by simp) (by simp)
    · by_cases c5 : (20 : Int) < nf
      · simp (disch := as_aux_lemma => first | omega | simp only [hDs] <;> omega | simp [isCell]) [hRs, takeMarks, resA, resAll, resOne, Value.cells, gridV, ← hB, hX, pa116, hgr.len, hsl.len, hfl.len, c1, c2, show ¬ (260 : Int) < n by omega, c5]
        exact hV _
      · simp (disch := as_aux_lemma => first | omega | simp only [hDs] <;> omega | simp [isCell]) [hRs, takeMarks, resA, resAll, resOne, Value.cells, gridV, ← hB, hX, pa116, hgr.len, hsl.len, hfl.len, c1, c2, show ¬ (260 : Int) < n by omega, c5]
        exact goOn (by omega) (by omega) (by omega) (by simp) (by simp) (by simp) (by simp)
end
end Go.Ab.Dike
