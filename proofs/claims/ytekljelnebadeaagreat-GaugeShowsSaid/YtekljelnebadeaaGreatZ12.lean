/- The document's cosine bounds of a span of angles. -/
import Derived.Test.YtekljelnebadeaaGreatZ11
set_option linter.unusedSimpArgs false
set_option linter.unusedVariables false
set_option linter.unusedSectionVars false
set_option maxRecDepth 100000
namespace Go.Ab.Gauge
open Go Go.Ab
set_option maxRecDepth 100000
def bools (l : List Bool) : List Value := l.map .bool
@[simp] theorem bools_length (l : List Bool) : (bools l).length = l.length := by simp [bools]
set_option maxRecDepth 100000
abbrev J (n : Int) : Value := .int .i64 n
def validB (a b lo hi : Int) : Bool := decide (a ≤ b) && (decide (lo ≤ a) && decide (b ≤ hi))
theorem set_push_eq {A : Hp} {b b' : ABlk} {x : Nat} (h : x ≤ A.n ∧ A.n ≤ x) : (A.push b).set x (some b') = A.push b' := by
  rw [show x = A.n by omega]; exact set_push_new
section
variable {g : Nat} {rd : Option Nat} {D : List Nat} {Q : Ex → St → Prop}
def Says (g : Nat) (A0 : Hp) (f : Value) (n : Nat) (val : Nat → Value) (p : Nat → Bool) : Prop :=
  ∀ i, i < n → ∀ (A : Hp) (V : Value → Hp → Prop), Ext' A0 A → (∀ A', Ext' A A' → V (.bool (p i)) A') → WV AP KL g f [val i] A V
theorem Says.mono {g : Nat} {A0 A1 : Hp} {f : Value} {n : Nat} {val : Nat → Value} {p : Nat → Bool} (h : Says g A0 f n val p) (he : Ext' A0 A1) : Says g A1 f n val p := fun i hi A V hA hV => h i hi A V (he.trans hA) hV
theorem _root_.Go.Ab.Ext'.rdS {A A' : Hp} {k n : Nat} {cs : List Value} {sv : Value} (h : Ext' A A') (hr : RdS A k n cs sv) : RdS A' k n cs sv := hr.mono h.2
def RdP (A : Hp) (k n : Nat) (cs : List Value) (sv : Value) : Prop := n * k ≤ cs.length ∧ ((sv = .slice none 0 0 ∧ n = 0) ∨ ∃ b c ro, sv = .slice (some ⟨b, 0, some k⟩) n c ∧ A.get b = some (.cells cs ro))
theorem RdP.mono {A A' : Hp} {k n : Nat} {cs : List Value} {sv : Value} (h : RdP A k n cs sv) (hA : ∀ x, x < A.n → A'.get x = A.get x) : RdP A' k n cs sv := by
  obtain ⟨h0, h | ⟨b, c, ro, h1, h2⟩⟩ := h
  · exact ⟨h0, .inl h⟩
  · exact ⟨h0, .inr ⟨b, c, ro, h1, by rw [hA b (Hp.lt_of_get h2)]; exact h2⟩⟩
theorem RdP.len {A : Hp} {k n : Nat} {cs : List Value} {sv : Value} (h : RdP A k n cs sv) : lenV sv = some (.int .i64 n) := by
  obtain ⟨_, ⟨rfl, rfl⟩ | ⟨b, c, ro, rfl, _⟩⟩ := h <;> rfl
theorem RdP.at {A : Hp} {k n i : Nat} {cs : List Value} {sv : Value} (h : RdP A k n cs sv) (hi : i < n) : ∃ b c ro, sv = .slice (some ⟨b, 0, some k⟩) n c ∧ A.get b = some (.cells cs ro) := by
  obtain ⟨_, ⟨_, h0⟩ | h⟩ := h
  · omega
  · exact h
theorem loop82 {A0 : Hp} {n : Nat} {sl f : Value} {row : List Value} {val : Nat → Value} {p : Nat → Bool} (hsl : RdS A0 2 n row sl) (hval : ∀ i, i < n → partA row (i * 2) (some 2) = some (val i)) (hf : Says g A0 f n val p) (hn : n < 1000000)
    (hin : ∀ i T' A', i < n → p i = true → Ext' A0 A' → tget T' 4 = .int .i64 (i : Nat) → Q .ret ⟨T', D, A'⟩) (hout : ∀ T' A', (∀ i, i < n → p i = false) → Ext' A0 A' → Q (.exit 0) ⟨T', D, A'⟩) :
    ∀ (k i : Nat) {T : List Value} {A : Hp}, i + k = n → (∀ j, j < i → p j = false) → Ext' A0 A → tget T 0 = sl → tget T 1 = f → tget T 7 = .int .i64 n → tget T 8 = .int .i64 i → W AP KL g rd (.loop body82) ⟨T, D, A⟩ Q := by
  intro k
  induction k with
  | zero =>
    intro i T A hik hno he h0 h1 h7 h8
    have : i = n := by omega
    subst this
    rw [W_loop]
    simp (disch := as_aux_lemma => first | omega | simp only [hDs] <;> omega | simp [isCell]) [hRs, takeMarks, resA, resAll, resOne, Value.cells, body82, h7, h8]
    exact hout _ A hno he
  | succ k ih =>
    intro i T A hik hno he h0 h1 h7 h8
    obtain ⟨x, c, ro, rfl, hx⟩ := (he.rdS hsl).at (i := i) (by omega)
    have hv := hval i (by omega)
    skip
    rw [W_loop]
    simp (disch := as_aux_lemma => first | omega | simp only [hDs] <;> omega | simp [isCell]) [hRs, takeMarks, resA, resAll, resOne, Value.cells, body82, h7, h8, h0, h1, show ((i : Int) < n) by omega, idxSA_ok, hx, hv]
    refine hf i (by omega) A _ he fun A1 he1 => ?_
    cases hp : p i with
    | true =>
      simp (disch := as_aux_lemma => first | omega | simp only [hDs] <;> omega | simp [isCell]) [hRs, takeMarks, resA, resAll, resOne, Value.cells]
      exact hin i _ A1 (by omega) hp (he.trans he1) (by simp)
    | false =>
      simp (disch := as_aux_lemma => first | omega | simp only [hDs] <;> omega | simp [isCell]) [hRs, takeMarks, resA, resAll, resOne, Value.cells, h8]
      have hno' : ∀ j, j < i + 1 → p j = false := fun j hj => by
        rcases Nat.lt_or_ge j i with h | h
        · exact hno j h
        · have : j = i := by omega
          subst this; exact hp
      exact ih (i + 1) (by omega) hno' (he.trans he1) (by simp [h0]) (by simp [h1]) (by simp [h7]) (by simp [wrId (n := (i : Int) + 1) (by omega) (by omega)])
theorem w82 {A : Hp} {V : Value → Hp → Prop} {n : Nat} {sl f : Value} {row : List Value} {val : Nat → Value} {p : Nat → Bool} (hsl : RdS A 2 n row sl) (hval : ∀ i, i < n → partA row (i * 2) (some 2) = some (val i)) (hf : Says g A f n val p) (hn : n < 1000000)
    (hV : ∀ A' (k : Int), Ext' A A' → (0 ≤ k ↔ (List.range n).any p = true) → V (.int .i64 k) A') : WF AP KL g 82 [sl, f] A V := by
  rw [WF_body (show KL 82 = none from rfl) (show AP 82 = some F82 from rfl)]
  simp (disch := as_aux_lemma => first | omega | simp only [hDs] <;> omega | simp [isCell]) [hRs, takeMarks, resA, resAll, resOne, Value.cells, F82, hsl.len]
  refine loop82 hsl hval hf hn ?_ ?_ n 0 (by omega) (fun j h => absurd h (Nat.not_lt_zero _)) (Ext'.refl _) (by simp) (by simp) (by simp) (by simp)
  · intro i T' A' hi hp he h4
    simp (disch := as_aux_lemma => first | omega | simp only [hDs] <;> omega | simp [isCell]) [hRs, takeMarks, resA, resAll, resOne, Value.cells, h4]
    exact hV A' _ he ⟨fun _ => List.any_eq_true.2 ⟨i, by simpa using hi, hp⟩, fun _ => by omega⟩
  · intro T' A' hno he
    simp (disch := as_aux_lemma => first | omega | simp only [hDs] <;> omega | simp [isCell]) [hRs, takeMarks, resA, resAll, resOne, Value.cells]
    refine hV A' _ he ⟨fun h => by omega, fun h => ?_⟩
    obtain ⟨i, hi, hp⟩ := List.any_eq_true.1 h
    rw [hno i (by simpa using hi)] at hp
    cases hp
theorem w56 {A : Hp} {V : Value → Hp → Prop} {n : Nat} {sl f : Value} {row : List Value} {val : Nat → Value} {p : Nat → Bool} (hsl : RdS A 2 n row sl) (hval : ∀ i, i < n → partA row (i * 2) (some 2) = some (val i)) (hf : Says g A f n val p) (hn : n < 1000000)
    (hV : ∀ A', Ext' A A' → V (.bool ((List.range n).any p)) A') : WF AP KL g 56 [sl, f] A V := by
  rw [WF_body (show KL 56 = none from rfl) (show AP 56 = some F56 from rfl)]
  simp (disch := as_aux_lemma => first | omega | simp only [hDs] <;> omega | simp [isCell]) [hRs, takeMarks, resA, resAll, resOne, Value.cells, F56]
  refine w82 hsl hval hf hn fun A' k he hk => ?_
  simp (disch := as_aux_lemma => first | omega | simp only [hDs] <;> omega | simp [isCell]) [hRs, takeMarks, resA, resAll, resOne, Value.cells]
  have : decide (0 ≤ k) = (List.range n).any p := by
    rw [Bool.eq_iff_iff, decide_eq_true_eq]; exact hk
  rw [this]
  exact hV A' he
end
def grdV (zs : List Int) (i : Nat) : Bool := validB (gi zs (i * 2)) (gi zs (i * 2 + 1)) (-1200000) 1200000
def gridV (w h s : Int) (sl : Value) : Value := .agg ⟨[.int .i64 w, .int .i64 h, .int .i64 s, sl]⟩
def gridE (w h s : Int) (m : Nat) (zs : List Int) : Int :=
  if (decide (1 ≤ w) && decide (w ≤ 24)) = false ∨ (decide (1 ≤ h) && decide (h ≤ 24)) = false ∨ (decide (1 ≤ s) && decide (s ≤ 10000)) = false then 3 else if ¬ (m : Int) = wr .i64 (w * h) then 11 else if (List.range m).any (fun i => !grdV zs i) = true then 3 else 0
theorem gridE_a {w h s : Int} {m : Nat} {zs : List Int} (h1 : (decide (1 ≤ w) && decide (w ≤ 24)) = false ∨ (decide (1 ≤ h) && decide (h ≤ 24)) = false ∨ (decide (1 ≤ s) && decide (s ≤ 10000)) = false) : gridE w h s m zs = 3 := if_pos h1
theorem gridE_b {w h s : Int} {m : Nat} {zs : List Int} (h1 : ¬ ((decide (1 ≤ w) && decide (w ≤ 24)) = false ∨ (decide (1 ≤ h) && decide (h ≤ 24)) = false ∨ (decide (1 ≤ s) && decide (s ≤ 10000)) = false)) (h2 : ¬ (m : Int) = wr .i64 (w * h)) : gridE w h s m zs = 11 := by rw [gridE, if_neg h1, if_pos h2]
theorem gridE_c {w h s : Int} {m : Nat} {zs : List Int} (h1 : ¬ ((decide (1 ≤ w) && decide (w ≤ 24)) = false ∨ (decide (1 ≤ h) && decide (h ≤ 24)) = false ∨ (decide (1 ≤ s) && decide (s ≤ 10000)) = false)) (h2 : (m : Int) = wr .i64 (w * h)) (h3 : (List.range m).any (fun i => !grdV zs i) = true) : gridE w h s m zs = 3 := by rw [gridE, if_neg h1, if_neg (fun h => h h2), if_pos h3]
theorem gridE_d {w h s : Int} {m : Nat} {zs : List Int} (h1 : ¬ ((decide (1 ≤ w) && decide (w ≤ 24)) = false ∨ (decide (1 ≤ h) && decide (h ≤ 24)) = false ∨ (decide (1 ≤ s) && decide (s ≤ 10000)) = false)) (h2 : (m : Int) = wr .i64 (w * h)) (h3 : (List.range m).any (fun i => !grdV zs i) = false) : gridE w h s m zs = 0 := by rw [gridE, if_neg h1, if_neg (fun h => h h2), h3]; rfl
section
variable {g : Nat} {rd : Option Nat} {T : List Value} {D : List Nat} {A : Hp} {Q : Ex → St → Prop} {V : Value → Hp → Prop}
theorem w55 {x lo hi : Int} (hV : V (.bool (decide (lo ≤ x) && decide (x ≤ hi))) A) : WF AP KL g 55 [.int .i64 x, .int .i64 lo, .int .i64 hi] A V := by
  rw [WF_body (show KL 55 = none from rfl) (show AP 55 = some F55 from rfl)]
  by_cases h : lo ≤ x
  · simp (disch := as_aux_lemma => first | omega | simp only [hDs] <;> omega | simp [isCell]) [hRs, takeMarks, resA, resAll, resOne, Value.cells, F55, h]
    simpa [h] using hV
  · simp (disch := as_aux_lemma => first | omega | simp only [hDs] <;> omega | simp [isCell]) [hRs, takeMarks, resA, resAll, resOne, Value.cells, F55, h]
    simpa [h] using hV
theorem w59 {x lo hi : Int} (hV : V (.bool (decide (lo ≤ x) && decide (x ≤ hi))) A) : WF AP KL g 59 [.int .i64 x, .int .i64 lo, .int .i64 hi] A V := by
  rw [WF_body (show KL 59 = none from rfl) (show AP 59 = some F59 from rfl)]
  by_cases h : lo ≤ x
  · simp (disch := as_aux_lemma => first | omega | simp only [hDs] <;> omega | simp [isCell]) [hRs, takeMarks, resA, resAll, resOne, Value.cells, F59, h]
    simpa [h] using hV
  · simp (disch := as_aux_lemma => first | omega | simp only [hDs] <;> omega | simp [isCell]) [hRs, takeMarks, resA, resAll, resOne, Value.cells, F59, h]
    simpa [h] using hV
theorem w58 {a b : Int} (hV : ∀ A', Ext' A A' → V (.bool (validB a b (-1200000) 1200000)) A') : WF AP KL g 58 [.agg ⟨[.int .i64 a, .int .i64 b]⟩, .int .i64 1200000] A V := by
  rw [WF_body (show KL 58 = none from rfl) (show AP 58 = some F58 from rfl)]
  have e1 : wr .i64 (-1200000) = -1200000 := by decide
  have hV' := hV _ (Ext'.push A (.cells [.int .i64 a, .int .i64 b] false))
  by_cases h : a ≤ b
  · by_cases h2 : -1200000 ≤ a
    · simp (disch := as_aux_lemma => first | omega | simp only [hDs] <;> omega | simp [isCell]) [hRs, takeMarks, resA, resAll, resOne, Value.cells, F58, h, h2, e1]
      simpa [validB, h, h2] using hV'
    · simp (disch := as_aux_lemma => first | omega | simp only [hDs] <;> omega | simp [isCell]) [hRs, takeMarks, resA, resAll, resOne, Value.cells, F58, h, h2, e1]
      simpa [validB, h, h2] using hV'
  · simp (disch := as_aux_lemma => first | omega | simp only [hDs] <;> omega | simp [isCell]) [hRs, takeMarks, resA, resAll, resOne, Value.cells, F58, h]
    simpa [validB, h] using hV'
theorem says57 {A0 : Hp} {n : Nat} {zs : List Int} : Says g A0 (.func (.func 57) ⟨[]⟩ ⟨[]⟩) n (fun i => .agg ⟨[.int .i64 (gi zs (i * 2)), .int .i64 (gi zs (i * 2 + 1))]⟩) (fun i => !grdV zs i) := by
  intro i hi A V he hV
  simp (disch := as_aux_lemma => first | omega | simp only [hDs] <;> omega | simp [isCell]) [hRs, takeMarks, resA, resAll, resOne, Value.cells]
  rw [WF_body (show KL 57 = none from rfl) (show AP 57 = some F57 from rfl)]
  simp (disch := as_aux_lemma => first | omega | simp only [hDs] <;> omega | simp [isCell]) [hRs, takeMarks, resA, resAll, resOne, Value.cells, F57]
  refine w58 fun A' he' => ?_
  simp (disch := as_aux_lemma => first | omega | simp only [hDs] <;> omega | simp [isCell]) [hRs, takeMarks, resA, resAll, resOne, Value.cells]
  exact hV A' ((Ext'.push A _).trans he')
theorem w37 {w h s : Int} {m : Nat} {zs : List Int} {sl : Value} (hsl : RdS A 2 m (ints zs) sl) (hm : m < 1000000) (hV : ∀ A', Ext' A A' → V (.int .i64 (gridE w h s m zs)) A') : WF AP KL g 37 [gridV w h s sl] A V := by
  rw [WF_body (show KL 37 = none from rfl) (show AP 37 = some F37 from rfl)]
  have hX : (A.push (.cells [.int .i64 w, .int .i64 h, .int .i64 s, sl] false)).get A.n = some (.cells [.int .i64 w, .int .i64 h, .int .i64 s, sl] false) := get_push_new
  have eX := Ext'.push A (.cells [.int .i64 w, .int .i64 h, .int .i64 s, sl] false)
  have hl := hsl.1
  rw [ints_length] at hl
  simp (disch := as_aux_lemma => first | omega | simp only [hDs] <;> omega | simp [isCell]) [hRs, takeMarks, resA, resAll, resOne, Value.cells, F37, gridV]
  refine w55 ?_
  cases c1 : (decide (1 ≤ w) && decide (w ≤ 24)) with
  | false =>
    simp (disch := as_aux_lemma => first | omega | simp only [hDs] <;> omega | simp [isCell]) [hRs, takeMarks, resA, resAll, resOne, Value.cells]
    rw [← gridE_a (.inl c1)]; exact hV _ eX
  | true =>
    simp (disch := as_aux_lemma => first | omega | simp only [hDs] <;> omega | simp [isCell]) [hRs, takeMarks, resA, resAll, resOne, Value.cells]
    refine w55 ?_
    cases c2 : (decide (1 ≤ h) && decide (h ≤ 24)) with
    | false =>
      simp (disch := as_aux_lemma => first | omega | simp only [hDs] <;> omega | simp [isCell]) [hRs, takeMarks, resA, resAll, resOne, Value.cells]
      rw [← gridE_a (.inr (.inl c2))]; exact hV _ eX
    | true =>
      simp (disch := as_aux_lemma => first | omega | simp only [hDs] <;> omega | simp [isCell]) [hRs, takeMarks, resA, resAll, resOne, Value.cells]
      refine w55 ?_
      cases c3 : (decide (1 ≤ s) && decide (s ≤ 10000)) with
      | false =>
        simp (disch := as_aux_lemma => first | omega | simp only [hDs] <;> omega | simp [isCell]) [hRs, takeMarks, resA, resAll, resOne, Value.cells]
        rw [← gridE_a (.inr (.inr c3))]; exact hV _ eX
      | true =>
        have hc : ¬ ((decide (1 ≤ w) && decide (w ≤ 24)) = false ∨ (decide (1 ≤ h) && decide (h ≤ 24)) = false ∨ (decide (1 ≤ s) && decide (s ≤ 10000)) = false) := by simp only [c1, c2, c3]; simp
        by_cases hwh : (m : Int) = wr .i64 (w * h)
        · simp (disch := as_aux_lemma => first | omega | simp only [hDs] <;> omega | simp [isCell]) [hRs, takeMarks, resA, resAll, resOne, Value.cells, hsl.len, ← hwh]
          refine w56 (eX.rdS hsl) (fun i hi => ints_two (by omega)) says57 hm fun A' he => ?_
          cases c4 : (List.range m).any (fun i => !grdV zs i) with
          | true =>
            simp (disch := as_aux_lemma => first | omega | simp only [hDs] <;> omega | simp [isCell]) [hRs, takeMarks, resA, resAll, resOne, Value.cells]
            rw [← gridE_c hc hwh c4]; exact hV _ (eX.trans he)
          | false =>
            simp (disch := as_aux_lemma => first | omega | simp only [hDs] <;> omega | simp [isCell]) [hRs, takeMarks, resA, resAll, resOne, Value.cells]
            rw [← gridE_d hc hwh c4]; exact hV _ (eX.trans he)
        · simp (disch := as_aux_lemma => first | omega | simp only [hDs] <;> omega | simp [isCell]) [hRs, takeMarks, resA, resAll, resOne, Value.cells, hsl.len, hwh]
          rw [← gridE_b hc hwh]; exact hV _ eX
theorem loop40 {A0 : Hp} {X1 m : Nat} {zs : List Int} {sl w h s : Value} (hsl : RdS A0 2 m (ints zs) sl) (hm : m < 1000000) (hg : g ≤ A0.n) (h1 : A0.get X1 = some (.cells [w, h, s, sl] false))
    (herr : ∀ T' A', (List.range m).any (fun i => !grdV zs i) = true → Ext' A0 A' → tget T' 2 = .int .i64 3 → Q .ret ⟨T', D, A'⟩)
    (hend : ∀ T' A', (List.range m).any (fun i => !grdV zs i) = false → Ext' A0 A' → Q (.exit 0) ⟨T', D, A'⟩) :
    ∀ (k i : Nat) {T1 : List Value} {A : Hp}, i + k = m → (∀ j, j < i → grdV zs j = true) → Ext' A0 A → tget T1 1 = .pointer (some ⟨X1, 0, none⟩) → tget T1 3 = .int .i64 i → W AP KL g rd (.loop body40) ⟨T1, D, A⟩ Q := by
  have hzl := hsl.1
  rw [ints_length] at hzl
  intro k
  induction k with
  | zero =>
    intro i T1 A hik hok he t1 t3
    have : i = m := by omega
    subst this
    rw [W_loop]
    simp (disch := as_aux_lemma => first | omega | simp only [hDs] <;> omega | simp [isCell]) [hRs, takeMarks, resA, resAll, resOne, Value.cells, body40, t1, t3, he.get h1, (he.rdS hsl).len]
    refine hend _ A ?_ he
    rw [Bool.eq_false_iff]
    intro h
    obtain ⟨j, hj, hb⟩ := List.any_eq_true.1 h
    rw [hok j (by simpa using hj)] at hb
    cases hb
  | succ k ih =>
    intro i T1 A hik hok he t1 t3
    obtain ⟨x, c, ro, rfl, hx⟩ := (he.rdS hsl).at (i := i) (by omega)
    have hgA := Nat.le_trans hg he.1
    have e1 := he.trans (Ext'.push A (.cells [.int .i64 (gi zs (i * 2)), .int .i64 (gi zs (i * 2 + 1))] false))
    have bad : grdV zs i = false → (List.range m).any (fun i => !grdV zs i) = true := fun h => List.any_eq_true.2 ⟨i, by simp; omega, by simp [h]⟩
    rw [W_loop]
    by_cases c1 : gi zs (i * 2) ≤ gi zs (i * 2 + 1)
    · by_cases c2 : -1200000 ≤ gi zs (i * 2)
      · by_cases c3 : gi zs (i * 2 + 1) ≤ 1200000
        · simp (disch := as_aux_lemma => first | omega | simp only [hDs] <;> omega | simp [isCell]) [hRs, takeMarks, resA, resAll, resOne, Value.cells, body40, t1, t3, he.get h1, show ((i : Int) < m) by omega, idxSA_ok, hx, ints_two, storeB_cells, setRange, set_push_eq, show ¬ gi zs (i * 2 + 1) < gi zs (i * 2) by omega, show ¬ gi zs (i * 2) < -1200000 by omega, show ¬ 1200000 < gi zs (i * 2 + 1) by omega]
          have hok' : ∀ j, j < i + 1 → grdV zs j = true := fun j hj => by
            rcases Nat.lt_or_ge j i with h | h
            · exact hok j h
            · have : j = i := by omega
              subst this; simp [grdV, validB, c1, c2, c3]
          exact ih (i + 1) (by omega) hok' e1 (by simp [t1]) (by simp [wrId (n := (i : Int) + 1) (by omega) (by omega)])
        · simp (disch := as_aux_lemma => first | omega | simp only [hDs] <;> omega | simp [isCell]) [hRs, takeMarks, resA, resAll, resOne, Value.cells, body40, t1, t3, he.get h1, show ((i : Int) < m) by omega, idxSA_ok, hx, ints_two, storeB_cells, setRange, set_push_eq, show ¬ gi zs (i * 2 + 1) < gi zs (i * 2) by omega, show ¬ gi zs (i * 2) < -1200000 by omega, show 1200000 < gi zs (i * 2 + 1) by omega]
          exact herr _ _ (bad (by simp [grdV, validB, c1, c2, c3])) e1 (by simp)
      · simp (disch := as_aux_lemma => first | omega | simp only [hDs] <;> omega | simp [isCell]) [hRs, takeMarks, resA, resAll, resOne, Value.cells, body40, t1, t3, he.get h1, show ((i : Int) < m) by omega, idxSA_ok, hx, ints_two, storeB_cells, setRange, set_push_eq, show ¬ gi zs (i * 2 + 1) < gi zs (i * 2) by omega, show gi zs (i * 2) < -1200000 by omega]
        exact herr _ _ (bad (by simp [grdV, validB, c1, c2])) e1 (by simp)
    · simp (disch := as_aux_lemma => first | omega | simp only [hDs] <;> omega | simp [isCell]) [hRs, takeMarks, resA, resAll, resOne, Value.cells, body40, t1, t3, he.get h1, show ((i : Int) < m) by omega, idxSA_ok, hx, ints_two, storeB_cells, setRange, set_push_eq, show gi zs (i * 2 + 1) < gi zs (i * 2) by omega]
      exact herr _ _ (bad (by simp [grdV, validB, c1])) e1 (by simp)
theorem w40 {w h s : Int} {m : Nat} {zs : List Int} {sl : Value} (hsl : RdS A 2 m (ints zs) sl) (hm : m < 1000000) (hg : g ≤ A.n) (hV : ∀ A', Ext' A A' → V (.int .i64 (gridE w h s m zs)) A') : WF AP KL g 40 [gridV w h s sl] A V := by
  rw [WF_body (show KL 40 = none from rfl) (show AP 40 = some F40 from rfl)]
  have hX : (A.push (.cells [.int .i64 w, .int .i64 h, .int .i64 s, sl] false)).get A.n = some (.cells [.int .i64 w, .int .i64 h, .int .i64 s, sl] false) := get_push_new
  have eX := Ext'.push A (.cells [.int .i64 w, .int .i64 h, .int .i64 s, sl] false)
  simp (disch := as_aux_lemma => first | omega | simp only [hDs] <;> omega | simp [isCell]) [hRs, takeMarks, resA, resAll, resOne, Value.cells, F40, gridV]
  refine w59 ?_
  cases c1 : (decide (1 ≤ w) && decide (w ≤ 24)) with
  | false =>
    simp (disch := as_aux_lemma => first | omega | simp only [hDs] <;> omega | simp [isCell]) [hRs, takeMarks, resA, resAll, resOne, Value.cells]
    rw [← gridE_a (.inl c1)]; exact hV _ eX
  | true =>
    simp (disch := as_aux_lemma => first | omega | simp only [hDs] <;> omega | simp [isCell]) [hRs, takeMarks, resA, resAll, resOne, Value.cells]
    refine w59 ?_
    cases c2 : (decide (1 ≤ h) && decide (h ≤ 24)) with
    | false =>
      simp (disch := as_aux_lemma => first | omega | simp only [hDs] <;> omega | simp [isCell]) [hRs, takeMarks, resA, resAll, resOne, Value.cells]
      rw [← gridE_a (.inr (.inl c2))]; exact hV _ eX
    | true =>
      simp (disch := as_aux_lemma => first | omega | simp only [hDs] <;> omega | simp [isCell]) [hRs, takeMarks, resA, resAll, resOne, Value.cells]
      refine w59 ?_
      cases c3 : (decide (1 ≤ s) && decide (s ≤ 10000)) with
      | false =>
        simp (disch := as_aux_lemma => first | omega | simp only [hDs] <;> omega | simp [isCell]) [hRs, takeMarks, resA, resAll, resOne, Value.cells]
        rw [← gridE_a (.inr (.inr c3))]; exact hV _ eX
      | true =>
        have hc : ¬ ((decide (1 ≤ w) && decide (w ≤ 24)) = false ∨ (decide (1 ≤ h) && decide (h ≤ 24)) = false ∨ (decide (1 ≤ s) && decide (s ≤ 10000)) = false) := by simp only [c1, c2, c3]; simp
        by_cases hwh : (m : Int) = wr .i64 (w * h)
        · simp (disch := as_aux_lemma => first | omega | simp only [hDs] <;> omega | simp [isCell]) [hRs, takeMarks, resA, resAll, resOne, Value.cells, hsl.len, ← hwh]
          refine loop40 (A0 := (A.push (.cells [.int .i64 w, .int .i64 h, .int .i64 s, sl] false))) (X1 := A.n) (m := m) (zs := zs) (eX.rdS hsl) hm (by simp; omega) hX ?_ ?_ m 0 (by omega) (fun j hj => absurd hj (by omega)) (Ext'.refl _) (by simp) (by simp)
          · intro T' A' c4 he t2
            simp (disch := as_aux_lemma => first | omega | simp only [hDs] <;> omega | simp [isCell]) [hRs, takeMarks, resA, resAll, resOne, Value.cells, t2]
            rw [← gridE_c hc hwh c4]; exact hV _ (eX.trans he)
          · intro T' A' c4 he
            simp (disch := as_aux_lemma => first | omega | simp only [hDs] <;> omega | simp [isCell]) [hRs, takeMarks, resA, resAll, resOne, Value.cells]
            rw [← gridE_d hc hwh c4]; exact hV _ (eX.trans he)
        · simp (disch := as_aux_lemma => first | omega | simp only [hDs] <;> omega | simp [isCell]) [hRs, takeMarks, resA, resAll, resOne, Value.cells, hsl.len, hwh]
          rw [← gridE_b hc hwh]; exact hV _ eX
end
def blkOf : Value → Option Nat
  | .slice (some ⟨x, _, _⟩) _ _ => some x
  | _ => none
theorem _root_.Go.Ab.AccS.keepB {N : Nat} {A A' : Hp} {esz : Nat} {cs : List Value} {sv : Value} (h : AccS N A esz cs sv) (hA : ∀ b, blkOf sv = some b → A'.get b = A.get b) : AccS N A' esz cs sv := by
  rcases h with h | ⟨b, n, h1, h2, h3, h4, h5⟩
  · exact .inl h
  · exact .inr ⟨b, n, h1, by rw [hA b (by rw [h1]; rfl)]; exact h2, h3, h4, h5⟩
theorem _root_.Go.Ab.AccS.blk_ge {N : Nat} {A : Hp} {esz : Nat} {cs : List Value} {sv : Value} (h : AccS N A esz cs sv) {b : Nat} (hb : blkOf sv = some b) : N ≤ b ∧ b < A.n := by
  rcases h with ⟨rfl, _⟩ | ⟨b', n, rfl, h2, h3, h4, h5⟩
  · cases hb
  · cases hb; exact ⟨h3, Hp.lt_of_get h2⟩
structure HS where
  wc : Int
  ws : Int
  sc : Int
  ss : Int
  may : Int
  must : Int
structure Sec where
  cell : Int
  cl : Int
  ch : Int
  sl : Int
  sh : Int
  toe : Int
  wl : Int
  wh : Int
def Sec.cells (S : Sec) : List Value := [.int .i64 S.cell, .int .i64 S.cl, .int .i64 S.ch, .int .i64 S.sl, .int .i64 S.sh, .int .i64 S.toe, .int .i64 S.wl, .int .i64 S.wh]
def holdS (S : Sec) (zs : List Int) : Nat → HS
  | 0 => ⟨S.cl, S.sl, S.ch, S.sh, -1, -1⟩
  | k + 1 =>
    ⟨if S.toe < gi zs (k * 2 + 1) then wr .i64 ((holdS S zs k).wc - S.wh) else (holdS S zs k).wc, if S.toe < gi zs (k * 2 + 1) then wr .i64 ((holdS S zs k).ws - S.wh) else (holdS S zs k).ws,
     if S.toe < gi zs (k * 2) then wr .i64 ((holdS S zs k).sc - S.wl) else (holdS S zs k).sc, if S.toe < gi zs (k * 2) then wr .i64 ((holdS S zs k).ss - S.wl) else (holdS S zs k).ss,
     if (holdS S zs k).may < 0 ∧ min (holdS S zs k).wc (holdS S zs k).ws < gi zs (k * 2 + 1) then k else (holdS S zs k).may,
     if (holdS S zs k).must < 0 ∧ min (holdS S zs k).sc (holdS S zs k).ss < gi zs (k * 2) then k else (holdS S zs k).must⟩
def fateV (a b : Value) (m u : Int) : Value := .agg ⟨[a, b, .int .i64 m, .int .i64 u]⟩
def KeepT (l : List Nat) (T T' : List Value) : Prop := ∀ i ∈ l, tget T' i = tget T i
@[simp] theorem KeepT_nil {T T' : List Value} : KeepT [] T T' := fun _ h => by cases h
@[simp] theorem KeepT_cons {a : Nat} {l : List Nat} {T T' : List Value} : KeepT (a :: l) T T' ↔ tget T' a = tget T a ∧ KeepT l T T' := by simp [KeepT]
theorem KeepT.at {l : List Nat} {T T' : List Value} (h : KeepT l T T') (i : Nat) (hi : l.contains i = true) : tget T' i = tget T i := h i (by simpa using hi)
theorem KeepT.trans {l : List Nat} {T T' T'' : List Value} (h : KeepT l T T') (h' : KeepT l T' T'') : KeepT l T T'' := fun i hi => (h' i hi).trans (h i hi)
section
variable {g : Nat} {rd : Option Nat} {T : List Value} {D : List Nat} {A : Hp} {Q : Ex → St → Prop} {V : Value → Hp → Prop}
def But (x : Nat) (A A' : Hp) : Prop := A.n ≤ A'.n ∧ ∀ z, z < A.n → z ≠ x → A'.get z = A.get z
theorem But.of_ext {x : Nat} {A A' : Hp} (h : Ext' A A') : But x A A' := ⟨h.1, fun z hz _ => h.2 z hz⟩
theorem But.set {x : Nat} {A A' : Hp} {b : Option ABlk} (hx : x < A.n) (h : Ext' A A') : But x A (A'.set x b) := ⟨by have := h.1; simpa using this, fun z hz hzx => by rw [get_set_ne (by have := h.1; omega) hzx, h.2 z hz]⟩
end
theorem part4 {cs : List Value} {o : Nat} {a b c d : Value} (h0 : cellAt cs o = some a) (h1 : cellAt cs (o + 1) = some b) (h2 : cellAt cs (o + 2) = some c) (h3 : cellAt cs (o + 3) = some d) : partA cs o (some 4) = some (.agg ⟨[a, b, c, d]⟩) := by
  have l3 := (List.getElem?_eq_some_iff.1 (show cs[o + 3]? = some d from h3)).1
  rw [partA_some (by omega)]
  congr 3
  apply List.ext_getElem?
  intro i
  rw [List.getElem?_take]
  by_cases hi : i < 4
  · rw [if_pos hi, List.getElem?_drop]
    have : i = 0 ∨ i = 1 ∨ i = 2 ∨ i = 3 := by omega
    rcases this with rfl | rfl | rfl | rfl
    · exact h0
    · exact h1
    · exact h2
    · exact h3
  · rw [if_neg hi]
    exact (List.getElem?_eq_none (by simp; omega)).symm
structure FT where
  cn : Nat
  cz : List Int
  sn : Nat
  sz : List Int
  may : Int
  must : Int
def FateAt (A : Hp) (cells : List Value) (i : Nat) (f : FT) : Prop :=
  ∃ a b, partA cells (i * 4) (some 4) = some (fateV a b f.may f.must) ∧ cellAt cells (i * 4) = some a ∧ cellAt cells (i * 4 + 1) = some b ∧ cellAt cells (i * 4 + 2) = some (.int .i64 f.may) ∧ cellAt cells (i * 4 + 3) = some (.int .i64 f.must) ∧ RdS A 2 f.cn (ints f.cz) a ∧ RdS A 2 f.sn (ints f.sz) b
def Fates (A : Hp) (n : Nat) (F : Nat → FT) (sl : Value) : Prop := ∃ cells, RdS A 4 n cells sl ∧ ∀ i, i < n → FateAt A cells i (F i)
theorem FateAt.mono {A A' : Hp} {cells : List Value} {i : Nat} {f : FT} (h : FateAt A cells i f) (hA : ∀ z, z < A.n → A'.get z = A.get z) : FateAt A' cells i f := by
  obtain ⟨a, b, h1, h2, h3, h4, h5, h6, h7⟩ := h
  exact ⟨a, b, h1, h2, h3, h4, h5, h6.mono hA, h7.mono hA⟩
theorem Fates.mono {A A' : Hp} {n : Nat} {F : Nat → FT} {sl : Value} (h : Fates A n F sl) (hA : ∀ z, z < A.n → A'.get z = A.get z) : Fates A' n F sl := by
  obtain ⟨cells, h1, h2⟩ := h
  exact ⟨cells, h1.mono hA, fun i hi => (h2 i hi).mono hA⟩
theorem Fates.len {A : Hp} {n : Nat} {F : Nat → FT} {sl : Value} (h : Fates A n F sl) : lenV sl = some (.int .i64 n) := by obtain ⟨_, h1, _⟩ := h; exact h1.len
theorem Fates.at {A : Hp} {n i : Nat} {F : Nat → FT} {sl : Value} (h : Fates A n F sl) (hi : i < n) : ∃ x c ro cells, sl = .slice (some ⟨x, 0, some 4⟩) n c ∧ A.get x = some (.cells cells ro) ∧ FateAt A cells i (F i) := by
  obtain ⟨cells, h1, h2⟩ := h
  obtain ⟨x, c, ro, h3, h4⟩ := h1.at hi
  exact ⟨x, c, ro, cells, h3, h4, h2 i hi⟩
theorem But.trans {x : Nat} {A B C : Hp} (h : But x A B) (h' : But x B C) : But x A C := ⟨Nat.le_trans h.1 h'.1, fun z hz hx => (h'.2 z (Nat.lt_of_lt_of_le hz h.1) hx).trans (h.2 z hz hx)⟩
structure StepT where
  name : ByteArray
  an : Nat
  al : List Int
  tl : Int
  th : Int
  calm : Bool
  clear : Bool
  logs : Int
def stepC (a : Value) (s : StepT) : List Value := [.string s.name, a, .int .i64 s.tl, .int .i64 s.th, .bool s.calm, .bool s.clear, .int .i64 s.logs]
def StepAt (A : Hp) (cells : List Value) (i : Nat) (s : StepT) : Prop :=
  ∃ a, partA cells (i * 7) (some 7) = some (.agg ⟨stepC a s⟩) ∧ cellAt cells (i * 7) = some (.string s.name) ∧ cellAt cells (i * 7 + 1) = some a ∧ partA cells (i * 7 + 2) (some 2) = some (.agg ⟨[.int .i64 s.tl, .int .i64 s.th]⟩) ∧
    cellAt cells (i * 7 + 2) = some (.int .i64 s.tl) ∧ cellAt cells (i * 7 + 3) = some (.int .i64 s.th) ∧ cellAt cells (i * 7 + 4) = some (.bool s.calm) ∧ cellAt cells (i * 7 + 5) = some (.bool s.clear) ∧ cellAt cells (i * 7 + 6) = some (.int .i64 s.logs) ∧ RdS A 1 s.an (ints s.al) a
def Steps (A : Hp) (n : Nat) (S : Nat → StepT) (sl : Value) : Prop := ∃ cells, RdS A 7 n cells sl ∧ ∀ i, i < n → StepAt A cells i (S i)
theorem StepAt.mono {A A' : Hp} {cells : List Value} {i : Nat} {f : StepT} (h : StepAt A cells i f) (hA : ∀ z, z < A.n → A'.get z = A.get z) : StepAt A' cells i f := by
  obtain ⟨a, h1, h2, h3, h4, h5, h6, h7, h8, h9, h10⟩ := h
  exact ⟨a, h1, h2, h3, h4, h5, h6, h7, h8, h9, h10.mono hA⟩
theorem Steps.mono {A A' : Hp} {n : Nat} {F : Nat → StepT} {sl : Value} (h : Steps A n F sl) (hA : ∀ z, z < A.n → A'.get z = A.get z) : Steps A' n F sl := by
  obtain ⟨cells, h1, h2⟩ := h
  exact ⟨cells, h1.mono hA, fun i hi => (h2 i hi).mono hA⟩
theorem Steps.len {A : Hp} {n : Nat} {F : Nat → StepT} {sl : Value} (h : Steps A n F sl) : lenV sl = some (.int .i64 n) := by obtain ⟨_, h1, _⟩ := h; exact h1.len
theorem Steps.at {A : Hp} {n i : Nat} {F : Nat → StepT} {sl : Value} (h : Steps A n F sl) (hi : i < n) : ∃ x c ro cells, sl = .slice (some ⟨x, 0, some 7⟩) n c ∧ A.get x = some (.cells cells ro) ∧ cells.length = n * 7 ∧ ∀ j, j < n → StepAt A cells j (F j) := by
  obtain ⟨cells, h1, h2⟩ := h
  obtain ⟨x, c, ro, h3, h4⟩ := h1.at hi
  exact ⟨x, c, ro, cells, h3, h4, h1.1, h2⟩
def never : Int := 1099511627776
def Bd (B v : Int) : Prop := 0 ≤ v ∧ (v ≤ B ∨ v = never)
theorem Bd.mono {B B' v : Int} (h : Bd B v) (hB : B ≤ B') : Bd B' v := by unfold Bd at *; omega
theorem _root_.Go.Ab.RdS.cellsAt {A : Hp} {k n : Nat} {cs : List Value} {sv : Value} (h : RdS A k n cs sv) : cellsAt A (n * k) sv = some cs := by
  obtain ⟨h0, ⟨rfl, rfl⟩ | ⟨b, c, ro, rfl, hb⟩⟩ := h
  · have : cs = [] := List.eq_nil_of_length_eq_zero (by simpa using h0)
    subst this; simp [Go.Ab.cellsAt]
  · simp only [Go.Ab.cellsAt, hb]
    rw [if_pos (by omega)]
    simp [← h0]
def FSep (A : Hp) (cells : List Value) (sv : Value) (j : Nat) (f : FT) : Prop :=
  ∃ a b, cellAt cells (j * 4) = some a ∧ cellAt cells (j * 4 + 1) = some b ∧ cellAt cells (j * 4 + 2) = some (.int .i64 f.may) ∧ cellAt cells (j * 4 + 3) = some (.int .i64 f.must) ∧ RdS A 2 f.cn (ints f.cz) a ∧ RdS A 2 f.sn (ints f.sz) b ∧
    (∀ z, blkOf a = some z → blkOf sv ≠ some z) ∧ (∀ z, blkOf b = some z → blkOf sv ≠ some z)
theorem FSep.at {A : Hp} {cells : List Value} {sv : Value} {j : Nat} {f : FT} (h : FSep A cells sv j f) : FateAt A cells j f := by
  obtain ⟨a, b, h1, h2, h3, h4, h5, h6, _⟩ := h
  exact ⟨a, b, part4 h1 h2 h3 h4, h1, h2, h3, h4, h5, h6⟩
theorem _root_.Go.Ab.RdS.keepB {A A' : Hp} {k n : Nat} {cs : List Value} {sv : Value} (h : RdS A k n cs sv) (hA : ∀ z, blkOf sv = some z → A'.get z = A.get z) : RdS A' k n cs sv := by
  obtain ⟨h0, h | ⟨b, c, ro, rfl, h2⟩⟩ := h
  · exact ⟨h0, .inl h⟩
  · exact ⟨h0, .inr ⟨b, c, ro, rfl, by rw [hA b rfl]; exact h2⟩⟩
theorem _root_.Go.Ab.RdS.blk_lt {A : Hp} {k n : Nat} {cs : List Value} {sv : Value} (h : RdS A k n cs sv) {z : Nat} (hz : blkOf sv = some z) : z < A.n := by
  obtain ⟨h0, ⟨rfl, _⟩ | ⟨b, c, ro, rfl, h2⟩⟩ := h
  · cases hz
  · cases hz; exact Hp.lt_of_get h2
def SSep (A : Hp) (cells : List Value) (sv : Value) (j : Nat) (s : StepT) : Prop :=
  ∃ a, (∀ (o : Nat) v, (stepC a s)[o]? = some v → cells[j * 7 + o]? = some v) ∧ RdS A 1 s.an (ints s.al) a ∧ (∀ z, blkOf a = some z → blkOf sv ≠ some z)
def wallC (cr st toe m0 m1 m2 wear : Int) (lv wd tr : Value) : List Value := [.int .i16 cr, .int .i16 st, .int .i16 toe, .int .u8 m0, .int .u8 m1, .int .u8 m2, .int .u8 wear, lv, wd, tr]
structure WallIn (A : Hp) (cs : List Value) (n : Nat) : Prop where
  e : ∃ (cr st toe m0 m1 m2 wear : Int) (lv wd tr : Value) (m q : Nat) (xs ys us : List Int), cs = wallC cr st toe m0 m1 m2 wear lv wd tr ∧ (-32768 ≤ cr ∧ cr ≤ 32767) ∧ (-32768 ≤ st ∧ st ≤ 32767) ∧ (-32768 ≤ toe ∧ toe ≤ 32767) ∧ (0 ≤ m0 ∧ m0 ≤ 255) ∧ (0 ≤ m1 ∧ m1 ≤ 255) ∧ (0 ≤ m2 ∧ m2 ≤ 255) ∧ (0 ≤ wear ∧ wear ≤ 255) ∧
    RdS A 1 n (kints .i16 xs) lv ∧ (∀ j, -32768 ≤ gi xs j ∧ gi xs j ≤ 32767) ∧ RdS A 1 m (kints .u8 ys) wd ∧ m < 9223372036854775808 ∧ (∀ j, 0 ≤ gi ys j ∧ gi ys j ≤ 255) ∧ RdS A 1 q (kints .u8 us) tr ∧ q < 9223372036854775808 ∧ (∀ j, 0 ≤ gi us j ∧ gi us j ≤ 255)
structure WallOk (S : Sec) : Prop where
  c : -2000 < S.cl ∧ S.cl ≤ S.ch ∧ S.ch < 2300
  s : -2000 < S.sl ∧ S.sl ≤ S.sh ∧ S.sh < 2300
  t : -2000 < S.toe ∧ S.toe < 2000
  w : 0 ≤ S.wl ∧ S.wl ≤ S.wh ∧ S.wh ≤ 60
structure HB (k : Nat) (s : HS) : Prop where
  a : -(2000 + 60 * (k : Int)) ≤ s.wc ∧ s.wc ≤ 2300
  b : -(2000 + 60 * (k : Int)) ≤ s.ws ∧ s.ws ≤ 2300
  c : -(2000 + 60 * (k : Int)) ≤ s.sc ∧ s.sc ≤ 2300
  d : -(2000 + 60 * (k : Int)) ≤ s.ss ∧ s.ss ≤ 2300
  may : -1 ≤ s.may ∧ s.may < k
  must : -1 ≤ s.must ∧ s.must < k
structure HStep (S : Sec) (lo hi : Int) (k : Nat) (s s' : HS) : Prop where
  a : s'.wc = if S.toe < hi then s.wc - S.wh else s.wc
  b : s'.ws = if S.toe < hi then s.ws - S.wh else s.ws
  c : s'.sc = if S.toe < lo then s.sc - S.wl else s.sc
  d : s'.ss = if S.toe < lo then s.ss - S.wl else s.ss
  may : s'.may = if s.may < 0 ∧ min s.wc s.ws < hi then (k : Int) else s.may
  must : s'.must = if s.must < 0 ∧ min s.sc s.ss < lo then (k : Int) else s.must
structure Liv (s : HS) (k : Nat) (c h f : Int) : Prop where
  a : s.wc ≤ c ∧ c ≤ s.sc
  b : s.ws ≤ h ∧ h ≤ s.ss
  f0 : -1 ≤ f ∧ f < k
  may : 0 ≤ f → 0 ≤ s.may ∧ s.may ≤ f
  must : 0 ≤ s.must → 0 ≤ f ∧ f ≤ s.must
structure Nar (s p : HS) (k : Nat) : Prop where
  a : s.wc ≤ p.wc ∧ p.wc ≤ p.sc ∧ p.sc ≤ s.sc
  b : s.ws ≤ p.ws ∧ p.ws ≤ p.ss ∧ p.ss ≤ s.ss
  may : 0 ≤ p.may → 0 ≤ s.may ∧ s.may ≤ p.may
  must : 0 ≤ s.must → 0 ≤ p.must ∧ p.must ≤ s.must
structure Narrower (S P : Sec) (n : Nat) (zs ys : List Int) : Prop where
  c : S.cl ≤ P.cl ∧ P.cl ≤ P.ch ∧ P.ch ≤ S.ch
  s : S.sl ≤ P.sl ∧ P.sl ≤ P.sh ∧ P.sh ≤ S.sh
  w : S.wl ≤ P.wl ∧ P.wl ≤ P.wh ∧ P.wh ≤ S.wh
  t : P.toe = S.toe
  l : ∀ j, j < n → gi zs (j * 2) ≤ gi ys (j * 2) ∧ gi ys (j * 2) ≤ gi ys (j * 2 + 1) ∧ gi ys (j * 2 + 1) ≤ gi zs (j * 2 + 1)
section
variable {g : Nat} {rd : Option Nat} {T : List Value} {D : List Nat} {A : Hp} {Q : Ex → St → Prop} {V : Value → Hp → Prop}
structure Lists (S : Sec) (zs : List Int) (i : Nat) (cL hL : List Int) : Prop where
  lc : cL.length = i + 1
  lh : hL.length = i + 1
  all : ∀ j, j ≤ i → ((holdS S zs j).wc ≤ gi cL j ∧ gi cL j ≤ (holdS S zs j).sc) ∧ ((holdS S zs j).ws ≤ gi hL j ∧ gi hL j ≤ (holdS S zs j).ss)
end
structure NarS (S P : Sec) : Prop where
  c : S.cl ≤ P.cl ∧ P.cl ≤ P.ch ∧ P.ch ≤ S.ch
  s : S.sl ≤ P.sl ∧ P.sl ≤ P.sh ∧ P.sh ≤ S.sh
  w : S.wl ≤ P.wl ∧ P.wl ≤ P.wh ∧ P.wh ≤ S.wh
  t : P.toe = S.toe
structure JobT where
  lo : Int
  more : Int
  after : Int
  calm : Bool
  truth : Int
def jobC (j : JobT) : List Value := [.int .u16 j.lo, .int .u16 j.more, .int .u16 j.after, .bool j.calm, .int .u16 j.truth]
def Jobs (A : Hp) (n : Nat) (J : Nat → JobT) (sl : Value) : Prop := ∃ cells, RdS A 5 n cells sl ∧ ∀ i, i < n → partA cells (i * 5) (some 5) = some (.agg ⟨jobC (J i)⟩)
theorem Jobs.len {A : Hp} {n : Nat} {J : Nat → JobT} {sl : Value} (h : Jobs A n J sl) : lenV sl = some (.int .i64 n) := by obtain ⟨_, h1, _⟩ := h; exact h1.len
theorem Jobs.at {A : Hp} {n i : Nat} {J : Nat → JobT} {sl : Value} (h : Jobs A n J sl) (hi : i < n) : ∃ x c ro cells, sl = .slice (some ⟨x, 0, some 5⟩) n c ∧ A.get x = some (.cells cells ro) ∧ ∀ j, j < n → partA cells (j * 5) (some 5) = some (.agg ⟨jobC (J j)⟩) := by
  obtain ⟨cells, h1, h2⟩ := h
  obtain ⟨x, c, ro, h3, h4⟩ := h1.at hi
  exact ⟨x, c, ro, cells, h3, h4, h2⟩
def Grow (N : Nat) (A : Hp) (n : Nat) (S : Nat → StepT) (sv : Value) : Prop := ∃ cells, AccS N A 7 cells sv ∧ cells.length = n * 7 ∧ ∀ j, j < n → SSep A cells sv j (S j)
theorem Grow.mono {N : Nat} {A A' : Hp} {n : Nat} {S : Nat → StepT} {sv : Value} (h : Grow N A n S sv) (he : Ext' A A') : Grow N A' n S sv := by
  obtain ⟨cells, h1, h2, h3⟩ := h
  refine ⟨cells, h1.mono he.2, h2, fun j hj => ?_⟩
  obtain ⟨a, p1, p2, p3⟩ := h3 j hj
  exact ⟨a, p1, he.rdS p2, p3⟩
def WSub (ws : List Int) (nw : Nat) (ws' : List Int) (nw' : Nat) : Prop := ∀ j, j < nw' → ∃ i, i < nw ∧ gi ws (i * 2) = gi ws' (j * 2) ∧ gi ws (i * 2 + 1) = gi ws' (j * 2 + 1)
theorem WSub.refl (ws : List Int) (nw : Nat) : WSub ws nw ws nw := fun j hj => ⟨j, hj, rfl, rfl⟩
structure HpS (N : Nat) (A : Hp) (sv : Value) (L : List (Int × Int)) : Prop where
  e : (sv = .slice none 0 0 ∧ L = []) ∨ ∃ b c cs, sv = .slice (some ⟨b, 0, some 2⟩) L.length c ∧ A.get b = some (.cells cs false) ∧ cs.length = c * 2 ∧ L.length ≤ c ∧ N ≤ b ∧ ∀ q, q < L.length → cs[q * 2]? = some (.int .i64 (L.getD q (0, 0)).1) ∧ cs[q * 2 + 1]? = some (.int .i64 (L.getD q (0, 0)).2)
theorem HpS.len {N : Nat} {A : Hp} {sv : Value} {L : List (Int × Int)} (h : HpS N A sv L) : lenV sv = some (.int .i64 L.length) := by
  rcases h.e with ⟨rfl, rfl⟩ | ⟨b, c, cs, rfl, _⟩ <;> rfl
theorem HpS.row {N : Nat} {A : Hp} {sv : Value} {L : List (Int × Int)} (h : HpS N A sv L) (h0 : 0 < L.length) : ∃ b c cs, sv = .slice (some ⟨b, 0, some 2⟩) L.length c ∧ A.get b = some (.cells cs false) ∧ cs.length = c * 2 ∧ L.length ≤ c ∧ N ≤ b ∧ ∀ q, q < L.length → cs[q * 2]? = some (.int .i64 (L.getD q (0, 0)).1) ∧ cs[q * 2 + 1]? = some (.int .i64 (L.getD q (0, 0)).2) := by
  rcases h.e with ⟨_, rfl⟩ | h
  · simp at h0
  · exact h
theorem HpS.add {N g : Nat} {A : Hp} {sv : Value} {L : List (Int × Int)} {x y : Int} {ro : Bool} (h : HpS N A sv L) (hg : g ≤ N) (hN : N ≤ A.n) (hr : L.length < 1000000000000) :
    ∃ sv' A', appendA g (A.push (.cells [.int .i64 x, .int .i64 y] ro)) 2 16 sv (.slice (some ⟨A.n, 0, some 2⟩) 1 1) = some (sv', A') ∧ HpS N A' sv' (L ++ [(x, y)]) ∧ (∀ z, z < A.n → blkOf sv ≠ some z → A'.get z = A.get z) ∧ A.n ≤ A'.n ∧ ∀ z, z < A.n → blkOf sv' = some z → blkOf sv = some z := by
  have hcells : cellsAt (A.push (.cells [.int .i64 x, .int .i64 y] ro)) (1 * 2) (.slice (some ⟨A.n, 0, some 2⟩) 1 1) = some [.int .i64 x, .int .i64 y] := by
    simp only [cellsAt, get_push_new]
    rfl
  have hlast : ∀ q, q < (L ++ [(x, y)]).length → (L ++ [(x, y)]).getD q (0, 0) = if q = L.length then (x, y) else L.getD q (0, 0) := fun q hq => by
    simp only [List.length_append, List.length_singleton] at hq
    rw [List.getD_eq_getElem?_getD, List.getD_eq_getElem?_getD]
    by_cases h1 : q = L.length
    · rw [if_pos h1, h1, List.getElem?_append_right (Nat.le_refl _)]; simp
    · rw [if_neg h1, List.getElem?_append_left (by omega)]
  rcases h.e with ⟨rfl, rfl⟩ | ⟨b, c, cs, rfl, hb, hc, hlc, hNb, hat⟩
  · refine ⟨.slice (some ⟨A.n + 1, 0, some 2⟩) 1 1, (A.push (.cells [.int .i64 x, .int .i64 y] ro)).push (.cells [.int .i64 x, .int .i64 y] false), ?_, ⟨.inr ⟨A.n + 1, 1, _, rfl, by rw [get_push_eq (by simp)], rfl, Nat.le_refl _, by omega, fun q hq => ?_⟩⟩, fun z hz _ => by rw [get_push_old (by simp; omega), get_push_old hz], by simp; omega, fun z hz h => by cases h; omega⟩
    · unfold appendA
      simp only [hcells]
      rfl
    · have : q = 0 := by simpa using hq
      subst this
      exact ⟨rfl, rfl⟩
  · have hbn := Hp.lt_of_get hb
    have hb1 : (A.push (.cells [.int .i64 x, .int .i64 y] ro)).get b = some (.cells cs false) := by rw [get_push_old hbn]; exact hb
    unfold appendA
    simp only [hcells]
    rw [if_pos ⟨rfl, by decide⟩, if_neg (by decide)]
    simp only [hb1]
    rw [if_pos ⟨by omega, by unfold room; omega, by unfold room; omega, trivial⟩]
    by_cases hfull : L.length = c
    · rw [if_pos (by omega)]
      refine ⟨_, _, rfl, ⟨.inr ⟨A.n + 1, L.length + 1, cs ++ [.int .i64 x, .int .i64 y], by simp, by rw [Hp.get_push, Hp.n_set, Hp.n_push, if_pos rfl]; simp, by simp [hc]; omega, by simp, by omega, fun q hq => ?_⟩⟩, fun z hz hzb => ?_, by simp; omega, fun z hz h => ?_⟩
      · rw [hlast q hq]
        simp only [List.length_append, List.length_singleton] at hq
        by_cases h1 : q = L.length
        · rw [if_pos h1, List.getElem?_append_right (by omega), List.getElem?_append_right (by omega), show q * 2 - cs.length = 0 by omega, show q * 2 + 1 - cs.length = 1 by omega]
          exact ⟨rfl, rfl⟩
        · rw [if_neg h1, List.getElem?_append_left (by omega), List.getElem?_append_left (by omega)]
          exact hat q (by omega)
      · have hzb' : z ≠ b := fun h => hzb (by rw [h]; rfl)
        rw [get_push_old (by simp; omega), get_set_ne (by simp; omega) hzb', get_push_old hz]
      · simp [blkOf] at h; omega
    · rw [if_neg (by omega), if_pos (by omega)]
      have hw : writeA g (A.push (.cells [.int .i64 x, .int .i64 y] ro)) b (0 + L.length * 2) [.int .i64 x, .int .i64 y] = some ((A.push (.cells [.int .i64 x, .int .i64 y] ro)).set b (some (.cells (setRange cs (L.length * 2) [.int .i64 x, .int .i64 y]) false))) := by
        unfold writeA
        rw [if_pos (by omega), hb1, Nat.zero_add]
        simp only
        rw [if_pos ⟨by simp; omega, rfl⟩]
      rw [hw]
      have hsl : (setRange cs (L.length * 2) [Value.int .i64 x, .int .i64 y]).length = cs.length := setRange_length (by simp; omega)
      refine ⟨_, _, rfl, ⟨.inr ⟨b, c, setRange cs (L.length * 2) [.int .i64 x, .int .i64 y], by simp, get_set_same hb1, by omega, by simp; omega, hNb, fun q hq => ?_⟩⟩, fun z hz hzb => ?_, by simp, fun z hz h => h⟩
      · rw [hlast q hq, setRange_get (by simp; omega), setRange_get (by simp; omega)]
        simp only [List.length_append, List.length_singleton] at hq
        simp only [List.length_cons, List.length_nil]
        by_cases h1 : q = L.length
        · rw [if_pos h1, if_pos (by omega), if_pos (by omega), show q * 2 - L.length * 2 = 0 by omega, show q * 2 + 1 - L.length * 2 = 1 by omega]
          exact ⟨rfl, rfl⟩
        · rw [if_neg h1, if_neg (by omega), if_neg (by omega)]
          exact hat q (by omega)
      · have hzb' : z ≠ b := fun h => hzb (by rw [h]; rfl)
        rw [get_set_ne (by simp; omega) hzb', get_push_old hz]
def bef275 : Value := .func (.func 275) ⟨[]⟩ ⟨[]⟩
structure HpA (N XH : Nat) (A : Hp) (L : List (Int × Int)) : Prop where
  e : ∃ sv, A.get XH = some (.cells [sv, bef275] false) ∧ HpS N A sv L
  lt : XH < N
def HeB (A : Hp) (XH z : Nat) : Prop := ∃ sv, A.get XH = some (.cells [sv, bef275] false) ∧ blkOf sv = some z
structure HUp (XH : Nat) (A A' : Hp) : Prop where
  n : A.n ≤ A'.n
  o : ∀ z, z < A.n → z ≠ XH → ¬ HeB A XH z → A'.get z = A.get z
  b : ∀ z, z < A.n → HeB A' XH z → HeB A XH z
theorem HUp.refl (XH : Nat) (A : Hp) : HUp XH A A := ⟨Nat.le_refl _, fun _ _ _ _ => rfl, fun _ _ h => h⟩
theorem HUp.trans {XH : Nat} {A A' A'' : Hp} (h : HUp XH A A') (h' : HUp XH A' A'') : HUp XH A A'' :=
  ⟨Nat.le_trans h.n h'.n, fun z hz hx hb => (h'.o z (Nat.lt_of_lt_of_le hz h.n) hx fun hb' => hb (h.b z hz hb')).trans (h.o z hz hx hb), fun z hz hb => h.b z hz (h'.b z (Nat.lt_of_lt_of_le hz h.n) hb)⟩
theorem HUp.new {XH Y : Nat} {A A' A'' : Hp} (h : HUp XH A A') (hY : A.n ≤ Y) (hX : Y ≠ XH) (hn : A'.n ≤ A''.n) (ho : ∀ z, z ≠ Y → A''.get z = A'.get z) : HUp XH A A'' :=
  ⟨Nat.le_trans h.n hn, fun z hz hx hb => (ho z (by omega)).trans (h.o z hz hx hb), fun z hz hB => by
    obtain ⟨sv, h1, h2⟩ := hB
    exact h.b z hz ⟨sv, by rw [← ho XH (Ne.symm hX)]; exact h1, h2⟩⟩
theorem _root_.Go.Ab.AccS.row {N n k : Nat} {A : Hp} {cs : List Value} {sv : Value} (h : AccS N A k cs sv) (hl : cs.length = n * k) (hn : 0 < n) (hk : 0 < k) : ∃ X, sv = .slice (some ⟨X, 0, some k⟩) n n ∧ A.get X = some (.cells cs false) ∧ N ≤ X := by
  rcases h with ⟨_, rfl⟩ | ⟨b, m, rfl, hb, hN, hm, _⟩
  · have := Nat.mul_pos hn hk
    simp at hl; omega
  · have : m = n := Nat.eq_of_mul_eq_mul_right hk (hm.symm.trans hl)
    subst this
    exact ⟨b, rfl, hb, hN⟩
def tset1 (S : Nat → StepT) (i : Nat) (v w : Int) (j : Nat) : StepT := if j = i then { S j with tl := v, th := w } else S j
theorem Grow.row {N n i : Nat} {A : Hp} {S : Nat → StepT} {sv : Value} (h : Grow N A n S sv) (hi : i < n) : ∃ X cells, sv = .slice (some ⟨X, 0, some 7⟩) n n ∧ A.get X = some (.cells cells false) ∧ N ≤ X ∧ cells.length = n * 7 ∧ cellAt cells (i * 7 + 2) = some (.int .i64 (S i).tl) ∧ cellAt cells (i * 7 + 3) = some (.int .i64 (S i).th) ∧
    ∀ (v w : Int) (A' : Hp), A'.get X = some (.cells (setRange (setRange cells (i * 7 + 2) [.int .i64 v]) (i * 7 + 3) [.int .i64 w]) false) → (∀ z, z < A.n → z ≠ X → A'.get z = A.get z) → Grow N A' n (tset1 S i v w) sv := by
  obtain ⟨cells, h1, h2, h3⟩ := h
  obtain ⟨X, rfl, hX, hN⟩ := h1.row h2 (by omega) (by decide)
  obtain ⟨ai, q1, _, _⟩ := h3 i hi
  refine ⟨X, cells, rfl, hX, hN, h2, q1 2 _ rfl, q1 3 _ rfl, fun v w A' hX' ho => ?_⟩
  have l1 : (setRange cells (i * 7 + 2) [.int .i64 v]).length = cells.length := setRange_length (by simp; omega)
  have l2 : (setRange (setRange cells (i * 7 + 2) [.int .i64 v]) (i * 7 + 3) [.int .i64 w]).length = cells.length := (setRange_length (by simp; omega)).trans l1
  have hat : ∀ q, (setRange (setRange cells (i * 7 + 2) [.int .i64 v]) (i * 7 + 3) [.int .i64 w])[q]? = if q = i * 7 + 3 then some (.int .i64 w) else if q = i * 7 + 2 then some (.int .i64 v) else cells[q]? := fun q => by
    rw [setRange_get (by simp; omega), setRange_get (by simp; omega)]
    simp only [List.length_singleton]
    by_cases c1 : q = i * 7 + 3
    · rw [if_pos (by omega), if_pos c1, show q - (i * 7 + 3) = 0 by omega]; rfl
    · rw [if_neg (by omega), if_neg c1]
      by_cases c2 : q = i * 7 + 2
      · rw [if_pos (by omega), if_pos c2, show q - (i * 7 + 2) = 0 by omega]; rfl
      · rw [if_neg (by omega), if_neg c2]
  refine ⟨_, .inr ⟨X, n, rfl, hX', hN, by omega, by omega⟩, by omega, fun j hj => ?_⟩
  obtain ⟨a, p1, p2, p3⟩ := h3 j hj
  have hr : ∀ z, blkOf a = some z → A'.get z = A.get z := fun z hz => ho z (p2.blk_lt hz) (fun h => p3 z hz (by rw [h]; rfl))
  by_cases hji : j = i
  · subst hji
    refine (show SSep _ _ _ j (tset1 S j v w j) from ⟨a, fun o x hx => ?_, ?_, p3⟩)
    · rw [hat]
      rw [tset1, if_pos rfl] at hx
      match o with
      | 0 => rw [if_neg (by omega), if_neg (by omega)]; exact p1 0 _ hx
      | 1 => rw [if_neg (by omega), if_neg (by omega)]; exact p1 1 _ hx
      | 2 => rw [if_neg (by omega), if_pos (by omega)]; exact hx
      | 3 => rw [if_pos (by omega)]; exact hx
      | 4 => rw [if_neg (by omega), if_neg (by omega)]; exact p1 4 _ hx
      | 5 => rw [if_neg (by omega), if_neg (by omega)]; exact p1 5 _ hx
      | 6 => rw [if_neg (by omega), if_neg (by omega)]; exact p1 6 _ hx
      | o + 7 => cases hx
    · rw [tset1, if_pos rfl]
      exact p2.keepB hr
  · refine (show SSep _ _ _ j (tset1 S i v w j) from ?_)
    rw [tset1, if_neg hji]
    refine ⟨a, fun o x hx => ?_, p2.keepB hr, p3⟩
    have := p1 o x hx
    have ho7 : o < 7 := by
      have := (List.getElem?_eq_some_iff.1 hx).1
      simpa [stepC] using this
    rw [hat, if_neg (by omega), if_neg (by omega)]; exact this
end Go.Ab.Gauge
set_option maxRecDepth 100000
namespace Go.Ab.Gauge
open Go Go.Ab
def midU (a b : Nat) : Nat := uA (uM (uR a 32) (uN b 4294967295)) (uR (uM (uN a 4294967295) (uN b 4294967295)) 32)
def mulHi (a b : Nat) : Nat :=
  uA (uA (uM (uR a 32) (uR b 32)) (uR (midU a b) 32)) (uR (uA (uN (midU a b) 4294967295) (uM (uN a 4294967295) (uR b 32))) 32)
def timesU (a b : Nat) : Nat := uO (uL (mulHi a b) 2) (uR (uM a b) 62)
def div1800 (hi lo : Nat) : Option Nat :=
  if 1800 ≤ hi then none else if hi = 0 then some (uD lo 1800) else
  let n := uO (uL hi 53) (uR lo 11)
  let q1 := uD n 3774873600
  let r1 := uS n (uM q1 3774873600)
  if 4294967296 ≤ q1 ∨ uA (uM 4294967296 r1) (uR (uL lo 53) 32) < uM q1 0 then none else
  let n2 := uS (uA (uM n 4294967296) (uR (uL lo 53) 32)) (uM q1 16212958658533785600)
  let q0 := uD n2 3774873600
  let r0 := uS n2 (uM q0 3774873600)
  if 4294967296 ≤ q0 ∨ uA (uM 4294967296 r0) (uN (uL lo 53) 4294967295) < uM q0 0 then none else
  some (uA (uM q1 4294967296) q0)
def radU (k : Int) : Option Nat := div1800 (mulHi 14488038916154245684 (iU k)) (uM 14488038916154245684 (iU k))
def sumU : Nat → Nat → Nat → Nat → Bool → Nat → Nat → Option Nat
  | 0, _, _, _, _, _, _ => none
  | f + 1, sq, t, n, p, s0, s1 =>
    if uM (uA n 1) (uA n 2) = 0 then none else
    if t = 0 then some (uS s0 s1) else
    sumU f sq (uD (timesU t sq) (uM (uA n 1) (uA n 2))) (uA n 2) (!p) (if p then s0 else uA s0 t) (if p then uA s1 t else s1)
def spanU (v : Nat) : Int × Int := (uI (uR (uS v 1024) 46), wr .i64 (uI (uR (uA v 1024) 46) + 1))
def quarterU (k : Int) : Option (Int × Int) :=
  if k = 0 then some (65536, 65536) else if k = 600 then some (32768, 32768) else if k = 900 then some (0, 0) else
  if k ≤ 450 then match radU k with
    | some x => (sumU 40 (timesU x x) 4611686018427387904 0 false 0 0).map spanU
    | none => none
  else match radU (900 - k) with
    | some x => (sumU 40 (timesU x x) x 1 false 0 0).map spanU
    | none => none
section
variable {g : Nat} {rd : Option Nat} {T : List Value} {D : List Nat} {A : Hp} {Q : Ex → St → Prop} {V : Value → Hp → Prop}
theorem uc0 : Value.int .u64 0 = u64 0 := rfl
theorem uc1 : Value.int .u64 1 = u64 1 := rfl
theorem uc2 : Value.int .u64 2 = u64 2 := rfl
theorem uc32 : Value.int .u64 32 = u64 32 := rfl
theorem uc46 : Value.int .u64 46 = u64 46 := rfl
theorem uc62 : Value.int .u64 62 = u64 62 := rfl
theorem uc64 : Value.int .u64 64 = u64 64 := rfl
theorem uc1024 : Value.int .u64 1024 = u64 1024 := rfl
theorem uc1800 : Value.int .u64 1800 = u64 1800 := rfl
theorem ucM : Value.int .u64 4294967295 = u64 4294967295 := rfl
theorem ucN : Value.int .u64 4294967296 = u64 4294967296 := rfl
theorem ucOne : Value.int .u64 4611686018427387904 = u64 4611686018427387904 := rfl
theorem ucPi : Value.int .u64 14488038916154245684 = u64 14488038916154245684 := rfl
theorem w108 {a b : Nat} (hV : V (.tuple ⟨[u64 (mulHi a b), u64 (uM a b)]⟩) A) : WF AP KL g 108 [u64 a, u64 b] A V := by
  rw [WF_body rfl (show AP 108 = some F108 from rfl)]
  simp (disch := as_aux_lemma => first | omega | simp only [hDs] <;> omega | simp [isCell]) [hRs, takeMarks, resA, resAll, resOne, Value.cells, F108, uc0, uc32, ucM, u64_and, u64_shr, u64_mul, u64_add]
  exact hV
theorem w540 {a b : Nat} (hV : V (u64 (timesU a b)) A) : WF AP KL g 540 [u64 a, u64 b] A V := by
  rw [WF_body rfl (show AP 540 = some F540 from rfl)]
  simp (disch := as_aux_lemma => first | omega | simp only [hDs] <;> omega | simp [isCell]) [hRs, takeMarks, resA, resAll, resOne, Value.cells, F540, uc0]
  refine w108 ?_
  simp (disch := as_aux_lemma => first | omega | simp only [hDs] <;> omega | simp [isCell]) [hRs, takeMarks, resA, resAll, resOne, Value.cells, uc2, uc62, u64_shr, u64_shl, u64_or]
  exact hV
theorem w542 {hi lo q : Nat} (h : div1800 hi lo = some q) (hV : ∀ r, V (.tuple ⟨[u64 q, r]⟩) A) : WF AP KL g 542 [u64 hi, u64 lo, u64 1800] A V := by
  unfold div1800 at h
  rw [WF_body rfl (show AP 542 = some F542 from rfl)]
  by_cases h1 : 1800 ≤ hi
  · rw [if_pos h1] at h; cases h
  rw [if_neg h1] at h
  by_cases h2 : hi = 0
  · rw [if_pos h2] at h
    cases h
    have hr : ∃ r, binA .rem (u64 lo) (u64 1800) = some r := ⟨_, rfl⟩
    obtain ⟨r, hr⟩ := hr
    simp (disch := as_aux_lemma => first | omega | simp only [hDs] <;> omega | simp [isCell]) [hRs, takeMarks, resA, resAll, resOne, Value.cells, F542, uc0, u64_eql, u64_leq, h1, h2, u64_quo (show 1800 ≠ 0 by decide), hr]
    exact hV _
  · rw [if_neg h2] at h
    dsimp only at h
    generalize e1 : uO (uL hi 53) (uR lo 11) = n at h
    generalize e2 : uD n 3774873600 = q1 at h
    generalize e3 : uS n (uM q1 3774873600) = r1 at h
    split at h
    · cases h
    rename_i k1
    generalize e4 : uS (uA (uM n 4294967296) (uR (uL lo 53) 32)) (uM q1 16212958658533785600) = n2 at h
    generalize e5 : uD n2 3774873600 = q0 at h
    generalize e6 : uS n2 (uM q0 3774873600) = r0 at h
    split at h
    · cases h
    rename_i k2
    cases h
    have k1a : ¬ 4294967296 ≤ q1 := fun h => k1 (.inl h)
    have k1b : ¬ uA (uM 4294967296 r1) (uR (uL lo 53) 32) < uM q1 0 := fun h => k1 (.inr h)
    have k2a : ¬ 4294967296 ≤ q0 := fun h => k2 (.inl h)
    have k2b : ¬ uA (uM 4294967296 r0) (uN (uL lo 53) 4294967295) < uM q0 0 := fun h => k2 (.inr h)
    simp (disch := as_aux_lemma => first | omega | simp only [hDs] <;> omega | simp [isCell]) [hRs, takeMarks, resA, resAll, resOne, Value.cells, F542, uc0, u64_eql, u64_leq, h1, h2]
    rw [w543]
    simp (disch := as_aux_lemma => first | omega | simp only [hDs] <;> omega | simp [isCell]) [hRs, takeMarks, resA, resAll, resOne, Value.cells, int_u64, show iU 53 = 53 from rfl, u64_shl, u64_shr, u64_sub, u64_or, u64_and, u64_mul, u64_add, uc32, uc64, ucM, ucN, show uL 1800 53 = 16212958658533785600 from rfl, show uR 16212958658533785600 32 = 3774873600 from rfl, show uN 16212958658533785600 4294967295 = 0 from rfl, show uS 64 53 = 11 from rfl, u64_quo (show 3774873600 ≠ 0 by decide), e1, e2, e3, W_loop, u64_geq, u64_gtr, k1a, k1b, e4, e5, e6, k2a, k2b]
    exact hV _
theorem w538 {k : Int} {x : Nat} (h : radU k = some x) (hV : V (u64 x) A) : WF AP KL g 538 [.int .i64 k] A V := by
  rw [WF_body rfl (show AP 538 = some F538 from rfl)]
  simp (disch := as_aux_lemma => first | omega | simp only [hDs] <;> omega | simp [isCell]) [hRs, takeMarks, resA, resAll, resOne, Value.cells, F538, uc0, ucPi, int_u64]
  refine w108 ?_
  simp (disch := as_aux_lemma => first | omega | simp only [hDs] <;> omega | simp [isCell]) [hRs, takeMarks, resA, resAll, resOne, Value.cells, uc1800]
  refine w542 h fun r => ?_
  simp (disch := as_aux_lemma => first | omega | simp only [hDs] <;> omega | simp [isCell]) [hRs, takeMarks, resA, resAll, resOne, Value.cells]
  exact hV
end
end Go.Ab.Gauge
set_option maxRecDepth 100000
namespace Go.Ab.Gauge
open Go Go.Ab
def ptr (x : Nat) : Value := .pointer (some ⟨x, 0, none⟩)
def fnS (X : Nat) : Value := .func (.func 541) ⟨[]⟩ ⟨[.pointer (some ⟨X + 2, 0, none⟩), .pointer (some ⟨X + 1, 0, none⟩), .pointer (some ⟨X, 0, none⟩)]⟩
structure Ser (A : Hp) (X t sq n : Nat) : Prop where
  h0 : A.get X = some (.cells [u64 n] false)
  h1 : A.get (X + 1) = some (.cells [u64 sq] false)
  h2 : A.get (X + 2) = some (.cells [u64 t] false)
theorem Ser.keep {A A' : Hp} {X t sq n : Nat} (h : Ser A X t sq n) (e : ∀ x, x ≤ X + 2 → A'.get x = A.get x) : Ser A' X t sq n :=
  ⟨by rw [e X (by omega)]; exact h.h0, by rw [e (X + 1) (by omega)]; exact h.h1, by rw [e (X + 2) (by omega)]; exact h.h2⟩
abbrev SerK (X : Nat) : Hp → Hp → Prop := Keep fun x => x = X ∨ x = X + 2
section
variable {g : Nat} {rd : Option Nat} {T : List Value} {D : List Nat} {A : Hp} {Q : Ex → St → Prop} {V : Value → Hp → Prop}
theorem w541 {X t sq n : Nat} (S : Ser A X t sq n) (hg : g ≤ X) (hd : uM (uA n 1) (uA n 2) ≠ 0)
    (hV : ∀ A', Ser A' X (uD (timesU t sq) (uM (uA n 1) (uA n 2))) sq (uA n 2) → SerK X A A' → A'.n = A.n → V (u64 t) A') :
    WF AP KL g 541 [.pointer (some ⟨X + 2, 0, none⟩), .pointer (some ⟨X + 1, 0, none⟩), .pointer (some ⟨X, 0, none⟩)] A V := by
  obtain ⟨h0, h1, h2⟩ := S
  have hn := Hp.lt_of_get h2
  rw [WF_body rfl (show AP 541 = some F541 from rfl)]
  simp (disch := first | omega | (as_aux_lemma => simp only [Hp.n_push, Hp.n_set, List.length_cons, List.length_nil, ints_length, List.length_append]) | (as_aux_lemma => simp only [List.all_cons, List.all_nil, isCell_u64, Bool.and_true]) | (simp only [Hp.n_push, Hp.n_set, List.length_cons, List.length_nil, ints_length, List.length_append]; omega)) [get_push_eq, get_push_old, set_push_old, partA_all, partA_cons, takeMarks, resA, resAll, resOne, cells_u64, F541, uc0, h0, h1, h2]
  refine w540 ?_
  have g0 := (get_set_ne (y := X) (b := some (.cells [u64 (uD (timesU t sq) (uM (uA n 1) (uA n 2)))] false)) hn (by omega)).trans h0
  have g1 := (get_set_ne (y := X + 1) (b := some (.cells [u64 (uD (timesU t sq) (uM (uA n 1) (uA n 2)))] false)) hn (by omega)).trans h1
  have g2 := get_set_same (b := some (.cells [u64 (uD (timesU t sq) (uM (uA n 1) (uA n 2)))] false)) h2
  simp (disch := first | omega | (as_aux_lemma => simp only [Hp.n_push, Hp.n_set, List.length_cons, List.length_nil, ints_length, List.length_append]) | (as_aux_lemma => simp only [List.all_cons, List.all_nil, isCell_u64, Bool.and_true]) | (simp only [Hp.n_push, Hp.n_set, List.length_cons, List.length_nil, ints_length, List.length_append]; omega)) [get_push_eq, get_push_old, set_push_old, partA_all, partA_cons, takeMarks, resA, resAll, resOne, cells_u64, uc1, uc2, u64_add, u64_mul, u64_quo hd, h0, h2, storeB_cells, setRange, g0]
  refine hV _ ⟨?_, ?_, ?_⟩ ⟨by simp, fun x hx hp => ?_⟩ rfl
  · exact get_set_same g0
  · rw [get_set_ne (by simp; omega) (by omega)]; exact g1
  · rw [get_set_ne (by simp; omega) (by omega)]; exact g2
  · rw [get_set_ne (by simp; omega) (by omega), get_set_ne hn (by omega)]
theorem loop536 {A0 : Hp} {X Y v : Nat} (hXY : X + 2 < Y) (hYn : Y < A0.n) (hg : g ≤ X)
    (hQ : ∀ T' A', (Keep (fun x => x = X ∨ x = X + 2 ∨ x = Y) A0 A') → tget T' 2 = u64 v → Q .ret ⟨T', D, A'⟩) :
    ∀ (f : Nat) {sq t n s0 s1 k : Nat} {p : Bool} {T : List Value} {A : Hp}, sumU f sq t n p s0 s1 = some v → k + f < 1000 → (k % 2 = if p then 1 else 0) → Ser A X t sq n → A.get Y = some (.cells [u64 s0, u64 s1] false) →
      Keep (fun x => x = X ∨ x = X + 2 ∨ x = Y) A0 A → tget T 0 = fnS X → tget T 3 = .pointer (some ⟨Y, 0, none⟩) → tget T 4 = .int .i64 k → W AP KL g rd (.loop body536) ⟨T, D, A⟩ Q := by
  intro f
  induction f with
  | zero => intro _ _ _ _ _ _ _ _ _ h; cases h
  | succ f ih =>
    intro sq t n s0 s1 k p T A h hk hp hS hY hA t0 t3 t4
    rw [sumU] at h
    by_cases h1 : uM (uA n 1) (uA n 2) = 0
    · rw [if_pos h1] at h; cases h
    rw [if_neg h1] at h
    have hn1 := hA.1
    rw [W_loop]
    simp (disch := first | omega | (as_aux_lemma => simp only [Hp.n_push, Hp.n_set, List.length_cons, List.length_nil, ints_length, List.length_append]) | (as_aux_lemma => simp only [List.all_cons, List.all_nil, isCell_u64, Bool.and_true]) | (simp only [Hp.n_push, Hp.n_set, List.length_cons, List.length_nil, ints_length, List.length_append]; omega)) [get_push_eq, get_push_old, set_push_old, partA_all, partA_cons, takeMarks, resA, resAll, resOne, cells_u64, body536, t0, fnS]
    refine w541 hS hg h1 fun A1 hS1 hk1 hl1 => ?_
    have hY1 : A1.get Y = some (.cells [u64 s0, u64 s1] false) := by rw [hk1.2 Y (Hp.lt_of_get hY) (by omega)]; exact hY
    have hA1 : Keep (fun x => x = X ∨ x = X + 2 ∨ x = Y) A0 A1 := hA.trans (hk1.mono fun x hx => by omega)
    have ek : wr .i64 ((k : Int) + 1) = ((k + 1 : Nat) : Int) := by rw [wrId (by omega) (by omega)]; simp
    by_cases h2 : t = 0
    · subst h2
      rw [if_pos rfl] at h
      cases h
      simp (disch := first | omega | (as_aux_lemma => simp only [Hp.n_push, Hp.n_set, List.length_cons, List.length_nil, ints_length, List.length_append]) | (as_aux_lemma => simp only [List.all_cons, List.all_nil, isCell_u64, Bool.and_true]) | (simp only [Hp.n_push, Hp.n_set, List.length_cons, List.length_nil, ints_length, List.length_append]; omega)) [get_push_eq, get_push_old, set_push_old, partA_all, partA_cons, takeMarks, resA, resAll, resOne, cells_u64, uc0, u64_eql, t3, idxAA_ok, hY1, u64_sub]
      exact hQ _ _ hA1 (by simp)
    rw [if_neg h2] at h
    cases p with
    | true =>
      have hp' : k % 2 = 1 := by simpa using hp
      have er : ((k : Int)).tmod 2 = 1 := by rw [Int.tmod_eq_emod_of_nonneg (by omega)]; omega
      simp (disch := first | omega | (as_aux_lemma => simp only [Hp.n_push, Hp.n_set, List.length_cons, List.length_nil, ints_length, List.length_append]) | (as_aux_lemma => simp only [List.all_cons, List.all_nil, isCell_u64, Bool.and_true]) | (simp only [Hp.n_push, Hp.n_set, List.length_cons, List.length_nil, ints_length, List.length_append]; omega)) [get_push_eq, get_push_old, set_push_old, partA_all, partA_cons, takeMarks, resA, resAll, resOne, cells_u64, uc0, u64_eql, h2, t3, t4, idxAA_ok, hY1, u64_add, binA_rem (show (2 : Int) ≠ 0 by decide), er, storeB_cells, setRange, ek]
      exact ih (k := k + 1) h (by omega) (by simp; omega) (hS1.keep fun x hx => get_set_ne (Hp.lt_of_get hY1) (by omega)) (get_set_same hY1) (hA1.trans ⟨by simp, fun x hx hp => get_set_ne (Hp.lt_of_get hY1) (by omega)⟩) (by simp [t0, fnS]) (by simp [t3]) (by simp)
    | false =>
      have hp' : k % 2 = 0 := by simpa using hp
      have er : ((k : Int)).tmod 2 = 0 := by rw [Int.tmod_eq_emod_of_nonneg (by omega)]; omega
      simp (disch := first | omega | (as_aux_lemma => simp only [Hp.n_push, Hp.n_set, List.length_cons, List.length_nil, ints_length, List.length_append]) | (as_aux_lemma => simp only [List.all_cons, List.all_nil, isCell_u64, Bool.and_true]) | (simp only [Hp.n_push, Hp.n_set, List.length_cons, List.length_nil, ints_length, List.length_append]; omega)) [get_push_eq, get_push_old, set_push_old, partA_all, partA_cons, takeMarks, resA, resAll, resOne, cells_u64, uc0, u64_eql, h2, t3, t4, idxAA_ok, hY1, u64_add, binA_rem (show (2 : Int) ≠ 0 by decide), er, storeB_cells, setRange, ek]
      exact ih (k := k + 1) h (by omega) (by simp; omega) (hS1.keep fun x hx => get_set_ne (Hp.lt_of_get hY1) (by omega)) (get_set_same hY1) (hA1.trans ⟨by simp, fun x hx hp => get_set_ne (Hp.lt_of_get hY1) (by omega)⟩) (by simp [t0, fnS]) (by simp [t3]) (by simp)
theorem w536 {X f sq t n v : Nat} (S : Ser A X t sq n) (hg : g ≤ X) (hf : f < 900) (h : sumU f sq t n false 0 0 = some v) (hV : ∀ A', SerK X A A' → V (u64 v) A') : WF AP KL g 536 [fnS X] A V := by
  have hn := Hp.lt_of_get S.h2
  rw [WF_body rfl (show AP 536 = some F536 from rfl)]
  simp (disch := first | omega | (as_aux_lemma => simp only [Hp.n_push, Hp.n_set, List.length_cons, List.length_nil, ints_length, List.length_append]) | (as_aux_lemma => simp only [List.all_cons, List.all_nil, isCell_u64, Bool.and_true]) | (simp only [Hp.n_push, Hp.n_set, List.length_cons, List.length_nil, ints_length, List.length_append]; omega)) [get_push_eq, get_push_old, set_push_old, partA_all, partA_cons, takeMarks, resA, resAll, resOne, cells_u64, F536, uc0]
  refine loop536 (A0 := A.push (.cells [u64 0, u64 0] false)) (X := X) (Y := A.n) (v := v) (by omega) (by simp) hg (fun T' A' hk h2 => ?_) f (k := 0) h (by omega) (by simp) (S.keep fun x hx => get_push_old (by omega)) (by rw [get_push_new]) ⟨Nat.le_refl _, fun _ _ _ => rfl⟩ (by simp) (by simp) (by simp)
  simp (disch := first | omega | (as_aux_lemma => simp only [Hp.n_push, Hp.n_set, List.length_cons, List.length_nil, ints_length, List.length_append]) | (as_aux_lemma => simp only [List.all_cons, List.all_nil, isCell_u64, Bool.and_true]) | (simp only [Hp.n_push, Hp.n_set, List.length_cons, List.length_nil, ints_length, List.length_append]; omega)) [get_push_eq, get_push_old, set_push_old, partA_all, partA_cons, takeMarks, resA, resAll, resOne, cells_u64, h2]
  refine hV _ ⟨?_, fun x hx hp => ?_⟩
  · have := hk.1; simp at this; omega
  · rw [hk.2 x (by simp; omega) (by omega), get_push_old hx]
theorem w537 {x f n : Nat} (hg : g ≤ A.n) (hV : ∀ A', Ser A' A.n f (timesU x x) n → Ext' A A' → A'.n = A.n + 3 → V (fnS A.n) A') : WF AP KL g 537 [u64 x, u64 f, u64 n] A V := by
  rw [WF_body rfl (show AP 537 = some F537 from rfl)]
  simp (disch := first | omega | (as_aux_lemma => simp only [Hp.n_push, Hp.n_set, List.length_cons, List.length_nil, ints_length, List.length_append]) | (as_aux_lemma => simp only [List.all_cons, List.all_nil, isCell_u64, Bool.and_true]) | (simp only [Hp.n_push, Hp.n_set, List.length_cons, List.length_nil, ints_length, List.length_append]; omega)) [get_push_eq, get_push_old, set_push_old, partA_all, partA_cons, takeMarks, resA, resAll, resOne, cells_u64, F537, uc0]
  refine w540 ?_
  simp (disch := first | omega | (as_aux_lemma => simp only [Hp.n_push, Hp.n_set, List.length_cons, List.length_nil, ints_length, List.length_append]) | (as_aux_lemma => simp only [List.all_cons, List.all_nil, isCell_u64, Bool.and_true]) | (simp only [Hp.n_push, Hp.n_set, List.length_cons, List.length_nil, ints_length, List.length_append]; omega)) [get_push_eq, get_push_old, set_push_old, partA_all, partA_cons, takeMarks, resA, resAll, resOne, cells_u64, uc0, get_push_eq, storeB_cells, setRange, set_push_eq]
  refine hV _ ⟨?_, ?_, ?_⟩ ⟨?_, fun x hx => ?_⟩ ?_
  · rw [get_push_old (by simp; omega), get_push_old (by simp), get_push_new]
  · rw [get_push_old (by simp), get_push_eq (by simp)]
  · rw [get_push_eq (by simp)]
  · simp; omega
  · rw [get_push_old (by simp; omega), get_push_old (by simp; omega), get_push_old hx]
  · rfl
end
end Go.Ab.Gauge
set_option maxRecDepth 100000
namespace Go.Ab.Gauge
open Go Go.Ab
abbrev spV (a b : Int) : Value := .agg ⟨[.int .i64 a, .int .i64 b]⟩
section
variable {g : Nat} {rd : Option Nat} {T : List Value} {D : List Nat} {A : Hp} {Q : Ex → St → Prop} {V : Value → Hp → Prop}
theorem w489 {a b : Int} (hg : g ≤ A.n) (hV : ∀ A', Ext' A A' → V (spV a b) A') : WF AP KL g 489 [.int .i64 a, .int .i64 b] A V := by
  rw [WF_body rfl (show AP 489 = some F489 from rfl)]
  simp (disch := as_aux_lemma => first | omega | simp only [hDs] <;> omega | simp [isCell]) [hRs, takeMarks, resA, resAll, resOne, Value.cells, F489, fillA, setRange, storeB_cells]
  exact hV _ (Ext'.push _ _)
theorem serK_ext {A A1 A2 : Hp} (e : Ext' A A1) (k : SerK A.n A1 A2) : Ext' A A2 :=
  ⟨Nat.le_trans e.1 k.1, fun x hx => by rw [k.2 x (Nat.lt_of_lt_of_le hx e.1) (by omega), e.2 x hx]⟩
theorem own_get {A A1 : Hp} {b : ABlk} (e : Ext' (A.push b) A1) : A1.get A.n = some b := e.get (by rw [get_push_new])
theorem own_set {A A1 : Hp} {b : ABlk} {b' : Option ABlk} (e : Ext' (A.push b) A1) : Ext' A (A1.set A.n b') :=
  ⟨by have := e.1; simp at this ⊢; omega, fun x hx => by rw [get_set_ne (Hp.lt_of_get (own_get e)) (by omega), e.2 x (by simp; omega), get_push_old hx]⟩
theorem w532 {k : Int} {p : Int × Int} (hk : 0 ≤ k ∧ k ≤ 900) (h : quarterU k = some p) (hg : g ≤ A.n) (hV : ∀ A', Ext' A A' → V (spV p.1 p.2) A') : WF AP KL g 532 [.int .i64 k] A V := by
  rw [WF_body rfl (show AP 532 = some F532 from rfl)]
  unfold quarterU at h
  by_cases h0 : k = 0
  · rw [if_pos h0] at h
    cases h
    simp (disch := as_aux_lemma => first | omega | simp only [hDs] <;> omega | simp [isCell]) [hRs, takeMarks, resA, resAll, resOne, Value.cells, F532, h0]
    refine w489 (by simp; omega) fun A1 e1 => ?_
    have h1 := own_get e1
    simp (disch := as_aux_lemma => first | omega | simp only [hDs] <;> omega | simp [isCell]) [hRs, takeMarks, resA, resAll, resOne, Value.cells, h1, setRange, storeB_cells, get_set_same h1]
    exact hV _ (own_set e1)
  rw [if_neg h0] at h
  by_cases h6 : k = 600
  · rw [if_pos h6] at h
    cases h
    simp (disch := as_aux_lemma => first | omega | simp only [hDs] <;> omega | simp [isCell]) [hRs, takeMarks, resA, resAll, resOne, Value.cells, F532, h0, h6]
    refine w489 (by simp; omega) fun A1 e1 => ?_
    have h1 := own_get e1
    simp (disch := as_aux_lemma => first | omega | simp only [hDs] <;> omega | simp [isCell]) [hRs, takeMarks, resA, resAll, resOne, Value.cells, h1, setRange, storeB_cells, get_set_same h1]
    exact hV _ (own_set e1)
  rw [if_neg h6] at h
  by_cases h9 : k = 900
  · rw [if_pos h9] at h
    cases h
    simp (disch := as_aux_lemma => first | omega | simp only [hDs] <;> omega | simp [isCell]) [hRs, takeMarks, resA, resAll, resOne, Value.cells, F532, h0, h6, h9]
    refine w489 (by simp; omega) fun A1 e1 => ?_
    have h1 := own_get e1
    simp (disch := as_aux_lemma => first | omega | simp only [hDs] <;> omega | simp [isCell]) [hRs, takeMarks, resA, resAll, resOne, Value.cells, h1, setRange, storeB_cells, get_set_same h1]
    exact hV _ (own_set e1)
  rw [if_neg h9] at h
  by_cases h4 : k ≤ 450
  · rw [if_pos h4] at h
    split at h
    · rename_i x hx
      rw [Option.map_eq_some_iff] at h
      obtain ⟨v, hv, hp⟩ := h
      simp (disch := as_aux_lemma => first | omega | simp only [hDs] <;> omega | simp [isCell]) [hRs, takeMarks, resA, resAll, resOne, Value.cells, F532, h0, h6, h9, h4, uc0]
      refine w538 hx ?_
      simp (disch := as_aux_lemma => first | omega | simp only [hDs] <;> omega | simp [isCell]) [hRs, takeMarks, resA, resAll, resOne, Value.cells, uc0, ucOne]
      refine w537 (by first | omega | (simp; omega)) fun A1 S1 e1 n1 => ?_
      simp (disch := as_aux_lemma => first | omega | simp only [hDs] <;> omega | simp [isCell]) [hRs, takeMarks, resA, resAll, resOne, Value.cells]
      refine w536 S1 (by first | omega | (simp; omega)) (by omega) hv fun A2 k2 => ?_
      subst hp
      have e2 := serK_ext e1 k2
      simp (disch := as_aux_lemma => first | omega | simp only [hDs] <;> omega | simp [isCell]) [hRs, takeMarks, resA, resAll, resOne, Value.cells, uc1024, uc46, u64_sub, u64_add, u64_shr, u64_int]
      refine w489 (by have := e2.1; simp at this; omega) fun A3 e3 => ?_
      have h1 := own_get (e2.trans e3)
      simp (disch := as_aux_lemma => first | omega | simp only [hDs] <;> omega | simp [isCell]) [hRs, takeMarks, resA, resAll, resOne, Value.cells, h1, setRange, storeB_cells, get_set_same h1]
      exact hV _ (own_set (e2.trans e3))
    · cases h
  · rw [if_neg h4] at h
    split at h
    · rename_i x hx
      rw [Option.map_eq_some_iff] at h
      obtain ⟨v, hv, hp⟩ := h
      simp (disch := as_aux_lemma => first | omega | simp only [hDs] <;> omega | simp [isCell]) [hRs, takeMarks, resA, resAll, resOne, Value.cells, F532, h0, h6, h9, h4, uc0, wrId]
      refine w538 hx ?_
      simp (disch := as_aux_lemma => first | omega | simp only [hDs] <;> omega | simp [isCell]) [hRs, takeMarks, resA, resAll, resOne, Value.cells, uc1]
      refine w537 (by first | omega | (simp; omega)) fun A1 S1 e1 n1 => ?_
      simp (disch := as_aux_lemma => first | omega | simp only [hDs] <;> omega | simp [isCell]) [hRs, takeMarks, resA, resAll, resOne, Value.cells]
      refine w536 S1 (by first | omega | (simp; omega)) (by omega) hv fun A2 k2 => ?_
      subst hp
      have e2 := serK_ext e1 k2
      simp (disch := as_aux_lemma => first | omega | simp only [hDs] <;> omega | simp [isCell]) [hRs, takeMarks, resA, resAll, resOne, Value.cells, uc1024, uc46, u64_sub, u64_add, u64_shr, u64_int]
      refine w489 (by have := e2.1; simp at this; omega) fun A3 e3 => ?_
      have h1 := own_get (e2.trans e3)
      simp (disch := as_aux_lemma => first | omega | simp only [hDs] <;> omega | simp [isCell]) [hRs, takeMarks, resA, resAll, resOne, Value.cells, h1, setRange, storeB_cells, get_set_same h1]
      exact hV _ (own_set (e2.trans e3))
    · cases h
end
end Go.Ab.Gauge
set_option maxRecDepth 100000
namespace Go.Ab.Gauge
open Go Go.Ab
def w (n : Int) : Int := wr .i64 n
def timesR (a b : Int) : Int :=
  w (w (a.fdiv 1073741824 * b.fdiv 1073741824) + (w (w (w (a.fdiv 1073741824 * b.tmod 1073741824) + w (a.tmod 1073741824 * b.fdiv 1073741824)) + (w (a.tmod 1073741824 * b.tmod 1073741824)).fdiv 1073741824)).fdiv 1073741824)
def angR (k : Int) : Int := w (w (2012227627243645 * k) + w ((w (421 * k)).tdiv 1800))
def cosR : Nat → Int → Int → Int → Int → Int → Option Int
  | 0, _, _, _, _, _ => none
  | f + 1, x, sum, sign, n, t =>
    if 0 < t then
      if w (w (n + 1) * w (n + 2)) = 0 then none else
      cosR f x (w (sum + w (sign * t))) (w (0 - sign)) (w (n + 2)) (w ((timesR (timesR t x) x).tdiv (w (w (n + 1) * w (n + 2)))))
    else some sum
def cosineR (k : Int) (s : Bool) : Option Int := cosR 40 (angR k) 0 1 (if s then 1 else 0) (if s then angR k else 1152921504606846976)
def spanR (v : Int) : Int × Int := ((w (v - 100)).fdiv 17592186044416, w ((w (v + 100)).fdiv 17592186044416 + 1))
def pointR (k : Int) : Option (Int × Int) :=
  if k = 0 then some (65536, 65536) else if k = 600 then some (32768, 32768) else if k = 900 then some (0, 0) else
  if k ≤ 450 then (cosineR k false).map spanR else (cosineR (900 - k) true).map spanR
section
variable {g : Nat} {rd : Option Nat} {T : List Value} {D : List Nat} {A : Hp} {Q : Ex → St → Prop} {V : Value → Hp → Prop}
end
end Go.Ab.Gauge
set_option maxRecDepth 100000
namespace Go.Ab.Gauge
open Go Go.Ab
def rowT (k : Nat) : Bool :=
  match quarterU (k : Int), pointR (k : Int) with
  | some (a, b), some (c, d) => decide (a = c) && decide (b = d) && decide (-70000 ≤ a) && decide (a ≤ 70000) && decide (-70000 ≤ b) && decide (b ≤ 70000)
  | _, _ => false
theorem rows_1 : ((List.range 301).all fun i => rowT i) = true := by kernel_rfl
theorem rows_2 : ((List.range 300).all fun i => rowT (301 + i)) = true := by kernel_rfl
theorem rows_3 : ((List.range 300).all fun i => rowT (601 + i)) = true := by kernel_rfl
theorem rows (k : Nat) (h : k ≤ 900) : rowT k = true := by
  by_cases h1 : k < 301
  · exact List.all_eq_true.1 rows_1 k (List.mem_range.2 h1)
  by_cases h2 : k < 601
  · have := List.all_eq_true.1 rows_2 (k - 301) (List.mem_range.2 (by omega))
    rwa [show 301 + (k - 301) = k by omega] at this
  · have := List.all_eq_true.1 rows_3 (k - 601) (List.mem_range.2 (by omega))
    rwa [show 601 + (k - 601) = k by omega] at this
def tabU (k : Int) : Int × Int := (quarterU k).getD (0, 0)
theorem tab_ok {k : Int} (h : 0 ≤ k ∧ k ≤ 900) : quarterU k = some (tabU k) ∧ pointR k = some (tabU k) ∧ (-70000 ≤ (tabU k).1 ∧ (tabU k).1 ≤ 70000) ∧ (-70000 ≤ (tabU k).2 ∧ (tabU k).2 ≤ 70000) := by
  have hr := rows k.toNat (by omega)
  unfold rowT at hr
  rw [show ((k.toNat : Nat) : Int) = k by omega] at hr
  split at hr
  · rename_i a b c d h1 h2
    simp only [Bool.and_eq_true, decide_eq_true_eq] at hr
    obtain ⟨⟨⟨⟨⟨e1, e2⟩, e3⟩, e4⟩, e5⟩, e6⟩ := hr
    subst e1 e2
    have : tabU k = (a, b) := by unfold tabU; rw [h1]; rfl
    rw [this]
    exact ⟨h1, h2, ⟨e3, e4⟩, e5, e6⟩
  · cases hr
end Go.Ab.Gauge
set_option maxRecDepth 100000
namespace Go.Ab.Gauge
open Go Go.Ab
theorem floor_t {a b : Int} (hb : 0 < b) : (if a.tmod b < 0 then a.tdiv b - 1 else a.tdiv b) = a / b := by
  have e := Int.mul_tdiv_add_tmod a b
  have h1 := Int.tmod_lt_of_pos a hb
  have h2 := Int.lt_tmod_of_pos a hb
  split
  · exact (((Int.ediv_emod_unique hb (r := a.tmod b + b) (q := a.tdiv b - 1)).2 ⟨by rw [Int.mul_sub, Int.mul_one]; omega, by omega, by omega⟩).1).symm
  · exact (((Int.ediv_emod_unique hb (r := a.tmod b) (q := a.tdiv b)).2 ⟨by omega, by omega, by omega⟩).1).symm
theorem tdiv_abs {a b : Int} (hb : 0 < b) {B : Int} (h : -B ≤ a ∧ a ≤ B) : -B ≤ a.tdiv b ∧ a.tdiv b ≤ B := by
  have h1 := Int.natAbs_tdiv a b
  have h2 : (a.tdiv b).natAbs ≤ a.natAbs := by rw [h1]; exact Nat.div_le_self _ _
  omega
def cosA (a : Int) : Int × Int :=
  if 900 < min (a % 3600) (3600 - a % 3600) then (-(tabU (1800 - min (a % 3600) (3600 - a % 3600))).2, -(tabU (1800 - min (a % 3600) (3600 - a % 3600))).1) else tabU (min (a % 3600) (3600 - a % 3600))
theorem cosA_rng (a : Int) : (-70000 ≤ (cosA a).1 ∧ (cosA a).1 ≤ 70000) ∧ (-70000 ≤ (cosA a).2 ∧ (cosA a).2 ≤ 70000) := by
  unfold cosA
  split
  · obtain ⟨_, _, h1, h2⟩ := tab_ok (k := 1800 - min (a % 3600) (3600 - a % 3600)) (by omega)
    simp only; omega
  · exact (tab_ok (by omega)).2.2
section
variable {g : Nat} {rd : Option Nat} {T : List Value} {D : List Nat} {A : Hp} {Q : Ex → St → Prop} {V : Value → Hp → Prop}
theorem w508 {a b : Int} (hb : 0 < b) (ha : -1000000000000000000 ≤ a ∧ a ≤ 1000000000000000000) (hV : V (.int .i64 (a / b)) A) : WF AP KL g 508 [.int .i64 a, .int .i64 b] A V := by
  rw [WF_body rfl (show AP 508 = some F508 from rfl)]
  have h1 := floor_t (a := a) hb
  have h2 := tdiv_abs hb ha
  have e1 : wr .i64 (a.tdiv b) = a.tdiv b := wrId (by omega) (by omega)
  have e2 : wr .i64 (a.tdiv b - 1) = a.tdiv b - 1 := wrId (by omega) (by omega)
  by_cases h : a.tmod b < 0
  · rw [if_pos h] at h1
    simp (disch := as_aux_lemma => first | omega | simp only [hDs] <;> omega | simp [isCell]) [hRs, takeMarks, resA, resAll, resOne, Value.cells, F508, binA_quo (show b ≠ 0 by omega), binA_rem (show b ≠ 0 by omega), e1, e2, h]
    rw [h1]; exact hV
  · rw [if_neg h] at h1
    simp (disch := as_aux_lemma => first | omega | simp only [hDs] <;> omega | simp [isCell]) [hRs, takeMarks, resA, resAll, resOne, Value.cells, F508, binA_quo (show b ≠ 0 by omega), binA_rem (show b ≠ 0 by omega), e1, e2, h]
    rw [h1]; exact hV
theorem ediv_abs {a b : Int} (hb : 0 < b) {B : Int} (h : -B ≤ a ∧ a ≤ B) (hB : 0 ≤ B) : -B ≤ a / b ∧ a / b ≤ B := by
  refine ⟨?_, ?_⟩
  · refine Int.le_ediv_of_mul_le hb ?_
    have := Int.mul_le_mul_of_nonneg_left (show 1 ≤ b by omega) hB
    rw [Int.neg_mul]; omega
  · rcases Int.le_total 0 a with h0 | h0
    · exact Int.le_trans (Int.ediv_le_self b h0) h.2
    · have := Int.ediv_lt_of_lt_mul hb (show a < 1 * b by omega)
      omega
def upA (a b : Int) : Int := -((-a) / b)
theorem w509 {a b : Int} (hb : 0 < b) (ha : -1000000000000000000 ≤ a ∧ a ≤ 1000000000000000000) (hV : V (.int .i64 (upA a b)) A) : WF AP KL g 509 [.int .i64 a, .int .i64 b] A V := by
  rw [WF_body rfl (show AP 509 = some F509 from rfl)]
  have h2 := ediv_abs (a := -a) hb (B := 1000000000000000000) (by omega) (by omega)
  have e1 : wr .i64 (-a) = -a := wrId (by omega) (by omega)
  simp (disch := as_aux_lemma => first | omega | simp only [hDs] <;> omega | simp [isCell]) [hRs, takeMarks, resA, resAll, resOne, Value.cells, F509, e1]
  refine w508 hb (by omega) ?_
  have e2 : wr .i64 (-(-a / b)) = -(-a / b) := wrId (by omega) (by omega)
  simp (disch := as_aux_lemma => first | omega | simp only [hDs] <;> omega | simp [isCell]) [hRs, takeMarks, resA, resAll, resOne, Value.cells, e2]
  exact hV
theorem w533 {a b : Int} (h : (-70000 ≤ a ∧ a ≤ 70000) ∧ (-70000 ≤ b ∧ b ≤ 70000)) (hg : g ≤ A.n) (hV : ∀ A', Ext' A A' → V (spV (-b) (-a)) A') : WF AP KL g 533 [spV a b] A V := by
  rw [WF_body rfl (show AP 533 = some F533 from rfl)]
  have e1 : wr .i64 (-a) = -a := wrId (by omega) (by omega)
  have e2 : wr .i64 (-b) = -b := wrId (by omega) (by omega)
  simp (disch := as_aux_lemma => first | omega | simp only [hDs] <;> omega | simp [isCell]) [hRs, takeMarks, resA, resAll, resOne, Value.cells, F533, e1, e2]
  refine w489 (by simp; omega) fun A1 e => ?_
  have h1 : A1.get (A.n + 1) = some (.cells [.int .i64 0, .int .i64 0] false) := own_get e
  simp (disch := as_aux_lemma => first | omega | simp only [hDs] <;> omega | simp [isCell]) [hRs, takeMarks, resA, resAll, resOne, Value.cells, h1, setRange, storeB_cells, get_set_same h1]
  exact hV _ ((Ext'.push A _).trans (own_set e))
theorem w523 {a : Int} (ha : -100000000000000 ≤ a ∧ a ≤ 100000000000000) (hg : g ≤ A.n) (hV : ∀ A', Ext' A A' → V (spV (cosA a).1 (cosA a).2) A') : WF AP KL g 523 [.int .i64 a] A V := by
  rw [WF_body rfl (show AP 523 = some F523 from rfl)]
  simp (disch := as_aux_lemma => first | omega | simp only [hDs] <;> omega | simp [isCell]) [hRs, takeMarks, resA, resAll, resOne, Value.cells, F523]
  refine w508 (by omega) (by omega) ?_
  have e1 : wr .i64 (3600 * (a / 3600)) = 3600 * (a / 3600) := wrId (by omega) (by omega)
  have e2 : wr .i64 (a - 3600 * (a / 3600)) = a % 3600 := by rw [wrId (by omega) (by omega)]; omega
  have e3 : wr .i64 (3600 - a % 3600) = 3600 - a % 3600 := wrId (by omega) (by omega)
  unfold cosA at hV
  generalize hk : min (a % 3600) (3600 - a % 3600) = k at hV
  have hk0 : 0 ≤ k ∧ k ≤ 1800 := by omega
  have e4 : wr .i64 (1800 - k) = 1800 - k := wrId (by omega) (by omega)
  by_cases h : 900 < k
  · rw [if_pos h] at hV
    simp (disch := as_aux_lemma => first | omega | simp only [hDs] <;> omega | simp [isCell]) [hRs, takeMarks, resA, resAll, resOne, Value.cells, e1, e2, e3, hk, h, e4]
    obtain ⟨t1, _, t3⟩ := tab_ok (k := 1800 - k) (by omega)
    refine w532 (by omega) t1 (by simp; omega) fun A1 e => ?_
    simp (disch := as_aux_lemma => first | omega | simp only [hDs] <;> omega | simp [isCell]) [hRs, takeMarks, resA, resAll, resOne, Value.cells]
    refine w533 t3 (by have := e.1; simp at this; omega) fun A2 e' => ?_
    have h1 := own_get (e.trans e')
    simp (disch := as_aux_lemma => first | omega | simp only [hDs] <;> omega | simp [isCell]) [hRs, takeMarks, resA, resAll, resOne, Value.cells, h1, setRange, storeB_cells, get_set_same h1]
    exact hV _ (own_set (e.trans e'))
  · rw [if_neg h] at hV
    simp (disch := as_aux_lemma => first | omega | simp only [hDs] <;> omega | simp [isCell]) [hRs, takeMarks, resA, resAll, resOne, Value.cells, e1, e2, e3, hk, h, e4]
    obtain ⟨t1, _, t3⟩ := tab_ok (k := k) (by omega)
    refine w532 (by omega) t1 (by simp; omega) fun A1 e => ?_
    have h1 := own_get e
    simp (disch := as_aux_lemma => first | omega | simp only [hDs] <;> omega | simp [isCell]) [hRs, takeMarks, resA, resAll, resOne, Value.cells, h1, setRange, storeB_cells, get_set_same h1]
    exact hV _ (own_set e)
end
end Go.Ab.Gauge
set_option maxRecDepth 100000
namespace Go.Ab.Gauge
open Go Go.Ab
def meets (lo hi c : Int) : Bool := decide ((lo - c - 1) / 3600 < (hi - c) / 3600)
def cosB (lo hi : Int) : Int × Int :=
  (if meets lo hi 1800 = true then -65536 else min (cosA lo).1 (cosA hi).1, if meets lo hi 0 = true then 65536 else max (cosA lo).2 (cosA hi).2)
theorem cosB_rng (lo hi : Int) : (-70000 ≤ (cosB lo hi).1 ∧ (cosB lo hi).1 ≤ 70000) ∧ (-70000 ≤ (cosB lo hi).2 ∧ (cosB lo hi).2 ≤ 70000) := by
  have h1 := cosA_rng lo
  have h2 := cosA_rng hi
  unfold cosB
  simp only
  split <;> split <;> omega
section
variable {g : Nat} {rd : Option Nat} {T : List Value} {D : List Nat} {A : Hp} {Q : Ex → St → Prop} {V : Value → Hp → Prop}
theorem w524 {a b c d : Int} (hg : g ≤ A.n) (hV : ∀ A', Ext' A A' → V (spV (min a c) (max b d)) A') : WF AP KL g 524 [spV a b, spV c d] A V := by
  rw [WF_body rfl (show AP 524 = some F524 from rfl)]
  simp (disch := as_aux_lemma => first | omega | simp only [hDs] <;> omega | simp [isCell]) [hRs, takeMarks, resA, resAll, resOne, Value.cells, F524]
  refine w489 (by simp; omega) fun A1 e => ?_
  have h1 : A1.get (A.n + 1 + 1) = some (.cells [.int .i64 0, .int .i64 0] false) := own_get e
  simp (disch := as_aux_lemma => first | omega | simp only [hDs] <;> omega | simp [isCell]) [hRs, takeMarks, resA, resAll, resOne, Value.cells, h1, setRange, storeB_cells, get_set_same h1]
  exact hV _ (((Ext'.push A _).trans (Ext'.push _ _)).trans (own_set e))
theorem w525 {lo hi c : Int} {X : Nat} (h : A.get X = some (.cells [.int .i64 lo, .int .i64 hi] false)) (hl : -1000000000000000 ≤ lo ∧ lo ≤ 1000000000000000) (hh : -1000000000000000 ≤ hi ∧ hi ≤ 1000000000000000) (hc : 0 ≤ c ∧ c ≤ 1800)
    (hV : V (.bool (meets lo hi c)) A) : WF AP KL g 525 [.int .i64 c, .pointer (some ⟨X, 0, none⟩)] A V := by
  rw [WF_body rfl (show AP 525 = some F525 from rfl)]
  have e1 : wr .i64 (hi - c) = hi - c := wrId (by omega) (by omega)
  have e2 : wr .i64 (lo - c) = lo - c := wrId (by omega) (by omega)
  have e3 : wr .i64 (lo - c - 1) = lo - c - 1 := wrId (by omega) (by omega)
  simp (disch := as_aux_lemma => first | omega | simp only [hDs] <;> omega | simp [isCell]) [hRs, takeMarks, resA, resAll, resOne, Value.cells, F525, h, e1]
  refine w508 (by omega) (by omega) ?_
  simp (disch := as_aux_lemma => first | omega | simp only [hDs] <;> omega | simp [isCell]) [hRs, takeMarks, resA, resAll, resOne, Value.cells, h, e2, e3]
  refine w508 (by omega) (by omega) ?_
  simp (disch := as_aux_lemma => first | omega | simp only [hDs] <;> omega | simp [isCell]) [hRs, takeMarks, resA, resAll, resOne, Value.cells]
  exact hV
theorem w506 {lo hi : Int} (hl : -10000000000000 ≤ lo ∧ lo ≤ 10000000000000) (hh : -10000000000000 ≤ hi ∧ hi ≤ 10000000000000) (hg : g ≤ A.n) (hV : ∀ A', Ext' A A' → V (spV (cosB lo hi).1 (cosB lo hi).2) A') : WF AP KL g 506 [spV lo hi] A V := by
  rw [WF_body rfl (show AP 506 = some F506 from rfl)]
  simp (disch := as_aux_lemma => first | omega | simp only [hDs] <;> omega | simp [isCell]) [hRs, takeMarks, resA, resAll, resOne, Value.cells, F506]
  refine w523 (by omega) (by simp) fun A1 e1 => ?_
  have b1 : A1.get A.n = some (.cells [.int .i64 lo, .int .i64 hi] false) := e1.get (by rw [get_push_old (by simp), get_push_new])
  simp (disch := as_aux_lemma => first | omega | simp only [hDs] <;> omega | simp [isCell]) [hRs, takeMarks, resA, resAll, resOne, Value.cells, b1]
  refine w523 (by omega) (by simp) fun A2 e2 => ?_
  simp (disch := as_aux_lemma => first | omega | simp only [hDs] <;> omega | simp [isCell]) [hRs, takeMarks, resA, resAll, resOne, Value.cells]
  refine w524 (by simp) fun A3 e3 => ?_
  have e13 := (e1.trans e2).trans e3
  have b3 : A3.get A.n = some (.cells [.int .i64 lo, .int .i64 hi] false) := (e2.trans e3).get b1
  have c3 : A3.get (A.n + 1) = some (.cells [.int .i64 0, .int .i64 0] false) := e13.get (by rw [get_push_eq (by simp)])
  have n3 := Hp.lt_of_get c3
  have hE : ∀ (b c : ABlk), Ext' A ((A3.set (A.n + 1) (some b)).push c) := fun b c =>
    (((Ext'.push A _).trans (own_set (A := A.push (.cells [.int .i64 lo, .int .i64 hi] false)) e13)).trans (Ext'.push _ _))
  unfold cosB at hV
  simp (disch := as_aux_lemma => first | omega | simp only [hDs] <;> omega | simp [isCell]) [hRs, takeMarks, resA, resAll, resOne, Value.cells, fillA, setRange, storeB_cells]
  refine w525 (by rw [get_push_old (by omega)]; exact b3) (by omega) (by omega) (by omega) ?_
  by_cases m0 : meets lo hi 0 = true
  · simp (disch := as_aux_lemma => first | omega | simp only [hDs] <;> omega | simp [isCell]) [hRs, takeMarks, resA, resAll, resOne, Value.cells, m0, setRange, storeB_cells]
    refine w525 (by rw [get_push_old (by omega)]; exact b3) (by omega) (by omega) (by omega) ?_
    by_cases m1 : meets lo hi 1800 = true
    · simp (disch := as_aux_lemma => first | omega | simp only [hDs] <;> omega | simp [isCell]) [hRs, takeMarks, resA, resAll, resOne, Value.cells, m1, setRange, storeB_cells, c3, get_set_same c3]
      simp [m0, m1] at hV
      exact hV _ (hE _ _)
    · simp only [Bool.not_eq_true] at m1
      simp (disch := as_aux_lemma => first | omega | simp only [hDs] <;> omega | simp [isCell]) [hRs, takeMarks, resA, resAll, resOne, Value.cells, m1, setRange, storeB_cells, c3, get_set_same c3]
      simp [m0, m1] at hV
      exact hV _ (hE _ _)
  · simp only [Bool.not_eq_true] at m0
    simp (disch := as_aux_lemma => first | omega | simp only [hDs] <;> omega | simp [isCell]) [hRs, takeMarks, resA, resAll, resOne, Value.cells, m0, setRange, storeB_cells]
    refine w525 (by rw [get_push_old (by omega)]; exact b3) (by omega) (by omega) (by omega) ?_
    by_cases m1 : meets lo hi 1800 = true
    · simp (disch := as_aux_lemma => first | omega | simp only [hDs] <;> omega | simp [isCell]) [hRs, takeMarks, resA, resAll, resOne, Value.cells, m1, setRange, storeB_cells, c3, get_set_same c3]
      simp [m0, m1] at hV
      exact hV _ (hE _ _)
    · simp only [Bool.not_eq_true] at m1
      simp (disch := as_aux_lemma => first | omega | simp only [hDs] <;> omega | simp [isCell]) [hRs, takeMarks, resA, resAll, resOne, Value.cells, m1, setRange, storeB_cells, c3, get_set_same c3]
      simp [m0, m1] at hV
      exact hV _ (hE _ _)
end
end Go.Ab.Gauge
set_option maxRecDepth 100000
namespace Go.Ab.Gauge
open Go Go.Ab
section
variable {g : Nat} {rd : Option Nat} {T : List Value} {D : List Nat} {A : Hp} {Q : Ex → St → Prop} {V : Value → Hp → Prop}
end
end Go.Ab.Gauge
