/- The text of a grid: its words, and a builder's lines. -/
import Derived.Test.YtmppgcknmmmioaaGreatDoorZ13
set_option linter.unusedSimpArgs false
set_option linter.unusedVariables false
set_option linter.unusedSectionVars false
set_option maxRecDepth 100000
namespace Go.Ab.Grid
open Go Go.Ab
def bools (l : List Bool) : List Value := l.map .bool
@[simp] theorem bools_length (l : List Bool) : (bools l).length = l.length := by simp [bools]
set_option maxRecDepth 100000
abbrev J (n : Int) : Value := .int .i64 n
def validB (a b lo hi : Int) : Bool := decide (a ≤ b) && (decide (lo ≤ a) && decide (b ≤ hi))
theorem set_push_eq {A : Hp} {b b' : ABlk} {x : Nat} (h : x ≤ A.n ∧ A.n ≤ x) : (A.push b).set x (some b') = A.push b' := by
  rw [show x = A.n by omega]; exact set_push_new
section
variable {g : Nat} {rd : Option Nat} {D : List Nat} {Q : Ex → St → Prop}
def Says (g : Nat) (A0 : Hp) (f : Value) (n : Nat) (val : Nat → Value) (p : Nat → Bool) : Prop :=
  ∀ i, i < n → ∀ (A : Hp) (V : Value → Hp → Prop), Ext' A0 A → (∀ A', Ext' A A' → V (.bool (p i)) A') → WV AP KL g f [val i] A V
theorem Says.mono {g : Nat} {A0 A1 : Hp} {f : Value} {n : Nat} {val : Nat → Value} {p : Nat → Bool} (h : Says g A0 f n val p) (he : Ext' A0 A1) : Says g A1 f n val p := fun i hi A V hA hV => h i hi A V (he.trans hA) hV
theorem _root_.Go.Ab.Ext'.rdS {A A' : Hp} {k n : Nat} {cs : List Value} {sv : Value} (h : Ext' A A') (hr : RdS A k n cs sv) : RdS A' k n cs sv := hr.mono h.2
def RdP (A : Hp) (k n : Nat) (cs : List Value) (sv : Value) : Prop := n * k ≤ cs.length ∧ ((sv = .slice none 0 0 ∧ n = 0) ∨ ∃ b c ro, sv = .slice (some ⟨b, 0, some k⟩) n c ∧ A.get b = some (.cells cs ro))
theorem RdP.mono {A A' : Hp} {k n : Nat} {cs : List Value} {sv : Value} (h : RdP A k n cs sv) (hA : ∀ x, x < A.n → A'.get x = A.get x) : RdP A' k n cs sv := by
  obtain ⟨h0, h | ⟨b, c, ro, h1, h2⟩⟩ := h
  · exact ⟨h0, .inl h⟩
  · exact ⟨h0, .inr ⟨b, c, ro, h1, by rw [hA b (Hp.lt_of_get h2)]; exact h2⟩⟩
theorem RdP.len {A : Hp} {k n : Nat} {cs : List Value} {sv : Value} (h : RdP A k n cs sv) : lenV sv = some (.int .i64 n) := by
  obtain ⟨_, ⟨rfl, rfl⟩ | ⟨b, c, ro, rfl, _⟩⟩ := h <;> rfl
theorem RdP.at {A : Hp} {k n i : Nat} {cs : List Value} {sv : Value} (h : RdP A k n cs sv) (hi : i < n) : ∃ b c ro, sv = .slice (some ⟨b, 0, some k⟩) n c ∧ A.get b = some (.cells cs ro) := by
  obtain ⟨_, ⟨_, h0⟩ | h⟩ := h
  · omega
  · exact h
theorem loop82 {A0 : Hp} {n : Nat} {sl f : Value} {row : List Value} {val : Nat → Value} {p : Nat → Bool} (hsl : RdS A0 2 n row sl) (hval : ∀ i, i < n → partA row (i * 2) (some 2) = some (val i)) (hf : Says g A0 f n val p) (hn : n < 1000000)
    (hin : ∀ i T' A', i < n → p i = true → Ext' A0 A' → tget T' 4 = .int .i64 (i : Nat) → Q .ret ⟨T', D, A'⟩) (hout : ∀ T' A', (∀ i, i < n → p i = false) → Ext' A0 A' → Q (.exit 0) ⟨T', D, A'⟩) :
    ∀ (k i : Nat) {T : List Value} {A : Hp}, i + k = n → (∀ j, j < i → p j = false) → Ext' A0 A → tget T 0 = sl → tget T 1 = f → tget T 7 = .int .i64 n → tget T 8 = .int .i64 i → W AP KL g rd (.loop body82) ⟨T, D, A⟩ Q := by
  intro k
  induction k with
  | zero =>
    intro i T A hik hno he h0 h1 h7 h8
    have : i = n := by omega
    subst this
    rw [W_loop]
    simp (disch := as_aux_lemma => first | omega | simp only [hDs] <;> omega | simp [isCell]) [hRs, takeMarks, resA, resAll, resOne, Value.cells, body82, h7, h8]
    exact hout _ A hno he
  | succ k ih =>
    intro i T A hik hno he h0 h1 h7 h8
    obtain ⟨x, c, ro, rfl, hx⟩ := (he.rdS hsl).at (i := i) (by omega)
    have hv := hval i (by omega)
    skip
    rw [W_loop]
    simp (disch := as_aux_lemma => first | omega | simp only [hDs] <;> omega | simp [isCell]) [hRs, takeMarks, resA, resAll, resOne, Value.cells, body82, h7, h8, h0, h1, show ((i : Int) < n) by omega, idxSA_ok, hx, hv]
    refine hf i (by omega) A _ he fun A1 he1 => ?_
    cases hp : p i with
    | true =>
      simp (disch := as_aux_lemma => first | omega | simp only [hDs] <;> omega | simp [isCell]) [hRs, takeMarks, resA, resAll, resOne, Value.cells]
      exact hin i _ A1 (by omega) hp (he.trans he1) (by simp)
    | false =>
      simp (disch := as_aux_lemma => first | omega | simp only [hDs] <;> omega | simp [isCell]) [hRs, takeMarks, resA, resAll, resOne, Value.cells, h8]
      have hno' : ∀ j, j < i + 1 → p j = false := fun j hj => by
        rcases Nat.lt_or_ge j i with h | h
        · exact hno j h
        · have : j = i := by omega
          subst this; exact hp
      exact ih (i + 1) (by omega) hno' (he.trans he1) (by simp [h0]) (by simp [h1]) (by simp [h7]) (by simp [wrId (n := (i : Int) + 1) (by omega) (by omega)])
theorem w82 {A : Hp} {V : Value → Hp → Prop} {n : Nat} {sl f : Value} {row : List Value} {val : Nat → Value} {p : Nat → Bool} (hsl : RdS A 2 n row sl) (hval : ∀ i, i < n → partA row (i * 2) (some 2) = some (val i)) (hf : Says g A f n val p) (hn : n < 1000000)
    (hV : ∀ A' (k : Int), Ext' A A' → (0 ≤ k ↔ (List.range n).any p = true) → V (.int .i64 k) A') : WF AP KL g 82 [sl, f] A V := by
  rw [WF_body (show KL 82 = none from rfl) (show AP 82 = some F82 from rfl)]
  simp (disch := as_aux_lemma => first | omega | simp only [hDs] <;> omega | simp [isCell]) [hRs, takeMarks, resA, resAll, resOne, Value.cells, F82, hsl.len]
  refine loop82 hsl hval hf hn ?_ ?_ n 0 (by omega) (fun j h => absurd h (Nat.not_lt_zero _)) (Ext'.refl _) (by simp) (by simp) (by simp) (by simp)
  · intro i T' A' hi hp he h4
    simp (disch := as_aux_lemma => first | omega | simp only [hDs] <;> omega | simp [isCell]) [hRs, takeMarks, resA, resAll, resOne, Value.cells, h4]
    exact hV A' _ he ⟨fun _ => List.any_eq_true.2 ⟨i, by simpa using hi, hp⟩, fun _ => by omega⟩
  · intro T' A' hno he
    simp (disch := as_aux_lemma => first | omega | simp only [hDs] <;> omega | simp [isCell]) [hRs, takeMarks, resA, resAll, resOne, Value.cells]
    refine hV A' _ he ⟨fun h => by omega, fun h => ?_⟩
    obtain ⟨i, hi, hp⟩ := List.any_eq_true.1 h
    rw [hno i (by simpa using hi)] at hp
    cases hp
theorem w56 {A : Hp} {V : Value → Hp → Prop} {n : Nat} {sl f : Value} {row : List Value} {val : Nat → Value} {p : Nat → Bool} (hsl : RdS A 2 n row sl) (hval : ∀ i, i < n → partA row (i * 2) (some 2) = some (val i)) (hf : Says g A f n val p) (hn : n < 1000000)
    (hV : ∀ A', Ext' A A' → V (.bool ((List.range n).any p)) A') : WF AP KL g 56 [sl, f] A V := by
  rw [WF_body (show KL 56 = none from rfl) (show AP 56 = some F56 from rfl)]
  simp (disch := as_aux_lemma => first | omega | simp only [hDs] <;> omega | simp [isCell]) [hRs, takeMarks, resA, resAll, resOne, Value.cells, F56]
  refine w82 hsl hval hf hn fun A' k he hk => ?_
  simp (disch := as_aux_lemma => first | omega | simp only [hDs] <;> omega | simp [isCell]) [hRs, takeMarks, resA, resAll, resOne, Value.cells]
  have : decide (0 ≤ k) = (List.range n).any p := by
    rw [Bool.eq_iff_iff, decide_eq_true_eq]; exact hk
  rw [this]
  exact hV A' he
end
def grd (zs : List Int) (i : Nat) : Bool := validB (gi zs (i * 2)) (gi zs (i * 2 + 1)) (-1200000) 1200000
def gridV (w h s : Int) (sl : Value) : Value := .agg ⟨[.int .i64 w, .int .i64 h, .int .i64 s, sl]⟩
def gridE (w h s : Int) (m : Nat) (zs : List Int) : Int :=
  if (decide (1 ≤ w) && decide (w ≤ 24)) = false ∨ (decide (1 ≤ h) && decide (h ≤ 24)) = false ∨ (decide (1 ≤ s) && decide (s ≤ 10000)) = false then 3 else if ¬ (m : Int) = wr .i64 (w * h) then 11 else if (List.range m).any (fun i => !grd zs i) = true then 3 else 0
theorem gridE_a {w h s : Int} {m : Nat} {zs : List Int} (h1 : (decide (1 ≤ w) && decide (w ≤ 24)) = false ∨ (decide (1 ≤ h) && decide (h ≤ 24)) = false ∨ (decide (1 ≤ s) && decide (s ≤ 10000)) = false) : gridE w h s m zs = 3 := if_pos h1
theorem gridE_b {w h s : Int} {m : Nat} {zs : List Int} (h1 : ¬ ((decide (1 ≤ w) && decide (w ≤ 24)) = false ∨ (decide (1 ≤ h) && decide (h ≤ 24)) = false ∨ (decide (1 ≤ s) && decide (s ≤ 10000)) = false)) (h2 : ¬ (m : Int) = wr .i64 (w * h)) : gridE w h s m zs = 11 := by rw [gridE, if_neg h1, if_pos h2]
theorem gridE_c {w h s : Int} {m : Nat} {zs : List Int} (h1 : ¬ ((decide (1 ≤ w) && decide (w ≤ 24)) = false ∨ (decide (1 ≤ h) && decide (h ≤ 24)) = false ∨ (decide (1 ≤ s) && decide (s ≤ 10000)) = false)) (h2 : (m : Int) = wr .i64 (w * h)) (h3 : (List.range m).any (fun i => !grd zs i) = true) : gridE w h s m zs = 3 := by rw [gridE, if_neg h1, if_neg (fun h => h h2), if_pos h3]
theorem gridE_d {w h s : Int} {m : Nat} {zs : List Int} (h1 : ¬ ((decide (1 ≤ w) && decide (w ≤ 24)) = false ∨ (decide (1 ≤ h) && decide (h ≤ 24)) = false ∨ (decide (1 ≤ s) && decide (s ≤ 10000)) = false)) (h2 : (m : Int) = wr .i64 (w * h)) (h3 : (List.range m).any (fun i => !grd zs i) = false) : gridE w h s m zs = 0 := by rw [gridE, if_neg h1, if_neg (fun h => h h2), h3]; rfl
section
variable {g : Nat} {rd : Option Nat} {T : List Value} {D : List Nat} {A : Hp} {Q : Ex → St → Prop} {V : Value → Hp → Prop}
theorem w55 {x lo hi : Int} (hV : V (.bool (decide (lo ≤ x) && decide (x ≤ hi))) A) : WF AP KL g 55 [.int .i64 x, .int .i64 lo, .int .i64 hi] A V := by
  rw [WF_body (show KL 55 = none from rfl) (show AP 55 = some F55 from rfl)]
  by_cases h : lo ≤ x
  · simp (disch := as_aux_lemma => first | omega | simp only [hDs] <;> omega | simp [isCell]) [hRs, takeMarks, resA, resAll, resOne, Value.cells, F55, h]
    simpa [h] using hV
  · simp (disch := as_aux_lemma => first | omega | simp only [hDs] <;> omega | simp [isCell]) [hRs, takeMarks, resA, resAll, resOne, Value.cells, F55, h]
    simpa [h] using hV
theorem w59 {x lo hi : Int} (hV : V (.bool (decide (lo ≤ x) && decide (x ≤ hi))) A) : WF AP KL g 59 [.int .i64 x, .int .i64 lo, .int .i64 hi] A V := by
  rw [WF_body (show KL 59 = none from rfl) (show AP 59 = some F59 from rfl)]
  by_cases h : lo ≤ x
  · simp (disch := as_aux_lemma => first | omega | simp only [hDs] <;> omega | simp [isCell]) [hRs, takeMarks, resA, resAll, resOne, Value.cells, F59, h]
    simpa [h] using hV
  · simp (disch := as_aux_lemma => first | omega | simp only [hDs] <;> omega | simp [isCell]) [hRs, takeMarks, resA, resAll, resOne, Value.cells, F59, h]
    simpa [h] using hV
theorem w58 {a b : Int} (hV : ∀ A', Ext' A A' → V (.bool (validB a b (-1200000) 1200000)) A') : WF AP KL g 58 [.agg ⟨[.int .i64 a, .int .i64 b]⟩, .int .i64 1200000] A V := by
  rw [WF_body (show KL 58 = none from rfl) (show AP 58 = some F58 from rfl)]
  have e1 : wr .i64 (-1200000) = -1200000 := by decide
  have hV' := hV _ (Ext'.push A (.cells [.int .i64 a, .int .i64 b] false))
  by_cases h : a ≤ b
  · by_cases h2 : -1200000 ≤ a
    · simp (disch := as_aux_lemma => first | omega | simp only [hDs] <;> omega | simp [isCell]) [hRs, takeMarks, resA, resAll, resOne, Value.cells, F58, h, h2, e1]
      simpa [validB, h, h2] using hV'
    · simp (disch := as_aux_lemma => first | omega | simp only [hDs] <;> omega | simp [isCell]) [hRs, takeMarks, resA, resAll, resOne, Value.cells, F58, h, h2, e1]
      simpa [validB, h, h2] using hV'
  · simp (disch := as_aux_lemma => first | omega | simp only [hDs] <;> omega | simp [isCell]) [hRs, takeMarks, resA, resAll, resOne, Value.cells, F58, h]
    simpa [validB, h] using hV'
theorem says57 {A0 : Hp} {n : Nat} {zs : List Int} : Says g A0 (.func (.func 57) ⟨[]⟩ ⟨[]⟩) n (fun i => .agg ⟨[.int .i64 (gi zs (i * 2)), .int .i64 (gi zs (i * 2 + 1))]⟩) (fun i => !grd zs i) := by
  intro i hi A V he hV
  simp (disch := as_aux_lemma => first | omega | simp only [hDs] <;> omega | simp [isCell]) [hRs, takeMarks, resA, resAll, resOne, Value.cells]
  rw [WF_body (show KL 57 = none from rfl) (show AP 57 = some F57 from rfl)]
  simp (disch := as_aux_lemma => first | omega | simp only [hDs] <;> omega | simp [isCell]) [hRs, takeMarks, resA, resAll, resOne, Value.cells, F57]
  refine w58 fun A' he' => ?_
  simp (disch := as_aux_lemma => first | omega | simp only [hDs] <;> omega | simp [isCell]) [hRs, takeMarks, resA, resAll, resOne, Value.cells]
  exact hV A' ((Ext'.push A _).trans he')
theorem w37 {w h s : Int} {m : Nat} {zs : List Int} {sl : Value} (hsl : RdS A 2 m (ints zs) sl) (hm : m < 1000000) (hV : ∀ A', Ext' A A' → V (.int .i64 (gridE w h s m zs)) A') : WF AP KL g 37 [gridV w h s sl] A V := by
  rw [WF_body (show KL 37 = none from rfl) (show AP 37 = some F37 from rfl)]
  have hX : (A.push (.cells [.int .i64 w, .int .i64 h, .int .i64 s, sl] false)).get A.n = some (.cells [.int .i64 w, .int .i64 h, .int .i64 s, sl] false) := get_push_new
  have eX := Ext'.push A (.cells [.int .i64 w, .int .i64 h, .int .i64 s, sl] false)
  have hl := hsl.1
  rw [ints_length] at hl
  simp (disch := as_aux_lemma => first | omega | simp only [hDs] <;> omega | simp [isCell]) [hRs, takeMarks, resA, resAll, resOne, Value.cells, F37, gridV]
  refine w55 ?_
  cases c1 : (decide (1 ≤ w) && decide (w ≤ 24)) with
  | false =>
    simp (disch := as_aux_lemma => first | omega | simp only [hDs] <;> omega | simp [isCell]) [hRs, takeMarks, resA, resAll, resOne, Value.cells]
    rw [← gridE_a (.inl c1)]; exact hV _ eX
  | true =>
    simp (disch := as_aux_lemma => first | omega | simp only [hDs] <;> omega | simp [isCell]) [hRs, takeMarks, resA, resAll, resOne, Value.cells]
    refine w55 ?_
    cases c2 : (decide (1 ≤ h) && decide (h ≤ 24)) with
    | false =>
      simp (disch := as_aux_lemma => first | omega | simp only [hDs] <;> omega | simp [isCell]) [hRs, takeMarks, resA, resAll, resOne, Value.cells]
      rw [← gridE_a (.inr (.inl c2))]; exact hV _ eX
    | true =>
      simp (disch := as_aux_lemma => first | omega | simp only [hDs] <;> omega | simp [isCell]) [hRs, takeMarks, resA, resAll, resOne, Value.cells]
      refine w55 ?_
      cases c3 : (decide (1 ≤ s) && decide (s ≤ 10000)) with
      | false =>
        simp (disch := as_aux_lemma => first | omega | simp only [hDs] <;> omega | simp [isCell]) [hRs, takeMarks, resA, resAll, resOne, Value.cells]
        rw [← gridE_a (.inr (.inr c3))]; exact hV _ eX
      | true =>
        have hc : ¬ ((decide (1 ≤ w) && decide (w ≤ 24)) = false ∨ (decide (1 ≤ h) && decide (h ≤ 24)) = false ∨ (decide (1 ≤ s) && decide (s ≤ 10000)) = false) := by simp only [c1, c2, c3]; simp
        by_cases hwh : (m : Int) = wr .i64 (w * h)
        · simp (disch := as_aux_lemma => first | omega | simp only [hDs] <;> omega | simp [isCell]) [hRs, takeMarks, resA, resAll, resOne, Value.cells, hsl.len, ← hwh]
          refine w56 (eX.rdS hsl) (fun i hi => ints_two (by omega)) says57 hm fun A' he => ?_
          cases c4 : (List.range m).any (fun i => !grd zs i) with
          | true =>
            simp (disch := as_aux_lemma => first | omega | simp only [hDs] <;> omega | simp [isCell]) [hRs, takeMarks, resA, resAll, resOne, Value.cells]
            rw [← gridE_c hc hwh c4]; exact hV _ (eX.trans he)
          | false =>
            simp (disch := as_aux_lemma => first | omega | simp only [hDs] <;> omega | simp [isCell]) [hRs, takeMarks, resA, resAll, resOne, Value.cells]
            rw [← gridE_d hc hwh c4]; exact hV _ (eX.trans he)
        · simp (disch := as_aux_lemma => first | omega | simp only [hDs] <;> omega | simp [isCell]) [hRs, takeMarks, resA, resAll, resOne, Value.cells, hsl.len, hwh]
          rw [← gridE_b hc hwh]; exact hV _ eX
theorem loop40 {A0 : Hp} {X1 m : Nat} {zs : List Int} {sl w h s : Value} (hsl : RdS A0 2 m (ints zs) sl) (hm : m < 1000000) (hg : g ≤ A0.n) (h1 : A0.get X1 = some (.cells [w, h, s, sl] false))
    (herr : ∀ T' A', (List.range m).any (fun i => !grd zs i) = true → Ext' A0 A' → tget T' 2 = .int .i64 3 → Q .ret ⟨T', D, A'⟩)
    (hend : ∀ T' A', (List.range m).any (fun i => !grd zs i) = false → Ext' A0 A' → Q (.exit 0) ⟨T', D, A'⟩) :
    ∀ (k i : Nat) {T1 : List Value} {A : Hp}, i + k = m → (∀ j, j < i → grd zs j = true) → Ext' A0 A → tget T1 1 = .pointer (some ⟨X1, 0, none⟩) → tget T1 3 = .int .i64 i → W AP KL g rd (.loop body40) ⟨T1, D, A⟩ Q := by
  have hzl := hsl.1
  rw [ints_length] at hzl
  intro k
  induction k with
  | zero =>
    intro i T1 A hik hok he t1 t3
    have : i = m := by omega
    subst this
    rw [W_loop]
    simp (disch := as_aux_lemma => first | omega | simp only [hDs] <;> omega | simp [isCell]) [hRs, takeMarks, resA, resAll, resOne, Value.cells, body40, t1, t3, he.get h1, (he.rdS hsl).len]
    refine hend _ A ?_ he
    rw [Bool.eq_false_iff]
    intro h
    obtain ⟨j, hj, hb⟩ := List.any_eq_true.1 h
    rw [hok j (by simpa using hj)] at hb
    cases hb
  | succ k ih =>
    intro i T1 A hik hok he t1 t3
    obtain ⟨x, c, ro, rfl, hx⟩ := (he.rdS hsl).at (i := i) (by omega)
    have hgA := Nat.le_trans hg he.1
    have e1 := he.trans (Ext'.push A (.cells [.int .i64 (gi zs (i * 2)), .int .i64 (gi zs (i * 2 + 1))] false))
    have bad : grd zs i = false → (List.range m).any (fun i => !grd zs i) = true := fun h => List.any_eq_true.2 ⟨i, by simp; omega, by simp [h]⟩
    rw [W_loop]
    by_cases c1 : gi zs (i * 2) ≤ gi zs (i * 2 + 1)
    · by_cases c2 : -1200000 ≤ gi zs (i * 2)
      · by_cases c3 : gi zs (i * 2 + 1) ≤ 1200000
        · simp (disch := as_aux_lemma => first | omega | simp only [hDs] <;> omega | simp [isCell]) [hRs, takeMarks, resA, resAll, resOne, Value.cells, body40, t1, t3, he.get h1, show ((i : Int) < m) by omega, idxSA_ok, hx, ints_two, storeB_cells, setRange, set_push_eq, show ¬ gi zs (i * 2 + 1) < gi zs (i * 2) by omega, show ¬ gi zs (i * 2) < -1200000 by omega, show ¬ 1200000 < gi zs (i * 2 + 1) by omega]
          have hok' : ∀ j, j < i + 1 → grd zs j = true := fun j hj => by
            rcases Nat.lt_or_ge j i with h | h
            · exact hok j h
            · have : j = i := by omega
              subst this; simp [grd, validB, c1, c2, c3]
          exact ih (i + 1) (by omega) hok' e1 (by simp [t1]) (by simp [wrId (n := (i : Int) + 1) (by omega) (by omega)])
        · simp (disch := as_aux_lemma => first | omega | simp only [hDs] <;> omega | simp [isCell]) [hRs, takeMarks, resA, resAll, resOne, Value.cells, body40, t1, t3, he.get h1, show ((i : Int) < m) by omega, idxSA_ok, hx, ints_two, storeB_cells, setRange, set_push_eq, show ¬ gi zs (i * 2 + 1) < gi zs (i * 2) by omega, show ¬ gi zs (i * 2) < -1200000 by omega, show 1200000 < gi zs (i * 2 + 1) by omega]
          exact herr _ _ (bad (by simp [grd, validB, c1, c2, c3])) e1 (by simp)
      · simp (disch := as_aux_lemma => first | omega | simp only [hDs] <;> omega | simp [isCell]) [hRs, takeMarks, resA, resAll, resOne, Value.cells, body40, t1, t3, he.get h1, show ((i : Int) < m) by omega, idxSA_ok, hx, ints_two, storeB_cells, setRange, set_push_eq, show ¬ gi zs (i * 2 + 1) < gi zs (i * 2) by omega, show gi zs (i * 2) < -1200000 by omega]
        exact herr _ _ (bad (by simp [grd, validB, c1, c2])) e1 (by simp)
    · simp (disch := as_aux_lemma => first | omega | simp only [hDs] <;> omega | simp [isCell]) [hRs, takeMarks, resA, resAll, resOne, Value.cells, body40, t1, t3, he.get h1, show ((i : Int) < m) by omega, idxSA_ok, hx, ints_two, storeB_cells, setRange, set_push_eq, show gi zs (i * 2 + 1) < gi zs (i * 2) by omega]
      exact herr _ _ (bad (by simp [grd, validB, c1])) e1 (by simp)
theorem w40 {w h s : Int} {m : Nat} {zs : List Int} {sl : Value} (hsl : RdS A 2 m (ints zs) sl) (hm : m < 1000000) (hg : g ≤ A.n) (hV : ∀ A', Ext' A A' → V (.int .i64 (gridE w h s m zs)) A') : WF AP KL g 40 [gridV w h s sl] A V := by
  rw [WF_body (show KL 40 = none from rfl) (show AP 40 = some F40 from rfl)]
  have hX : (A.push (.cells [.int .i64 w, .int .i64 h, .int .i64 s, sl] false)).get A.n = some (.cells [.int .i64 w, .int .i64 h, .int .i64 s, sl] false) := get_push_new
  have eX := Ext'.push A (.cells [.int .i64 w, .int .i64 h, .int .i64 s, sl] false)
  simp (disch := as_aux_lemma => first | omega | simp only [hDs] <;> omega | simp [isCell]) [hRs, takeMarks, resA, resAll, resOne, Value.cells, F40, gridV]
  refine w59 ?_
  cases c1 : (decide (1 ≤ w) && decide (w ≤ 24)) with
  | false =>
    simp (disch := as_aux_lemma => first | omega | simp only [hDs] <;> omega | simp [isCell]) [hRs, takeMarks, resA, resAll, resOne, Value.cells]
    rw [← gridE_a (.inl c1)]; exact hV _ eX
  | true =>
    simp (disch := as_aux_lemma => first | omega | simp only [hDs] <;> omega | simp [isCell]) [hRs, takeMarks, resA, resAll, resOne, Value.cells]
    refine w59 ?_
    cases c2 : (decide (1 ≤ h) && decide (h ≤ 24)) with
    | false =>
      simp (disch := as_aux_lemma => first | omega | simp only [hDs] <;> omega | simp [isCell]) [hRs, takeMarks, resA, resAll, resOne, Value.cells]
      rw [← gridE_a (.inr (.inl c2))]; exact hV _ eX
    | true =>
      simp (disch := as_aux_lemma => first | omega | simp only [hDs] <;> omega | simp [isCell]) [hRs, takeMarks, resA, resAll, resOne, Value.cells]
      refine w59 ?_
      cases c3 : (decide (1 ≤ s) && decide (s ≤ 10000)) with
      | false =>
        simp (disch := as_aux_lemma => first | omega | simp only [hDs] <;> omega | simp [isCell]) [hRs, takeMarks, resA, resAll, resOne, Value.cells]
        rw [← gridE_a (.inr (.inr c3))]; exact hV _ eX
      | true =>
        have hc : ¬ ((decide (1 ≤ w) && decide (w ≤ 24)) = false ∨ (decide (1 ≤ h) && decide (h ≤ 24)) = false ∨ (decide (1 ≤ s) && decide (s ≤ 10000)) = false) := by simp only [c1, c2, c3]; simp
        by_cases hwh : (m : Int) = wr .i64 (w * h)
        · simp (disch := as_aux_lemma => first | omega | simp only [hDs] <;> omega | simp [isCell]) [hRs, takeMarks, resA, resAll, resOne, Value.cells, hsl.len, ← hwh]
          refine loop40 (A0 := (A.push (.cells [.int .i64 w, .int .i64 h, .int .i64 s, sl] false))) (X1 := A.n) (m := m) (zs := zs) (eX.rdS hsl) hm (by simp; omega) hX ?_ ?_ m 0 (by omega) (fun j hj => absurd hj (by omega)) (Ext'.refl _) (by simp) (by simp)
          · intro T' A' c4 he t2
            simp (disch := as_aux_lemma => first | omega | simp only [hDs] <;> omega | simp [isCell]) [hRs, takeMarks, resA, resAll, resOne, Value.cells, t2]
            rw [← gridE_c hc hwh c4]; exact hV _ (eX.trans he)
          · intro T' A' c4 he
            simp (disch := as_aux_lemma => first | omega | simp only [hDs] <;> omega | simp [isCell]) [hRs, takeMarks, resA, resAll, resOne, Value.cells]
            rw [← gridE_d hc hwh c4]; exact hV _ (eX.trans he)
        · simp (disch := as_aux_lemma => first | omega | simp only [hDs] <;> omega | simp [isCell]) [hRs, takeMarks, resA, resAll, resOne, Value.cells, hsl.len, hwh]
          rw [← gridE_b hc hwh]; exact hV _ eX
end
def blkOf : Value → Option Nat
  | .slice (some ⟨x, _, _⟩) _ _ => some x
  | _ => none
theorem _root_.Go.Ab.AccS.keepB {N : Nat} {A A' : Hp} {esz : Nat} {cs : List Value} {sv : Value} (h : AccS N A esz cs sv) (hA : ∀ b, blkOf sv = some b → A'.get b = A.get b) : AccS N A' esz cs sv := by
  rcases h with h | ⟨b, n, h1, h2, h3, h4, h5⟩
  · exact .inl h
  · exact .inr ⟨b, n, h1, by rw [hA b (by rw [h1]; rfl)]; exact h2, h3, h4, h5⟩
theorem _root_.Go.Ab.AccS.blk_ge {N : Nat} {A : Hp} {esz : Nat} {cs : List Value} {sv : Value} (h : AccS N A esz cs sv) {b : Nat} (hb : blkOf sv = some b) : N ≤ b ∧ b < A.n := by
  rcases h with ⟨rfl, _⟩ | ⟨b', n, rfl, h2, h3, h4, h5⟩
  · cases hb
  · cases hb; exact ⟨h3, Hp.lt_of_get h2⟩
theorem add_keep {N g : Nat} {A : Hp} {esz bytes n : Nat} {cs new : List Value} {ro : Bool} {sv : Value} (h : AccS N A esz cs sv) (hg : g ≤ N) (hN : N ≤ A.n) (hnew : new.length = esz) (hesz : 0 < esz) (hcell : new.all isCell = true) (hl : cs.length = n * esz)
    (hroom : (n + 1) * bytes ≤ room ∧ n + 1 ≤ room) : ∃ sv' A', appendA g (A.push (.cells new ro)) esz bytes sv (.slice (some ⟨A.n, 0, some esz⟩) 1 1) = some (sv', A') ∧ AccS N A' esz (cs ++ new) sv' ∧ (∀ z, z < A.n → blkOf sv ≠ some z → A'.get z = A.get z) ∧ A.n ≤ A'.n ∧ blkOf sv' = some (A.n + 1) := by
  have hcells : cellsAt (A.push (.cells new ro)) (1 * esz) (.slice (some ⟨A.n, 0, some esz⟩) 1 1) = some new := by
    simp only [cellsAt, Nat.one_mul]
    rw [get_push_new]
    simp only
    rw [if_pos (by omega)]
    subst hnew
    simp
  rcases h with ⟨rfl, rfl⟩ | ⟨b, k, rfl, hb, hNb, hk, hk0⟩
  · have hn : n = 0 := by
      rcases Nat.eq_zero_or_pos n with h | h
      · exact h
      · have := Nat.mul_pos h hesz
        simp only [List.length_nil] at hl
        omega
    subst hn
    refine ⟨.slice (some ⟨A.n + 1, 0, some esz⟩) 1 1, (A.push (.cells new ro)).push (.cells new false), ?_, .inr ⟨A.n + 1, 1, rfl, by rw [get_push_eq (by simp)]; simp, by omega, by simp [hnew], by omega⟩, fun z hz _ => by rw [get_push_old (by simp; omega), get_push_old hz], by simp; omega, rfl⟩
    have hr : 1 * bytes ≤ room ∧ 1 ≤ room := by simpa using hroom
    unfold appendA
    simp only [hcells]
    rw [if_pos ⟨hcell, hesz⟩]
    simp only [if_neg (show ¬ (1 = 0) by decide)]
    rw [if_pos hr]
    rfl
  · have hkn : k = n := Nat.eq_of_mul_eq_mul_right hesz (hk.symm.trans hl)
    subst hkn
    have hbn := Hp.lt_of_get hb
    have hb1 : (A.push (.cells new ro)).get b = some (.cells cs false) := by rw [get_push_old hbn]; exact hb
    refine ⟨.slice (some ⟨A.n + 1, 0, some esz⟩) (k + 1) (k + 1), ((A.push (.cells new ro)).set b none).push (.cells (cs ++ new) false), ?_, .inr ⟨A.n + 1, k + 1, rfl, by rw [get_push_eq (by simp)], by omega, by simp [hnew, hk, Nat.add_mul], by omega⟩,
      fun z hz hzb => ?_, by simp; omega, rfl⟩
    · unfold appendA
      simp only [hcells]
      rw [if_pos ⟨hcell, hesz⟩]
      simp only [if_neg (show ¬ (1 = 0) by decide), hb1]
      rw [if_pos ⟨by omega, hroom.1, hroom.2, trivial⟩, if_pos (by omega)]
      simp
    · rw [get_push_old (by simp; omega), get_set_ne (by simp; omega) (fun h => hzb (by rw [h]; rfl)), get_push_old hz]
structure HS where
  wc : Int
  ws : Int
  sc : Int
  ss : Int
  may : Int
  must : Int
structure Sec where
  cell : Int
  cl : Int
  ch : Int
  sl : Int
  sh : Int
  toe : Int
  wl : Int
  wh : Int
def Sec.cells (S : Sec) : List Value := [.int .i64 S.cell, .int .i64 S.cl, .int .i64 S.ch, .int .i64 S.sl, .int .i64 S.sh, .int .i64 S.toe, .int .i64 S.wl, .int .i64 S.wh]
def Sec.ok (S : Sec) : Bool := validB S.cl S.ch (-20000) 20000 && (validB S.sl S.sh (-20000) 20000 && (validB S.toe S.toe (-20000) 20000 && validB S.wl S.wh 0 1000))
def holdS (S : Sec) (zs : List Int) : Nat → HS
  | 0 => ⟨S.cl, S.sl, S.ch, S.sh, -1, -1⟩
  | k + 1 =>
    ⟨if S.toe < gi zs (k * 2 + 1) then wr .i64 ((holdS S zs k).wc - S.wh) else (holdS S zs k).wc, if S.toe < gi zs (k * 2 + 1) then wr .i64 ((holdS S zs k).ws - S.wh) else (holdS S zs k).ws,
     if S.toe < gi zs (k * 2) then wr .i64 ((holdS S zs k).sc - S.wl) else (holdS S zs k).sc, if S.toe < gi zs (k * 2) then wr .i64 ((holdS S zs k).ss - S.wl) else (holdS S zs k).ss,
     if (holdS S zs k).may < 0 ∧ min (holdS S zs k).wc (holdS S zs k).ws < gi zs (k * 2 + 1) then k else (holdS S zs k).may,
     if (holdS S zs k).must < 0 ∧ min (holdS S zs k).sc (holdS S zs k).ss < gi zs (k * 2) then k else (holdS S zs k).must⟩
def fateV (a b : Value) (m u : Int) : Value := .agg ⟨[a, b, .int .i64 m, .int .i64 u]⟩
def KeepT (l : List Nat) (T T' : List Value) : Prop := ∀ i ∈ l, tget T' i = tget T i
@[simp] theorem KeepT_nil {T T' : List Value} : KeepT [] T T' := fun _ h => by cases h
@[simp] theorem KeepT_cons {a : Nat} {l : List Nat} {T T' : List Value} : KeepT (a :: l) T T' ↔ tget T' a = tget T a ∧ KeepT l T T' := by simp [KeepT]
theorem KeepT.at {l : List Nat} {T T' : List Value} (h : KeepT l T T') (i : Nat) (hi : l.contains i = true) : tget T' i = tget T i := h i (by simpa using hi)
theorem KeepT.trans {l : List Nat} {T T' T'' : List Value} (h : KeepT l T T') (h' : KeepT l T' T'') : KeepT l T T'' := fun i hi => (h' i hi).trans (h i hi)
section
variable {g : Nat} {rd : Option Nat} {T : List Value} {D : List Nat} {A : Hp} {Q : Ex → St → Prop} {V : Value → Hp → Prop}
def But (x : Nat) (A A' : Hp) : Prop := A.n ≤ A'.n ∧ ∀ z, z < A.n → z ≠ x → A'.get z = A.get z
theorem But.of_ext {x : Nat} {A A' : Hp} (h : Ext' A A') : But x A A' := ⟨h.1, fun z hz _ => h.2 z hz⟩
theorem But.set {x : Nat} {A A' : Hp} {b : Option ABlk} (hx : x < A.n) (h : Ext' A A') : But x A (A'.set x b) := ⟨by have := h.1; simpa using this, fun z hz hzx => by rw [get_set_ne (by have := h.1; omega) hzx, h.2 z hz]⟩
end
theorem part4 {cs : List Value} {o : Nat} {a b c d : Value} (h0 : cellAt cs o = some a) (h1 : cellAt cs (o + 1) = some b) (h2 : cellAt cs (o + 2) = some c) (h3 : cellAt cs (o + 3) = some d) : partA cs o (some 4) = some (.agg ⟨[a, b, c, d]⟩) := by
  have l3 := (List.getElem?_eq_some_iff.1 (show cs[o + 3]? = some d from h3)).1
  rw [partA_some (by omega)]
  congr 3
  apply List.ext_getElem?
  intro i
  rw [List.getElem?_take]
  by_cases hi : i < 4
  · rw [if_pos hi, List.getElem?_drop]
    have : i = 0 ∨ i = 1 ∨ i = 2 ∨ i = 3 := by omega
    rcases this with rfl | rfl | rfl | rfl
    · exact h0
    · exact h1
    · exact h2
    · exact h3
  · rw [if_neg hi]
    exact (List.getElem?_eq_none (by simp; omega)).symm
structure FT where
  cn : Nat
  cz : List Int
  sn : Nat
  sz : List Int
  may : Int
  must : Int
def FateAt (A : Hp) (cells : List Value) (i : Nat) (f : FT) : Prop :=
  ∃ a b, partA cells (i * 4) (some 4) = some (fateV a b f.may f.must) ∧ cellAt cells (i * 4) = some a ∧ cellAt cells (i * 4 + 1) = some b ∧ cellAt cells (i * 4 + 2) = some (.int .i64 f.may) ∧ cellAt cells (i * 4 + 3) = some (.int .i64 f.must) ∧ RdS A 2 f.cn (ints f.cz) a ∧ RdS A 2 f.sn (ints f.sz) b
def Fates (A : Hp) (n : Nat) (F : Nat → FT) (sl : Value) : Prop := ∃ cells, RdS A 4 n cells sl ∧ ∀ i, i < n → FateAt A cells i (F i)
theorem FateAt.mono {A A' : Hp} {cells : List Value} {i : Nat} {f : FT} (h : FateAt A cells i f) (hA : ∀ z, z < A.n → A'.get z = A.get z) : FateAt A' cells i f := by
  obtain ⟨a, b, h1, h2, h3, h4, h5, h6, h7⟩ := h
  exact ⟨a, b, h1, h2, h3, h4, h5, h6.mono hA, h7.mono hA⟩
theorem Fates.mono {A A' : Hp} {n : Nat} {F : Nat → FT} {sl : Value} (h : Fates A n F sl) (hA : ∀ z, z < A.n → A'.get z = A.get z) : Fates A' n F sl := by
  obtain ⟨cells, h1, h2⟩ := h
  exact ⟨cells, h1.mono hA, fun i hi => (h2 i hi).mono hA⟩
theorem Fates.ext {A A' : Hp} {n : Nat} {F : Nat → FT} {sl : Value} (h : Fates A n F sl) (he : Ext' A A') : Fates A' n F sl := h.mono he.2
theorem Fates.len {A : Hp} {n : Nat} {F : Nat → FT} {sl : Value} (h : Fates A n F sl) : lenV sl = some (.int .i64 n) := by obtain ⟨_, h1, _⟩ := h; exact h1.len
theorem Fates.at {A : Hp} {n i : Nat} {F : Nat → FT} {sl : Value} (h : Fates A n F sl) (hi : i < n) : ∃ x c ro cells, sl = .slice (some ⟨x, 0, some 4⟩) n c ∧ A.get x = some (.cells cells ro) ∧ FateAt A cells i (F i) := by
  obtain ⟨cells, h1, h2⟩ := h
  obtain ⟨x, c, ro, h3, h4⟩ := h1.at hi
  exact ⟨x, c, ro, cells, h3, h4, h2 i hi⟩
theorem But.trans {x : Nat} {A B C : Hp} (h : But x A B) (h' : But x B C) : But x A C := ⟨Nat.le_trans h.1 h'.1, fun z hz hx => (h'.2 z (Nat.lt_of_lt_of_le hz h.1) hx).trans (h.2 z hz hx)⟩
structure StepT where
  name : ByteArray
  an : Nat
  al : List Int
  tl : Int
  th : Int
  calm : Bool
  clear : Bool
  logs : Int
def stepC (a : Value) (s : StepT) : List Value := [.string s.name, a, .int .i64 s.tl, .int .i64 s.th, .bool s.calm, .bool s.clear, .int .i64 s.logs]
def StepAt (A : Hp) (cells : List Value) (i : Nat) (s : StepT) : Prop :=
  ∃ a, partA cells (i * 7) (some 7) = some (.agg ⟨stepC a s⟩) ∧ cellAt cells (i * 7) = some (.string s.name) ∧ cellAt cells (i * 7 + 1) = some a ∧ partA cells (i * 7 + 2) (some 2) = some (.agg ⟨[.int .i64 s.tl, .int .i64 s.th]⟩) ∧
    cellAt cells (i * 7 + 2) = some (.int .i64 s.tl) ∧ cellAt cells (i * 7 + 3) = some (.int .i64 s.th) ∧ cellAt cells (i * 7 + 4) = some (.bool s.calm) ∧ cellAt cells (i * 7 + 5) = some (.bool s.clear) ∧ cellAt cells (i * 7 + 6) = some (.int .i64 s.logs) ∧ RdS A 1 s.an (ints s.al) a
def Steps (A : Hp) (n : Nat) (S : Nat → StepT) (sl : Value) : Prop := ∃ cells, RdS A 7 n cells sl ∧ ∀ i, i < n → StepAt A cells i (S i)
theorem StepAt.mono {A A' : Hp} {cells : List Value} {i : Nat} {f : StepT} (h : StepAt A cells i f) (hA : ∀ z, z < A.n → A'.get z = A.get z) : StepAt A' cells i f := by
  obtain ⟨a, h1, h2, h3, h4, h5, h6, h7, h8, h9, h10⟩ := h
  exact ⟨a, h1, h2, h3, h4, h5, h6, h7, h8, h9, h10.mono hA⟩
theorem Steps.mono {A A' : Hp} {n : Nat} {F : Nat → StepT} {sl : Value} (h : Steps A n F sl) (hA : ∀ z, z < A.n → A'.get z = A.get z) : Steps A' n F sl := by
  obtain ⟨cells, h1, h2⟩ := h
  exact ⟨cells, h1.mono hA, fun i hi => (h2 i hi).mono hA⟩
theorem Steps.ext {A A' : Hp} {n : Nat} {F : Nat → StepT} {sl : Value} (h : Steps A n F sl) (he : Ext' A A') : Steps A' n F sl := h.mono he.2
theorem Steps.len {A : Hp} {n : Nat} {F : Nat → StepT} {sl : Value} (h : Steps A n F sl) : lenV sl = some (.int .i64 n) := by obtain ⟨_, h1, _⟩ := h; exact h1.len
theorem Steps.at {A : Hp} {n i : Nat} {F : Nat → StepT} {sl : Value} (h : Steps A n F sl) (hi : i < n) : ∃ x c ro cells, sl = .slice (some ⟨x, 0, some 7⟩) n c ∧ A.get x = some (.cells cells ro) ∧ cells.length = n * 7 ∧ ∀ j, j < n → StepAt A cells j (F j) := by
  obtain ⟨cells, h1, h2⟩ := h
  obtain ⟨x, c, ro, h3, h4⟩ := h1.at hi
  exact ⟨x, c, ro, cells, h3, h4, h1.1, h2⟩
def never : Int := 1099511627776
def Bd (B v : Int) : Prop := 0 ≤ v ∧ (v ≤ B ∨ v = never)
theorem Bd.max {B v u : Int} (h : Bd B v) (h' : Bd B u) (hB : B ≤ never) : Bd B (max v u) := by
  unfold Bd never at *
  omega
theorem Bd.le {B v : Int} (h : Bd B v) (hB : B ≤ never) : v ≤ never := by unfold Bd at h; omega
theorem Bd.mono {B B' v : Int} (h : Bd B v) (hB : B ≤ B') : Bd B' v := by unfold Bd at *; omega
theorem _root_.Go.Ab.RdS.cellsAt {A : Hp} {k n : Nat} {cs : List Value} {sv : Value} (h : RdS A k n cs sv) : cellsAt A (n * k) sv = some cs := by
  obtain ⟨h0, ⟨rfl, rfl⟩ | ⟨b, c, ro, rfl, hb⟩⟩ := h
  · have : cs = [] := List.eq_nil_of_length_eq_zero (by simpa using h0)
    subst this; simp [Go.Ab.cellsAt]
  · simp only [Go.Ab.cellsAt, hb]
    rw [if_pos (by omega)]
    simp [← h0]
def FSep (A : Hp) (cells : List Value) (sv : Value) (j : Nat) (f : FT) : Prop :=
  ∃ a b, cellAt cells (j * 4) = some a ∧ cellAt cells (j * 4 + 1) = some b ∧ cellAt cells (j * 4 + 2) = some (.int .i64 f.may) ∧ cellAt cells (j * 4 + 3) = some (.int .i64 f.must) ∧ RdS A 2 f.cn (ints f.cz) a ∧ RdS A 2 f.sn (ints f.sz) b ∧
    (∀ z, blkOf a = some z → blkOf sv ≠ some z) ∧ (∀ z, blkOf b = some z → blkOf sv ≠ some z)
theorem FSep.at {A : Hp} {cells : List Value} {sv : Value} {j : Nat} {f : FT} (h : FSep A cells sv j f) : FateAt A cells j f := by
  obtain ⟨a, b, h1, h2, h3, h4, h5, h6, _⟩ := h
  exact ⟨a, b, part4 h1 h2 h3 h4, h1, h2, h3, h4, h5, h6⟩
theorem _root_.Go.Ab.RdS.keepB {A A' : Hp} {k n : Nat} {cs : List Value} {sv : Value} (h : RdS A k n cs sv) (hA : ∀ z, blkOf sv = some z → A'.get z = A.get z) : RdS A' k n cs sv := by
  obtain ⟨h0, h | ⟨b, c, ro, rfl, h2⟩⟩ := h
  · exact ⟨h0, .inl h⟩
  · exact ⟨h0, .inr ⟨b, c, ro, rfl, by rw [hA b rfl]; exact h2⟩⟩
theorem _root_.Go.Ab.RdS.blk_lt {A : Hp} {k n : Nat} {cs : List Value} {sv : Value} (h : RdS A k n cs sv) {z : Nat} (hz : blkOf sv = some z) : z < A.n := by
  obtain ⟨h0, ⟨rfl, _⟩ | ⟨b, c, ro, rfl, h2⟩⟩ := h
  · cases hz
  · cases hz; exact Hp.lt_of_get h2
theorem cellAt_left {cs ds : List Value} {o : Nat} {v : Value} (h : cellAt cs o = some v) : cellAt (cs ++ ds) o = some v := by
  have hl := (List.getElem?_eq_some_iff.1 (show cs[o]? = some v from h)).1
  show (cs ++ ds)[o]? = some v
  rw [List.getElem?_append_left hl]; exact h
theorem FSep.next {A A' : Hp} {cells new : List Value} {sv sv' : Value} {j : Nat} {f : FT} (h : FSep A cells sv j f) (hA : ∀ z, z < A.n → blkOf sv ≠ some z → A'.get z = A.get z) (hsv : ∀ z, blkOf sv' = some z → A.n ≤ z) : FSep A' (cells ++ new) sv' j f := by
  obtain ⟨a, b, h1, h2, h3, h4, h5, h6, h7, h8⟩ := h
  refine ⟨a, b, cellAt_left h1, cellAt_left h2, cellAt_left h3, cellAt_left h4, h5.keepB fun z hz => hA z (h5.blk_lt hz) (h7 z hz), h6.keepB fun z hz => hA z (h6.blk_lt hz) (h8 z hz), fun z hz h => ?_, fun z hz h => ?_⟩
  · have := hsv z h; have := h5.blk_lt hz; omega
  · have := hsv z h; have := h6.blk_lt hz; omega
def SSep (A : Hp) (cells : List Value) (sv : Value) (j : Nat) (s : StepT) : Prop :=
  ∃ a, (∀ (o : Nat) v, (stepC a s)[o]? = some v → cells[j * 7 + o]? = some v) ∧ RdS A 1 s.an (ints s.al) a ∧ (∀ z, blkOf a = some z → blkOf sv ≠ some z)
theorem SSep.next {A A' : Hp} {cells new : List Value} {sv sv' : Value} {j : Nat} {s : StepT} (h : SSep A cells sv j s) (hA : ∀ z, z < A.n → blkOf sv ≠ some z → A'.get z = A.get z) (hsv : ∀ z, blkOf sv' = some z → A.n ≤ z) : SSep A' (cells ++ new) sv' j s := by
  obtain ⟨a, h1, h2, h3⟩ := h
  refine ⟨a, fun o v ho => ?_, h2.keepB fun z hz => hA z (h2.blk_lt hz) (h3 z hz), fun z hz h => ?_⟩
  · have := h1 o v ho
    rw [List.getElem?_append_left (List.getElem?_eq_some_iff.1 this).1]; exact this
  · have := hsv z h; have := h2.blk_lt hz; omega
structure Ch (A : Hp) (X3 X1 : Nat) (k : Int) : Prop where
  next : A.get X3 = some (.cells [.int .i64 k] false)
  k0 : 0 ≤ k
  list : ∃ n zs sl ro, A.get X1 = some (.cells [sl] ro) ∧ RdS A 1 n (kints .u8 zs) sl ∧ n < 9223372036854775808 ∧ (∀ j, 0 ≤ gi zs j ∧ gi zs j ≤ 255) ∧ (∀ z, blkOf sl = some z → z ≠ X3)
  ne : X1 ≠ X3
theorem Ch.but {A A' : Hp} {X3 X1 : Nat} {k k' : Int} (h : Ch A X3 X1 k) (hb : But X3 A A') (hn : A'.get X3 = some (.cells [.int .i64 k'] false)) (hk : 0 ≤ k') : Ch A' X3 X1 k' := by
  obtain ⟨h1, h2, ⟨n, zs, sl, ro, h3, h4, h5, h6, h7⟩, h8⟩ := h
  exact ⟨hn, hk, ⟨n, zs, sl, ro, (hb.2 X1 (Hp.lt_of_get h3) h8).trans h3, h4.keepB fun z hz => hb.2 z (h4.blk_lt hz) (h7 z hz), h5, h6, h7⟩, h8⟩
theorem Ch.ext {A A' : Hp} {X3 X1 : Nat} {k : Int} (h : Ch A X3 X1 k) (he : Ext' A A') : Ch A' X3 X1 k := h.but (But.of_ext he) (he.get h.next) h.k0
def wallC (cr st toe m0 m1 m2 wear : Int) (lv wd tr : Value) : List Value := [.int .i16 cr, .int .i16 st, .int .i16 toe, .int .u8 m0, .int .u8 m1, .int .u8 m2, .int .u8 wear, lv, wd, tr]
structure WallIn (A : Hp) (cs : List Value) (n : Nat) : Prop where
  e : ∃ (cr st toe m0 m1 m2 wear : Int) (lv wd tr : Value) (m q : Nat) (xs ys us : List Int), cs = wallC cr st toe m0 m1 m2 wear lv wd tr ∧ (-32768 ≤ cr ∧ cr ≤ 32767) ∧ (-32768 ≤ st ∧ st ≤ 32767) ∧ (-32768 ≤ toe ∧ toe ≤ 32767) ∧ (0 ≤ m0 ∧ m0 ≤ 255) ∧ (0 ≤ m1 ∧ m1 ≤ 255) ∧ (0 ≤ m2 ∧ m2 ≤ 255) ∧ (0 ≤ wear ∧ wear ≤ 255) ∧
    RdS A 1 n (kints .i16 xs) lv ∧ (∀ j, -32768 ≤ gi xs j ∧ gi xs j ≤ 32767) ∧ RdS A 1 m (kints .u8 ys) wd ∧ m < 9223372036854775808 ∧ (∀ j, 0 ≤ gi ys j ∧ gi ys j ≤ 255) ∧ RdS A 1 q (kints .u8 us) tr ∧ q < 9223372036854775808 ∧ (∀ j, 0 ≤ gi us j ∧ gi us j ≤ 255)
structure WallOk (S : Sec) : Prop where
  c : -2000 < S.cl ∧ S.cl ≤ S.ch ∧ S.ch < 2300
  s : -2000 < S.sl ∧ S.sl ≤ S.sh ∧ S.sh < 2300
  t : -2000 < S.toe ∧ S.toe < 2000
  w : 0 ≤ S.wl ∧ S.wl ≤ S.wh ∧ S.wh ≤ 60
def LevOk (n : Nat) (zs : List Int) : Prop := zs.length = n * 2 ∧ ∀ j, j < n → -3000 < gi zs (j * 2) ∧ gi zs (j * 2) ≤ gi zs (j * 2 + 1) ∧ gi zs (j * 2 + 1) < 3300
theorem LevOk.next {n : Nat} {zs : List Int} {lo hi : Int} (h : LevOk n zs) (h1 : -3000 < lo) (h2 : lo ≤ hi) (h3 : hi < 3300) : LevOk (n + 1) (zs ++ [lo, hi]) := by
  obtain ⟨hl, ha⟩ := h
  refine ⟨by simp [hl]; omega, fun j hj => ?_⟩
  have g1 : ∀ o, o < zs.length → gi (zs ++ [lo, hi]) o = gi zs o := fun o ho => by unfold gi; simp [List.getD_eq_getElem?_getD, List.getElem?_append_left ho]
  rcases Nat.lt_or_ge j n with h | h
  · rw [g1 _ (by omega), g1 _ (by omega)]; exact ha j h
  · have : j = n := by omega
    subst this
    have a1 : gi (zs ++ [lo, hi]) (j * 2) = lo := by unfold gi; rw [List.getD_eq_getElem?_getD, List.getElem?_append_right (by omega), show j * 2 - zs.length = 0 by omega]; rfl
    have a2 : gi (zs ++ [lo, hi]) (j * 2 + 1) = hi := by unfold gi; rw [List.getD_eq_getElem?_getD, List.getElem?_append_right (by omega), show j * 2 + 1 - zs.length = 1 by omega]; rfl
    rw [a1, a2]; exact ⟨h1, h2, h3⟩
structure HB (k : Nat) (s : HS) : Prop where
  a : -(2000 + 60 * (k : Int)) ≤ s.wc ∧ s.wc ≤ 2300
  b : -(2000 + 60 * (k : Int)) ≤ s.ws ∧ s.ws ≤ 2300
  c : -(2000 + 60 * (k : Int)) ≤ s.sc ∧ s.sc ≤ 2300
  d : -(2000 + 60 * (k : Int)) ≤ s.ss ∧ s.ss ≤ 2300
  may : -1 ≤ s.may ∧ s.may < k
  must : -1 ≤ s.must ∧ s.must < k
structure HStep (S : Sec) (lo hi : Int) (k : Nat) (s s' : HS) : Prop where
  a : s'.wc = if S.toe < hi then s.wc - S.wh else s.wc
  b : s'.ws = if S.toe < hi then s.ws - S.wh else s.ws
  c : s'.sc = if S.toe < lo then s.sc - S.wl else s.sc
  d : s'.ss = if S.toe < lo then s.ss - S.wl else s.ss
  may : s'.may = if s.may < 0 ∧ min s.wc s.ws < hi then (k : Int) else s.may
  must : s'.must = if s.must < 0 ∧ min s.sc s.ss < lo then (k : Int) else s.must
structure Liv (s : HS) (k : Nat) (c h f : Int) : Prop where
  a : s.wc ≤ c ∧ c ≤ s.sc
  b : s.ws ≤ h ∧ h ≤ s.ss
  f0 : -1 ≤ f ∧ f < k
  may : 0 ≤ f → 0 ≤ s.may ∧ s.may ≤ f
  must : 0 ≤ s.must → 0 ≤ f ∧ f ≤ s.must
theorem Liv.next {S : Sec} {lo hi v c h f w : Int} {k : Nat} {s s' : HS} (hl : Liv s k c h f) (hs : HStep S lo hi k s s') (hw : 0 ≤ S.wl ∧ S.wl ≤ S.wh) (hm : -1 ≤ s.may ∧ s.may < k) (hu : -1 ≤ s.must ∧ s.must < k) (hv : lo ≤ v ∧ v ≤ hi) (hw2 : S.wl ≤ w ∧ w ≤ S.wh) :
    Liv s' (k + 1) (if S.toe < v then c - w else c) (if S.toe < v then h - w else h) (if f < 0 ∧ (c < v ∨ h < v) then (k : Int) else f) := by
  obtain ⟨a, b, f0, may, must⟩ := hl
  obtain ⟨ea, eb, ec, ed, em, eu⟩ := hs
  refine ⟨⟨?_, ?_⟩, ⟨?_, ?_⟩, ?_, ?_, ?_⟩
  · rw [ea]; split <;> split <;> omega
  · rw [ec]; split <;> split <;> omega
  · rw [eb]; split <;> split <;> omega
  · rw [ed]; split <;> split <;> omega
  · split <;> omega
  · rw [em]; split <;> split <;> omega
  · rw [eu]; split <;> split <;> omega
theorem nar_may {sm pm a a' hi hi' : Int} {k : Nat} (h : 0 ≤ pm → 0 ≤ sm ∧ sm ≤ pm) (ha : a ≤ a') (hh : hi' ≤ hi) (hm : -1 ≤ sm ∧ sm < k) (hm' : -1 ≤ pm ∧ pm < k) :
    0 ≤ (if pm < 0 ∧ a' < hi' then (k : Int) else pm) → 0 ≤ (if sm < 0 ∧ a < hi then (k : Int) else sm) ∧ (if sm < 0 ∧ a < hi then (k : Int) else sm) ≤ (if pm < 0 ∧ a' < hi' then (k : Int) else pm) := by
  split <;> split <;> omega
structure Nar (s p : HS) (k : Nat) : Prop where
  a : s.wc ≤ p.wc ∧ p.wc ≤ p.sc ∧ p.sc ≤ s.sc
  b : s.ws ≤ p.ws ∧ p.ws ≤ p.ss ∧ p.ss ≤ s.ss
  may : 0 ≤ p.may → 0 ≤ s.may ∧ s.may ≤ p.may
  must : 0 ≤ s.must → 0 ≤ p.must ∧ p.must ≤ s.must
theorem Nar.next {S P : Sec} {lo hi lo' hi' : Int} {k : Nat} {s s' p p' : HS} (hn : Nar s p k) (hs : HStep S lo hi k s s') (hp : HStep P lo' hi' k p p') (ht : P.toe = S.toe) (hw : 0 ≤ S.wl ∧ S.wl ≤ P.wl ∧ P.wl ≤ P.wh ∧ P.wh ≤ S.wh) (hl : lo ≤ lo' ∧ lo' ≤ hi' ∧ hi' ≤ hi)
    (hm : -1 ≤ s.may ∧ s.may < k) (hu : -1 ≤ s.must ∧ s.must < k) (hm' : -1 ≤ p.may ∧ p.may < k) (hu' : -1 ≤ p.must ∧ p.must < k) : Nar s' p' (k + 1) := by
  obtain ⟨a, b, may, must⟩ := hn
  obtain ⟨ea, eb, ec, ed, em, eu⟩ := hs
  obtain ⟨fa, fb, fc, fd, fm, fu⟩ := hp
  rw [ht] at fa fb fc fd
  refine ⟨⟨?_, ?_, ?_⟩, ⟨?_, ?_, ?_⟩, ?_, ?_⟩
  · rw [ea, fa]; split <;> split <;> omega
  · rw [fa, fc]; split <;> split <;> omega
  · rw [ec, fc]; split <;> split <;> omega
  · rw [eb, fb]; split <;> split <;> omega
  · rw [fb, fd]; split <;> split <;> omega
  · rw [ed, fd]; split <;> split <;> omega
  · rw [em, fm]
    exact nar_may may (by omega) hl.2.2 hm hm'
  · rw [eu, fu]
    exact nar_may must (by omega) hl.1 hu' hu
structure Narrower (S P : Sec) (n : Nat) (zs ys : List Int) : Prop where
  c : S.cl ≤ P.cl ∧ P.cl ≤ P.ch ∧ P.ch ≤ S.ch
  s : S.sl ≤ P.sl ∧ P.sl ≤ P.sh ∧ P.sh ≤ S.sh
  w : S.wl ≤ P.wl ∧ P.wl ≤ P.wh ∧ P.wh ≤ S.wh
  t : P.toe = S.toe
  l : ∀ j, j < n → gi zs (j * 2) ≤ gi ys (j * 2) ∧ gi ys (j * 2) ≤ gi ys (j * 2 + 1) ∧ gi ys (j * 2 + 1) ≤ gi zs (j * 2 + 1)
section
variable {g : Nat} {rd : Option Nat} {T : List Value} {D : List Nat} {A : Hp} {Q : Ex → St → Prop} {V : Value → Hp → Prop}
structure Lists (S : Sec) (zs : List Int) (i : Nat) (cL hL : List Int) : Prop where
  lc : cL.length = i + 1
  lh : hL.length = i + 1
  all : ∀ j, j ≤ i → ((holdS S zs j).wc ≤ gi cL j ∧ gi cL j ≤ (holdS S zs j).sc) ∧ ((holdS S zs j).ws ≤ gi hL j ∧ gi hL j ≤ (holdS S zs j).ss)
theorem gi_left {l : List Int} {v : Int} {j : Nat} (h : j < l.length) : gi (l ++ [v]) j = gi l j := by unfold gi; simp [List.getD_eq_getElem?_getD, List.getElem?_append_left h]
theorem gi_last {l : List Int} {v : Int} {j : Nat} (h : j = l.length) : gi (l ++ [v]) j = v := by subst h; unfold gi; simp [List.getD_eq_getElem?_getD]
theorem Lists.next {S : Sec} {zs : List Int} {i : Nat} {cL hL : List Int} {c h f : Int} (hl : Lists S zs i cL hL) (hv : Liv (holdS S zs (i + 1)) (i + 1) c h f) : Lists S zs (i + 1) (cL ++ [c]) (hL ++ [h]) := by
  obtain ⟨l1, l2, ha⟩ := hl
  refine ⟨by simp [l1], by simp [l2], fun j hj => ?_⟩
  rcases Nat.lt_or_ge j (i + 1) with h' | h'
  · rw [gi_left (by omega), gi_left (by omega)]; exact ha j (by omega)
  · have : j = i + 1 := by omega
    subst this
    rw [gi_last (by omega), gi_last (by omega)]; exact ⟨hv.a, hv.b⟩
end
section
variable {g : Nat} {rd : Option Nat} {T : List Value} {D : List Nat} {A : Hp} {Q : Ex → St → Prop} {V : Value → Hp → Prop}
def NarL (n : Nat) (zs ys : List Int) : Prop := ys.length = n * 2 ∧ ∀ j, j < n → gi zs (j * 2) ≤ gi ys (j * 2) ∧ gi ys (j * 2) ≤ gi ys (j * 2 + 1) ∧ gi ys (j * 2 + 1) ≤ gi zs (j * 2 + 1)
theorem NarL.next {n : Nat} {zs ys : List Int} {a b : Int} (h : NarL n zs ys) (h1 : gi zs (n * 2) ≤ a) (h2 : a ≤ b) (h3 : b ≤ gi zs (n * 2 + 1)) : NarL (n + 1) zs (ys ++ [a, b]) := by
  obtain ⟨hl, ha⟩ := h
  refine ⟨by simp [hl]; omega, fun j hj => ?_⟩
  have g1 : ∀ o, o < ys.length → gi (ys ++ [a, b]) o = gi ys o := fun o ho => by unfold gi; simp [List.getD_eq_getElem?_getD, List.getElem?_append_left ho]
  rcases Nat.lt_or_ge j n with h | h
  · rw [g1 _ (by omega), g1 _ (by omega)]; exact ha j h
  · have : j = n := by omega
    subst this
    have a1 : gi (ys ++ [a, b]) (j * 2) = a := by unfold gi; rw [List.getD_eq_getElem?_getD, List.getElem?_append_right (by omega), show j * 2 - ys.length = 0 by omega]; rfl
    have a2 : gi (ys ++ [a, b]) (j * 2 + 1) = b := by unfold gi; rw [List.getD_eq_getElem?_getD, List.getElem?_append_right (by omega), show j * 2 + 1 - ys.length = 1 by omega]; rfl
    rw [a1, a2]; exact ⟨h1, h2, h3⟩
end
structure NarS (S P : Sec) : Prop where
  c : S.cl ≤ P.cl ∧ P.cl ≤ P.ch ∧ P.ch ≤ S.ch
  s : S.sl ≤ P.sl ∧ P.sl ≤ P.sh ∧ P.sh ≤ S.sh
  w : S.wl ≤ P.wl ∧ P.wl ≤ P.wh ∧ P.wh ≤ S.wh
  t : P.toe = S.toe
structure JobT where
  lo : Int
  more : Int
  after : Int
  calm : Bool
  truth : Int
def jobC (j : JobT) : List Value := [.int .u16 j.lo, .int .u16 j.more, .int .u16 j.after, .bool j.calm, .int .u16 j.truth]
def Jobs (A : Hp) (n : Nat) (J : Nat → JobT) (sl : Value) : Prop := ∃ cells, RdS A 5 n cells sl ∧ ∀ i, i < n → partA cells (i * 5) (some 5) = some (.agg ⟨jobC (J i)⟩)
theorem Jobs.ext {A A' : Hp} {n : Nat} {J : Nat → JobT} {sl : Value} (h : Jobs A n J sl) (he : Ext' A A') : Jobs A' n J sl := by
  obtain ⟨cells, h1, h2⟩ := h
  exact ⟨cells, he.rdS h1, h2⟩
theorem Jobs.len {A : Hp} {n : Nat} {J : Nat → JobT} {sl : Value} (h : Jobs A n J sl) : lenV sl = some (.int .i64 n) := by obtain ⟨_, h1, _⟩ := h; exact h1.len
theorem Jobs.at {A : Hp} {n i : Nat} {J : Nat → JobT} {sl : Value} (h : Jobs A n J sl) (hi : i < n) : ∃ x c ro cells, sl = .slice (some ⟨x, 0, some 5⟩) n c ∧ A.get x = some (.cells cells ro) ∧ ∀ j, j < n → partA cells (j * 5) (some 5) = some (.agg ⟨jobC (J j)⟩) := by
  obtain ⟨cells, h1, h2⟩ := h
  obtain ⟨x, c, ro, h3, h4⟩ := h1.at hi
  exact ⟨x, c, ro, cells, h3, h4, h2⟩
def Grow (N : Nat) (A : Hp) (n : Nat) (S : Nat → StepT) (sv : Value) : Prop := ∃ cells, AccS N A 7 cells sv ∧ cells.length = n * 7 ∧ ∀ j, j < n → SSep A cells sv j (S j)
theorem Grow.mono {N : Nat} {A A' : Hp} {n : Nat} {S : Nat → StepT} {sv : Value} (h : Grow N A n S sv) (he : Ext' A A') : Grow N A' n S sv := by
  obtain ⟨cells, h1, h2, h3⟩ := h
  refine ⟨cells, h1.mono he.2, h2, fun j hj => ?_⟩
  obtain ⟨a, p1, p2, p3⟩ := h3 j hj
  exact ⟨a, p1, he.rdS p2, p3⟩
def WSub (ws : List Int) (nw : Nat) (ws' : List Int) (nw' : Nat) : Prop := ∀ j, j < nw' → ∃ i, i < nw ∧ gi ws (i * 2) = gi ws' (j * 2) ∧ gi ws (i * 2 + 1) = gi ws' (j * 2 + 1)
theorem WSub.refl (ws : List Int) (nw : Nat) : WSub ws nw ws nw := fun j hj => ⟨j, hj, rfl, rfl⟩
structure HpS (N : Nat) (A : Hp) (sv : Value) (L : List (Int × Int)) : Prop where
  e : (sv = .slice none 0 0 ∧ L = []) ∨ ∃ b c cs, sv = .slice (some ⟨b, 0, some 2⟩) L.length c ∧ A.get b = some (.cells cs false) ∧ cs.length = c * 2 ∧ L.length ≤ c ∧ N ≤ b ∧ ∀ q, q < L.length → cs[q * 2]? = some (.int .i64 (L.getD q (0, 0)).1) ∧ cs[q * 2 + 1]? = some (.int .i64 (L.getD q (0, 0)).2)
theorem HpS.len {N : Nat} {A : Hp} {sv : Value} {L : List (Int × Int)} (h : HpS N A sv L) : lenV sv = some (.int .i64 L.length) := by
  rcases h.e with ⟨rfl, rfl⟩ | ⟨b, c, cs, rfl, _⟩ <;> rfl
theorem HpS.row {N : Nat} {A : Hp} {sv : Value} {L : List (Int × Int)} (h : HpS N A sv L) (h0 : 0 < L.length) : ∃ b c cs, sv = .slice (some ⟨b, 0, some 2⟩) L.length c ∧ A.get b = some (.cells cs false) ∧ cs.length = c * 2 ∧ L.length ≤ c ∧ N ≤ b ∧ ∀ q, q < L.length → cs[q * 2]? = some (.int .i64 (L.getD q (0, 0)).1) ∧ cs[q * 2 + 1]? = some (.int .i64 (L.getD q (0, 0)).2) := by
  rcases h.e with ⟨_, rfl⟩ | h
  · simp at h0
  · exact h
theorem HpS.keep {N : Nat} {A A' : Hp} {sv : Value} {L : List (Int × Int)} (h : HpS N A sv L) (hA : ∀ b, blkOf sv = some b → A'.get b = A.get b) : HpS N A' sv L := by
  rcases h.e with ⟨rfl, rfl⟩ | ⟨b, c, cs, rfl, h1, h2, h3, h4, h5⟩
  · exact ⟨.inl ⟨rfl, rfl⟩⟩
  · exact ⟨.inr ⟨b, c, cs, rfl, by rw [hA b rfl]; exact h1, h2, h3, h4, h5⟩⟩
theorem HpS.blk {N : Nat} {A : Hp} {sv : Value} {L : List (Int × Int)} (h : HpS N A sv L) {b : Nat} (hb : blkOf sv = some b) : N ≤ b ∧ b < A.n := by
  rcases h.e with ⟨rfl, rfl⟩ | ⟨b', c, cs, rfl, h1, _, _, h4, _⟩
  · cases hb
  · cases hb; exact ⟨h4, Hp.lt_of_get h1⟩
theorem HpS.add {N g : Nat} {A : Hp} {sv : Value} {L : List (Int × Int)} {x y : Int} {ro : Bool} (h : HpS N A sv L) (hg : g ≤ N) (hN : N ≤ A.n) (hr : L.length < 1000000000000) :
    ∃ sv' A', appendA g (A.push (.cells [.int .i64 x, .int .i64 y] ro)) 2 16 sv (.slice (some ⟨A.n, 0, some 2⟩) 1 1) = some (sv', A') ∧ HpS N A' sv' (L ++ [(x, y)]) ∧ (∀ z, z < A.n → blkOf sv ≠ some z → A'.get z = A.get z) ∧ A.n ≤ A'.n ∧ ∀ z, z < A.n → blkOf sv' = some z → blkOf sv = some z := by
  have hcells : cellsAt (A.push (.cells [.int .i64 x, .int .i64 y] ro)) (1 * 2) (.slice (some ⟨A.n, 0, some 2⟩) 1 1) = some [.int .i64 x, .int .i64 y] := by
    simp only [cellsAt, get_push_new]
    rfl
  have hlast : ∀ q, q < (L ++ [(x, y)]).length → (L ++ [(x, y)]).getD q (0, 0) = if q = L.length then (x, y) else L.getD q (0, 0) := fun q hq => by
    simp only [List.length_append, List.length_singleton] at hq
    rw [List.getD_eq_getElem?_getD, List.getD_eq_getElem?_getD]
    by_cases h1 : q = L.length
    · rw [if_pos h1, h1, List.getElem?_append_right (Nat.le_refl _)]; simp
    · rw [if_neg h1, List.getElem?_append_left (by omega)]
  rcases h.e with ⟨rfl, rfl⟩ | ⟨b, c, cs, rfl, hb, hc, hlc, hNb, hat⟩
  · refine ⟨.slice (some ⟨A.n + 1, 0, some 2⟩) 1 1, (A.push (.cells [.int .i64 x, .int .i64 y] ro)).push (.cells [.int .i64 x, .int .i64 y] false), ?_, ⟨.inr ⟨A.n + 1, 1, _, rfl, by rw [get_push_eq (by simp)], rfl, Nat.le_refl _, by omega, fun q hq => ?_⟩⟩, fun z hz _ => by rw [get_push_old (by simp; omega), get_push_old hz], by simp; omega, fun z hz h => by cases h; omega⟩
    · unfold appendA
      simp only [hcells]
      rfl
    · have : q = 0 := by simpa using hq
      subst this
      exact ⟨rfl, rfl⟩
  · have hbn := Hp.lt_of_get hb
    have hb1 : (A.push (.cells [.int .i64 x, .int .i64 y] ro)).get b = some (.cells cs false) := by rw [get_push_old hbn]; exact hb
    unfold appendA
    simp only [hcells]
    rw [if_pos ⟨rfl, by decide⟩, if_neg (by decide)]
    simp only [hb1]
    rw [if_pos ⟨by omega, by unfold room; omega, by unfold room; omega, trivial⟩]
    by_cases hfull : L.length = c
    · rw [if_pos (by omega)]
      refine ⟨_, _, rfl, ⟨.inr ⟨A.n + 1, L.length + 1, cs ++ [.int .i64 x, .int .i64 y], by simp, by rw [Hp.get_push, Hp.n_set, Hp.n_push, if_pos rfl]; simp, by simp [hc]; omega, by simp, by omega, fun q hq => ?_⟩⟩, fun z hz hzb => ?_, by simp; omega, fun z hz h => ?_⟩
      · rw [hlast q hq]
        simp only [List.length_append, List.length_singleton] at hq
        by_cases h1 : q = L.length
        · rw [if_pos h1, List.getElem?_append_right (by omega), List.getElem?_append_right (by omega), show q * 2 - cs.length = 0 by omega, show q * 2 + 1 - cs.length = 1 by omega]
          exact ⟨rfl, rfl⟩
        · rw [if_neg h1, List.getElem?_append_left (by omega), List.getElem?_append_left (by omega)]
          exact hat q (by omega)
      · have hzb' : z ≠ b := fun h => hzb (by rw [h]; rfl)
        rw [get_push_old (by simp; omega), get_set_ne (by simp; omega) hzb', get_push_old hz]
      · simp [blkOf] at h; omega
    · rw [if_neg (by omega), if_pos (by omega)]
      have hw : writeA g (A.push (.cells [.int .i64 x, .int .i64 y] ro)) b (0 + L.length * 2) [.int .i64 x, .int .i64 y] = some ((A.push (.cells [.int .i64 x, .int .i64 y] ro)).set b (some (.cells (setRange cs (L.length * 2) [.int .i64 x, .int .i64 y]) false))) := by
        unfold writeA
        rw [if_pos (by omega), hb1, Nat.zero_add]
        simp only
        rw [if_pos ⟨by simp; omega, rfl⟩]
      rw [hw]
      have hsl : (setRange cs (L.length * 2) [Value.int .i64 x, .int .i64 y]).length = cs.length := setRange_length (by simp; omega)
      refine ⟨_, _, rfl, ⟨.inr ⟨b, c, setRange cs (L.length * 2) [.int .i64 x, .int .i64 y], by simp, get_set_same hb1, by omega, by simp; omega, hNb, fun q hq => ?_⟩⟩, fun z hz hzb => ?_, by simp, fun z hz h => h⟩
      · rw [hlast q hq, setRange_get (by simp; omega), setRange_get (by simp; omega)]
        simp only [List.length_append, List.length_singleton] at hq
        simp only [List.length_cons, List.length_nil]
        by_cases h1 : q = L.length
        · rw [if_pos h1, if_pos (by omega), if_pos (by omega), show q * 2 - L.length * 2 = 0 by omega, show q * 2 + 1 - L.length * 2 = 1 by omega]
          exact ⟨rfl, rfl⟩
        · rw [if_neg h1, if_neg (by omega), if_neg (by omega)]
          exact hat q (by omega)
      · have hzb' : z ≠ b := fun h => hzb (by rw [h]; rfl)
        rw [get_set_ne (by simp; omega) hzb', get_push_old hz]
def bef275 : Value := .func (.func 275) ⟨[]⟩ ⟨[]⟩
structure HpA (N XH : Nat) (A : Hp) (L : List (Int × Int)) : Prop where
  e : ∃ sv, A.get XH = some (.cells [sv, bef275] false) ∧ HpS N A sv L
  lt : XH < N
def HeB (A : Hp) (XH z : Nat) : Prop := ∃ sv, A.get XH = some (.cells [sv, bef275] false) ∧ blkOf sv = some z
structure HUp (XH : Nat) (A A' : Hp) : Prop where
  n : A.n ≤ A'.n
  o : ∀ z, z < A.n → z ≠ XH → ¬ HeB A XH z → A'.get z = A.get z
  b : ∀ z, z < A.n → HeB A' XH z → HeB A XH z
theorem HUp.refl (XH : Nat) (A : Hp) : HUp XH A A := ⟨Nat.le_refl _, fun _ _ _ _ => rfl, fun _ _ h => h⟩
theorem HUp.trans {XH : Nat} {A A' A'' : Hp} (h : HUp XH A A') (h' : HUp XH A' A'') : HUp XH A A'' :=
  ⟨Nat.le_trans h.n h'.n, fun z hz hx hb => (h'.o z (Nat.lt_of_lt_of_le hz h.n) hx fun hb' => hb (h.b z hz hb')).trans (h.o z hz hx hb), fun z hz hb => h.b z hz (h'.b z (Nat.lt_of_lt_of_le hz h.n) hb)⟩
theorem HUp.of {XH : Nat} {A A' : Hp} (h : Ext' A A') (hX : XH < A.n) : HUp XH A A' :=
  ⟨h.1, fun z hz _ _ => h.2 z hz, fun z _ hb => by
    obtain ⟨sv, h1, h2⟩ := hb
    exact ⟨sv, by rw [← h.2 XH hX]; exact h1, h2⟩⟩
theorem HUp.same {XH b : Nat} {A A' : Hp} {sv sv' : Value} (hn : A.n ≤ A'.n) (hX : A.get XH = some (.cells [sv, bef275] false)) (hX' : A'.get XH = some (.cells [sv', bef275] false)) (hb : blkOf sv = some b) (hb' : blkOf sv' = some b) (ho : ∀ z, z < A.n → z ≠ XH → z ≠ b → A'.get z = A.get z) : HUp XH A A' := by
  refine ⟨hn, fun z hz hx hnb => ho z hz hx fun h => hnb ⟨sv, hX, by rw [h]; exact hb⟩, fun z hz hB => ?_⟩
  obtain ⟨sv2, h1, h2⟩ := hB
  rw [hX'] at h1
  cases h1
  exact ⟨sv, hX, by rw [hb, ← h2, hb']⟩
theorem HUp.new {XH Y : Nat} {A A' A'' : Hp} (h : HUp XH A A') (hY : A.n ≤ Y) (hX : Y ≠ XH) (hn : A'.n ≤ A''.n) (ho : ∀ z, z ≠ Y → A''.get z = A'.get z) : HUp XH A A'' :=
  ⟨Nat.le_trans h.n hn, fun z hz hx hb => (ho z (by omega)).trans (h.o z hz hx hb), fun z hz hB => by
    obtain ⟨sv, h1, h2⟩ := hB
    exact h.b z hz ⟨sv, by rw [← ho XH (Ne.symm hX)]; exact h1, h2⟩⟩
theorem HpA.ext {N XH : Nat} {A A' : Hp} {L : List (Int × Int)} (h : HpA N XH A L) (he : Ext' A A') : HpA N XH A' L := by
  obtain ⟨sv, h1, h2⟩ := h.e
  exact ⟨⟨sv, he.get h1, h2.keep fun b hb => he.2 b (h2.blk hb).2⟩, h.lt⟩
section
variable {g : Nat} {rd : Option Nat} {T : List Value} {D : List Nat} {A : Hp} {Q : Ex → St → Prop} {V : Value → Hp → Prop}
end
section
variable {g : Nat} {rd : Option Nat} {T : List Value} {D : List Nat} {A : Hp} {Q : Ex → St → Prop} {V : Value → Hp → Prop}
end
section
variable {g : Nat} {rd : Option Nat} {T : List Value} {D : List Nat} {A : Hp} {Q : Ex → St → Prop} {V : Value → Hp → Prop}
end
theorem _root_.Go.Ab.AccS.row {N n k : Nat} {A : Hp} {cs : List Value} {sv : Value} (h : AccS N A k cs sv) (hl : cs.length = n * k) (hn : 0 < n) (hk : 0 < k) : ∃ X, sv = .slice (some ⟨X, 0, some k⟩) n n ∧ A.get X = some (.cells cs false) ∧ N ≤ X := by
  rcases h with ⟨_, rfl⟩ | ⟨b, m, rfl, hb, hN, hm, _⟩
  · have := Nat.mul_pos hn hk
    simp at hl; omega
  · have : m = n := Nat.eq_of_mul_eq_mul_right hk (hm.symm.trans hl)
    subst this
    exact ⟨b, rfl, hb, hN⟩
def tset1 (S : Nat → StepT) (i : Nat) (v w : Int) (j : Nat) : StepT := if j = i then { S j with tl := v, th := w } else S j
theorem Grow.row {N n i : Nat} {A : Hp} {S : Nat → StepT} {sv : Value} (h : Grow N A n S sv) (hi : i < n) : ∃ X cells, sv = .slice (some ⟨X, 0, some 7⟩) n n ∧ A.get X = some (.cells cells false) ∧ N ≤ X ∧ cells.length = n * 7 ∧ cellAt cells (i * 7 + 2) = some (.int .i64 (S i).tl) ∧ cellAt cells (i * 7 + 3) = some (.int .i64 (S i).th) ∧
    ∀ (v w : Int) (A' : Hp), A'.get X = some (.cells (setRange (setRange cells (i * 7 + 2) [.int .i64 v]) (i * 7 + 3) [.int .i64 w]) false) → (∀ z, z < A.n → z ≠ X → A'.get z = A.get z) → Grow N A' n (tset1 S i v w) sv := by
  obtain ⟨cells, h1, h2, h3⟩ := h
  obtain ⟨X, rfl, hX, hN⟩ := h1.row h2 (by omega) (by decide)
  obtain ⟨ai, q1, _, _⟩ := h3 i hi
  refine ⟨X, cells, rfl, hX, hN, h2, q1 2 _ rfl, q1 3 _ rfl, fun v w A' hX' ho => ?_⟩
  have l1 : (setRange cells (i * 7 + 2) [.int .i64 v]).length = cells.length := setRange_length (by simp; omega)
  have l2 : (setRange (setRange cells (i * 7 + 2) [.int .i64 v]) (i * 7 + 3) [.int .i64 w]).length = cells.length := (setRange_length (by simp; omega)).trans l1
  have hat : ∀ q, (setRange (setRange cells (i * 7 + 2) [.int .i64 v]) (i * 7 + 3) [.int .i64 w])[q]? = if q = i * 7 + 3 then some (.int .i64 w) else if q = i * 7 + 2 then some (.int .i64 v) else cells[q]? := fun q => by
    rw [setRange_get (by simp; omega), setRange_get (by simp; omega)]
    simp only [List.length_singleton]
    by_cases c1 : q = i * 7 + 3
    · rw [if_pos (by omega), if_pos c1, show q - (i * 7 + 3) = 0 by omega]; rfl
    · rw [if_neg (by omega), if_neg c1]
      by_cases c2 : q = i * 7 + 2
      · rw [if_pos (by omega), if_pos c2, show q - (i * 7 + 2) = 0 by omega]; rfl
      · rw [if_neg (by omega), if_neg c2]
  refine ⟨_, .inr ⟨X, n, rfl, hX', hN, by omega, by omega⟩, by omega, fun j hj => ?_⟩
  obtain ⟨a, p1, p2, p3⟩ := h3 j hj
  have hr : ∀ z, blkOf a = some z → A'.get z = A.get z := fun z hz => ho z (p2.blk_lt hz) (fun h => p3 z hz (by rw [h]; rfl))
  by_cases hji : j = i
  · subst hji
    refine (show SSep _ _ _ j (tset1 S j v w j) from ⟨a, fun o x hx => ?_, ?_, p3⟩)
    · rw [hat]
      rw [tset1, if_pos rfl] at hx
      match o with
      | 0 => rw [if_neg (by omega), if_neg (by omega)]; exact p1 0 _ hx
      | 1 => rw [if_neg (by omega), if_neg (by omega)]; exact p1 1 _ hx
      | 2 => rw [if_neg (by omega), if_pos (by omega)]; exact hx
      | 3 => rw [if_pos (by omega)]; exact hx
      | 4 => rw [if_neg (by omega), if_neg (by omega)]; exact p1 4 _ hx
      | 5 => rw [if_neg (by omega), if_neg (by omega)]; exact p1 5 _ hx
      | 6 => rw [if_neg (by omega), if_neg (by omega)]; exact p1 6 _ hx
      | o + 7 => cases hx
    · rw [tset1, if_pos rfl]
      exact p2.keepB hr
  · refine (show SSep _ _ _ j (tset1 S i v w j) from ?_)
    rw [tset1, if_neg hji]
    refine ⟨a, fun o x hx => ?_, p2.keepB hr, p3⟩
    have := p1 o x hx
    have ho7 : o < 7 := by
      have := (List.getElem?_eq_some_iff.1 hx).1
      simpa [stepC] using this
    rw [hat, if_neg (by omega), if_neg (by omega)]; exact this
theorem Grow.same {N n : Nat} {A : Hp} {S S' : Nat → StepT} {sv : Value} (h : Grow N A n S sv) (hs : ∀ j, j < n → S j = S' j) : Grow N A n S' sv := by
  obtain ⟨cells, h1, h2, h3⟩ := h
  exact ⟨cells, h1, h2, fun j hj => hs j hj ▸ h3 j hj⟩
def rowS1 (r n : Nat) : Value := .slice (some ⟨r, 0, some 1⟩) n n
def rep (n : Nat) (v : Int) (i : Nat) : List Int := List.replicate i v ++ List.replicate (n - i) 0
section
variable {g : Nat} {A : Hp} {V : Value → Hp → Prop}
theorem zeros_ints {n : Nat} : zeros n [.int .i64 0] = ints (List.replicate n 0) := by
  unfold zeros ints
  apply List.ext_getElem (by simp)
  intro i h1 h2
  simp [Nat.mod_one]
theorem makeS_ok {n : Nat} (hn : n < 1000000) : makeSA 1 8 [.int .i64 0] (.int .i64 n) (.int .i64 n) A = some (rowS1 A.n n, A.push (.cells (ints (List.replicate n 0)) false)) := by
  unfold makeSA
  simp only
  rw [if_pos ⟨by omega, by omega, by unfold room; omega, by unfold room; omega⟩, zeros_ints]
  rfl
end
def dirI : List Int := [1, 0, 0, 1, -1, 0, 0, -1]
section
variable {g : Nat} {rd : Option Nat} {T : List Value} {D : List Nat} {A : Hp} {Q : Ex → St → Prop} {V : Value → Hp → Prop}
end
theorem gridE_parts {w h s : Int} {m : Nat} {zs : List Int} (h0 : gridE w h s m zs = 0) : (1 ≤ w ∧ w ≤ 24) ∧ (1 ≤ h ∧ h ≤ 24) ∧ (m : Int) = w * h ∧ ∀ i, i < m → -1200000 ≤ gi zs (i * 2) ∧ gi zs (i * 2) ≤ gi zs (i * 2 + 1) ∧ gi zs (i * 2 + 1) ≤ 1200000 := by
  unfold gridE at h0
  split at h0
  · cases h0
  · rename_i h1
    split at h0
    · cases h0
    · rename_i h2
      split at h0
      · cases h0
      · rename_i h3
        simp only [not_or, Bool.not_eq_false, Bool.and_eq_true, decide_eq_true_eq] at h1
        simp only [Decidable.not_not] at h2
        have m1 : w * h ≤ 24 * 24 := Int.mul_le_mul (by omega) (by omega) (by omega) (by omega)
        have m2 : 0 ≤ w * h := Int.mul_nonneg (by omega) (by omega)
        rw [wrId (by omega) (by omega)] at h2
        refine ⟨by omega, by omega, h2, fun i hi => ?_⟩
        rw [List.any_eq_true] at h3
        have hgr : grd zs i = true := by
          cases hgr : grd zs i
          · exact absurd ⟨i, by simpa using hi, by rw [hgr]; rfl⟩ h3
          · rfl
        simp only [grd, validB, Bool.and_eq_true, decide_eq_true_eq] at hgr
        omega
end Go.Ab.Grid
set_option maxRecDepth 100000
namespace Go.Ab.Grid
open Go Go.Ab
def ptrV (x : Nat) : Value := .pointer (some ⟨x, 0, none⟩)
section
variable {g : Nat} {A : Hp} {V : Value → Hp → Prop}
structure N73 (g : Nat) (A0 : Hp) (w h c : Int) (b : Nat) (N : Nat) (l : List Int) (T : List Value) (A : Hp) : Prop where
  acc : ∃ sv, tget T 5 = sv ∧ AccS N A 1 (ints l) sv
  old : ∀ x, x < N → A.get x = A0.get x
  n : N ≤ A.n
  t1 : tget T 1 = .int .i64 c
  t2 : tget T 2 = ptrV b
  t6 : tget T 6 = .int .i64 (c.tmod w)
  t7 : tget T 7 = .int .i64 (c.tdiv w)
  len : l.length < 10
theorem N73.add {A0 : Hp} {w h c : Int} {b N : Nat} {l : List Int} {T : List Value} (hN : N73 g A0 w h c b N l T A) (hg : g ≤ N) (z : Int) :
    ∃ sv sv' A', tget T 5 = sv ∧ appendA g (A.push (.cells [.int .i64 z] false)) 1 8 sv (.slice (some ⟨A.n, 0, some 1⟩) 1 1) = some (sv', A') ∧ AccS N A' 1 (ints (l ++ [z])) sv' ∧ (∀ x, x < N → A'.get x = A0.get x) ∧ N ≤ A'.n := by
  obtain ⟨sv, h5, hacc⟩ := hN.acc
  have hl := hN.len
  obtain ⟨sv', A', e, h1, h2, h3⟩ := hacc.add (g := g) (bytes := 8) (new := [.int .i64 z]) (ro := false) (n := l.length) hg hN.n rfl (by decide) rfl (by simp) (by unfold room; omega)
  refine ⟨sv, sv', A', h5, e, ?_, fun x hx => by rw [h2 x hx, hN.old x hx], by have := hN.n; omega⟩
  rw [ints_append]; exact h1
end
end Go.Ab.Grid
set_option maxRecDepth 100000
namespace Go.Ab.Grid
open Go Go.Ab
def asg113 : ACode := (.ops [oM 5 7])
def body113 : ACode := (.block 1
 (.ops [
oL 8 2,
oM 9 5,
oP 10 (.slit 1 1 [.int .i64 0] [(0, .t 9)]),
oP 11 (.append (.t 8) (.t 10) 1 8),
oT 2 11 1]))
structure NbP (A0 : Hp) (T1 : List Value) (done : List Int) (A : Hp) : Prop where
  e : Ext' A0 A
  n : A0.n + 4 ≤ A.n
  m : A.get (A0.n + 1) = some .marks
  l : A.get (A0.n + 2) = some (recL T1 [7] asg113 body113)
  r : A.get (A0.n + 3) = some (.cells (ints dirI) false)
  s : ∃ sv, A.get A0.n = some (.cells [sv] false) ∧ AccS (A0.n + 4) A 1 (ints done) sv
theorem NbP.push {A0 A : Hp} {T1 : List Value} {done : List Int} (h : NbP A0 T1 done A) (b : ABlk) : NbP A0 T1 done (A.push b) := by
  obtain ⟨e, n, m, l, r, sv, s1, s2⟩ := h
  have k := Ext'.push A b
  exact ⟨e.trans k, by simp; omega, k.get m, k.get l, k.get r, sv, k.get s1, s2.mono k.2⟩
section
variable {g : Nat} {rd : Option Nat} {T : List Value} {D : List Nat} {A : Hp} {Q : Ex → St → Prop} {V : Value → Hp → Prop}
end
end Go.Ab.Grid
set_option maxRecDepth 100000
namespace Go.Ab.Grid
open Go Go.Ab
theorem _root_.Go.Ab.AccS.rdS {N : Nat} {A : Hp} {k : Nat} {cs : List Value} {sv : Value} (h : AccS N A k cs sv) : ∃ n, RdS A k n cs sv := by
  rcases h with ⟨rfl, rfl⟩ | ⟨b, n, rfl, h2, _, h4, _⟩
  · exact ⟨0, by simp, .inl ⟨rfl, rfl⟩⟩
  · exact ⟨n, h4, .inr ⟨b, n, false, rfl, h2⟩⟩
theorem list_gi {a b : List Int} (h : a.length = b.length) (hx : ∀ i, i < a.length → gi a i = gi b i) : a = b := by
  apply List.ext_getElem h
  intro i h1 h2
  have := hx i h1
  simpa [gi, List.getD, h1, h2] using this
section
variable {g : Nat} {rd : Option Nat} {T : List Value} {D : List Nat} {A : Hp} {Q : Ex → St → Prop} {V : Value → Hp → Prop}
end
end Go.Ab.Grid
set_option maxRecDepth 100000
namespace Go.Ab.Grid
open Go Go.Ab
structure G where
  w : Int
  h : Int
  s : Int
  m : Nat
  zs : List Int
def G0 : G := ⟨0, 0, 0, 0, []⟩
def G.E (x : G) : Int := gridE x.w x.h x.s x.m x.zs
def GAt (A : Hp) (x : G) (v : Value) : Prop := ∃ sl, v = gridV x.w x.h x.s sl ∧ RdS A 2 x.m (ints x.zs) sl
theorem GAt.mono {A A' : Hp} {x : G} {v : Value} (h : GAt A x v) (e : Ext' A A') : GAt A' x v := by
  obtain ⟨sl, h1, h2⟩ := h; exact ⟨sl, h1, e.rdS h2⟩
theorem GAt.zero {A : Hp} : GAt A G0 (gridV 0 0 0 (.slice none 0 0)) := ⟨_, rfl, by simp [G0, ints], .inl ⟨rfl, rfl⟩⟩
theorem eqv2 {a b a' b' : Int} : eqvA true [false, false] (.agg ⟨[.int .i64 a, .int .i64 b]⟩) (.agg ⟨[.int .i64 a', .int .i64 b']⟩) = some (.bool (!(decide (a = a') && decide (b = b')))) := by
  simp [eqvA, eqCells, cellEq, kEq]
  rfl
section
variable {g : Nat} {rd : Option Nat} {T : List Value} {D : List Nat} {A : Hp} {Q : Ex → St → Prop} {V : Value → Hp → Prop}
theorem loop294 {n : Nat} {a b : List Int} {x y : Value} (ha : RdS A 2 n (ints a) x) (hb : RdS A 2 n (ints b) y) (hn : n < 1000000)
    (hQ : ∀ T', a = b → Q (.exit 0) ⟨T', D, A⟩) (hR : ∀ T', a ≠ b → tget T' 4 = .bool false → Q .ret ⟨T', D, A⟩) :
    ∀ (k i : Nat) {T : List Value}, i + k = n → (∀ j, j < i * 2 → gi a j = gi b j) → tget T 0 = x → tget T 1 = y → tget T 5 = .int .i64 i → W AP KL g rd (.loop body294) ⟨T, D, A⟩ Q := by
  intro k
  have la : a.length = n * 2 := by have := ha.1; simpa using this
  have lb : b.length = n * 2 := by have := hb.1; simpa using this
  have hl := ha.len
  induction k with
  | zero =>
    intro i T hi hp t0 t1 t5
    rw [W_loop]
    simp (disch := as_aux_lemma => first | omega | simp only [hDs] <;> omega | simp [isCell]) [hRs, takeMarks, resA, resAll, resOne, Value.cells, body294, t0, t1, t5, hl, show ¬ ((i : Int) < n) by omega]
    exact hQ _ (list_gi (by omega) fun j hj => hp j (by omega))
  | succ k ih =>
    intro i T hi hp t0 t1 t5
    have e5 : wr .i64 ((i : Int) + 1) = ((i + 1 : Nat) : Int) := by rw [wrId (by omega) (by omega)]; simp
    obtain ⟨xb, xc, xr, rfl, hxb⟩ := ha.at (show i < n by omega)
    obtain ⟨yb, yc, yr, rfl, hyb⟩ := hb.at (show i < n by omega)
    rw [W_loop]
    by_cases he : gi a (i * 2) = gi b (i * 2) ∧ gi a (i * 2 + 1) = gi b (i * 2 + 1)
    · simp (disch := as_aux_lemma => first | omega | simp only [hDs] <;> omega | simp [isCell]) [hRs, takeMarks, resA, resAll, resOne, Value.cells, body294, t0, t1, t5, hl, show ((i : Int) < n) by omega, show i < n by omega, idxSA_ok, hxb, hyb, ints_two, la, lb, he.1, he.2, e5, eqv2]
      refine ih (i + 1) (by omega) (fun j hj => ?_) ?_ ?_ ?_
      · by_cases h : j = i * 2
        · rw [h]; exact he.1
        · by_cases h' : j = i * 2 + 1
          · rw [h']; exact he.2
          · exact hp j (by omega)
      all_goals simp [t0, t1]
    · have hne : a ≠ b := fun h => he (by rw [h]; exact ⟨rfl, rfl⟩)
      have hd : (decide (gi a (i * 2) = gi b (i * 2)) && decide (gi a (i * 2 + 1) = gi b (i * 2 + 1))) = false := by simpa using he
      have hd' : (!decide (gi a (i * 2) = gi b (i * 2)) || !decide (gi a (i * 2 + 1) = gi b (i * 2 + 1))) = true := by rw [← Bool.not_and, hd]; rfl
      simp (disch := as_aux_lemma => first | omega | simp only [hDs] <;> omega | simp [isCell]) [hRs, takeMarks, resA, resAll, resOne, Value.cells, body294, t0, t1, t5, hl, show ((i : Int) < n) by omega, show i < n by omega, idxSA_ok, hxb, hyb, ints_two, la, lb, hd, hd', e5, eqv2]
      exact hR _ hne (by simp)
theorem w294 {na nb : Nat} {a b : List Int} {x y : Value} (ha : RdS A 2 na (ints a) x) (hb : RdS A 2 nb (ints b) y) (hn : na < 1000000) (hV : V (.bool (decide (a = b))) A) : WF AP KL g 294 [x, y] A V := by
  rw [WF_body (show KL 294 = none from rfl) (show AP 294 = some F294 from rfl)]
  have la : a.length = na * 2 := by have := ha.1; simpa using this
  have lb : b.length = nb * 2 := by have := hb.1; simpa using this
  have h1 := ha.len
  have h2 := hb.len
  by_cases he : na = nb
  · subst he
    simp (disch := as_aux_lemma => first | omega | simp only [hDs] <;> omega | simp [isCell]) [hRs, takeMarks, resA, resAll, resOne, Value.cells, F294, h1, h2]
    refine loop294 ha hb hn (fun T' he' => ?_) (fun T' he' t4 => ?_) na 0 (by omega) (fun j hj => by omega) ?_ ?_ ?_
    · simp (disch := as_aux_lemma => first | omega | simp only [hDs] <;> omega | simp [isCell]) [hRs, takeMarks, resA, resAll, resOne, Value.cells, he']
      simpa [he'] using hV
    · simp (disch := as_aux_lemma => first | omega | simp only [hDs] <;> omega | simp [isCell]) [hRs, takeMarks, resA, resAll, resOne, Value.cells, t4]
      simpa [he'] using hV
    all_goals simp
  · simp (disch := as_aux_lemma => first | omega | simp only [hDs] <;> omega | simp [isCell]) [hRs, takeMarks, resA, resAll, resOne, Value.cells, F294, h1, h2, show ¬ ((na : Int) = nb) by omega]
    have : a ≠ b := fun h => he (by rw [h] at la; omega)
    simpa [this] using hV
theorem w301 {x y : G} {vx vy : Value} (hx : GAt A x vx) (hy : GAt A y vy) (hn : x.m < 1000000) (he : x = y) (hV : ∀ A', Ext' A A' → V (.bool true) A') : WF AP KL g 301 [vx, vy] A V := by
  subst he
  obtain ⟨sx, rfl, rx⟩ := hx
  obtain ⟨sy, rfl, ry⟩ := hy
  rw [WF_body (show KL 301 = none from rfl) (show AP 301 = some F301 from rfl)]
  have e1 : Ext' A ((A.push (.cells [.int .i64 x.w, .int .i64 x.h, .int .i64 x.s, sx] false)).push (.cells [.int .i64 x.w, .int .i64 x.h, .int .i64 x.s, sy] false)) := (Ext'.push _ _).trans (Ext'.push _ _)
  simp (disch := as_aux_lemma => first | omega | simp only [hDs] <;> omega | simp [isCell]) [hRs, takeMarks, resA, resAll, resOne, Value.cells, F301, gridV]
  refine w294 (e1.rdS rx) (e1.rdS ry) hn ?_
  simp (disch := as_aux_lemma => first | omega | simp only [hDs] <;> omega | simp [isCell]) [hRs, takeMarks, resA, resAll, resOne, Value.cells]
  exact hV _ e1
end
end Go.Ab.Grid
set_option maxRecDepth 100000
namespace Go.Ab.Grid
open Go Go.Ab
def GV3 (A : Hp) (r : G × Int × Int) (v : Value) : Prop := ∃ vg, v = .tuple ⟨[vg, .int .i64 r.2.1, .int .i64 r.2.2]⟩ ∧ GAt A r.1 vg
theorem _root_.Go.Ab.RdS.isSlice' {A : Hp} {k n : Nat} {cs : List Value} {sv : Value} (h : RdS A k n cs sv) : ∃ p c, sv = .slice p n c := by
  rcases h with ⟨_, ⟨rfl, rfl⟩ | ⟨_, _, _, rfl, _⟩⟩ <;> exact ⟨_, _, rfl⟩
abbrev zeroG : ABlk := .cells [.int .i64 0, .int .i64 0, .int .i64 0, .slice none 0 0] false
section
variable {g : Nat} {rd : Option Nat} {T : List Value} {D : List Nat} {A : Hp} {Q : Ex → St → Prop} {V : Value → Hp → Prop}
theorem GAt.tuple {A : Hp} {x : G} {vg : Value} {i e : Int} (h : GAt A x vg) : GV3 A (x, i, e) (.tuple ⟨[vg, .int .i64 i, .int .i64 e]⟩) := ⟨vg, rfl, h⟩
end
end Go.Ab.Grid
set_option maxRecDepth 100000
namespace Go.Ab.Grid
open Go Go.Ab
def wordL (a b : Int) : List UInt8 := if a = b then itoaA a else itoaA a ++ [46, 46] ++ itoaA b
def lineL (ws : List (List UInt8)) : List UInt8 := Lib.join ws [32] ++ [10]
theorem decA_len : ∀ (f u : Nat) (acc : List UInt8), (decA f u acc).length ≤ acc.length + f
  | 0, _, _ => by simp [decA]
  | f + 1, u, acc => by
    unfold decA
    split
    · simp
    · have := decA_len f (u / 10) (UInt8.ofNat (48 + u % 10) :: acc)
      simp at this ⊢
      omega
theorem itoaA_len (n : Int) : (itoaA n).length ≤ 21 := by
  unfold itoaA
  split
  · rename_i m
    have := decA_len 20 m []
    simp at this ⊢
    omega
  · rename_i m
    have := decA_len 20 (m + 1) []
    simp at this ⊢
    omega
theorem wordL_len (a b : Int) : (wordL a b).length ≤ 44 := by
  have h1 := itoaA_len a
  have h2 := itoaA_len b
  unfold wordL
  split
  · omega
  · simp; omega
theorem joinTail_bound {sep : List UInt8} {k : Nat} : ∀ {ws : List (List UInt8)}, (∀ w, w ∈ ws → w.length ≤ k) → (Lib.joinTail sep ws).length ≤ ws.length * (sep.length + k)
  | [], _ => by simp [Lib.joinTail]
  | x :: l, h => by
    have ih := joinTail_bound (sep := sep) (k := k) (ws := l) fun w hw => h w (List.mem_cons_of_mem _ hw)
    have hx := h x (List.mem_cons_self ..)
    rw [Lib.joinTail_length] at ih ⊢
    simp only [Lib.lens, List.map_cons, List.sum_cons, List.length_cons, Nat.mul_add, Nat.add_mul] at ih ⊢
    omega
def BldS (A : Hp) (X : Nat) (l : List UInt8) : Prop := ∃ p v, A.get X = some (.bld p v) ∧ selfB X p = true ∧ ((v = .slice none 0 0 ∧ l = []) ∨ ∃ y c, v = .slice (some ⟨y, 0, some 1⟩) l.length c ∧ A.get y = some (.bytes l) ∧ X < y ∧ 0 < l.length)
theorem BldS.ext {A A' : Hp} {X : Nat} {l : List UInt8} (h : BldS A X l) (e : Ext' A A') : BldS A' X l := by
  obtain ⟨p, v, h1, h2, h3 | ⟨y, c, h3, h4, h5⟩⟩ := h
  · exact ⟨p, v, e.get h1, h2, .inl h3⟩
  · exact ⟨p, v, e.get h1, h2, .inr ⟨y, c, h3, e.get h4, h5⟩⟩
theorem BldS.write {g X : Nat} {A : Hp} {l u : List UInt8} (h : BldS A X l) (hg : g ≤ X) (hu : 0 < u.length) (hr : l.length + u.length ≤ room) :
    ∃ v A', S336 g [.pointer (some ⟨X, 0, none⟩), strV u] A = some (v, A') ∧ BldS A' X (l ++ u) ∧ A.n ≤ A'.n ∧ ∀ z, z < X → A'.get z = A.get z := by
  obtain ⟨p, v, h1, h2, h3⟩ := h
  have hXn := Hp.lt_of_get h1
  obtain ⟨A1, hA1⟩ : ∃ A1, A1 = A.set X (some (.bld (.pointer (some ⟨X, 0, none⟩)) v)) := ⟨_, rfl⟩
  have n1 : A1.n = A.n := by rw [hA1]; simp
  have gX : A1.get X = some (.bld (.pointer (some ⟨X, 0, none⟩)) v) := by rw [hA1, get_set_same h1]
  have gz : ∀ z, z ≠ X → A1.get z = A.get z := fun z hz => by rw [hA1, get_set_ne hXn hz]
  have hus : (⟨⟨u⟩⟩ : ByteArray).size = u.length := rfl
  have hself : selfB X (.pointer (some ⟨X, 0, none⟩)) = true := by simp [selfB]
  rcases h3 with ⟨rfl, rfl⟩ | ⟨y, c, rfl, hy, hXy, hl0⟩
  · have happ : appendTA g A1 (.slice none 0 0) (strV u) = some (.slice (some ⟨A1.n, 0, some 1⟩) u.length u.length, A1.push (.bytes u)) := by
      unfold appendTA
      simp only [hus]
      rw [if_neg (by omega), if_pos (by simp at hr; omega)]
    have gX' : (A1.push (.bytes u)).get X = some (.bld (.pointer (some ⟨X, 0, none⟩)) (.slice none 0 0)) := by rw [get_push_old (by omega)]; exact gX
    refine ⟨.tuple ⟨[.int .i64 (⟨⟨u⟩⟩ : ByteArray).size, .nilIface]⟩, (A1.push (.bytes u)).set X (some (.bld (.pointer (some ⟨X, 0, none⟩)) (.slice (some ⟨A1.n, 0, some 1⟩) u.length u.length))), ?_, ⟨_, _, get_set_same gX', hself, .inr ⟨A1.n, u.length, by simp, ?_, by omega, by simpa using hu⟩⟩, by simp [n1], fun z hz => ?_⟩
    · unfold S336
      simp only [h1]
      rw [if_pos ⟨hg, h2⟩, ← hA1, happ]
    · rw [get_set_ne (by simp; omega) (by omega), get_push_new]; simp
    · rw [get_set_ne (by simp; omega) (by omega), get_push_old (by omega), gz z (by omega)]
  · have hyn := Hp.lt_of_get hy
    have hy1 : A1.get y = some (.bytes l) := by rw [gz y (by omega)]; exact hy
    have happ : appendTA g A1 (.slice (some ⟨y, 0, some 1⟩) l.length c) (strV u) = some (.slice (some ⟨A1.n, 0, some 1⟩) (l.length + u.length) (l.length + u.length), (A1.set y none).push (.bytes (l ++ u))) := by
      unfold appendTA
      simp only [hy1, hus]
      rw [if_pos ⟨by omega, by omega, trivial⟩, if_neg (by omega)]
    have gX' : ((A1.set y none).push (.bytes (l ++ u))).get X = some (.bld (.pointer (some ⟨X, 0, none⟩)) (.slice (some ⟨y, 0, some 1⟩) l.length c)) := by rw [get_push_old (by simp; omega), get_set_ne (by omega) (by omega)]; exact gX
    refine ⟨.tuple ⟨[.int .i64 (⟨⟨u⟩⟩ : ByteArray).size, .nilIface]⟩, ((A1.set y none).push (.bytes (l ++ u))).set X (some (.bld (.pointer (some ⟨X, 0, none⟩)) (.slice (some ⟨A1.n, 0, some 1⟩) (l.length + u.length) (l.length + u.length)))), ?_, ⟨_, _, get_set_same gX', hself, .inr ⟨A1.n, l.length + u.length, by simp, ?_, by omega, by simp; omega⟩⟩, by simp [n1], fun z hz => ?_⟩
    · unfold S336
      simp only [h1]
      rw [if_pos ⟨hg, h2⟩, ← hA1, happ]
    · rw [get_set_ne (by simp; omega) (by omega), show A1.n = (A1.set y none).n by simp, get_push_new]
    · rw [get_set_ne (by simp; omega) (by omega), get_push_old (by simp; omega), get_set_ne (by omega) (by omega), gz z (by omega)]
section
variable {g : Nat} {rd : Option Nat} {T : List Value} {D : List Nat} {A : Hp} {Q : Ex → St → Prop} {V : Value → Hp → Prop}
theorem strAdd {x y : List UInt8} (h : x.length + y.length ≤ 9000000000) : strOpA .add (strV x) (strV y) = some (strV (x ++ y)) := by
  have e : (⟨⟨x⟩⟩ ++ ⟨⟨y⟩⟩ : ByteArray) = ⟨⟨x ++ y⟩⟩ := by
    apply ByteArray.ext
    simp
  show strA .add ⟨⟨x⟩⟩ ⟨⟨y⟩⟩ = _
  unfold strA
  simp only
  rw [if_neg (by show ¬ ((x.length + y.length : Nat) : Int) > 9223372036854775807; omega), e]
theorem w338 {n : Int} (h : -9223372036854775808 ≤ n ∧ n ≤ 9223372036854775807) (hV : V (strV (itoaA n)) A) : WF AP KL g 338 [.int .i64 n] A V := by
  rw [WF_spec (show KL 338 = some S338 from rfl)]
  unfold S338
  simp only
  rw [if_pos h]
  exact hV
theorem w339 {a b : Int} (ha : -1200000 ≤ a ∧ a ≤ 1200000) (hb : -1200000 ≤ b ∧ b ≤ 1200000) (hV : ∀ A', Ext' A A' → V (strV (wordL a b)) A') : WF AP KL g 339 [.agg ⟨[.int .i64 a, .int .i64 b]⟩] A V := by
  rw [WF_body (show KL 339 = none from rfl) (show AP 339 = some F339 from rfl)]
  by_cases h : a = b
  · simp (disch := as_aux_lemma => first | omega | simp only [hDs] <;> omega | simp [isCell]) [hRs, takeMarks, resA, resAll, resOne, Value.cells, F339, h]
    refine w338 (by omega) ?_
    simp (disch := as_aux_lemma => first | omega | simp only [hDs] <;> omega | simp [isCell]) [hRs, takeMarks, resA, resAll, resOne, Value.cells]
    have := hV _ (Ext'.push A (.cells [.int .i64 a, .int .i64 b] false))
    rw [wordL, if_pos h, h] at this
    exact this
  · have l1 := itoaA_len a
    have l2 := itoaA_len b
    simp (disch := as_aux_lemma => first | omega | simp only [hDs] <;> omega | simp [isCell]) [hRs, takeMarks, resA, resAll, resOne, Value.cells, F339, h]
    refine w338 (n := a) (by omega) ?_
    simp (disch := as_aux_lemma => first | omega | simp only [hDs] <;> omega | simp [isCell]) [hRs, takeMarks, resA, resAll, resOne, Value.cells, strAdd (x := itoaA a) (y := [46, 46]) (by simp; omega)]
    refine w338 (n := b) (by omega) ?_
    simp (disch := as_aux_lemma => first | omega | simp only [hDs] <;> omega | simp [isCell]) [hRs, takeMarks, resA, resAll, resOne, Value.cells, strAdd (x := itoaA a ++ [46, 46]) (y := itoaA b) (by simp; omega)]
    have := hV _ (Ext'.push A (.cells [.int .i64 a, .int .i64 b] false))
    rw [wordL, if_neg h, List.append_assoc] at this
    exact this
theorem cellsAt_rd {n : Nat} {cs : List Value} {sl : Value} (h : RdS A 1 n cs sl) : ∃ p c, sl = .slice p n c ∧ cellsAt A n sl = some cs := by
  obtain ⟨h0, ⟨rfl, rfl⟩ | ⟨b, c, ro, rfl, hb⟩⟩ := h
  · have : cs = [] := List.eq_nil_of_length_eq_zero (by simpa using h0)
    subst this
    exact ⟨_, _, rfl, rfl⟩
  · refine ⟨_, _, rfl, ?_⟩
    simp only [cellsAt, hb]
    rw [if_pos (by simp at h0; omega)]
    simp at h0
    simp [← h0]
theorem strsOf_map : ∀ (ws : List (List UInt8)), strsOf (ws.map strV) = some ws
  | [] => rfl
  | w :: l => by
    rw [List.map_cons, strsOf, strsOf_map l]
    rfl
theorem w335 {X n : Nat} {ws : List (List UInt8)} {sl : Value} {l : List UInt8} (hsl : RdS A 1 n (ws.map strV) sl) (hB : BldS A X l) (hg : g ≤ X) (hr : n ≤ 1000 ∧ (Lib.join ws [32]).length ≤ 1000000 ∧ l.length ≤ 1000000)
    (hV : ∀ v A', BldS A' X (l ++ lineL ws) → A.n ≤ A'.n → (∀ z, z < X → A'.get z = A.get z) → V v A') : WF AP KL g 335 [sl, .pointer (some ⟨X, 0, none⟩)] A V := by
  rw [WF_body (show KL 335 = none from rfl) (show AP 335 = some F335 from rfl)]
  obtain ⟨p, c, rfl, hc⟩ := cellsAt_rd hsl
  have hS : S337 g [.slice p n c, strV [32]] A = some (strV (Lib.join ws [32]), A) := by
    unfold S337
    simp only [hc, strsOf_map]
    rw [if_pos ⟨by unfold room; omega, by show (Lib.join ws [32]).length ≤ room; unfold room; omega⟩]
  obtain ⟨v, A', h1, h2, h3, h4⟩ := hB.write (g := g) (u := lineL ws) hg (by unfold lineL; simp) (by unfold lineL room; simp; omega)
  simp (disch := as_aux_lemma => first | omega | simp only [hDs] <;> omega | simp [isCell]) [hRs, takeMarks, resA, resAll, resOne, Value.cells, F335, WF_spec (show KL 337 = some S337 from rfl), hS, strAdd (x := Lib.join ws [32]) (y := [10]) (by simp; omega), WF_spec (show KL 336 = some S336 from rfl), show S336 g [.pointer (some ⟨X, 0, none⟩), strV (Lib.join ws [32] ++ [10])] A = some (v, A') from h1]
  exact hV _ _ h2 h3 h4
end
end Go.Ab.Grid
