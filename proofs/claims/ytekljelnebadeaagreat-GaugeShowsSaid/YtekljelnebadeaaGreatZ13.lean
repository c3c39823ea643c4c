/- The station: the program's. -/
import Derived.Test.YtekljelnebadeaaGreatZ12
set_option linter.unusedSimpArgs false
set_option linter.unusedVariables false
set_option linter.unusedSectionVars false
set_option maxRecDepth 100000
namespace Go.Ab.Gauge
open Go Go.Ab
@[simp] theorem GuardW_un {AP : Nat → Option AFunc} {K : Nat → Option Spec} {g : Nat} {dst : Option Nat} {op : AOp} {l : List AOper} {T : List Value} {A : Hp} {R : List Value → Hp → Prop} {b : Bool} :
    GuardW AP K g dst op l T A R b undef = WO AP K g l (putA dst T undef) A R := rfl
def tmV (mean : Int) (sl : Value) : Value := .agg ⟨[.int .i64 mean, sl]⟩
def prt (zs : List Int) (i : Nat) : Bool :=
  decide (0 ≤ gi zs (i * 3)) && (decide (gi zs (i * 3) ≤ 1000) && (decide (1 ≤ gi zs (i * 3 + 1)) && (decide (gi zs (i * 3 + 1) ≤ 1000000000) && (decide (0 ≤ gi zs (i * 3 + 2)) && decide (gi zs (i * 3 + 2) < 3600)))))
def tideE (mean : Int) (m : Nat) (zs : List Int) : Int :=
  if mean < -10000 ∨ 10000 < mean then 3 else if 16 < m then 9 else if ((List.range m).any fun i => !prt zs i) = true then 3 else 0
structure TideOk (mean : Int) (m : Nat) (zs : List Int) : Prop where
  hmean : -10000 ≤ mean ∧ mean ≤ 10000
  hm : m ≤ 16
  hp : ∀ i, i < m → (0 ≤ gi zs (i * 3) ∧ gi zs (i * 3) ≤ 1000) ∧ (1 ≤ gi zs (i * 3 + 1) ∧ gi zs (i * 3 + 1) ≤ 1000000000) ∧ (0 ≤ gi zs (i * 3 + 2) ∧ gi zs (i * 3 + 2) < 3600)
theorem tide_ok {mean : Int} {m : Nat} {zs : List Int} (h : tideE mean m zs = 0) : TideOk mean m zs := by
  unfold tideE at h
  split at h
  · cases h
  split at h
  · cases h
  split at h
  · cases h
  rename_i h1 h2 h3
  refine ⟨by omega, by omega, fun i hi => ?_⟩
  have hp : prt zs i = true := by
    cases hp : prt zs i with
    | true => rfl
    | false => exact absurd (List.any_eq_true.2 ⟨i, List.mem_range.2 hi, by rw [hp]; rfl⟩) h3
  unfold prt at hp
  simp only [Bool.and_eq_true, decide_eq_true_eq] at hp
  omega
section
variable {g : Nat} {rd : Option Nat} {T : List Value} {D : List Nat} {A : Hp} {Q : Ex → St → Prop} {V : Value → Hp → Prop}
theorem loop513 {A0 : Hp} {n : Nat} {sl f : Value} {row : List Value} {val : Nat → Value} {p : Nat → Bool} (hsl : RdS A0 3 n row sl) (hval : ∀ i, i < n → partA row (i * 3) (some 3) = some (val i)) (hf : Says g A0 f n val p) (hn : n < 1000000)
    (hin : ∀ i T' A', i < n → p i = true → Ext' A0 A' → tget T' 4 = .int .i64 (i : Nat) → Q .ret ⟨T', D, A'⟩) (hout : ∀ T' A', (∀ i, i < n → p i = false) → Ext' A0 A' → Q (.exit 0) ⟨T', D, A'⟩) :
    ∀ (k i : Nat) {T : List Value} {A : Hp}, i + k = n → (∀ j, j < i → p j = false) → Ext' A0 A → tget T 0 = sl → tget T 1 = f → tget T 7 = .int .i64 n → tget T 8 = .int .i64 i → W AP KL g rd (.loop body513) ⟨T, D, A⟩ Q := by
  intro k
  induction k with
  | zero =>
    intro i T A hik hno he h0 h1 h7 h8
    have : i = n := by omega
    subst this
    rw [W_loop]
    simp (disch := as_aux_lemma => first | omega | simp only [hDs] <;> omega | simp [isCell]) [hRs, takeMarks, resA, resAll, resOne, Value.cells, body513, h7, h8]
    exact hout _ A hno he
  | succ k ih =>
    intro i T A hik hno he h0 h1 h7 h8
    obtain ⟨x, c, ro, rfl, hx⟩ := (he.rdS hsl).at (i := i) (by omega)
    have hv := hval i (by omega)
    skip
    rw [W_loop]
    simp (disch := as_aux_lemma => first | omega | simp only [hDs] <;> omega | simp [isCell]) [hRs, takeMarks, resA, resAll, resOne, Value.cells, body513, h7, h8, h0, h1, show ((i : Int) < n) by omega, idxSA_ok, hx, hv]
    refine hf i (by omega) A _ he fun A1 he1 => ?_
    cases hp : p i with
    | true =>
      simp (disch := as_aux_lemma => first | omega | simp only [hDs] <;> omega | simp [isCell]) [hRs, takeMarks, resA, resAll, resOne, Value.cells]
      exact hin i _ A1 (by omega) hp (he.trans he1) (by simp)
    | false =>
      simp (disch := as_aux_lemma => first | omega | simp only [hDs] <;> omega | simp [isCell]) [hRs, takeMarks, resA, resAll, resOne, Value.cells, h8]
      have hno' : ∀ j, j < i + 1 → p j = false := fun j hj => by
        rcases Nat.lt_or_ge j i with h | h
        · exact hno j h
        · have : j = i := by omega
          subst this; exact hp
      exact ih (i + 1) (by omega) hno' (he.trans he1) (by simp [h0]) (by simp [h1]) (by simp [h7]) (by simp [wrId (n := (i : Int) + 1) (by omega) (by omega)])
theorem w513 {A : Hp} {V : Value → Hp → Prop} {n : Nat} {sl f : Value} {row : List Value} {val : Nat → Value} {p : Nat → Bool} (hsl : RdS A 3 n row sl) (hval : ∀ i, i < n → partA row (i * 3) (some 3) = some (val i)) (hf : Says g A f n val p) (hn : n < 1000000)
    (hV : ∀ A' (k : Int), Ext' A A' → (0 ≤ k ↔ (List.range n).any p = true) → V (.int .i64 k) A') : WF AP KL g 513 [sl, f] A V := by
  rw [WF_body (show KL 513 = none from rfl) (show AP 513 = some F513 from rfl)]
  simp (disch := as_aux_lemma => first | omega | simp only [hDs] <;> omega | simp [isCell]) [hRs, takeMarks, resA, resAll, resOne, Value.cells, F513, hsl.len]
  refine loop513 hsl hval hf hn ?_ ?_ n 0 (by omega) (fun j h => absurd h (Nat.not_lt_zero _)) (Ext'.refl _) (by simp) (by simp) (by simp) (by simp)
  · intro i T' A' hi hp he h4
    simp (disch := as_aux_lemma => first | omega | simp only [hDs] <;> omega | simp [isCell]) [hRs, takeMarks, resA, resAll, resOne, Value.cells, h4]
    exact hV A' _ he ⟨fun _ => List.any_eq_true.2 ⟨i, by simpa using hi, hp⟩, fun _ => by omega⟩
  · intro T' A' hno he
    simp (disch := as_aux_lemma => first | omega | simp only [hDs] <;> omega | simp [isCell]) [hRs, takeMarks, resA, resAll, resOne, Value.cells]
    refine hV A' _ he ⟨fun h => by omega, fun h => ?_⟩
    obtain ⟨i, hi, hp⟩ := List.any_eq_true.1 h
    rw [hno i (by simpa using hi)] at hp
    cases hp
theorem w501 {A : Hp} {V : Value → Hp → Prop} {n : Nat} {sl f : Value} {row : List Value} {val : Nat → Value} {p : Nat → Bool} (hsl : RdS A 3 n row sl) (hval : ∀ i, i < n → partA row (i * 3) (some 3) = some (val i)) (hf : Says g A f n val p) (hn : n < 1000000)
    (hV : ∀ A', Ext' A A' → V (.bool ((List.range n).any p)) A') : WF AP KL g 501 [sl, f] A V := by
  rw [WF_body (show KL 501 = none from rfl) (show AP 501 = some F501 from rfl)]
  simp (disch := as_aux_lemma => first | omega | simp only [hDs] <;> omega | simp [isCell]) [hRs, takeMarks, resA, resAll, resOne, Value.cells, F501]
  refine w513 hsl hval hf hn fun A' k he hk => ?_
  simp (disch := as_aux_lemma => first | omega | simp only [hDs] <;> omega | simp [isCell]) [hRs, takeMarks, resA, resAll, resOne, Value.cells]
  have : decide (0 ≤ k) = (List.range n).any p := by
    rw [Bool.eq_iff_iff, decide_eq_true_eq]; exact hk
  rw [this]
  exact hV A' he
theorem w503 {a b c : Int} (hV : ∀ A', Ext' A A' → V (.bool (decide (0 ≤ a) && (decide (a ≤ 1000) && (decide (1 ≤ b) && (decide (b ≤ 1000000000) && (decide (0 ≤ c) && decide (c < 3600))))))) A') : WF AP KL g 503 [.agg ⟨[.int .i64 a, .int .i64 b, .int .i64 c]⟩] A V := by
  rw [WF_body rfl (show AP 503 = some F503 from rfl)]
  have hE := Ext'.push A (.cells [.int .i64 a, .int .i64 b, .int .i64 c] false)
  have hV' := hV _ hE
  by_cases h1 : 0 ≤ a
  · by_cases h2 : a ≤ 1000
    · by_cases h3 : 1 ≤ b
      · by_cases h4 : b ≤ 1000000000
        · by_cases h5 : 0 ≤ c
          · simp (disch := as_aux_lemma => first | omega | simp only [hDs] <;> omega | simp [isCell]) [hRs, takeMarks, resA, resAll, resOne, Value.cells, F503, h1, h2, h3, h4, h5]
            simpa [h1, h2, h3, h4, h5] using hV'
          · simp (disch := as_aux_lemma => first | omega | simp only [hDs] <;> omega | simp [isCell]) [hRs, takeMarks, resA, resAll, resOne, Value.cells, F503, h1, h2, h3, h4, h5]
            simpa [h1, h2, h3, h4, h5] using hV'
        · simp (disch := as_aux_lemma => first | omega | simp only [hDs] <;> omega | simp [isCell]) [hRs, takeMarks, resA, resAll, resOne, Value.cells, F503, h1, h2, h3, h4]
          simpa [h1, h2, h3, h4] using hV'
      · simp (disch := as_aux_lemma => first | omega | simp only [hDs] <;> omega | simp [isCell]) [hRs, takeMarks, resA, resAll, resOne, Value.cells, F503, h1, h2, h3]
        simpa [h1, h2, h3] using hV'
    · simp (disch := as_aux_lemma => first | omega | simp only [hDs] <;> omega | simp [isCell]) [hRs, takeMarks, resA, resAll, resOne, Value.cells, F503, h1, h2]
      simpa [h1, h2] using hV'
  · simp (disch := as_aux_lemma => first | omega | simp only [hDs] <;> omega | simp [isCell]) [hRs, takeMarks, resA, resAll, resOne, Value.cells, F503, h1]
    simpa [h1] using hV'
theorem says502 {A0 : Hp} {n : Nat} {zs : List Int} : Says g A0 (.func (.func 502) ⟨[]⟩ ⟨[]⟩) n (fun i => .agg ⟨[.int .i64 (gi zs (i * 3)), .int .i64 (gi zs (i * 3 + 1)), .int .i64 (gi zs (i * 3 + 2))]⟩) (fun i => !prt zs i) := by
  intro i hi A V he hV
  simp (disch := as_aux_lemma => first | omega | simp only [hDs] <;> omega | simp [isCell]) [hRs, takeMarks, resA, resAll, resOne, Value.cells]
  rw [WF_body (show KL 502 = none from rfl) (show AP 502 = some F502 from rfl)]
  simp (disch := as_aux_lemma => first | omega | simp only [hDs] <;> omega | simp [isCell]) [hRs, takeMarks, resA, resAll, resOne, Value.cells, F502]
  refine w503 fun A' he' => ?_
  simp (disch := as_aux_lemma => first | omega | simp only [hDs] <;> omega | simp [isCell]) [hRs, takeMarks, resA, resAll, resOne, Value.cells]
  have := hV A' ((Ext'.push A _).trans he')
  unfold prt at this
  simpa using this
theorem w488 {mean : Int} {m : Nat} {zs : List Int} {sl : Value} (hsl : RdS A 3 m (ints zs) sl) (hm : m < 1000000) (hV : ∀ A', Ext' A A' → V (.int .i64 (tideE mean m zs)) A') : WF AP KL g 488 [tmV mean sl] A V := by
  rw [WF_body rfl (show AP 488 = some F488 from rfl)]
  have hl := hsl.len
  have hE := Ext'.push A (.cells [.int .i64 mean, sl] false)
  have hzl : zs.length = m * 3 := by have := hsl.1; simpa using this
  unfold tideE at hV
  by_cases h1 : mean < -10000 ∨ 10000 < mean
  · have : ¬ (max mean (-10000) = min mean 10000) := by omega
    rw [if_pos h1] at hV
    simp (disch := as_aux_lemma => first | omega | simp only [hDs] <;> omega | simp [isCell]) [hRs, takeMarks, resA, resAll, resOne, Value.cells, F488, tmV, this]
    exact hV _ hE
  have e1 : max mean (-10000) = min mean 10000 := by omega
  rw [if_neg h1] at hV
  by_cases h2 : 16 < m
  · rw [if_pos h2] at hV
    simp (disch := as_aux_lemma => first | omega | simp only [hDs] <;> omega | simp [isCell]) [hRs, takeMarks, resA, resAll, resOne, Value.cells, F488, tmV, e1, hl, show (16 : Int) < m by omega]
    exact hV _ hE
  rw [if_neg h2] at hV
  simp (disch := as_aux_lemma => first | omega | simp only [hDs] <;> omega | simp [isCell]) [hRs, takeMarks, resA, resAll, resOne, Value.cells, F488, tmV, e1, hl, show ¬ (16 : Int) < m by omega]
  refine w501 (hE.rdS hsl) (fun i hi => ints_3 (by omega)) says502 hm fun A1 e => ?_
  by_cases h3 : ((List.range m).any fun i => !prt zs i) = true
  · rw [if_pos h3] at hV
    simp (disch := as_aux_lemma => first | omega | simp only [hDs] <;> omega | simp [isCell]) [hRs, takeMarks, resA, resAll, resOne, Value.cells, h3]
    exact hV _ (hE.trans e)
  · rw [if_neg h3] at hV
    simp only [Bool.not_eq_true] at h3
    simp (disch := as_aux_lemma => first | omega | simp only [hDs] <;> omega | simp [isCell]) [hRs, takeMarks, resA, resAll, resOne, Value.cells, h3]
    exact hV _ (hE.trans e)
theorem loop448 {A0 : Hp} {m X : Nat} {mean : Int} {zs : List Int} {sl : Value} (hsl : RdS A0 3 m (ints zs) sl) (hm : m < 1000000) (hg : g ≤ A0.n) (hX : A0.get X = some (.cells [.int .i64 mean, sl] false))
    (hQ : ∀ T' A', Ext' A0 A' → ((List.range m).any fun i => !prt zs i) = false → tget T' 2 = .int .i64 0 → Q (.exit 0) ⟨T', D, A'⟩)
    (hR : ∀ T' A', Ext' A0 A' → ((List.range m).any fun i => !prt zs i) = true → tget T' 2 = .int .i64 3 → Q .ret ⟨T', D, A'⟩) :
    ∀ (k i : Nat) {T : List Value} {A : Hp}, i + k = m → (∀ j, j < i → prt zs j = true) → Ext' A0 A → tget T 1 = .pointer (some ⟨X, 0, none⟩) → tget T 2 = .int .i64 0 → tget T 3 = .int .i64 i → W AP KL g rd (.loop body448) ⟨T, D, A⟩ Q := by
  intro k
  have hl := hsl.len
  have hzl : zs.length = m * 3 := by have := hsl.1; simpa using this
  induction k with
  | zero =>
    intro i T A hi hp he t1 t2 t3
    rw [W_loop]
    simp (disch := as_aux_lemma => first | omega | simp only [hDs] <;> omega | simp [isCell]) [hRs, takeMarks, resA, resAll, resOne, Value.cells, body448, t1, t3, he.get hX, hl, show ¬ ((i : Int) < m) by omega]
    refine hQ _ _ he ?_ (by simp [t2])
    rw [List.any_eq_false]
    intro j hj
    rw [hp j (by have := List.mem_range.1 hj; omega)]
    simp
  | succ k ih =>
    intro i T A hi hp he t1 t2 t3
    have hA := he.1
    have e5 : wr .i64 ((i : Int) + 1) = ((i + 1 : Nat) : Int) := by rw [wrId (by omega) (by omega)]; simp
    obtain ⟨xb, xc, xr, hsq, hxb⟩ := (he.rdS hsl).at (show i < m by omega)
    subst hsq
    rw [W_loop]
    have fail : prt zs i = false → ∀ T' A', Ext' A0 A' → tget T' 2 = .int .i64 3 → Q .ret ⟨T', D, A'⟩ := fun hq T' A' e' t' => hR _ _ e' (List.any_eq_true.2 ⟨i, List.mem_range.2 (by omega), by rw [hq]; rfl⟩) t'
    have hE : ∀ b, Ext' A0 (A.push b) := fun b => he.trans (Ext'.push _ _)
    have hxX := he.get hX
    by_cases h1 : gi zs (i * 3) < 0
    · simp (disch := as_aux_lemma => first | omega | simp only [hDs] <;> omega | simp [isCell]) [hRs, takeMarks, resA, resAll, resOne, Value.cells, body448, t1, t3, hxX, hl, show ((i : Int) < m) by omega, idxSA_ok, hxb, ints_3, h1, storeB_cells, setRange]
      exact fail (by unfold prt; simp; omega) _ _ (hE _) (by simp)
    by_cases h2 : 1000 < gi zs (i * 3)
    · simp (disch := as_aux_lemma => first | omega | simp only [hDs] <;> omega | simp [isCell]) [hRs, takeMarks, resA, resAll, resOne, Value.cells, body448, t1, t3, hxX, hl, show ((i : Int) < m) by omega, idxSA_ok, hxb, ints_3, h1, h2, storeB_cells, setRange]
      exact fail (by unfold prt; simp; omega) _ _ (hE _) (by simp)
    by_cases h3 : gi zs (i * 3 + 1) < 1
    · simp (disch := as_aux_lemma => first | omega | simp only [hDs] <;> omega | simp [isCell]) [hRs, takeMarks, resA, resAll, resOne, Value.cells, body448, t1, t3, hxX, hl, show ((i : Int) < m) by omega, idxSA_ok, hxb, ints_3, h1, h2, h3, storeB_cells, setRange]
      exact fail (by unfold prt; simp; omega) _ _ (hE _) (by simp)
    by_cases h4 : 1000000000 < gi zs (i * 3 + 1)
    · simp (disch := as_aux_lemma => first | omega | simp only [hDs] <;> omega | simp [isCell]) [hRs, takeMarks, resA, resAll, resOne, Value.cells, body448, t1, t3, hxX, hl, show ((i : Int) < m) by omega, idxSA_ok, hxb, ints_3, h1, h2, h3, h4, storeB_cells, setRange]
      exact fail (by unfold prt; simp; omega) _ _ (hE _) (by simp)
    by_cases h5 : gi zs (i * 3 + 2) < 0
    · simp (disch := as_aux_lemma => first | omega | simp only [hDs] <;> omega | simp [isCell]) [hRs, takeMarks, resA, resAll, resOne, Value.cells, body448, t1, t3, hxX, hl, show ((i : Int) < m) by omega, idxSA_ok, hxb, ints_3, h1, h2, h3, h4, h5, storeB_cells, setRange]
      exact fail (by unfold prt; simp; omega) _ _ (hE _) (by simp)
    by_cases h6 : 3600 ≤ gi zs (i * 3 + 2)
    · simp (disch := as_aux_lemma => first | omega | simp only [hDs] <;> omega | simp [isCell]) [hRs, takeMarks, resA, resAll, resOne, Value.cells, body448, t1, t3, hxX, hl, show ((i : Int) < m) by omega, idxSA_ok, hxb, ints_3, h1, h2, h3, h4, h5, h6, storeB_cells, setRange]
      exact fail (by unfold prt; simp; omega) _ _ (hE _) (by simp)
    simp (disch := as_aux_lemma => first | omega | simp only [hDs] <;> omega | simp [isCell]) [hRs, takeMarks, resA, resAll, resOne, Value.cells, body448, t1, t3, hxX, hl, show ((i : Int) < m) by omega, idxSA_ok, hxb, ints_3, h1, h2, h3, h4, h5, h6, storeB_cells, setRange, e5]
    refine ih (i + 1) (by omega) (fun j hj => ?_) (hE _) ?_ ?_ ?_
    · by_cases hji : j = i
      · subst hji; unfold prt; simp; omega
      · exact hp j (by omega)
    all_goals simp [t1, t2]
theorem w448 {mean : Int} {m : Nat} {zs : List Int} {sl : Value} (hsl : RdS A 3 m (ints zs) sl) (hm : m < 1000000) (hg : g ≤ A.n) (hV : ∀ A', Ext' A A' → V (.int .i64 (tideE mean m zs)) A') : WF AP KL g 448 [tmV mean sl] A V := by
  rw [WF_body rfl (show AP 448 = some F448 from rfl)]
  have hl := hsl.len
  have hE := Ext'.push A (.cells [.int .i64 mean, sl] false)
  unfold tideE at hV
  by_cases h1 : mean < -10000 ∨ 10000 < mean
  · rw [if_pos h1] at hV
    rcases h1 with h1 | h1
    · simp (disch := as_aux_lemma => first | omega | simp only [hDs] <;> omega | simp [isCell]) [hRs, takeMarks, resA, resAll, resOne, Value.cells, F448, tmV, h1]
      exact hV _ hE
    · simp (disch := as_aux_lemma => first | omega | simp only [hDs] <;> omega | simp [isCell]) [hRs, takeMarks, resA, resAll, resOne, Value.cells, F448, tmV, h1, show ¬ mean < -10000 by omega]
      exact hV _ hE
  have h1a : ¬ mean < -10000 := fun h => h1 (.inl h)
  have h1b : ¬ 10000 < mean := fun h => h1 (.inr h)
  rw [if_neg h1] at hV
  by_cases h2 : 16 < m
  · rw [if_pos h2] at hV
    simp (disch := as_aux_lemma => first | omega | simp only [hDs] <;> omega | simp [isCell]) [hRs, takeMarks, resA, resAll, resOne, Value.cells, F448, tmV, h1a, h1b, hl, show (16 : Int) < m by omega]
    exact hV _ hE
  rw [if_neg h2] at hV
  simp (disch := as_aux_lemma => first | omega | simp only [hDs] <;> omega | simp [isCell]) [hRs, takeMarks, resA, resAll, resOne, Value.cells, F448, tmV, h1a, h1b, hl, show ¬ (16 : Int) < m by omega]
  refine loop448 (A0 := A.push (.cells [.int .i64 mean, sl] false)) (X := A.n) (hE.rdS hsl) hm (by simp; omega) get_push_new ?_ ?_ m 0 (by omega) (fun j h => absurd h (Nat.not_lt_zero _)) (Ext'.refl _) (by simp) (by simp) (by simp)
  · intro T' A' e h3 t2
    rw [if_neg (by rw [h3]; decide)] at hV
    simp (disch := as_aux_lemma => first | omega | simp only [hDs] <;> omega | simp [isCell]) [hRs, takeMarks, resA, resAll, resOne, Value.cells, t2]
    exact hV _ (hE.trans e)
  · intro T' A' e h3 t2
    rw [if_pos h3] at hV
    simp (disch := as_aux_lemma => first | omega | simp only [hDs] <;> omega | simp [isCell]) [hRs, takeMarks, resA, resAll, resOne, Value.cells, t2]
    exact hV _ (hE.trans e)
end
end Go.Ab.Gauge
set_option maxRecDepth 100000
namespace Go.Ab.Gauge
open Go Go.Ab
def ampS (zs : List Int) : Nat → Int
  | 0 => 0
  | i + 1 => ampS zs i + gi zs (i * 3)
theorem ampS_rng {mean : Int} {m : Nat} {zs : List Int} (h : TideOk mean m zs) : ∀ {i : Nat}, i ≤ m → 0 ≤ ampS zs i ∧ ampS zs i ≤ 1000 * i
  | 0, _ => by simp [ampS]
  | i + 1, hi => by
    have h1 := ampS_rng h (i := i) (by omega)
    have h2 := (h.hp i (by omega)).1
    rw [ampS]; omega
def angLo (zs : List Int) (lo : Int) (i : Nat) : Int := 3600 * lo / gi zs (i * 3 + 1) - gi zs (i * 3 + 2)
def angHi (zs : List Int) (hi : Int) (i : Nat) : Int := upA (3600 * hi) (gi zs (i * 3 + 1)) - gi zs (i * 3 + 2)
def levS (zs : List Int) (lo hi : Int) : Nat → Int × Int
  | 0 => (0, 0)
  | i + 1 => ((levS zs lo hi i).1 + gi zs (i * 3) * (cosB (angLo zs lo i) (angHi zs hi i)).1, (levS zs lo hi i).2 + gi zs (i * 3) * (cosB (angLo zs lo i) (angHi zs hi i)).2)
theorem mul_rng {f c F C : Int} (hf : 0 ≤ f ∧ f ≤ F) (hc : -C ≤ c ∧ c ≤ C) (hC : 0 ≤ C) : -(F * C) ≤ f * c ∧ f * c ≤ F * C := by
  have h1 := Int.mul_le_mul_of_nonneg_left hc.2 hf.1
  have h2 := Int.mul_le_mul_of_nonneg_right hf.2 hC
  have h3 := Int.mul_le_mul_of_nonneg_left hc.1 hf.1
  rw [Int.mul_neg] at h3
  omega
theorem levS_rng {mean : Int} {m : Nat} {zs : List Int} (h : TideOk mean m zs) {lo hi : Int} : ∀ {i : Nat}, i ≤ m → (-(70000000 * i) ≤ (levS zs lo hi i).1 ∧ (levS zs lo hi i).1 ≤ 70000000 * i) ∧ (-(70000000 * i) ≤ (levS zs lo hi i).2 ∧ (levS zs lo hi i).2 ≤ 70000000 * i)
  | 0, _ => by simp [levS]
  | i + 1, hi' => by
    have h1 := levS_rng h (lo := lo) (hi := hi) (i := i) (by omega)
    have h2 := (h.hp i (by omega)).1
    obtain ⟨c1, c2⟩ := cosB_rng (angLo zs lo i) (angHi zs hi i)
    have m1 := mul_rng h2 c1 (by omega)
    have m2 := mul_rng h2 c2 (by omega)
    rw [levS]
    simp only
    omega
def levelA (mean : Int) (m : Nat) (zs : List Int) (lo hi : Int) : Int × Int := (mean + (levS zs lo hi m).1 / 65536, mean + upA (levS zs lo hi m).2 65536)
theorem ang_rng {mean : Int} {m : Nat} {zs : List Int} (h : TideOk mean m zs) {lo hi : Int} (hl : 0 ≤ lo ∧ lo ≤ 1000000000) (hh : 0 ≤ hi ∧ hi ≤ 1000000000) {i : Nat} (hi' : i < m) :
    (-10000000000000 ≤ angLo zs lo i ∧ angLo zs lo i ≤ 10000000000000) ∧ (-10000000000000 ≤ angHi zs hi i ∧ angHi zs hi i ≤ 10000000000000) ∧ (-4000000000000 ≤ 3600 * lo / gi zs (i * 3 + 1) ∧ 3600 * lo / gi zs (i * 3 + 1) ≤ 4000000000000) ∧ (-4000000000000 ≤ upA (3600 * hi) (gi zs (i * 3 + 1)) ∧ upA (3600 * hi) (gi zs (i * 3 + 1)) ≤ 4000000000000) := by
  obtain ⟨_, h2, h3⟩ := h.hp i hi'
  have a1 := ediv_abs (a := 3600 * lo) (b := gi zs (i * 3 + 1)) (by omega) (B := 4000000000000) (by omega) (by omega)
  have a2 := ediv_abs (a := -(3600 * hi)) (b := gi zs (i * 3 + 1)) (by omega) (B := 4000000000000) (by omega) (by omega)
  unfold angLo angHi upA
  omega
section
variable {g : Nat} {rd : Option Nat} {T : List Value} {D : List Nat} {A : Hp} {Q : Ex → St → Prop} {V : Value → Hp → Prop}
theorem w490 {a b f c d : Int} (ha : -1000000000000 ≤ a ∧ a ≤ 1000000000000) (hb : -1000000000000 ≤ b ∧ b ≤ 1000000000000) (hc : -1000000000000 ≤ f * c ∧ f * c ≤ 1000000000000) (hd : -1000000000000 ≤ f * d ∧ f * d ≤ 1000000000000) (hg : g ≤ A.n)
    (hV : ∀ A', Ext' A A' → V (spV (a + f * c) (b + f * d)) A') : WF AP KL g 490 [spV a b, .int .i64 f, spV c d] A V := by
  rw [WF_body rfl (show AP 490 = some F490 from rfl)]
  have e1 : wr .i64 (f * c) = f * c := wrId (by omega) (by omega)
  have e2 : wr .i64 (f * d) = f * d := wrId (by omega) (by omega)
  have e3 : wr .i64 (a + f * c) = a + f * c := wrId (by omega) (by omega)
  have e4 : wr .i64 (b + f * d) = b + f * d := wrId (by omega) (by omega)
  simp (disch := as_aux_lemma => first | omega | simp only [hDs] <;> omega | simp [isCell]) [hRs, takeMarks, resA, resAll, resOne, Value.cells, F490, e1, e2, e3, e4]
  refine w489 (by simp; omega) fun A1 e => ?_
  have h1 : A1.get (A.n + 1 + 1) = some (.cells [.int .i64 0, .int .i64 0] false) := own_get e
  simp (disch := as_aux_lemma => first | omega | simp only [hDs] <;> omega | simp [isCell]) [hRs, takeMarks, resA, resAll, resOne, Value.cells, h1, setRange, storeB_cells, get_set_same h1]
  exact hV _ (((Ext'.push A _).trans (Ext'.push _ _)).trans (own_set e))
theorem w507 {am pe ph lo hi : Int} (hp : 1 ≤ pe ∧ pe ≤ 1000000000) (hh : 0 ≤ ph ∧ ph < 3600) (hl : 0 ≤ lo ∧ lo ≤ 1000000000) (hi' : 0 ≤ hi ∧ hi ≤ 1000000000) (hg : g ≤ A.n)
    (hV : ∀ A', Ext' A A' → V (spV (3600 * lo / pe - ph) (upA (3600 * hi) pe - ph)) A') : WF AP KL g 507 [.agg ⟨[.int .i64 am, .int .i64 pe, .int .i64 ph]⟩, spV lo hi] A V := by
  rw [WF_body rfl (show AP 507 = some F507 from rfl)]
  have a1 := ediv_abs (a := 3600 * lo) (b := pe) (by omega) (B := 4000000000000) (by omega) (by omega)
  have a2 := ediv_abs (a := -(3600 * hi)) (b := pe) (by omega) (B := 4000000000000) (by omega) (by omega)
  have e1 : wr .i64 (3600 * lo) = 3600 * lo := wrId (by omega) (by omega)
  have e2 : wr .i64 (3600 * hi) = 3600 * hi := wrId (by omega) (by omega)
  have e3 : wr .i64 (3600 * lo / pe - ph) = 3600 * lo / pe - ph := wrId (by omega) (by omega)
  have e4 : wr .i64 (upA (3600 * hi) pe - ph) = upA (3600 * hi) pe - ph := wrId (by unfold upA; omega) (by unfold upA; omega)
  simp (disch := as_aux_lemma => first | omega | simp only [hDs] <;> omega | simp [isCell]) [hRs, takeMarks, resA, resAll, resOne, Value.cells, F507, e1]
  refine w508 (by omega) (by omega) ?_
  simp (disch := as_aux_lemma => first | omega | simp only [hDs] <;> omega | simp [isCell]) [hRs, takeMarks, resA, resAll, resOne, Value.cells, e3, e2]
  refine w509 (by omega) (by omega) ?_
  simp (disch := as_aux_lemma => first | omega | simp only [hDs] <;> omega | simp [isCell]) [hRs, takeMarks, resA, resAll, resOne, Value.cells, e4]
  refine w489 (by simp; omega) fun A1 e => ?_
  have h1 : A1.get (A.n + 1 + 1) = some (.cells [.int .i64 0, .int .i64 0] false) := own_get e
  simp (disch := as_aux_lemma => first | omega | simp only [hDs] <;> omega | simp [isCell]) [hRs, takeMarks, resA, resAll, resOne, Value.cells, h1, setRange, storeB_cells, get_set_same h1]
  exact hV _ (((Ext'.push A _).trans (Ext'.push _ _)).trans (own_set e))
theorem loop498 {A0 : Hp} {X m : Nat} {mean lo hi : Int} {zs : List Int} {sl : Value} (hok : TideOk mean m zs) (hl : 0 ≤ lo ∧ lo ≤ 1000000000) (hh : 0 ≤ hi ∧ hi ≤ 1000000000) (hsl : RdS A0 3 m (ints zs) sl) (hg : g ≤ X)
    (hX0 : A0.get X = some (.cells [.int .i64 0, .int .i64 0] false)) (hX3 : A0.get (X - 2) = some (.cells [.int .i64 lo, .int .i64 hi] false)) (hXp : 2 ≤ X) (hlt : ∀ b, blkOf sl = some b → b < X)
    (hQ : ∀ T' A', But X A0 A' → A'.get X = some (.cells [.int .i64 (levS zs lo hi m).1, .int .i64 (levS zs lo hi m).2] false) → KeepT [2, 3, 4, 5] T T' → Q (.exit 0) ⟨T', D, A'⟩) :
    ∀ (k i : Nat) {T1 : List Value} {A : Hp}, i + k = m → But X A0 A → A.get X = some (.cells [.int .i64 (levS zs lo hi i).1, .int .i64 (levS zs lo hi i).2] false) → KeepT [2, 3, 4, 5] T T1 → tget T1 3 = .pointer (some ⟨X - 2, 0, none⟩) → tget T1 5 = .pointer (some ⟨X, 0, none⟩) → tget T1 9 = sl → tget T1 10 = .int .i64 m → tget T1 11 = .int .i64 i → W AP KL g rd (.loop body498) ⟨T1, D, A⟩ Q := by
  intro k
  have hzl : zs.length = m * 3 := by have := hsl.1; simpa using this
  have hm := hok.hm
  induction k with
  | zero =>
    intro i T1 A hi' he hX hk t3 t5 t9 t10 t11
    obtain rfl : i = m := by omega
    rw [W_loop]
    simp (disch := as_aux_lemma => first | omega | simp only [hDs] <;> omega | simp [isCell]) [hRs, takeMarks, resA, resAll, resOne, Value.cells, body498, t10, t11]
    exact hQ _ _ he hX (fun j hj => by simp at hj; rcases hj with rfl | rfl | rfl | rfl <;> simp [hk.at])
  | succ k ih =>
    intro i T1 A hi' he hX hk t3 t5 t9 t10 t11
    have e5 : wr .i64 ((i : Int) + 1) = ((i + 1 : Nat) : Int) := by rw [wrId (by omega) (by omega)]; simp
    have hAn := Hp.lt_of_get hX
    have hX3' : A.get (X - 2) = some (.cells [.int .i64 lo, .int .i64 hi] false) := by rw [he.2 (X - 2) (Hp.lt_of_get hX3) (by omega)]; exact hX3
    obtain ⟨xb, xc, xr, hsq, hxb⟩ := (hsl.keepB (A' := A) fun z hz => he.2 z (hsl.blk_lt hz) (by have := hlt z hz; omega)).at (show i < m by omega)
    subst hsq
    have hxn := Hp.lt_of_get hxb
    have hxX := hlt xb rfl
    obtain ⟨p1, p2, p3⟩ := hok.hp i (by omega)
    obtain ⟨r1, r2, _, _⟩ := ang_rng hok hl hh (show i < m by omega)
    obtain ⟨s1, s2⟩ := levS_rng hok (lo := lo) (hi := hi) (show i ≤ m by omega)
    obtain ⟨c1, c2⟩ := cosB_rng (angLo zs lo i) (angHi zs hi i)
    have m1 := mul_rng p1 c1 (by omega)
    have m2 := mul_rng p1 c2 (by omega)
    simp only [angLo, angHi] at m1 m2 r1 r2
    rw [W_loop]
    simp (disch := as_aux_lemma => first | omega | simp only [hDs] <;> omega | simp [isCell]) [hRs, takeMarks, resA, resAll, resOne, Value.cells, body498, t3, t5, t9, t10, t11, show ((i : Int) < m) by omega, show i < m by omega, idxSA_ok, hxb, ints_3, storeB_cells, setRange, hX, hX3']
    refine w507 p2 p3 hl hh (by simp) fun A1 e1 => ?_
    simp (disch := as_aux_lemma => first | omega | simp only [hDs] <;> omega | simp [isCell]) [hRs, takeMarks, resA, resAll, resOne, Value.cells]
    refine w506 r1 r2 (by simp) fun A2 e2 => ?_
    simp (disch := as_aux_lemma => first | omega | simp only [hDs] <;> omega | simp [isCell]) [hRs, takeMarks, resA, resAll, resOne, Value.cells]
    refine w490 (by omega) (by omega) (by omega) (by omega) (by have := e1.1; have := e2.1; simp at *; omega) fun A3 e3 => ?_
    have e13 := (e1.trans e2).trans e3
    have hX2 : A3.get X = some (.cells [.int .i64 (levS zs lo hi i).1, .int .i64 (levS zs lo hi i).2] false) := e13.get (by rw [get_push_old (by omega)]; exact hX)
    simp (disch := as_aux_lemma => first | omega | simp only [hDs] <;> omega | simp [isCell]) [hRs, takeMarks, resA, resAll, resOne, Value.cells, t3, t5, t9, t10, t11, hX2, storeB_cells, setRange, e5]
    refine ih (i + 1) (by omega) ((he.trans (But.of_ext ((Ext'.push _ _).trans e13))).trans (But.set (Hp.lt_of_get hX2) (Ext'.refl _))) (get_set_same hX2) ?_ ?_ ?_ ?_ ?_ ?_
    · exact fun j hj => by simp at hj; rcases hj with rfl | rfl | rfl | rfl <;> simp [hk.at]
    all_goals simp [t3, t5, t9, t10, t11]
end
end Go.Ab.Gauge
set_option maxRecDepth 100000
namespace Go.Ab.Gauge
open Go Go.Ab
section
variable {g : Nat} {rd : Option Nat} {T : List Value} {D : List Nat} {A : Hp} {Q : Ex → St → Prop} {V : Value → Hp → Prop}
theorem w498 {m : Nat} {mean lo hi : Int} {zs : List Int} {sl : Value} (hok : TideOk mean m zs) (hl : 0 ≤ lo ∧ lo ≤ 1000000000) (hh : 0 ≤ hi ∧ hi ≤ 1000000000) (hsl : RdS A 3 m (ints zs) sl) (hg : g ≤ A.n)
    (hV : ∀ A', Ext' A A' → V (spV (levelA mean m zs lo hi).1 (levelA mean m zs lo hi).2) A') : WF AP KL g 498 [tmV mean sl, spV lo hi] A V := by
  rw [WF_body rfl (show AP 498 = some F498 from rfl)]
  have hlen := hsl.len
  obtain ⟨s1, s2⟩ := levS_rng hok (lo := lo) (hi := hi) (Nat.le_refl m)
  have hm := hok.hm
  have hmean := hok.hmean
  have d1 := ediv_abs (a := (levS zs lo hi m).1) (b := 65536) (by omega) (B := 70000000 * 16) (by omega) (by omega)
  have d2 := ediv_abs (a := -(levS zs lo hi m).2) (b := 65536) (by omega) (B := 70000000 * 16) (by omega) (by omega)
  have e1 : wr .i64 (mean + (levS zs lo hi m).1 / 65536) = mean + (levS zs lo hi m).1 / 65536 := wrId (by omega) (by omega)
  have e2 : wr .i64 (mean + upA (levS zs lo hi m).2 65536) = mean + upA (levS zs lo hi m).2 65536 := wrId (by unfold upA; omega) (by unfold upA; omega)
  simp (disch := as_aux_lemma => first | omega | simp only [hDs] <;> omega | simp [isCell]) [hRs, takeMarks, resA, resAll, resOne, Value.cells, F498, tmV, hlen]
  generalize hB : (((A.push (.cells [.int .i64 mean, sl] false)).push (.cells [.int .i64 lo, .int .i64 hi] false)).push (.cells [.int .i64 0, .int .i64 0] false)).push (.cells [.int .i64 0, .int .i64 0] false) = B
  have eB : Ext' A B := by rw [← hB]; exact (((Ext'.push _ _).trans (Ext'.push _ _)).trans (Ext'.push _ _)).trans (Ext'.push _ _)
  have nB : B.n = A.n + 4 := by rw [← hB]; rfl
  have b0 : B.get A.n = some (.cells [.int .i64 mean, sl] false) := by rw [← hB, get_push_old (by simp <;> omega), get_push_old (by simp <;> omega), get_push_old (by simp), get_push_new]
  have b1 : B.get (A.n + 1) = some (.cells [.int .i64 lo, .int .i64 hi] false) := by rw [← hB, get_push_old (by simp <;> omega), get_push_old (by simp), get_push_eq (by simp)]
  have b2 : B.get (A.n + 2) = some (.cells [.int .i64 0, .int .i64 0] false) := by rw [← hB, get_push_old (by simp), get_push_eq (by simp)]
  have b3 : B.get (A.n + 3) = some (.cells [.int .i64 0, .int .i64 0] false) := by rw [← hB, get_push_eq (by simp)]
  refine loop498 (A0 := B) (X := A.n + 3) hok hl hh (eB.rdS hsl) (by omega) b3 b1 (by omega) (fun b hb => by have := hsl.blk_lt hb; omega) ?_ m 0 (by omega) (But.of_ext (Ext'.refl _)) b3 (fun j hj => rfl) (by simp) (by simp) (by simp) (by simp) (by simp)
  intro T' A1 hb hx hk
  have k2 := hk.at 2 rfl
  have k4 := hk.at 4 rfl
  have k5 := hk.at 5 rfl
  simp at k2 k4 k5
  have n1 := hb.1
  have c0 : A1.get A.n = some (.cells [.int .i64 mean, sl] false) := by rw [hb.2 A.n (by omega) (by omega)]; exact b0
  have c2 : A1.get (A.n + 2) = some (.cells [.int .i64 0, .int .i64 0] false) := by rw [hb.2 (A.n + 2) (by omega) (by omega)]; exact b2
  have eA : Ext' A A1 := ⟨by omega, fun x hx => by rw [hb.2 x (by omega) (by omega), eB.2 x hx]⟩
  simp (disch := as_aux_lemma => first | omega | simp only [hDs] <;> omega | simp [isCell]) [hRs, takeMarks, resA, resAll, resOne, Value.cells, k2, k4, k5, hx, c0]
  refine w508 (by omega) (by omega) ?_
  simp (disch := as_aux_lemma => first | omega | simp only [hDs] <;> omega | simp [isCell]) [hRs, takeMarks, resA, resAll, resOne, Value.cells, k2, k4, k5, hx, c0, e1]
  refine w509 (by omega) (by omega) ?_
  simp (disch := as_aux_lemma => first | omega | simp only [hDs] <;> omega | simp [isCell]) [hRs, takeMarks, resA, resAll, resOne, Value.cells, k2, k4, k5, hx, c0, e2]
  refine w489 (by omega) fun A2 e => ?_
  have c3 := e.get c2
  simp (disch := as_aux_lemma => first | omega | simp only [hDs] <;> omega | simp [isCell]) [hRs, takeMarks, resA, resAll, resOne, Value.cells, k2, k4, k5, c3, setRange, storeB_cells, get_set_same c3]
  exact hV _ ⟨by have := e.1; simp; omega, fun x hx => by rw [get_set_ne (Hp.lt_of_get c3) (by omega), e.2 x (by omega), eA.2 x hx]⟩
theorem loop468 {A0 : Hp} {X m : Nat} {mean : Int} {zs : List Int} {sl : Value} (hok : TideOk mean m zs) (hsl : RdS A0 3 m (ints zs) sl) (hg : g ≤ X)
    (hX0 : A0.get X = some (.cells [.int .i64 mean, .int .i64 mean] false)) (hlt : ∀ b, blkOf sl = some b → b < X)
    (hQ : ∀ T' A', But X A0 A' → A'.get X = some (.cells [.int .i64 (mean - ampS zs m), .int .i64 (mean + ampS zs m)] false) → KeepT [1, 2, 5] T T' → Q (.exit 0) ⟨T', D, A'⟩) :
    ∀ (k i : Nat) {T1 : List Value} {A : Hp}, i + k = m → But X A0 A → A.get X = some (.cells [.int .i64 (mean - ampS zs i), .int .i64 (mean + ampS zs i)] false) → KeepT [1, 2, 5] T T1 → tget T1 5 = .pointer (some ⟨X, 0, none⟩) → tget T1 20 = sl → tget T1 21 = .int .i64 m → tget T1 22 = .int .i64 i → W AP KL g rd (.loop body468) ⟨T1, D, A⟩ Q := by
  intro k
  have hzl : zs.length = m * 3 := by have := hsl.1; simpa using this
  have hm := hok.hm
  have hmean := hok.hmean
  induction k with
  | zero =>
    intro i T1 A hi' he hX hk t5 t9 t10 t11
    obtain rfl : i = m := by omega
    rw [W_loop]
    simp (disch := as_aux_lemma => first | omega | simp only [hDs] <;> omega | simp [isCell]) [hRs, takeMarks, resA, resAll, resOne, Value.cells, body468, t10, t11]
    exact hQ _ _ he hX (fun j hj => by simp at hj; rcases hj with rfl | rfl | rfl <;> simp [hk.at])
  | succ k ih =>
    intro i T1 A hi' he hX hk t5 t9 t10 t11
    have e5 : wr .i64 ((i : Int) + 1) = ((i + 1 : Nat) : Int) := by rw [wrId (by omega) (by omega)]; simp
    have hAn := Hp.lt_of_get hX
    obtain ⟨xb, xc, xr, hsq, hxb⟩ := (hsl.keepB (A' := A) fun z hz => he.2 z (hsl.blk_lt hz) (by have := hlt z hz; omega)).at (show i < m by omega)
    subst hsq
    have hxn := Hp.lt_of_get hxb
    have hxX := hlt xb rfl
    obtain ⟨p1, p2, p3⟩ := hok.hp i (by omega)
    have s1 := ampS_rng hok (show i ≤ m by omega)
    rw [W_loop]
    simp (disch := as_aux_lemma => first | omega | simp only [hDs] <;> omega | simp [isCell]) [hRs, takeMarks, resA, resAll, resOne, Value.cells, body468, t5, t9, t10, t11, show ((i : Int) < m) by omega, show i < m by omega, idxSA_ok, hxb, ints_3, storeB_cells, setRange, hX]
    refine w489 (by simp) fun A1 e1 => ?_
    simp (disch := as_aux_lemma => first | omega | simp only [hDs] <;> omega | simp [isCell]) [hRs, takeMarks, resA, resAll, resOne, Value.cells]
    refine w490 (by omega) (by omega) (by omega) (by omega) (by have := e1.1; simp at *; omega) fun A3 e3 => ?_
    have e13 := e1.trans e3
    have hX2 : A3.get X = some (.cells [.int .i64 (mean - ampS zs i), .int .i64 (mean + ampS zs i)] false) := e13.get (by rw [get_push_old (by omega)]; exact hX)
    simp (disch := as_aux_lemma => first | omega | simp only [hDs] <;> omega | simp [isCell]) [hRs, takeMarks, resA, resAll, resOne, Value.cells, t5, t9, t10, t11, hX2, storeB_cells, setRange, e5]
    have q1 : mean - ampS zs i + -gi zs (i * 3) = mean - ampS zs (i + 1) := by rw [ampS]; omega
    have q2 : mean + ampS zs i + gi zs (i * 3) = mean + ampS zs (i + 1) := by rw [ampS]; omega
    rw [q1, q2]
    refine ih (i + 1) (by omega) ((he.trans (But.of_ext ((Ext'.push _ _).trans e13))).trans (But.set (Hp.lt_of_get hX2) (Ext'.refl _))) (get_set_same hX2) ?_ ?_ ?_ ?_ ?_
    · exact fun j hj => by simp at hj; rcases hj with rfl | rfl | rfl <;> simp [hk.at]
    all_goals simp [t5, t9, t10, t11]
end
end Go.Ab.Gauge
set_option maxRecDepth 100000
namespace Go.Ab.Gauge
open Go Go.Ab
def rangeV (mean : Int) (m : Nat) (zs : List Int) : Value :=
  if tideE mean m zs = 0 then .tuple ⟨[spV (mean - ampS zs m) (mean + ampS zs m), .int .i64 0]⟩ else .tuple ⟨[spV 0 0, .int .i64 (tideE mean m zs)]⟩
section
variable {g : Nat} {rd : Option Nat} {T : List Value} {D : List Nat} {A : Hp} {Q : Ex → St → Prop} {V : Value → Hp → Prop}
theorem w468 {m : Nat} {mean : Int} {zs : List Int} {sl : Value} (hsl : RdS A 3 m (ints zs) sl) (hm : m < 1000000) (hg : g ≤ A.n)
    (hV : ∀ A', Ext' A A' → V (rangeV mean m zs) A') : WF AP KL g 468 [tmV mean sl] A V := by
  rw [WF_body rfl (show AP 468 = some F468 from rfl)]
  unfold rangeV at hV
  simp (disch := as_aux_lemma => first | omega | simp only [hDs] <;> omega | simp [isCell]) [hRs, takeMarks, resA, resAll, resOne, Value.cells, F468, tmV]
  have eP : Ext' A ((A.push (.cells [.int .i64 mean, sl] false)).push (.cells [.int .i64 0, .int .i64 0] false)) := (Ext'.push _ _).trans (Ext'.push _ _)
  refine w488 (eP.rdS hsl) hm fun A1 e1 => ?_
  have c2 : A1.get (A.n + 1) = some (.cells [.int .i64 0, .int .i64 0] false) := e1.get (by rw [get_push_eq (by simp)])
  have c1 : A1.get A.n = some (.cells [.int .i64 mean, sl] false) := e1.get (by rw [get_push_old (by simp), get_push_new])
  by_cases h : tideE mean m zs = 0
  · rw [if_pos h] at hV
    have hok := tide_ok h
    have hlen := hsl.len
    have n1 := e1.1
    simp at n1
    simp (disch := as_aux_lemma => first | omega | simp only [hDs] <;> omega | simp [isCell]) [hRs, takeMarks, resA, resAll, resOne, Value.cells, h, c1]
    refine w489 (by omega) fun A2 e2 => ?_
    have d1 := e2.get c1
    have n2 := e2.1
    have nd := Hp.lt_of_get d1
    simp (disch := as_aux_lemma => first | omega | simp only [hDs] <;> omega | simp [isCell]) [hRs, takeMarks, resA, resAll, resOne, Value.cells, d1, hlen, storeB_cells, setRange]
    generalize hB : A2.push (.cells [.int .i64 mean, .int .i64 mean] false) = B
    have eB : Ext' A2 B := by rw [← hB]; exact Ext'.push _ _
    have eAll : Ext' A B := ((eP.trans e1).trans e2).trans eB
    refine loop468 (A0 := B) (X := A2.n) hok (eAll.rdS hsl) (by omega) (by rw [← hB, get_push_new]) (fun b hb => by have := hsl.blk_lt hb; omega) ?_ m 0 (by omega) (But.of_ext (Ext'.refl _)) (by rw [← hB, get_push_new]; simp [ampS]) (fun j hj => rfl) (by simp) (by simp) (by simp) (by simp)
    intro T' A3 hb hx hk
    have k1 := hk.at 1 rfl
    have k2 := hk.at 2 rfl
    have k5 := hk.at 5 rfl
    simp at k1 k2 k5
    have n3 := hb.1
    have nB := eB.1
    have f2 : A3.get (A.n + 1) = some (.cells [.int .i64 0, .int .i64 0] false) := by rw [hb.2 (A.n + 1) (by omega) (by omega)]; exact (e2.trans eB).get c2
    simp (disch := as_aux_lemma => first | omega | simp only [hDs] <;> omega | simp [isCell]) [hRs, takeMarks, resA, resAll, resOne, Value.cells, k1, k2, k5, hx, f2, setRange, storeB_cells, get_set_same f2]
    exact hV _ ⟨by simp; omega, fun x hx => by rw [get_set_ne (Hp.lt_of_get f2) (by omega), hb.2 x (by omega) (by omega), eAll.2 x hx]⟩
  · rw [if_neg h] at hV
    simp (disch := as_aux_lemma => first | omega | simp only [hDs] <;> omega | simp [isCell]) [hRs, takeMarks, resA, resAll, resOne, Value.cells, h, fillA, c2, setRange, storeB_cells, get_set_same c2]
    exact hV _ ⟨by have := e1.1; simp at this ⊢; omega, fun x hx => by rw [get_set_ne (Hp.lt_of_get c2) (by omega), e1.2 x (by simp; omega), get_push_old (by simp; omega), get_push_old hx]⟩
theorem w505 {a b lo hi : Int} (hV : ∀ A', Ext' A A' → V (.bool (validB a b lo hi)) A') : WF AP KL g 505 [spV a b, .int .i64 lo, .int .i64 hi] A V := by
  rw [WF_body rfl (show AP 505 = some F505 from rfl)]
  have hV' := hV _ (Ext'.push A (.cells [.int .i64 a, .int .i64 b] false))
  by_cases h1 : a ≤ b
  · by_cases h2 : lo ≤ a
    · simp (disch := as_aux_lemma => first | omega | simp only [hDs] <;> omega | simp [isCell]) [hRs, takeMarks, resA, resAll, resOne, Value.cells, F505, h1, h2]
      simpa [validB, h1, h2] using hV'
    · simp (disch := as_aux_lemma => first | omega | simp only [hDs] <;> omega | simp [isCell]) [hRs, takeMarks, resA, resAll, resOne, Value.cells, F505, h1, h2]
      simpa [validB, h1, h2] using hV'
  · simp (disch := as_aux_lemma => first | omega | simp only [hDs] <;> omega | simp [isCell]) [hRs, takeMarks, resA, resAll, resOne, Value.cells, F505, h1]
    simpa [validB, h1] using hV'
theorem w479 {m : Nat} {mean lo hi : Int} {zs : List Int} {sl : Value} (hsl : RdS A 3 m (ints zs) sl) (hok : tideE mean m zs = 0) (hl : 0 ≤ lo ∧ lo ≤ hi ∧ hi ≤ 1000000000) (hg : g ≤ A.n)
    (hV : ∀ A', Ext' A A' → V (.tuple ⟨[spV (levelA mean m zs lo hi).1 (levelA mean m zs lo hi).2, .int .i64 0]⟩) A') : WF AP KL g 479 [tmV mean sl, spV lo hi] A V := by
  have hT := tide_ok hok
  have hm := hT.hm
  have hv : validB lo hi 0 1000000000 = true := by simp [validB]; omega
  rw [WF_body rfl (show AP 479 = some F479 from rfl)]
  simp (disch := as_aux_lemma => first | omega | simp only [hDs] <;> omega | simp [isCell]) [hRs, takeMarks, resA, resAll, resOne, Value.cells, F479, tmV, fillA, setRange]
  generalize hB : ((A.push (.cells [.int .i64 mean, sl] false)).push (.cells [.int .i64 lo, .int .i64 hi] false)).push (.cells [.int .i64 0, .int .i64 0] false) = B
  have eB : Ext' A B := by rw [← hB]; exact ((Ext'.push _ _).trans (Ext'.push _ _)).trans (Ext'.push _ _)
  have b0 : B.get A.n = some (.cells [.int .i64 mean, sl] false) := by rw [← hB, get_push_old (by simp <;> omega), get_push_old (by simp), get_push_new]
  have b1 : B.get (A.n + 1) = some (.cells [.int .i64 lo, .int .i64 hi] false) := by rw [← hB, get_push_old (by simp), get_push_eq (by simp)]
  have b2 : B.get (A.n + 2) = some (.cells [.int .i64 0, .int .i64 0] false) := by rw [← hB, get_push_eq (by simp)]
  rw [WF_body rfl (show AP 497 = some F497 from rfl)]
  simp (disch := as_aux_lemma => first | omega | simp only [hDs] <;> omega | simp [isCell]) [hRs, takeMarks, resA, resAll, resOne, Value.cells, F497]
  refine w488 (((eB.trans (Ext'.push _ _)).trans (Ext'.push _ _)).rdS hsl) (by omega) fun A1 e1 => ?_
  have c3 : A1.get (B.n + 1) = some (.cells [.int .i64 lo, .int .i64 hi] false) := e1.get (by rw [get_push_eq (by simp)])
  simp (disch := as_aux_lemma => first | omega | simp only [hDs] <;> omega | simp [isCell]) [hRs, takeMarks, resA, resAll, resOne, Value.cells, hok, c3]
  refine w505 fun A2 e2 => ?_
  have e12 : Ext' B A2 := (((Ext'.push B _).trans (Ext'.push _ _)).trans e1).trans e2
  have d0 := e12.get b0
  have d1 := e12.get b1
  have d2 := e12.get b2
  have n2 := e12.1
  have nB := eB.1
  simp (disch := as_aux_lemma => first | omega | simp only [hDs] <;> omega | simp [isCell]) [hRs, takeMarks, resA, resAll, resOne, Value.cells, hv, d0, d1, fillA, setRange]
  refine w498 hT (by omega) (by omega) ((eB.trans e12).rdS hsl) (by omega) fun A3 e3 => ?_
  have f2 := e3.get d2
  simp (disch := as_aux_lemma => first | omega | simp only [hDs] <;> omega | simp [isCell]) [hRs, takeMarks, resA, resAll, resOne, Value.cells, f2, setRange, storeB_cells, get_set_same f2]
  have eA := (eB.trans e12).trans e3
  exact hV _ ⟨by have := eA.1; simp; omega, fun x hx => by rw [get_set_ne (Hp.lt_of_get f2) (by omega), eA.2 x hx]⟩
end
end Go.Ab.Gauge
set_option maxRecDepth 100000
namespace Go.Ab.Gauge
open Go Go.Ab
section
variable {g : Nat} {rd : Option Nat} {T : List Value} {D : List Nat} {A : Hp} {Q : Ex → St → Prop} {V : Value → Hp → Prop}
end
end Go.Ab.Gauge
set_option maxRecDepth 100000
namespace Go.Ab.Gauge
open Go Go.Ab
section
variable {g : Nat} {rd : Option Nat} {T : List Value} {D : List Nat} {A : Hp} {Q : Ex → St → Prop} {V : Value → Hp → Prop}
theorem loop481 {X m : Nat} {mean : Int} {zs : List Int} {sl : Value} (hok : TideOk mean m zs) (hsl : RdS A 3 m (ints zs) sl) (hX : A.get X = some (.cells [.int .i64 mean, sl] false))
    (hQ : ∀ T', tget T' 5 = .int .i64 (ampS zs m) → KeepT [1, 2] T T' → Q (.exit 0) ⟨T', D, A⟩) :
    ∀ (k i : Nat) {T1 : List Value}, i + k = m → KeepT [1, 2] T T1 → tget T1 1 = .pointer (some ⟨X, 0, none⟩) → tget T1 5 = .int .i64 (ampS zs i) → tget T1 6 = .int .i64 i → W AP KL g rd (.loop body481) ⟨T1, D, A⟩ Q := by
  intro k
  have hzl : zs.length = m * 3 := by have := hsl.1; simpa using this
  have hlen := hsl.len
  have hm := hok.hm
  induction k with
  | zero =>
    intro i T1 hi' hk t1 t5 t6
    obtain rfl : i = m := by omega
    rw [W_loop]
    simp (disch := as_aux_lemma => first | omega | simp only [hDs] <;> omega | simp [isCell]) [hRs, takeMarks, resA, resAll, resOne, Value.cells, body481, t1, t6, hX, hlen]
    exact hQ _ (by simp [t5]) (fun j hj => by simp at hj; rcases hj with rfl | rfl <;> simp [hk.at])
  | succ k ih =>
    intro i T1 hi' hk t1 t5 t6
    have e5 : wr .i64 ((i : Int) + 1) = ((i + 1 : Nat) : Int) := by rw [wrId (by omega) (by omega)]; simp
    obtain ⟨xb, xc, xr, hsq, hxb⟩ := hsl.at (show i < m by omega)
    obtain ⟨p1, p2, p3⟩ := hok.hp i (by omega)
    have s1 := ampS_rng hok (show i ≤ m by omega)
    have e6 : wr .i64 (ampS zs i + gi zs (i * 3)) = ampS zs (i + 1) := by rw [ampS, wrId (by omega) (by omega)]
    rw [W_loop]
    simp (disch := as_aux_lemma => first | omega | simp only [hDs] <;> omega | simp [isCell]) [hRs, takeMarks, resA, resAll, resOne, Value.cells, body481, t1, t5, t6, hX, hlen, show ((i : Int) < m) by omega, show i < m by omega, hsq, idxSA_ok, hxb, ints_get, e5, e6]
    refine ih (i + 1) (by omega) ?_ ?_ ?_ ?_
    · exact fun j hj => by simp at hj; rcases hj with rfl | rfl <;> simp [hk.at]
    all_goals simp [t1]
theorem w481 {m : Nat} {mean : Int} {zs : List Int} {sl : Value} (hsl : RdS A 3 m (ints zs) sl) (hm : m < 1000000) (hg : g ≤ A.n)
    (hV : ∀ A', Ext' A A' → V (rangeV mean m zs) A') : WF AP KL g 481 [tmV mean sl] A V := by
  rw [WF_body rfl (show AP 481 = some F481 from rfl)]
  unfold rangeV at hV
  simp (disch := as_aux_lemma => first | omega | simp only [hDs] <;> omega | simp [isCell]) [hRs, takeMarks, resA, resAll, resOne, Value.cells, F481, tmV]
  have eP : Ext' A ((A.push (.cells [.int .i64 mean, sl] false)).push (.cells [.int .i64 0, .int .i64 0] false)) := (Ext'.push _ _).trans (Ext'.push _ _)
  refine w448 (eP.rdS hsl) hm (by simp; omega) fun A1 e1 => ?_
  have c2 : A1.get (A.n + 1) = some (.cells [.int .i64 0, .int .i64 0] false) := e1.get (by rw [get_push_eq (by simp)])
  have c1 : A1.get A.n = some (.cells [.int .i64 mean, sl] false) := e1.get (by rw [get_push_old (by simp), get_push_new])
  have fin : ∀ b, Ext' A (A1.set (A.n + 1) (some b)) := fun b => ⟨by have := e1.1; simp at this ⊢; omega, fun x hx => by rw [get_set_ne (Hp.lt_of_get c2) (by omega), e1.2 x (by simp; omega), get_push_old (by simp; omega), get_push_old hx]⟩
  by_cases h : tideE mean m zs = 0
  · rw [if_pos h] at hV
    have hok := tide_ok h
    simp (disch := as_aux_lemma => first | omega | simp only [hDs] <;> omega | simp [isCell]) [hRs, takeMarks, resA, resAll, resOne, Value.cells, h, c1]
    refine loop481 (X := A.n) hok ((eP.trans e1).rdS hsl) c1 ?_ m 0 (by omega) (fun j hj => rfl) (by simp) (by simp [ampS]) (by simp)
    intro T' t5 hk
    have k1 := hk.at 1 rfl
    have k2 := hk.at 2 rfl
    simp at k1 k2
    have s1 := ampS_rng hok (Nat.le_refl m)
    have hmean := hok.hmean
    have hmm := hok.hm
    have e2 : wr .i64 (mean - ampS zs m) = mean - ampS zs m := wrId (by omega) (by omega)
    have e3 : wr .i64 (mean + ampS zs m) = mean + ampS zs m := wrId (by omega) (by omega)
    simp (disch := as_aux_lemma => first | omega | simp only [hDs] <;> omega | simp [isCell]) [hRs, takeMarks, resA, resAll, resOne, Value.cells, k1, k2, t5, c1, e2, e3, fillA, c2, setRange, storeB_cells, get_set_same c2]
    exact hV _ (fin _)
  · rw [if_neg h] at hV
    simp (disch := as_aux_lemma => first | omega | simp only [hDs] <;> omega | simp [isCell]) [hRs, takeMarks, resA, resAll, resOne, Value.cells, h, fillA, c2, setRange, storeB_cells, get_set_same c2]
    exact hV _ (fin _)
end
end Go.Ab.Gauge
set_option maxRecDepth 100000
namespace Go.Ab.Gauge
open Go Go.Ab
def inB (n lo hi : Int) : Bool := decide (lo ≤ n) && decide (n ≤ hi)
theorem inB_iff {n lo hi : Int} : inB n lo hi = true ↔ lo ≤ n ∧ n ≤ hi := by simp [inB]
theorem validB_iff {a b lo hi : Int} : validB a b lo hi = true ↔ a ≤ b ∧ lo ≤ a ∧ b ≤ hi := by simp [validB]
def waveE (k0 k1 l0 l1 o0 o1 : Int) : Int := if (validB k0 k1 1 1024 && (validB l0 l1 10 100000 && validB o0 o1 0 1000)) = true then 0 else 3
theorem hV' {A : Hp} {v : Int} {V : Value → Hp → Prop} (h : ∀ A', Ext' A A' → V (.int .i64 v) A') {A1 : Hp} (e : Ext' A A1) {u : Int} (hu : v = u) : V (.int .i64 u) A1 := by subst hu; exact h A1 e
section
variable {g : Nat} {rd : Option Nat} {T : List Value} {D : List Nat} {A : Hp} {Q : Ex → St → Prop} {V : Value → Hp → Prop}
theorem w476 {a b lo hi : Int} (hV : ∀ A', Ext' A A' → V (.bool (validB a b lo hi)) A') : WF AP KL g 476 [spV a b, .int .i64 lo, .int .i64 hi] A V := by
  rw [WF_body rfl (show AP 476 = some F476 from rfl)]
  have hV' := hV _ (Ext'.push A (.cells [.int .i64 a, .int .i64 b] false))
  by_cases h1 : lo ≤ a
  · by_cases h2 : a ≤ b
    · simp (disch := as_aux_lemma => first | omega | simp only [hDs] <;> omega | simp [isCell]) [hRs, takeMarks, resA, resAll, resOne, Value.cells, F476, h1, h2]
      simpa [validB, h1, h2] using hV'
    · simp (disch := as_aux_lemma => first | omega | simp only [hDs] <;> omega | simp [isCell]) [hRs, takeMarks, resA, resAll, resOne, Value.cells, F476, h1, h2]
      simpa [validB, h1, h2] using hV'
  · simp (disch := as_aux_lemma => first | omega | simp only [hDs] <;> omega | simp [isCell]) [hRs, takeMarks, resA, resAll, resOne, Value.cells, F476, h1]
    simpa [validB, h1] using hV'
theorem w449 {a b lo hi : Int} (hV : ∀ A', Ext' A A' → V (.bool (validB a b lo hi)) A') : WF AP KL g 449 [spV a b, .int .i64 lo, .int .i64 hi] A V := by
  rw [WF_body rfl (show AP 449 = some F449 from rfl)]
  have hV' := hV _ (Ext'.push A (.cells [.int .i64 a, .int .i64 b] false))
  by_cases h1 : a ≤ b
  · by_cases h2 : lo ≤ a
    · simp (disch := as_aux_lemma => first | omega | simp only [hDs] <;> omega | simp [isCell]) [hRs, takeMarks, resA, resAll, resOne, Value.cells, F449, h1, h2]
      simpa [validB, h1, h2] using hV'
    · simp (disch := as_aux_lemma => first | omega | simp only [hDs] <;> omega | simp [isCell]) [hRs, takeMarks, resA, resAll, resOne, Value.cells, F449, h1, h2]
      simpa [validB, h1, h2] using hV'
  · simp (disch := as_aux_lemma => first | omega | simp only [hDs] <;> omega | simp [isCell]) [hRs, takeMarks, resA, resAll, resOne, Value.cells, F449, h1]
    simpa [validB, h1] using hV'
theorem w42 {a b lo hi : Int} (hV : ∀ A', Ext' A A' → V (.bool (validB a b lo hi)) A') : WF AP KL g 42 [spV a b, .int .i64 lo, .int .i64 hi] A V := by
  rw [WF_body rfl (show AP 42 = some F42 from rfl)]
  have hV' := hV _ (Ext'.push A (.cells [.int .i64 a, .int .i64 b] false))
  by_cases h1 : a ≤ b
  · by_cases h2 : lo ≤ a
    · simp (disch := as_aux_lemma => first | omega | simp only [hDs] <;> omega | simp [isCell]) [hRs, takeMarks, resA, resAll, resOne, Value.cells, F42, h1, h2]
      simpa [validB, h1, h2] using hV'
    · simp (disch := as_aux_lemma => first | omega | simp only [hDs] <;> omega | simp [isCell]) [hRs, takeMarks, resA, resAll, resOne, Value.cells, F42, h1, h2]
      simpa [validB, h1, h2] using hV'
  · simp (disch := as_aux_lemma => first | omega | simp only [hDs] <;> omega | simp [isCell]) [hRs, takeMarks, resA, resAll, resOne, Value.cells, F42, h1]
    simpa [validB, h1] using hV'
theorem w43 {a b lo hi : Int} (hV : ∀ A', Ext' A A' → V (.bool (validB a b lo hi)) A') : WF AP KL g 43 [spV a b, .int .i64 lo, .int .i64 hi] A V := by
  rw [WF_body rfl (show AP 43 = some F43 from rfl)]
  have hV' := hV _ (Ext'.push A (.cells [.int .i64 a, .int .i64 b] false))
  by_cases h1 : a ≤ b
  · by_cases h2 : lo ≤ a
    · simp (disch := as_aux_lemma => first | omega | simp only [hDs] <;> omega | simp [isCell]) [hRs, takeMarks, resA, resAll, resOne, Value.cells, F43, h1, h2]
      simpa [validB, h1, h2] using hV'
    · simp (disch := as_aux_lemma => first | omega | simp only [hDs] <;> omega | simp [isCell]) [hRs, takeMarks, resA, resAll, resOne, Value.cells, F43, h1, h2]
      simpa [validB, h1, h2] using hV'
  · simp (disch := as_aux_lemma => first | omega | simp only [hDs] <;> omega | simp [isCell]) [hRs, takeMarks, resA, resAll, resOne, Value.cells, F43, h1]
    simpa [validB, h1] using hV'
theorem w458 {a lo hi : Int} (hV : V (.bool (inB a lo hi)) A) : WF AP KL g 458 [.int .i64 a, .int .i64 lo, .int .i64 hi] A V := by
  rw [WF_body rfl (show AP 458 = some F458 from rfl)]
  by_cases h1 : lo ≤ a
  · simp (disch := as_aux_lemma => first | omega | simp only [hDs] <;> omega | simp [isCell]) [hRs, takeMarks, resA, resAll, resOne, Value.cells, F458, h1]
    simpa [inB, h1] using hV
  · simp (disch := as_aux_lemma => first | omega | simp only [hDs] <;> omega | simp [isCell]) [hRs, takeMarks, resA, resAll, resOne, Value.cells, F458, h1]
    simpa [inB, h1] using hV
theorem w451 {a lo hi : Int} (hV : V (.bool (inB a lo hi)) A) : WF AP KL g 451 [.int .i64 a, .int .i64 lo, .int .i64 hi] A V := by
  rw [WF_body rfl (show AP 451 = some F451 from rfl)]
  by_cases h1 : lo ≤ a
  · simp (disch := as_aux_lemma => first | omega | simp only [hDs] <;> omega | simp [isCell]) [hRs, takeMarks, resA, resAll, resOne, Value.cells, F451, h1]
    simpa [inB, h1] using hV
  · simp (disch := as_aux_lemma => first | omega | simp only [hDs] <;> omega | simp [isCell]) [hRs, takeMarks, resA, resAll, resOne, Value.cells, F451, h1]
    simpa [inB, h1] using hV
theorem w13 {k0 k1 l0 l1 o0 o1 : Int} (hV : ∀ A', Ext' A A' → V (.int .i64 (waveE k0 k1 l0 l1 o0 o1)) A') : WF AP KL g 13 [.agg ⟨[.int .i64 k0, .int .i64 k1, .int .i64 l0, .int .i64 l1, .int .i64 o0, .int .i64 o1]⟩] A V := by
  rw [WF_body rfl (show AP 13 = some F13 from rfl)]
  unfold waveE at hV
  simp (disch := as_aux_lemma => first | omega | simp only [hDs] <;> omega | simp [isCell]) [hRs, takeMarks, resA, resAll, resOne, Value.cells, F13]
  refine w42 fun A1 e1 => ?_
  have c1 : A1.get A.n = some (.cells [.int .i64 k0, .int .i64 k1, .int .i64 l0, .int .i64 l1, .int .i64 o0, .int .i64 o1] false) := own_get e1
  have f1 := (Ext'.push A _).trans e1
  cases h1 : validB k0 k1 1 1024 with
  | false =>
    simp (disch := as_aux_lemma => first | omega | simp only [hDs] <;> omega | simp [isCell]) [hRs, takeMarks, resA, resAll, resOne, Value.cells]
    exact hV' hV f1 (by simp [h1])
  | true =>
    simp (disch := as_aux_lemma => first | omega | simp only [hDs] <;> omega | simp [isCell]) [hRs, takeMarks, resA, resAll, resOne, Value.cells, c1]
    refine w42 fun A2 e2 => ?_
    have c2 := e2.get c1
    cases h2 : validB l0 l1 10 100000 with
    | false =>
      simp (disch := as_aux_lemma => first | omega | simp only [hDs] <;> omega | simp [isCell]) [hRs, takeMarks, resA, resAll, resOne, Value.cells]
      exact hV' hV (f1.trans e2) (by simp [h1, h2])
    | true =>
      simp (disch := as_aux_lemma => first | omega | simp only [hDs] <;> omega | simp [isCell]) [hRs, takeMarks, resA, resAll, resOne, Value.cells, c2]
      refine w42 fun A3 e3 => ?_
      cases h3 : validB o0 o1 0 1000 with
      | false =>
        simp (disch := as_aux_lemma => first | omega | simp only [hDs] <;> omega | simp [isCell]) [hRs, takeMarks, resA, resAll, resOne, Value.cells]
        exact hV' hV ((f1.trans e2).trans e3) (by simp [h1, h2, h3])
      | true =>
        simp (disch := as_aux_lemma => first | omega | simp only [hDs] <;> omega | simp [isCell]) [hRs, takeMarks, resA, resAll, resOne, Value.cells]
        exact hV' hV ((f1.trans e2).trans e3) (by simp [h1, h2, h3])
theorem w15 {k0 k1 l0 l1 o0 o1 : Int} (hV : ∀ A', Ext' A A' → V (.int .i64 (waveE k0 k1 l0 l1 o0 o1)) A') : WF AP KL g 15 [.agg ⟨[.int .i64 k0, .int .i64 k1, .int .i64 l0, .int .i64 l1, .int .i64 o0, .int .i64 o1]⟩] A V := by
  rw [WF_body rfl (show AP 15 = some F15 from rfl)]
  unfold waveE at hV
  simp (disch := as_aux_lemma => first | omega | simp only [hDs] <;> omega | simp [isCell]) [hRs, takeMarks, resA, resAll, resOne, Value.cells, F15]
  refine w43 fun A1 e1 => ?_
  have c1 : A1.get A.n = some (.cells [.int .i64 k0, .int .i64 k1, .int .i64 l0, .int .i64 l1, .int .i64 o0, .int .i64 o1] false) := own_get e1
  have f1 := (Ext'.push A _).trans e1
  cases h1 : validB k0 k1 1 1024 with
  | false =>
    simp (disch := as_aux_lemma => first | omega | simp only [hDs] <;> omega | simp [isCell]) [hRs, takeMarks, resA, resAll, resOne, Value.cells]
    exact hV' hV f1 (by simp [h1])
  | true =>
    simp (disch := as_aux_lemma => first | omega | simp only [hDs] <;> omega | simp [isCell]) [hRs, takeMarks, resA, resAll, resOne, Value.cells, c1]
    refine w43 fun A2 e2 => ?_
    have c2 := e2.get c1
    cases h2 : validB l0 l1 10 100000 with
    | false =>
      simp (disch := as_aux_lemma => first | omega | simp only [hDs] <;> omega | simp [isCell]) [hRs, takeMarks, resA, resAll, resOne, Value.cells]
      exact hV' hV (f1.trans e2) (by simp [h1, h2])
    | true =>
      simp (disch := as_aux_lemma => first | omega | simp only [hDs] <;> omega | simp [isCell]) [hRs, takeMarks, resA, resAll, resOne, Value.cells, c2]
      refine w43 fun A3 e3 => ?_
      cases h3 : validB o0 o1 0 1000 with
      | false =>
        simp (disch := as_aux_lemma => first | omega | simp only [hDs] <;> omega | simp [isCell]) [hRs, takeMarks, resA, resAll, resOne, Value.cells]
        exact hV' hV ((f1.trans e2).trans e3) (by simp [h1, h2, h3])
      | true =>
        simp (disch := as_aux_lemma => first | omega | simp only [hDs] <;> omega | simp [isCell]) [hRs, takeMarks, resA, resAll, resOne, Value.cells]
        exact hV' hV ((f1.trans e2).trans e3) (by simp [h1, h2, h3])
end
end Go.Ab.Gauge
set_option maxRecDepth 100000
namespace Go.Ab.Gauge
open Go Go.Ab
structure Site where
  w : Int
  h : Int
  s : Int
  m : Nat
  zs : List Int
  mean : Int
  pn : Nat
  ps : List Int
  k0 : Int
  k1 : Int
  l0 : Int
  l1 : Int
  o0 : Int
  o1 : Int
  gn : Nat
  gs : List Int
def Site.cells (x : Site) (gl tl ul : Value) : List Value := [.int .i64 x.w, .int .i64 x.h, .int .i64 x.s, gl, .int .i64 x.mean, tl, .int .i64 x.k0, .int .i64 x.k1, .int .i64 x.l0, .int .i64 x.l1, .int .i64 x.o0, .int .i64 x.o1, ul]
structure SiteIn (A : Hp) (x : Site) (gl tl ul : Value) : Prop where
  gl : RdS A 2 x.m (ints x.zs) gl
  tl : RdS A 3 x.pn (ints x.ps) tl
  ul : RdS A 9 x.gn (ints x.gs) ul
theorem SiteIn.ext {A A' : Hp} {x : Site} {gl tl ul : Value} (h : SiteIn A x gl tl ul) (e : Ext' A A') : SiteIn A' x gl tl ul := ⟨e.rdS h.gl, e.rdS h.tl, e.rdS h.ul⟩
structure Small (x : Site) : Prop where
  m : x.m ≤ 600
  pn : x.pn ≤ 20
  gn : x.gn ≤ 40
def Site.lo (x : Site) : Int := x.mean - ampS x.ps x.pn
def Site.hi (x : Site) : Int := x.mean + ampS x.ps x.pn
def gauE (m : Nat) (zs : List Int) (sea ce c0 c1 a0 a1 r0 r1 si no : Int) : Int :=
  if inB ce 0 ((m : Int) - 1) = false then 4 else if sea - gi zs (ce.toNat * 2 + 1) < 1 then 19 else
  if (validB c0 c1 (-100000000) 100000000 && (validB a0 a1 (-10000) 10000 && (validB r0 r1 (-1000) 1000 && (inB si 0 1000000000 && inB no 0 5000)))) = true then 0 else 3
def Site.gauE (x : Site) (i : Nat) : Int :=
  Gauge.gauE x.m x.zs x.lo (gi x.gs (i * 9)) (gi x.gs (i * 9 + 1)) (gi x.gs (i * 9 + 2)) (gi x.gs (i * 9 + 3)) (gi x.gs (i * 9 + 4)) (gi x.gs (i * 9 + 5)) (gi x.gs (i * 9 + 6)) (gi x.gs (i * 9 + 7)) (gi x.gs (i * 9 + 8))
def Site.gauS (x : Site) : Nat → Int
  | 0 => 0
  | i + 1 => if x.gauS i = 0 then x.gauE i else x.gauS i
def Site.E (x : Site) : Int :=
  if gridE x.w x.h x.s x.m x.zs ≠ 0 then gridE x.w x.h x.s x.m x.zs else
  if tideE x.mean x.pn x.ps ≠ 0 then tideE x.mean x.pn x.ps else
  if validB x.lo x.hi (-20000) 20000 = false then 3 else
  if waveE x.k0 x.k1 x.l0 x.l1 x.o0 x.o1 ≠ 0 then waveE x.k0 x.k1 x.l0 x.l1 x.o0 x.o1 else
  if 32 < x.gn then 9 else x.gauS x.gn
def Site.st (x : Site) (gl tl ul mp : Value) : List Value := [.int .i64 x.w, .int .i64 x.h, .int .i64 x.s, gl, .int .i64 x.mean, tl, .int .i64 x.k0, .int .i64 x.k1, .int .i64 x.l0, .int .i64 x.l1, .int .i64 x.o0, .int .i64 x.o1, ul, .int .i64 x.lo, .int .i64 x.hi, mp]
def GrdOk (m : Nat) (zs : List Int) : Prop := zs.length = m * 2 ∧ ∀ i, i < m → -1200000 ≤ gi zs (i * 2) ∧ gi zs (i * 2) ≤ gi zs (i * 2 + 1) ∧ gi zs (i * 2 + 1) ≤ 1200000
section
variable {g : Nat} {rd : Option Nat} {T : List Value} {D : List Nat} {A : Hp} {Q : Ex → St → Prop} {V : Value → Hp → Prop}
theorem w477 {x : Site} {X : Nat} {gl tl ul mp : Value} {ce c0 c1 a0 a1 r0 r1 si no : Int} (hX : A.get X = some (.cells (x.st gl tl ul mp) false)) (hgl : RdS A 2 x.m (ints x.zs) gl) (hm : x.m ≤ 600) (hz : GrdOk x.m x.zs) (hl : -20000 ≤ x.lo ∧ x.lo ≤ 20000)
    (hV : ∀ A', Ext' A A' → V (.int .i64 (gauE x.m x.zs x.lo ce c0 c1 a0 a1 r0 r1 si no)) A') :
    WF AP KL g 477 [.pointer (some ⟨X, 0, none⟩), .agg ⟨[.int .i64 ce, .int .i64 c0, .int .i64 c1, .int .i64 a0, .int .i64 a1, .int .i64 r0, .int .i64 r1, .int .i64 si, .int .i64 no]⟩] A V := by
  rw [WF_body rfl (show AP 477 = some F477 from rfl)]
  have hlen := hgl.len
  have hn := Hp.lt_of_get hX
  have e1 : wr .i64 ((x.m : Int) - 1) = (x.m : Int) - 1 := wrId (by omega) (by omega)
  have eP := Ext'.push A (.cells [.int .i64 ce, .int .i64 c0, .int .i64 c1, .int .i64 a0, .int .i64 a1, .int .i64 r0, .int .i64 r1, .int .i64 si, .int .i64 no] false)
  unfold gauE at hV
  unfold Site.st at hX
  simp (disch := as_aux_lemma => first | omega | simp only [hDs] <;> omega | simp [isCell]) [hRs, takeMarks, resA, resAll, resOne, Value.cells, F477, hX, hlen, e1]
  refine w458 ?_
  cases h1 : inB ce 0 ((x.m : Int) - 1) with
  | false =>
    simp (disch := as_aux_lemma => first | omega | simp only [hDs] <;> omega | simp [isCell]) [hRs, takeMarks, resA, resAll, resOne, Value.cells]
    exact hV' hV eP (by simp [h1])
  | true =>
    have h1' := inB_iff.1 h1
    obtain ⟨xb, xc, xr, hsq, hxb⟩ := hgl.at (show ce.toNat < x.m by omega)
    have hxn := Hp.lt_of_get hxb
    obtain ⟨z0, z1, z2⟩ := hz.2 ce.toNat (by omega)
    have zl := hz.1
    have e2 : wr .i64 (x.lo - gi x.zs (ce.toNat * 2 + 1)) = x.lo - gi x.zs (ce.toNat * 2 + 1) := wrId (by omega) (by omega)
    by_cases h2 : x.lo - gi x.zs (ce.toNat * 2 + 1) < 1
    · simp (disch := as_aux_lemma => first | omega | simp only [hDs] <;> omega | simp [isCell]) [hRs, takeMarks, resA, resAll, resOne, Value.cells, hX, hsq, idxSA_ok, hxb, ints_get, e2, h2]
      exact hV' hV eP (by simp [h1, h2])
    · simp (disch := as_aux_lemma => first | omega | simp only [hDs] <;> omega | simp [isCell]) [hRs, takeMarks, resA, resAll, resOne, Value.cells, hX, hsq, idxSA_ok, hxb, ints_get, e2, h2]
      refine w476 fun A1 f1 => ?_
      have p1 := own_get f1
      have g1 := eP.trans f1
      cases h3 : validB c0 c1 (-100000000) 100000000 with
      | false =>
        simp (disch := as_aux_lemma => first | omega | simp only [hDs] <;> omega | simp [isCell]) [hRs, takeMarks, resA, resAll, resOne, Value.cells]
        exact hV' hV g1 (by simp [h1, h2, h3])
      | true =>
        simp (disch := as_aux_lemma => first | omega | simp only [hDs] <;> omega | simp [isCell]) [hRs, takeMarks, resA, resAll, resOne, Value.cells, p1]
        refine w476 fun A2 f2 => ?_
        have p2 := f2.get p1
        have g2 := g1.trans f2
        cases h4 : validB a0 a1 (-10000) 10000 with
        | false =>
          simp (disch := as_aux_lemma => first | omega | simp only [hDs] <;> omega | simp [isCell]) [hRs, takeMarks, resA, resAll, resOne, Value.cells]
          exact hV' hV g2 (by simp [h1, h2, h3, h4])
        | true =>
          simp (disch := as_aux_lemma => first | omega | simp only [hDs] <;> omega | simp [isCell]) [hRs, takeMarks, resA, resAll, resOne, Value.cells, p2]
          refine w476 fun A3 f3 => ?_
          have p3 := f3.get p2
          have g3 := g2.trans f3
          cases h5 : validB r0 r1 (-1000) 1000 with
          | false =>
            simp (disch := as_aux_lemma => first | omega | simp only [hDs] <;> omega | simp [isCell]) [hRs, takeMarks, resA, resAll, resOne, Value.cells]
            exact hV' hV g3 (by simp [h1, h2, h3, h4, h5])
          | true =>
            simp (disch := as_aux_lemma => first | omega | simp only [hDs] <;> omega | simp [isCell]) [hRs, takeMarks, resA, resAll, resOne, Value.cells, p3]
            refine w458 ?_
            cases h6 : inB si 0 1000000000 with
            | false =>
              simp (disch := as_aux_lemma => first | omega | simp only [hDs] <;> omega | simp [isCell]) [hRs, takeMarks, resA, resAll, resOne, Value.cells]
              exact hV' hV g3 (by simp [h1, h2, h3, h4, h5, h6])
            | true =>
              simp (disch := as_aux_lemma => first | omega | simp only [hDs] <;> omega | simp [isCell]) [hRs, takeMarks, resA, resAll, resOne, Value.cells, p3]
              refine w458 ?_
              cases h7 : inB no 0 5000 with
              | false =>
                simp (disch := as_aux_lemma => first | omega | simp only [hDs] <;> omega | simp [isCell]) [hRs, takeMarks, resA, resAll, resOne, Value.cells]
                exact hV' hV g3 (by simp [h1, h2, h3, h4, h5, h6, h7])
              | true =>
                simp (disch := as_aux_lemma => first | omega | simp only [hDs] <;> omega | simp [isCell]) [hRs, takeMarks, resA, resAll, resOne, Value.cells]
                exact hV' hV g3 (by simp [h1, h2, h3, h4, h5, h6, h7])
end
end Go.Ab.Gauge
set_option maxRecDepth 100000
namespace Go.Ab.Gauge
open Go Go.Ab
theorem grd_ok {w h s : Int} {m : Nat} {zs : List Int} (hl : zs.length = m * 2) (h : gridE w h s m zs = 0) : GrdOk m zs := by
  refine ⟨hl, fun i hi => ?_⟩
  have hp : grdV zs i = true := by
    cases hp : grdV zs i with
    | true => rfl
    | false =>
      have hany : ((List.range m).any fun i => !grdV zs i) = true := List.any_eq_true.2 ⟨i, List.mem_range.2 hi, by rw [hp]; rfl⟩
      unfold gridE at h
      rw [hany] at h
      repeat' split at h
      all_goals simp_all
  unfold grdV at hp
  have := validB_iff.1 hp
  omega
theorem Site.gauS_stay {x : Site} {i : Nat} (h : x.gauS i ≠ 0) : ∀ {k : Nat}, i ≤ k → x.gauS k = x.gauS i
  | 0, hk => by rw [Nat.le_zero.1 hk]
  | k + 1, hk => by
    rcases Nat.lt_or_ge k i with h1 | h1
    · rw [show k + 1 = i by omega]
    · have := Site.gauS_stay h h1
      rw [Site.gauS, if_neg (by rw [this]; exact h), this]
section
variable {g : Nat} {rd : Option Nat} {T : List Value} {D : List Nat} {A : Hp} {Q : Ex → St → Prop} {V : Value → Hp → Prop}
theorem loop444 {A0 : Hp} {x : Site} {X : Nat} {gl tl ul mp : Value} (hI : SiteIn A0 x gl tl ul) (hS : Small x) (hz : GrdOk x.m x.zs) (hl : -20000 ≤ x.lo ∧ x.lo ≤ 20000) (hX : A0.get X = some (.cells (x.st gl tl ul mp) false)) (hg : g ≤ A0.n)
    (hQ : ∀ T' A', Ext' A0 A' → x.gauS x.gn = 0 → KeepT [8] T T' → Q (.exit 0) ⟨T', D, A'⟩)
    (hR : ∀ T' A', Ext' A0 A' → x.gauS x.gn ≠ 0 → tget T' 2 = .pointer none → tget T' 3 = .int .i64 (x.gauS x.gn) → Q .ret ⟨T', D, A'⟩) :
    ∀ (k i : Nat) {T1 : List Value} {A : Hp}, i + k = x.gn → x.gauS i = 0 → Ext' A0 A → KeepT [8] T T1 → tget T1 8 = .pointer (some ⟨X, 0, none⟩) → tget T1 46 = ul → tget T1 47 = .int .i64 x.gn → tget T1 48 = .int .i64 i → W AP KL g rd (.loop body444) ⟨T1, D, A⟩ Q := by
  intro k
  have hgl : x.gs.length = x.gn * 9 := by have := hI.ul.1; simpa using this
  have hgn := hS.gn
  induction k with
  | zero =>
    intro i T1 A hi h0 he hk t8 t46 t47 t48
    obtain rfl : i = x.gn := by omega
    rw [W_loop]
    simp (disch := as_aux_lemma => first | omega | simp only [hDs] <;> omega | simp [isCell]) [hRs, takeMarks, resA, resAll, resOne, Value.cells, body444, t47, t48]
    exact hQ _ _ he h0 (fun j hj => by simp at hj; rcases hj with rfl; simp [hk.at])
  | succ k ih =>
    intro i T1 A hi h0 he hk t8 t46 t47 t48
    have e5 : wr .i64 ((i : Int) + 1) = ((i + 1 : Nat) : Int) := by rw [wrId (by omega) (by omega)]; simp
    obtain ⟨xb, xc, xr, hsq, hxb⟩ := (he.rdS hI.ul).at (show i < x.gn by omega)
    have hA := he.1
    rw [W_loop]
    simp (disch := as_aux_lemma => first | omega | simp only [hDs] <;> omega | simp [isCell]) [hRs, takeMarks, resA, resAll, resOne, Value.cells, body444, t8, t46, t47, t48, hsq, show ((i : Int) < x.gn) by omega, show i < x.gn by omega, idxSA_ok, hxb, ints_9, storeB_cells, setRange, set_push_eq]
    refine w477 (X := X) (gl := gl) (tl := tl) (ul := ul) (mp := mp) ((he.trans (Ext'.push _ _)).get hX) ((he.trans (Ext'.push _ _)).rdS hI.gl) hS.m hz hl fun A1 e1 => ?_
    have hE : x.gauS (i + 1) = x.gauE i := by rw [Site.gauS, if_pos h0]
    have e2 := (he.trans (Ext'.push _ _)).trans e1
    by_cases h1 : x.gauE i = 0
    · have h1' := h1
      unfold Site.gauE at h1'
      simp (disch := as_aux_lemma => first | omega | simp only [hDs] <;> omega | simp [isCell]) [hRs, takeMarks, resA, resAll, resOne, Value.cells, h1', t48, e5]
      refine ih (i + 1) (by omega) (by rw [hE, h1]) e2 ?_ ?_ ?_ ?_ ?_
      · exact fun j hj => by simp at hj; rcases hj with rfl; simp [hk.at]
      all_goals simp [t8, t46, t47, hsq]
    · have h1' := h1
      unfold Site.gauE at h1'
      simp (disch := as_aux_lemma => first | omega | simp only [hDs] <;> omega | simp [isCell]) [hRs, takeMarks, resA, resAll, resOne, Value.cells, h1']
      have hs := Site.gauS_stay (x := x) (i := i + 1) (by rw [hE]; exact h1) (k := x.gn) (by omega)
      rw [hE] at hs
      refine hR _ _ e2 (by rw [hs]; exact h1) (by simp) ?_
      simp [hs, Site.gauE]
theorem w444 {x : Site} {gl tl ul : Value} (hI : SiteIn A x gl tl ul) (hS : Small x) (hg : g ≤ A.n)
    (hE : ∀ A', Ext' A A' → x.E ≠ 0 → V (.tuple ⟨[.pointer none, .int .i64 x.E]⟩) A')
    (hK : ∀ A' X M, Ext' A A' → x.E = 0 → GrdOk x.m x.zs → TideOk x.mean x.pn x.ps → A.n ≤ X → A.n ≤ M → X ≠ M → A'.get X = some (.cells (x.st gl tl ul (.map (some M))) false) → A'.get M = some (.map [] none) → V (.tuple ⟨[.pointer (some ⟨X, 0, none⟩), .int .i64 0]⟩) A') :
    WF AP KL g 444 [.agg ⟨x.cells gl tl ul⟩] A V := by
  rw [WF_body rfl (show AP 444 = some F444 from rfl)]
  have hzl : x.zs.length = x.m * 2 := by have := hI.gl.1; simpa using this
  have hul := hI.ul.len
  have hm := hS.m
  have hpn := hS.pn
  have hgn := hS.gn
  unfold Site.E at hE hK
  simp (disch := as_aux_lemma => first | omega | simp only [hDs] <;> omega | simp [isCell]) [hRs, takeMarks, resA, resAll, resOne, Value.cells, F444, Site.cells]
  have eP := Ext'.push A (.cells (x.cells gl tl ul) false)
  have own : ∀ {A1 : Hp}, Ext' (A.push (.cells (x.cells gl tl ul) false)) A1 → A1.get A.n = some (.cells (x.cells gl tl ul) false) := fun e => own_get e
  unfold Site.cells at eP own
  refine w37 (w := x.w) (h := x.h) (s := x.s) (eP.rdS hI.gl) (by omega) fun A1 e1 => ?_
  have f1 := eP.trans e1
  by_cases h1 : gridE x.w x.h x.s x.m x.zs = 0
  · have o1 := own e1
    simp (disch := as_aux_lemma => first | omega | simp only [hDs] <;> omega | simp [isCell]) [hRs, takeMarks, resA, resAll, resOne, Value.cells, h1, o1]
    refine w468 (f1.rdS hI.tl) (by omega) (by have := f1.1; omega) fun A2 e2 => ?_
    have f2 := f1.trans e2
    have n2 := f2.1
    have o2 := e2.get o1
    unfold rangeV
    by_cases h2 : tideE x.mean x.pn x.ps = 0
    · have hok := tide_ok h2
      have hgo := grd_ok hzl h1
      have q1 : x.mean - ampS x.ps x.pn = x.lo := rfl
      have q2 : x.mean + ampS x.ps x.pn = x.hi := rfl
      simp (disch := as_aux_lemma => first | omega | simp only [hDs] <;> omega | simp [isCell]) [hRs, takeMarks, resA, resAll, resOne, Value.cells, h2, storeB_cells, setRange, set_push_eq, q1, q2]
      refine w476 fun A3 e3 => ?_
      have e23 := (Ext'.push A2 (.cells [.int .i64 x.lo, .int .i64 x.hi] false)).trans e3
      have s3 : A3.get A2.n = some (.cells [.int .i64 x.lo, .int .i64 x.hi] false) := own_get e3
      have f3 := f2.trans e23
      have o3 := e23.get o2
      cases h3 : validB x.lo x.hi (-20000) 20000 with
      | false =>
        simp (disch := as_aux_lemma => first | omega | simp only [hDs] <;> omega | simp [isCell]) [hRs, takeMarks, resA, resAll, resOne, Value.cells]
        have := hE _ f3
        simp [h1, h2, h3] at this
        exact this
      | true =>
        have hv := validB_iff.1 h3
        simp (disch := as_aux_lemma => first | omega | simp only [hDs] <;> omega | simp [isCell]) [hRs, takeMarks, resA, resAll, resOne, Value.cells, o3]
        refine w13 fun A4 e4 => ?_
        have f4 := f3.trans e4
        have o4 := e4.get o3
        have s4 := e4.get s3
        by_cases h4 : waveE x.k0 x.k1 x.l0 x.l1 x.o0 x.o1 = 0
        · by_cases h5 : 32 < x.gn
          · simp (disch := as_aux_lemma => first | omega | simp only [hDs] <;> omega | simp [isCell]) [hRs, takeMarks, resA, resAll, resOne, Value.cells, h4, o4, hul, show (32 : Int) < x.gn by omega]
            have := hE _ f4
            simp [h1, h2, h3, h4, h5] at this
            exact this
          · simp (disch := as_aux_lemma => first | omega | simp only [hDs] <;> omega | simp [isCell]) [hRs, takeMarks, resA, resAll, resOne, Value.cells, h4, o4, hul, show ¬ (32 : Int) < x.gn by omega, s4, fillA, setRange]
            generalize hB : (A4.push (.map [] none)).push (.cells [.int .i64 x.w, .int .i64 x.h, .int .i64 x.s, gl, .int .i64 x.mean, tl, .int .i64 x.k0, .int .i64 x.k1, .int .i64 x.l0, .int .i64 x.l1, .int .i64 x.o0, .int .i64 x.o1, ul, .int .i64 x.lo, .int .i64 x.hi, .map (some A4.n)] false) = B
            have eB : Ext' A4 B := by rw [← hB]; exact (Ext'.push _ _).trans (Ext'.push _ _)
            have bX : B.get (A4.n + 1) = some (.cells (x.st gl tl ul (.map (some A4.n))) false) := by rw [← hB, get_push_eq (by simp)]; rfl
            have bM : B.get A4.n = some (.map [] none) := by rw [← hB, get_push_old (by simp), get_push_new]
            have fB := f4.trans eB
            have bA := eB.get o4
            simp (disch := as_aux_lemma => first | omega | simp only [hDs] <;> omega | simp [isCell]) [hRs, takeMarks, resA, resAll, resOne, Value.cells, bA, hul]
            have nB := fB.1
            have n4 := f4.1
            refine loop444 (A0 := B) (X := A4.n + 1) (gl := gl) (tl := tl) (mp := .map (some A4.n)) (hI.ext fB) hS hgo (by omega) bX (by omega) ?_ ?_ x.gn 0 (by omega) rfl (Ext'.refl _) (fun j hj => rfl) (by simp) (by simp) (by simp) (by simp)
            · intro T' A' e h6 hk
              have k8 := hk.at 8 rfl
              simp at k8
              simp (disch := as_aux_lemma => first | omega | simp only [hDs] <;> omega | simp [isCell]) [hRs, takeMarks, resA, resAll, resOne, Value.cells, k8]
              exact hK A' (A4.n + 1) A4.n (fB.trans e) (by simp [h1, h2, h3, h4, h5, h6]) hgo hok (by omega) (by omega) (by omega) (e.get bX) (e.get bM)
            · intro T' A' e h6 t2 t3
              simp (disch := as_aux_lemma => first | omega | simp only [hDs] <;> omega | simp [isCell]) [hRs, takeMarks, resA, resAll, resOne, Value.cells, t2, t3]
              have := hE _ (fB.trans e)
              simp [h1, h2, h3, h4, h5, h6] at this
              exact this
        · simp (disch := as_aux_lemma => first | omega | simp only [hDs] <;> omega | simp [isCell]) [hRs, takeMarks, resA, resAll, resOne, Value.cells, h4]
          have := hE _ f4
          simp [h1, h2, h3, h4] at this
          exact this
    · simp (disch := as_aux_lemma => first | omega | simp only [hDs] <;> omega | simp [isCell]) [hRs, takeMarks, resA, resAll, resOne, Value.cells, h2, storeB_cells, setRange, set_push_eq]
      have := hE _ (f2.trans (Ext'.push A2 (.cells [.int .i64 0, .int .i64 0] false)))
      simp [h1, h2] at this
      exact this
  · simp (disch := as_aux_lemma => first | omega | simp only [hDs] <;> omega | simp [isCell]) [hRs, takeMarks, resA, resAll, resOne, Value.cells, h1]
    have := hE _ f1
    simp [h1] at this
    exact this
theorem w412 {x : Site} {gl tl ul : Value} (hI : SiteIn A x gl tl ul) (hS : Small x) (hg : g ≤ A.n) (hV : ∀ A', Ext' A A' → V (.int .i64 x.E) A') : WF AP KL g 412 [.agg ⟨x.cells gl tl ul⟩] A V := by
  rw [WF_body rfl (show AP 412 = some F412 from rfl)]
  simp (disch := as_aux_lemma => first | omega | simp only [hDs] <;> omega | simp [isCell]) [hRs, takeMarks, resA, resAll, resOne, Value.cells, F412, Site.cells]
  have eP := Ext'.push A (.cells (x.cells gl tl ul) false)
  unfold Site.cells at eP
  refine w444 (x := x) (hI.ext eP) hS (by simp; omega) (fun A' e h => ?_) (fun A' X M e h _ _ _ _ _ _ _ => ?_)
  · simp (disch := as_aux_lemma => first | omega | simp only [hDs] <;> omega | simp [isCell]) [hRs, takeMarks, resA, resAll, resOne, Value.cells]
    exact hV _ (eP.trans e)
  · simp (disch := as_aux_lemma => first | omega | simp only [hDs] <;> omega | simp [isCell]) [hRs, takeMarks, resA, resAll, resOne, Value.cells]
    exact hV' hV (eP.trans e) h
end
end Go.Ab.Gauge
