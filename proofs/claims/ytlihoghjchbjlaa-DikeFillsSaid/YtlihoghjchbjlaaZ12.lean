/- DikeFills. -/
import Derived.Test.YtlihoghjchbjlaaZ11
set_option linter.unusedSimpArgs false
set_option linter.unusedVariables false
set_option linter.unusedSectionVars false
namespace Go.Ab.Dike
open Go Go.Ab
def fillS (lo hi : Int) (zs ws : List Int) : Nat → Int × Int
  | 0 => (lo, hi)
  | i + 1 => (max 0 (wr .i64 (wr .i64 ((fillS lo hi zs ws i).1 + gi zs (i * 2)) - gi ws (i * 2 + 1))), max 0 (wr .i64 (wr .i64 ((fillS lo hi zs ws i).2 + gi zs (i * 2 + 1)) - gi ws (i * 2))))
def fillL (lo hi : Int) (zs ws : List Int) : Nat → List Int
  | 0 => []
  | i + 1 => fillL lo hi zs ws i ++ [(fillS lo hi zs ws (i + 1)).1, (fillS lo hi zs ws (i + 1)).2]
theorem fillL_length (lo hi : Int) (zs ws : List Int) : ∀ i, (fillL lo hi zs ws i).length = i * 2
  | 0 => rfl
  | i + 1 => by simp [fillL, fillL_length lo hi zs ws i]; omega
def maxV : Int := 1099511627776
def okF (zs ws : List Int) (i : Nat) : Bool := validB (gi zs (i * 2)) (gi zs (i * 2 + 1)) 0 maxV && validB (gi ws (i * 2)) (gi ws (i * 2 + 1)) 0 maxV
def fillE (lo hi : Int) (zs ws : List Int) (n m : Nat) : Int :=
  if validB lo hi 0 maxV = false then 3 else if n ≠ m then 11 else if 1000 < n then 9 else if (List.range n).all (okF zs ws) = true then 0 else 3
def FillOut (lo hi : Int) (zs ws : List Int) (n m N : Nat) (v : Value) (A' : Hp) : Prop :=
  ∃ sv, v = .tuple ⟨[sv, .int .i64 (fillE lo hi zs ws n m)]⟩ ∧ ((fillE lo hi zs ws n m ≠ 0 ∧ sv = .slice none 0 0) ∨ (fillE lo hi zs ws n m = 0 ∧ AccS N A' 2 (ints (fillL lo hi zs ws n)) sv))
section
variable {g : Nat} {rd : Option Nat} {T : List Value} {D : List Nat} {A : Hp} {Q : Ex → St → Prop} {V : Value → Hp → Prop}
theorem w162 {a b : Int} (hV : ∀ A', A.n ≤ A'.n → (∀ x, x < A.n → A'.get x = A.get x) → V (.bool (validB a b 0 maxV)) A') : WF AP KL g 162 [.agg ⟨[.int .i64 a, .int .i64 b]⟩] A V := by
  rw [WF_body (show KL 162 = none from rfl) (show AP 162 = some F162 from rfl)]
  simp (disch := as_aux_lemma => first | omega | simp only [hDs] <;> omega | simp [isCell]) [hRs, takeMarks, resA, resAll, resOne, Value.cells, F162]
  refine w160 fun A' n' o' => ?_
  simp (disch := as_aux_lemma => first | omega | simp only [hDs] <;> omega | simp [isCell]) [hRs, takeMarks, resA, resAll, resOne, Value.cells]
  exact hV A' (by rw [n']; simp; omega) fun x hx => by rw [o' x (by simp; omega), get_push_old hx]
theorem fill_add {N : Nat} {A : Hp} {lo hi : Int} {zs ws : List Int} {sv : Value} {i : Nat} (hacc : AccS N A 2 (ints (fillL lo hi zs ws i)) sv) (hg : g ≤ N) (hN : N ≤ A.n) (hi' : i < 100000) :
    ∃ sv' A', appendA g (A.push (.cells [.int .i64 (fillS lo hi zs ws (i + 1)).1, .int .i64 (fillS lo hi zs ws (i + 1)).2] false)) 2 16 sv (.slice (some ⟨A.n, 0, some 2⟩) 1 1) = some (sv', A') ∧ AccS N A' 2 (ints (fillL lo hi zs ws (i + 1))) sv' ∧ (∀ z, z < N → A'.get z = A.get z) ∧ A.n ≤ A'.n := by
  obtain ⟨sv', A', e, h1, h2, h3⟩ := hacc.add (g := g) (bytes := 16) (new := [.int .i64 (fillS lo hi zs ws (i + 1)).1, .int .i64 (fillS lo hi zs ws (i + 1)).2]) (ro := false) (n := i) hg hN rfl (by decide) rfl (by simp [fillL_length]) (by unfold room; omega)
  exact ⟨sv', A', e, by rw [fillL, ints_append]; exact h1, h2, h3⟩
theorem loop130 {A0 : Hp} {X N n : Nat} {lo hi : Int} {zs ws : List Int} {sa sb : Value} (ha : RdS A0 2 n (ints zs) sa) (hb : RdS A0 2 n (ints ws) sb) (hn : n ≤ 1000) (hX0 : A0.n ≤ X) (hXN : X < N) (hgX : g ≤ X) (hgN : g ≤ N)
    (herr : ∀ i T' A', i < n → okF zs ws i = false → A0.n ≤ A'.n → (∀ x, x < A0.n → A'.get x = A0.get x) → tget T' 6 = .slice none 0 0 → tget T' 7 = .int .i64 3 → Q .ret ⟨T', D, A'⟩)
    (hend : ∀ T' A' sv, (∀ i, i < n → okF zs ws i = true) → A0.n ≤ A'.n → (∀ x, x < A0.n → A'.get x = A0.get x) → AccS N A' 2 (ints (fillL lo hi zs ws n)) sv → tget T' 9 = sv → Q (.exit 1) ⟨T', D, A'⟩) :
    ∀ (k i : Nat) {T : List Value} {A : Hp} {sv : Value}, i + k = n → (∀ j, j < i → okF zs ws j = true) → (∀ x, x < A0.n → A.get x = A0.get x) → A0.n ≤ A.n → N ≤ A.n → A.get X = some (.cells [.int .i64 (fillS lo hi zs ws i).1, .int .i64 (fillS lo hi zs ws i).2] false) → AccS N A 2 (ints (fillL lo hi zs ws i)) sv →
      tget T 1 = sa → tget T 2 = sb → tget T 3 = .pointer (some ⟨X, 0, none⟩) → tget T 8 = .func (.func 162) ⟨[]⟩ ⟨[]⟩ → tget T 9 = sv → tget T 27 = .int .i64 n → tget T 28 = .int .i64 i → W AP KL g rd (.loop body130) ⟨T, D, A⟩ Q := by
  have hl := ha.1
  have hl2 := hb.1
  rw [ints_length] at hl hl2
  intro k
  induction k with
  | zero =>
    intro i T A sv hik hok hold hn0 hNn hX hacc h1 h2 h3 h8 h9 h27 h28
    have : i = n := by omega
    subst this
    rw [W_loop]
    simp (disch := as_aux_lemma => first | omega | simp only [hDs] <;> omega | simp [isCell]) [hRs, takeMarks, resA, resAll, resOne, Value.cells, body130, h27, h28]
    exact hend _ A sv hok hn0 hold hacc (by simp [h9])
  | succ k ih =>
    intro i T A sv hik hok hold hn0 hNn hX hacc h1 h2 h3 h8 h9 h27 h28
    obtain ⟨x, xc, xr, rfl, hx⟩ := (ha.mono hold).at (i := i) (by omega)
    obtain ⟨y, yc, yr, rfl, hy⟩ := (hb.mono hold).at (i := i) (by omega)
    have hxn := Hp.lt_of_get hx
    have hyn := Hp.lt_of_get hy
    have hXn := Hp.lt_of_get hX
    rw [W_loop]
    simp (disch := as_aux_lemma => first | omega | simp only [hDs] <;> omega | simp [isCell]) [hRs, takeMarks, resA, resAll, resOne, Value.cells, body130, h27, h28, h8, h1, show ((i : Int) < n) by omega, idxSA_ok, hx, ints_two]
    refine w162 fun A1 n1 o1 => ?_
    cases hv1 : validB (gi zs (i * 2)) (gi zs (i * 2 + 1)) 0 maxV with
    | false =>
      simp (disch := as_aux_lemma => first | omega | simp only [hDs] <;> omega | simp [isCell]) [hRs, takeMarks, resA, resAll, resOne, Value.cells]
      exact herr i _ A1 (by omega) (by simp [okF, hv1]) (by omega) (fun z hz => by rw [o1 z (by omega), hold z hz]) (by simp) (by simp)
    | true =>
      have hy1 := (o1 y hyn).trans hy
      simp (disch := as_aux_lemma => first | omega | simp only [hDs] <;> omega | simp [isCell]) [hRs, takeMarks, resA, resAll, resOne, Value.cells, h8, h2, idxSA_ok, hy1, ints_two]
      refine w162 fun A2 n2 o2 => ?_
      cases hv2 : validB (gi ws (i * 2)) (gi ws (i * 2 + 1)) 0 maxV with
      | false =>
        simp (disch := as_aux_lemma => first | omega | simp only [hDs] <;> omega | simp [isCell]) [hRs, takeMarks, resA, resAll, resOne, Value.cells]
        exact herr i _ A2 (by omega) (by simp [okF, hv2]) (by omega) (fun z hz => by rw [o2 z (by omega), o1 z (by omega), hold z hz]) (by simp) (by simp)
      | true =>
        have hk : ∀ z, z < A.n → A2.get z = A.get z := fun z hz => by rw [o2 z (by omega), o1 z hz]
        have hx2 := (hk x hxn).trans hx
        have hy2 := (hk y hyn).trans hy
        have hX2 := (hk X hXn).trans hX
        obtain ⟨B, hB⟩ : ∃ B, B = A2.set X (some (.cells [.int .i64 (fillS lo hi zs ws (i + 1)).1, .int .i64 (fillS lo hi zs ws (i + 1)).2] false)) := ⟨_, rfl⟩
        have hBx : ∀ z, z ≠ X → B.get z = A2.get z := fun z hz => by rw [hB, get_set_ne (by omega) hz]
        have hBX : B.get X = some (.cells [.int .i64 (fillS lo hi zs ws (i + 1)).1, .int .i64 (fillS lo hi zs ws (i + 1)).2] false) := by rw [hB]; exact get_set_same hX2
        have hBn : B.n = A2.n := by rw [hB]; rfl
        have haccB : AccS N B 2 (ints (fillL lo hi zs ws i)) sv := by
          rcases hacc with h | ⟨b, q, q1, q3, q4, q5, q6⟩
          · exact .inl h
          · exact .inr ⟨b, q, q1, by rw [hBx b (by omega), hk b (Hp.lt_of_get q3)]; exact q3, q4, q5, q6⟩
        obtain ⟨sv', A', e, hacc', hold', hn'⟩ := fill_add (g := g) haccB hgN (by omega) (by omega)
        have hB' : A2.set X (some (.cells [.int .i64 (max 0 (wr .i64 (wr .i64 ((fillS lo hi zs ws i).1 + gi zs (i * 2)) - gi ws (i * 2 + 1)))), .int .i64 (max 0 (wr .i64 (wr .i64 ((fillS lo hi zs ws i).2 + gi zs (i * 2 + 1)) - gi ws (i * 2))))] false)) = B := by rw [hB]; rfl
        simp (disch := as_aux_lemma => first | omega | simp only [hDs] <;> omega | simp [isCell]) [hRs, takeMarks, resA, resAll, resOne, Value.cells, h1, h2, h3, h9, h28, idxSA_ok, hx2, hy2, hX2, ints_get, storeB_cells, fillA, setRange, hB', hBX, slitA, e]
        have hok' : ∀ j, j < i + 1 → okF zs ws j = true := fun j hj => by
          rcases Nat.lt_or_ge j i with h | h
          · exact hok j h
          · have : j = i := by omega
            subst this; simp [okF, hv1, hv2]
        have hold2 : ∀ z, z < A0.n → A'.get z = A0.get z := fun z hz => by rw [hold' z (by omega), hBx z (by omega), hk z (by omega), hold z hz]
        exact ih (i + 1) (by omega) hok' hold2 (by omega) (by omega) (by rw [hold' X hXN]; exact hBX) hacc' (by simp [h1]) (by simp [h2]) (by simp [h3]) (by simp [h8]) (by simp) (by simp [h27]) (by simp [wrId (n := (i : Int) + 1) (by omega) (by omega), h28])
theorem all_okF {zs ws : List Int} {n : Nat} : (List.range n).all (okF zs ws) = true ↔ ∀ i, i < n → okF zs ws i = true := by
  simp [List.all_eq_true]
theorem not_all {zs ws : List Int} {n i : Nat} (hi : i < n) (h : okF zs ws i = false) : (List.range n).all (okF zs ws) = false := by
  rw [Bool.eq_false_iff]
  intro h1
  have := all_okF.1 h1 i hi
  rw [h] at this; cases this
theorem w130 {n m : Nat} {lo hi : Int} {zs ws : List Int} {sa sb : Value} (ha : RdS A 2 n (ints zs) sa) (hb : RdS A 2 m (ints ws) sb) (hn : n < 1000000) (hm : m < 1000000) (hg : g ≤ A.n) (hV : ∀ v A', A.n ≤ A'.n → (∀ x, x < A.n → A'.get x = A.get x) → FillOut lo hi zs ws n m A.n v A' → V v A') :
    WF AP KL g 130 [.agg ⟨[.int .i64 lo, .int .i64 hi]⟩, sa, sb] A V := by
  rw [WF_body (show KL 130 = none from rfl) (show AP 130 = some F130 from rfl)]
  simp (disch := as_aux_lemma => first | omega | simp only [hDs] <;> omega | simp [isCell]) [hRs, takeMarks, resA, resAll, resOne, Value.cells, F130]
  refine w162 fun A1 n1 o1 => ?_
  simp at n1 o1
  have hold : ∀ z, z < A.n → A1.get z = A.get z := fun z hz => by rw [o1 z (by omega), get_push_old hz]
  cases hv : validB lo hi 0 maxV with
  | false =>
    have he : fillE lo hi zs ws n m = 3 := by simp [fillE, hv]
    simp (disch := as_aux_lemma => first | omega | simp only [hDs] <;> omega | simp [isCell]) [hRs, takeMarks, resA, resAll, resOne, Value.cells]
    exact hV _ _ (by omega) hold ⟨_, by rw [he], .inl ⟨by rw [he]; decide, rfl⟩⟩
  | true =>
    by_cases hnm : n = m
    · subst hnm
      by_cases h1000 : (1000 : Int) < n
      · have he : fillE lo hi zs ws n n = 9 := by simp [fillE, hv, show 1000 < n by omega]
        simp (disch := as_aux_lemma => first | omega | simp only [hDs] <;> omega | simp [isCell]) [hRs, takeMarks, resA, resAll, resOne, Value.cells, ha.len, hb.len, h1000]
        exact hV _ _ (by omega) hold ⟨_, by rw [he], .inl ⟨by rw [he]; decide, rfl⟩⟩
      · simp (disch := as_aux_lemma => first | omega | simp only [hDs] <;> omega | simp [isCell]) [hRs, takeMarks, resA, resAll, resOne, Value.cells, ha.len, hb.len, h1000]
        have hX1 : A1.get A.n = some (.cells [.int .i64 lo, .int .i64 hi] false) := by rw [o1 A.n (by omega)]; simp
        refine loop130 (A0 := A) (X := A.n) (N := A.n + 1) (n := n) (lo := lo) (hi := hi) ha hb (by omega) (Nat.le_refl _) (by omega) hg (by omega) ?_ ?_ n 0 (by omega) (fun j h => absurd h (Nat.not_lt_zero _)) hold (by omega) (by omega) hX1 AccS.nil (by simp) (by simp) (by simp) (by simp) (by simp) (by simp) (by simp)
        · intro i T' A' hi' hok hA hold' h6 h7
          have he : fillE lo hi zs ws n n = 3 := by simp [fillE, hv, show ¬ 1000 < n by omega, not_all hi' hok]
          simp (disch := as_aux_lemma => first | omega | simp only [hDs] <;> omega | simp [isCell]) [hRs, takeMarks, resA, resAll, resOne, Value.cells, h6, h7]
          exact hV _ _ hA hold' ⟨_, by rw [he], .inl ⟨by rw [he]; decide, rfl⟩⟩
        · intro T' A' sv hok hA hold' hacc h9
          have he : fillE lo hi zs ws n n = 0 := by simp [fillE, hv, show ¬ 1000 < n by omega, all_okF.2 hok]
          simp (disch := as_aux_lemma => first | omega | simp only [hDs] <;> omega | simp [isCell]) [hRs, takeMarks, resA, resAll, resOne, Value.cells, h9]
          exact hV _ _ hA hold' ⟨_, by rw [he], .inr ⟨he, hacc.weaken (by omega)⟩⟩
    · have he : fillE lo hi zs ws n m = 11 := by simp [fillE, hv, hnm]
      simp (disch := as_aux_lemma => first | omega | simp only [hDs] <;> omega | simp [isCell]) [hRs, takeMarks, resA, resAll, resOne, Value.cells, ha.len, hb.len, show ¬ ((n : Int) = m) by omega]
      exact hV _ _ (by omega) hold ⟨_, by rw [he], .inl ⟨by rw [he]; decide, rfl⟩⟩
theorem loop131 {A0 : Hp} {n : Nat} {zs ws : List Int} {sa sb : Value} (ha : RdS A0 2 n (ints zs) sa) (hb : RdS A0 2 n (ints ws) sb) (hn : n ≤ 1000)
    (herr : ∀ i T' A', i < n → okF zs ws i = false → A0.n ≤ A'.n → (∀ x, x < A0.n → A'.get x = A0.get x) → tget T' 6 = .slice none 0 0 → tget T' 7 = .int .i64 3 → Q .ret ⟨T', D, A'⟩)
    (hend : ∀ T' A', (∀ i, i < n → okF zs ws i = true) → A0.n ≤ A'.n → (∀ x, x < A0.n → A'.get x = A0.get x) → tget T' 1 = sa → tget T' 2 = sb → tget T' 3 = tget T 3 → Q (.exit 0) ⟨T', D, A'⟩) :
    ∀ (k i : Nat) {T1 : List Value} {A : Hp}, i + k = n → (∀ j, j < i → okF zs ws j = true) → (∀ x, x < A0.n → A.get x = A0.get x) → A0.n ≤ A.n →
      tget T1 1 = sa → tget T1 2 = sb → tget T1 3 = tget T 3 → tget T1 8 = .int .i64 i → W AP KL g rd (.loop body131) ⟨T1, D, A⟩ Q := by
  have hl := ha.1
  have hl2 := hb.1
  rw [ints_length] at hl hl2
  intro k
  induction k with
  | zero =>
    intro i T1 A hik hok hold hn0 h1 h2 h3 h8
    have : i = n := by omega
    subst this
    rw [W_loop]
    simp (disch := as_aux_lemma => first | omega | simp only [hDs] <;> omega | simp [isCell]) [hRs, takeMarks, resA, resAll, resOne, Value.cells, body131, h1, h8, (ha.mono hold).len]
    exact hend _ A hok hn0 hold (by simp [h1]) (by simp [h2]) (by simp [h3])
  | succ k ih =>
    intro i T1 A hik hok hold hn0 h1 h2 h3 h8
    obtain ⟨x, xc, xr, rfl, hx⟩ := (ha.mono hold).at (i := i) (by omega)
    obtain ⟨y, yc, yr, rfl, hy⟩ := (hb.mono hold).at (i := i) (by omega)
    have hxn := Hp.lt_of_get hx
    have hyn := Hp.lt_of_get hy
    rw [W_loop]
    simp (disch := as_aux_lemma => first | omega | simp only [hDs] <;> omega | simp [isCell]) [hRs, takeMarks, resA, resAll, resOne, Value.cells, body131, h8, h1, show ((i : Int) < n) by omega, idxSA_ok, hx, ints_two]
    refine w159 fun A1 n1 o1 => ?_
    have hy1 := (o1 y hyn).trans hy
    cases hv1 : validB (gi zs (i * 2)) (gi zs (i * 2 + 1)) 0 maxV with
    | false =>
      rw [maxV] at hv1
      simp (disch := as_aux_lemma => first | omega | simp only [hDs] <;> omega | simp [isCell]) [hRs, takeMarks, resA, resAll, resOne, Value.cells, hv1]
      exact herr i _ A1 (by omega) (by simp [okF, hv1, maxV]) (by omega) (fun z hz => by rw [o1 z (by omega), hold z hz]) (by simp) (by simp)
    | true =>
      have hv1' := hv1
      rw [maxV] at hv1'
      simp (disch := as_aux_lemma => first | omega | simp only [hDs] <;> omega | simp [isCell]) [hRs, takeMarks, resA, resAll, resOne, Value.cells, hv1', h2, h8, idxSA_ok, hy1, ints_two]
      refine w159 fun A2 n2 o2 => ?_
      cases hv2 : validB (gi ws (i * 2)) (gi ws (i * 2 + 1)) 0 maxV with
      | false =>
        rw [maxV] at hv2
        simp (disch := as_aux_lemma => first | omega | simp only [hDs] <;> omega | simp [isCell]) [hRs, takeMarks, resA, resAll, resOne, Value.cells, hv2]
        exact herr i _ A2 (by omega) (by simp [okF, hv2, maxV]) (by omega) (fun z hz => by rw [o2 z (by omega), o1 z (by omega), hold z hz]) (by simp) (by simp)
      | true =>
        have hv2' := hv2
        rw [maxV] at hv2'
        simp (disch := as_aux_lemma => first | omega | simp only [hDs] <;> omega | simp [isCell]) [hRs, takeMarks, resA, resAll, resOne, Value.cells, hv2', h8]
        have hok' : ∀ j, j < i + 1 → okF zs ws j = true := fun j hj => by
          rcases Nat.lt_or_ge j i with h | h
          · exact hok j h
          · have : j = i := by omega
            subst this; simp [okF, hv1, hv2]
        have hold2 : ∀ z, z < A0.n → A2.get z = A0.get z := fun z hz => by rw [o2 z (by omega), o1 z (by omega), hold z hz]
        exact ih (i + 1) (by omega) hok' hold2 (by omega) (by simp [h1]) (by simp [h2]) (by simp [h3]) (by simp [wrId (n := (i : Int) + 1) (by omega) (by omega)])
theorem loop131b {A0 : Hp} {X N n : Nat} {lo hi : Int} {zs ws : List Int} {sa sb : Value} (ha : RdS A0 2 n (ints zs) sa) (hb : RdS A0 2 n (ints ws) sb) (hn : n ≤ 1000) (hX0 : A0.n ≤ X) (hXN : X < N) (hgX : g ≤ X) (hgN : g ≤ N)
    (hend : ∀ T' A' sv, A0.n ≤ A'.n → (∀ x, x < A0.n → A'.get x = A0.get x) → AccS N A' 2 (ints (fillL lo hi zs ws n)) sv → tget T' 9 = sv → Q (.exit 2) ⟨T', D, A'⟩) :
    ∀ (k i : Nat) {T : List Value} {A : Hp} {sv : Value}, i + k = n → (∀ x, x < A0.n → A.get x = A0.get x) → A0.n ≤ A.n → N ≤ A.n → A.get X = some (.cells [.int .i64 (fillS lo hi zs ws i).1, .int .i64 (fillS lo hi zs ws i).2] false) → AccS N A 2 (ints (fillL lo hi zs ws i)) sv →
      tget T 1 = sa → tget T 2 = sb → tget T 10 = .pointer (some ⟨X, 0, none⟩) → tget T 9 = sv → tget T 11 = .int .i64 i → W AP KL g rd (.loop body131b) ⟨T, D, A⟩ Q := by
  have hl := ha.1
  have hl2 := hb.1
  rw [ints_length] at hl hl2
  intro k
  induction k with
  | zero =>
    intro i T A sv hik hold hn0 hNn hX hacc h1 h2 h10 h9 h11
    have : i = n := by omega
    subst this
    rw [W_loop]
    simp (disch := as_aux_lemma => first | omega | simp only [hDs] <;> omega | simp [isCell]) [hRs, takeMarks, resA, resAll, resOne, Value.cells, body131b, h1, h11, (ha.mono hold).len]
    exact hend _ A sv hn0 hold hacc (by simp [h9])
  | succ k ih =>
    intro i T A sv hik hold hn0 hNn hX hacc h1 h2 h10 h9 h11
    obtain ⟨x, xc, xr, rfl, hx⟩ := (ha.mono hold).at (i := i) (by omega)
    obtain ⟨y, yc, yr, rfl, hy⟩ := (hb.mono hold).at (i := i) (by omega)
    have hxn := Hp.lt_of_get hx
    have hyn := Hp.lt_of_get hy
    have hXn := Hp.lt_of_get hX
    obtain ⟨B, hB⟩ : ∃ B, B = A.set X (some (.cells [.int .i64 (fillS lo hi zs ws (i + 1)).1, .int .i64 (fillS lo hi zs ws (i + 1)).2] false)) := ⟨_, rfl⟩
    have hBx : ∀ z, z ≠ X → B.get z = A.get z := fun z hz => by rw [hB, get_set_ne (by omega) hz]
    have hBX : B.get X = some (.cells [.int .i64 (fillS lo hi zs ws (i + 1)).1, .int .i64 (fillS lo hi zs ws (i + 1)).2] false) := by rw [hB]; exact get_set_same hX
    have hBn : B.n = A.n := by rw [hB]; rfl
    have haccB : AccS N B 2 (ints (fillL lo hi zs ws i)) sv := by
      rcases hacc with h | ⟨b, q, q1, q3, q4, q5, q6⟩
      · exact .inl h
      · exact .inr ⟨b, q, q1, by rw [hBx b (by omega)]; exact q3, q4, q5, q6⟩
    obtain ⟨sv', A', e, hacc', hold', hn'⟩ := fill_add (g := g) haccB hgN (by omega) (by omega)
    have hB' : A.set X (some (.cells [.int .i64 (max 0 (wr .i64 (wr .i64 ((fillS lo hi zs ws i).1 + gi zs (i * 2)) - gi ws (i * 2 + 1)))), .int .i64 (max 0 (wr .i64 (wr .i64 ((fillS lo hi zs ws i).2 + gi zs (i * 2 + 1)) - gi ws (i * 2))))] false)) = B := by rw [hB]; rfl
    rw [W_loop]
    simp (disch := as_aux_lemma => first | omega | simp only [hDs] <;> omega | simp [isCell]) [hRs, takeMarks, resA, resAll, resOne, Value.cells, body131b, h1, h2, h10, h9, h11, show ((i : Int) < n) by omega, idxSA_ok, hx, hy, hX, ints_get, storeB_cells, fillA, setRange, hB', hBX, slitA, e]
    have hold2 : ∀ z, z < A0.n → A'.get z = A0.get z := fun z hz => by rw [hold' z (by omega), hBx z (by omega), hold z hz]
    exact ih (i + 1) (by omega) hold2 (by omega) (by omega) (by rw [hold' X hXN]; exact hBX) hacc' (by simp [h1]) (by simp [h2]) (by simp [h10]) (by simp) (by simp [wrId (n := (i : Int) + 1) (by omega) (by omega)])
theorem w131 {n m : Nat} {lo hi : Int} {zs ws : List Int} {sa sb : Value} (ha : RdS A 2 n (ints zs) sa) (hb : RdS A 2 m (ints ws) sb) (hn : n < 1000000) (hm : m < 1000000) (hg : g ≤ A.n) (hV : ∀ v A', A.n ≤ A'.n → (∀ x, x < A.n → A'.get x = A.get x) → FillOut lo hi zs ws n m A.n v A' → V v A') :
    WF AP KL g 131 [.agg ⟨[.int .i64 lo, .int .i64 hi]⟩, sa, sb] A V := by
  rw [WF_body (show KL 131 = none from rfl) (show AP 131 = some F131 from rfl)]
  simp (disch := as_aux_lemma => first | omega | simp only [hDs] <;> omega | simp [isCell]) [hRs, takeMarks, resA, resAll, resOne, Value.cells, F131]
  refine w159 fun A1 n1 o1 => ?_
  simp at n1 o1
  have hold : ∀ z, z < A.n → A1.get z = A.get z := fun z hz => by rw [o1 z (by omega), get_push_old hz]
  cases hv : validB lo hi 0 maxV with
  | false =>
    have he : fillE lo hi zs ws n m = 3 := by simp [fillE, hv]
    rw [maxV] at hv
    simp (disch := as_aux_lemma => first | omega | simp only [hDs] <;> omega | simp [isCell]) [hRs, takeMarks, resA, resAll, resOne, Value.cells, hv]
    exact hV _ _ (by omega) hold ⟨_, by rw [he], .inl ⟨by rw [he]; decide, rfl⟩⟩
  | true =>
    have hv' := hv
    rw [maxV] at hv'
    by_cases hnm : n = m
    · subst hnm
      by_cases h1000 : (1000 : Int) < n
      · have he : fillE lo hi zs ws n n = 9 := by simp [fillE, hv, show 1000 < n by omega]
        simp (disch := as_aux_lemma => first | omega | simp only [hDs] <;> omega | simp [isCell]) [hRs, takeMarks, resA, resAll, resOne, Value.cells, hv', ha.len, hb.len, h1000]
        exact hV _ _ (by omega) hold ⟨_, by rw [he], .inl ⟨by rw [he]; decide, rfl⟩⟩
      · simp (disch := as_aux_lemma => first | omega | simp only [hDs] <;> omega | simp [isCell]) [hRs, takeMarks, resA, resAll, resOne, Value.cells, hv', ha.len, hb.len, h1000]
        have hX1 : A1.get A.n = some (.cells [.int .i64 lo, .int .i64 hi] false) := by rw [o1 A.n (by omega)]; simp
        obtain ⟨T0, hT0⟩ : ∃ T0 : List Value, tget T0 3 = .pointer (some ⟨A.n, 0, none⟩) := ⟨[undef, undef, undef, .pointer (some ⟨A.n, 0, none⟩)], rfl⟩
        have hB : ∀ z, z < (A.push (.cells [.int .i64 lo, .int .i64 hi] false)).n → A1.get z = (A.push (.cells [.int .i64 lo, .int .i64 hi] false)).get z := fun z hz => o1 z (by simpa using hz)
        refine loop131 (T := T0) (A0 := A.push (.cells [.int .i64 lo, .int .i64 hi] false)) (n := n) ha.push hb.push (by omega) ?_ ?_ n 0 (by omega) (fun j h => absurd h (Nat.not_lt_zero _)) hB (by simp; omega) (by simp) (by simp) (by simp [hT0]) (by simp)
        · intro i T' A' hi' hok hA hold' h6 h7
          have he : fillE lo hi zs ws n n = 3 := by simp [fillE, hv, show ¬ 1000 < n by omega, not_all hi' hok]
          simp (disch := as_aux_lemma => first | omega | simp only [hDs] <;> omega | simp [isCell]) [hRs, takeMarks, resA, resAll, resOne, Value.cells, h6, h7]
          simp at hA hold'
          exact hV _ _ (by omega) (fun z hz => by rw [hold' z (by omega), get_push_old hz]) ⟨_, by rw [he], .inl ⟨by rw [he]; decide, rfl⟩⟩
        · intro T' A' hok hA hold' h1 h2 h3
          have he : fillE lo hi zs ws n n = 0 := by simp [fillE, hv, show ¬ 1000 < n by omega, all_okF.2 hok]
          simp at hA hold'
          have hold2 : ∀ z, z < A.n → A'.get z = A.get z := fun z hz => by rw [hold' z (by omega), get_push_old hz]
          have hX2 : A'.get A.n = some (.cells [.int .i64 lo, .int .i64 hi] false) := by rw [hold' A.n (by omega)]; simp
          rw [hT0] at h3
          simp (disch := as_aux_lemma => first | omega | simp only [hDs] <;> omega | simp [isCell]) [hRs, takeMarks, resA, resAll, resOne, Value.cells, h1, h2, h3, hX2, storeB_cells, setRange]
          refine loop131b (A0 := A) (X := A'.n) (N := A'.n + 1) (n := n) (lo := lo) (hi := hi) ha hb (by omega) (by omega) (by omega) (by omega) (by omega) ?_ n 0 (by omega) (fun z hz => by rw [get_push_old (by omega), hold2 z hz]) (by simp; omega) (by simp) (by rw [get_push_eq (by simp)]; rfl) AccS.nil (by simp [h1]) (by simp [h2]) (by simp) (by simp) (by simp)
          intro T2 A2 sv hA2 hold3 hacc h9
          simp (disch := as_aux_lemma => first | omega | simp only [hDs] <;> omega | simp [isCell]) [hRs, takeMarks, resA, resAll, resOne, Value.cells, h9]
          exact hV _ _ hA2 hold3 ⟨_, by rw [he], .inr ⟨he, hacc.weaken (by omega)⟩⟩
    · have he : fillE lo hi zs ws n m = 11 := by simp [fillE, hv, hnm]
      simp (disch := as_aux_lemma => first | omega | simp only [hDs] <;> omega | simp [isCell]) [hRs, takeMarks, resA, resAll, resOne, Value.cells, hv', ha.len, hb.len, show ¬ ((n : Int) = m) by omega]
      exact hV _ _ (by omega) hold ⟨_, by rw [he], .inl ⟨by rw [he]; decide, rfl⟩⟩
end
end Go.Ab.Dike
namespace Go.Ab.Dike
open Go Go.Ab
section
variable {g : Nat} {A : Hp} {V : Value → Hp → Prop}
theorem law117 {n m : Nat} {lo hi : Int} {zs ws : List Int} {sa sb : Value} (ha : RdS A 2 n (ints zs) sa) (hb : RdS A 2 m (ints ws) sb) (hg : g ≤ A.n) (hV : ∀ A', V (.bool true) A') :
    WF AP KL g 117 [.agg ⟨[.int .i64 lo, .int .i64 hi]⟩, sa, sb] A V := by
  rw [WF_body (show KL 117 = none from rfl) (show AP 117 = some F117 from rfl)]
  have main : n < 1000000 → m < 1000000 → ∀ (Vm : Value → Hp → Prop), (∀ v A', A.n + 1 ≤ A'.n → (∀ x, x < A.n + 1 → A'.get x = (A.push (.cells [.int .i64 lo, .int .i64 hi] false)).get x) → FillOut lo hi zs ws n m (A.n + 1) v A' → Vm v A') →
      WF AP KL g 130 [.agg ⟨[.int .i64 lo, .int .i64 hi]⟩, sa, sb] (A.push (.cells [.int .i64 lo, .int .i64 hi] false)) Vm := fun hn hm Vm h => w130 ha.push hb.push hn hm (by simp; omega) fun v A' h1 h2 h3 => h v A' (by simpa using h1) (by simpa using h2) h3
  have rest : n < 1000000 → m < 1000000 → ∀ (A1 : Hp) (v1 : Value), A.n + 1 ≤ A1.n → (∀ x, x < A.n + 1 → A1.get x = (A.push (.cells [.int .i64 lo, .int .i64 hi] false)).get x) → FillOut lo hi zs ws n m (A.n + 1) v1 A1 →
      ∃ sv1, v1 = .tuple ⟨[sv1, .int .i64 (fillE lo hi zs ws n m)]⟩ ∧ A1.get A.n = some (.cells [.int .i64 lo, .int .i64 hi] false) ∧ ∀ Vm : Value → Hp → Prop, (∀ A2 sv2, (∀ Vs : Value → Hp → Prop, Vs (.bool true) A2 → WF AP KL g 125 [sv1, sv2] A2 Vs) → Vm (.tuple ⟨[sv2, .int .i64 (fillE lo hi zs ws n m)]⟩) A2) →
        WF AP KL g 131 [.agg ⟨[.int .i64 lo, .int .i64 hi]⟩, sa, sb] A1 Vm := by
    intro hn hm A1 v1 hA1 ho1 ⟨sv1, hv1, hc1⟩
    have hold : ∀ x, x < A.n → A1.get x = A.get x := fun x hx => by rw [ho1 x (by omega), get_push_old hx]
    refine ⟨sv1, hv1, by rw [ho1 A.n (by omega), get_push_new], fun Vm hVm => w131 (ha.mono hold) (hb.mono hold) hn hm (by omega) fun v2 A2 hA2 ho2 ⟨sv2, hv2, hc2⟩ => ?_⟩
    rw [hv2]
    refine hVm A2 sv2 fun Vs hVs => ?_
    rcases hc1 with ⟨he, rfl⟩ | ⟨he, hacc1⟩
    · rcases hc2 with ⟨_, rfl⟩ | ⟨he2, _⟩
      · exact w125 (n := 0) (zs := []) ⟨rfl, .inl ⟨rfl, rfl⟩⟩ ⟨rfl, .inl ⟨rfl, rfl⟩⟩ (by decide) hVs
      · exact absurd he2 he
    · rcases hc2 with ⟨he2, _⟩ | ⟨_, hacc2⟩
      · exact absurd he he2
      · have hl : (ints (fillL lo hi zs ws n)).length = n * 2 := by rw [ints_length, fillL_length]
        exact w125 ((hacc1.rd hl (by decide)).mono ho2) (hacc2.rd hl (by decide)) hn hVs
  have fin : n < 1000000 → m < 1000000 → ∀ {T : List Value} {D : List Nat}, True := fun _ _ => trivial
  by_cases h1 : (200 : Int) < n
  · by_cases h2 : (n : Int) ≤ 1000
    · simp (disch := as_aux_lemma => first | omega | simp only [hDs] <;> omega | simp [isCell]) [hRs, takeMarks, resA, resAll, resOne, Value.cells, F117, ha.len, hb.len, h1, h2]
      exact hV _
    · by_cases h3 : (1010 : Int) < n
      · simp (disch := as_aux_lemma => first | omega | simp only [hDs] <;> omega | simp [isCell]) [hRs, takeMarks, resA, resAll, resOne, Value.cells, F117, ha.len, hb.len, h1, h2, h3]
        exact hV _
      · by_cases h4 : (1010 : Int) < m
        · simp (disch := as_aux_lemma => first | omega | simp only [hDs] <;> omega | simp [isCell]) [hRs, takeMarks, resA, resAll, resOne, Value.cells, F117, ha.len, hb.len, h1, h2, h3, h4]
          exact hV _
        · simp (disch := as_aux_lemma => first | omega | simp only [hDs] <;> omega | simp [isCell]) [hRs, takeMarks, resA, resAll, resOne, Value.cells, F117, ha.len, hb.len, h1, h2, h3, h4]
          refine main (by omega) (by omega) _ fun v1 A1 hA1 ho1 hf => ?_
          obtain ⟨sv1, rfl, hX, hnext⟩ := rest (by omega) (by omega) A1 v1 hA1 ho1 hf
          simp (disch := as_aux_lemma => first | omega | simp only [hDs] <;> omega | simp [isCell]) [hRs, takeMarks, resA, resAll, resOne, Value.cells, hX]
          refine hnext _ fun A2 sv2 hs => ?_
          simp (disch := as_aux_lemma => first | omega | simp only [hDs] <;> omega | simp [isCell]) [hRs, takeMarks, resA, resAll, resOne, Value.cells]
          refine hs _ ?_
          simp (disch := as_aux_lemma => first | omega | simp only [hDs] <;> omega | simp [isCell]) [hRs, takeMarks, resA, resAll, resOne, Value.cells]
          exact hV _
  · by_cases h3 : (1010 : Int) < n
    · omega
    · by_cases h4 : (1010 : Int) < m
      · simp (disch := as_aux_lemma => first | omega | simp only [hDs] <;> omega | simp [isCell]) [hRs, takeMarks, resA, resAll, resOne, Value.cells, F117, ha.len, hb.len, h1, h3, h4]
        exact hV _
      · simp (disch := as_aux_lemma => first | omega | simp only [hDs] <;> omega | simp [isCell]) [hRs, takeMarks, resA, resAll, resOne, Value.cells, F117, ha.len, hb.len, h1, h3, h4]
        refine main (by omega) (by omega) _ fun v1 A1 hA1 ho1 hf => ?_
        obtain ⟨sv1, rfl, hX, hnext⟩ := rest (by omega) (by omega) A1 v1 hA1 ho1 hf
        simp (disch := as_aux_lemma => first | omega | simp only [hDs] <;> omega | simp [isCell]) [hRs, takeMarks, resA, resAll, resOne, Value.cells, hX]
        refine hnext _ fun A2 sv2 hs => ?_
        simp (disch := as_aux_lemma => first | omega | simp only [hDs] <;> omega | simp [isCell]) [hRs, takeMarks, resA, resAll, resOne, Value.cells]
        refine hs _ ?_
        simp (disch := as_aux_lemma => first | omega | simp only [hDs] <;> omega | simp [isCell]) [hRs, takeMarks, resA, resAll, resOne, Value.cells]
        exact hV _
end
end Go.Ab.Dike
