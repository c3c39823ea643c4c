/- Raise, the program's and the document's. -/
import Derived.Test.YtlihoghjchbjlaaZ11
set_option linter.unusedSimpArgs false
set_option linter.unusedVariables false
set_option linter.unusedSectionVars false
namespace Go.Ab.Dike
open Go Go.Ab
def firstE (f : Nat → Int) : Nat → Int
  | 0 => 0
  | k + 1 => if firstE f k = 0 then f k else firstE f k
theorem firstE_stays {f : Nat → Int} {i : Nat} {e : Int} (h : firstE f i = e) (he : e ≠ 0) : ∀ d, firstE f (i + d) = e
  | 0 => h
  | d + 1 => by
    have := firstE_stays h he d
    show (if firstE f (i + d) = 0 then f (i + d) else firstE f (i + d)) = e
    rw [this, if_neg he]
theorem firstE_at {f : Nat → Int} {i n : Nat} {e : Int} (h0 : firstE f i = 0) (hi : i < n) (he : f i = e) (hne : e ≠ 0) : firstE f n = e := by
  have h1 : firstE f (i + 1) = e := by show (if firstE f i = 0 then f i else firstE f i) = e; rw [if_pos h0]; exact he
  obtain ⟨d, rfl⟩ : ∃ d, n = i + 1 + d := ⟨n - (i + 1), by omega⟩
  exact firstE_stays h1 hne d
theorem firstE_next {f : Nat → Int} {i : Nat} (h0 : firstE f i = 0) (he : f i = 0) : firstE f (i + 1) = 0 := by
  show (if firstE f i = 0 then f i else firstE f i) = 0; rw [if_pos h0]; exact he
def secA (ss : List Int) (i : Nat) : Sec := ⟨gi ss (i * 8), gi ss (i * 8 + 1), gi ss (i * 8 + 2), gi ss (i * 8 + 3), gi ss (i * 8 + 4), gi ss (i * 8 + 5), gi ss (i * 8 + 6), gi ss (i * 8 + 7)⟩
theorem sec_part {ss : List Int} {i : Nat} (h : i * 8 + 8 ≤ ss.length) : partA (ints ss) (i * 8) (some 8) = some (.agg ⟨(secA ss i).cells⟩) := ints_8 h
def metL (ss : List Int) : Nat → List Int
  | 0 => []
  | k + 1 => metL ss k ++ [gi ss (k * 8)]
theorem mem_metL {ss : List Int} {c : Int} : ∀ {k : Nat}, c ∈ metL ss k ↔ ∃ j, j < k ∧ gi ss (j * 8) = c
  | 0 => by simp [metL]
  | k + 1 => by
    simp only [metL, List.mem_append, mem_metL (k := k), List.mem_singleton]
    constructor
    · rintro (⟨j, h1, h2⟩ | h)
      · exact ⟨j, by omega, h2⟩
      · exact ⟨k, by omega, h.symm⟩
    · rintro ⟨j, h1, h2⟩
      rcases Nat.lt_or_ge j k with h | h
      · exact .inl ⟨j, h, h2⟩
      · have : j = k := by omega
        subst this; exact .inr h2.symm
def metM (cs : List Int) : List (Value × Value) := cs.map fun c => (.int .i64 c, .bool true)
theorem find_met (c : Int) : ∀ cs : List Int, findM (.int .i64 c) (metM cs) = some (if c ∈ cs then some (.bool true) else none)
  | [] => by simp [metM, findM]
  | x :: cs => by
    have ih := find_met c cs
    simp only [metM, List.map_cons, findM, keyEq] at ih ⊢
    by_cases h : c = x
    · subst h; simp [kEq]
    · have e : (c == x) = false := by simpa using h
      simp only [kEq, if_true, e, ih]
      simp [h]
theorem set_met {c : Int} : ∀ {cs : List Int}, c ∉ cs → setM (.int .i64 c) (.bool true) (metM cs) = some (metM (cs ++ [c]))
  | [], _ => rfl
  | x :: cs, h => by
    have h1 : ¬ c = x := fun e => h (by simp [e])
    have ih := set_met (c := c) (cs := cs) fun e => h (List.mem_cons_of_mem _ e)
    have e : (c == x) = false := by simpa using h1
    simp only [metM, List.map_cons, setM, keyEq, kEq, if_true, e] at ih ⊢
    rw [ih]
    rfl
def stepE (m : Nat) (ss : List Int) (i : Nat) : Int :=
  if gi ss (i * 8) < 0 ∨ (m : Int) ≤ gi ss (i * 8) then 4 else if gi ss (i * 8) ∈ metL ss i then 5 else if (secA ss i).ok = false then 3 else 0
def checkE (w h s : Int) (m : Nat) (zs : List Int) (n : Nat) (ss : List Int) : Int := if gridE w h s m zs ≠ 0 then gridE w h s m zs else if 256 < n then 9 else firstE (stepE m ss) n
def body129 : ACode := (.seq
 (.seq
 (.ops [
oM 16 6,
oM 17 1,
oP 18 (.len (.t 17)),
oB 19 .lss 16 18])
 (.cond (.t 19)
 .skip
 (.exit 0)))
 (.seq
 (.block 1
 (.seq
 (.seq
 (.ops [
oM 22 1,
oM 23 6,
oI 24 22 23 8,
oF 25 24 0,
oL 26 25,
oC 27 .lss 26 0,
oM 28 27,
oN 29 28 false 1,
oN 30 28 false 6,
oQ 31 28 false (.idxS (.t 29) (.t 30) 8),
oQ 32 28 false (.fieldAddr (.t 31) 0),
oQ 33 28 false (.load (.t 32) none),
oQ 34 28 false (.fieldAddr (.t 2) 3),
oQ 35 28 false (.load (.t 34) none),
oQ 36 28 false (.len (.t 35)),
oQ 37 28 false (.bin .geq (.t 33) (.t 36)),
oP 38 (.pick (.t 28) (.k (.bool true)) (.t 37))])
 (.cond (.t 38)
 (.seq
 (.ops [
oP 4 (.move (oK 4))])
 .ret)
 .skip))
 (.seq
 (.seq
 (.ops [
oP 7 (.move (oK 0))])
 (.block 2
 (.loop
 (.seq
 (.seq
 (.ops [
oM 39 7,
oM 40 6,
oB 41 .lss 39 40])
 (.cond (.t 41)
 .skip
 (.exit 2)))
 (.seq
 (.block 3
 (.seq
 (.ops [
oM 44 1,
oM 45 7,
oI 46 44 45 8,
oF 47 46 0,
oL 48 47,
oM 49 1,
oM 50 6,
oI 51 49 50 8,
oF 52 51 0,
oL 53 52,
oB 54 .eql 48 53])
 (.cond (.t 54)
 (.seq
 (.ops [
oP 4 (.move (oK 5))])
 .ret)
 .skip)))
 (.ops [
oM 42 7,
oC 43 .add 42 1,
oM 7 43]))))))
 (.seq
 (.ops [
oM 55 1,
oM 56 6,
oI 57 55 56 8,
oD 58 57 8,
oA 59 158 [.t 58] false,
oP 60 (.not (.t 59))])
 (.cond (.t 60)
 (.seq
 (.ops [
oP 4 (.move (oK 3))])
 .ret)
 .skip)))))
 (.ops [
oM 20 6,
oC 21 .add 20 1,
oM 6 21])))
section
variable {g : Nat} {rd : Option Nat} {T : List Value} {D : List Nat} {A : Hp} {Q : Ex → St → Prop} {V : Value → Hp → Prop}
theorem loop128 {A0 : Hp} {X2 X6 m n : Nat} {zs ss : List Int} {sl gr w h s : Value} (hsl : RdS A0 8 n (ints ss) sl) (hgr : RdS A0 2 m (ints zs) gr) (hn : n < 1000000) (h2 : A0.get X2 = some (.cells [w, h, s, gr] false)) (hX6 : A0.n ≤ X6) (hg : g ≤ A0.n)
    (herr : ∀ T' A' e, firstE (stepE m ss) n = e → e ≠ 0 → Ext' A0 A' → tget T' 4 = .int .i64 e → Q .ret ⟨T', D, A'⟩)
    (hend : ∀ T' A', firstE (stepE m ss) n = 0 → Ext' A0 A' → Q (.exit 0) ⟨T', D, A'⟩) :
    ∀ (k i : Nat) {T1 : List Value} {A : Hp}, i + k = n → firstE (stepE m ss) i = 0 → Ext' A0 A → A.get X6 = some (.map (metM (metL ss i)) none) → tget T1 2 = .pointer (some ⟨X2, 0, none⟩) → tget T1 6 = .map (some X6) → tget T1 18 = sl → tget T1 19 = .int .i64 n → tget T1 20 = .int .i64 i →
      W AP KL g rd (.loop body128) ⟨T1, D, A⟩ Q := by
  have hzl := hsl.1
  rw [ints_length] at hzl
  intro k
  induction k with
  | zero =>
    intro i T1 A hik hok he h6 t2 t6 t18 t19 t20
    have : i = n := by omega
    subst this
    rw [W_loop]
    simp (disch := as_aux_lemma => first | omega | simp only [hDs] <;> omega | simp [isCell]) [hRs, takeMarks, resA, resAll, resOne, Value.cells, body128, t19, t20]
    exact hend _ A hok he
  | succ k ih =>
    intro i T1 A hik hok he h6 t2 t6 t18 t19 t20
    obtain ⟨x, c, ro, rfl, hx⟩ := (he.rdS hsl).at (i := i) (by omega)
    have hp := sec_part (ss := ss) (i := i) (by omega)
    have hgA := Nat.le_trans hg he.1
    have h6n := Hp.lt_of_get h6
    have h2A := he.get h2
    have h2n := Hp.lt_of_get h2
    have eP := he.trans (Ext'.push A (.cells (secA ss i).cells false))
    have hstep : stepE m ss i = if gi ss (i * 8) < 0 ∨ (m : Int) ≤ gi ss (i * 8) then 4 else if gi ss (i * 8) ∈ metL ss i then 5 else if (secA ss i).ok = false then 3 else 0 := rfl
    have hlen := (he.rdS hgr).len
    rw [W_loop]
    by_cases c1 : gi ss (i * 8) < 0
    · simp (disch := as_aux_lemma => first | omega | simp only [hDs] <;> omega | simp [isCell]) [hRs, takeMarks, resA, resAll, resOne, Value.cells, body128, t2, t18, t19, t20, show ((i : Int) < n) by omega, idxSA_ok, hx, hp, storeB_cells, setRange, Sec.cells, secA, set_push_eq, c1]
      exact herr _ _ 4 (firstE_at hok (by omega) (by rw [hstep, if_pos (.inl c1)]) (by decide)) (by decide) eP (by simp)
    · by_cases c2 : (m : Int) ≤ gi ss (i * 8)
      · simp (disch := as_aux_lemma => first | omega | simp only [hDs] <;> omega | simp [isCell]) [hRs, takeMarks, resA, resAll, resOne, Value.cells, body128, t2, t18, t19, t20, show ((i : Int) < n) by omega, idxSA_ok, hx, hp, storeB_cells, setRange, Sec.cells, secA, set_push_eq, c1, c2, h2A, hlen]
        exact herr _ _ 4 (firstE_at hok (by omega) (by rw [hstep, if_pos (.inr c2)]) (by decide)) (by decide) eP (by simp)
      · have n1 : ¬ (gi ss (i * 8) < 0 ∨ (m : Int) ≤ gi ss (i * 8)) := by omega
        have c2' : gi ss (i * 8) < m := by omega
        by_cases c3 : gi ss (i * 8) ∈ metL ss i
        · simp (disch := as_aux_lemma => first | omega | simp only [hDs] <;> omega | simp [isCell]) [hRs, takeMarks, resA, resAll, resOne, Value.cells, body128, t2, t6, t18, t19, t20, show ((i : Int) < n) by omega, idxSA_ok, hx, hp, storeB_cells, setRange, Sec.cells, secA, set_push_eq, c1, c2, h2A, hlen, lookupA, mapOf, h6, keyFits, find_met, c3]
          exact herr _ _ 5 (firstE_at hok (by omega) (by rw [hstep, if_neg n1, if_pos c3]) (by decide)) (by decide) eP (by simp)
        · simp (disch := as_aux_lemma => first | omega | simp only [hDs] <;> omega | simp [isCell]) [hRs, takeMarks, resA, resAll, resOne, Value.cells, body128, t2, t6, t18, t19, t20, show ((i : Int) < n) by omega, idxSA_ok, hx, hp, storeB_cells, setRange, Sec.cells, secA, set_push_eq, c1, c2, h2A, hlen, lookupA, mapOf, h6, keyFits, find_met, c3]
          refine w152 (S := secA ss i) fun A1 e1 => ?_
          have hn1 := e1.1
          cases c4 : (secA ss i).ok with
          | false =>
            simp (disch := as_aux_lemma => first | omega | simp only [hDs] <;> omega | simp [isCell]) [hRs, takeMarks, resA, resAll, resOne, Value.cells]
            exact herr _ _ 3 (firstE_at hok (by omega) (by rw [hstep, if_neg n1, if_neg c3, if_pos c4]) (by decide)) (by decide) (eP.trans e1) (by simp)
          | true =>
            have g6 := e1.get ((get_push_old h6n).trans h6)
            have g8 := e1.get (get_push_new (A := A) (b := (.cells (secA ss i).cells false)))
            have h6g : g ≤ X6 := by omega
            simp (disch := as_aux_lemma => first | omega | simp only [hDs] <;> omega | simp [isCell]) [hRs, takeMarks, resA, resAll, resOne, Value.cells, t6, t20, g8, Sec.cells, secA, mapSetA, g6, keyFits, set_met c3, h6g, storeV]
            refine ih (i + 1) (by omega) (firstE_next hok (by rw [hstep, if_neg n1, if_neg c3, c4]; rfl)) ?_ (get_set_same g6) (by simp [t2]) (by simp [t6]) (by simp [t18]) (by simp [t19]) (by simp [wrId (n := (i : Int) + 1) (by omega) (by omega)])
            exact ⟨by have := (eP.trans e1).1; simpa using this, fun z hz => by rw [get_set_ne (Hp.lt_of_get g6) (by omega)]; exact (eP.trans e1).2 z hz⟩
theorem w128 {w h s : Int} {m n : Nat} {zs ss : List Int} {gr sl : Value} (hgr : RdS A 2 m (ints zs) gr) (hm : m < 1000000) (hsl : RdS A 8 n (ints ss) sl) (hn : n < 1000000) (hg : g ≤ A.n) (hV : ∀ A', Ext' A A' → V (.int .i64 (checkE w h s m zs n ss)) A') : WF AP KL g 128 [gridV w h s gr, sl] A V := by
  rw [WF_body (show KL 128 = none from rfl) (show AP 128 = some F128 from rfl)]
  have eB := Ext'.push A (.cells [.int .i64 w, .int .i64 h, .int .i64 s, gr] false)
  obtain ⟨B, hB⟩ : ∃ B, B = A.push (.cells [.int .i64 w, .int .i64 h, .int .i64 s, gr] false) := ⟨_, rfl⟩
  have hBn : B.n = A.n + 1 := by rw [hB]; rfl
  have hX : B.get A.n = some (.cells [.int .i64 w, .int .i64 h, .int .i64 s, gr] false) := by rw [hB, get_push_new]
  rw [← hB] at eB
  simp (disch := as_aux_lemma => first | omega | simp only [hDs] <;> omega | simp [isCell]) [hRs, takeMarks, resA, resAll, resOne, Value.cells, F128, gridV, ← hB, hX]
  refine w37 (eB.rdS hgr) hm fun A1 e1 => ?_
  have hn1 := e1.1
  have hX1 := e1.get hX
  by_cases c1 : gridE w h s m zs = 0
  · by_cases c2 : (256 : Int) < n
    · have : checkE w h s m zs n ss = 9 := by rw [checkE, if_neg (by rw [c1]; simp), if_pos (by omega)]
      simp (disch := as_aux_lemma => first | omega | simp only [hDs] <;> omega | simp [isCell]) [hRs, takeMarks, resA, resAll, resOne, Value.cells, c1, hsl.len, c2]
      rw [← this]; exact hV _ (eB.trans e1)
    · have hE : checkE w h s m zs n ss = firstE (stepE m ss) n := by rw [checkE, if_neg (by rw [c1]; simp), if_neg (by omega)]
      simp (disch := as_aux_lemma => first | omega | simp only [hDs] <;> omega | simp [isCell]) [hRs, takeMarks, resA, resAll, resOne, Value.cells, c1, hsl.len, c2]
      have e2 := Ext'.push A1 (.map [] none)
      refine loop128 (A0 := A1) (X2 := A.n) (X6 := A1.n) (m := m) (n := n) (zs := zs) (ss := ss) (sl := sl) ((eB.trans e1).rdS hsl) ((eB.trans e1).rdS hgr) hn hX1 (Nat.le_refl _) (by omega) ?_ ?_ n 0 (by omega) rfl e2 (by rw [get_push_new]; rfl) (by simp) (by simp) (by simp) (by simp) (by simp)
      · intro T' A' e he hne ee t4
        simp (disch := as_aux_lemma => first | omega | simp only [hDs] <;> omega | simp [isCell]) [hRs, takeMarks, resA, resAll, resOne, Value.cells, t4]
        rw [← he, ← hE]; exact hV _ (eB.trans (e1.trans ee))
      · intro T' A' he ee
        simp (disch := as_aux_lemma => first | omega | simp only [hDs] <;> omega | simp [isCell]) [hRs, takeMarks, resA, resAll, resOne, Value.cells]
        rw [← he, ← hE]; exact hV _ (eB.trans (e1.trans ee))
  · have : checkE w h s m zs n ss = gridE w h s m zs := by rw [checkE, if_pos c1]
    simp (disch := as_aux_lemma => first | omega | simp only [hDs] <;> omega | simp [isCell]) [hRs, takeMarks, resA, resAll, resOne, Value.cells, c1]
    rw [← this]; exact hV _ (eB.trans e1)
theorem loop129i {n i : Nat} {ss : List Int} {sl : Value} (hsl : RdS A 8 n (ints ss) sl) (hin : i < n) (hn : n < 1000000)
    (herr : ∀ T' , gi ss (i * 8) ∈ metL ss i → tget T' 4 = .int .i64 5 → Q .ret ⟨T', D, A⟩)
    (hend : ∀ T', gi ss (i * 8) ∉ metL ss i → tget T' 1 = sl → tget T' 2 = tget T 2 → tget T' 6 = .int .i64 i → Q (.exit 2) ⟨T', D, A⟩) :
    ∀ (k j : Nat) {T1 : List Value}, j + k = i → gi ss (i * 8) ∉ metL ss j → tget T1 1 = sl → tget T1 2 = tget T 2 → tget T1 6 = .int .i64 i → tget T1 7 = .int .i64 j → W AP KL g rd (.loop body129i) ⟨T1, D, A⟩ Q := by
  have hzl := hsl.1
  rw [ints_length] at hzl
  obtain ⟨x, c, ro, rfl, hx⟩ := hsl.at (i := i) (by omega)
  intro k
  induction k with
  | zero =>
    intro j T1 hik hno t1 t2 t6 t7
    have : j = i := by omega
    subst this
    rw [W_loop]
    simp (disch := as_aux_lemma => first | omega | simp only [hDs] <;> omega | simp [isCell]) [hRs, takeMarks, resA, resAll, resOne, Value.cells, body129i, t6, t7]
    exact hend _ hno (by simp [t1]) (by simp [t2]) (by simp [t6])
  | succ k ih =>
    intro j T1 hik hno t1 t2 t6 t7
    rw [W_loop]
    by_cases h : gi ss (j * 8) = gi ss (i * 8)
    · simp (disch := as_aux_lemma => first | omega | simp only [hDs] <;> omega | simp [isCell]) [hRs, takeMarks, resA, resAll, resOne, Value.cells, body129i, t1, t6, t7, show ((j : Int) < i) by omega, idxSA_ok, hx, ints_get, h]
      exact herr _ (mem_metL.2 ⟨j, (by omega : j < i), h⟩) (by simp)
    · simp (disch := as_aux_lemma => first | omega | simp only [hDs] <;> omega | simp [isCell]) [hRs, takeMarks, resA, resAll, resOne, Value.cells, body129i, t1, t6, t7, show ((j : Int) < i) by omega, idxSA_ok, hx, ints_get, h]
      refine ih (j + 1) (by omega) ?_ (by simp [t1]) (by simp [t2]) (by simp [t6]) (by simp [wrId (n := (j : Int) + 1) (by omega) (by omega)])
      intro hm
      rcases List.mem_append.1 hm with h' | h'
      · exact hno h'
      · exact h (List.mem_singleton.1 h').symm
theorem loop129 {A0 : Hp} {X2 m n : Nat} {zs ss : List Int} {sl gr w h s : Value} (hsl : RdS A0 8 n (ints ss) sl) (hgr : RdS A0 2 m (ints zs) gr) (hn : n < 1000000) (h2 : A0.get X2 = some (.cells [w, h, s, gr] false)) (hg : g ≤ A0.n)
    (herr : ∀ T' A' e, firstE (stepE m ss) n = e → e ≠ 0 → Ext' A0 A' → tget T' 4 = .int .i64 e → Q .ret ⟨T', D, A'⟩)
    (hend : ∀ T' A', firstE (stepE m ss) n = 0 → Ext' A0 A' → Q (.exit 0) ⟨T', D, A'⟩) :
    ∀ (k i : Nat) {T1 : List Value} {A : Hp}, i + k = n → firstE (stepE m ss) i = 0 → Ext' A0 A → tget T1 1 = sl → tget T1 2 = .pointer (some ⟨X2, 0, none⟩) → tget T1 6 = .int .i64 i → W AP KL g rd (.loop body129) ⟨T1, D, A⟩ Q := by
  have hzl := hsl.1
  rw [ints_length] at hzl
  intro k
  induction k with
  | zero =>
    intro i T1 A hik hok he t1 t2 t6
    have : i = n := by omega
    subst this
    rw [W_loop]
    simp (disch := as_aux_lemma => first | omega | simp only [hDs] <;> omega | simp [isCell]) [hRs, takeMarks, resA, resAll, resOne, Value.cells, body129, t1, t6, (he.rdS hsl).len]
    exact hend _ A hok he
  | succ k ih =>
    intro i T1 A hik hok he t1 t2 t6
    have hsA := he.rdS hsl
    obtain ⟨x, c, ro, rfl, hx⟩ := hsA.at (i := i) (by omega)
    have hp := sec_part (ss := ss) (i := i) (by omega)
    have hgA := Nat.le_trans hg he.1
    have h2A := he.get h2
    have hstep : stepE m ss i = if gi ss (i * 8) < 0 ∨ (m : Int) ≤ gi ss (i * 8) then 4 else if gi ss (i * 8) ∈ metL ss i then 5 else if (secA ss i).ok = false then 3 else 0 := rfl
    have hlen := (he.rdS hgr).len
    have hlenS := hsA.len
    rw [W_loop]
    by_cases c1 : gi ss (i * 8) < 0
    · simp (disch := as_aux_lemma => first | omega | simp only [hDs] <;> omega | simp [isCell]) [hRs, takeMarks, resA, resAll, resOne, Value.cells, body129, t1, t2, t6, show ((i : Int) < n) by omega, idxSA_ok, hx, ints_get, c1]
      exact herr _ _ 4 (firstE_at hok (by omega) (by rw [hstep, if_pos (.inl c1)]) (by decide)) (by decide) he (by simp)
    · by_cases c2 : (m : Int) ≤ gi ss (i * 8)
      · simp (disch := as_aux_lemma => first | omega | simp only [hDs] <;> omega | simp [isCell]) [hRs, takeMarks, resA, resAll, resOne, Value.cells, body129, t1, t2, t6, show ((i : Int) < n) by omega, idxSA_ok, hx, ints_get, c1, c2, h2A, hlen]
        exact herr _ _ 4 (firstE_at hok (by omega) (by rw [hstep, if_pos (.inr c2)]) (by decide)) (by decide) he (by simp)
      · have n1 : ¬ (gi ss (i * 8) < 0 ∨ (m : Int) ≤ gi ss (i * 8)) := by omega
        have c2' : gi ss (i * 8) < m := by omega
        simp (disch := as_aux_lemma => first | omega | simp only [hDs] <;> omega | simp [isCell]) [hRs, takeMarks, resA, resAll, resOne, Value.cells, body129, t1, t2, t6, show ((i : Int) < n) by omega, idxSA_ok, hx, ints_get, c1, c2, h2A, hlen]
        refine loop129i (i := i) hsA (by omega) hn ?_ ?_ (T := T1) i 0 (by omega) (by simp [metL]) (by simp [t1]) (by simp) (by simp [t6]) (by simp)
        · intro T' hm t4
          simp only [BlkQ_ret, SeqQ_ret]
          exact herr _ _ 5 (firstE_at hok (by omega) (by rw [hstep, if_neg n1, if_pos hm]) (by decide)) (by decide) he t4
        · intro T' hm u1 u2 u6
          simp (disch := as_aux_lemma => first | omega | simp only [hDs] <;> omega | simp [isCell]) [hRs, takeMarks, resA, resAll, resOne, Value.cells, u1, u2, u6, idxSA_ok, hx, hp]
          refine w158 fun A1 e1 => ?_
          cases c4 : (secA ss i).ok with
          | false =>
            simp (disch := as_aux_lemma => first | omega | simp only [hDs] <;> omega | simp [isCell]) [hRs, takeMarks, resA, resAll, resOne, Value.cells]
            exact herr _ _ 3 (firstE_at hok (by omega) (by rw [hstep, if_neg n1, if_neg hm, if_pos c4]) (by decide)) (by decide) (he.trans e1) (by simp)
          | true =>
            simp (disch := as_aux_lemma => first | omega | simp only [hDs] <;> omega | simp [isCell]) [hRs, takeMarks, resA, resAll, resOne, Value.cells, u6]
            exact ih (i + 1) (by omega) (firstE_next hok (by rw [hstep, if_neg n1, if_neg hm, c4]; rfl)) (he.trans e1) (by simp [u1]) (by simp [u2, t2]) (by simp [wrId (n := (i : Int) + 1) (by omega) (by omega)])
theorem w129 {w h s : Int} {m n : Nat} {zs ss : List Int} {gr sl : Value} (hgr : RdS A 2 m (ints zs) gr) (hm : m < 1000000) (hsl : RdS A 8 n (ints ss) sl) (hn : n < 1000000) (hg : g ≤ A.n) (hV : ∀ A', Ext' A A' → V (.int .i64 (checkE w h s m zs n ss)) A') : WF AP KL g 129 [gridV w h s gr, sl] A V := by
  rw [WF_body (show KL 129 = none from rfl) (show AP 129 = some F129 from rfl)]
  have eB := Ext'.push A (.cells [.int .i64 w, .int .i64 h, .int .i64 s, gr] false)
  obtain ⟨B, hB⟩ : ∃ B, B = A.push (.cells [.int .i64 w, .int .i64 h, .int .i64 s, gr] false) := ⟨_, rfl⟩
  have hBn : B.n = A.n + 1 := by rw [hB]; rfl
  have hX : B.get A.n = some (.cells [.int .i64 w, .int .i64 h, .int .i64 s, gr] false) := by rw [hB, get_push_new]
  rw [← hB] at eB
  simp (disch := as_aux_lemma => first | omega | simp only [hDs] <;> omega | simp [isCell]) [hRs, takeMarks, resA, resAll, resOne, Value.cells, F129, gridV, ← hB, hX]
  refine w40 (eB.rdS hgr) hm (by omega) fun A1 e1 => ?_
  have hn1 := e1.1
  have hX1 := e1.get hX
  by_cases c1 : gridE w h s m zs = 0
  · by_cases c2 : (256 : Int) < n
    · have : checkE w h s m zs n ss = 9 := by rw [checkE, if_neg (by rw [c1]; simp), if_pos (by omega)]
      simp (disch := as_aux_lemma => first | omega | simp only [hDs] <;> omega | simp [isCell]) [hRs, takeMarks, resA, resAll, resOne, Value.cells, c1, hsl.len, c2]
      rw [← this]; exact hV _ (eB.trans e1)
    · have hE : checkE w h s m zs n ss = firstE (stepE m ss) n := by rw [checkE, if_neg (by rw [c1]; simp), if_neg (by omega)]
      simp (disch := as_aux_lemma => first | omega | simp only [hDs] <;> omega | simp [isCell]) [hRs, takeMarks, resA, resAll, resOne, Value.cells, c1, hsl.len, c2]
      refine loop129 (A0 := A1) (X2 := A.n) (m := m) (n := n) (zs := zs) (ss := ss) (sl := sl) ((eB.trans e1).rdS hsl) ((eB.trans e1).rdS hgr) hn hX1 (by omega) ?_ ?_ n 0 (by omega) rfl (Ext'.refl _) (by simp) (by simp) (by simp)
      · intro T' A' e he hne ee t4
        simp (disch := as_aux_lemma => first | omega | simp only [hDs] <;> omega | simp [isCell]) [hRs, takeMarks, resA, resAll, resOne, Value.cells, t4]
        rw [← he, ← hE]; exact hV _ (eB.trans (e1.trans ee))
      · intro T' A' he ee
        simp (disch := as_aux_lemma => first | omega | simp only [hDs] <;> omega | simp [isCell]) [hRs, takeMarks, resA, resAll, resOne, Value.cells]
        rw [← he, ← hE]; exact hV _ (eB.trans (e1.trans ee))
  · have : checkE w h s m zs n ss = gridE w h s m zs := by rw [checkE, if_pos c1]
    simp (disch := as_aux_lemma => first | omega | simp only [hDs] <;> omega | simp [isCell]) [hRs, takeMarks, resA, resAll, resOne, Value.cells, c1]
    rw [← this]; exact hV _ (eB.trans e1)
end
end Go.Ab.Dike
namespace Go.Ab.Dike
open Go Go.Ab
theorem part4 {cs : List Value} {o : Nat} {a b c d : Value} (h0 : cellAt cs o = some a) (h1 : cellAt cs (o + 1) = some b) (h2 : cellAt cs (o + 2) = some c) (h3 : cellAt cs (o + 3) = some d) : partA cs o (some 4) = some (.agg ⟨[a, b, c, d]⟩) := by
  have l3 := (List.getElem?_eq_some_iff.1 (show cs[o + 3]? = some d from h3)).1
  rw [partA_some (by omega)]
  congr 3
  apply List.ext_getElem?
  intro i
  rw [List.getElem?_take]
  by_cases hi : i < 4
  · rw [if_pos hi, List.getElem?_drop]
    have : i = 0 ∨ i = 1 ∨ i = 2 ∨ i = 3 := by omega
    rcases this with rfl | rfl | rfl | rfl
    · exact h0
    · exact h1
    · exact h2
    · exact h3
  · rw [if_neg hi]
    exact (List.getElem?_eq_none (by simp; omega)).symm
structure FT where
  cn : Nat
  cz : List Int
  sn : Nat
  sz : List Int
  may : Int
  must : Int
def FateAt (A : Hp) (cells : List Value) (i : Nat) (f : FT) : Prop :=
  ∃ a b, partA cells (i * 4) (some 4) = some (fateV a b f.may f.must) ∧ cellAt cells (i * 4) = some a ∧ cellAt cells (i * 4 + 1) = some b ∧ cellAt cells (i * 4 + 2) = some (.int .i64 f.may) ∧ cellAt cells (i * 4 + 3) = some (.int .i64 f.must) ∧ RdS A 2 f.cn (ints f.cz) a ∧ RdS A 2 f.sn (ints f.sz) b
def Fates (A : Hp) (n : Nat) (F : Nat → FT) (sl : Value) : Prop := ∃ cells, RdS A 4 n cells sl ∧ ∀ i, i < n → FateAt A cells i (F i)
theorem FateAt.mono {A A' : Hp} {cells : List Value} {i : Nat} {f : FT} (h : FateAt A cells i f) (hA : ∀ z, z < A.n → A'.get z = A.get z) : FateAt A' cells i f := by
  obtain ⟨a, b, h1, h2, h3, h4, h5, h6, h7⟩ := h
  exact ⟨a, b, h1, h2, h3, h4, h5, h6.mono hA, h7.mono hA⟩
theorem Fates.mono {A A' : Hp} {n : Nat} {F : Nat → FT} {sl : Value} (h : Fates A n F sl) (hA : ∀ z, z < A.n → A'.get z = A.get z) : Fates A' n F sl := by
  obtain ⟨cells, h1, h2⟩ := h
  exact ⟨cells, h1.mono hA, fun i hi => (h2 i hi).mono hA⟩
theorem Fates.ext {A A' : Hp} {n : Nat} {F : Nat → FT} {sl : Value} (h : Fates A n F sl) (he : Ext' A A') : Fates A' n F sl := h.mono he.2
theorem Fates.len {A : Hp} {n : Nat} {F : Nat → FT} {sl : Value} (h : Fates A n F sl) : lenV sl = some (.int .i64 n) := by obtain ⟨_, h1, _⟩ := h; exact h1.len
theorem Fates.at {A : Hp} {n i : Nat} {F : Nat → FT} {sl : Value} (h : Fates A n F sl) (hi : i < n) : ∃ x c ro cells, sl = .slice (some ⟨x, 0, some 4⟩) n c ∧ A.get x = some (.cells cells ro) ∧ FateAt A cells i (F i) := by
  obtain ⟨cells, h1, h2⟩ := h
  obtain ⟨x, c, ro, h3, h4⟩ := h1.at hi
  exact ⟨x, c, ro, cells, h3, h4, h2 i hi⟩
theorem _root_.Go.Ab.RdS.isSlice {A : Hp} {k n : Nat} {cs : List Value} {sv : Value} (h : RdS A k n cs sv) : ∃ p c, sv = .slice p n c := by
  rcases h with ⟨_, ⟨rfl, rfl⟩ | ⟨b, c, ro, rfl, _⟩⟩
  · exact ⟨_, _, rfl⟩
  · exact ⟨_, _, rfl⟩
theorem But.trans {x : Nat} {A B C : Hp} (h : But x A B) (h' : But x B C) : But x A C := ⟨Nat.le_trans h.1 h'.1, fun z hz hx => (h'.2 z (Nat.lt_of_lt_of_le hz h.1) hx).trans (h.2 z hz hx)⟩
def fateE (F : Nat → FT) (step : Int) (i : Nat) : Int := if ((F i).cn : Int) ≤ step then 11 else if validB (gi (F i).cz (step.toNat * 2)) (gi (F i).cz (step.toNat * 2 + 1)) (-1200000) 1200000 = false then 3 else 0
theorem fateE_a {F : Nat → FT} {step : Int} {i : Nat} (h : ((F i).cn : Int) ≤ step) : fateE F step i = 11 := if_pos h
theorem fateE_b {F : Nat → FT} {step : Int} {i : Nat} (h : ¬ ((F i).cn : Int) ≤ step) (h2 : validB (gi (F i).cz (step.toNat * 2)) (gi (F i).cz (step.toNat * 2 + 1)) (-1200000) 1200000 = false) : fateE F step i = 3 := by rw [fateE, if_neg h, if_pos h2]
theorem fateE_c {F : Nat → FT} {step : Int} {i : Nat} (h : ¬ ((F i).cn : Int) ≤ step) (h2 : validB (gi (F i).cz (step.toNat * 2)) (gi (F i).cz (step.toNat * 2 + 1)) (-1200000) 1200000 = true) : fateE F step i = 0 := by rw [fateE, if_neg h, h2]; rfl
theorem fateE_len {F : Nat → FT} {step : Int} {i : Nat} (h : fateE F step i = 0) : ¬ ((F i).cn : Int) ≤ step := fun h' => by rw [fateE_a h'] at h; cases h
theorem firstE_all {f : Nat → Int} : ∀ {n : Nat}, firstE f n = 0 → ∀ i, i < n → f i = 0
  | n + 1, h, i, hi => by
    have h0 : firstE f n = 0 := by
      rcases Decidable.em (firstE f n = 0) with h' | h'
      · exact h'
      · have := firstE_stays (rfl : firstE f n = firstE f n) h' 1
        rw [h] at this; exact absurd this.symm h'
    rcases Nat.lt_or_ge i n with h' | h'
    · exact firstE_all h0 i h'
    · have : i = n := by omega
      subst this
      have : firstE f (i + 1) = if firstE f i = 0 then f i else firstE f i := rfl
      rw [h0, if_pos rfl, h] at this; exact this.symm
section
variable {g : Nat} {rd : Option Nat} {T : List Value} {D : List Nat} {A : Hp} {Q : Ex → St → Prop} {V : Value → Hp → Prop}
def zGrid : ABlk := .cells [.int .i64 0, .int .i64 0, .int .i64 0, .slice none 0 0] false
theorem loop126a {A0 : Hp} {X8 n : Nat} {F : Nat → FT} {st : Nat} {fl : Value} (hfl : Fates A0 n F fl) (hn : n < 1000000) (h8 : A0.get X8 = some zGrid) (hg : g ≤ X8)
    (herr : ∀ T' A' e, firstE (fateE F st) n = e → e ≠ 0 → But X8 A0 A' → A'.get X8 = some zGrid → tget T' 8 = .pointer (some ⟨X8, 0, none⟩) → tget T' 9 = .int .i64 e → Q .ret ⟨T', D, A'⟩)
    (hend : ∀ T' A', firstE (fateE F st) n = 0 → Ext' A0 A' → KeepT [1, 2, 3, 4, 8] T T' → Q (.exit 1) ⟨T', D, A'⟩) (t3 : tget T 3 = .int .i64 st) (t8 : tget T 8 = .pointer (some ⟨X8, 0, none⟩)) :
    ∀ (k i : Nat) {T1 : List Value} {A : Hp}, i + k = n → firstE (fateE F st) i = 0 → Ext' A0 A → KeepT [1, 2, 3, 4, 8] T T1 → tget T1 37 = fl → tget T1 38 = .int .i64 n → tget T1 39 = .int .i64 i → W AP KL g rd (.loop body126a) ⟨T1, D, A⟩ Q := by
  intro k
  induction k with
  | zero =>
    intro i T1 A hik hok he hk t37 t38 t39
    have : i = n := by omega
    subst this
    rw [W_loop]
    simp (disch := as_aux_lemma => first | omega | simp only [hDs] <;> omega | simp [isCell]) [hRs, takeMarks, resA, resAll, resOne, Value.cells, body126a, t38, t39]
    exact hend _ A hok he (hk.trans (by simp))
  | succ k ih =>
    intro i T1 A hik hok he hk t37 t38 t39
    obtain ⟨x, c, ro, cells, rfl, hx, a, b, p1, p2, p3, p4, p5, ra, rb⟩ := (hfl.ext he).at (i := i) (by omega)
    have u3 := (hk.at 3 rfl).trans t3
    have u8 := (hk.at 8 rfl).trans t8
    have g8 := he.get h8
    have h8n := Hp.lt_of_get h8
    have hA0 := he.1
    obtain ⟨pa, ca, rfl⟩ := ra.isSlice
    obtain ⟨pb, cb, rfl⟩ := rb.isSlice
    have hzl := ra.1
    rw [ints_length] at hzl
    rw [W_loop]
    by_cases c1 : ((F i).cn : Int) ≤ st
    · simp (disch := as_aux_lemma => first | omega | simp only [hDs] <;> omega | simp [isCell]) [hRs, takeMarks, resA, resAll, resOne, Value.cells, body126a, u3, u8, t37, t38, t39, show ((i : Int) < n) by omega, idxSA_ok, hx, p1, fateV, storeB_cells, setRange, ra.len, c1, fillA, g8, zGrid]
      refine herr _ _ 11 (firstE_at hok (by omega) (fateE_a c1) (by decide)) (by decide) (But.trans (But.of_ext he) ⟨by simp, fun z hz hz8 => by rw [get_push_old (by simpa using hz), get_set_ne (by omega) hz8]⟩) ?_ (by simp [u8]) (by simp)
      rw [get_push_old (by simp; omega), get_set_same g8]; rfl
    · obtain ⟨y, c', ro', hy0, hy⟩ := ra.at (i := st) (by omega)
      cases hy0
      have hyn := Hp.lt_of_get hy
      simp (disch := as_aux_lemma => first | omega | simp only [hDs] <;> omega | simp [isCell]) [hRs, takeMarks, resA, resAll, resOne, Value.cells, body126a, u3, u8, t37, t38, t39, show ((i : Int) < n) by omega, idxSA_ok, hx, p1, fateV, storeB_cells, setRange, ra.len, c1, hy, ints_two]
      refine w160 fun A1 n1 o1 => ?_
      have e1 := (Ext'.push A (.cells [.slice (some ⟨y, 0, some 2⟩) (F i).cn ca, .slice pb (F i).sn cb, .int .i64 (F i).may, .int .i64 (F i).must] false)).trans (show Ext' _ A1 from ⟨by omega, o1⟩)
      have g81 := e1.get g8
      cases c2 : validB (gi (F i).cz (st * 2)) (gi (F i).cz (st * 2 + 1)) (-1200000) 1200000 with
      | false =>
        simp (disch := as_aux_lemma => first | omega | simp only [hDs] <;> omega | simp [isCell]) [hRs, takeMarks, resA, resAll, resOne, Value.cells, u8, fillA, g81, zGrid, storeB_cells, setRange]
        exact herr _ _ 3 (firstE_at hok (by omega) (fateE_b c1 (by simpa using c2)) (by decide)) (by decide) (But.trans (But.of_ext he) (But.set (by omega) e1)) (get_set_same g81) (by simp [u8]) (by simp)
      | true =>
        simp (disch := as_aux_lemma => first | omega | simp only [hDs] <;> omega | simp [isCell]) [hRs, takeMarks, resA, resAll, resOne, Value.cells, t39]
        exact ih (i + 1) (by omega) (firstE_next hok (fateE_c c1 (by simpa using c2))) (he.trans e1) (hk.trans (by simp)) (by simp [t37]) (by simp [t38]) (by simp [wrId (n := (i : Int) + 1) (by omega) (by omega)])
theorem loop127a {A0 : Hp} {X8 n : Nat} {F : Nat → FT} {st : Nat} {fl : Value} (hfl : Fates A0 n F fl) (hn : n < 1000000) (h8 : A0.get X8 = some zGrid) (hg : g ≤ X8)
    (herr : ∀ T' A' e, firstE (fateE F st) n = e → e ≠ 0 → But X8 A0 A' → A'.get X8 = some zGrid → tget T' 8 = .pointer (some ⟨X8, 0, none⟩) → tget T' 9 = .int .i64 e → Q .ret ⟨T', D, A'⟩)
    (hend : ∀ T' A', firstE (fateE F st) n = 0 → Ext' A0 A' → KeepT [1, 2, 3, 4, 8] T T' → Q (.exit 0) ⟨T', D, A'⟩) (t2 : tget T 2 = fl) (t3 : tget T 3 = .int .i64 st) (t8 : tget T 8 = .pointer (some ⟨X8, 0, none⟩)) :
    ∀ (k i : Nat) {T1 : List Value} {A : Hp}, i + k = n → firstE (fateE F st) i = 0 → Ext' A0 A → KeepT [1, 2, 3, 4, 8] T T1 → tget T1 11 = .int .i64 i → W AP KL g rd (.loop body127a) ⟨T1, D, A⟩ Q := by
  intro k
  induction k with
  | zero =>
    intro i T1 A hik hok he hk t11
    have : i = n := by omega
    subst this
    have u2 := (hk.at 2 rfl).trans t2
    rw [W_loop]
    simp (disch := as_aux_lemma => first | omega | simp only [hDs] <;> omega | simp [isCell]) [hRs, takeMarks, resA, resAll, resOne, Value.cells, body127a, u2, t11, (hfl.ext he).len]
    exact hend _ A hok he (hk.trans (by simp))
  | succ k ih =>
    intro i T1 A hik hok he hk t11
    have hlen := (hfl.ext he).len
    obtain ⟨x, c, ro, cells, rfl, hx, a, b, p1, p2, p3, p4, p5, ra, rb⟩ := (hfl.ext he).at (i := i) (by omega)
    have u2 := (hk.at 2 rfl).trans t2
    have u3 := (hk.at 3 rfl).trans t3
    have u8 := (hk.at 8 rfl).trans t8
    have g8 := he.get h8
    have h8n := Hp.lt_of_get h8
    have hA0 := he.1
    have hzl := ra.1
    rw [ints_length] at hzl
    rw [W_loop]
    by_cases c1 : ((F i).cn : Int) ≤ st
    · simp (disch := as_aux_lemma => first | omega | simp only [hDs] <;> omega | simp [isCell]) [hRs, takeMarks, resA, resAll, resOne, Value.cells, body127a, u2, u3, u8, t11, hlen, show ((i : Int) < n) by omega, idxSA_ok, hx, p2, storeB_cells, setRange, ra.len, c1, fillA, g8, zGrid]
      exact herr _ _ 11 (firstE_at hok (by omega) (fateE_a c1) (by decide)) (by decide) (But.trans (But.of_ext he) (But.set (by omega) (Ext'.refl _))) (get_set_same g8) (by simp [u8]) (by simp)
    · obtain ⟨y, c', ro', rfl, hy⟩ := ra.at (i := st) (by omega)
      have hyn := Hp.lt_of_get hy
      simp (disch := as_aux_lemma => first | omega | simp only [hDs] <;> omega | simp [isCell]) [hRs, takeMarks, resA, resAll, resOne, Value.cells, body127a, u2, u3, u8, t11, hlen, show ((i : Int) < n) by omega, idxSA_ok, hx, p2, ra.len, c1, hy, ints_two]
      refine w159 fun A1 n1 o1 => ?_
      have e1 : Ext' A A1 := ⟨by omega, o1⟩
      have g81 := e1.get g8
      cases c2 : validB (gi (F i).cz (st * 2)) (gi (F i).cz (st * 2 + 1)) (-1200000) 1200000 with
      | false =>
        simp (disch := as_aux_lemma => first | omega | simp only [hDs] <;> omega | simp [isCell]) [hRs, takeMarks, resA, resAll, resOne, Value.cells, u8, fillA, g81, zGrid, storeB_cells, setRange]
        exact herr _ _ 3 (firstE_at hok (by omega) (fateE_b c1 (by simpa using c2)) (by decide)) (by decide) (But.trans (But.of_ext he) (But.set (by omega) e1)) (get_set_same g81) (by simp [u8]) (by simp)
      | true =>
        simp (disch := as_aux_lemma => first | omega | simp only [hDs] <;> omega | simp [isCell]) [hRs, takeMarks, resA, resAll, resOne, Value.cells, t11]
        exact ih (i + 1) (by omega) (firstE_next hok (fateE_c c1 (by simpa using c2))) (he.trans e1) (hk.trans (by simp)) (by simp [wrId (n := (i : Int) + 1) (by omega) (by omega)])
end
end Go.Ab.Dike
namespace Go.Ab.Dike
open Go Go.Ab
def tGrid : Ty := .pair tI (.pair tI (.pair tI (.pair (.slice tSpan) .unit)))
theorem sh_grid {rows : List (List Value)} {cs : List Value} (h : Sh rows tGrid cs) : ∃ (w h s : Int) (m : Nat) (zs : List Int) (gr : Value), mkV tGrid cs = gridV w h s gr ∧ RdS (roHp rows) 2 m (ints zs) gr := by
  obtain ⟨_, _, rfl, ⟨w, rfl, _⟩, ⟨_, _, rfl, ⟨h, rfl, _⟩, ⟨_, _, rfl, ⟨s, rfl, _⟩, ⟨_, _, rfl, hs, rfl⟩⟩⟩⟩ := h
  obtain ⟨m, zs, gr, rfl, hr, _, _⟩ := sh_slice_ints (e := tSpan) rfl hs
  exact ⟨w, h, s, m, zs, gr, rfl, hr⟩
theorem flat_get {k : Nat} {f : Nat → List Value} : ∀ {n : Nat}, (∀ q, q < n → (f q).length = k) → ∀ {q r : Nat}, q < n → r < k → ((List.range n).flatMap f)[q * k + r]? = (f q)[r]?
  | 0, _, q, r, hq, _ => absurd hq (by omega)
  | n + 1, hf, q, r, hq, hr => by
    have hl := flat_len (n := n) fun q hq => hf q (by omega)
    rw [List.range_succ, List.flatMap_append]
    by_cases h : q < n
    · have : q * k + r < n * k := by
        have := Nat.mul_le_mul_right k (show q + 1 ≤ n from h)
        rw [Nat.succ_mul] at this; omega
      rw [List.getElem?_append_left (by rw [hl]; exact this)]
      exact flat_get (fun q hq => hf q (by omega)) h hr
    · have : q = n := by omega
      subst this
      rw [List.getElem?_append_right (by rw [hl]; omega), hl]
      simp
instance : Inhabited FT := ⟨⟨0, [], 0, [], 0, 0⟩⟩
def tFate : Ty := .pair (.slice tSpan) (.pair (.slice tSpan) (.pair tI (.pair tI .unit)))
theorem sh_fate {rows : List (List Value)} {cs : List Value} (h : Sh rows tFate cs) : ∃ (f : FT) (a b : Value), cs = [a, b, .int .i64 f.may, .int .i64 f.must] ∧ RdS (roHp rows) 2 f.cn (ints f.cz) a ∧ RdS (roHp rows) 2 f.sn (ints f.sz) b := by
  obtain ⟨_, _, rfl, h1, ⟨_, _, rfl, h2, ⟨_, _, rfl, ⟨may, rfl, _⟩, ⟨_, _, rfl, ⟨must, rfl, _⟩, rfl⟩⟩⟩⟩ := h
  obtain ⟨cn, cz, a, rfl, ra, _, _⟩ := sh_slice_ints (e := tSpan) rfl h1
  obtain ⟨sn, sz, b, rfl, rb, _, _⟩ := sh_slice_ints (e := tSpan) rfl h2
  exact ⟨⟨cn, cz, sn, sz, may, must⟩, a, b, rfl, ra, rb⟩
theorem sh_fates {rows : List (List Value)} {cs : List Value} (h : Sh rows (.slice tFate) cs) : ∃ (n : Nat) (F : Nat → FT) (sl : Value), cs = [sl] ∧ Fates (roHp rows) n F sl := by
  rcases h with rfl | ⟨x, n, q, row, rfl, hn, hrow, hlen, _, f, rfl, hf⟩
  · exact ⟨0, fun _ => ⟨0, [], 0, [], 0, 0⟩, _, rfl, [], ⟨rfl, .inl ⟨rfl, rfl⟩⟩, fun i hi => absurd hi (by omega)⟩
  · obtain ⟨p, hp⟩ := Go.Deep.choose_lt (α := FT × Value × Value) (p := fun i p => f i = [p.2.1, p.2.2, .int .i64 p.1.may, .int .i64 p.1.must] ∧ RdS (roHp rows) 2 p.1.cn (ints p.1.cz) p.2.1 ∧ RdS (roHp rows) 2 p.1.sn (ints p.1.sz) p.2.2) fun i hi => by
      obtain ⟨ft, a, b, h1, h2, h3⟩ := sh_fate (hf i hi).1
      exact ⟨(ft, a, b), h1, h2, h3⟩
    refine ⟨n, fun i => (p i).1, _, rfl, (List.range n).flatMap f, ⟨hlen, .inr ⟨x, q, true, rfl, by rw [roHp_get, hrow]; rfl⟩⟩, fun i hi => ?_⟩
    obtain ⟨h1, h2, h3⟩ := hp i hi
    have hl : ∀ q, q < n → (f q).length = 4 := fun q hq => (hf q hq).2
    have c : ∀ r, r < 4 → cellAt ((List.range n).flatMap f) (i * 4 + r) = (f i)[r]? := fun r hr => flat_get hl hi hr
    have c0 := c 0 (by omega)
    have c1 := c 1 (by omega)
    have c2 := c 2 (by omega)
    have c3 := c 3 (by omega)
    rw [h1] at c0 c1 c2 c3
    exact ⟨_, _, part4 c0 c1 c2 c3, c0, c1, c2, c3, h2, h3⟩
theorem Fates.more {rows rows' : List (List Value)} {n : Nat} {F : Nat → FT} {sl : Value} (h : Fates (roHp rows) n F sl) (hm : More rows rows') : Fates (roHp rows') n F sl := by
  obtain ⟨cells, h1, h2⟩ := h
  refine ⟨cells, h1.more hm, fun i hi => ?_⟩
  obtain ⟨a, b, p1, p2, p3, p4, p5, ra, rb⟩ := h2 i hi
  exact ⟨a, b, p1, p2, p3, p4, p5, ra.more hm, rb.more hm⟩
end Go.Ab.Dike
namespace Go.Ab.Dike
open Go Go.Ab
theorem setRange_intsI {vs : List Int} {d : Nat} {v : Int} (h : d < vs.length) : setRange (ints vs) d [.int .i64 v] = ints (vs.set d v) := by
  unfold setRange ints
  apply List.ext_getElem?
  intro i
  rw [List.map_set]
  have e : (vs.map (Value.int .i64)).take d ++ [Value.int .i64 v] ++ (vs.map (Value.int .i64)).drop (d + 1) = (vs.map (Value.int .i64)).set d (.int .i64 v) := by
    rw [List.set_eq_take_append_cons_drop, if_pos (by simpa using h)]; simp
  simpa using congrArg (fun l => l[i]?) e
def FT.whole (f : FT) (st : Nat) : Bool := decide (f.may = -1) || decide ((st : Int) ≤ f.may)
def FT.gone (f : FT) (st : Nat) : Bool := decide (0 ≤ f.must) && decide (f.must < st)
def lift1 (L : List Int) (c : Nat) (w : Bool) (lo : Int) : List Int := if w then L.set (c * 2) (max (gi L (c * 2)) lo) else L
def lift2 (L : List Int) (c : Nat) (w gone : Bool) (hi : Int) : List Int := if w || !gone then L.set (c * 2 + 1) (max (gi L (c * 2 + 1)) hi) else L
theorem lift1_length {L : List Int} {c : Nat} {w : Bool} {lo : Int} : (lift1 L c w lo).length = L.length := by unfold lift1; split <;> simp
theorem lift2_length {L : List Int} {c : Nat} {w gone : Bool} {hi : Int} : (lift2 L c w gone hi).length = L.length := by unfold lift2; split <;> simp
def pA126 : ACode := (.ops [
oM 68 66,
oI 69 64 66 8,
oD 70 69 8,
oP 14 (.alloc [.int .i64 0, .int .i64 0, .int .i64 0, .int .i64 0, .int .i64 0, .int .i64 0, .int .i64 0, .int .i64 0]),
oM 13 68,
oT 14 70 8])
def pB126 : ACode := (.ops [
oF 71 4 3,
oL 72 71,
oF 73 14 0,
oL 74 73,
oI 75 72 74 2,
oM 76 2,
oM 77 13,
oI 78 76 77 4,
oF 79 78 0,
oL 80 79,
oM 81 3,
oI 82 80 81 2,
oD 83 82 2,
oP 16 (.alloc [.int .i64 0, .int .i64 0]),
oM 15 75,
oT 16 83 2])
def pC126 : ACode := (.ops [
oM 84 2,
oM 85 13,
oI 86 84 85 4,
oF 87 86 2,
oL 88 87,
oC 89 .eql 88 (-1),
oM 90 89,
oN 91 90 false 2,
oN 92 90 false 13,
oQ 93 90 false (.idxS (.t 91) (.t 92) 4),
oQ 94 90 false (.fieldAddr (.t 93) 2),
oQ 95 90 false (.load (.t 94) none),
oN 96 90 false 3,
oQ 97 90 false (.bin .geq (.t 95) (.t 96)),
oP 98 (.pick (.t 90) (.k (.bool true)) (.t 97)),
oM 17 98])
def pD126 : ACode := (.seq
 (.ops [
oM 99 17])
 (.cond (.t 99)
 (.ops [
oM 100 15,
oM 101 15,
oP 102 (.nilCheck (.t 101)),
oF 103 102 0,
oL 104 103,
oF 105 16 0,
oL 106 105,
oP 107 (.max [.t 104, .t 106]),
oP 108 (.nilCheck (.t 100)),
oF 109 108 0,
oT 109 107 1])
 .skip))
def pE126 : ACode := (.ops [
oM 110 2,
oM 111 13,
oI 112 110 111 4,
oF 113 112 3,
oL 114 113,
oC 115 .geq 114 0,
oM 116 115,
oN 117 116 true 2,
oN 118 116 true 13,
oQ 119 116 true (.idxS (.t 117) (.t 118) 4),
oQ 120 116 true (.fieldAddr (.t 119) 3),
oQ 121 116 true (.load (.t 120) none),
oN 122 116 true 3,
oQ 123 116 true (.bin .lss (.t 121) (.t 122)),
oP 124 (.pick (.t 116) (.t 123) (.k (.bool false))),
oM 18 124])
def pF126 : ACode := (.seq
 (.ops [
oM 125 17,
oM 126 125,
oN 127 126 false 18,
oQ 128 126 false (.not (.t 127)),
oP 129 (.pick (.t 126) (.k (.bool true)) (.t 128))])
 (.cond (.t 129)
 (.ops [
oM 130 15,
oM 131 15,
oP 132 (.nilCheck (.t 131)),
oF 133 132 1,
oL 134 133,
oF 135 16 1,
oL 136 135,
oP 137 (.max [.t 134, .t 136]),
oP 138 (.nilCheck (.t 130)),
oF 139 138 1,
oT 139 137 1])
 .skip))
def pB127 : ACode := (.ops [
oF 72 12 3,
oL 73 72,
oM 74 1,
oM 75 13,
oI 76 74 75 8,
oF 77 76 0,
oL 78 77,
oI 79 73 78 2,
oM 80 2,
oM 81 13,
oI 82 80 81 4,
oF 83 82 0,
oL 84 83,
oM 85 3,
oI 86 84 85 2,
oD 87 86 2,
oP 15 (.alloc [.int .i64 0, .int .i64 0]),
oM 14 79,
oT 15 87 2])
def pC127 : ACode := (.ops [
oM 88 2,
oM 89 13,
oI 90 88 89 4,
oF 91 90 2,
oL 92 91,
oC 93 .eql 92 (-1),
oM 94 93,
oN 95 94 false 2,
oN 96 94 false 13,
oQ 97 94 false (.idxS (.t 95) (.t 96) 4),
oQ 98 94 false (.fieldAddr (.t 97) 2),
oQ 99 94 false (.load (.t 98) none),
oN 100 94 false 3,
oQ 101 94 false (.bin .geq (.t 99) (.t 100)),
oP 102 (.pick (.t 94) (.k (.bool true)) (.t 101)),
oM 16 102])
def pE127 : ACode := (.ops [
oM 103 2,
oM 104 13,
oI 105 103 104 4,
oF 106 105 3,
oL 107 106,
oC 108 .geq 107 0,
oM 109 108,
oN 110 109 true 2,
oN 111 109 true 13,
oQ 112 109 true (.idxS (.t 110) (.t 111) 4),
oQ 113 109 true (.fieldAddr (.t 112) 3),
oQ 114 109 true (.load (.t 113) none),
oN 115 109 true 3,
oQ 116 109 true (.bin .lss (.t 114) (.t 115)),
oP 117 (.pick (.t 109) (.t 116) (.k (.bool false))),
oM 17 117])
def pD127 : ACode := (.seq
 (.ops [
oM 118 16])
 (.cond (.t 118)
 (.ops [
oM 119 14,
oM 120 14,
oP 121 (.nilCheck (.t 120)),
oF 122 121 0,
oL 123 122,
oF 124 15 0,
oL 125 124,
oP 126 (.max [.t 123, .t 125]),
oP 127 (.nilCheck (.t 119)),
oF 128 127 0,
oT 128 126 1])
 .skip))
def pF127 : ACode := (.seq
 (.ops [
oM 129 16,
oM 130 129,
oN 131 130 false 17,
oQ 132 130 false (.not (.t 131)),
oP 133 (.pick (.t 130) (.k (.bool true)) (.t 132))])
 (.cond (.t 133)
 (.ops [
oM 134 14,
oM 135 14,
oP 136 (.nilCheck (.t 135)),
oF 137 136 1,
oL 138 137,
oF 139 15 1,
oL 140 139,
oP 141 (.max [.t 138, .t 140]),
oP 142 (.nilCheck (.t 134)),
oF 143 142 1,
oT 143 141 1])
 .skip))
section
variable {g : Nat} {rd : Option Nat} {T : List Value} {D : List Nat} {A : Hp} {Q : Ex → St → Prop} {V : Value → Hp → Prop}
theorem C126_ok {f : FT} {x n c i st : Nat} {ro : Bool} {cells : List Value} (hi : i < n) (hn : n < 1000000) (t2 : tget T 2 = .slice (some ⟨x, 0, some 4⟩) n c) (t3 : tget T 3 = .int .i64 st) (ti : tget T 13 = .int .i64 i) (hx : A.get x = some (.cells cells ro)) (p4 : cellAt cells (i * 4 + 2) = some (.int .i64 f.may))
    (hQ : ∀ T', KeepT [1, 2, 3, 4, 8, 64, 65, 66, 13, 15, 16] T T' → tget T' 17 = .bool (f.whole st) → Q .normal ⟨T', D, A⟩) : W AP KL g rd pC126 ⟨T, D, A⟩ Q := by
  by_cases c1 : f.may = -1
  · simp (disch := as_aux_lemma => first | omega | simp only [hDs] <;> omega | simp [isCell]) [hRs, takeMarks, resA, resAll, resOne, Value.cells, pC126, t2, t3, ti, idxSA_ok, hx, p4, c1]
    exact hQ _ (by simp) (by simp [FT.whole, c1])
  · simp (disch := as_aux_lemma => first | omega | simp only [hDs] <;> omega | simp [isCell]) [hRs, takeMarks, resA, resAll, resOne, Value.cells, pC126, t2, t3, ti, idxSA_ok, hx, p4, c1]
    exact hQ _ (by simp) (by simp [FT.whole, c1])
theorem E126_ok {f : FT} {x n c i st : Nat} {ro : Bool} {cells : List Value} (hi : i < n) (hn : n < 1000000) (t2 : tget T 2 = .slice (some ⟨x, 0, some 4⟩) n c) (t3 : tget T 3 = .int .i64 st) (ti : tget T 13 = .int .i64 i) (hx : A.get x = some (.cells cells ro)) (p5 : cellAt cells (i * 4 + 3) = some (.int .i64 f.must))
    (hQ : ∀ T', KeepT [1, 2, 3, 4, 8, 64, 65, 66, 13, 15, 16, 17] T T' → tget T' 18 = .bool (f.gone st) → Q .normal ⟨T', D, A⟩) : W AP KL g rd pE126 ⟨T, D, A⟩ Q := by
  by_cases c1 : 0 ≤ f.must
  · simp (disch := as_aux_lemma => first | omega | simp only [hDs] <;> omega | simp [isCell]) [hRs, takeMarks, resA, resAll, resOne, Value.cells, pE126, t2, t3, ti, idxSA_ok, hx, p5, c1]
    exact hQ _ (by simp) (by simp [FT.gone, c1])
  · simp (disch := as_aux_lemma => first | omega | simp only [hDs] <;> omega | simp [isCell]) [hRs, takeMarks, resA, resAll, resOne, Value.cells, pE126, t2, t3, ti, idxSA_ok, hx, p5, c1]
    exact hQ _ (by simp) (by simp [FT.gone, c1])
theorem D126_ok {X Y c : Nat} {L : List Int} {lo hi : Int} {w : Bool} (hc : c * 2 + 1 < L.length) (tx : tget T 15 = .pointer (some ⟨Y, c * 2, none⟩)) (tc : tget T 16 = .pointer (some ⟨X, 0, none⟩)) (tw : tget T 17 = .bool w) (hY : A.get Y = some (.cells (ints L) false)) (hX : A.get X = some (.cells [.int .i64 lo, .int .i64 hi] false)) (hg : g ≤ Y)
    (hQ : ∀ T' A', KeepT [1, 2, 3, 4, 8, 64, 65, 66, 13, 15, 16, 17, 18] T T' → But Y A A' → A'.get Y = some (.cells (ints (lift1 L c w lo)) false) → Q .normal ⟨T', D, A'⟩) : W AP KL g rd pD126 ⟨T, D, A⟩ Q := by
  cases w with
  | true =>
    simp (disch := as_aux_lemma => first | omega | simp only [hDs] <;> omega | simp [isCell]) [hRs, takeMarks, resA, resAll, resOne, Value.cells, pD126, tw, tx, tc, hY, hX, ints_get, storeB_cells, setRange_intsI, List.length_set]
    exact hQ _ _ (by simp) (But.set (Hp.lt_of_get hY) (Ext'.refl _)) (by rw [get_set_same hY]; rfl)
  | false =>
    simp (disch := as_aux_lemma => first | omega | simp only [hDs] <;> omega | simp [isCell]) [hRs, takeMarks, resA, resAll, resOne, Value.cells, pD126, tw]
    exact hQ _ _ (by simp) (But.of_ext (Ext'.refl _)) (by rw [hY]; rfl)
theorem F126_ok {X Y c : Nat} {L : List Int} {lo hi : Int} {w go : Bool} (hc : c * 2 + 1 < L.length) (tx : tget T 15 = .pointer (some ⟨Y, c * 2, none⟩)) (tc : tget T 16 = .pointer (some ⟨X, 0, none⟩)) (tw : tget T 17 = .bool w) (tg : tget T 18 = .bool go) (hY : A.get Y = some (.cells (ints L) false)) (hX : A.get X = some (.cells [.int .i64 lo, .int .i64 hi] false)) (hg : g ≤ Y)
    (hQ : ∀ T' A', KeepT [1, 2, 3, 4, 8, 64, 65, 66, 13, 15, 16, 17, 18] T T' → But Y A A' → A'.get Y = some (.cells (ints (lift2 L c w go hi)) false) → Q .normal ⟨T', D, A'⟩) : W AP KL g rd pF126 ⟨T, D, A⟩ Q := by
  cases w with
  | true =>
    cases go with
    | true =>
      simp (disch := as_aux_lemma => first | omega | simp only [hDs] <;> omega | simp [isCell]) [hRs, takeMarks, resA, resAll, resOne, Value.cells, pF126, tw, tg, tx, tc, hY, hX, ints_get, storeB_cells, setRange_intsI, List.length_set]
      exact hQ _ _ (by simp) (But.set (Hp.lt_of_get hY) (Ext'.refl _)) (by rw [get_set_same hY]; rfl)
    | false =>
      simp (disch := as_aux_lemma => first | omega | simp only [hDs] <;> omega | simp [isCell]) [hRs, takeMarks, resA, resAll, resOne, Value.cells, pF126, tw, tg, tx, tc, hY, hX, ints_get, storeB_cells, setRange_intsI, List.length_set]
      exact hQ _ _ (by simp) (But.set (Hp.lt_of_get hY) (Ext'.refl _)) (by rw [get_set_same hY]; rfl)
  | false =>
    cases go with
    | false =>
      simp (disch := as_aux_lemma => first | omega | simp only [hDs] <;> omega | simp [isCell]) [hRs, takeMarks, resA, resAll, resOne, Value.cells, pF126, tw, tg, tx, tc, hY, hX, ints_get, storeB_cells, setRange_intsI, List.length_set]
      exact hQ _ _ (by simp) (But.set (Hp.lt_of_get hY) (Ext'.refl _)) (by rw [get_set_same hY]; rfl)
    | true =>
      simp (disch := as_aux_lemma => first | omega | simp only [hDs] <;> omega | simp [isCell]) [hRs, takeMarks, resA, resAll, resOne, Value.cells, pF126, tw, tg]
      exact hQ _ _ (by simp) (But.of_ext (Ext'.refl _)) (by rw [hY]; rfl)
theorem C127_ok {f : FT} {x n c i st : Nat} {ro : Bool} {cells : List Value} (hi : i < n) (hn : n < 1000000) (t2 : tget T 2 = .slice (some ⟨x, 0, some 4⟩) n c) (t3 : tget T 3 = .int .i64 st) (ti : tget T 13 = .int .i64 i) (hx : A.get x = some (.cells cells ro)) (p4 : cellAt cells (i * 4 + 2) = some (.int .i64 f.may))
    (hQ : ∀ T', KeepT [1, 2, 3, 4, 8, 12, 13, 14, 15] T T' → tget T' 16 = .bool (f.whole st) → Q .normal ⟨T', D, A⟩) : W AP KL g rd pC127 ⟨T, D, A⟩ Q := by
  by_cases c1 : f.may = -1
  · simp (disch := as_aux_lemma => first | omega | simp only [hDs] <;> omega | simp [isCell]) [hRs, takeMarks, resA, resAll, resOne, Value.cells, pC127, t2, t3, ti, idxSA_ok, hx, p4, c1]
    exact hQ _ (by simp) (by simp [FT.whole, c1])
  · simp (disch := as_aux_lemma => first | omega | simp only [hDs] <;> omega | simp [isCell]) [hRs, takeMarks, resA, resAll, resOne, Value.cells, pC127, t2, t3, ti, idxSA_ok, hx, p4, c1]
    exact hQ _ (by simp) (by simp [FT.whole, c1])
theorem E127_ok {f : FT} {x n c i st : Nat} {ro : Bool} {cells : List Value} (hi : i < n) (hn : n < 1000000) (t2 : tget T 2 = .slice (some ⟨x, 0, some 4⟩) n c) (t3 : tget T 3 = .int .i64 st) (ti : tget T 13 = .int .i64 i) (hx : A.get x = some (.cells cells ro)) (p5 : cellAt cells (i * 4 + 3) = some (.int .i64 f.must))
    (hQ : ∀ T', KeepT [1, 2, 3, 4, 8, 12, 13, 14, 15, 16] T T' → tget T' 17 = .bool (f.gone st) → Q .normal ⟨T', D, A⟩) : W AP KL g rd pE127 ⟨T, D, A⟩ Q := by
  by_cases c1 : 0 ≤ f.must
  · simp (disch := as_aux_lemma => first | omega | simp only [hDs] <;> omega | simp [isCell]) [hRs, takeMarks, resA, resAll, resOne, Value.cells, pE127, t2, t3, ti, idxSA_ok, hx, p5, c1]
    exact hQ _ (by simp) (by simp [FT.gone, c1])
  · simp (disch := as_aux_lemma => first | omega | simp only [hDs] <;> omega | simp [isCell]) [hRs, takeMarks, resA, resAll, resOne, Value.cells, pE127, t2, t3, ti, idxSA_ok, hx, p5, c1]
    exact hQ _ (by simp) (by simp [FT.gone, c1])
theorem D127_ok {X Y c : Nat} {L : List Int} {lo hi : Int} {w : Bool} (hc : c * 2 + 1 < L.length) (tx : tget T 14 = .pointer (some ⟨Y, c * 2, none⟩)) (tc : tget T 15 = .pointer (some ⟨X, 0, none⟩)) (tw : tget T 16 = .bool w) (hY : A.get Y = some (.cells (ints L) false)) (hX : A.get X = some (.cells [.int .i64 lo, .int .i64 hi] false)) (hg : g ≤ Y)
    (hQ : ∀ T' A', KeepT [1, 2, 3, 4, 8, 12, 13, 14, 15, 16, 17] T T' → But Y A A' → A'.get Y = some (.cells (ints (lift1 L c w lo)) false) → Q .normal ⟨T', D, A'⟩) : W AP KL g rd pD127 ⟨T, D, A⟩ Q := by
  cases w with
  | true =>
    simp (disch := as_aux_lemma => first | omega | simp only [hDs] <;> omega | simp [isCell]) [hRs, takeMarks, resA, resAll, resOne, Value.cells, pD127, tw, tx, tc, hY, hX, ints_get, storeB_cells, setRange_intsI, List.length_set]
    exact hQ _ _ (by simp) (But.set (Hp.lt_of_get hY) (Ext'.refl _)) (by rw [get_set_same hY]; rfl)
  | false =>
    simp (disch := as_aux_lemma => first | omega | simp only [hDs] <;> omega | simp [isCell]) [hRs, takeMarks, resA, resAll, resOne, Value.cells, pD127, tw]
    exact hQ _ _ (by simp) (But.of_ext (Ext'.refl _)) (by rw [hY]; rfl)
theorem F127_ok {X Y c : Nat} {L : List Int} {lo hi : Int} {w go : Bool} (hc : c * 2 + 1 < L.length) (tx : tget T 14 = .pointer (some ⟨Y, c * 2, none⟩)) (tc : tget T 15 = .pointer (some ⟨X, 0, none⟩)) (tw : tget T 16 = .bool w) (tg : tget T 17 = .bool go) (hY : A.get Y = some (.cells (ints L) false)) (hX : A.get X = some (.cells [.int .i64 lo, .int .i64 hi] false)) (hg : g ≤ Y)
    (hQ : ∀ T' A', KeepT [1, 2, 3, 4, 8, 12, 13, 14, 15, 16, 17] T T' → But Y A A' → A'.get Y = some (.cells (ints (lift2 L c w go hi)) false) → Q .normal ⟨T', D, A'⟩) : W AP KL g rd pF127 ⟨T, D, A⟩ Q := by
  cases w with
  | true =>
    cases go with
    | true =>
      simp (disch := as_aux_lemma => first | omega | simp only [hDs] <;> omega | simp [isCell]) [hRs, takeMarks, resA, resAll, resOne, Value.cells, pF127, tw, tg, tx, tc, hY, hX, ints_get, storeB_cells, setRange_intsI, List.length_set]
      exact hQ _ _ (by simp) (But.set (Hp.lt_of_get hY) (Ext'.refl _)) (by rw [get_set_same hY]; rfl)
    | false =>
      simp (disch := as_aux_lemma => first | omega | simp only [hDs] <;> omega | simp [isCell]) [hRs, takeMarks, resA, resAll, resOne, Value.cells, pF127, tw, tg, tx, tc, hY, hX, ints_get, storeB_cells, setRange_intsI, List.length_set]
      exact hQ _ _ (by simp) (But.set (Hp.lt_of_get hY) (Ext'.refl _)) (by rw [get_set_same hY]; rfl)
  | false =>
    cases go with
    | false =>
      simp (disch := as_aux_lemma => first | omega | simp only [hDs] <;> omega | simp [isCell]) [hRs, takeMarks, resA, resAll, resOne, Value.cells, pF127, tw, tg, tx, tc, hY, hX, ints_get, storeB_cells, setRange_intsI, List.length_set]
      exact hQ _ _ (by simp) (But.set (Hp.lt_of_get hY) (Ext'.refl _)) (by rw [get_set_same hY]; rfl)
    | true =>
      simp (disch := as_aux_lemma => first | omega | simp only [hDs] <;> omega | simp [isCell]) [hRs, takeMarks, resA, resAll, resOne, Value.cells, pF127, tw, tg]
      exact hQ _ _ (by simp) (But.of_ext (Ext'.refl _)) (by rw [hY]; rfl)
end
end Go.Ab.Dike
namespace Go.Ab.Dike
open Go Go.Ab
def raiseL (ss : List Int) (F : Nat → FT) (st : Nat) (zs : List Int) : Nat → List Int
  | 0 => zs
  | k + 1 => lift2 (lift1 (raiseL ss F st zs k) (gi ss (k * 8)).toNat ((F k).whole st) (gi (F k).cz (st * 2))) (gi ss (k * 8)).toNat ((F k).whole st) ((F k).gone st) (gi (F k).cz (st * 2 + 1))
theorem raiseL_length {ss : List Int} {F : Nat → FT} {st : Nat} {zs : List Int} : ∀ k, (raiseL ss F st zs k).length = zs.length
  | 0 => rfl
  | k + 1 => by rw [raiseL, lift2_length, lift1_length, raiseL_length k]
def gridB (w h s : Int) (Y m cY : Nat) : ABlk := .cells [.int .i64 w, .int .i64 h, .int .i64 s, .slice (some ⟨Y, 0, some 2⟩) m cY] false
theorem body126_eq : body126 = .seq (.ops [oB 67 .lss 66 65]) (.seq (.cond (.t 67) .skip (.exit 4)) (.seq (.block 5 (.seq pA126 (.seq pB126 (.seq pC126 (.seq pD126 (.seq pE126 pF126)))))) (.ops [oC 140 .add 66 1, oM 66 140]))) := rfl
theorem body127_eq : body127 = .seq (.seq (.ops [oM 66 13, oM 67 1, oP 68 (.len (.t 67)), oB 69 .lss 66 68]) (.cond (.t 69) .skip (.exit 2)))
    (.seq (.block 3 (.seq pB127 (.seq pC127 (.seq pE127 (.seq pD127 pF127))))) (.ops [oM 70 13, oC 71 .add 70 1, oM 13 71])) := rfl
section
variable {g : Nat} {rd : Option Nat} {T : List Value} {D : List Nat} {A : Hp} {Q : Ex → St → Prop} {V : Value → Hp → Prop}
theorem loop126 {A1 : Hp} {X4 Y N n m cY st : Nat} {F : Nat → FT} {zs ss : List Int} {sl fl : Value} {w h s : Int} (hold : ∀ A : Hp, (∀ z, z < N → z ≠ Y → A.get z = A1.get z) → RdS A 8 n (ints ss) sl ∧ Fates A n F fl ∧ A.get X4 = some (gridB w h s Y m cY)) (hn : n < 1000000) (hzs : zs.length = m * 2)
    (hcell : ∀ i, i < n → ∃ c : Nat, gi ss (i * 8) = (c : Int) ∧ c < m) (hst : ∀ i, i < n → st < (F i).cn) (hYN : Y < N) (hXN : X4 < N) (hXY : X4 ≠ Y) (hgY : g ≤ Y) (hgN : g ≤ N)
    (hend : ∀ T' A', KeepT [2, 3, 4, 8] T T' → A'.get Y = some (.cells (ints (raiseL ss F st zs n)) false) → N ≤ A'.n → (∀ z, z < N → z ≠ Y → A'.get z = A1.get z) → Q (.exit 4) ⟨T', D, A'⟩)
    (t2 : tget T 2 = fl) (t3 : tget T 3 = .int .i64 st) (t4 : tget T 4 = .pointer (some ⟨X4, 0, none⟩)) :
    ∀ (k i : Nat) {T1 : List Value} {A : Hp}, i + k = n → KeepT [2, 3, 4, 8] T T1 → tget T1 64 = sl → tget T1 65 = .int .i64 n → tget T1 66 = .int .i64 i → A.get Y = some (.cells (ints (raiseL ss F st zs i)) false) → N ≤ A.n → (∀ z, z < N → z ≠ Y → A.get z = A1.get z) → W AP KL g rd (.loop body126) ⟨T1, D, A⟩ Q := by
  intro k
  induction k with
  | zero =>
    intro i T1 A hik hk t64 t65 t66 hY hN ho
    have : i = n := by omega
    subst this
    skip
    rw [W_loop]
    simp (disch := as_aux_lemma => first | omega | simp only [hDs] <;> omega | simp [isCell]) [hRs, takeMarks, resA, resAll, resOne, Value.cells, body126, t65, t66]
    exact hend _ A (hk.trans (by simp)) hY hN ho
  | succ k ih =>
    intro i T1 A hik hk t64 t65 t66 hY hN ho
    obtain ⟨hsl, hfl, hX4⟩ := hold A ho
    have hlenS := hsl.len
    obtain ⟨x, cx, ro, rfl, hx⟩ := hsl.at (i := i) (by omega)
    obtain ⟨xf, cf, rof, cells, rfl, hxf, hf⟩ := hfl.at (i := i) (by omega)
    have hzl := hsl.1
    rw [ints_length] at hzl
    obtain ⟨c, hc, hcm⟩ := hcell i (by omega)
    obtain ⟨a, b, p1, p2, p3, p4, p5, ra, rb⟩ := hf
    obtain ⟨y, ca, roa, rfl, hy⟩ := ra.at (i := st) (hst i (by omega))
    have hal := ra.1
    rw [ints_length] at hal
    have hsti := hst i (by omega)
    have hp := sec_part (ss := ss) (i := i) (by omega)
    have hxn := Hp.lt_of_get hx
    have hxfn := Hp.lt_of_get hxf
    have hyn := Hp.lt_of_get hy
    have hX4n := Hp.lt_of_get hX4
    skip
    have u2 := (hk.at 2 rfl).trans t2
    have u3 := (hk.at 3 rfl).trans t3
    have u4 := (hk.at 4 rfl).trans t4
    obtain ⟨L, hL⟩ : ∃ L, L = raiseL ss F st zs i := ⟨_, rfl⟩
    have hLl : L.length = m * 2 := by rw [hL, raiseL_length, hzs]
    rw [← hL] at hY
    obtain ⟨lo, hlo⟩ : ∃ lo, lo = gi (F i).cz (st * 2) := ⟨_, rfl⟩
    obtain ⟨hi, hhi⟩ : ∃ hi, hi = gi (F i).cz (st * 2 + 1) := ⟨_, rfl⟩
    have hap : partA (ints (F i).cz) (st * 2) (some 2) = some (.agg ⟨[.int .i64 lo, .int .i64 hi]⟩) := by rw [hlo, hhi]; exact ints_two (by omega)
    have hstep : raiseL ss F st zs (i + 1) = lift2 (lift1 L c ((F i).whole st) lo) c ((F i).whole st) ((F i).gone st) hi := by
      show lift2 (lift1 (raiseL ss F st zs i) (gi ss (i * 8)).toNat _ _) _ _ _ _ = _
      rw [← hL, hc, Int.toNat_natCast, hlo, hhi]
    have hYn := Hp.lt_of_get hY
    have e3 := wrId (n := (i : Int) + 1) (by omega) (by omega)
    rw [W_loop]
    simp (disch := as_aux_lemma => first | omega | simp only [hDs] <;> omega | simp [isCell]) [hRs, takeMarks, resA, resAll, resOne, Value.cells, body126_eq, t65, t66, show ((i : Int) < n) by omega]
    simp (disch := as_aux_lemma => first | omega | simp only [hDs] <;> omega | simp [isCell]) [hRs, takeMarks, resA, resAll, resOne, Value.cells, pA126, t64, t66, idxSA_ok, hx, hp, Sec.cells, secA, storeB_cells, setRange, set_push_eq]
    simp (disch := as_aux_lemma => first | omega | simp only [hDs] <;> omega | simp [isCell]) [hRs, takeMarks, resA, resAll, resOne, Value.cells, pB126, u2, u3, u4, hX4, gridB, hc, idxSA_ok, hxf, p2, hy, hap, storeB_cells, setRange, set_push_eq]
    obtain ⟨B, hB⟩ : ∃ B, B = (A.push (.cells [.int .i64 (c : Int), .int .i64 (gi ss (i * 8 + 1)), .int .i64 (gi ss (i * 8 + 2)), .int .i64 (gi ss (i * 8 + 3)), .int .i64 (gi ss (i * 8 + 4)), .int .i64 (gi ss (i * 8 + 5)), .int .i64 (gi ss (i * 8 + 6)), .int .i64 (gi ss (i * 8 + 7))] false)).push (.cells [.int .i64 lo, .int .i64 hi] false) := ⟨_, rfl⟩
    rw [← hB]
    have hBx : B.get (A.n + 1) = some (.cells [.int .i64 lo, .int .i64 hi] false) := by rw [hB, get_push_eq (by simp)]
    have eB : Ext' A B := by rw [hB]; exact (Ext'.push A _).trans (Ext'.push _ _)
    have hBn : B.n = A.n + 2 := by rw [hB]; rfl
    obtain ⟨X, hXe⟩ : ∃ X, X = A.n + 1 := ⟨_, rfl⟩
    have hBX : B.get X = some (.cells [.int .i64 lo, .int .i64 hi] false) := by rw [hXe]; exact hBx
    have hBY := eB.get hY
    have hXB : X < B.n := Hp.lt_of_get hBX
    refine C126_ok (A := B) (f := F i) (i := i) (st := st) (x := xf) (n := n) (c := cf) (cells := cells) (ro := rof) (by omega) hn (by simp [u2]) (by simp [u3]) (by simp) (eB.get hxf) p4 ?_
    intro T2 k2 w2
    simp only [SeqQ_normal, W_seq]
    refine D126_ok (X := X) (Y := Y) (c := c) (L := L) (lo := lo) (hi := hi) (w := (F i).whole st) (by omega) (by rw [k2.at 15 rfl]; simp) (by rw [k2.at 16 rfl, hXe]; simp) w2 hBY hBX hgY ?_
    intro T3 A3 k3 b3 y3
    simp only [SeqQ_normal, W_seq]
    have n3 := b3.1
    have o3 : ∀ z, z < N → z ≠ Y → A3.get z = A1.get z := fun z hz hzY => by rw [b3.2 z (by omega) hzY, eB.2 z (by omega), ho z hz hzY]
    obtain ⟨xf', cf', rof', cells', hcc, hxf', _, _, _, _, _, _, p5', _, _⟩ := (hold A3 o3).2.1.at (i := i) (by omega)
    cases hcc
    refine E126_ok (A := A3) (f := F i) (i := i) (st := st) (x := xf) (n := n) (c := cf) (cells := cells') (ro := rof') (by omega) hn (by rw [k3.at 2 rfl, k2.at 2 rfl]; simp [u2]) (by rw [k3.at 3 rfl, k2.at 3 rfl]; simp [u3]) (by rw [k3.at 13 rfl, k2.at 13 rfl]; simp) hxf' p5' ?_
    intro T4 k4 g4
    simp only [SeqQ_normal]
    have hBX3 : A3.get X = _ := (b3.2 X hXB (by omega)).trans hBX
    refine F126_ok (X := X) (Y := Y) (c := c) (L := lift1 L c ((F i).whole st) lo) (lo := lo) (hi := hi) (w := (F i).whole st) (go := (F i).gone st) (by rw [lift1_length]; omega) (by rw [k4.at 15 rfl, k3.at 15 rfl, k2.at 15 rfl]; simp) (by rw [k4.at 16 rfl, k3.at 16 rfl, k2.at 16 rfl, hXe]; simp) (by rw [k4.at 17 rfl, k3.at 17 rfl]; exact w2) g4 y3 hBX3 hgY ?_
    intro T5 A5 k5 b5 y5
    have n5 := b5.1
    have q : ∀ j, [1, 2, 3, 4, 8, 64, 65, 66].contains j = true → tget T5 j = tget T2 j := fun j hj => by
      have hj' : j ∈ [1, 2, 3, 4, 8, 64, 65, 66] := by simpa using hj
      have e1 : [1, 2, 3, 4, 8, 64, 65, 66, 13, 15, 16, 17, 18].contains j = true := by simp at hj' ⊢; omega
      have e2 : [1, 2, 3, 4, 8, 64, 65, 66, 13, 15, 16, 17].contains j = true := by simp at hj' ⊢; omega
      rw [k5.at j e1, k4.at j e2, k3.at j e1]
    have q66 : tget T5 66 = .int .i64 i := by rw [q 66 rfl, k2.at 66 rfl]; simp [t66]
    simp (disch := as_aux_lemma => first | omega | simp only [hDs] <;> omega | simp [isCell]) [hRs, takeMarks, resA, resAll, resOne, Value.cells, q66, e3]
    refine ih (i + 1) (by omega) ?_ (by rw [tget_tset]; simp [q 64 rfl, k2.at 64 rfl, t64]) (by simp [q 65 rfl, k2.at 65 rfl, t65]) (by simp) (by rw [hstep]; exact y5) (by omega) fun z hz hzY => by rw [b5.2 z (by omega) hzY]; exact o3 z hz hzY
    refine hk.trans ?_
    simp [q 2 rfl, q 3 rfl, q 4 rfl, q 8 rfl, k2.at 2 rfl, k2.at 3 rfl, k2.at 4 rfl, k2.at 8 rfl]
theorem loop127 {A1 : Hp} {X4 Y N n m cY st : Nat} {F : Nat → FT} {zs ss : List Int} {sl fl : Value} {w h s : Int} (hold : ∀ A : Hp, (∀ z, z < N → z ≠ Y → A.get z = A1.get z) → RdS A 8 n (ints ss) sl ∧ Fates A n F fl ∧ A.get X4 = some (gridB w h s Y m cY)) (hn : n < 1000000) (hzs : zs.length = m * 2)
    (hcell : ∀ i, i < n → ∃ c : Nat, gi ss (i * 8) = (c : Int) ∧ c < m) (hst : ∀ i, i < n → st < (F i).cn) (hYN : Y < N) (hXN : X4 < N) (hXY : X4 ≠ Y) (hgY : g ≤ Y) (hgN : g ≤ N)
    (hend : ∀ T' A', KeepT [1, 2, 3, 4, 8, 12] T T' → A'.get Y = some (.cells (ints (raiseL ss F st zs n)) false) → N ≤ A'.n → (∀ z, z < N → z ≠ Y → A'.get z = A1.get z) → Q (.exit 2) ⟨T', D, A'⟩)
    (t1 : tget T 1 = sl) (t2 : tget T 2 = fl) (t3 : tget T 3 = .int .i64 st) (t4 : tget T 12 = .pointer (some ⟨X4, 0, none⟩)) :
    ∀ (k i : Nat) {T1 : List Value} {A : Hp}, i + k = n → KeepT [1, 2, 3, 4, 8, 12] T T1 → tget T1 13 = .int .i64 i → A.get Y = some (.cells (ints (raiseL ss F st zs i)) false) → N ≤ A.n → (∀ z, z < N → z ≠ Y → A.get z = A1.get z) → W AP KL g rd (.loop body127) ⟨T1, D, A⟩ Q := by
  intro k
  induction k with
  | zero =>
    intro i T1 A hik hk t13 hY hN ho
    have : i = n := by omega
    subst this
    have u1 := (hk.at 1 rfl).trans t1
    rw [W_loop]
    simp (disch := as_aux_lemma => first | omega | simp only [hDs] <;> omega | simp [isCell]) [hRs, takeMarks, resA, resAll, resOne, Value.cells, body127, t13, u1, (hold A ho).1.len]
    exact hend _ A (hk.trans (by simp)) hY hN ho
  | succ k ih =>
    intro i T1 A hik hk t13 hY hN ho
    obtain ⟨hsl, hfl, hX4⟩ := hold A ho
    have hlenS := hsl.len
    obtain ⟨x, cx, ro, rfl, hx⟩ := hsl.at (i := i) (by omega)
    obtain ⟨xf, cf, rof, cells, rfl, hxf, hf⟩ := hfl.at (i := i) (by omega)
    have hzl := hsl.1
    rw [ints_length] at hzl
    obtain ⟨c, hc, hcm⟩ := hcell i (by omega)
    obtain ⟨a, b, p1, p2, p3, p4, p5, ra, rb⟩ := hf
    obtain ⟨y, ca, roa, rfl, hy⟩ := ra.at (i := st) (hst i (by omega))
    have hal := ra.1
    rw [ints_length] at hal
    have hsti := hst i (by omega)
    have hp := sec_part (ss := ss) (i := i) (by omega)
    have hxn := Hp.lt_of_get hx
    have hxfn := Hp.lt_of_get hxf
    have hyn := Hp.lt_of_get hy
    have hX4n := Hp.lt_of_get hX4
    have u1 := (hk.at 1 rfl).trans t1
    have u2 := (hk.at 2 rfl).trans t2
    have u3 := (hk.at 3 rfl).trans t3
    have u4 := (hk.at 12 rfl).trans t4
    obtain ⟨L, hL⟩ : ∃ L, L = raiseL ss F st zs i := ⟨_, rfl⟩
    have hLl : L.length = m * 2 := by rw [hL, raiseL_length, hzs]
    rw [← hL] at hY
    obtain ⟨lo, hlo⟩ : ∃ lo, lo = gi (F i).cz (st * 2) := ⟨_, rfl⟩
    obtain ⟨hi, hhi⟩ : ∃ hi, hi = gi (F i).cz (st * 2 + 1) := ⟨_, rfl⟩
    have hap : partA (ints (F i).cz) (st * 2) (some 2) = some (.agg ⟨[.int .i64 lo, .int .i64 hi]⟩) := by rw [hlo, hhi]; exact ints_two (by omega)
    have hstep : raiseL ss F st zs (i + 1) = lift2 (lift1 L c ((F i).whole st) lo) c ((F i).whole st) ((F i).gone st) hi := by
      show lift2 (lift1 (raiseL ss F st zs i) (gi ss (i * 8)).toNat _ _) _ _ _ _ = _
      rw [← hL, hc, Int.toNat_natCast, hlo, hhi]
    have hYn := Hp.lt_of_get hY
    have e3 := wrId (n := (i : Int) + 1) (by omega) (by omega)
    rw [W_loop]
    simp (disch := as_aux_lemma => first | omega | simp only [hDs] <;> omega | simp [isCell]) [hRs, takeMarks, resA, resAll, resOne, Value.cells, body127_eq, t13, u1, hlenS, show ((i : Int) < n) by omega]
    simp (disch := as_aux_lemma => first | omega | simp only [hDs] <;> omega | simp [isCell]) [hRs, takeMarks, resA, resAll, resOne, Value.cells, pB127, u1, u2, u3, u4, t13, hX4, gridB, hx, ints_get, hc, idxSA_ok, hxf, p2, hy, hap, storeB_cells, setRange, set_push_eq]
    obtain ⟨B, hB⟩ : ∃ B, B = A.push (.cells [.int .i64 lo, .int .i64 hi] false) := ⟨_, rfl⟩
    rw [← hB]
    have hBx : B.get A.n = some (.cells [.int .i64 lo, .int .i64 hi] false) := by rw [hB, get_push_new]
    have eB : Ext' A B := by rw [hB]; exact Ext'.push A _
    have hBn : B.n = A.n + 1 := by rw [hB]; rfl
    obtain ⟨X, hXe⟩ : ∃ X, X = A.n := ⟨_, rfl⟩
    have hBX : B.get X = some (.cells [.int .i64 lo, .int .i64 hi] false) := by rw [hXe]; exact hBx
    have hBY := eB.get hY
    have hXB : X < B.n := Hp.lt_of_get hBX
    refine C127_ok (A := B) (f := F i) (i := i) (st := st) (x := xf) (n := n) (c := cf) (cells := cells) (ro := rof) (by omega) hn (by simp [u2]) (by simp [u3]) (by simp [t13]) (eB.get hxf) p4 ?_
    intro T2 k2 w2
    simp only [SeqQ_normal, W_seq]
    refine E127_ok (A := B) (f := F i) (i := i) (st := st) (x := xf) (n := n) (c := cf) (cells := cells) (ro := rof) (by omega) hn (by rw [k2.at 2 rfl]; simp [u2]) (by rw [k2.at 3 rfl]; simp [u3]) (by rw [k2.at 13 rfl]; simp [t13]) (eB.get hxf) p5 ?_
    intro T3 k3 g3
    simp only [SeqQ_normal, W_seq]
    refine D127_ok (X := X) (Y := Y) (c := c) (L := L) (lo := lo) (hi := hi) (w := (F i).whole st) (by omega) (by rw [k3.at 14 rfl, k2.at 14 rfl]; simp) (by rw [k3.at 15 rfl, k2.at 15 rfl, hXe]; simp) (by rw [k3.at 16 rfl]; exact w2) hBY hBX hgY ?_
    intro T4 A4 k4 b4 y4
    simp only [SeqQ_normal]
    have n4 := b4.1
    have hBX4 : A4.get X = _ := (b4.2 X hXB (by omega)).trans hBX
    refine F127_ok (X := X) (Y := Y) (c := c) (L := lift1 L c ((F i).whole st) lo) (lo := lo) (hi := hi) (w := (F i).whole st) (go := (F i).gone st) (by rw [lift1_length]; omega) (by rw [k4.at 14 rfl, k3.at 14 rfl, k2.at 14 rfl]; simp) (by rw [k4.at 15 rfl, k3.at 15 rfl, k2.at 15 rfl, hXe]; simp) (by rw [k4.at 16 rfl, k3.at 16 rfl]; exact w2) (by rw [k4.at 17 rfl]; exact g3) y4 hBX4 hgY ?_
    intro T5 A5 k5 b5 y5
    have n5 := b5.1
    have q : ∀ j, [1, 2, 3, 4, 8, 12, 13].contains j = true → tget T5 j = tget T2 j := fun j hj => by
      have hj' : j ∈ [1, 2, 3, 4, 8, 12, 13] := by simpa using hj
      have e1 : [1, 2, 3, 4, 8, 12, 13, 14, 15, 16, 17].contains j = true := by simp at hj' ⊢; omega
      have e2 : [1, 2, 3, 4, 8, 12, 13, 14, 15, 16].contains j = true := by simp at hj' ⊢; omega
      rw [k5.at j e1, k4.at j e1, k3.at j e2]
    have q13 : tget T5 13 = .int .i64 i := by rw [q 13 rfl, k2.at 13 rfl]; simp [t13]
    simp (disch := as_aux_lemma => first | omega | simp only [hDs] <;> omega | simp [isCell]) [hRs, takeMarks, resA, resAll, resOne, Value.cells, q13, e3]
    refine ih (i + 1) (by omega) ?_ (by simp) (by rw [hstep]; exact y5) (by omega) fun z hz hzY => by rw [b5.2 z (by omega) hzY, b4.2 z (by omega) hzY, eB.2 z (by omega), ho z hz hzY]
    refine hk.trans ?_
    simp [q 1 rfl, q 2 rfl, q 3 rfl, q 4 rfl, q 8 rfl, q 12 rfl, k2.at 1 rfl, k2.at 2 rfl, k2.at 3 rfl, k2.at 4 rfl, k2.at 8 rfl, k2.at 12 rfl]
end
end Go.Ab.Dike
