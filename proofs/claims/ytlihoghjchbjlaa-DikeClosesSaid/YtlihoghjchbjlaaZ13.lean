/- Shapes of steps. -/
import Derived.Test.YtlihoghjchbjlaaZ12
import Derived.Test.YtlihoghjchbjlaaZ11
set_option linter.unusedSimpArgs false
set_option linter.unusedVariables false
set_option linter.unusedSectionVars false
namespace Go.Ab.Dike
open Go Go.Ab
def readyS (E : List Int) (b : Int × Int) (al : List Int) : Nat → Int × Int
  | 0 => b
  | k + 1 => (max (if k = 0 then gi E ((gi al k).toNat * 2) else (readyS E b al k).1) (gi E ((gi al k).toNat * 2)), max (if k = 0 then gi E ((gi al k).toNat * 2 + 1) else (readyS E b al k).2) (gi E ((gi al k).toNat * 2 + 1)))
def endS (E : List Int) (b : Int × Int) (s : StepT) (ws : List Int) (nw : Nat) : Int × Int :=
  (endV (readyS E b s.al s.an).1 s.tl s.calm ws nw, endV (readyS E b s.al s.an).2 s.th s.calm ws nw)
def endsL (S : Nat → StepT) (b : Int × Int) (ws : List Int) (nw : Nat) : Nat → List Int
  | 0 => []
  | i + 1 => endsL S b ws nw i ++ [(endS (endsL S b ws nw i) b (S i) ws nw).1, (endS (endsL S b ws nw i) b (S i) ws nw).2]
def allS (S : Nat → StepT) (b : Int × Int) (ws : List Int) (nw : Nat) : Nat → Int × Int
  | 0 => b
  | i + 1 => (max (allS S b ws nw i).1 (endS (endsL S b ws nw i) b (S i) ws nw).1, max (allS S b ws nw i).2 (endS (endsL S b ws nw i) b (S i) ws nw).2)
theorem endsL_length (S : Nat → StepT) (b : Int × Int) (ws : List Int) (nw : Nat) : ∀ i, (endsL S b ws nw i).length = i * 2
  | 0 => rfl
  | i + 1 => by simp [endsL, endsL_length S b ws nw i]; omega
def closeE (n : Nat) (S : Nat → StepT) (b : Int × Int) (nw : Nat) (ws : List Int) : Int :=
  if stepsE n S ≠ 0 then stepsE n S else if validB b.1 b.2 0 1000000000 = false then 3 else if 1000 < nw then 9 else firstE (winE ws) nw
theorem closeE_a {n : Nat} {S : Nat → StepT} {b : Int × Int} {nw : Nat} {ws : List Int} (h : stepsE n S ≠ 0) : closeE n S b nw ws = stepsE n S := if_pos h
theorem closeE_b {n : Nat} {S : Nat → StepT} {b : Int × Int} {nw : Nat} {ws : List Int} (h : stepsE n S = 0) (h2 : validB b.1 b.2 0 1000000000 = false) : closeE n S b nw ws = 3 := by rw [closeE, if_neg (fun h' => h' h), if_pos h2]
theorem closeE_c {n : Nat} {S : Nat → StepT} {b : Int × Int} {nw : Nat} {ws : List Int} (h : stepsE n S = 0) (h2 : validB b.1 b.2 0 1000000000 = true) (h3 : 1000 < nw) : closeE n S b nw ws = 9 := by rw [closeE, if_neg (fun h' => h' h), h2, if_neg (by decide), if_pos h3]
theorem closeE_d {n : Nat} {S : Nat → StepT} {b : Int × Int} {nw : Nat} {ws : List Int} (h : stepsE n S = 0) (h2 : validB b.1 b.2 0 1000000000 = true) (h3 : ¬ 1000 < nw) : closeE n S b nw ws = firstE (winE ws) nw := by rw [closeE, if_neg (fun h' => h' h), h2, if_neg (by decide), if_neg h3]
section
variable {g : Nat} {rd : Option Nat} {T : List Value} {D : List Nat} {A : Hp} {Q : Ex → St → Prop} {V : Value → Hp → Prop}
theorem loop134w {A0 : Hp} {X7 n : Nat} {ws : List Int} {sl : Value} (hsl : RdS A0 2 n (ints ws) sl) (hn : n < 1000000) (h7 : A0.get X7 = some zSpan) (hg : g ≤ X7)
    (herr : ∀ T' A' e, firstE (winE ws) n = e → e ≠ 0 → But X7 A0 A' → A'.get X7 = some zSpan → tget T' 6 = .slice none 0 0 → tget T' 7 = .pointer (some ⟨X7, 0, none⟩) → tget T' 8 = .int .i64 e → Q .ret ⟨T', D, A'⟩)
    (hend : ∀ T' A', firstE (winE ws) n = 0 → Ext' A0 A' → KeepT [0, 2, 4, 7] T T' → Q (.exit 0) ⟨T', D, A'⟩) (t2 : tget T 2 = sl) (t7 : tget T 7 = .pointer (some ⟨X7, 0, none⟩)) :
    ∀ (k i : Nat) {T1 : List Value} {A : Hp}, i + k = n → firstE (winE ws) i = 0 → Ext' A0 A → KeepT [0, 2, 4, 7] T T1 → tget T1 10 = .int .i64 i → W AP KL g rd (.loop body134w) ⟨T1, D, A⟩ Q := by
  have hl := hsl.1
  rw [ints_length] at hl
  intro k
  induction k with
  | zero =>
    intro i T1 A hik hok he hk t10
    have : i = n := by omega
    subst this
    have u2 := (hk.at 2 rfl).trans t2
    rw [W_loop]
    simp (disch := as_aux_lemma => first | omega | simp only [hDs] <;> omega | simp [isCell]) [hRs, takeMarks, resA, resAll, resOne, Value.cells, body134w, u2, t10, (he.rdS hsl).len]
    exact hend _ A hok he (hk.trans (by simp))
  | succ k ih =>
    intro i T1 A hik hok he hk t10
    have u2 := (hk.at 2 rfl).trans t2
    have u7 := (hk.at 7 rfl).trans t7
    have hlen := (he.rdS hsl).len
    obtain ⟨x, c, ro, rfl, hx⟩ := (he.rdS hsl).at (i := i) (by omega)
    have hxn := Hp.lt_of_get hx
    have g7 := he.get h7
    have h7n := Hp.lt_of_get h7
    have hA0 := he.1
    obtain ⟨lo, hlo⟩ : ∃ lo, lo = gi ws (i * 2) := ⟨_, rfl⟩
    obtain ⟨hi, hhi⟩ : ∃ hi, hi = gi ws (i * 2 + 1) := ⟨_, rfl⟩
    have hp : partA (ints ws) (i * 2) (some 2) = some (.agg ⟨[.int .i64 lo, .int .i64 hi]⟩) := by rw [hlo, hhi]; exact ints_two (by omega)
    have hp0 : cellAt (ints ws) (i * 2) = some (.int .i64 lo) := by rw [hlo]; exact ints_get (by omega)
    rw [W_loop]
    simp (disch := as_aux_lemma => first | omega | simp only [hDs] <;> omega | simp [isCell]) [hRs, takeMarks, resA, resAll, resOne, Value.cells, body134w, u2, t10, hlen, show ((i : Int) < n) by omega, idxSA_ok, hx, hp]
    refine w159 fun A1 n1 o1 => ?_
    have e1 : Ext' A A1 := ⟨by omega, o1⟩
    have g71 := e1.get g7
    have hx1 := e1.get hx
    cases c1 : validB lo hi 0 1000000000 with
    | false =>
      simp (disch := as_aux_lemma => first | omega | simp only [hDs] <;> omega | simp [isCell]) [hRs, takeMarks, resA, resAll, resOne, Value.cells, u7, fillA, g71, zSpan, storeB_cells, setRange]
      exact herr _ _ 3 (firstE_at hok (by omega) (winE_a (by rw [← hlo, ← hhi]; exact c1)) (by decide)) (by decide) (But.trans (But.of_ext he) (But.set (by omega) e1)) (get_set_same g71) (by simp) (by simp [u7]) (by simp)
    | true =>
      by_cases c2 : 0 < i
      · have e3 := wrId (n := (i : Int) - 1) (by omega) (by omega)
        have hq := ints_get (l := ws) (o := (i - 1) * 2 + 1) (by omega)
        obtain ⟨j, hj⟩ : ∃ j, i = j + 1 := ⟨i - 1, by omega⟩
        subst hj
        simp only [Nat.add_sub_cancel] at hq
        have e4 : ((j + 1 : Nat) : Int) - 1 = j := by omega
        rw [e4] at e3
        have hidx : idxSA 2 (.slice (some ⟨x, 0, some 2⟩) n c) (.int .i64 ((j + 1 : Nat) : Int)) = some (.pointer (some ⟨x, (j + 1) * 2, none⟩)) := by rw [idxSA_ok (by omega) (by omega)]; simp
        have hidx' : idxSA 2 (.slice (some ⟨x, 0, some 2⟩) n c) (.int .i64 ((j : Int) + 1)) = some (.pointer (some ⟨x, (j + 1) * 2, none⟩)) := hidx
        by_cases c3 : lo ≤ gi ws (j * 2 + 1)
        · simp (disch := as_aux_lemma => first | omega | simp only [hDs] <;> omega | simp [isCell]) [hRs, takeMarks, resA, resAll, resOne, Value.cells, u2, u7, t10, hx1, e3, hidx', idxSA_ok, hp0, hq, c3, fillA, g71, zSpan, storeB_cells, setRange]
          exact herr _ _ 2 (firstE_at hok (by omega) (winE_b (by rw [← hlo, ← hhi]; exact c1) ⟨by omega, by rw [← hlo]; exact c3⟩) (by decide)) (by decide) (But.trans (But.of_ext he) (But.set (by omega) e1)) (get_set_same g71) (by simp) (by simp [u7]) (by simp)
        · simp (disch := as_aux_lemma => first | omega | simp only [hDs] <;> omega | simp [isCell]) [hRs, takeMarks, resA, resAll, resOne, Value.cells, u2, u7, t10, hx1, e3, hidx', idxSA_ok, hp0, hq, c3]
          exact ih (j + 1 + 1) (by omega) (firstE_next hok (winE_c (by rw [← hlo, ← hhi]; exact c1) (by rw [← hlo]; simp; omega))) (he.trans e1) (hk.trans (by simp)) (by simp; exact wrId (by omega) (by omega))
      · have : i = 0 := by omega
        subst this
        simp (disch := as_aux_lemma => first | omega | simp only [hDs] <;> omega | simp [isCell]) [hRs, takeMarks, resA, resAll, resOne, Value.cells, t10]
        exact ih 1 (by omega) (firstE_next hok (winE_c (by rw [← hlo, ← hhi]; exact c1) (by omega))) (he.trans e1) (hk.trans (by simp)) (by simp; decide)
theorem loop133a {A0 : Hp} {X16 i : Nat} {E : List Int} {b : Int × Int} {s : StepT} {a ends : Value} (ha : ∀ A, (∀ z, z < A0.n → z ≠ X16 → A.get z = A0.get z) → RdS A 1 s.an (ints s.al) a ∧ RdS A 2 i (ints E) ends) (hn : s.an < 1000000) (hal : ∀ k, k < s.an → 0 ≤ gi s.al k ∧ gi s.al k < i) (hg : g ≤ X16) (hX : X16 < A0.n)
    (hend : ∀ T' A', But X16 A0 A' → A'.get X16 = some (.cells [.int .i64 (readyS E b s.al s.an).1, .int .i64 (readyS E b s.al s.an).2] false) → KeepT [0, 2, 4, 7, 12, 13, 15, 16, 65, 66, 67] T T' → Q (.exit 6) ⟨T', D, A'⟩) (t12 : tget T 12 = ends) (t16 : tget T 16 = .pointer (some ⟨X16, 0, none⟩)) :
    ∀ (k j : Nat) {T1 : List Value} {A : Hp}, j + k = s.an → But X16 A0 A → A.get X16 = some (.cells [.int .i64 (readyS E b s.al j).1, .int .i64 (readyS E b s.al j).2] false) → KeepT [0, 2, 4, 7, 12, 13, 15, 16, 65, 66, 67] T T1 → tget T1 73 = a → tget T1 74 = .int .i64 s.an → tget T1 75 = .int .i64 j → W AP KL g rd (.loop body133a) ⟨T1, D, A⟩ Q := by
  intro k
  induction k with
  | zero =>
    intro j T1 A hik hb hR hk t73 t74 t75
    have : j = s.an := by omega
    subst this
    rw [W_loop]
    simp (disch := as_aux_lemma => first | omega | simp only [hDs] <;> omega | simp [isCell]) [hRs, takeMarks, resA, resAll, resOne, Value.cells, body133a, t74, t75]
    exact hend _ A hb hR (hk.trans (by simp))
  | succ k ih =>
    intro j T1 A hik hb hR hk t73 t74 t75
    have u12 := (hk.at 12 rfl).trans t12
    have u16 := (hk.at 16 rfl).trans t16
    obtain ⟨ra, re⟩ := ha A hb.2
    have hla := ra.1
    have hle := re.1
    rw [ints_length] at hla hle
    obtain ⟨y, c, ro, rfl, hy⟩ := ra.at (i := j) (by omega)
    obtain ⟨h0, h1⟩ := hal j (by omega)
    obtain ⟨v, hv⟩ : ∃ v : Nat, gi s.al j = v := ⟨(gi s.al j).toNat, by omega⟩
    have hyv : cellAt (ints s.al) j = some (.int .i64 (v : Int)) := by rw [← hv]; exact ints_get (by omega)
    obtain ⟨z, c2, ro2, rfl, hz⟩ := re.at (i := v) (by omega)
    have hp : partA (ints E) (v * 2) (some 2) = some (.agg ⟨[.int .i64 (gi E (v * 2)), .int .i64 (gi E (v * 2 + 1))]⟩) := ints_two (by omega)
    have hRn := Hp.lt_of_get hR
    have hstep : readyS E b s.al (j + 1) = (max (if j = 0 then gi E (v * 2) else (readyS E b s.al j).1) (gi E (v * 2)), max (if j = 0 then gi E (v * 2 + 1) else (readyS E b s.al j).2) (gi E (v * 2 + 1))) := by
      show (max (if j = 0 then gi E ((gi s.al j).toNat * 2) else _) _, _) = _
      rw [hv, Int.toNat_natCast]
    obtain ⟨n, hne⟩ : ∃ n, n = s.an := ⟨_, rfl⟩
    have hlt : (j : Int) < n := by omega
    rw [← hne] at t73 t74
    have e3 := wrId (n := (j : Int) + 1) (by omega) (by omega)
    have hb0 := hb.1
    rw [W_loop]
    by_cases c0 : j = 0
    · subst c0
      have hs : A.get X16 = some (.cells [.int .i64 (readyS E b s.al 0).1, .int .i64 (readyS E b s.al 0).2] false) := hR
      have gs := get_set_same (b := some (.cells [.int .i64 (gi E (v * 2)), .int .i64 (gi E (v * 2 + 1))] false)) hs
      have hzX : z ≠ X16 := fun h => by
        have hz' := (ha (A.set X16 none) (fun w hw hwX => by rw [get_set_ne hRn hwX]; exact hb.2 w hw hwX)).2.at (i := v) (by omega)
        obtain ⟨z', c', ro', he', hg'⟩ := hz'
        cases he'
        rw [h, get_set_same hs] at hg'; cases hg'
      have hz2 : ∀ b', (A.set X16 b').get z = A.get z := fun b' => get_set_ne hRn hzX
      simp (disch := as_aux_lemma => first | omega | simp only [hDs] <;> omega | simp [isCell]) [hRs, takeMarks, resA, resAll, resOne, Value.cells, body133a, t73, t74, t75, u12, u16, show (0 : Int) < n by omega, show 0 < n by omega, show idxSA 1 (.slice (some ⟨y, 0, some 1⟩) n c) (.int .i64 0) = some (.pointer (some ⟨y, 0, none⟩)) from idxSA_ok (i := 0) (by omega) (by omega), hy, hyv, idxSA_ok, hz, hp, hs, storeB_cells, setRange, gs, hz2]
      refine w163 (by simp; omega) fun A1 e1 => ?_
      have gs1 := e1.get gs
      simp (disch := as_aux_lemma => first | omega | simp only [hDs] <;> omega | simp [isCell]) [hRs, takeMarks, resA, resAll, resOne, Value.cells, gs1, u16, storeB_cells, setRange, t75]
      refine ih 1 (by omega) (But.trans hb ⟨by have := e1.1; simp at this ⊢; omega, fun w hw hwX => by rw [get_set_ne (Hp.lt_of_get gs1) hwX, e1.2 w (by simpa using hw), get_set_ne hRn hwX]⟩) (by rw [get_set_same gs1, hstep]; simp) (hk.trans (by simp)) (by simp [t73, hne]) (by simp [t74, hne]) (by simp; decide)
    · simp (disch := as_aux_lemma => first | omega | simp only [hDs] <;> omega | simp [isCell]) [hRs, takeMarks, resA, resAll, resOne, Value.cells, body133a, t73, t74, t75, u12, u16, hlt, idxSA_ok, hy, hyv, hz, hp, hR, c0]
      refine w163 (by omega) fun A1 e1 => ?_
      have gs1 := e1.get hR
      simp (disch := as_aux_lemma => first | omega | simp only [hDs] <;> omega | simp [isCell]) [hRs, takeMarks, resA, resAll, resOne, Value.cells, gs1, u16, storeB_cells, setRange, t75]
      refine ih (j + 1) (by omega) (But.trans hb (But.set hRn e1)) (by rw [get_set_same gs1, hstep]; simp [c0]) (hk.trans (by simp)) (by simp [t73, hne]) (by simp [t74, hne]) (by simp [e3])
theorem loop134a {A0 : Hp} {X14 x n c i : Nat} {ro : Bool} {cells : List Value} {E : List Int} {b : Int × Int} {s : StepT} {a ends : Value} (ha : ∀ A, (∀ z, z < A0.n → z ≠ X14 → A.get z = A0.get z) → A.get x = some (.cells cells ro) ∧ RdS A 1 s.an (ints s.al) a ∧ RdS A 2 i (ints E) ends) (hc : cellAt cells (i * 7 + 1) = some a) (hin : i < n) (hnn : n ≤ 32)
    (hn : s.an < 1000000) (hal : ∀ k, k < s.an → 0 ≤ gi s.al k ∧ gi s.al k < i) (hg : g ≤ X14) (hX : X14 < A0.n)
    (hend : ∀ T' A', But X14 A0 A' → A'.get X14 = some (.cells [.int .i64 (readyS E b s.al s.an).1, .int .i64 (readyS E b s.al s.an).2] false) → KeepT [0, 2, 4, 7, 11, 12, 13, 14] T T' → Q (.exit 4) ⟨T', D, A'⟩) (t0 : tget T 0 = .slice (some ⟨x, 0, some 7⟩) n c) (t11 : tget T 11 = ends) (t13 : tget T 13 = .int .i64 i) (t14 : tget T 14 = .pointer (some ⟨X14, 0, none⟩)) :
    ∀ (k j : Nat) {T1 : List Value} {A : Hp}, j + k = s.an → But X14 A0 A → A.get X14 = some (.cells [.int .i64 (readyS E b s.al j).1, .int .i64 (readyS E b s.al j).2] false) → KeepT [0, 2, 4, 7, 11, 12, 13, 14] T T1 → tget T1 15 = .int .i64 j → W AP KL g rd (.loop body134a) ⟨T1, D, A⟩ Q := by
  intro k
  induction k with
  | zero =>
    intro j T1 A hik hb hR hk t15
    have : j = s.an := by omega
    subst this
    have u0 := (hk.at 0 rfl).trans t0
    have u13 := (hk.at 13 rfl).trans t13
    obtain ⟨hx, ra, _⟩ := ha A hb.2
    rw [W_loop]
    simp (disch := as_aux_lemma => first | omega | simp only [hDs] <;> omega | simp [isCell]) [hRs, takeMarks, resA, resAll, resOne, Value.cells, body134a, t15, u0, u13, idxSA_ok, hx, hc, ra.len]
    exact hend _ A hb hR (hk.trans (by simp))
  | succ k ih =>
    intro j T1 A hik hb hR hk t15
    have u0 := (hk.at 0 rfl).trans t0
    have u11 := (hk.at 11 rfl).trans t11
    have u13 := (hk.at 13 rfl).trans t13
    have u14 := (hk.at 14 rfl).trans t14
    obtain ⟨hx, ra, re⟩ := ha A hb.2
    have hlen := ra.len
    have hla := ra.1
    have hle := re.1
    rw [ints_length] at hla hle
    obtain ⟨y, cy, roy, rfl, hy⟩ := ra.at (i := j) (by omega)
    obtain ⟨h0, h1⟩ := hal j (by omega)
    obtain ⟨v, hv⟩ : ∃ v : Nat, gi s.al j = v := ⟨(gi s.al j).toNat, by omega⟩
    have hyv : cellAt (ints s.al) j = some (.int .i64 (v : Int)) := by rw [← hv]; exact ints_get (by omega)
    obtain ⟨z, c2, ro2, rfl, hz⟩ := re.at (i := v) (by omega)
    obtain ⟨p, hpe⟩ : ∃ p, p = gi E (v * 2) := ⟨_, rfl⟩
    obtain ⟨q, hqe⟩ : ∃ q, q = gi E (v * 2 + 1) := ⟨_, rfl⟩
    have hp : partA (ints E) (v * 2) (some 2) = some (.agg ⟨[.int .i64 p, .int .i64 q]⟩) := by rw [hpe, hqe]; exact ints_two (by omega)
    have hRn := Hp.lt_of_get hR
    have hstep : readyS E b s.al (j + 1) = (max (if j = 0 then p else (readyS E b s.al j).1) p, max (if j = 0 then q else (readyS E b s.al j).2) q) := by
      show (max (if j = 0 then gi E ((gi s.al j).toNat * 2) else _) _, _) = _
      rw [hv, Int.toNat_natCast, hpe, hqe]
    obtain ⟨m, hme⟩ : ∃ m, m = s.an := ⟨_, rfl⟩
    have hlt : (j : Int) < m := by omega
    rw [← hme] at hlen hc
    have e3 := wrId (n := (j : Int) + 1) (by omega) (by omega)
    have eP := Ext'.push A (.cells [.int .i64 p, .int .i64 q] false)
    have hb0 := hb.1
    have gB : (A.push (.cells [.int .i64 p, .int .i64 q] false)).get X14 = _ := (eP.get hR)
    rw [W_loop]
    by_cases c0 : j = 0
    · subst c0
      have gs := get_set_same (b := some (.cells [.int .i64 p, .int .i64 q] false)) hR
      simp (disch := as_aux_lemma => first | omega | simp only [hDs] <;> omega | simp [isCell]) [hRs, takeMarks, resA, resAll, resOne, Value.cells, body134a, t15, u0, u11, u13, u14, show (0 : Int) < m by omega, show 0 < m by omega, idxSA_ok, hx, hc, hlen, show idxSA 1 (.slice (some ⟨y, 0, some 1⟩) m cy) (.int .i64 0) = some (.pointer (some ⟨y, 0, none⟩)) from idxSA_ok (i := 0) (by omega) (by omega), hy, hyv, hz, hp, storeB_cells, setRange, set_push_eq, hR, gs, fillA]
      refine ih 1 (by omega) (But.trans hb ⟨by simp, fun w hw hwX => ?_⟩) ?_ (hk.trans (by simp)) (by simp; decide)
      · rw [get_push_old (by simpa using hw), get_set_ne (by simpa using hRn) hwX, get_set_ne hRn hwX]
      · rw [get_push_old (by simpa using hRn), get_set_same gs, hstep]; simp
    · simp (disch := as_aux_lemma => first | omega | simp only [hDs] <;> omega | simp [isCell]) [hRs, takeMarks, resA, resAll, resOne, Value.cells, body134a, t15, u0, u11, u13, u14, hlt, idxSA_ok, hx, hc, hlen, hy, hyv, hz, hp, storeB_cells, setRange, set_push_eq, hR, c0, fillA]
      refine ih (j + 1) (by omega) (But.trans hb ⟨by simp, fun w hw hwX => ?_⟩) ?_ (hk.trans (by simp)) (by simp [e3])
      · rw [get_push_old (by simpa using hw), get_set_ne hRn hwX]
      · rw [get_push_old (by simpa using hRn), get_set_same hR, hstep]; simp [c0]
end
end Go.Ab.Dike
namespace Go.Ab.Dike
open Go Go.Ab
def Bd (B v : Int) : Prop := 0 ≤ v ∧ (v ≤ B ∨ v = never)
theorem Bd.max {B v u : Int} (h : Bd B v) (h' : Bd B u) (hB : B ≤ never) : Bd B (max v u) := by
  unfold Bd never at *
  omega
theorem Bd.le {B v : Int} (h : Bd B v) (hB : B ≤ never) : v ≤ never := by unfold Bd at h; omega
theorem Bd.mono {B B' v : Int} (h : Bd B v) (hB : B ≤ B') : Bd B' v := by unfold Bd at *; omega
theorem slotV_bd {r t : Int} {ws : List Int} {nw : Nat} (hr : 0 ≤ r ∧ r ≤ never) (ht : 0 ≤ t ∧ t ≤ 100000000) (hw : ∀ i, i < nw → 0 ≤ gi ws (i * 2) ∧ gi ws (i * 2 + 1) ≤ 1000000000 ∧ gi ws (i * 2) ≤ 1000000000) : ∀ (k i : Nat), i + k = nw → Bd 1000000000 (slotV r t ws k i)
  | 0, _, _ => ⟨by unfold slotV never; omega, .inr rfl⟩
  | k + 1, i, h => by
    obtain ⟨w1, w2, w3⟩ := hw i (by omega)
    have hs : slotAt r t ws i = Max.max r (gi ws (i * 2)) + t := by
      unfold slotAt
      unfold never at hr
      exact wrId (by omega) (by omega)
    unfold slotV
    split
    · rename_i hle
      rw [hs] at hle ⊢
      exact ⟨by omega, .inl (by omega)⟩
    · exact slotV_bd hr ht hw k (i + 1) (by omega)
theorem endV_bd {B r t : Int} {ws : List Int} {nw : Nat} {calm : Bool} (hr : Bd B r) (hB : 1000000000 ≤ B) (hB2 : B ≤ 100000000000) (ht : 0 ≤ t ∧ t ≤ 100000000) (hw : ∀ i, i < nw → 0 ≤ gi ws (i * 2) ∧ gi ws (i * 2 + 1) ≤ 1000000000 ∧ gi ws (i * 2) ≤ 1000000000) : Bd (B + 100000000) (endV r t calm ws nw) := by
  unfold endV
  split
  · exact ⟨by unfold never; omega, .inr rfl⟩
  · rename_i hne
    have hrB : 0 ≤ r ∧ r ≤ B := by unfold Bd at hr; exact ⟨hr.1, hr.2.resolve_right hne⟩
    split
    · exact (slotV_bd ⟨hrB.1, by unfold never; omega⟩ ht hw nw 0 (by omega)).mono (by omega)
    · rw [wrId (by omega) (by omega)]
      exact ⟨by omega, .inl (by omega)⟩
theorem readyS_bd {B : Int} {E : List Int} {b : Int × Int} {al : List Int} (hB : B ≤ never) (hE : ∀ j, Bd B (gi E j)) (hb : Bd B b.1 ∧ Bd B b.2) : ∀ k, Bd B (readyS E b al k).1 ∧ Bd B (readyS E b al k).2
  | 0 => hb
  | k + 1 => by
    have ih := readyS_bd hB hE hb (al := al) k
    refine ⟨Bd.max ?_ (hE _) hB, Bd.max ?_ (hE _) hB⟩
    · split
      · exact hE _
      · exact ih.1
    · split
      · exact hE _
      · exact ih.2
structure Fine (n : Nat) (S : Nat → StepT) (b : Int × Int) (nw : Nat) (ws : List Int) : Prop where
  n32 : n ≤ 32
  bb : 0 ≤ b.1 ∧ b.1 ≤ 1000000000 ∧ 0 ≤ b.2 ∧ b.2 ≤ 1000000000
  ww : ∀ i, i < nw → 0 ≤ gi ws (i * 2) ∧ gi ws (i * 2 + 1) ≤ 1000000000 ∧ gi ws (i * 2) ≤ 1000000000
  tt : ∀ i, i < n → (0 ≤ (S i).tl ∧ (S i).tl ≤ 100000000) ∧ (0 ≤ (S i).th ∧ (S i).th ≤ 100000000)
  aa : ∀ i, i < n → ∀ k, k < (S i).an → 0 ≤ gi (S i).al k ∧ gi (S i).al k < i
theorem validB_iff {a b lo hi : Int} : validB a b lo hi = true ↔ a ≤ b ∧ lo ≤ a ∧ b ≤ hi := by simp [validB]
theorem fine_of {n : Nat} {S : Nat → StepT} {b : Int × Int} {nw : Nat} {ws : List Int} (h1 : stepsE n S = 0) (h2 : validB b.1 b.2 0 1000000000 = true) (h3 : firstE (winE ws) nw = 0) : Fine n S b nw ws := by
  have hn : ¬ 32 < n := fun h => by rw [stepsE, if_pos h] at h1; cases h1
  rw [stepsE, if_neg hn] at h1
  have hall := firstE_all h1
  have parts : ∀ i, i < n → firstE (aftE i (S i).al) (S i).an = 0 ∧ lastE (S i) = 0 := by
    intro i hi
    have := hall i hi
    unfold stpE at this
    split at this
    · cases this
    · split at this
      · cases this
      · split at this
        · rename_i h; exact absurd this h
        · rename_i h; exact ⟨Decidable.not_not.1 h, this⟩
  rw [validB_iff] at h2
  refine ⟨by omega, by omega, fun i hi => ?_, fun i hi => ?_, fun i hi k hk => ?_⟩
  · have := firstE_all h3 i hi
    unfold winE at this
    split at this
    · cases this
    · rename_i h
      rw [Bool.not_eq_false, validB_iff] at h
      omega
  · have := (parts i hi).2
    unfold lastE at this
    split at this
    · cases this
    · rename_i h
      simp only [not_or, Bool.not_eq_false] at h
      have h0 := validB_iff.1 h.1
      omega
  · have := firstE_all (parts i hi).1 k hk
    unfold aftE at this
    split at this
    · cases this
    · rename_i h; omega
theorem endsL_bd {n : Nat} {S : Nat → StepT} {b : Int × Int} {nw : Nat} {ws : List Int} (h : Fine n S b nw ws) : ∀ i, i ≤ n → ∀ j, Bd (1000000000 + i * 100000000) (gi (endsL S b ws nw i) j)
  | 0, _, j => by simp [endsL, gi, Bd]
  | i + 1, hi, j => by
    have ih := endsL_bd h i (by omega)
    have hn := h.n32
    have hB : (1000000000 + (i : Int) * 100000000) ≤ 100000000000 := by omega
    have hr := readyS_bd (al := (S i).al) (b := b) (by unfold never; omega) ih ⟨⟨h.bb.1, .inl (by have := h.bb.2.1; omega)⟩, ⟨h.bb.2.2.1, .inl (by have := h.bb.2.2.2; omega)⟩⟩ (S i).an
    have ht := h.tt i (by omega)
    have e1 := endV_bd (calm := (S i).calm) hr.1 (by omega) hB ht.1 h.ww
    have e2 := endV_bd (calm := (S i).calm) hr.2 (by omega) hB ht.2 h.ww
    have eB : (1000000000 + ((i + 1 : Nat) : Int) * 100000000) = 1000000000 + (i : Int) * 100000000 + 100000000 := by omega
    rw [eB]
    have hl := endsL_length S b ws nw i
    show Bd _ (gi (endsL S b ws nw i ++ [_, _]) j)
    unfold gi
    rw [List.getD_eq_getElem?_getD, List.getElem?_append]
    split
    · have := (ih j).mono (show 1000000000 + (i : Int) * 100000000 ≤ 1000000000 + (i : Int) * 100000000 + 100000000 by omega)
      unfold gi at this
      rwa [List.getD_eq_getElem?_getD] at this
    · rename_i hj
      obtain ⟨d, hd⟩ : ∃ d, j = (endsL S b ws nw i).length + d := ⟨j - (endsL S b ws nw i).length, by omega⟩
      rw [hd, Nat.add_sub_cancel_left]
      match d with
      | 0 => exact e1
      | 1 => exact e2
      | d + 2 => simp [Bd]; omega
theorem ready_le {n : Nat} {S : Nat → StepT} {b : Int × Int} {nw : Nat} {ws : List Int} (h : Fine n S b nw ws) {i : Nat} (hi : i < n) : (readyS (endsL S b ws nw i) b (S i).al (S i).an).1 ≤ never ∧ (readyS (endsL S b ws nw i) b (S i).al (S i).an).2 ≤ never := by
  have ih := endsL_bd h i (by omega)
  have hn := h.n32
  have hB : (1000000000 + (i : Int) * 100000000) ≤ never := by unfold never; omega
  have hr := readyS_bd (al := (S i).al) (b := b) hB ih ⟨⟨h.bb.1, .inl (by have := h.bb.2.1; omega)⟩, ⟨h.bb.2.2.1, .inl (by have := h.bb.2.2.2; omega)⟩⟩ (S i).an
  exact ⟨hr.1.le hB, hr.2.le hB⟩
end Go.Ab.Dike
namespace Go.Ab.Dike
open Go Go.Ab
def body133 : ACode := (.seq
 (.ops [
oB 68 .lss 67 66])
 (.seq
 (.cond (.t 68)
 .skip
 (.exit 4))
 (.seq
 (.block 5
 (.seq
 (.ops [
oI 69 65 67 7,
oD 70 69 7,
⟨some 15, none, [], .alloc [.string ⟨⟨[]⟩⟩, .slice none 0 0, .int .i64 0, .int .i64 0, .bool false, .bool false, .int .i64 0]⟩,
oT 15 70 7])
 (.seq
 (.ops [
oD 71 4 2,
oP 16 (.alloc [.int .i64 0, .int .i64 0]),
oT 16 71 2])
 (.seq
 (.seq
 (.ops [
oF 72 15 1,
oL 73 72,
oP 74 (.len (.t 73)),
oP 75 (.move (oK 0))])
 (.block 6
 (.loop
 (.seq
 (.ops [
oB 76 .lss 75 74])
 (.seq
 (.cond (.t 76)
 .skip
 (.exit 6))
 (.seq
 (.block 7
 (.seq
 (.ops [
oM 77 75,
oI 78 73 75 1,
oL 79 78,
oM 17 77,
oM 18 79])
 (.seq
 (.seq
 (.ops [
oM 80 17,
oC 81 .eql 80 0])
 (.cond (.t 81)
 (.ops [
oM 82 12,
oM 83 18,
oI 84 82 83 2,
oD 85 84 2,
oT 16 85 2])
 .skip))
 (.ops [
oD 86 16 2,
oM 87 12,
oM 88 18,
oI 89 87 88 2,
oD 90 89 2,
oA 91 163 [.t 86, .t 90] false,
oT 16 91 2]))))
 (.ops [
oC 92 .add 75 1,
oM 75 92])))))))
 (.seq
 (.ops [
oD 93 15 7,
oF 94 16 0,
oL 95 94,
oF 96 15 2,
oF 97 96 0,
oL 98 97,
oM 99 2,
oA 100 164 [.t 93, .t 95, .t 98, .t 99] true,
oD 101 15 7,
oF 102 16 1,
oL 103 102,
oF 104 15 2,
oF 105 104 1,
oL 106 105,
oM 107 2,
oA 108 164 [.t 101, .t 103, .t 106, .t 107] true,
oP 109 (.build [.int .i64 0, .int .i64 0] [(0, 1, .t 100), (1, 1, .t 108)]),
oP 19 (.alloc [.int .i64 0, .int .i64 0]),
oT 19 109 2])
 (.ops [
oM 110 12,
oD 111 19 2,
oP 112 (.slit 1 2 [.int .i64 0, .int .i64 0] [(0, .t 111)]),
oP 113 (.append (.t 110) (.t 112) 2 16),
⟨some 114, none, [(.t 110, 0, .t 13, 2)], .load (.t 13) (some 2)⟩,
⟨some 115, none, [(.t 110, 0, .t 19, 2)], .load (.t 19) (some 2)⟩,
oA 116 163 [.t 114, .t 115] false,
oM 12 113,
oT 13 116 2]))))))
 (.ops [
oC 117 .add 67 1,
oM 67 117]))))
def body134 : ACode := (.seq
 (.seq
 (.ops [
oM 63 13,
oM 64 0,
oP 65 (.len (.t 64)),
oB 66 .lss 63 65])
 (.cond (.t 66)
 .skip
 (.exit 2)))
 (.seq
 (.block 3
 (.seq
 (.ops [
oD 69 4 2,
oP 14 (.alloc [.int .i64 0, .int .i64 0]),
oT 14 69 2])
 (.seq
 (.seq
 (.ops [
oP 15 (.move (oK 0))])
 (.block 4
 (.loop
 (.seq
 (.seq
 (.ops [
oM 70 15,
oM 71 0,
oM 72 13,
oI 73 71 72 7,
oF 74 73 1,
oL 75 74,
oP 76 (.len (.t 75)),
oB 77 .lss 70 76])
 (.cond (.t 77)
 .skip
 (.exit 4)))
 (.seq
 (.block 5
 (.seq
 (.ops [
oM 80 11,
oM 81 0,
oM 82 13,
oI 83 81 82 7,
oF 84 83 1,
oL 85 84,
oM 86 15,
oI 87 85 86 1,
oL 88 87,
oI 89 80 88 2,
oD 90 89 2,
oP 16 (.alloc [.int .i64 0, .int .i64 0]),
oT 16 90 2])
 (.seq
 (.seq
 (.ops [
oM 91 15,
oC 92 .eql 91 0])
 (.cond (.t 92)
 (.ops [
oD 93 16 2,
oT 14 93 2])
 .skip))
 (.ops [
oF 94 14 0,
oL 95 94,
oF 96 16 0,
oL 97 96,
oP 98 (.max [.t 95, .t 97]),
oF 99 14 1,
oL 100 99,
oF 101 16 1,
oL 102 101,
oP 103 (.max [.t 100, .t 102]),
oP 104 (.build [.int .i64 0, .int .i64 0] [(0, 1, .t 98), (1, 1, .t 103)]),
oT 14 104 2]))))
 (.ops [
oM 78 15,
oC 79 .add 78 1,
oM 15 79]))))))
 (.seq
 (.ops [
oF 105 14 0,
oL 106 105,
oM 107 0,
oM 108 13,
oI 109 107 108 7,
oF 110 109 2,
oF 111 110 0,
oL 112 111,
oM 113 0,
oM 114 13,
oI 115 113 114 7,
oF 116 115 4,
oL 117 116,
oM 118 2,
oA 119 165 [.t 106, .t 112, .t 117, .t 118] true,
oF 120 14 1,
oL 121 120,
oM 122 0,
oM 123 13,
oI 124 122 123 7,
oF 125 124 2,
oF 126 125 1,
oL 127 126,
oM 128 0,
oM 129 13,
oI 130 128 129 7,
oF 131 130 4,
oL 132 131,
oM 133 2,
oA 134 165 [.t 121, .t 127, .t 132, .t 133] true,
oP 135 (.build [.int .i64 0, .int .i64 0] [(0, 1, .t 119), (1, 1, .t 134)]),
oP 17 (.alloc [.int .i64 0, .int .i64 0]),
oT 17 135 2])
 (.seq
 (.ops [
oM 136 11,
oD 137 17 2,
oP 138 (.slit 1 2 [.int .i64 0, .int .i64 0] [(0, .t 137)]),
oP 139 (.append (.t 136) (.t 138) 2 16),
oM 11 139])
 (.ops [
oF 140 12 0,
oL 141 140,
oF 142 17 0,
oL 143 142,
oP 144 (.max [.t 141, .t 143]),
oF 145 12 1,
oL 146 145,
oF 147 17 1,
oL 148 147,
oP 149 (.max [.t 146, .t 148]),
oP 150 (.build [.int .i64 0, .int .i64 0] [(0, 1, .t 144), (1, 1, .t 149)]),
oT 12 150 2]))))))
 (.ops [
oM 67 13,
oC 68 .add 67 1,
oM 13 68])))
section
variable {g : Nat} {rd : Option Nat} {T : List Value} {D : List Nat} {A : Hp} {Q : Ex → St → Prop} {V : Value → Hp → Prop}
def pairB (p : Int × Int) : ABlk := .cells [.int .i64 p.1, .int .i64 p.2] false
theorem loop133 {A1 : Hp} {X4 X13 N n nw : Nat} {S : Nat → StepT} {b : Int × Int} {ws : List Int} {sl wl : Value} (hold : ∀ A : Hp, (∀ z, z < N → z ≠ X13 → A.get z = A1.get z) → Steps A n S sl ∧ RdS A 2 nw (ints ws) wl ∧ A.get X4 = some (pairB b)) (hf : Fine n S b nw ws) (hnw : nw < 1000000) (hS : ∀ i, i < n → (S i).an < 1000000)
    (hXN : X13 < N) (h4N : X4 < N) (hgX : g ≤ X13) (hgN : g ≤ N)
    (hend : ∀ T' A' sv, KeepT [0, 2, 4, 7, 13] T T' → tget T' 12 = sv → AccS N A' 2 (ints (endsL S b ws nw n)) sv → A'.get X13 = some (pairB (allS S b ws nw n)) → N ≤ A'.n → (∀ z, z < N → z ≠ X13 → A'.get z = A1.get z) → Q (.exit 4) ⟨T', D, A'⟩)
    (t2 : tget T 2 = wl) (t4 : tget T 4 = .pointer (some ⟨X4, 0, none⟩)) (t13 : tget T 13 = .pointer (some ⟨X13, 0, none⟩)) :
    ∀ (k i : Nat) {T1 : List Value} {A : Hp} {sv : Value}, i + k = n → KeepT [0, 2, 4, 7, 13] T T1 → tget T1 12 = sv → tget T1 65 = sl → tget T1 66 = .int .i64 n → tget T1 67 = .int .i64 i → AccS N A 2 (ints (endsL S b ws nw i)) sv → A.get X13 = some (pairB (allS S b ws nw i)) → N ≤ A.n → (∀ z, z < N → z ≠ X13 → A.get z = A1.get z) → W AP KL g rd (.loop body133) ⟨T1, D, A⟩ Q := by
  have hn32 := hf.n32
  intro k
  induction k with
  | zero =>
    intro i T1 A sv hik hk t12 t65 t66 t67 hacc hX hN ho
    have : i = n := by omega
    subst this
    rw [W_loop]
    simp (disch := as_aux_lemma => first | omega | simp only [hDs] <;> omega | simp [isCell]) [hRs, takeMarks, resA, resAll, resOne, Value.cells, body133, t66, t67]
    exact hend _ A sv (hk.trans (by simp)) (by simp [t12]) hacc hX hN ho
  | succ k ih =>
    intro i T1 A sv hik hk t12 t65 t66 t67 hacc hX hN ho
    have u2 := (hk.at 2 rfl).trans t2
    have u4 := (hk.at 4 rfl).trans t4
    have u13 := (hk.at 13 rfl).trans t13
    obtain ⟨hsl, hwl, hX4⟩ := hold A ho
    obtain ⟨x, c, ro, cells, rfl, hx, hcl, hat⟩ := hsl.at (i := i) (by omega)
    obtain ⟨a, p1, p2, p3, p4, p5, p6, p7, p8, p9, ra⟩ := hat i (by omega)
    obtain ⟨s, hs⟩ : ∃ s, s = S i := ⟨_, rfl⟩
    have hsn := hS i (by omega)
    have haa := hf.aa i (by omega)
    rw [← hs] at p1 ra hsn haa
    obtain ⟨E, hE⟩ : ∃ E, E = endsL S b ws nw i := ⟨_, rfl⟩
    have hEl : E.length = i * 2 := by rw [hE]; exact endsL_length S b ws nw i
    rw [← hE] at hacc
    have hrE := hacc.rd (n := i) (by rw [ints_length, hEl]) (by decide)
    obtain ⟨al, hal⟩ : ∃ al, al = allS S b ws nw i := ⟨_, rfl⟩
    rw [← hal] at hX
    have hXn := Hp.lt_of_get hX
    have h4n := Hp.lt_of_get hX4
    unfold pairB at hX4
    obtain ⟨pa, na, rfl⟩ := ra.isSlice
    obtain ⟨C, hC⟩ : ∃ C, C = (A.push (.cells (stepC (.slice pa s.an na) s) false)).push (.cells [.int .i64 b.1, .int .i64 b.2] false) := ⟨_, rfl⟩
    have eC : Ext' A C := by rw [hC]; exact (Ext'.push A _).trans (Ext'.push _ _)
    have hCn : C.n = A.n + 2 := by rw [hC]; rfl
    have hC15 : C.get A.n = some (.cells (stepC (.slice pa s.an na) s) false) := by rw [hC, get_push_old (by simp), get_push_new]
    have hC16 : C.get (A.n + 1) = some (.cells [.int .i64 b.1, .int .i64 b.2] false) := by rw [hC, get_push_eq (by simp)]
    have hC' : (A.push (.cells [.string s.name, .slice pa s.an na, .int .i64 s.tl, .int .i64 s.th, .bool s.calm, .bool s.clear, .int .i64 s.logs] false)).push (.cells [.int .i64 b.1, .int .i64 b.2] false) = C := hC.symm
    have hC15' : C.get A.n = some (.cells [.string s.name, .slice pa s.an na, .int .i64 s.tl, .int .i64 s.th, .bool s.calm, .bool s.clear, .int .i64 s.logs] false) := hC15
    have hlen := ra.len
    rw [W_loop]
    simp (disch := as_aux_lemma => first | omega | simp only [hDs] <;> omega | simp [isCell]) [hRs, takeMarks, resA, resAll, resOne, Value.cells, body133, t65, t66, t67, u4, show ((i : Int) < n) by omega, idxSA_ok, hx, p1, stepC, storeB_cells, setRange, set_push_eq, hX4, hC', hC15', hlen]
    refine loop133a (A0 := C) (X16 := A.n + 1) (i := i) (E := E) (b := b) (s := s) (ends := sv) (fun A' h' => ⟨ra.mono fun z hz => by rw [h' z (by omega) (by omega), eC.2 z hz], hrE.mono fun z hz => by rw [h' z (by omega) (by omega), eC.2 z hz]⟩) hsn haa (by omega) (by omega) ?_ (T := _) ?_ ?_ s.an 0 (by omega) (But.of_ext (Ext'.refl _)) hC16 (fun _ _ => rfl) (by simp) (by simp) (by simp)
    · intro T2 A2 hb2 h16 k2
      have w2 := k2.at 2 rfl
      have w12 := k2.at 12 rfl
      have w13 := k2.at 13 rfl
      have w15 := k2.at 15 rfl
      have w16 := k2.at 16 rfl
      have w67 := k2.at 67 rfl
      have w66 := k2.at 66 rfl
      have w65 := k2.at 65 rfl
      have w0 := k2.at 0 rfl
      have w4 := k2.at 4 rfl
      have w7 := k2.at 7 rfl
      simp [u2, u4, u13, t12, t65, t66, t67] at w2 w12 w13 w15 w16 w67 w66 w65 w4
      simp at w0 w7
      have hb20 := hb2.1
      have e2 : Ext' A A2 := ⟨by omega, fun z hz => by rw [hb2.2 z (by omega) (by omega), eC.2 z hz]⟩
      have h15 : A2.get A.n = _ := (hb2.2 A.n (by omega) (by omega)).trans hC15
      have h15' : A2.get A.n = _ := (hb2.2 A.n (by omega) (by omega)).trans hC15'
      obtain ⟨r, hr⟩ : ∃ r, r = readyS E b s.al s.an := ⟨_, rfl⟩
      rw [← hr] at h16
      have hc7 : partA [.string s.name, .slice pa s.an na, .int .i64 s.tl, .int .i64 s.th, .bool s.calm, .bool s.clear, .int .i64 s.logs] 0 (some 7) = some (.agg ⟨stepC (.slice pa s.an na) s⟩) := rfl
      simp (disch := as_aux_lemma => first | omega | simp only [hDs] <;> omega | simp [isCell]) [hRs, takeMarks, resA, resAll, resOne, Value.cells, w2, w15, w16, h15', h16, hc7]
      refine w164 (e2.rdS hwl) hnw (by omega) fun A3 e3 => ?_
      have n3 := e3.1
      have h153 := e3.get h15'
      have h163 := e3.get h16
      simp (disch := as_aux_lemma => first | omega | simp only [hDs] <;> omega | simp [isCell]) [hRs, takeMarks, resA, resAll, resOne, Value.cells, w2, w15, w16, h153, h163, hc7]
      refine w164 ((e2.trans e3).rdS hwl) hnw (by omega) fun A4 e4 => ?_
      have n4 := e4.1
      have e04 := e2.trans (e3.trans e4)
      obtain ⟨x1, hx1⟩ : ∃ x1, x1 = endV r.1 s.tl s.calm ws nw := ⟨_, rfl⟩
      obtain ⟨x2, hx2⟩ : ∃ x2, x2 = endV r.2 s.th s.calm ws nw := ⟨_, rfl⟩
      rw [← hx1, ← hx2]
      have hen : endS E b s ws nw = (x1, x2) := by rw [endS, ← hr, hx1, hx2]
      have e5 := Ext'.push A4 (.cells [.int .i64 x1, .int .i64 x2] false)
      have acc5 := (hacc.mono e04.2).mono e5.2
      obtain ⟨sv', A6, ha6, hacc6, hold6, n6, hb6⟩ := add_keep (g := g) (bytes := 16) (n := i) (ro := false) (new := [.int .i64 x1, .int .i64 x2]) acc5 hgN (by simp; omega) rfl (by decide) rfl (by rw [ints_length, hEl]) (by unfold room; omega)
      simp only [Hp.n_push] at n6 ha6 hold6
      have hblk : ∀ z, blkOf sv = some z → N ≤ z ∧ z < A.n := fun z hz => hacc.blk_ge hz
      have nX13 : blkOf sv ≠ some X13 := fun h => by have := hblk _ h; omega
      have nX19 : blkOf sv ≠ some A4.n := fun h => by have := hblk _ h; omega
      have h136 : A6.get X13 = some (.cells [.int .i64 al.1, .int .i64 al.2] false) := by rw [hold6 X13 (by omega) nX13, get_push_old (by omega), e04.2 X13 hXn]; exact hX
      have h196 : A6.get A4.n = some (.cells [.int .i64 x1, .int .i64 x2] false) := by rw [hold6 A4.n (by omega) nX19, get_push_new]
      have fin : W AP KL g rd (.loop body133) ⟨T1, D, A⟩ Q ∨ True := .inr trivial
      have main : ∀ (T3 : List Value), tget T3 12 = sv' → tget T3 13 = .pointer (some ⟨X13, 0, none⟩) → True := fun _ _ _ => trivial
      have hen1 : allS S b ws nw (i + 1) = (max al.1 x1, max al.2 x2) := by
        show (max (allS S b ws nw i).1 (endS (endsL S b ws nw i) b (S i) ws nw).1, max (allS S b ws nw i).2 (endS (endsL S b ws nw i) b (S i) ws nw).2) = _
        rw [← hE, ← hal, ← hs, hen]
      have hen2 : endsL S b ws nw (i + 1) = E ++ [x1, x2] := by
        show endsL S b ws nw i ++ [(endS (endsL S b ws nw i) b (S i) ws nw).1, (endS (endsL S b ws nw i) b (S i) ws nw).2] = _
        rw [← hE, ← hs, hen]
      have e3' := wrId (n := (i : Int) + 1) (by omega) (by omega)
      have last : ∀ (T3 : List Value) (A7 : Hp), Ext' A6 A7 → KeepT [0, 2, 4, 7, 13, 65, 66, 67] T2 T3 → tget T3 12 = sv' → W AP KL g rd (.loop body133) ⟨tset (tset T3 117 (.int .i64 ((i : Int) + 1))) 67 (.int .i64 ((i : Int) + 1)), D, A7.set X13 (some (.cells [.int .i64 (max al.1 x1), .int .i64 (max al.2 x2)] false))⟩ Q := by
        intro T3 A7 e7 k3 v12
        have n7 := e7.1
        have h137 := e7.get h136
        refine ih (i + 1) (sv := sv') (by omega) (hk.trans ?_) (by simp [v12]) (by simp [k3.at 65 rfl, w65]) (by simp [k3.at 66 rfl, w66]) (by simp) ?_ ?_ (by simp; omega) fun z hz hzX => ?_
        · simp [k3.at 0 rfl, k3.at 2 rfl, k3.at 4 rfl, k3.at 7 rfl, k3.at 13 rfl, w0, w2, u2, w4, u4, w7, w13, u13]
        · rw [hen2, ints_append]
          refine AccS.keepB (A := A7) (AccS.mono (A := A6) hacc6 e7.2) fun z hz => get_set_ne (Hp.lt_of_get h137) ?_
          have := (hacc6.blk_ge hz).1; omega
        · rw [get_set_same h137, hen1]; rfl
        · rw [get_set_ne (Hp.lt_of_get h137) hzX, e7.2 z (by omega), hold6 z (by omega) (fun h => by have := hblk _ h; omega), get_push_old (by omega), e04.2 z (by omega), ho z hz hzX]
      rcases hacc with ⟨rfl, _⟩ | ⟨y, q, rfl, hy1, hy2, hy3, hy4⟩
      · obtain ⟨p7, q7, r7, rfl⟩ := hacc6.isSlice
        simp (disch := as_aux_lemma => first | omega | simp only [hDs] <;> omega | simp [isCell]) [hRs, takeMarks, resA, resAll, resOne, Value.cells, w12, w13, fillA, storeB_cells, setRange, set_push_eq, slitA, ha6, h136, h196, apartA]
        refine w163 (by omega) fun A7 e7 => ?_
        have h137 := e7.get h136
        simp (disch := as_aux_lemma => first | omega | simp only [hDs] <;> omega | simp [isCell]) [hRs, takeMarks, resA, resAll, resOne, Value.cells, w13, w67, h137, storeB_cells, setRange, e3']
        exact last _ A7 e7 (by simp) (by simp)
      · obtain ⟨p7, q7, r7, rfl⟩ := hacc6.isSlice
        have hyn := Hp.lt_of_get hy1
        simp (disch := as_aux_lemma => first | omega | simp only [hDs] <;> omega | simp [isCell]) [hRs, takeMarks, resA, resAll, resOne, Value.cells, w12, w13, fillA, storeB_cells, setRange, set_push_eq, slitA, ha6, h136, h196, apartA, show ¬ X13 = y by omega, show ¬ A4.n = y by omega]
        refine w163 (by omega) fun A7 e7 => ?_
        have h137 := e7.get h136
        simp (disch := as_aux_lemma => first | omega | simp only [hDs] <;> omega | simp [isCell]) [hRs, takeMarks, resA, resAll, resOne, Value.cells, w13, w67, h137, storeB_cells, setRange, e3']
        exact last _ A7 e7 (by simp) (by simp)
    · simp [t12]
    · simp
theorem loop134 {A1 : Hp} {X4 X12 N n nw : Nat} {S : Nat → StepT} {b : Int × Int} {ws : List Int} {sl wl : Value} (hold : ∀ A : Hp, (∀ z, z < N → z ≠ X12 → A.get z = A1.get z) → Steps A n S sl ∧ RdS A 2 nw (ints ws) wl ∧ A.get X4 = some (pairB b)) (hf : Fine n S b nw ws) (hnw : nw < 1000000) (hS : ∀ i, i < n → (S i).an < 1000000)
    (hXN : X12 < N) (h4N : X4 < N) (hgX : g ≤ X12) (hgN : g ≤ N)
    (hend : ∀ T' A' sv, KeepT [0, 2, 4, 7, 12] T T' → tget T' 11 = sv → AccS N A' 2 (ints (endsL S b ws nw n)) sv → A'.get X12 = some (pairB (allS S b ws nw n)) → N ≤ A'.n → (∀ z, z < N → z ≠ X12 → A'.get z = A1.get z) → Q (.exit 2) ⟨T', D, A'⟩)
    (t0 : tget T 0 = sl) (t2 : tget T 2 = wl) (t4 : tget T 4 = .pointer (some ⟨X4, 0, none⟩)) (t12 : tget T 12 = .pointer (some ⟨X12, 0, none⟩)) :
    ∀ (k i : Nat) {T1 : List Value} {A : Hp} {sv : Value}, i + k = n → KeepT [0, 2, 4, 7, 12] T T1 → tget T1 11 = sv → tget T1 13 = .int .i64 i → AccS N A 2 (ints (endsL S b ws nw i)) sv → A.get X12 = some (pairB (allS S b ws nw i)) → N ≤ A.n → (∀ z, z < N → z ≠ X12 → A.get z = A1.get z) → W AP KL g rd (.loop body134) ⟨T1, D, A⟩ Q := by
  have hn32 := hf.n32
  intro k
  induction k with
  | zero =>
    intro i T1 A sv hik hk t11 t13 hacc hX hN ho
    have : i = n := by omega
    subst this
    have u0 := (hk.at 0 rfl).trans t0
    rw [W_loop]
    simp (disch := as_aux_lemma => first | omega | simp only [hDs] <;> omega | simp [isCell]) [hRs, takeMarks, resA, resAll, resOne, Value.cells, body134, u0, t13, (hold A ho).1.len]
    exact hend _ A sv (hk.trans (by simp)) (by simp [t11]) hacc hX hN ho
  | succ k ih =>
    intro i T1 A sv hik hk t11 t13 hacc hX hN ho
    have u0 := (hk.at 0 rfl).trans t0
    have u2 := (hk.at 2 rfl).trans t2
    have u4 := (hk.at 4 rfl).trans t4
    have u12 := (hk.at 12 rfl).trans t12
    obtain ⟨hsl, hwl, hX4⟩ := hold A ho
    have hlenS := hsl.len
    obtain ⟨x, c, ro, cells, rfl, hx, hcl, hat⟩ := hsl.at (i := i) (by omega)
    obtain ⟨a, p1, p2, p3, p4, p5, p6, p7, p8, p9, ra⟩ := hat i (by omega)
    have hxn := Hp.lt_of_get hx
    have hri := ready_le hf (show i < n by omega)
    obtain ⟨s, hs⟩ : ∃ s, s = S i := ⟨_, rfl⟩
    have hsn := hS i (by omega)
    have haa := hf.aa i (by omega)
    rw [← hs] at p5 p6 p7 ra hsn haa hri
    obtain ⟨E, hE⟩ : ∃ E, E = endsL S b ws nw i := ⟨_, rfl⟩
    have hEl : E.length = i * 2 := by rw [hE]; exact endsL_length S b ws nw i
    rw [← hE] at hacc hri
    have hrE := hacc.rd (n := i) (by rw [ints_length, hEl]) (by decide)
    obtain ⟨al, hal⟩ : ∃ al, al = allS S b ws nw i := ⟨_, rfl⟩
    rw [← hal] at hX
    have hXn := Hp.lt_of_get hX
    have h4n := Hp.lt_of_get hX4
    unfold pairB at hX4
    obtain ⟨C, hC⟩ : ∃ C, C = A.push (.cells [.int .i64 b.1, .int .i64 b.2] false) := ⟨_, rfl⟩
    have eC : Ext' A C := by rw [hC]; exact Ext'.push A _
    have hCn : C.n = A.n + 1 := by rw [hC]; rfl
    have hC14 : C.get A.n = some (.cells [.int .i64 b.1, .int .i64 b.2] false) := by rw [hC, get_push_new]
    rw [W_loop]
    simp (disch := as_aux_lemma => first | omega | simp only [hDs] <;> omega | simp [isCell]) [hRs, takeMarks, resA, resAll, resOne, Value.cells, body134, u0, u4, t13, hlenS, show ((i : Int) < n) by omega, storeB_cells, setRange, set_push_eq, hX4, ← hC]
    refine loop134a (A0 := C) (X14 := A.n) (x := x) (n := n) (c := c) (i := i) (ro := ro) (cells := cells) (E := E) (b := b) (s := s) (a := a) (ends := sv) (fun A' h' => ⟨by rw [h' x (by omega) (by omega), eC.2 x hxn]; exact hx, ra.mono fun z hz => by rw [h' z (by omega) (by omega), eC.2 z hz], hrE.mono fun z hz => by rw [h' z (by omega) (by omega), eC.2 z hz]⟩) p3 (by omega) hn32 hsn haa (by omega) (by omega) ?_ (T := _) ?_ ?_ ?_ ?_ s.an 0 (by omega) (But.of_ext (Ext'.refl _)) hC14 (fun _ _ => rfl) (by simp)
    · intro T2 A2 hb2 h14 k2
      have w0 := k2.at 0 rfl
      have w2 := k2.at 2 rfl
      have w4 := k2.at 4 rfl
      have w7 := k2.at 7 rfl
      have w11 := k2.at 11 rfl
      have w12 := k2.at 12 rfl
      have w13 := k2.at 13 rfl
      have w14 := k2.at 14 rfl
      simp [u0, u2, u4, u12, t11, t13] at w0 w2 w4 w11 w12 w13 w14
      simp at w7
      have hb20 := hb2.1
      have e2 : Ext' A A2 := ⟨by omega, fun z hz => by rw [hb2.2 z (by omega) (by omega), eC.2 z hz]⟩
      obtain ⟨r, hr⟩ : ∃ r, r = readyS E b s.al s.an := ⟨_, rfl⟩
      rw [← hr] at h14 hri
      have hx2 := e2.get hx
      simp (disch := as_aux_lemma => first | omega | simp only [hDs] <;> omega | simp [isCell]) [hRs, takeMarks, resA, resAll, resOne, Value.cells, w0, w2, w13, w14, h14, idxSA_ok, hx2, p5, p7]
      refine w165 (e2.rdS hwl) hnw hri.1 ?_
      simp (disch := as_aux_lemma => first | omega | simp only [hDs] <;> omega | simp [isCell]) [hRs, takeMarks, resA, resAll, resOne, Value.cells, w0, w2, w13, w14, h14, idxSA_ok, hx2, p6, p7]
      refine w165 (e2.rdS hwl) hnw hri.2 ?_
      obtain ⟨x1, hx1⟩ : ∃ x1, x1 = endV r.1 s.tl s.calm ws nw := ⟨_, rfl⟩
      obtain ⟨x2, hx2'⟩ : ∃ x2, x2 = endV r.2 s.th s.calm ws nw := ⟨_, rfl⟩
      rw [← hx1, ← hx2']
      have hen : endS E b s ws nw = (x1, x2) := by rw [endS, ← hr, hx1, hx2']
      have e5 := Ext'.push A2 (.cells [.int .i64 x1, .int .i64 x2] false)
      have acc5 := (hacc.mono e2.2).mono e5.2
      obtain ⟨sv', A6, ha6, hacc6, hold6, n6, hb6⟩ := add_keep (g := g) (bytes := 16) (n := i) (ro := false) (new := [.int .i64 x1, .int .i64 x2]) acc5 hgN (by simp; omega) rfl (by decide) rfl (by rw [ints_length, hEl]) (by unfold room; omega)
      simp only [Hp.n_push] at n6 ha6 hold6
      have hblk : ∀ z, blkOf sv = some z → N ≤ z ∧ z < A.n := fun z hz => hacc.blk_ge hz
      have nX12 : blkOf sv ≠ some X12 := fun h => by have := hblk _ h; omega
      have nX17 : blkOf sv ≠ some A2.n := fun h => by have := hblk _ h; omega
      have h126 : A6.get X12 = some (.cells [.int .i64 al.1, .int .i64 al.2] false) := by rw [hold6 X12 (by omega) nX12, get_push_old (by omega), e2.2 X12 hXn]; exact hX
      have h176 : A6.get A2.n = some (.cells [.int .i64 x1, .int .i64 x2] false) := by rw [hold6 A2.n (by omega) nX17, get_push_new]
      have hen1 : allS S b ws nw (i + 1) = (max al.1 x1, max al.2 x2) := by
        show (max (allS S b ws nw i).1 (endS (endsL S b ws nw i) b (S i) ws nw).1, max (allS S b ws nw i).2 (endS (endsL S b ws nw i) b (S i) ws nw).2) = _
        rw [← hE, ← hal, ← hs, hen]
      have hen2 : endsL S b ws nw (i + 1) = E ++ [x1, x2] := by
        show endsL S b ws nw i ++ [(endS (endsL S b ws nw i) b (S i) ws nw).1, (endS (endsL S b ws nw i) b (S i) ws nw).2] = _
        rw [← hE, ← hs, hen]
      have e3' := wrId (n := (i : Int) + 1) (by omega) (by omega)
      obtain ⟨p7', q7, r7, rfl⟩ := hacc6.isSlice
      simp (disch := as_aux_lemma => first | omega | simp only [hDs] <;> omega | simp [isCell]) [hRs, takeMarks, resA, resAll, resOne, Value.cells, w11, w12, w13, fillA, storeB_cells, setRange, set_push_eq, slitA, ha6, h126, h176, e3']
      refine ih (i + 1) (sv := .slice p7' q7 r7) (by omega) (hk.trans ?_) (by simp) (by simp) ?_ ?_ (by simp; omega) fun z hz hzX => ?_
      · simp [w0, u0, w2, u2, w4, u4, w7, w12, u12]
      · rw [hen2, ints_append]
        refine AccS.keepB (A := A6) hacc6 fun z hz => get_set_ne (Hp.lt_of_get h126) ?_
        have := (hacc6.blk_ge hz).1; omega
      · rw [get_set_same h126, hen1]; rfl
      · rw [get_set_ne (Hp.lt_of_get h126) hzX, hold6 z (by omega) (fun h => by have := hblk _ h; omega), get_push_old (by omega), e2.2 z (by omega), ho z hz hzX]
    · simp [u0]
    · simp [t11]
    · simp [t13]
    · simp
end
end Go.Ab.Dike
namespace Go.Ab.Dike
open Go Go.Ab
def CloseOut (n : Nat) (S : Nat → StepT) (b : Int × Int) (nw : Nat) (ws : List Int) (v : Value) (A' : Hp) : Prop :=
  (closeE n S b nw ws ≠ 0 ∧ v = .tuple ⟨[.slice none 0 0, .agg ⟨[.int .i64 0, .int .i64 0]⟩, .int .i64 (closeE n S b nw ws)]⟩) ∨
  (closeE n S b nw ws = 0 ∧ ∃ sl, v = .tuple ⟨[sl, .agg ⟨[.int .i64 (allS S b ws nw n).1, .int .i64 (allS S b ws nw n).2]⟩, .int .i64 0]⟩ ∧ RdS A' 2 n (ints (endsL S b ws nw n)) sl)
section
variable {g : Nat} {rd : Option Nat} {T : List Value} {D : List Nat} {A : Hp} {Q : Ex → St → Prop} {V : Value → Hp → Prop}
theorem w133 {n nw : Nat} {S : Nat → StepT} {b : Int × Int} {ws : List Int} {sl wl : Value} (hsl : Steps A n S sl) (hn : n < 1000000) (hS : ∀ i, i < n → (S i).name.size < 1000000 ∧ (S i).an < 1000000) (hwl : RdS A 2 nw (ints ws) wl) (hnw : nw < 1000000) (hg : g ≤ A.n)
    (hV : ∀ v A', Ext' A A' → CloseOut n S b nw ws v A' → V v A') : WF AP KL g 133 [sl, .agg ⟨[.int .i64 b.1, .int .i64 b.2]⟩, wl] A V := by
  rw [WF_body (show KL 133 = none from rfl) (show AP 133 = some F133 from rfl)]
  obtain ⟨B, hB⟩ : ∃ B, B = (A.push (pairB b)).push zSpan := ⟨_, rfl⟩
  have hBn : B.n = A.n + 2 := by rw [hB]; rfl
  have eB : Ext' A B := by rw [hB]; exact (Ext'.push A _).trans (Ext'.push _ _)
  have h4 : B.get A.n = some (pairB b) := by rw [hB, get_push_old (by simp), get_push_new]
  have h7 : B.get (A.n + 1) = some zSpan := by rw [hB, get_push_eq (by simp)]
  have hB' : (A.push (.cells [.int .i64 b.1, .int .i64 b.2] false)).push (.cells [.int .i64 0, .int .i64 0] false) = B := hB.symm
  have bad : ∀ (A2 : Hp) (e : Int), But (A.n + 1) B A2 → closeE n S b nw ws = e → e ≠ 0 → V (.tuple ⟨[.slice none 0 0, .agg ⟨[.int .i64 0, .int .i64 0]⟩, .int .i64 e]⟩) A2 := by
    intro A2 e he hh h0
    have := he.1
    refine hV _ _ ⟨by omega, fun z hz => ?_⟩ (.inl ⟨by rw [hh]; exact h0, by rw [hh]⟩)
    rw [he.2 z (by omega) (by omega), eB.2 z hz]
  simp (disch := as_aux_lemma => first | omega | simp only [hDs] <;> omega | simp [isCell]) [hRs, takeMarks, resA, resAll, resOne, Value.cells, F133, hB']
  refine w135 (hsl.ext eB) hn hS (by omega) fun A1 e1 => ?_
  have n1 := e1.1
  have g7 := e1.get h7
  have g4 := e1.get h4
  unfold pairB at g4
  by_cases c1 : stepsE n S = 0
  · simp (disch := as_aux_lemma => first | omega | simp only [hDs] <;> omega | simp [isCell]) [hRs, takeMarks, resA, resAll, resOne, Value.cells, c1, g4]
    refine w160 fun A2 n2 o2 => ?_
    have e2 : Ext' A1 A2 := ⟨by omega, o2⟩
    have g72 := e2.get g7
    have g42 := e2.get g4
    have e02 := e1.trans e2
    cases c2 : validB b.1 b.2 0 1000000000 with
    | false =>
      have gs := get_set_same (b := some (.cells [.int .i64 0, .int .i64 0] false)) g72
      simp (disch := as_aux_lemma => first | omega | simp only [hDs] <;> omega | simp [isCell]) [hRs, takeMarks, resA, resAll, resOne, Value.cells, fillA, g72, zSpan, storeB_cells, setRange, gs]
      exact bad _ 3 (But.set (by omega) e02) (closeE_b c1 c2) (by decide)
    | true =>
      by_cases c3 : (1000 : Int) < nw
      · have gs := get_set_same (b := some (.cells [.int .i64 0, .int .i64 0] false)) g72
        simp (disch := as_aux_lemma => first | omega | simp only [hDs] <;> omega | simp [isCell]) [hRs, takeMarks, resA, resAll, resOne, Value.cells, hwl.len, c3, fillA, g72, zSpan, storeB_cells, setRange, gs]
        exact bad _ 9 (But.set (by omega) e02) (closeE_c c1 c2 (by omega)) (by decide)
      · have hE := closeE_d (n := n) (S := S) (b := b) (nw := nw) (ws := ws) c1 c2 (by omega)
        simp (disch := as_aux_lemma => first | omega | simp only [hDs] <;> omega | simp [isCell]) [hRs, takeMarks, resA, resAll, resOne, Value.cells, hwl.len, c3]
        refine loop133w (A0 := A2) (X7 := A.n + 1) (n := nw) (ws := ws) (sl := wl) ((eB.trans e02).rdS hwl) hnw g72 (by omega) ?_ ?_ (T := _) ?_ ?_ nw 0 (by omega) rfl (Ext'.refl _) (fun _ _ => rfl) (by simp) (by simp) (by simp)
        · intro T' A' e he hne hb g7' t6 t7 t8
          unfold zSpan at g7'
          simp (disch := as_aux_lemma => first | omega | simp only [hDs] <;> omega | simp [isCell]) [hRs, takeMarks, resA, resAll, resOne, Value.cells, t6, t7, t8, g7']
          exact bad A' e ⟨by have := hb.1; omega, fun z hz hz8 => (hb.2 z (by omega) hz8).trans (e02.2 z hz)⟩ (by rw [hE]; exact he) hne
        · intro T3 A3 he e3 k3
          have n3 := e3.1
          have hfine := fine_of (n := n) (S := S) (b := b) (nw := nw) (ws := ws) c1 c2 he
          have v0 := k3.at 0 rfl
          have v2 := k3.at 2 rfl
          have v4 := k3.at 4 rfl
          have v7 := k3.at 7 rfl
          simp at v0 v2 v4 v7
          have g43 := e3.get g42
          have g73 := e3.get g72
          have e03 := eB.trans (e02.trans e3)
          simp (disch := as_aux_lemma => first | omega | simp only [hDs] <;> omega | simp [isCell]) [hRs, takeMarks, resA, resAll, resOne, Value.cells, v0, v4, g43, storeB_cells, setRange, set_push_eq, (hsl.ext e03).len]
          obtain ⟨A4, hA4⟩ : ∃ A4, A4 = A3.push (pairB b) := ⟨_, rfl⟩
          have hA4' : A3.push (.cells [.int .i64 b.1, .int .i64 b.2] false) = A4 := hA4.symm
          rw [hA4']
          have hA4n : A4.n = A3.n + 1 := by rw [hA4]; rfl
          have e4 : Ext' A3 A4 := by rw [hA4]; exact Ext'.push _ _
          have hX : A4.get A3.n = some (pairB b) := by rw [hA4, get_push_new]
          have e04 := e03.trans e4
          refine loop133 (A1 := A4) (X4 := A.n) (X13 := A3.n) (N := A4.n) (n := n) (nw := nw) (S := S) (b := b) (ws := ws) (sl := sl) (wl := wl) ?_ hfine hnw (fun i hi => (hS i hi).2) (by omega) (by omega) (by omega) (by omega) ?_ (T := _) ?_ ?_ ?_ n 0 (sv := .slice none 0 0) (by omega) (fun _ _ => rfl) (by simp) (by simp) (by simp) (by simp) AccS.nil hX (Nat.le_refl _) (fun z _ _ => rfl)
          · intro A' ho
            have hA' : ∀ z, z < A.n → A'.get z = A.get z := fun z hz => by rw [ho z (by omega) (by omega), e04.2 z hz]
            exact ⟨hsl.mono hA', hwl.mono hA', (ho A.n (by omega) (by omega)).trans (e4.get g43)⟩
          · intro T5 A5 sv k5 qe hacc hall hN5 ho5
            have q13 := k5.at 13 rfl
            have q7 := k5.at 7 rfl
            simp [v7] at q13 q7
            have h75 : A5.get (A.n + 1) = some zSpan := (ho5 (A.n + 1) (by omega) (by omega)).trans (e4.get g73)
            have gs : ∀ b', (A5.set (A.n + 1) (some b')).get (A.n + 1) = some b' := fun b' => get_set_same h75
            unfold zSpan at h75
            unfold pairB at hall
            obtain ⟨p5, q5, r5, rfl⟩ := hacc.isSlice
            simp (disch := as_aux_lemma => first | omega | simp only [hDs] <;> omega | simp [isCell]) [hRs, takeMarks, resA, resAll, resOne, Value.cells, q13, q7, qe, hall, h75, storeB_cells, setRange, gs]
            refine hV _ _ ⟨by simp; omega, fun z hz => ?_⟩ (.inr ⟨by rw [hE]; exact he, _, rfl, ?_⟩)
            · rw [get_set_ne (by omega) (by omega), ho5 z (by omega) (by omega), e04.2 z hz]
            · refine AccS.rd (AccS.keepB hacc fun z hz => get_set_ne (by omega) ?_) (by rw [ints_length, endsL_length]) (by decide)
              have := (hacc.blk_ge hz).1; omega
          · simp [v2]
          · simp [v4]
          · simp
        · simp
        · simp
  · have gs := get_set_same (b := some (.cells [.int .i64 0, .int .i64 0] false)) g7
    simp (disch := as_aux_lemma => first | omega | simp only [hDs] <;> omega | simp [isCell]) [hRs, takeMarks, resA, resAll, resOne, Value.cells, c1, fillA, g7, zSpan, storeB_cells, setRange, gs]
    exact bad _ _ (But.set (by omega) e1) (closeE_a c1) c1
theorem w134 {n nw : Nat} {S : Nat → StepT} {b : Int × Int} {ws : List Int} {sl wl : Value} (hsl : Steps A n S sl) (hn : n < 1000000) (hS : ∀ i, i < n → (S i).name.size < 1000000 ∧ (S i).an < 1000000) (hwl : RdS A 2 nw (ints ws) wl) (hnw : nw < 1000000) (hg : g ≤ A.n)
    (hV : ∀ v A', Ext' A A' → CloseOut n S b nw ws v A' → V v A') : WF AP KL g 134 [sl, .agg ⟨[.int .i64 b.1, .int .i64 b.2]⟩, wl] A V := by
  rw [WF_body (show KL 134 = none from rfl) (show AP 134 = some F134 from rfl)]
  obtain ⟨B, hB⟩ : ∃ B, B = (A.push (pairB b)).push zSpan := ⟨_, rfl⟩
  have hBn : B.n = A.n + 2 := by rw [hB]; rfl
  have eB : Ext' A B := by rw [hB]; exact (Ext'.push A _).trans (Ext'.push _ _)
  have h4 : B.get A.n = some (pairB b) := by rw [hB, get_push_old (by simp), get_push_new]
  have h7 : B.get (A.n + 1) = some zSpan := by rw [hB, get_push_eq (by simp)]
  have hB' : (A.push (.cells [.int .i64 b.1, .int .i64 b.2] false)).push (.cells [.int .i64 0, .int .i64 0] false) = B := hB.symm
  have bad : ∀ (A2 : Hp) (e : Int), But (A.n + 1) B A2 → closeE n S b nw ws = e → e ≠ 0 → V (.tuple ⟨[.slice none 0 0, .agg ⟨[.int .i64 0, .int .i64 0]⟩, .int .i64 e]⟩) A2 := by
    intro A2 e he hh h0
    have := he.1
    refine hV _ _ ⟨by omega, fun z hz => ?_⟩ (.inl ⟨by rw [hh]; exact h0, by rw [hh]⟩)
    rw [he.2 z (by omega) (by omega), eB.2 z hz]
  simp (disch := as_aux_lemma => first | omega | simp only [hDs] <;> omega | simp [isCell]) [hRs, takeMarks, resA, resAll, resOne, Value.cells, F134, hB']
  refine w136 (hsl.ext eB) hn hS (by omega) fun A1 e1 => ?_
  have n1 := e1.1
  have g7 := e1.get h7
  have g4 := e1.get h4
  unfold pairB at g4
  by_cases c1 : stepsE n S = 0
  · simp (disch := as_aux_lemma => first | omega | simp only [hDs] <;> omega | simp [isCell]) [hRs, takeMarks, resA, resAll, resOne, Value.cells, c1, g4]
    refine w159 fun A2 n2 o2 => ?_
    have e2 : Ext' A1 A2 := ⟨by omega, o2⟩
    have g72 := e2.get g7
    have g42 := e2.get g4
    have e02 := e1.trans e2
    cases c2 : validB b.1 b.2 0 1000000000 with
    | false =>
      have gs := get_set_same (b := some (.cells [.int .i64 0, .int .i64 0] false)) g72
      simp (disch := as_aux_lemma => first | omega | simp only [hDs] <;> omega | simp [isCell]) [hRs, takeMarks, resA, resAll, resOne, Value.cells, fillA, g72, zSpan, storeB_cells, setRange, gs]
      exact bad _ 3 (But.set (by omega) e02) (closeE_b c1 c2) (by decide)
    | true =>
      by_cases c3 : (1000 : Int) < nw
      · have gs := get_set_same (b := some (.cells [.int .i64 0, .int .i64 0] false)) g72
        simp (disch := as_aux_lemma => first | omega | simp only [hDs] <;> omega | simp [isCell]) [hRs, takeMarks, resA, resAll, resOne, Value.cells, hwl.len, c3, fillA, g72, zSpan, storeB_cells, setRange, gs]
        exact bad _ 9 (But.set (by omega) e02) (closeE_c c1 c2 (by omega)) (by decide)
      · have hE := closeE_d (n := n) (S := S) (b := b) (nw := nw) (ws := ws) c1 c2 (by omega)
        simp (disch := as_aux_lemma => first | omega | simp only [hDs] <;> omega | simp [isCell]) [hRs, takeMarks, resA, resAll, resOne, Value.cells, hwl.len, c3]
        refine loop134w (A0 := A2) (X7 := A.n + 1) (n := nw) (ws := ws) (sl := wl) ((eB.trans e02).rdS hwl) hnw g72 (by omega) ?_ ?_ (T := _) ?_ ?_ nw 0 (by omega) rfl (Ext'.refl _) (fun _ _ => rfl) (by simp)
        · intro T' A' e he hne hb g7' t6 t7 t8
          unfold zSpan at g7'
          simp (disch := as_aux_lemma => first | omega | simp only [hDs] <;> omega | simp [isCell]) [hRs, takeMarks, resA, resAll, resOne, Value.cells, t6, t7, t8, g7']
          exact bad A' e ⟨by have := hb.1; omega, fun z hz hz8 => (hb.2 z (by omega) hz8).trans (e02.2 z hz)⟩ (by rw [hE]; exact he) hne
        · intro T3 A3 he e3 k3
          have n3 := e3.1
          have hfine := fine_of (n := n) (S := S) (b := b) (nw := nw) (ws := ws) c1 c2 he
          have v0 := k3.at 0 rfl
          have v2 := k3.at 2 rfl
          have v4 := k3.at 4 rfl
          have v7 := k3.at 7 rfl
          simp at v0 v2 v4 v7
          have g43 := e3.get g42
          have g73 := e3.get g72
          have e03 := eB.trans (e02.trans e3)
          simp (disch := as_aux_lemma => first | omega | simp only [hDs] <;> omega | simp [isCell]) [hRs, takeMarks, resA, resAll, resOne, Value.cells, v0, v4, g43, storeB_cells, setRange, set_push_eq, (hsl.ext e03).len]
          obtain ⟨A4, hA4⟩ : ∃ A4, A4 = A3.push (pairB b) := ⟨_, rfl⟩
          have hA4' : A3.push (.cells [.int .i64 b.1, .int .i64 b.2] false) = A4 := hA4.symm
          rw [hA4']
          have hA4n : A4.n = A3.n + 1 := by rw [hA4]; rfl
          have e4 : Ext' A3 A4 := by rw [hA4]; exact Ext'.push _ _
          have hX : A4.get A3.n = some (pairB b) := by rw [hA4, get_push_new]
          have e04 := e03.trans e4
          refine loop134 (A1 := A4) (X4 := A.n) (X12 := A3.n) (N := A4.n) (n := n) (nw := nw) (S := S) (b := b) (ws := ws) (sl := sl) (wl := wl) ?_ hfine hnw (fun i hi => (hS i hi).2) (by omega) (by omega) (by omega) (by omega) ?_ (T := _) ?_ ?_ ?_ ?_ n 0 (sv := .slice none 0 0) (by omega) (fun _ _ => rfl) (by simp) (by simp) AccS.nil hX (Nat.le_refl _) (fun z _ _ => rfl)
          · intro A' ho
            have hA' : ∀ z, z < A.n → A'.get z = A.get z := fun z hz => by rw [ho z (by omega) (by omega), e04.2 z hz]
            exact ⟨hsl.mono hA', hwl.mono hA', (ho A.n (by omega) (by omega)).trans (e4.get g43)⟩
          · intro T5 A5 sv k5 qe hacc hall hN5 ho5
            have q12 := k5.at 12 rfl
            have q7 := k5.at 7 rfl
            simp [v7] at q12 q7
            have h75 : A5.get (A.n + 1) = some zSpan := (ho5 (A.n + 1) (by omega) (by omega)).trans (e4.get g73)
            have gs : ∀ b', (A5.set (A.n + 1) (some b')).get (A.n + 1) = some b' := fun b' => get_set_same h75
            unfold zSpan at h75
            unfold pairB at hall
            obtain ⟨p5, q5, r5, rfl⟩ := hacc.isSlice
            simp (disch := as_aux_lemma => first | omega | simp only [hDs] <;> omega | simp [isCell]) [hRs, takeMarks, resA, resAll, resOne, Value.cells, q12, q7, qe, hall, h75, storeB_cells, setRange, gs]
            refine hV _ _ ⟨by simp; omega, fun z hz => ?_⟩ (.inr ⟨by rw [hE]; exact he, _, rfl, ?_⟩)
            · rw [get_set_ne (by omega) (by omega), ho5 z (by omega) (by omega), e04.2 z hz]
            · refine AccS.rd (AccS.keepB hacc fun z hz => get_set_ne (by omega) ?_) (by rw [ints_length, endsL_length]) (by decide)
              have := (hacc.blk_ge hz).1; omega
          · simp [v0]
          · simp [v2]
          · simp [v4]
          · simp
        · simp
        · simp
  · have gs := get_set_same (b := some (.cells [.int .i64 0, .int .i64 0] false)) g7
    simp (disch := as_aux_lemma => first | omega | simp only [hDs] <;> omega | simp [isCell]) [hRs, takeMarks, resA, resAll, resOne, Value.cells, c1, fillA, g7, zSpan, storeB_cells, setRange, gs]
    exact bad _ _ (But.set (by omega) e1) (closeE_a c1) c1
end
end Go.Ab.Dike
namespace Go.Ab.Dike
open Go Go.Ab
section
variable {g : Nat} {rd : Option Nat} {T : List Value} {D : List Nat} {A : Hp} {Q : Ex → St → Prop} {V : Value → Hp → Prop}
end
end Go.Ab.Dike
namespace Go.Ab.Dike
open Go Go.Ab
theorem _root_.Go.Ab.RdS.cellsAt {A : Hp} {k n : Nat} {cs : List Value} {sv : Value} (h : RdS A k n cs sv) : cellsAt A (n * k) sv = some cs := by
  obtain ⟨h0, ⟨rfl, rfl⟩ | ⟨b, c, ro, rfl, hb⟩⟩ := h
  · have : cs = [] := List.eq_nil_of_length_eq_zero (by simpa using h0)
    subst this; simp [Go.Ab.cellsAt]
  · simp only [Go.Ab.cellsAt, hb]
    rw [if_pos (by omega)]
    simp [← h0]
theorem copy_fresh {g k bytes m : Nat} {A : Hp} {cs : List Value} {src : Value} (h : RdS A k m cs src) (hcell : cs.all isCell = true) (hg : g ≤ A.n) (hk : 0 < k) (hr : m * bytes ≤ room ∧ m ≤ room) :
    ∃ Y c A', appendA g (A.push (.cells [] false)) k bytes (.slice (some ⟨A.n, 0, some k⟩) 0 0) src = some (.slice (some ⟨Y, 0, some k⟩) m c, A') ∧ Ext' A A' ∧ A'.get Y = some (.cells cs false) ∧ A.n ≤ Y := by
  have e1 := Ext'.push A (.cells [] false)
  have hc := (h.push (x := .cells [] false)).cellsAt
  obtain ⟨p, c, rfl⟩ := h.isSlice
  unfold appendA
  simp only [hc]
  rw [if_pos ⟨hcell, hk⟩]
  by_cases hm : m = 0
  · subst hm
    rw [if_pos rfl]
    refine ⟨_, _, _, rfl, e1, ?_, Nat.le_refl _⟩
    have : cs = [] := List.eq_nil_of_length_eq_zero (by have := h.1; simpa using this)
    rw [get_push_new, this]
  · rw [if_neg hm]
    simp only [get_push_new]
    rw [if_pos ⟨hg, by simpa using hr.1, by simpa using hr.2, trivial⟩, if_pos (by simp)]
    refine ⟨A.n + 1, m, ((A.push (.cells [] false)).set A.n none).push (.cells cs false), by simp, ⟨by simp; omega, fun z hz => ?_⟩, by rw [get_push_eq (by simp)], by omega⟩
    rw [get_push_old (by simp; omega), get_set_ne (by simp) (by omega), get_push_old hz]
section
variable {g : Nat} {rd : Option Nat} {T : List Value} {D : List Nat} {A : Hp} {Q : Ex → St → Prop} {V : Value → Hp → Prop}
end
end Go.Ab.Dike
namespace Go.Ab.Dike
open Go Go.Ab
section
variable {g : Nat} {rd : Option Nat} {T : List Value} {D : List Nat} {A : Hp} {Q : Ex → St → Prop} {V : Value → Hp → Prop}
end
end Go.Ab.Dike
namespace Go.Ab.Dike
open Go Go.Ab
section
variable {g : Nat} {A : Hp} {V : Value → Hp → Prop}
end
end Go.Ab.Dike
namespace Go.Ab.Dike
open Go Go.Ab
def FSep (A : Hp) (cells : List Value) (sv : Value) (j : Nat) (f : FT) : Prop :=
  ∃ a b, cellAt cells (j * 4) = some a ∧ cellAt cells (j * 4 + 1) = some b ∧ cellAt cells (j * 4 + 2) = some (.int .i64 f.may) ∧ cellAt cells (j * 4 + 3) = some (.int .i64 f.must) ∧ RdS A 2 f.cn (ints f.cz) a ∧ RdS A 2 f.sn (ints f.sz) b ∧
    (∀ z, blkOf a = some z → blkOf sv ≠ some z) ∧ (∀ z, blkOf b = some z → blkOf sv ≠ some z)
theorem FSep.at {A : Hp} {cells : List Value} {sv : Value} {j : Nat} {f : FT} (h : FSep A cells sv j f) : FateAt A cells j f := by
  obtain ⟨a, b, h1, h2, h3, h4, h5, h6, _⟩ := h
  exact ⟨a, b, part4 h1 h2 h3 h4, h1, h2, h3, h4, h5, h6⟩
theorem _root_.Go.Ab.RdS.keepB {A A' : Hp} {k n : Nat} {cs : List Value} {sv : Value} (h : RdS A k n cs sv) (hA : ∀ z, blkOf sv = some z → A'.get z = A.get z) : RdS A' k n cs sv := by
  obtain ⟨h0, h | ⟨b, c, ro, rfl, h2⟩⟩ := h
  · exact ⟨h0, .inl h⟩
  · exact ⟨h0, .inr ⟨b, c, ro, rfl, by rw [hA b rfl]; exact h2⟩⟩
theorem _root_.Go.Ab.RdS.blk_lt {A : Hp} {k n : Nat} {cs : List Value} {sv : Value} (h : RdS A k n cs sv) {z : Nat} (hz : blkOf sv = some z) : z < A.n := by
  obtain ⟨h0, ⟨rfl, _⟩ | ⟨b, c, ro, rfl, h2⟩⟩ := h
  · cases hz
  · cases hz; exact Hp.lt_of_get h2
theorem cellAt_left {cs ds : List Value} {o : Nat} {v : Value} (h : cellAt cs o = some v) : cellAt (cs ++ ds) o = some v := by
  have hl := (List.getElem?_eq_some_iff.1 (show cs[o]? = some v from h)).1
  show (cs ++ ds)[o]? = some v
  rw [List.getElem?_append_left hl]; exact h
theorem FSep.next {A A' : Hp} {cells new : List Value} {sv sv' : Value} {j : Nat} {f : FT} (h : FSep A cells sv j f) (hA : ∀ z, z < A.n → blkOf sv ≠ some z → A'.get z = A.get z) (hsv : ∀ z, blkOf sv' = some z → A.n ≤ z) : FSep A' (cells ++ new) sv' j f := by
  obtain ⟨a, b, h1, h2, h3, h4, h5, h6, h7, h8⟩ := h
  refine ⟨a, b, cellAt_left h1, cellAt_left h2, cellAt_left h3, cellAt_left h4, h5.keepB fun z hz => hA z (h5.blk_lt hz) (h7 z hz), h6.keepB fun z hz => hA z (h6.blk_lt hz) (h8 z hz), fun z hz h => ?_, fun z hz h => ?_⟩
  · have := hsv z h; have := h5.blk_lt hz; omega
  · have := hsv z h; have := h6.blk_lt hz; omega
section
variable {g : Nat} {rd : Option Nat} {T : List Value} {D : List Nat} {A : Hp} {Q : Ex → St → Prop} {V : Value → Hp → Prop}
end
end Go.Ab.Dike
namespace Go.Ab.Dike
open Go Go.Ab
theorem partA_of {cs : List Value} {o : Nat} {vs : List Value} (h : ∀ (j : Nat) v, vs[j]? = some v → cs[o + j]? = some v) (h0 : 0 < vs.length) : partA cs o (some vs.length) = some (.agg ⟨vs⟩) := by
  have hl : o + vs.length ≤ cs.length := by
    have := h (vs.length - 1) vs[vs.length - 1] (List.getElem?_eq_getElem (by omega))
    have := (List.getElem?_eq_some_iff.1 this).1
    omega
  rw [partA_some hl]
  congr 3
  apply List.ext_getElem?
  intro i
  rw [List.getElem?_take]
  by_cases hi : i < vs.length
  · rw [if_pos hi, List.getElem?_drop, List.getElem?_eq_getElem hi]
    exact h i _ (List.getElem?_eq_getElem hi)
  · rw [if_neg hi, List.getElem?_eq_none (by omega)]
def SSep (A : Hp) (cells : List Value) (sv : Value) (j : Nat) (s : StepT) : Prop :=
  ∃ a, (∀ (o : Nat) v, (stepC a s)[o]? = some v → cells[j * 7 + o]? = some v) ∧ RdS A 1 s.an (ints s.al) a ∧ (∀ z, blkOf a = some z → blkOf sv ≠ some z)
theorem stepAt_of {A : Hp} {cells : List Value} {j : Nat} {s : StepT} {a : Value} (h : ∀ (o : Nat) v, (stepC a s)[o]? = some v → cells[j * 7 + o]? = some v) (hr : RdS A 1 s.an (ints s.al) a) : StepAt A cells j s := by
  refine ⟨a, partA_of (vs := stepC a s) h (by simp [stepC]), h 0 _ rfl, h 1 _ rfl, ?_, h 2 _ rfl, h 3 _ rfl, h 4 _ rfl, h 5 _ rfl, h 6 _ rfl, hr⟩
  refine partA_of (vs := [.int .i64 s.tl, .int .i64 s.th]) (fun o v ho => ?_) (by simp)
  match o with
  | 0 => exact h 2 _ ho
  | 1 => exact h 3 _ ho
  | o + 2 => cases ho
theorem SSep.next {A A' : Hp} {cells new : List Value} {sv sv' : Value} {j : Nat} {s : StepT} (h : SSep A cells sv j s) (hA : ∀ z, z < A.n → blkOf sv ≠ some z → A'.get z = A.get z) (hsv : ∀ z, blkOf sv' = some z → A.n ≤ z) : SSep A' (cells ++ new) sv' j s := by
  obtain ⟨a, h1, h2, h3⟩ := h
  refine ⟨a, fun o v ho => ?_, h2.keepB fun z hz => hA z (h2.blk_lt hz) (h3 z hz), fun z hz h => ?_⟩
  · have := h1 o v ho
    rw [List.getElem?_append_left (List.getElem?_eq_some_iff.1 this).1]; exact this
  · have := hsv z h; have := h2.blk_lt hz; omega
def pa118 : ACode := (.seq
 (.ops [
oM 20 8,
oP 21 (.not (.t 20)),
oM 22 21,
oN 23 22 false 2,
oQ 24 22 false (.len (.t 23)),
oQ 25 22 false (.bin .gtr (.t 24) (oK 50)),
oN 26 22 false 25,
oN 27 26 true 2,
oQ 28 26 true (.len (.t 27)),
oQ 29 26 true (.bin .leq (.t 28) (oK 1000)),
oQ 30 22 false (.pick (.t 26) (.t 29) (.k (.bool false))),
oP 31 (.pick (.t 22) (.k (.bool true)) (.t 30)),
oM 32 31,
oN 33 32 false 2,
oQ 34 32 false (.len (.t 33)),
oQ 35 32 false (.bin .gtr (.t 34) (oK 1010)),
oP 36 (.pick (.t 32) (.k (.bool true)) (.t 35))])
 (.cond (.t 36)
 (.seq
 (.ops [
oA 37 121 [] false,
oM 6 37])
 .ret)
 .skip))
def pb118 : ACode := (.seq
 (.ops [
oM 39 7,
oD 40 4 2,
oM 41 2,
oA 42 133 [.t 39, .t 40, .t 41] false,
oM 38 42,
oX 43 38 0,
oX 44 38 1,
oX 45 38 2,
oP 10 (.alloc [.int .i64 0, .int .i64 0]),
oM 9 43,
oT 10 44 2,
oM 11 45])
 (.seq
 (.ops [
oM 47 0,
oD 48 4 2,
oM 49 2,
oA 50 134 [.t 47, .t 48, .t 49] false,
oM 46 50,
oX 51 46 0,
oX 52 46 1,
oX 53 46 2,
oP 13 (.alloc [.int .i64 0, .int .i64 0]),
oM 12 51,
oT 13 52 2,
oM 14 53])
 (.seq
 (.ops [
oM 54 7,
oA 55 135 [.t 54] false,
oM 56 0,
oA 57 136 [.t 56] false,
oB 58 .eql 55 57,
oM 59 58,
oN 60 59 true 9,
oN 61 59 true 12,
oQ 62 59 true (.call (.k (.func (.func 125) ⟨[]⟩ ⟨[]⟩)) [.t 60, .t 61] false),
oP 63 (.pick (.t 59) (.t 62) (.k (.bool false))),
oM 64 63,
oQ 65 64 true (.load (.t 10) (some 2)),
oQ 66 64 true (.load (.t 13) (some 2)),
oQ 67 64 true (.eqv false [false, false] (.t 65) (.t 66)),
oP 68 (.pick (.t 64) (.t 67) (.k (.bool false))),
oM 69 68,
oN 70 69 true 11,
oN 71 69 true 14,
oQ 72 69 true (.bin .eql (.t 70) (.t 71)),
oP 73 (.pick (.t 69) (.t 72) (.k (.bool false))),
oM 74 73,
oQ 75 74 true (.call (.k (.func (.func 121) ⟨[]⟩ ⟨[]⟩)) [] false),
oP 76 (.pick (.t 74) (.t 75) (.k (.bool false))),
oM 6 76])
 .ret)))
section
variable {g : Nat} {rd : Option Nat} {T : List Value} {D : List Nat} {A : Hp} {Q : Ex → St → Prop} {V : Value → Hp → Prop}
theorem loop132 {A0 : Hp} {n : Nat} {S : Nat → StepT} {sl : Value} (hsl : Steps A0 n S sl) (hn : n ≤ 40) (hg : g ≤ A0.n)
    (hret : ∀ T' A', Ext' A0 A' → tget T' 2 = .slice none 0 0 → tget T' 3 = .bool false → Q .ret ⟨T', D, A'⟩)
    (hend : ∀ T' A' sv, tget T' 4 = sv → Steps A' n S sv → (∀ i, i < n → (S i).name.size ≤ 20 ∧ (S i).an ≤ 40) → Ext' A0 A' → Q (.exit 0) ⟨T', D, A'⟩) (t0 : tget T 0 = sl) :
    ∀ (k i : Nat) {T1 : List Value} {A : Hp} {sv : Value} {cells : List Value}, i + k = n → tget T1 0 = tget T 0 → tget T1 4 = sv → tget T1 5 = .int .i64 i → AccS A0.n A 7 cells sv → cells.length = i * 7 → (∀ j, j < i → SSep A cells sv j (S j)) → (∀ j, j < i → (S j).name.size ≤ 20 ∧ (S j).an ≤ 40) → Ext' A0 A → W AP KL g rd (.loop body132) ⟨T1, D, A⟩ Q := by
  intro k
  induction k with
  | zero =>
    intro i T1 A sv cells hik hk t4 t5 hacc hcl hF hsz he
    have : i = n := by omega
    subst this
    have u0 := hk.trans t0
    rw [W_loop]
    simp (disch := as_aux_lemma => first | omega | simp only [hDs] <;> omega | simp [isCell]) [hRs, takeMarks, resA, resAll, resOne, Value.cells, body132, u0, t5, (hsl.ext he).len]
    refine hend _ A sv (by simp [t4]) ⟨cells, hacc.rd hcl (by decide), fun j hj => ?_⟩ hsz he
    obtain ⟨a, h1, h2, _⟩ := hF j hj
    exact stepAt_of h1 h2
  | succ k ih =>
    intro i T1 A sv cells hik hk t4 t5 hacc hcl hF hsz he
    have u0 := hk.trans t0
    have hlen := (hsl.ext he).len
    have hA0 := he.1
    obtain ⟨x, c, ro, row, rfl, hx, hrl, hat⟩ := (hsl.ext he).at (i := i) (by omega)
    obtain ⟨a, p1, p2, p3, p4, p5, p6, p7, p8, p9, ra⟩ := hat i (by omega)
    obtain ⟨s, hs⟩ : ∃ s, s = S i := ⟨_, rfl⟩
    rw [← hs] at p2 p4 p7 p8 p9 ra
    have hxn := Hp.lt_of_get hx
    have hla := ra.len
    obtain ⟨sz, hsze⟩ : ∃ sz, sz = s.name.size := ⟨_, rfl⟩
    have hls : lenTV (.string s.name) = some (.int .i64 sz) := by rw [hsze]; rfl
    rw [W_loop]
    by_cases c1 : (40 : Int) < s.an
    · simp (disch := as_aux_lemma => first | omega | simp only [hDs] <;> omega | simp [isCell]) [hRs, takeMarks, resA, resAll, resOne, Value.cells, body132, u0, t5, hlen, show ((i : Int) < n) by omega, idxSA_ok, hx, p3, hla, c1]
      exact hret _ _ he (by simp) (by simp)
    · by_cases c2 : (20 : Int) < sz
      · simp (disch := as_aux_lemma => first | omega | simp only [hDs] <;> omega | simp [isCell]) [hRs, takeMarks, resA, resAll, resOne, Value.cells, body132, u0, t5, hlen, show ((i : Int) < n) by omega, idxSA_ok, hx, p2, p3, hla, hls, c1, c2]
        exact hret _ _ he (by simp) (by simp)
      · obtain ⟨Y1, c1', A1, ha1, e1, hY1, hAY1⟩ := copy_fresh (g := g) (bytes := 8) ra (ints_isCell _) (by omega) (by decide) (by unfold room; omega)
        have n1 := e1.1
        have hY1n := Hp.lt_of_get hY1
        obtain ⟨sv', A3, ha3, hacc', hold, hn3, hb3⟩ := add_keep (g := g) (bytes := 72) (n := i) (ro := false) (new := stepC (.slice (some ⟨Y1, 0, some 1⟩) s.an c1') s) (hacc.mono e1.2) hg (by omega) rfl (by decide) rfl hcl (by unfold room; omega)
        have hx1 := e1.get hx
        have hzer : zeros 0 [Value.int IntKind.i64 0] = [] := rfl
        simp only [stepC] at ha3
        simp (disch := as_aux_lemma => first | omega | simp only [hDs] <;> omega | simp [isCell]) [hRs, takeMarks, resA, resAll, resOne, Value.cells, body132, u0, t4, t5, hlen, show ((i : Int) < n) by omega, idxSA_ok, hx, p2, p3, p4, p7, p8, p9, hla, hls, c1, c2, slitA, fillA, hzer, ha1, hx1, apartA, show ¬ x = A.n by omega, setRange, ha3]
        refine ih (i + 1) (sv := sv') (cells := cells ++ stepC (.slice (some ⟨Y1, 0, some 1⟩) s.an c1') s) (by omega) (by simp [hk]) (by simp) (by simp [wrId (n := (i : Int) + 1) (by omega) (by omega)]) hacc' (by simp [hcl, stepC]; omega) ?_ ?_ ⟨by omega, fun z hz => ?_⟩
        · intro j hj
          have hsv : ∀ z, blkOf sv' = some z → A1.n ≤ z := fun z hz => by rw [hb3] at hz; cases hz; omega
          have hnot : ∀ z, blkOf sv = some z → z < A.n := fun z hz => (hacc.blk_ge hz).2
          by_cases hji : j = i
          · subst hji
            rw [← hs]
            refine ⟨_, fun o v ho => ?_, ⟨ra.1, .inr ⟨Y1, c1', false, rfl, by rw [hold Y1 (by omega) (fun h => by have := hnot _ h; omega)]; exact hY1⟩⟩, fun z hz h => by have := hsv z h; cases hz; omega⟩
            rw [List.getElem?_append_right (by omega), show j * 7 + o - cells.length = o by omega]; exact ho
          · refine (hF j (by omega)).next (fun z hz hzs => ?_) fun z hz => by have := hsv z hz; omega
            rw [hold z (by omega) hzs, e1.2 z hz]
        · intro j hj
          rcases Nat.lt_or_ge j i with h | h
          · exact hsz j h
          · have : j = i := by omega
            subst this; rw [← hs]; omega
        · rw [hold z (by omega) (fun h => by have := (hacc.blk_ge h).1; omega), e1.2 z (by omega), he.2 z hz]
theorem w132 {n : Nat} {S : Nat → StepT} {sl : Value} (hsl : Steps A n S sl) (hg : g ≤ A.n) (hbad : ∀ A', Ext' A A' → V (.tuple ⟨[.slice none 0 0, .bool false]⟩) A')
    (hV : ∀ sv A', Ext' A A' → n ≤ 40 → (∀ i, i < n → (S i).name.size ≤ 20 ∧ (S i).an ≤ 40) → Steps A' n S sv → V (.tuple ⟨[sv, .bool true]⟩) A') : WF AP KL g 132 [sl] A V := by
  rw [WF_body (show KL 132 = none from rfl) (show AP 132 = some F132 from rfl)]
  by_cases c1 : (40 : Int) < n
  · simp (disch := as_aux_lemma => first | omega | simp only [hDs] <;> omega | simp [isCell]) [hRs, takeMarks, resA, resAll, resOne, Value.cells, F132, hsl.len, c1]
    exact hbad _ (Ext'.refl _)
  · simp (disch := as_aux_lemma => first | omega | simp only [hDs] <;> omega | simp [isCell]) [hRs, takeMarks, resA, resAll, resOne, Value.cells, F132, hsl.len, c1]
    refine loop132 hsl (by omega) hg ?_ ?_ (T := _) ?_ n 0 (sv := .slice none 0 0) (cells := []) (by omega) rfl (by simp) (by simp) AccS.nil rfl (fun j hj => absurd hj (by omega)) (fun j hj => absurd hj (by omega)) (Ext'.refl _)
    · intro T' A' he t2 t3
      simp (disch := as_aux_lemma => first | omega | simp only [hDs] <;> omega | simp [isCell]) [hRs, takeMarks, resA, resAll, resOne, Value.cells, t2, t3]
      exact hbad A' he
    · intro T' A' sv t4 hst hsz he
      simp (disch := as_aux_lemma => first | omega | simp only [hDs] <;> omega | simp [isCell]) [hRs, takeMarks, resA, resAll, resOne, Value.cells, t4]
      exact hV sv A' he (by omega) hsz hst
    · simp
theorem pb118_ok {X4 n nw : Nat} {S : Nat → StepT} {b : Int × Int} {ws : List Int} {sl sv wl : Value} (hsl : Steps A n S sl) (hsv : Steps A n S sv) (hn : n ≤ 40) (hS : ∀ i, i < n → (S i).name.size ≤ 20 ∧ (S i).an ≤ 40) (hwl : RdS A 2 nw (ints ws) wl) (hnw : nw ≤ 1010) (hg : g ≤ A.n) (h4 : A.get X4 = some (pairB b))
    (t0 : tget T 0 = sl) (t2 : tget T 2 = wl) (t4 : tget T 4 = .pointer (some ⟨X4, 0, none⟩)) (t7 : tget T 7 = sv) (hQ : ∀ T' A', tget T' 6 = .bool true → Q .ret ⟨T', D, A'⟩) : W AP KL g rd pb118 ⟨T, D, A⟩ Q := by
  have hnil : ∀ A, RdS A 2 0 (ints []) (.slice none 0 0) := fun A => ⟨rfl, .inl ⟨rfl, rfl⟩⟩
  have hS' : ∀ i, i < n → (S i).name.size < 1000000 ∧ (S i).an < 1000000 := fun i hi => by have := hS i hi; omega
  have h4n := Hp.lt_of_get h4
  have h4' := h4
  unfold pairB at h4'
  simp (disch := as_aux_lemma => first | omega | simp only [hDs] <;> omega | simp [isCell]) [hRs, takeMarks, resA, resAll, resOne, Value.cells, pb118, t2, t4, t7, h4']
  refine w133 hsv (by omega) hS' hwl (by omega) hg fun v A1 e1 ho1 => ?_
  have n1 := e1.1
  have h41 := e1.get h4'
  have hx41 := Hp.lt_of_get h41
  have tail : ∀ (p : Int × Int) (e : Int) (k : Nat) (zs : List Int) (s1 s2 : Value) (A3 : Hp) (T3 : List Value) (X10 X13 : Nat), Ext' A A3 → k ≤ 40 → RdS A3 2 k (ints zs) s1 → RdS A3 2 k (ints zs) s2 → A3.get X10 = some (.cells [.int .i64 p.1, .int .i64 p.2] false) → A3.get X13 = some (.cells [.int .i64 p.1, .int .i64 p.2] false) → True := fun _ _ _ _ _ _ _ _ _ _ _ _ _ _ _ _ => trivial
  rcases ho1 with ⟨he, rfl⟩ | ⟨he, s1, rfl, hs1⟩
  · simp (disch := as_aux_lemma => first | omega | simp only [hDs] <;> omega | simp [isCell]) [hRs, takeMarks, resA, resAll, resOne, Value.cells, t0, t2, t4, h41, storeB_cells, setRange, set_push_eq]
    have eF := Ext'.push A1 (.cells [.int .i64 0, .int .i64 0] false)
    refine w134 (b := b) (hsl.ext (e1.trans eF)) (by omega) hS' ((e1.trans eF).rdS hwl) (by omega) (by simp; omega) fun v A2 e2 ho2 => ?_
    have n2 := e2.1
    have hF := e2.get (get_push_new (A := A1) (b := (.cells [.int .i64 0, .int .i64 0] false)))
    have hxF := Hp.lt_of_get hF
    rcases ho2 with ⟨_, rfl⟩ | ⟨he', _⟩
    · simp (disch := as_aux_lemma => first | omega | simp only [hDs] <;> omega | simp [isCell]) [hRs, takeMarks, resA, resAll, resOne, Value.cells, t0, t7, storeB_cells, setRange, set_push_eq]
      have eG := Ext'.push A2 (.cells [.int .i64 0, .int .i64 0] false)
      have e03 := ((e1.trans eF).trans e2).trans eG
      refine w135 (hsv.ext e03) (by omega) hS' (by simp only [Hp.n_push] at n2 ⊢; omega) fun A4 e4 => ?_
      have n4 := e4.1
      simp (disch := as_aux_lemma => first | omega | simp only [hDs] <;> omega | simp [isCell]) [hRs, takeMarks, resA, resAll, resOne, Value.cells, t0]
      refine w136 (hsl.ext (e03.trans e4)) (by omega) hS' (by simp only [Hp.n_push] at n2 n4 ⊢; omega) fun A5 e5 => ?_
      have hF5 := (eG.trans (e4.trans e5)).get hF
      have hG5 := (e4.trans e5).get (get_push_new (A := A2) (b := (.cells [.int .i64 0, .int .i64 0] false)))
      simp (disch := as_aux_lemma => first | omega | simp only [hDs] <;> omega | simp [isCell]) [hRs, takeMarks, resA, resAll, resOne, Value.cells, hF5, hG5]
      refine w125 (hnil _) (hnil _) (by decide) ?_
      simp (disch := as_aux_lemma => first | omega | simp only [hDs] <;> omega | simp [isCell]) [hRs, takeMarks, resA, resAll, resOne, Value.cells, hF5, hG5, eqv2]
      exact hQ _ _ (by simp)
    · exact absurd he' he
  · obtain ⟨p1, c1, rfl⟩ := hs1.isSlice
    obtain ⟨al, hal⟩ : ∃ al, al = allS S b ws nw n := ⟨_, rfl⟩
    rw [← hal]
    simp (disch := as_aux_lemma => first | omega | simp only [hDs] <;> omega | simp [isCell]) [hRs, takeMarks, resA, resAll, resOne, Value.cells, t0, t2, t4, h41, storeB_cells, setRange, set_push_eq]
    have eF := Ext'.push A1 (.cells [.int .i64 al.1, .int .i64 al.2] false)
    refine w134 (b := b) (hsl.ext (e1.trans eF)) (by omega) hS' ((e1.trans eF).rdS hwl) (by omega) (by simp; omega) fun v A2 e2 ho2 => ?_
    have n2 := e2.1
    have hF := e2.get (get_push_new (A := A1) (b := (.cells [.int .i64 al.1, .int .i64 al.2] false)))
    have hxF := Hp.lt_of_get hF
    rcases ho2 with ⟨he', _⟩ | ⟨_, s2, rfl, hs2⟩
    · exact absurd he he'
    · obtain ⟨p2, c2, rfl⟩ := hs2.isSlice
      rw [← hal]
      simp (disch := as_aux_lemma => first | omega | simp only [hDs] <;> omega | simp [isCell]) [hRs, takeMarks, resA, resAll, resOne, Value.cells, t0, t7, storeB_cells, setRange, set_push_eq]
      have eG := Ext'.push A2 (.cells [.int .i64 al.1, .int .i64 al.2] false)
      have e03 := ((e1.trans eF).trans e2).trans eG
      refine w135 (hsv.ext e03) (by omega) hS' (by simp only [Hp.n_push] at n2 ⊢; omega) fun A4 e4 => ?_
      have n4 := e4.1
      simp (disch := as_aux_lemma => first | omega | simp only [hDs] <;> omega | simp [isCell]) [hRs, takeMarks, resA, resAll, resOne, Value.cells, t0]
      refine w136 (hsl.ext (e03.trans e4)) (by omega) hS' (by simp only [Hp.n_push] at n2 n4 ⊢; omega) fun A5 e5 => ?_
      have hF5 := (eG.trans (e4.trans e5)).get hF
      have hG5 := (e4.trans e5).get (get_push_new (A := A2) (b := (.cells [.int .i64 al.1, .int .i64 al.2] false)))
      simp (disch := as_aux_lemma => first | omega | simp only [hDs] <;> omega | simp [isCell]) [hRs, takeMarks, resA, resAll, resOne, Value.cells, hF5, hG5]
      refine w125 ((((eF.trans e2).trans eG).trans (e4.trans e5)).rdS hs1) ((eG.trans (e4.trans e5)).rdS hs2) (by omega) ?_
      simp (disch := as_aux_lemma => first | omega | simp only [hDs] <;> omega | simp [isCell]) [hRs, takeMarks, resA, resAll, resOne, Value.cells, hF5, hG5, eqv2]
      exact hQ _ _ (by simp)
theorem eq118 : F118 = .fn 77 [.tmp 6] (.seq (.ops [oP 4 (.box (.t 1)), oP 6 (.move (.k (.bool false)))]) (.seq (.ops [oM 16 0, oA 17 132 [.t 16] false, oM 15 17, oX 18 15 0, oX 19 15 1, oM 7 18, oM 8 19]) (.seq pa118 pb118))) := rfl
theorem law118 {n nw : Nat} {S : Nat → StepT} {b : Int × Int} {ws : List Int} {sl wl : Value} (hsl : Steps A n S sl) (hwl : RdS A 2 nw (ints ws) wl) (hg : g ≤ A.n) (hV : ∀ A', V (.bool true) A') :
    WF AP KL g 118 [sl, .agg ⟨[.int .i64 b.1, .int .i64 b.2]⟩, wl] A V := by
  rw [WF_body (show KL 118 = none from rfl) ((show AP 118 = some F118 from rfl).trans (congrArg some eq118))]
  have eB := Ext'.push A (pairB b)
  obtain ⟨B, hB⟩ : ∃ B, B = A.push (pairB b) := ⟨_, rfl⟩
  have hB' : A.push (.cells [.int .i64 b.1, .int .i64 b.2] false) = B := hB.symm
  have hBn : B.n = A.n + 1 := by rw [hB]; rfl
  have hX : B.get A.n = some (pairB b) := by rw [hB, get_push_new]
  rw [← hB] at eB
  simp (disch := as_aux_lemma => first | omega | simp only [hDs] <;> omega | simp [isCell]) [hRs, takeMarks, resA, resAll, resOne, Value.cells, hB']
  refine w132 (hsl.ext eB) (by omega) (fun A1 e1 => ?_) fun sv A1 e1 hn hS hsv => ?_
  · simp (disch := as_aux_lemma => first | omega | simp only [hDs] <;> omega | simp [isCell]) [hRs, takeMarks, resA, resAll, resOne, Value.cells, pa118]
    exact hV _
  · have n1 := e1.1
    have goOn : nw ≤ 1010 → ∀ {T : List Value}, tget T 0 = sl → tget T 2 = wl → tget T 4 = .pointer (some ⟨A.n, 0, none⟩) → tget T 7 = sv → W AP KL g none pb118 ⟨T, [], A1⟩ (FinQ [.tmp 6] V) := by
      intro h1 T t0 t2 t4 t7
      refine pb118_ok ((hsl.ext eB).ext e1) hsv hn hS ((eB.trans e1).rdS hwl) h1 (by omega) (e1.get hX) t0 t2 t4 t7 fun T' A' t6 => ?_
      simp (disch := as_aux_lemma => first | omega | simp only [hDs] <;> omega | simp [isCell]) [hRs, takeMarks, resA, resAll, resOne, Value.cells, t6]
      exact hV _
    by_cases c1 : (50 : Int) < nw
    · by_cases c2 : (nw : Int) ≤ 1000
      · simp (disch := as_aux_lemma => first | omega | simp only [hDs] <;> omega | simp [isCell]) [hRs, takeMarks, resA, resAll, resOne, Value.cells, pa118, hwl.len, c1, c2]
        exact hV _
      · by_cases c3 : (1010 : Int) < nw
        · simp (disch := as_aux_lemma => first | omega | simp only [hDs] <;> omega | simp [isCell]) [hRs, takeMarks, resA, resAll, resOne, Value.cells, pa118, hwl.len, c1, c2, c3]
          exact hV _
        · simp (disch := as_aux_lemma => first | omega | simp only [hDs] <;> omega | simp [isCell]) [hRs, takeMarks, resA, resAll, resOne, Value.cells, pa118, hwl.len, c1, c2, c3]
          exact goOn (by omega) (by simp) (by simp) (by simp) (by simp)
    · simp (disch := as_aux_lemma => first | omega | simp only [hDs] <;> omega | simp [isCell]) [hRs, takeMarks, resA, resAll, resOne, Value.cells, pa118, hwl.len, c1, show ¬ (1010 : Int) < nw by omega]
      exact goOn (by omega) (by simp) (by simp) (by simp) (by simp)
end
end Go.Ab.Dike
namespace Go.Ab.Dike
open Go Go.Ab
instance : Inhabited StepT := ⟨⟨⟨⟨[]⟩⟩, 0, [], 0, 0, false, false, 0⟩⟩
def tStep : Ty := .pair .str (.pair (.slice tI) (.pair tSpan (.pair .bool (.pair .bool (.pair tI .unit)))))
theorem sh_step {rows : List (List Value)} {cs : List Value} (h : Sh rows tStep cs) : ∃ (s : StepT) (a : Value), cs = stepC a s ∧ RdS (roHp rows) 1 s.an (ints s.al) a := by
  obtain ⟨_, _, rfl, ⟨nm, rfl, _⟩, ⟨_, _, rfl, h2, ⟨_, _, rfl, ⟨_, _, rfl, ⟨tl, rfl, _⟩, ⟨_, _, rfl, ⟨th, rfl, _⟩, rfl⟩⟩, ⟨_, _, rfl, ⟨calm, rfl⟩, ⟨_, _, rfl, ⟨clear, rfl⟩, ⟨_, _, rfl, ⟨logs, rfl, _⟩, rfl⟩⟩⟩⟩⟩⟩ := h
  obtain ⟨an, al, a, rfl, ra, _, _⟩ := sh_slice_ints (e := tI) rfl h2
  exact ⟨⟨nm, an, al, tl, th, calm, clear, logs⟩, a, rfl, ra⟩
theorem sh_steps {rows : List (List Value)} {cs : List Value} (h : Sh rows (.slice tStep) cs) : ∃ (n : Nat) (S : Nat → StepT) (sl : Value), cs = [sl] ∧ Steps (roHp rows) n S sl := by
  rcases h with rfl | ⟨x, n, q, row, rfl, hn, hrow, hlen, _, f, rfl, hf⟩
  · exact ⟨0, fun _ => default, _, rfl, [], ⟨rfl, .inl ⟨rfl, rfl⟩⟩, fun i hi => absurd hi (by omega)⟩
  · obtain ⟨p, hp⟩ := Go.Deep.choose_lt (α := StepT × Value) (p := fun i p => f i = stepC p.2 p.1 ∧ RdS (roHp rows) 1 p.1.an (ints p.1.al) p.2) fun i hi => by
      obtain ⟨s, a, h1, h2⟩ := sh_step (hf i hi).1
      exact ⟨(s, a), h1, h2⟩
    refine ⟨n, fun i => (p i).1, _, rfl, (List.range n).flatMap f, ⟨hlen, .inr ⟨x, q, true, rfl, by rw [roHp_get, hrow]; rfl⟩⟩, fun i hi => ?_⟩
    obtain ⟨h1, h2⟩ := hp i hi
    have hl : ∀ q, q < n → (f q).length = 7 := fun q hq => (hf q hq).2
    refine stepAt_of (a := (p i).2) (fun o v ho => ?_) h2
    have ho' : o < 7 := by
      have := (List.getElem?_eq_some_iff.1 ho).1
      simpa [stepC] using this
    rw [flat_get hl hi ho', h1]; exact ho
theorem Steps.more {rows rows' : List (List Value)} {n : Nat} {S : Nat → StepT} {sl : Value} (h : Steps (roHp rows) n S sl) (hm : More rows rows') : Steps (roHp rows') n S sl := by
  obtain ⟨cells, h1, h2⟩ := h
  refine ⟨cells, h1.more hm, fun i hi => ?_⟩
  obtain ⟨a, p1, p2, p3, p4, p5, p6, p7, p8, p9, ra⟩ := h2 i hi
  exact ⟨a, p1, p2, p3, p4, p5, p6, p7, p8, p9, ra.more hm⟩
end Go.Ab.Dike
