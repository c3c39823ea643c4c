/- The coast, and rows of small numbers, among a law's arguments. -/
import Derived.Test.YtmmpjfknmdlpoaaZ18
import Derived.Test.YtmmpjfknmdlpoaaZ14
import Derived.DataShut
set_option linter.unusedSimpArgs false
set_option linter.unusedVariables false
set_option linter.unusedSectionVars false
namespace Go.Ab.Wave
open Go Go.Ab
def hiF (zs : List Int) (m : Nat) : Int := (List.range m).foldl (fun a i => max a (gi zs (i * 5 + 4))) 0
def loF (zs : List Int) (m : Nat) : Int := (List.range m).foldl (fun a i => max a (gi zs (i * 5 + 3))) 0
theorem hiF_succ {zs : List Int} {m : Nat} : hiF zs (m + 1) = max (hiF zs m) (gi zs (m * 5 + 4)) := by unfold hiF; rw [List.range_succ, List.foldl_append]; rfl
theorem loF_succ {zs : List Int} {m : Nat} : loF zs (m + 1) = max (loF zs m) (gi zs (m * 5 + 3)) := by unfold loF; rw [List.range_succ, List.foldl_append]; rfl
section
variable {g : Nat} {D : List Nat} {rd : Option Nat} {Q : Ex → St → Prop} {A : Hp} {V : Value → Hp → Prop}
theorem loop9r {d : Int} (hd : 0 ≤ d ∧ d ≤ 100000) {T0 : List Value}
    (hQ : ∀ T' (r' : Nat), r' ≤ 40000 → d * 1099511627776 ≤ (r' : Int) * r' * r' * r' → tget T' 19 = .int .i64 r' → (∀ i, (i < 19 ∨ (60 ≤ i ∧ i < 70)) → tget T' i = tget T0 i) → Q (.exit 2) ⟨T', D, A⟩) :
    ∀ (k r : Nat) (T : List Value), r + k = 40000 → (∀ i, (i < 19 ∨ (60 ≤ i ∧ i < 70)) → tget T i = tget T0 i) → tget T0 18 = .int .i64 d → tget T 19 = .int .i64 r → W AP KL g rd (.loop body9r) ⟨T, D, A⟩ Q := by
  intro k
  induction k with
  | zero =>
    intro r T hr hT t18' t19
    have t18 := (hT 18 (by omega)).trans t18'
    have e : r = 40000 := by omega
    subst e
    rw [W_loop]
    by_cases h0 : 0 < d
    · have h1 := shl40 (d := d) (by omega) (by omega)
      simp (disch := as_aux_lemma => first | omega | simp only [hDs] <;> omega | simp [isCell]) [hRs, takeMarks, resA, resAll, resOne, Value.cells, body9r, t18, t19, h0, h1, show wr .i64 (1600000000 : Int) = 1600000000 from rfl, show wr .i64 (64000000000000 : Int) = 64000000000000 from rfl, show wr .i64 (2560000000000000000 : Int) = 2560000000000000000 from rfl, show ¬ ((2560000000000000000 : Int) < d * 1099511627776) by omega]
      refine hQ _ 40000 (by omega) (by omega) (by simp [t19]) fun i hi => ?_
      simp only [tget_tset]
      repeat (rw [if_neg (by omega)])
      exact hT i hi
    · simp (disch := as_aux_lemma => first | omega | simp only [hDs] <;> omega | simp [isCell]) [hRs, takeMarks, resA, resAll, resOne, Value.cells, body9r, t18, t19, h0]
      refine hQ _ 40000 (by omega) (by omega) (by simp [t19]) fun i hi => ?_
      simp only [tget_tset]
      repeat (rw [if_neg (by omega)])
      exact hT i hi
  | succ k ih =>
    intro r T hr hT t18' t19
    have t18 := (hT 18 (by omega)).trans t18'
    have r1 : (0 : Int) ≤ r ∧ (r : Int) ≤ 40000 := by omega
    have r2 : 0 ≤ (r : Int) * r ∧ (r : Int) * r ≤ 1600000000 := ⟨Int.mul_nonneg r1.1 r1.1, Int.mul_le_mul r1.2 r1.2 r1.1 (by omega)⟩
    have r3 : 0 ≤ (r : Int) * r * r ∧ (r : Int) * r * r ≤ 64000000000000 := ⟨Int.mul_nonneg r2.1 r1.1, Int.mul_le_mul r2.2 r1.2 r1.1 (by omega)⟩
    have r4 : 0 ≤ (r : Int) * r * r * r ∧ (r : Int) * r * r * r ≤ 2560000000000000000 := ⟨Int.mul_nonneg r3.1 r1.1, Int.mul_le_mul r3.2 r1.2 r1.1 (by omega)⟩
    rw [W_loop]
    by_cases h0 : 0 < d
    · have h1 := shl40 (d := d) (by omega) (by omega)
      by_cases h2 : (r : Int) * r * r * r < d * 1099511627776
      · simp (disch := as_aux_lemma => first | omega | simp only [hDs] <;> omega | simp [isCell]) [hRs, takeMarks, resA, resAll, resOne, Value.cells, body9r, t18, t19, h0, h1, wrId (n := (r : Int) * r) (by omega) (by omega), wrId (n := (r : Int) * r * r) (by omega) (by omega), wrId (n := (r : Int) * r * r * r) (by omega) (by omega), h2, show (r : Int) < 40000 by omega]
        refine ih (r + 1) _ (by omega) (fun i hi => ?_) t18' ?_
        · simp only [tget_tset]
          repeat (rw [if_neg (by omega)])
          exact hT i hi
        · simp [wrId (n := (r : Int) + 1) (by omega) (by omega)]
      · simp (disch := as_aux_lemma => first | omega | simp only [hDs] <;> omega | simp [isCell]) [hRs, takeMarks, resA, resAll, resOne, Value.cells, body9r, t18, t19, h0, h1, wrId (n := (r : Int) * r) (by omega) (by omega), wrId (n := (r : Int) * r * r) (by omega) (by omega), wrId (n := (r : Int) * r * r * r) (by omega) (by omega), h2]
        refine hQ _ r (by omega) (by omega) (by simp [t19]) fun i hi => ?_
        simp only [tget_tset]
        repeat (rw [if_neg (by omega)])
        exact hT i hi
    · simp (disch := as_aux_lemma => first | omega | simp only [hDs] <;> omega | simp [isCell]) [hRs, takeMarks, resA, resAll, resOne, Value.cells, body9r, t18, t19, h0]
      refine hQ _ r (by omega) (by omega) (by simp [t19]) fun i hi => ?_
      simp only [tget_tset]
      repeat (rw [if_neg (by omega)])
      exact hT i hi
theorem loop9a {P : Par} {A0 : Hp} {T0 : List Value} {zs : List Int} {m b7 b8 : Nat} {sv : Value} (hu : P.up = true) (hP : POk P) (hg0 : -33000 ≤ P.shi) (hgl : ∀ c, c < P.l.length → -40000 ≤ P.glo c) (hz : StartOk P zs m) (hm : m < 1000000) (hg : g ≤ A0.n) (hgr : groundOf A0 P.sl = some P.l)
    (h7 : A0.get b7 = some (.cells [.int .i64 P.w, .int .i64 P.h, .int .i64 P.s, P.sl] false)) (h8 : A0.get b8 = some (.cells [.int .i64 P.slo, .int .i64 P.shi] false)) (hr : RdS A0 5 m (ints zs) sv)
    (hQ : ∀ T' A' (M : Int), Ext' A0 A' → 0 ≤ M ∧ M ≤ 300000000 → (∀ i, i < m → 1 ≤ P.dep (stC zs i) → gi zs (i * 5 + 4) * fourthE true (P.dep (stC zs i)) ≤ M) → tget T' 13 = .int .i64 M → tget T' 14 = .int .i64 (hiF zs m) → tget T' 15 = .int .i64 (loF zs m) → (∀ i, i < 13 → tget T' i = tget T0 i) → Q (.exit 0) ⟨T', D, A'⟩) :
    ∀ (k i : Nat) (T : List Value) (A : Hp) (M : Int), i + k = m → Ext' A0 A → 0 ≤ M ∧ M ≤ 300000000 → (∀ j, j < i → 1 ≤ P.dep (stC zs j) → gi zs (j * 5 + 4) * fourthE true (P.dep (stC zs j)) ≤ M) → tget T 13 = .int .i64 M → tget T 14 = .int .i64 (hiF zs i) → tget T 15 = .int .i64 (loF zs i) → (∀ i, i < 13 → tget T i = tget T0 i) →
      tget T0 7 = ptrV b7 → tget T0 8 = ptrV b8 → tget T 63 = sv → tget T 64 = .int .i64 m → tget T 65 = .int .i64 i → W AP KL g rd (.loop body9a) ⟨T, D, A⟩ Q := by
  have hF : ∀ i, i ≤ m → 0 ≤ hiF zs i ∧ hiF zs i ≤ 5000 ∧ 0 ≤ loF zs i ∧ loF zs i ≤ 5000 := by
    intro i
    induction i with
    | zero => intro _; simp [hiF, loF]
    | succ i ih =>
      intro hi
      have := ih (by omega)
      have := hz.rise i (by omega)
      rw [hiF_succ, loF_succ]; omega
  intro k
  induction k with
  | zero =>
    intro i T A M hi kA hM hMi t13 t14 t15 hT t7' t8' t63 t64 t65
    have : i = m := by omega
    subst this
    rw [W_loop]
    simp (disch := as_aux_lemma => first | omega | simp only [hDs] <;> omega | simp [isCell]) [hRs, takeMarks, resA, resAll, resOne, Value.cells, body9a, t64, t65]
    refine hQ _ A M kA hM hMi (by simp [t13]) (by simp [t14]) (by simp [t15]) fun j hj => ?_
    simp only [tget_tset]
    rw [if_neg (by omega)]
    exact hT j hj
  | succ k ih =>
    intro i T A M hi kA hM hMi t13 t14 t15 hT t7' t8' t63 t64 t65
    have t7 := (hT 7 (by omega)).trans t7'
    have t8 := (hT 8 (by omega)).trans t8'
    obtain ⟨y, cy, ry, hyv, hy⟩ := (hr.mono kA.2).at (i := i) (by omega)
    have hyl : zs.length = m * 5 := hz.len
    have hcell := hz.cell i (by omega)
    have hrise := hz.rise i (by omega)
    obtain ⟨c, hc⟩ : ∃ c : Nat, gi zs (i * 5) = c := ⟨(gi zs (i * 5)).toNat, by omega⟩
    have hcl : c < P.l.length := by omega
    have ec : stC zs i = c := by unfold stC; omega
    rcases (groundOf_cases (groundOf_mono hgr kA.2)).2 with ⟨_, e2⟩ | ⟨x, cap, ro, hsv, hx⟩
    · rw [e2] at hcl; simp at hcl
    rw [cellsOf_flat] at hx
    have hfl := flat2_length P.l
    have g7 := kA.get h7
    have g8 := kA.get h8
    have ny := Hp.lt_of_get hy
    have nx := Hp.lt_of_get hx
    have n7 := Hp.lt_of_get g7
    have n8 := Hp.lt_of_get g8
    have hFi := hF i (by omega)
    have hsea := hP.sea
    have hgc := hgl c hcl
    have hgg := hP.ground hcl
    have edep : P.dep c = P.shi - P.glo c := by unfold Par.dep ofE agE; rw [hu]; rfl
    have eg : gi (flat2 P.l) (c * 2) = P.glo c := rfl
    have kn := kA.1
    obtain ⟨B, hB⟩ : ∃ B, B = A.push (.cells [.int .i64 (c : Int), .int .i64 (gi zs (i * 5 + 1)), .int .i64 (gi zs (i * 5 + 2)), .int .i64 (gi zs (i * 5 + 3)), .int .i64 (gi zs (i * 5 + 4))] false) := ⟨_, rfl⟩
    have kB : Ext' A B := by rw [hB]; exact Ext'.push _ _
    have gB : B.get A.n = some (.cells [.int .i64 (c : Int), .int .i64 (gi zs (i * 5 + 1)), .int .i64 (gi zs (i * 5 + 2)), .int .i64 (gi zs (i * 5 + 3)), .int .i64 (gi zs (i * 5 + 4))] false) := by rw [hB]; exact get_push_new
    have g7B := kB.get g7
    have g8B := kB.get g8
    have hxB := kB.get hx
    rw [hyv] at t63
    rw [W_loop]
    simp (disch := as_aux_lemma => first | omega | simp only [hDs] <;> omega | simp [isCell]) [hRs, takeMarks, resA, resAll, resOne, Value.cells, body9a, t63, t64, t65, show (i : Int) < m by omega, idxSA_ok, hy, ints_5, storeB_cells, setRange_all, hc]
    rw [← hB]
    simp (disch := as_aux_lemma => first | omega | simp only [hDs] <;> omega | simp [isCell]) [hRs, takeMarks, resA, resAll, resOne, Value.cells, t7, t8, ptrV, g7B, g8B, gB, hsv, idxSA_ok, show (c : Int) < P.l.length by omega, hcl, hxB, ints_get, eg, wrId (n := P.shi - P.glo c) (by omega) (by omega)]
    refine loop9r (d := max 0 (P.shi - P.glo c)) (T0 := _) (by omega) (fun T' r' hr' hd t19 hT' => ?_) 40000 0 _ (by omega) (fun _ _ => rfl) (by simp) (by simp)
    have q13 := hT' 13 (by omega)
    have q14 := hT' 14 (by omega)
    have q15 := hT' 15 (by omega)
    have q17 := hT' 17 (by omega)
    have q63 := hT' 63 (by omega)
    have q64 := hT' 64 (by omega)
    have q65 := hT' 65 (by omega)
    simp at q13 q14 q15 q17 q63 q64 q65
    have hp0 : 0 ≤ gi zs (i * 5 + 4) * ((r' : Int) + 1) := Int.mul_nonneg (by omega) (by omega)
    have hp1 : gi zs (i * 5 + 4) * ((r' : Int) + 1) ≤ 5000 * 40001 := Int.mul_le_mul (by omega) (by omega) (by omega) (by omega)
    simp (disch := as_aux_lemma => first | omega | simp only [hDs] <;> omega | simp [isCell]) [hRs, takeMarks, resA, resAll, resOne, Value.cells, q13, q14, q15, q17, t13, t14, t15, t19, gB, wrId (n := (r' : Int) + 1) (by omega) (by omega), wrId (n := gi zs (i * 5 + 4) * ((r' : Int) + 1)) (by omega) (by omega), q65, t65]
    refine ih (i + 1) _ B (max M (gi zs (i * 5 + 4) * ((r' : Int) + 1))) (by omega) (kA.trans kB) (by omega) (fun j hj hdj => ?_) ?_ ?_ ?_ (fun j hj => ?_) t7' t8' ?_ ?_ ?_
    · by_cases e : j = i
      · subst e
        rw [ec] at hdj ⊢
        have h1 := fourth_r (d := P.dep c) (r := r') (by omega) (by omega) (by rw [edep] at hdj ⊢; omega) true
        have h2 := Int.mul_le_mul_of_nonneg_left (show fourthE true (P.dep c) ≤ (r' : Int) + 1 by omega) (show 0 ≤ gi zs (j * 5 + 4) by omega)
        omega
      · have := hMi j (by omega) hdj
        omega
    · simp
    · simp [hiF_succ]
    · simp [loF_succ]
    · simp only [tget_tset]
      repeat (rw [if_neg (by omega)])
      rw [hT' j (by omega)]
      simp only [tget_tset]
      repeat (rw [if_neg (by omega)])
      exact hT j hj
    · simp [q63, t63, hyv]
    · simp [q64, t64]
    · simp [wrId (n := (i : Int) + 1) (by omega) (by omega)]
end
end Go.Ab.Wave
namespace Go.Ab.Wave
open Go Go.Ab
section
variable {g : Nat} {D : List Nat} {rd : Option Nat} {Q : Ex → St → Prop} {A : Hp} {V : Value → Hp → Prop}
theorem loop9b {P : Par} {A0 : Hp} {T0 : List Value} {bs : List Int} {b7 b8 : Nat} {M : Int} {sv : Value} (hP : POk P) (hM : 0 ≤ M ∧ M ≤ 300000000) (hg : g ≤ A0.n) (hgr : groundOf A0 P.sl = some P.l)
    (h7 : A0.get b7 = some (.cells [.int .i64 P.w, .int .i64 P.h, .int .i64 P.s, P.sl] false)) (h8 : A0.get b8 = some (.cells [.int .i64 P.slo, .int .i64 P.shi] false)) (hr : RdS A0 8 P.l.length (ints bs) sv)
    (hb : ∀ c, c < P.l.length → 1 ≤ P.shi - P.glo c → 1 ≤ P.slo - P.ghi c → gi bs (c * 8 + 2 + 1) ≤ (M + 1023).tdiv 1024)
    (hQ : ∀ T' A', Ext' A0 A' → (∀ i, i < 20 → tget T' i = tget T0 i) → Q (.exit 4) ⟨T', D, A'⟩) :
    ∀ (k i : Nat) (T : List Value) (A : Hp), i + k = P.l.length → Ext' A0 A → (∀ i, i < 20 → tget T i = tget T0 i) → tget T0 7 = ptrV b7 → tget T0 8 = ptrV b8 → tget T0 13 = .int .i64 M → tget T 119 = sv → tget T 120 = .int .i64 P.l.length → tget T 121 = .int .i64 i → W AP KL g rd (.loop body9b) ⟨T, D, A⟩ Q := by
  have hsm := hP.small
  have hbl : bs.length = P.l.length * 8 := by have := hr.1; rwa [ints_length] at this
  intro k
  induction k with
  | zero =>
    intro i T A hi kA hT t7' t8' t13' t119 t120 t121
    have : i = P.l.length := by omega
    rw [W_loop]
    simp (disch := as_aux_lemma => first | omega | simp only [hDs] <;> omega | simp [isCell]) [hRs, takeMarks, resA, resAll, resOne, Value.cells, body9b, t120, t121, show ¬ ((i : Int) < P.l.length) by omega]
    refine hQ _ A kA fun j hj => ?_
    simp only [tget_tset]
    rw [if_neg (by omega)]
    exact hT j hj
  | succ k ih =>
    intro i T A hi kA hT t7' t8' t13' t119 t120 t121
    have t7 := (hT 7 (by omega)).trans t7'
    have t8 := (hT 8 (by omega)).trans t8'
    have t13 := (hT 13 (by omega)).trans t13'
    have hil : i < P.l.length := by omega
    obtain ⟨y, cy, ry, hyv, hy⟩ := (hr.mono kA.2).at (i := i) hil
    rcases (groundOf_cases (groundOf_mono hgr kA.2)).2 with ⟨_, e2⟩ | ⟨x, cap, ro, hsv, hx⟩
    · rw [e2] at hil; simp at hil
    rw [cellsOf_flat] at hx
    have hfl := flat2_length P.l
    have g7 := kA.get h7
    have g8 := kA.get h8
    have ny := Hp.lt_of_get hy
    have nx := Hp.lt_of_get hx
    have n7 := Hp.lt_of_get g7
    have n8 := Hp.lt_of_get g8
    have hsea := hP.sea
    have hgg := hP.ground hil
    have eg : gi (flat2 P.l) (i * 2) = P.glo i := rfl
    have eh : gi (flat2 P.l) (i * 2 + 1) = P.ghi i := rfl
    obtain ⟨B, hB⟩ : ∃ B, B = A.push (.cells [.int .i64 (gi bs (i * 8)), .int .i64 (gi bs (i * 8 + 1)), .int .i64 (gi bs (i * 8 + 2)), .int .i64 (gi bs (i * 8 + 3)), .int .i64 (gi bs (i * 8 + 4)), .int .i64 (gi bs (i * 8 + 5)), .int .i64 (gi bs (i * 8 + 6)), .int .i64 (gi bs (i * 8 + 7))] false) := ⟨_, rfl⟩
    have kB : Ext' A B := by rw [hB]; exact Ext'.push _ _
    have gB : B.get A.n = some (.cells [.int .i64 (gi bs (i * 8)), .int .i64 (gi bs (i * 8 + 1)), .int .i64 (gi bs (i * 8 + 2)), .int .i64 (gi bs (i * 8 + 3)), .int .i64 (gi bs (i * 8 + 4)), .int .i64 (gi bs (i * 8 + 5)), .int .i64 (gi bs (i * 8 + 6)), .int .i64 (gi bs (i * 8 + 7))] false) := by rw [hB]; exact get_push_new
    have g7B := kB.get g7
    have g8B := kB.get g8
    have hxB := kB.get hx
    have kn := kA.1
    have fin : ∀ T' : List Value, (∀ i, i < 20 → tget T' i = tget T i) → tget T' 119 = tget T 119 → tget T' 120 = tget T 120 → tget T' 121 = .int .i64 ((i : Int) + 1) → W AP KL g rd (.loop body9b) ⟨T', D, B⟩ Q := fun T' h1 h2 h3 h4 =>
      ih (i + 1) T' B (by omega) (kA.trans kB) (fun j hj => (h1 j hj).trans (hT j hj)) t7' t8' t13' (h2.trans t119) (h3.trans t120) (by rw [h4]; simp)
    have w1 := wrId (n := (i : Int) + 1) (by omega) (by omega)
    have w2 := wrId (n := M + 1023) (by omega) (by omega)
    have hq : 0 ≤ (M + 1023).tdiv 1024 ∧ (M + 1023).tdiv 1024 ≤ 300001023 := ⟨Int.tdiv_nonneg (by omega) (by decide), tdiv_le_of (by omega) (by decide) (by omega)⟩
    have w3 := wrId (n := (M + 1023).tdiv 1024) (by omega) (by omega)
    have t119' := t119
    rw [hyv] at t119'
    rw [W_loop]
    simp (disch := as_aux_lemma => first | omega | simp only [hDs] <;> omega | simp [isCell]) [hRs, takeMarks, resA, resAll, resOne, Value.cells, body9b, t119', t120, t121, show (i : Int) < P.l.length by omega, idxSA_ok, hy, ints_8, cellsFrom, storeB_cells, setRange_all]
    rw [← hB]
    by_cases h1 : 1 ≤ P.shi - P.glo i
    · by_cases h2 : 1 ≤ P.slo - P.ghi i
      · have h3 : gi bs (i * 8 + 3) ≤ (M + 1023).tdiv 1024 := hb i hil h1 h2
        simp (disch := as_aux_lemma => first | omega | simp only [hDs] <;> omega | simp [isCell]) [hRs, takeMarks, resA, resAll, resOne, Value.cells, t7, t8, t13, ptrV, g7B, g8B, gB, hsv, idxSA_ok, show (i : Int) < P.l.length by omega, hil, hxB, ints_get, eg, eh, wrId (n := P.shi - P.glo i) (by omega) (by omega), wrId (n := P.slo - P.ghi i) (by omega) (by omega), h1, h2, w2, binA_quo, w3, show ¬ ((M + 1023).tdiv 1024 < gi bs (i * 8 + 3)) by omega, t121]
        exact fin _ (fun j hj => by simp only [tget_tset]; repeat (rw [if_neg (by omega)])) (by simp) (by simp) (by simp [w1])
      · simp (disch := as_aux_lemma => first | omega | simp only [hDs] <;> omega | simp [isCell]) [hRs, takeMarks, resA, resAll, resOne, Value.cells, t7, t8, t13, ptrV, g7B, g8B, gB, hsv, idxSA_ok, show (i : Int) < P.l.length by omega, hil, hxB, ints_get, eg, eh, wrId (n := P.shi - P.glo i) (by omega) (by omega), wrId (n := P.slo - P.ghi i) (by omega) (by omega), h1, h2, t121]
        exact fin _ (fun j hj => by simp only [tget_tset]; repeat (rw [if_neg (by omega)])) (by simp) (by simp) (by simp [w1])
    · simp (disch := as_aux_lemma => first | omega | simp only [hDs] <;> omega | simp [isCell]) [hRs, takeMarks, resA, resAll, resOne, Value.cells, t7, t8, t13, ptrV, g7B, g8B, gB, hsv, idxSA_ok, show (i : Int) < P.l.length by omega, hil, hxB, ints_get, eg, eh, wrId (n := P.shi - P.glo i) (by omega) (by omega), h1, GuardW_u, t121]
      exact fin _ (fun j hj => by simp only [tget_tset]; repeat (rw [if_neg (by omega)])) (by simp) (by simp) (by simp [w1])
def flatL (n : Nat) (d : Int) : List (Int × Int) := List.replicate n (-d, -d)
theorem flatL_succ {n : Nat} {d : Int} : ints (flat2 (flatL (n + 1) d)) = ints (flat2 (flatL n d)) ++ [.int .i64 (-d), .int .i64 (-d)] := by
  unfold flatL
  rw [List.replicate_succ']
  simp [flat2, ints]
theorem loop9c {A0 : Hp} {T0 : List Value} {b : Nat} {w h s d : Int} {n : Nat} (hd : 0 ≤ d ∧ d ≤ 100000) (hn : n < 1000000) (hg : g ≤ b) (hb : b < A0.n)
    (hQ : ∀ T' A' sv, A0.n ≤ A'.n → (∀ x, x < A0.n → x ≠ b → A'.get x = A0.get x) → A'.get b = some (.cells [.int .i64 w, .int .i64 h, .int .i64 s, sv] false) → AccS A0.n A' 2 (ints (flat2 (flatL n d))) sv → (∀ i, i < 24 → tget T' i = tget T0 i) → Q (.exit 6) ⟨T', D, A'⟩) :
    ∀ (k i : Nat) (T : List Value) (A : Hp) (sv : Value), i + k = n → A0.n ≤ A.n → (∀ x, x < A0.n → x ≠ b → A.get x = A0.get x) → A.get b = some (.cells [.int .i64 w, .int .i64 h, .int .i64 s, sv] false) → AccS A0.n A 2 (ints (flat2 (flatL i d))) sv → (∀ i, i < 24 → tget T i = tget T0 i) → tget T0 22 = ptrV b → tget T0 23 = .int .i64 d →
      tget T 165 = .int .i64 n → tget T 166 = .int .i64 i → W AP KL g rd (.loop body9c) ⟨T, D, A⟩ Q := by
  intro k
  induction k with
  | zero =>
    intro i T A sv hi hnA hold hgb hacc hT t22 t23 t165 t166
    have : i = n := by omega
    rw [W_loop]
    simp (disch := as_aux_lemma => first | omega | simp only [hDs] <;> omega | simp [isCell]) [hRs, takeMarks, resA, resAll, resOne, Value.cells, body9c, t165, t166, show ¬ ((i : Int) < n) by omega]
    refine hQ _ A sv hnA hold hgb (by rw [← this]; exact hacc) fun j hj => ?_
    simp only [tget_tset]
    rw [if_neg (by omega)]
    exact hT j hj
  | succ k ih =>
    intro i T A sv hi hnA hold hgb hacc hT t22' t23' t165 t166
    have t22 := (hT 22 (by omega)).trans t22'
    have t23 := (hT 23 (by omega)).trans t23'
    have nb := Hp.lt_of_get hgb
    rw [W_loop]
    simp (disch := as_aux_lemma => first | omega | simp only [hDs] <;> omega | simp [isCell]) [hRs, takeMarks, resA, resAll, resOne, Value.cells, body9c, t165, t166, show (i : Int) < n by omega, t22, t23, ptrV, hgb, negA_int, wrId (n := 0 - d) (by omega) (by omega), wrId (n := -d) (by omega) (by omega)]
    refine w25 (by omega) fun A1 k1 => ?_
    obtain ⟨sv', A', e, hacc', hold', hn''⟩ := (hacc.mono k1.2).add (g := g) (bytes := 16) (new := [.int .i64 (-d), .int .i64 (-d)]) (ro := false) (n := i) (by omega) (by have := k1.1; omega) rfl (by decide) rfl (by rw [ints_length, flat2_length]; simp [flatL]) (by unfold room; omega)
    obtain ⟨sp, sm, sc, rfl⟩ := hacc'.isSlice
    have hk := k1.1
    have g5 : A'.get b = some (.cells [.int .i64 w, .int .i64 h, .int .i64 s, sv] false) := by rw [hold' b (by omega), k1.2 b nb]; exact hgb
    have l5 := Hp.lt_of_get g5
    simp (disch := as_aux_lemma => first | omega | simp only [hDs] <;> omega | simp [isCell]) [hRs, takeMarks, resA, resAll, resOne, Value.cells, spn, slitA, fillA, setRange, t22, t166, ptrV, e, g5, storeB_cells]
    refine ih (i + 1) _ _ (.slice sp sm sc) (by omega) (by show _ ≤ A'.n; omega) (fun x hx hxb => ?_) (get_set_same g5) ?_ (fun j hj => ?_) t22' t23' ?_ ?_
    · rw [get_set_ne l5 hxb, hold' x (by omega), k1.2 x (by omega), hold x hx hxb]
    · rw [flatL_succ]
      exact AccS.set_low hacc' hb (by omega)
    · simp only [tget_tset]
      repeat (rw [if_neg (by omega)])
      exact hT j hj
    · simp [t165]
    · simp [wrId (n := (i : Int) + 1) (by omega) (by omega)]
theorem loop9d {A0 : Hp} {T0 : List Value} {fs : List Int} {n : Nat} {hi lo : Int} {sv : Value} (hh : 0 ≤ hi ∧ hi ≤ 5000) (hl : 0 ≤ lo ∧ lo ≤ 5000) (hn : n < 1000000) (hg : g ≤ A0.n) (hr : RdS A0 8 n (ints fs) sv)
    (hb : ∀ c, c < n → (hi ≤ gi fs (c * 8 + 3) ∧ gi fs (c * 8 + 3) ≤ hi + (hi + 511).tdiv 512 + 1) ∧ lo - (lo + 511).tdiv 512 - 1 ≤ gi fs (c * 8 + 2) ∧ gi fs (c * 8 + 2) ≤ lo)
    (hQ : ∀ T' A', Q (.exit 8) ⟨T', D, A'⟩) :
    ∀ (k i : Nat) (T : List Value) (A : Hp), i + k = n → Ext' A0 A → tget T 14 = .int .i64 hi → tget T 15 = .int .i64 lo → tget T 198 = sv → tget T 199 = .int .i64 n → tget T 200 = .int .i64 i → W AP KL g rd (.loop body9d) ⟨T, D, A⟩ Q := by
  have hbl : fs.length = n * 8 := by have := hr.1; rwa [ints_length] at this
  have q1 : 0 ≤ (hi + 511).tdiv 512 ∧ (hi + 511).tdiv 512 ≤ 5511 := ⟨Int.tdiv_nonneg (by omega) (by decide), tdiv_le_of (by omega) (by decide) (by omega)⟩
  have q2 : 0 ≤ (lo + 511).tdiv 512 ∧ (lo + 511).tdiv 512 ≤ 5511 := ⟨Int.tdiv_nonneg (by omega) (by decide), tdiv_le_of (by omega) (by decide) (by omega)⟩
  intro k
  induction k with
  | zero =>
    intro i T A hi kA t14 t15 t198 t199 t200
    have : i = n := by omega
    rw [W_loop]
    simp (disch := as_aux_lemma => first | omega | simp only [hDs] <;> omega | simp [isCell]) [hRs, takeMarks, resA, resAll, resOne, Value.cells, body9d, t199, t200, show ¬ ((i : Int) < n) by omega]
    exact hQ _ A
  | succ k ih =>
    intro i T A hi' kA t14 t15 t198 t199 t200
    have hil : i < n := by omega
    obtain ⟨y, cy, ry, hyv, hy⟩ := (hr.mono kA.2).at (i := i) hil
    have ny := Hp.lt_of_get hy
    obtain ⟨⟨c1, c2⟩, c3, c4⟩ := hb i hil
    have kn := kA.1
    have t198' := t198
    rw [hyv] at t198'
    rw [W_loop]
    simp (disch := as_aux_lemma => first | omega | simp only [hDs] <;> omega | simp [isCell]) [hRs, takeMarks, resA, resAll, resOne, Value.cells, body9d, t198', t199, t200, show (i : Int) < n by omega, idxSA_ok, hy, ints_8, cellsFrom, storeB_cells, setRange_all, t14, t15, wrId (n := hi + 511) (by omega) (by omega), wrId (n := lo + 511) (by omega) (by omega), binA_quo, wrId (n := (hi + 511).tdiv 512) (by omega) (by omega), wrId (n := (lo + 511).tdiv 512) (by omega) (by omega),
      wrId (n := hi + (hi + 511).tdiv 512) (by omega) (by omega), wrId (n := hi + (hi + 511).tdiv 512 + 1) (by omega) (by omega), wrId (n := lo - (lo + 511).tdiv 512) (by omega) (by omega), wrId (n := lo - (lo + 511).tdiv 512 - 1) (by omega) (by omega), show ¬ (hi + (hi + 511).tdiv 512 + 1 < gi fs (i * 8 + 3)) by omega, show ¬ (gi fs (i * 8 + 2) < lo - (lo + 511).tdiv 512 - 1) by omega, show ¬ (gi fs (i * 8 + 3) < hi) by omega, show ¬ (lo < gi fs (i * 8 + 2)) by omega]
    refine ih (i + 1) _ _ (by omega) (kA.trans (Ext'.push _ _)) ?_ ?_ ?_ ?_ ?_
    · simp [t14]
    · simp [t15]
    · simp [t198', hyv]
    · simp [t199]
    · simp [t200, wrId (n := (i : Int) + 1) (by omega) (by omega)]
end
end Go.Ab.Wave
namespace Go.Ab.Wave
open Go Go.Ab
theorem Dom.self (P : Par) : Dom P P := ⟨fun h => h, rfl, rfl, rfl, rfl, fun _ _ => Int.le_refl _, fun _ _ => Int.le_refl _, fun _ _ => Int.le_refl _, Int.le_refl _, Int.le_refl _, Int.le_refl _, Int.le_refl _⟩
theorem DomZ.self {P : Par} {zs : List Int} {n : Nat} : DomZ P P zs zs n := ⟨fun _ _ => rfl, fun _ _ => Int.le_refl _, fun _ _ => Int.le_refl _⟩
theorem Both.self {P : Par} {zs : List Int} {n : Nat} (hP : POk P) (hz : StartOk P zs n) (F : SheetFin P zs n) : Both P P zs zs n := ⟨Dom.self P, DomZ.self, hP, hP, hz, hz, F, F⟩
theorem hiF_max {zs : List Int} : ∀ {m : Nat}, (∀ i, i < m → 0 ≤ gi zs (i * 5 + 4)) → (∀ i, i < m → gi zs (i * 5 + 4) ≤ hiF zs m) ∧ (0 < m → ∃ i, i < m ∧ gi zs (i * 5 + 4) = hiF zs m) ∧ 0 ≤ hiF zs m
  | 0, _ => ⟨fun i hi => by omega, fun h => by omega, Int.le_refl 0⟩
  | m + 1, h => by
    obtain ⟨h1, h2, h3⟩ := hiF_max (zs := zs) (m := m) fun i hi => h i (by omega)
    have hm := h m (by omega)
    rw [hiF_succ]
    refine ⟨fun i hi => ?_, fun _ => ?_, by omega⟩
    · by_cases e : i = m
      · subst e; omega
      · have := h1 i (by omega); omega
    · by_cases hle : hiF zs m ≤ gi zs (m * 5 + 4)
      · exact ⟨m, by omega, by omega⟩
      · rcases Nat.eq_zero_or_pos m with e | e
        · subst e
          have : hiF zs 0 = 0 := rfl
          omega
        · obtain ⟨i, hi, e'⟩ := h2 e
          exact ⟨i, by omega, by omega⟩
theorem loF_max {zs : List Int} : ∀ {m : Nat}, (∀ i, i < m → 0 ≤ gi zs (i * 5 + 3)) → (∀ i, i < m → gi zs (i * 5 + 3) ≤ loF zs m) ∧ (0 < m → ∃ i, i < m ∧ gi zs (i * 5 + 3) = loF zs m) ∧ 0 ≤ loF zs m
  | 0, _ => ⟨fun i hi => by omega, fun h => by omega, Int.le_refl 0⟩
  | m + 1, h => by
    obtain ⟨h1, h2, h3⟩ := loF_max (zs := zs) (m := m) fun i hi => h i (by omega)
    have hm := h m (by omega)
    rw [loF_succ]
    refine ⟨fun i hi => ?_, fun _ => ?_, by omega⟩
    · by_cases e : i = m
      · subst e; omega
      · have := h1 i (by omega); omega
    · by_cases hle : loF zs m ≤ gi zs (m * 5 + 3)
      · exact ⟨m, by omega, by omega⟩
      · rcases Nat.eq_zero_or_pos m with e | e
        · subst e
          have : loF zs 0 = 0 := rfl
          omega
        · obtain ⟨i, hi, e'⟩ := h2 e
          exact ⟨i, by omega, by omega⟩
theorem dv_1024 {b : Bool} {x : Int} (hx : 0 ≤ x) : dv b (x * 1024) 1024 = x := by
  have h1 : x ≤ dv b (x * 1024) 1024 := Int.le_trans (le_tdiv_of (by omega) (by decide) (Int.le_refl _)) (dv_le_le (b := false) (b' := b) (fun h => by cases h) (by omega) (Int.le_refl _) (by decide) (Int.le_refl _))
  have h2 : dv b (x * 1024) 1024 ≤ x := dv_le (by omega) (by decide) (by omega)
  omega
section
variable {P : Par} {zs : List Int} {n : Nat} {d M : Int}
theorem flat_str (hP : POk P) (hd : ∀ c, c < P.l.length → P.dep c = d) (hd1 : 1 ≤ d) (hk : ofE P.up P.k0 P.k1 = 1024) (F : SheetFin P zs n) (hz : StartOk P zs n) (h0 : 0 ≤ M)
    (hM : ∀ i, i < n → ofE P.up (gi zs (i * 5 + 3)) (gi zs (i * 5 + 4)) ≤ M) (hE : ∃ i, i < n ∧ ofE P.up (gi zs (i * 5 + 3)) (gi zs (i * 5 + 4)) = M) {c : Nat} (hc : c < P.l.length) : gi (strF P zs n) c = M * fourthE P.up d := by
  have hf0 : 0 ≤ fourthE P.up d := rt_nn (rt_nn (by omega))
  have edge : ∀ a b, a < P.l.length → b ∈ nbP P a → gi (strF P zs n) a ≤ gi (strF P zs n) b := fun a b ha hb => by
    have hb' := nb_lt hP hb
    have va := F.str.mid.val a ha
    have vb := F.str.mid.val b hb'
    have va' : 0 ≤ gi (strF P zs n) a := va.1
    have vb' : 0 ≤ gi (strF P zs n) b := vb.1
    rcases Int.lt_or_le 0 (gi (strF P zs n) a) with h | h
    · have hop : ((PS P).sp a b (gi (strF P zs n) a)).2 = true := by
        show (P.open a b && decide (0 < gi (strF P zs n) a)) = true
        unfold Par.open
        rw [hd a ha, hd b hb']
        simp; omega
      have h1 := (F.str.cl a b ha hb hop).1
      have h2 : ¬ -(dv P.up (gi (strF P zs n) a * ofE P.up P.k0 P.k1) 1024) < -gi (strF P zs n) b := h1
      rw [hk, dv_1024 va'] at h2
      omega
    · omega
  have conn := connected hP edge
  have up : gi (strF P zs n) c ≤ M * fourthE P.up d := strF_le hP F (fun c hc => str0_le hz (Int.mul_nonneg h0 hf0) (fun i hi hdi => by
    have hcell := hz.cell i hi
    have hs : stC zs i < P.l.length := by unfold stC; omega
    rw [hd _ hs]
    exact Int.mul_le_mul_of_nonneg_right (hM i hi) hf0) n (Nat.le_refl _) c hc) hc
  obtain ⟨i, hi, e⟩ := hE
  have hcell := hz.cell i hi
  have hs : stC zs i < P.l.length := by unfold stC; omega
  have h1 := str0_ge hz n (Nat.le_refl _) i hi (by rw [hd _ hs]; exact hd1)
  rw [hd _ hs, e] at h1
  have h2 := strF_ge F hs
  have h3 := conn _ c hs hc
  omega
theorem ceil512 {x : Int} (h : 0 ≤ x) : x ≤ 512 * (x + 511).tdiv 512 ∧ 0 ≤ (x + 511).tdiv 512 := by
  rw [Int.tdiv_eq_ediv_of_nonneg (by omega)]
  omega
theorem near_hi {hi r R : Int} (h0 : 0 ≤ hi) (hr : 1024 ≤ r) (h1 : r ≤ R) (h2 : R ≤ r + 1) : hi ≤ dv true (hi * R) r ∧ dv true (hi * R) r ≤ hi + (hi + 511).tdiv 512 + 1 := by
  obtain ⟨q1, q2⟩ := ceil512 h0
  obtain ⟨q, hq⟩ : ∃ q, q = (hi + 511).tdiv 512 := ⟨_, rfl⟩
  rw [← hq] at q1 q2 ⊢
  have e1 : hi * r ≤ hi * R := Int.mul_le_mul_of_nonneg_left h1 h0
  have e2 : hi * R ≤ hi * (r + 1) := Int.mul_le_mul_of_nonneg_left h2 h0
  have e3 : q * 1024 ≤ q * r := Int.mul_le_mul_of_nonneg_left hr q2
  have e4 : 0 ≤ hi * r := Int.mul_nonneg h0 (by omega)
  rw [Int.mul_add, Int.mul_one] at e2
  refine ⟨le_tdiv_of (by omega) (by omega) (by omega), tdiv_le_of (by omega) (by omega) ?_⟩
  have e5 : (hi + q + 1 + 1) * r = hi * r + q * r + 2 * r := by rw [Int.add_mul, Int.add_mul, Int.add_mul]; omega
  omega
theorem near_lo {lo r R : Int} (h0 : 0 ≤ lo) (hr : 1024 ≤ r) (h1 : r ≤ R) (h2 : R ≤ r + 1) : lo - (lo + 511).tdiv 512 - 1 ≤ dv false (lo * r) R ∧ dv false (lo * r) R ≤ lo := by
  obtain ⟨q1, q2⟩ := ceil512 h0
  obtain ⟨q, hq⟩ : ∃ q, q = (lo + 511).tdiv 512 := ⟨_, rfl⟩
  rw [← hq] at q1 q2 ⊢
  have e1 : lo * r ≤ lo * R := Int.mul_le_mul_of_nonneg_left h1 h0
  have e2 : lo * R ≤ lo * (r + 1) := Int.mul_le_mul_of_nonneg_left h2 h0
  have e3 : q * 1024 ≤ q * R := Int.mul_le_mul_of_nonneg_left (by omega) q2
  have e4 : 0 ≤ lo * r := Int.mul_nonneg h0 (by omega)
  rw [Int.mul_add, Int.mul_one] at e2
  refine ⟨le_tdiv_of e4 (by omega) ?_, tdiv_le_of e4 (by omega) ?_⟩
  · have e5 : (lo - q - 1) * R = lo * R - q * R - R := by rw [Int.sub_mul, Int.sub_mul]; omega
    omega
  · have e5 : (lo + 1) * R = lo * R + R := by rw [Int.add_mul]; omega
    omega
end
def flatP (C : Coast) (sv : Value) (d : Int) : Par := ⟨false, C.w, C.h, 500, sv, flatL C.n d, 0, 0, 1024, 1024, ordLo C.l0 C.l1 10 2000, ordHi C.l0 C.l1 10 2000, ordLo C.o0 C.o1 0 256, ordHi C.o0 C.o1 0 256⟩
theorem flat_ok {C : Coast} (hC : C.Ok) {sv : Value} {d : Int} (hd : 1 ≤ d ∧ d ≤ 65536) : POk (flatP C sv d) := by
  have wh := hC.wh
  have hc := coast_ok hC sv
  refine ⟨check_of ⟨wh.1.1, by show C.w ≤ 24; omega⟩ ⟨wh.2.1.1, by show C.h ≤ 24; omega⟩ (by show 1 ≤ (500 : Int) ∧ (500 : Int) ≤ 10000; omega) (by show ((flatL C.n d).length : Int) = _; unfold flatL; rw [List.length_replicate]; exact wh.2.2.1) (fun p hp => ?_), by show -20000 ≤ (0 : Int) ∧ (0 : Int) ≤ 0 ∧ (0 : Int) ≤ 20000; omega, by show (1 : Int) ≤ 1024 ∧ (1024 : Int) ≤ 1024 ∧ (1024 : Int) ≤ 1024; omega, hc.land, hc.loss, ?_⟩
  · have := List.eq_of_mem_replicate hp
    subst this
    show -d ≤ -d ∧ -1200000 ≤ -d ∧ -d ≤ 1200000
    omega
  · show (flatL C.n d).length ≤ 40
    unfold flatL; rw [List.length_replicate]; omega
theorem flatL_get {n c : Nat} {d : Int} (hc : c < n) : gi (flat2 (flatL n d)) (c * 2) = -d ∧ gi (flat2 (flatL n d)) (c * 2 + 1) = -d := by
  obtain ⟨p, hp, e1, e2⟩ := flat2_lo (l := flatL n d) (i := c) (by simpa [flatL] using hc)
  have := List.eq_of_mem_replicate hp
  subst this
  exact ⟨e1, e2⟩
theorem flat_rows {C : Coast} (hC : C.Ok) {sv : Value} {d : Int} (hd : 1 ≤ d ∧ d ≤ 65536) {zs : List Int} {m : Nat} (hm : 0 < m) (hz : SprOk (flatP C sv d) zs m) (hF : SprFin (flatP C sv d) zs m) (c : Nat) (hc : c < C.n) :
    (hiF zs m ≤ gi (bounds (flatP C sv d) zs m) (c * 8 + 3) ∧ gi (bounds (flatP C sv d) zs m) (c * 8 + 3) ≤ hiF zs m + (hiF zs m + 511).tdiv 512 + 1) ∧ loF zs m - (loF zs m + 511).tdiv 512 - 1 ≤ gi (bounds (flatP C sv d) zs m) (c * 8 + 2) ∧ gi (bounds (flatP C sv d) zs m) (c * 8 + 2) ≤ loF zs m := by
  obtain ⟨P, hPe⟩ : ∃ P, P = flatP C sv d := ⟨_, rfl⟩
  have hlen : P.l.length = C.n := by rw [hPe]; show (flatL C.n d).length = _; unfold flatL; rw [List.length_replicate]
  rw [← hPe] at hz hF ⊢
  have hcl : c < P.l.length := by omega
  have glo : ∀ c, c < C.n → P.glo c = -d ∧ P.ghi c = -d := fun c hc => by rw [hPe]; exact flatL_get hc
  have dp : ∀ (b : Bool) (c : Nat), c < (P.at b).l.length → (P.at b).dep c = d := fun b c hc' => by
    have := glo c (by rw [← hlen]; exact hc')
    show ofE b P.slo P.shi - agE b (P.glo c) (P.ghi c) = d
    rw [this.1, this.2, hPe]
    show ofE b 0 0 - agE b (-d) (-d) = d
    unfold ofE agE; cases b <;> simp
  have ls : ∀ (b : Bool) (c : Nat), c < (P.at b).l.length → (P.at b).lst c = d := fun b c hc' => by
    have := glo c (by rw [← hlen]; exact hc')
    show agE b P.slo P.shi - ofE b (P.glo c) (P.ghi c) = d
    rw [this.1, this.2, hPe]
    show agE b 0 0 - ofE b (-d) (-d) = d
    unfold ofE agE; cases b <;> simp
  have kk : ∀ b : Bool, ofE (P.at b).up (P.at b).k0 (P.at b).k1 = 1024 := fun b => by rw [hPe]; show ofE b 1024 1024 = 1024; unfold ofE; cases b <;> rfl
  obtain ⟨x1, x2, x3⟩ := hiF_max (zs := zs) (m := m) fun i hi => by have := hz.zh.rise i hi; omega
  obtain ⟨y1, y2, y3⟩ := loF_max (zs := zs) (m := m) fun i hi => by have := hz.zl.rise i hi; omega
  have su := flat_str (P := P.at true) hz.ph (dp true) hd.1 (kk true) hF.fh hz.zh x3 x1 (x2 hm) (c := c) hcl
  have sl := flat_str (P := P.at false) hz.pl (dp false) hd.1 (kk false) hF.fl hz.zl y3 y1 (y2 hm) (c := c) hcl
  have fb := fourth_bounds (b := false) hd.1 (show d ≤ 1220000 by omega)
  have f1 : fourthE false d ≤ fourthE true d := fourth_le_le (fun _ => rfl) (by omega) (Int.le_refl _)
  have f2 := fourth_near (d := d) (by omega)
  have hla : (E1 P zs m).laH c = -Never := by
    refine Decidable.byContradiction fun h => ?_
    have := ((Both.self hz.ph hz.zh hF.fh).lnd (c := c) hcl h).2.2
    rw [ls true c hcl] at this
    omega
  have eL : (E1 P zs m).riL c = dv false (loF zs m * fourthE false d) (fourthE true d) := by
    show dv false (gi (strF (P.at false) zs m) c) (fourthE true ((P.at false).lst c)) = _
    rw [sl, ls false c hcl]
    rfl
  have eH : (E1 P zs m).riH c = dv true (hiF zs m * fourthE true d) (fourthE false d) := by
    show dv true (gi (strF (P.at true) zs m) c) (fourthE false (max 1 ((P.at true).lst c))) = _
    rw [su, ls true c hcl, Int.max_eq_right (by omega)]
    rfl
  have r3 : gi (bounds P zs m) (c * 8 + 3) = (E1 P zs m).riH c := by
    rw [bounds_get hcl (by decide)]
    show (E1 P zs m).l3 c = _
    unfold Spr.l3 Spr.h3
    rw [if_neg (fun h => h hla), if_pos (by show 1 ≤ (P.at true).dep c; rw [dp true c hcl]; exact hd.1)]
  have r2 : gi (bounds P zs m) (c * 8 + 2) = (E1 P zs m).riL c := by
    rw [bounds_get hcl (by decide)]
    show (E1 P zs m).r2 c = _
    unfold Spr.r2
    rw [if_pos (by show 1 ≤ (P.at false).dep c; rw [dp false c hcl]; exact hd.1)]
  rw [r2, r3, eL, eH]
  exact ⟨near_hi x3 fb.2.1 f1 f2, near_lo y3 fb.2.1 f1 f2⟩
theorem most_rows {P : Par} {zs : List Int} {m : Nat} (hz : SprOk P zs m) (hF : SprFin P zs m) {M : Int} (h0 : 0 ≤ M) (hM : ∀ i, i < m → 1 ≤ (P.at true).dep (stC zs i) → gi zs (i * 5 + 4) * fourthE true ((P.at true).dep (stC zs i)) ≤ M)
    (c : Nat) (hc : c < P.l.length) (h1 : 1 ≤ P.shi - P.glo c) (h2 : 1 ≤ P.slo - P.ghi c) : gi (bounds P zs m) (c * 8 + 2 + 1) ≤ (M + 1023).tdiv 1024 := by
  have hcl : c < (P.at true).l.length := hc
  have hg := hz.ph.ground hcl
  have hs := hz.ph.sea
  have hg1 : -1200000 ≤ P.glo c ∧ P.glo c ≤ P.ghi c ∧ P.ghi c ≤ 1200000 := hg
  have hs1 : -20000 ≤ P.slo ∧ P.slo ≤ P.shi ∧ P.shi ≤ 20000 := hs
  have lst : (P.at true).lst c = P.slo - P.ghi c := rfl
  have hla : (E1 P zs m).laH c = -Never := by
    refine Decidable.byContradiction fun h => ?_
    have := ((Both.self hz.ph hz.zh hF.fh).lnd (c := c) hcl h).2.2
    rw [lst] at this
    omega
  have un : (P.at true).under c = max 1 (P.slo - P.ghi c) := rfl
  rw [bounds_get hc (show 2 + 1 < 8 by decide)]
  show (E1 P zs m).l3 c ≤ _
  unfold Spr.l3 Spr.h3
  rw [if_neg (fun h => h hla), if_pos (show 1 ≤ ((E1 P zs m).P.at true).dep c from h1)]
  exact rise_le (P := P.at true) rfl (by omega) (by omega) (hF.fh.str.mid.val c hcl).1 (strF_le hz.ph hF.fh (fun c hc => str0_le hz.zh h0 hM m (Nat.le_refl _) c hc) hcl)
end Go.Ab.Wave
namespace Go.Ab.Wave
open Go Go.Ab
theorem Coast.part {C : Coast} : partA C.cells 0 (some 12) = some (.agg ⟨C.cells⟩) := rfl
theorem rd_len {A : Hp} {sl : Value} {l : List (Int × Int)} (h : groundOf A sl = some l) : lenV sl = some (.int .i64 l.length) := by
  rcases (groundOf_cases h).2 with ⟨h1, h2⟩ | ⟨x, cap, ro, h1, _⟩
  · rw [h1, h2]; rfl
  · rw [h1]; rfl
section
variable {g : Nat} {A : Hp} {V : Value → Hp → Prop}
theorem w9 {C : Coast} {m : Nat} {ls : List Int} {lv : Value} {dp : Int} (hC : C.Ok) (hAt : C.At A) (hg : g ≤ A.n) (hl : ∀ i, 0 ≤ gi ls i ∧ gi ls i ≤ 65535) (hr : RdS A 4 m (kints .u16 ls) lv) (hd : 0 ≤ dp ∧ dp ≤ 65535) (hQ : ∀ A', V (.bool true) A') :
    WF AP KL g 9 [.agg ⟨C.cells⟩, lv, .int .u16 dp] A V := by
  have hlen := hr.len
  have wh := hC.wh
  obtain ⟨B, hB⟩ : ∃ B, B = A.push (.cells C.cells false) := ⟨_, rfl⟩
  have kB : Ext' A B := by rw [hB]; exact Ext'.push _ _
  have b3 : B.get A.n = some (.cells C.cells false) := by rw [hB]; exact get_push_new
  have nB : B.n = A.n + 1 := by rw [hB]; rfl
  rw [WF_body rfl (show AP 9 = some F9 from rfl)]
  simp (disch := as_aux_lemma => first | omega | simp only [hDs] <;> omega | simp [isCell]) [hRs, takeMarks, resA, resAll, resOne, Value.cells]
  rw [← hB]
  by_cases c0 : m < 1
  · simp (disch := as_aux_lemma => first | omega | simp only [hDs] <;> omega | simp [isCell]) [hRs, takeMarks, resA, resAll, resOne, Value.cells, hlen, show (m : Int) < 1 by omega, GuardW_u, WF_spec (show KL 10 = some (memoSpec [mWorks]) from rfl), works_eq]
    exact hQ _
  by_cases c1 : 5 < m
  · simp (disch := as_aux_lemma => first | omega | simp only [hDs] <;> omega | simp [isCell]) [hRs, takeMarks, resA, resAll, resOne, Value.cells, hlen, show ¬ ((m : Int) < 1) by omega, show (5 : Int) < m by omega, GuardW_u, WF_spec (show KL 10 = some (memoSpec [mWorks]) from rfl), works_eq]
    exact hQ _
  simp (disch := as_aux_lemma => first | omega | simp only [hDs] <;> omega | simp [isCell]) [hRs, takeMarks, resA, resAll, resOne, Value.cells, hlen, show ¬ ((m : Int) < 1) by omega, show ¬ ((5 : Int) < m) by omega, GuardW_u, b3, Coast.part]
  refine w24 hC (hAt.mono kB.2) (by omega) fun A1 sl k1 acc1 => ?_
  obtain ⟨sp, sm, sc, hsl⟩ := acc1.isSlice
  obtain ⟨P, hP⟩ : ∃ P, P = C.P sl := ⟨_, rfl⟩
  have pl : P.l = C.gnd C.n := by rw [hP]; rfl
  have plen : P.l.length = C.n := by rw [pl, Coast.gnd_len]
  have psl : P.sl = sl := by rw [hP]; rfl
  have pok : POk P := by rw [hP]; exact coast_ok hC sl
  have hgr1 : groundOf A1 P.sl = some P.l := by rw [psl, pl]; exact AccS.ground acc1 (by rw [Coast.gnd_len]; omega)
  have e0 : C.w = P.w ∧ C.h = P.h ∧ (500 : Int) = P.s := by rw [hP]; exact ⟨rfl, rfl, rfl⟩
  rw [← hP, e0.1, e0.2.1, e0.2.2, hsl]
  obtain ⟨B1, hB1⟩ : ∃ B1, B1 = ((A1.push (.cells [.int .i64 P.w, .int .i64 P.h, .int .i64 P.s, P.sl] false)).push (.cells [.int .i64 P.slo, .int .i64 P.shi] false)).push (.cells [.int .i64 P.k0, .int .i64 P.k1, .int .i64 P.l0, .int .i64 P.l1, .int .i64 P.o0, .int .i64 P.o1] false) := ⟨_, rfl⟩
  have kB1 : Ext' A1 B1 := by rw [hB1]; exact ((Ext'.push _ _).trans (Ext'.push _ _)).trans (Ext'.push _ _)
  have b7 : B1.get A1.n = some (.cells [.int .i64 P.w, .int .i64 P.h, .int .i64 P.s, P.sl] false) := by rw [hB1]; exact push3_a
  have b8 : B1.get (A1.n + 1) = some (.cells [.int .i64 P.slo, .int .i64 P.shi] false) := by rw [hB1]; exact push3_b
  have b9 : B1.get (A1.n + 2) = some (.cells [.int .i64 P.k0, .int .i64 P.k1, .int .i64 P.l0, .int .i64 P.l1, .int .i64 P.o0, .int .i64 P.o1] false) := by rw [hB1]; exact push3_c
  have nB1 : B1.n = A1.n + 3 := by rw [hB1]; rfl
  have n1 := k1.1
  have hB1' := hB1
  rw [psl, hsl] at hB1'
  simp (disch := as_aux_lemma => first | omega | simp only [hDs] <;> omega | simp [isCell]) [hRs, takeMarks, resA, resAll, resOne, Value.cells, gridV, spn, modelV, J, set_push_eq, storeB_cells, setRange_all]
  rw [← hB1']
  rw [← hsl, ← psl]
  have hn : 0 < P.l.length ∧ P.l.length < 1000000 := by omega
  refine w30 (n := P.l.length) (m := m) (ls := ls) (by omega) hn (by omega) hl (rd_len (groundOf_mono hgr1 kB1.2)) (hr.mono fun x hx => ?_) fun A2 zv k2 acc2 => ?_
  · rw [kB1.2 x (by omega), k1.2 x (by omega), kB.2 x hx]
  obtain ⟨zs, hzs⟩ : ∃ zs, zs = stZ P.l.length ls m := ⟨_, rfl⟩
  have zok : ∀ Q : Par, Q.l.length = P.l.length → StartOk Q zs m := fun Q h => by rw [hzs, ← h]; exact stZ_ok (by omega) hl
  rw [← hzs] at acc2
  have hgr2 := groundOf_mono hgr1 (kB1.trans k2).2
  have c7 := k2.get b7
  have c8 := k2.get b8
  have c9 := k2.get b9
  have n2 := k2.1
  have rz2 : RdS A2 5 m (ints zs) zv := acc2.rd (by rw [ints_length, hzs, stZ_len]) (by decide)
  simp (disch := as_aux_lemma => first | omega | simp only [hDs] <;> omega | simp [isCell]) [hRs, takeMarks, resA, resAll, resOne, Value.cells, c7, c8, c9]
  refine w27 (P := P) (zs := zs) (n := m) pok.small hgr2 (by omega) rz2 (by omega) fun A3 bv k3 acc3 fin3 => ?_
  have hE := sprE_ok pok (zok P rfl) (show m ≤ 512 by omega)
  obtain ⟨zo, zf⟩ := fin3 hE
  have er : sprRes P zs m = bounds P zs m := by unfold sprRes; rw [if_pos hE]
  rw [er] at acc3
  rw [hE]
  have rb3 : RdS A3 8 P.l.length (ints (bounds P zs m)) bv := acc3.rd (by rw [ints_length, bounds_len]) (by decide)
  have lb := rb3.len
  have d7 := k3.get c7
  have d8 := k3.get c8
  have d9 := k3.get c9
  have n3 := k3.1
  have hgr3 := groundOf_mono hgr2 k3.2
  have lg := rd_len hgr3
  have rz3 := rz2.mono k3.2
  have lz := rz3.len
  simp (disch := as_aux_lemma => first | omega | simp only [hDs] <;> omega | simp [isCell]) [hRs, takeMarks, resA, resAll, resOne, Value.cells, d7, lb, lg, lz]
  have gl : ∀ c, c < P.l.length → -40000 ≤ P.glo c := fun c hc => by
    obtain ⟨p, hp, e1, _⟩ := flat2_lo (l := P.l) (i := c) hc
    rw [pl] at hp
    obtain ⟨j, _, rfl⟩ := List.mem_map.1 hp
    have := (hC.g j).1
    show -40000 ≤ gi (flat2 P.l) (c * 2)
    rw [e1]
    show -40000 ≤ C.gl j
    omega
  have hs1 := pok.sea
  have hpu : POk (P.at true) := zo.ph
  refine loop9a (P := P.at true) (A0 := A3) (zs := zs) (m := m) (b7 := A1.n) (b8 := A1.n + 1) (T0 := _) rfl hpu (by show -33000 ≤ P.shi; omega) gl (zok _ rfl) (by omega) (by omega) hgr3 d7 d8 rz3 (fun T4 A4 M k4 hM hMi t13 t14 t15 hT4 => ?_) m 0 _ A3 0 (by omega) (Ext'.refl _) (by omega) (fun j hj => by omega) ?_ ?_ ?_ (fun _ _ => rfl) ?_ ?_ ?_ ?_ ?_
  · have q7 := hT4 7 (by omega)
    have q8 := hT4 8 (by omega)
    have q9 := hT4 9 (by omega)
    have q10 := hT4 10 (by omega)
    have q11 := hT4 11 (by omega)
    have q2 := hT4 2 (by omega)
    simp at q7 q8 q9 q10 q11 q2
    have e7 := k4.get d7
    have e8 := k4.get d8
    have e9 := k4.get d9
    have n4 := k4.1
    have hgr4 := groundOf_mono hgr3 k4.2
    have rz4 := rz3.mono k4.2
    have rb4 := rb3.mono k4.2
    have zr := zok P rfl
    have hmi := hiF_max (zs := zs) (m := m) fun i hi => by have := zr.rise i hi; omega
    have lmi := loF_max (zs := zs) (m := m) fun i hi => by have := zr.rise i hi; omega
    have hhi : 0 ≤ hiF zs m ∧ hiF zs m ≤ 5000 := ⟨hmi.2.2, by obtain ⟨i, hi, e⟩ := hmi.2.1 (by omega); have := zr.rise i hi; omega⟩
    have hlo : 0 ≤ loF zs m ∧ loF zs m ≤ 5000 := ⟨lmi.2.2, by obtain ⟨i, hi, e⟩ := lmi.2.1 (by omega); have := zr.rise i hi; omega⟩
    simp (disch := as_aux_lemma => first | omega | simp only [hDs] <;> omega | simp [isCell]) [hRs, takeMarks, resA, resAll, resOne, Value.cells, q11, rb4.len]
    refine loop9b (P := P) (A0 := A4) (bs := bounds P zs m) (b7 := A1.n) (b8 := A1.n + 1) (M := M) (T0 := _) pok hM (by omega) hgr4 e7 e8 rb4 (fun c hc h1 h2 => most_rows zo zf hM.1 hMi c hc h1 h2) (fun T5 A5 k5 hT5 => ?_) P.l.length 0 _ A4 (by omega) (Ext'.refl _) (fun _ _ => rfl) ?_ ?_ ?_ ?_ ?_ ?_
    · have r7 := hT5 7 (by omega)
      have r8 := hT5 8 (by omega)
      have r9 := hT5 9 (by omega)
      have r10 := hT5 10 (by omega)
      have r11 := hT5 11 (by omega)
      have r14 := hT5 14 (by omega)
      have r15 := hT5 15 (by omega)
      have r2 := hT5 2 (by omega)
      simp [q7] at r7
      simp [q8] at r8
      simp [q9] at r9
      simp [q10] at r10
      simp [q11] at r11
      simp [t14] at r14
      simp [t15] at r15
      simp [q2] at r2
      have f7 := k5.get e7
      have f9 := k5.get e9
      have n5 := k5.1
      have hgr5 := groundOf_mono hgr4 k5.2
      have lg5 := rd_len hgr5
      have rz5 := rz4.mono k5.2
      have rb5 := rb4.mono k5.2
      obtain ⟨d, hdd⟩ : ∃ d, d = 1 + dp := ⟨_, rfl⟩
      have wd : wr .i64 (1 + dp) = d := by rw [hdd]; exact wrId (by omega) (by omega)
      obtain ⟨B5, hB5⟩ : ∃ B5, B5 = A5.push (.cells [.int .i64 P.w, .int .i64 P.h, .int .i64 P.s, .slice none 0 0] false) := ⟨_, rfl⟩
      have kB5 : Ext' A5 B5 := by rw [hB5]; exact Ext'.push _ _
      have nB5 : B5.n = A5.n + 1 := by rw [hB5]; rfl
      have f22 : B5.get A5.n = some (.cells [.int .i64 P.w, .int .i64 P.h, .int .i64 P.s, .slice none 0 0] false) := by rw [hB5]; exact get_push_new
      have f7' := f7
      rw [psl, hsl] at f7' lg5
      have nf7 := Hp.lt_of_get f7
      simp (disch := as_aux_lemma => first | omega | simp only [hDs] <;> omega | simp [isCell]) [hRs, takeMarks, resA, resAll, resOne, Value.cells, r7, r2, f7', storeB_cells, setRange_all, setRange, set_push_eq, toIntA_int, wrId (n := dp) (by omega) (by omega), wd, lg5]
      rw [← hB5]
      refine loop9c (A0 := B5) (b := A5.n) (w := P.w) (h := P.h) (s := P.s) (d := d) (n := P.l.length) (T0 := _) (by omega) (by omega) (by omega) (by omega) (fun T6 A6 s2 hn6 hold6 g6 acc6 hT6 => ?_) P.l.length 0 _ B5 (.slice none 0 0) (by omega) (Nat.le_refl _) (fun _ _ _ => rfl) f22 AccS.nil (fun _ _ => rfl) ?_ ?_ ?_ ?_
      · have u9 := hT6 9 (by omega)
        have u10 := hT6 10 (by omega)
        have u11 := hT6 11 (by omega)
        have u14 := hT6 14 (by omega)
        have u15 := hT6 15 (by omega)
        have u22 := hT6 22 (by omega)
        simp [r9] at u9
        simp [r10] at u10
        simp [r11] at u11
        simp [r14] at u14
        simp [r15] at u15
        simp at u22
        simp (disch := as_aux_lemma => first | omega | simp only [hDs] <;> omega | simp [isCell]) [hRs, takeMarks, resA, resAll, resOne, Value.cells]
        refine w25 (by omega) fun A7 k7 => ?_
        have old6 : ∀ x, x < A5.n → A6.get x = A5.get x := fun x hx => by rw [hold6 x (by omega) (by omega), kB5.2 x hx]
        have g9 := k7.get ((old6 _ (Hp.lt_of_get f9)).trans f9)
        have g22 := k7.get g6
        have n7 := k7.1
        have l9 := Hp.lt_of_get g9
        obtain ⟨A8, hA8⟩ : ∃ A8, A8 = A7.set (A1.n + 2) (some (.cells [.int .i64 1024, .int .i64 1024, .int .i64 P.l0, .int .i64 P.l1, .int .i64 P.o0, .int .i64 P.o1] false)) := ⟨_, rfl⟩
        have nf9 := Hp.lt_of_get f9
        simp (disch := as_aux_lemma => first | omega | simp only [hDs] <;> omega | simp [isCell]) [hRs, takeMarks, resA, resAll, resOne, Value.cells, u9, g9, spn, storeB_cells, setRange]
        rw [← hA8]
        have h9 : A8.get (A1.n + 2) = some (.cells [.int .i64 1024, .int .i64 1024, .int .i64 P.l0, .int .i64 P.l1, .int .i64 P.o0, .int .i64 P.o1] false) := by rw [hA8]; exact get_set_same g9
        have h22 : A8.get A5.n = some (.cells [.int .i64 P.w, .int .i64 P.h, .int .i64 P.s, s2] false) := by rw [hA8, get_set_ne l9 (by omega)]; exact g22
        have n8 : A8.n = A7.n := by rw [hA8]; rfl
        obtain ⟨tp, tm, tc, hs2⟩ := acc6.isSlice
        rw [hs2] at h22
        have n22 := Hp.lt_of_get h22
        simp (disch := as_aux_lemma => first | omega | simp only [hDs] <;> omega | simp [isCell]) [hRs, takeMarks, resA, resAll, resOne, Value.cells, u22, h22]
        refine w25 (Nat.le_refl _) fun A9 k9 => ?_
        have j9 := k9.get h9
        have n9 := k9.1
        have acc8 : AccS B5.n A8 2 (ints (flat2 (flatL P.l.length d))) s2 := by rw [hA8]; exact AccS.set_low (acc6.mono k7.2) (by omega) (by omega)
        have acc9 := acc8.mono k9.2
        obtain ⟨F, hF⟩ : ∃ F, F = flatP C s2 d := ⟨_, rfl⟩
        have fl : F.l = flatL P.l.length d := by rw [hF, plen]; rfl
        have flen : F.l.length = P.l.length := by rw [fl]; simp [flatL]
        have fok : POk F := by rw [hF]; exact flat_ok hC (by omega)
        have fe : F.w = P.w ∧ F.h = P.h ∧ F.s = P.s ∧ F.slo = 0 ∧ F.shi = 0 ∧ F.k0 = 1024 ∧ F.k1 = 1024 ∧ F.l0 = P.l0 ∧ F.l1 = P.l1 ∧ F.o0 = P.o0 ∧ F.o1 = P.o1 ∧ F.sl = s2 := by rw [hF, hP]; exact ⟨rfl, rfl, rfl, rfl, rfl, rfl, rfl, rfl, rfl, rfl, rfl, rfl⟩
        have hgr9 : groundOf A9 F.sl = some F.l := by rw [fe.2.2.2.2.2.2.2.2.2.2.2, fl]; exact AccS.ground acc9 (by simp [flatL]; omega)
        have acc7 : AccS B1.n A7 5 (ints zs) zv := acc2.mono fun x hx => by rw [k7.2 x (by omega), old6 x (by omega), k5.2 x (by omega), k4.2 x (by omega), k3.2 x (by omega)]
        have acc8' : AccS B1.n A8 5 (ints zs) zv := by rw [hA8]; exact AccS.set_low acc7 (by omega) (by omega)
        have rz9 : RdS A9 5 m (ints zs) zv := (acc8'.mono k9.2).rd (by rw [ints_length, hzs, stZ_len]) (by decide)
        have rb9 : RdS A9 8 P.l.length (ints (bounds P zs m)) bv := by
          have a7 : AccS A2.n A7 8 (ints (bounds P zs m)) bv := acc3.mono fun x hx => by rw [k7.2 x (by omega), old6 x (by omega), k5.2 x (by omega), k4.2 x (by omega)]
          have a8 : AccS A2.n A8 8 (ints (bounds P zs m)) bv := by rw [hA8]; exact AccS.set_low a7 (by omega) (by omega)
          exact (a8.mono k9.2).rd (by rw [ints_length, bounds_len]) (by decide)
        have nF9 := Hp.lt_of_get j9
        have zF := zok F flen
        have hEF := sprE_ok fok zF (show m ≤ 512 by omega)
        have erF : sprRes F zs m = bounds F zs m := by unfold sprRes; rw [if_pos hEF]
        simp (disch := as_aux_lemma => first | omega | simp only [hDs] <;> omega | simp [isCell]) [hRs, takeMarks, resA, resAll, resOne, Value.cells, u9, j9, u10, modelV]
        rw [← hs2]
        have W27 := fun V hQ => w27 (g := g) (A := A9) (V := V) (P := F) (zs := zs) (n := m) (sls := zv) fok.small hgr9 (by omega) rz9 (by omega) hQ
        rw [fe.1, fe.2.1, fe.2.2.1, fe.2.2.2.1, fe.2.2.2.2.1, fe.2.2.2.2.2.1, fe.2.2.2.2.2.2.1, fe.2.2.2.2.2.2.2.1, fe.2.2.2.2.2.2.2.2.1, fe.2.2.2.2.2.2.2.2.2.1, fe.2.2.2.2.2.2.2.2.2.2.1, fe.2.2.2.2.2.2.2.2.2.2.2, erF, hEF] at W27
        refine W27 _ fun A10 fv k10 acc10 fin10 => ?_
        obtain ⟨fo, ff⟩ := fin10 rfl
        have rf10 : RdS A10 8 P.l.length (ints (bounds F zs m)) fv := acc10.rd (by rw [ints_length, bounds_len, flen]) (by decide)
        have rb10 := rb9.mono k10.2
        have n10 := k10.1
        simp (disch := as_aux_lemma => first | omega | simp only [hDs] <;> omega | simp [isCell]) [hRs, takeMarks, resA, resAll, resOne, Value.cells, u11, rf10.len, rb10.len]
        refine loop9d (A0 := A10) (T0 := []) (fs := bounds F zs m) (n := P.l.length) (hi := hiF zs m) (lo := loF zs m) (sv := fv) hhi hlo (by omega) (by omega) rf10 (fun c hc => ?_) (fun T' A' => ?_) P.l.length 0 _ A10 (by omega) (Ext'.refl _) ?_ ?_ ?_ ?_ ?_
        · rw [hF] at fo ff ⊢
          exact flat_rows hC (by omega) (by omega) fo ff c (by omega)
        · simp (disch := as_aux_lemma => first | omega | simp only [hDs] <;> omega | simp [isCell]) [hRs, takeMarks, resA, resAll, resOne, Value.cells, WF_spec (show KL 10 = some (memoSpec [mWorks]) from rfl), works_eq]
          exact hQ _
        · simp [u14]
        · simp [u15]
        all_goals simp
      all_goals simp [ptrV]
    · simp [q7, ptrV]
    · simp [q8, ptrV]
    · simp [t13]
    all_goals simp
  all_goals simp [ptrV, hiF, loF]
end
end Go.Ab.Wave
namespace Go.Ab.Wave
open Go Go.Ab
def allK (k : IntKind) : Ty → Bool
  | .int k' => decide (k' = k)
  | .unit => true
  | .pair a b => allK k a && allK k b
  | _ => false
theorem kints_append {k : IntKind} (a b : List Int) : kints k (a ++ b) = kints k a ++ kints k b := List.map_append ..
theorem sh_k {rows : List (List Value)} {k : IntKind} : ∀ {t : Ty} {cs : List Value}, allK k t = true → Sh rows t cs → ∃ zs : List Int, cs = kints k zs ∧ ∀ z ∈ zs, k.min ≤ z ∧ z ≤ k.max
  | .int k', cs, h, ⟨n, hn, hw⟩ => by
    have e : k' = k := by simpa [allK] using h
    subst e
    exact ⟨[n], hn, fun z hz => by rw [List.mem_singleton] at hz; subst hz; exact (Lit.wf_int_iff k' z).1 hw⟩
  | .unit, cs, _, h => ⟨[], h, fun z hz => by cases hz⟩
  | .pair a b, cs, h, ⟨l, r, h1, h2, h3⟩ => by
    simp only [allK, Bool.and_eq_true] at h
    obtain ⟨za, ea, ba⟩ := sh_k h.1 h2
    obtain ⟨zb, eb, bb⟩ := sh_k h.2 h3
    refine ⟨za ++ zb, by rw [h1, ea, eb, kints_append], fun z hz => ?_⟩
    rcases List.mem_append.1 hz with h' | h'
    · exact ba z h'
    · exact bb z h'
  | .bool, _, h, _ => by simp [allK] at h
  | .str, _, h, _ => by simp [allK] at h
  | .slice _, _, h, _ => by simp [allK] at h
theorem kints_flatMap {k : IntKind} {f : Nat → List Int} {n : Nat} : (List.range n).flatMap (fun i => kints k (f i)) = kints k ((List.range n).flatMap f) := by
  simp only [kints, List.map_flatMap]
theorem sh_slice_k {rows : List (List Value)} {k : IntKind} {e : Ty} {cs : List Value} (he : allK k e = true) (h : Sh rows (.slice e) cs) :
    ∃ (n : Nat) (zs : List Int) (sl : Value), cs = [sl] ∧ RdS (roHp rows) e.size n (kints k zs) sl ∧ n ≤ maxLen ∧ ∀ z ∈ zs, k.min ≤ z ∧ z ≤ k.max := by
  rcases h with rfl | ⟨x, n, q, row, rfl, hn, hrow, hlen, hs, f, rfl, hf⟩
  · exact ⟨0, [], _, rfl, ⟨by simp [kints], .inl ⟨rfl, rfl⟩⟩, Nat.zero_le _, fun z hz => by cases hz⟩
  · obtain ⟨p, hp⟩ := Go.Deep.choose_lt (α := List Int) (p := fun i p => f i = kints k p ∧ ∀ z ∈ p, k.min ≤ z ∧ z ≤ k.max) fun i hi => sh_k he (hf i hi).1
    have e1 : (List.range n).flatMap f = kints k ((List.range n).flatMap p) := by
      rw [← kints_flatMap]
      exact Go.Deep.flatMap_congr_range fun i hi => (hp i hi).1
    refine ⟨n, (List.range n).flatMap p, _, rfl, ⟨by rw [← e1, hlen], .inr ⟨x, q, true, rfl, by rw [roHp_get, hrow, ← e1]; rfl⟩⟩, hn, fun z hz => ?_⟩
    obtain ⟨i, hi, hz⟩ := List.mem_flatMap.1 hz
    exact (hp i (by simpa using hi)).2 z hz
theorem gi_rng {l : List Int} {a b : Int} (h : ∀ z ∈ l, a ≤ z ∧ z ≤ b) (ha : a ≤ 0) (hb : 0 ≤ b) (i : Nat) : a ≤ gi l i ∧ gi l i ≤ b := by
  unfold gi
  rw [List.getD_eq_getElem?_getD]
  rcases Nat.lt_or_ge i l.length with hi | hi
  · rw [List.getElem?_eq_getElem hi]
    exact h _ (List.getElem_mem hi)
  · rw [List.getElem?_eq_none hi]
    exact ⟨ha, hb⟩
def tCoast : Ty := .pair (.int .u8) (.pair (.int .u8) (.pair (.slice (.int .i16)) (.pair (.slice (.int .u8)) (.pair (.int .i8) (.pair (.int .u8) (.pair (.rep 2 (.int .u16)) (.pair (.rep 2 (.int .u16)) (.pair (.rep 2 (.int .u8)) .unit))))))))
theorem sh_int {rows : List (List Value)} {k : IntKind} {cs : List Value} (h : Sh rows (.int k) cs) : ∃ n, cs = [.int k n] ∧ k.min ≤ n ∧ n ≤ k.max := by
  obtain ⟨n, h1, h2⟩ := h
  exact ⟨n, h1, (Lit.wf_int_iff k n).1 h2⟩
theorem sh_two {rows : List (List Value)} {k : IntKind} {cs : List Value} (h : Sh rows (.rep 2 (.int k)) cs) : ∃ a b, cs = [.int k a, .int k b] ∧ (k.min ≤ a ∧ a ≤ k.max) ∧ k.min ≤ b ∧ b ≤ k.max := by
  obtain ⟨_, _, rfl, h1, ⟨_, _, rfl, h2, rfl⟩⟩ := h
  obtain ⟨a, rfl, ha⟩ := sh_int h1
  obtain ⟨b, rfl, hb⟩ := sh_int h2
  exact ⟨a, b, rfl, ha, hb⟩
theorem sh_coast {rows : List (List Value)} {cs : List Value} (h : Sh rows tCoast cs) : ∃ C : Coast, mkV tCoast cs = .agg ⟨C.cells⟩ ∧ C.Ok ∧ C.At (roHp rows) := by
  obtain ⟨_, _, rfl, h1, ⟨_, _, rfl, h2, ⟨_, _, rfl, h3, ⟨_, _, rfl, h4, ⟨_, _, rfl, h5, ⟨_, _, rfl, h6, ⟨_, _, rfl, h7, ⟨_, _, rfl, h8, ⟨_, _, rfl, h9, rfl⟩⟩⟩⟩⟩⟩⟩⟩⟩ := h
  obtain ⟨a1, rfl, b1⟩ := sh_int h1
  obtain ⟨a2, rfl, b2⟩ := sh_int h2
  obtain ⟨n3, z3, s3, rfl, r3, m3, b3⟩ := sh_slice_k (k := .i16) rfl h3
  obtain ⟨n4, z4, s4, rfl, r4, m4, b4⟩ := sh_slice_k (k := .u8) rfl h4
  obtain ⟨a5, rfl, b5⟩ := sh_int h5
  obtain ⟨a6, rfl, b6⟩ := sh_int h6
  obtain ⟨a7, c7, rfl, b7, d7⟩ := sh_two h7
  obtain ⟨a8, c8, rfl, b8, d8⟩ := sh_two h8
  obtain ⟨a9, c9, rfl, b9, d9⟩ := sh_two h9
  have l3 : z3.length = n3 := by have := r3.1; rw [kints_length] at this; simpa [Ty.size] using this
  have l4 : z4.length = n4 := by have := r4.1; rw [kints_length] at this; simpa [Ty.size] using this
  have hm : maxLen ≤ 9223372036854775807 := by decide
  refine ⟨⟨a1, a2, s3, s4, a5, a6, a7, c7, a8, c8, a9, c9, z3, z4⟩, rfl, ⟨b1, b2, b5, b6, b7, d7, b8, d8, b9, d9, fun i => gi_rng b3 (by decide) (by decide) i, fun i => gi_rng b4 (by decide) (by decide) i, by show z3.length ≤ _; omega, by show z4.length ≤ _; omega⟩, ⟨?_, ?_⟩⟩
  · show RdS (roHp rows) 1 z3.length (kints .i16 z3) s3
    rw [l3]; exact r3
  · show RdS (roHp rows) 1 z4.length (kints .u8 z4) s4
    rw [l4]; exact r4
end Go.Ab.Wave
