/- the reference: pass. -/
import Derived.Test.YtmmpjfknmdlpoaaZ17
set_option linter.unusedSimpArgs false
set_option linter.unusedVariables false
set_option linter.unusedSectionVars false
namespace Go.Ab.Wave
open Go Go.Ab
theorem joinAt_even {a b : List Int} {i r : Nat} (h : r % 2 = 0) : joinAt a b (i * 8 + r) = min (gi a (i * 8 + r)) (gi b (i * 8 + r)) := by
  unfold joinAt; rw [if_pos (by omega)]
theorem joinAt_odd {a b : List Int} {i r : Nat} (h : r % 2 = 1) : joinAt a b (i * 8 + r) = max (gi a (i * 8 + r)) (gi b (i * 8 + r)) := by
  unfold joinAt; rw [if_neg (by omega)]
section
variable {g : Nat} {D : List Nat} {rd : Option Nat} {Q : Ex → St → Prop}
theorem loop19c {A0 : Hp} {a b : List Int} {n x y cy : Nat} {T0 : List Value} (hn : n < 1000000) (ha : a.length = n * 8) (hb : b.length = n * 8) (hxy : x ≠ y) (hg : g ≤ x)
    (hQ : ∀ T' A', Keep (fun z => z = x) A0 A' → A'.get x = some (.cells (ints (joinL a b (n * 8))) false) → (∀ i, (i < 16 ∨ (60 ≤ i ∧ i < 63)) → tget T' i = tget T0 i) → Q (.exit 4) ⟨T', D, A'⟩) :
    ∀ (k i : Nat) (T : List Value) (A : Hp), i + k = n → Keep (fun z => z = x) A0 A → A.get x = some (.cells (ints (mixL a b (n * 8) i)) false) → A.get y = some (.cells (ints b) false) → (∀ i, (i < 16 ∨ (60 ≤ i ∧ i < 63)) → tget T i = tget T0 i) →
      tget T0 14 = .slice (some ⟨x, 0, some 8⟩) n n → tget T 72 = .slice (some ⟨y, 0, some 8⟩) n cy → tget T 73 = .int .i64 n → tget T 74 = .int .i64 i → W AP KL g rd (.loop body19c) ⟨T, D, A⟩ Q := by
  intro k
  induction k with
  | zero =>
    intro i T A hi hk hx hy hT t14 t72 t73 t74
    have : i = n := by omega
    subst this
    rw [W_loop]
    simp (disch := as_aux_lemma => first | omega | simp only [hDs] <;> omega | simp [isCell]) [hRs, takeMarks, resA, resAll, resOne, Value.cells, body19c, t73, t74]
    refine hQ _ A hk (by rw [hx, mixL_all]) fun j hj => ?_
    simp only [tget_tset]
    rw [if_neg (by omega)]
    exact hT j hj
  | succ k ih =>
    intro i T A hi hk hx hy hT t14' t72 t73 t74
    have t14 := (hT 14 (by omega)).trans t14'
    have hin : i < n := by omega
    have hxn := Hp.lt_of_get hx
    have hyn := Hp.lt_of_get hy
    have hml : (mixL a b (n * 8) i).length = n * 8 := mixL_len
    have mg : ∀ r, r < 8 → gi (mixL a b (n * 8) i) (i * 8 + r) = gi a (i * 8 + r) := fun r hr => by rw [mixL_get (by omega), if_neg (by omega)]
    have m0 : gi (mixL a b (n * 8) i) (i * 8) = gi a (i * 8) := mg 0 (by omega)
    have m1 := mg 1 (by omega)
    have m2 := mg 2 (by omega)
    have m3 : gi (mixL a b (n * 8) i) (i * 8 + 2 + 1) = gi a (i * 8 + 3) := mg 3 (by omega)
    have m4 := mg 4 (by omega)
    have m5 : gi (mixL a b (n * 8) i) (i * 8 + 4 + 1) = gi a (i * 8 + 5) := mg 5 (by omega)
    have m6 := mg 6 (by omega)
    have m7 : gi (mixL a b (n * 8) i) (i * 8 + 6 + 1) = gi a (i * 8 + 7) := mg 7 (by omega)
    obtain ⟨B, hB⟩ : ∃ B, B = A.push (.cells [.int .i64 (gi b (i * 8)), .int .i64 (gi b (i * 8 + 1)), .int .i64 (gi b (i * 8 + 2)), .int .i64 (gi b (i * 8 + 3)), .int .i64 (gi b (i * 8 + 4)), .int .i64 (gi b (i * 8 + 5)), .int .i64 (gi b (i * 8 + 6)), .int .i64 (gi b (i * 8 + 7))] false) := ⟨_, rfl⟩
    have kB : Ext' A B := by rw [hB]; exact Ext'.push _ _
    have gB : B.get A.n = some (.cells [.int .i64 (gi b (i * 8)), .int .i64 (gi b (i * 8 + 1)), .int .i64 (gi b (i * 8 + 2)), .int .i64 (gi b (i * 8 + 3)), .int .i64 (gi b (i * 8 + 4)), .int .i64 (gi b (i * 8 + 5)), .int .i64 (gi b (i * 8 + 6)), .int .i64 (gi b (i * 8 + 7))] false) := by rw [hB]; exact get_push_new
    have hxB := kB.get hx
    rw [W_loop]
    simp (disch := as_aux_lemma => first | omega | simp only [hDs] <;> omega | simp [isCell]) [hRs, takeMarks, resA, resAll, resOne, Value.cells, body19c, t73, t74, t72, show (i : Int) < (n : Int) by omega, idxSA_ok, hy, ints_8, cellsFrom, storeB_cells, setRange_all]
    rw [← hB]
    simp (disch := as_aux_lemma => first | omega | simp only [hDs] <;> omega | simp [isCell]) [hRs, takeMarks, resA, resAll, resOne, Value.cells, t14, idxSA_ok, show (i : Int) < (n : Int) by omega, hxB, ints_two, gB, m0, m1]
    refine w47 (by omega) fun A1 k1 => ?_
    have gx1 := k1.get hxB
    have gy1 := k1.get gB
    simp (disch := as_aux_lemma => first | omega | simp only [hDs] <;> omega | simp [isCell]) [hRs, takeMarks, resA, resAll, resOne, Value.cells, gx1, gy1, ints_two, m2, m3]
    refine w47 (by omega) fun A2 k2 => ?_
    have gx2 := k2.get gx1
    have gy2 := k2.get gy1
    simp (disch := as_aux_lemma => first | omega | simp only [hDs] <;> omega | simp [isCell]) [hRs, takeMarks, resA, resAll, resOne, Value.cells, gx2, gy2, ints_two, m4, m5]
    refine w47 (by omega) fun A3 k3 => ?_
    have gx3 := k3.get gx2
    have gy3 := k3.get gy2
    simp (disch := as_aux_lemma => first | omega | simp only [hDs] <;> omega | simp [isCell]) [hRs, takeMarks, resA, resAll, resOne, Value.cells, gx3, gy3, ints_two, m6, m7]
    refine w47 (by have := k1.1; have := k2.1; have := k3.1; have := kB.1; omega) fun A4 k4 => ?_
    have gx4 := k4.get gx3
    have gy4 := k4.get gy3
    have hx4 := Hp.lt_of_get gx4
    have sm : ∀ b, (A4.set x b).get x = b := fun b => get_set_same gx4
    have c1 : (mixL a b (n * 8) i).length = n * 8 := hml
    simp (disch := first | omega | (simp only [List.length_set]; omega)) [spn, gx4, sm, set_set, storeB_two, t74, Value.cells]
    have e := mixL_next (a := a) (b := b) hin
    have e0 : joinAt a b (i * 8) = min (gi a (i * 8)) (gi b (i * 8)) := joinAt_even (r := 0) (by omega)
    have e1 : joinAt a b (i * 8 + 1) = max (gi a (i * 8 + 1)) (gi b (i * 8 + 1)) := joinAt_odd (by omega)
    have e2 : joinAt a b (i * 8 + 2) = min (gi a (i * 8 + 2)) (gi b (i * 8 + 2)) := joinAt_even (by omega)
    have e3 : joinAt a b (i * 8 + 3) = max (gi a (i * 8 + 3)) (gi b (i * 8 + 3)) := joinAt_odd (by omega)
    have e4 : joinAt a b (i * 8 + 4) = min (gi a (i * 8 + 4)) (gi b (i * 8 + 4)) := joinAt_even (by omega)
    have e5 : joinAt a b (i * 8 + 5) = max (gi a (i * 8 + 5)) (gi b (i * 8 + 5)) := joinAt_odd (by omega)
    have e6 : joinAt a b (i * 8 + 6) = min (gi a (i * 8 + 6)) (gi b (i * 8 + 6)) := joinAt_even (by omega)
    have e7 : joinAt a b (i * 8 + 7) = max (gi a (i * 8 + 7)) (gi b (i * 8 + 7)) := joinAt_odd (by omega)
    rw [e0, e1, e2, e3, e4, e5, e6, e7] at e
    have kA : Ext' A A4 := (((kB.trans k1).trans k2).trans k3).trans k4
    refine ih (i + 1) _ _ (by omega) (Keep.put' (hk.trans (kA.keep _)) hx4 rfl) ((sm _).trans ?_) ?_ ?_ t14' ?_ ?_ ?_
    · rw [← e]; rfl
    · rw [get_set_ne hx4 (fun h => hxy h.symm)]; exact kA.get hy
    · intro j hj
      simp only [tget_tset]
      repeat (rw [if_neg (by omega)])
      exact hT j hj
    · simp [t72]
    · simp [t73]
    · simp [wrId (n := (i : Int) + 1) (by omega) (by omega)]
end
end Go.Ab.Wave
namespace Go.Ab.Wave
open Go Go.Ab
def srcAt (ss : List Int) (i : Nat) : Src := ⟨gi ss (i * 5), gi ss (i * 5 + 1), gi ss (i * 5 + 2), gi ss (i * 5 + 3), gi ss (i * 5 + 4)⟩
def srcsE (P : Par) (ss : List Int) : Nat → Nat → Int
  | _, 0 => 0
  | i, k + 1 => if (srcAt ss i).err P.l.length = 0 then srcsE P ss (i + 1) k else (srcAt ss i).err P.l.length
theorem srcsE_zero {P : Par} {ss : List Int} : ∀ {k i : Nat}, srcsE P ss i k = 0 → ∀ j, i ≤ j → j < i + k → (srcAt ss j).err P.l.length = 0
  | 0, i, _, j, h1, h2 => by omega
  | k + 1, i, h, j, h1, h2 => by
    unfold srcsE at h
    split at h
    · rename_i h0
      by_cases e : j = i
      · rw [e]; exact h0
      · exact srcsE_zero h j (by omega) (by omega)
    · contradiction
noncomputable def srcB (P : Par) (S : Src) : List Int := bounds P (srcZ P S) (srcC P S).length
def SrcFin (P : Par) (S : Src) : Prop := SprOk P (srcZ P S) (srcC P S).length ∧ SprFin P (srcZ P S) (srcC P S).length
noncomputable def waveL (P : Par) (ss : List Int) : Nat → List Int
  | 0 => srcB P (srcAt ss 0)
  | i + 1 => joinL (waveL P ss i) (srcB P (srcAt ss (i + 1))) (P.l.length * 8)
theorem waveL_len {P : Par} {ss : List Int} : ∀ i, (waveL P ss i).length = P.l.length * 8
  | 0 => bounds_len
  | i + 1 => joinL_len
section
variable {g : Nat} {D : List Nat} {rd : Option Nat} {Q : Ex → St → Prop} {P : Par} {ss : List Int} {n : Nat} {sls : Value}
theorem loop19a {A0 : Hp} {b4 : Nat} {T0 : List Value} (hn : n < 1000000) (hgr : groundOf A0 P.sl = some P.l) (hg : g ≤ A0.n)
    (hb : A0.get b4 = some (.cells [.int .i64 P.w, .int .i64 P.h, .int .i64 P.s, P.sl] false)) (hr : RdS A0 5 n (ints ss) sls)
    (hQ : ∀ T' A', Ext' A0 A' → srcsE P ss 0 n = 0 → (∀ i, i < 10 → tget T' i = tget T0 i) → Q (.exit 0) ⟨T', D, A'⟩)
    (hE : ∀ T' A', Ext' A0 A' → srcsE P ss 0 n ≠ 0 → tget T' 8 = .slice none 0 0 → tget T' 9 = .int .i64 (srcsE P ss 0 n) → Q .ret ⟨T', D, A'⟩) :
    ∀ (k i : Nat) (T : List Value) (A : Hp), i + k = n → Ext' A0 A → srcsE P ss 0 n = srcsE P ss i k → (∀ i, i < 10 → tget T i = tget T0 i) → tget T0 4 = ptrV b4 → tget T 30 = sls → tget T 31 = .int .i64 n → tget T 32 = .int .i64 i → W AP KL g rd (.loop body19a) ⟨T, D, A⟩ Q := by
  intro k
  have hzl : ss.length = n * 5 := by have := hr.1; rwa [ints_length] at this
  induction k with
  | zero =>
    intro i T A hi hE0 he hT t4 t30 t31 t32
    have : i = n := by omega
    subst this
    rw [W_loop]
    simp (disch := as_aux_lemma => first | omega | simp only [hDs] <;> omega | simp [isCell]) [hRs, takeMarks, resA, resAll, resOne, Value.cells, body19a, t31, t32]
    refine hQ _ A hE0 (by rw [he]; rfl) fun j hj => ?_
    simp only [tget_tset]
    rw [if_neg (by omega)]
    exact hT j hj
  | succ k ih =>
    intro i T A hi hE0 he hT t4' t30 t31 t32
    have t4 := (hT 4 (by omega)).trans t4'
    obtain ⟨y, cap, ro, hsl, hy⟩ := hr.at (i := i) (by omega)
    have hy := hE0.get hy
    have hyn := Hp.lt_of_get hy
    have hbA := hE0.get hb
    have hbn := Hp.lt_of_get hbA
    have hgA := hE0.1
    obtain ⟨B, hB⟩ : ∃ B, B = A.push (.cells [.int .i64 (gi ss (i * 5)), .int .i64 (gi ss (i * 5 + 1)), .int .i64 (gi ss (i * 5 + 2)), .int .i64 (gi ss (i * 5 + 3)), .int .i64 (gi ss (i * 5 + 4))] false) := ⟨_, rfl⟩
    have kB : Ext' A B := by rw [hB]; exact Ext'.push _ _
    have gB : B.get A.n = some (.cells [.int .i64 (gi ss (i * 5)), .int .i64 (gi ss (i * 5 + 1)), .int .i64 (gi ss (i * 5 + 2)), .int .i64 (gi ss (i * 5 + 3)), .int .i64 (gi ss (i * 5 + 4))] false) := by rw [hB]; exact get_push_new
    have hbB := kB.get hbA
    have hgB := groundOf_mono hgr (hE0.trans kB).2
    have ee : (srcAt ss i).err P.l.length = srcErr P.l.length (gi ss (i * 5)) (gi ss (i * 5 + 1)) (gi ss (i * 5 + 2)) (gi ss (i * 5 + 3)) (gi ss (i * 5 + 4)) := rfl
    rw [W_loop]
    simp (disch := as_aux_lemma => first | omega | simp only [hDs] <;> omega | simp [isCell]) [hRs, takeMarks, resA, resAll, resOne, Value.cells, body19a, t30, t31, t32, hsl, show (i : Int) < (n : Int) by omega, idxSA_ok, hy, ints_5, cellsFrom, storeB_cells, setRange_all]
    rw [← hB]
    by_cases h0 : srcErr P.l.length (gi ss (i * 5)) (gi ss (i * 5 + 1)) (gi ss (i * 5 + 2)) (gi ss (i * 5 + 3)) (gi ss (i * 5 + 4)) = 0
    · simp (disch := as_aux_lemma => first | omega | simp only [hDs] <;> omega | simp [isCell]) [hRs, takeMarks, resA, resAll, resOne, Value.cells, t4, ptrV, hbB, gB, WF_spec (show KL 38 = some S38 from rfl), S38_eq hgB, h0, t32]
      refine ih (i + 1) _ B (by omega) (hE0.trans kB) ?_ ?_ t4' ?_ ?_ ?_
      · rw [he]; show (if (srcAt ss i).err P.l.length = 0 then _ else _) = _; rw [ee, if_pos h0]
      · intro j hj
        simp only [tget_tset]
        repeat (rw [if_neg (by omega)])
        exact hT j hj
      · simp [t30, hsl]
      · simp [t31]
      · simp [wrId (n := (i : Int) + 1) (by omega) (by omega)]
    · simp (disch := as_aux_lemma => first | omega | simp only [hDs] <;> omega | simp [isCell]) [hRs, takeMarks, resA, resAll, resOne, Value.cells, t4, ptrV, hbB, gB, WF_spec (show KL 38 = some S38 from rfl), S38_eq hgB, h0]
      have e : srcsE P ss 0 n = (srcAt ss i).err P.l.length := by rw [he]; unfold srcsE; rw [ee, if_neg h0]
      refine hE _ B (hE0.trans kB) (by rw [e, ee]; exact h0) ?_ ?_
      · simp
      · simp [e, ee]
theorem loop19b {A0 : Hp} {b4 b5 b6 x y cy : Nat} {ro : Bool} {T0 : List Value} (hn : n < 1000000) (h1n : 1 ≤ n) (hs : P.l.length ≤ 40) (hp : prepE P = 0) (he : ∀ j, j < n → (srcAt ss j).err P.l.length = 0)
    (hgr : groundOf A0 P.sl = some P.l) (hgx : ∀ x' o k n c, P.sl = .slice (some ⟨x', o, k⟩) n c → x' < x) (hg : g ≤ x) (hx0 : x < A0.n)
    (hb4 : A0.get b4 = some (.cells [.int .i64 P.w, .int .i64 P.h, .int .i64 P.s, P.sl] false)) (hb5 : A0.get b5 = some (.cells [.int .i64 P.slo, .int .i64 P.shi] false)) (hb6 : A0.get b6 = some (.cells [.int .i64 P.k0, .int .i64 P.k1, .int .i64 P.l0, .int .i64 P.l1, .int .i64 P.o0, .int .i64 P.o1] false))
    (h4 : b4 < x) (h5 : b5 < x) (h6 : b6 < x) (hyx : y < x) (hy : A0.get y = some (.cells (ints ss) ro)) (hzl : ss.length = n * 5)
    (q4 : tget T0 4 = ptrV b4) (q5 : tget T0 5 = ptrV b5) (q6 : tget T0 6 = ptrV b6) (q14 : tget T0 14 = .slice (some ⟨x, 0, some 8⟩) P.l.length P.l.length) (q60 : tget T0 60 = .slice (some ⟨y, 5, some 5⟩) (n - 1) cy) (q61 : tget T0 61 = .int .i64 ((n - 1 : Nat) : Int))
    (hQ : ∀ T' A', Keep (fun z => z = x) A0 A' → A'.get x = some (.cells (ints (waveL P ss (n - 1))) false) → (∀ j, j < n → SrcFin P (srcAt ss j)) → tget T' 14 = tget T0 14 → Q (.exit 2) ⟨T', D, A'⟩) :
    ∀ (k i : Nat) (T : List Value) (A : Hp), i + k = n - 1 → Keep (fun z => z = x) A0 A → A.get x = some (.cells (ints (waveL P ss i)) false) → (∀ j, j ≤ i → SrcFin P (srcAt ss j)) → (∀ i, (i = 4 ∨ i = 5 ∨ i = 6 ∨ i = 14 ∨ i = 60 ∨ i = 61) → tget T i = tget T0 i) → tget T 62 = .int .i64 i → W AP KL g rd (.loop body19b) ⟨T, D, A⟩ Q := by
  intro k
  induction k with
  | zero =>
    intro i T A hi hk hx hf hT t62
    have e : i = n - 1 := by omega
    have t61 := (hT 61 (by omega)).trans q61
    rw [W_loop]
    simp (disch := as_aux_lemma => first | omega | simp only [hDs] <;> omega | simp [isCell]) [hRs, takeMarks, resA, resAll, resOne, Value.cells, body19b, t61, t62, show ¬ (i : Int) < ((n - 1 : Nat) : Int) by omega]
    refine hQ _ A hk (by rw [← e]; exact hx) (fun j hj => hf j (by omega)) ?_
    simp [hT 14 (by omega)]
  | succ k ih =>
    intro i T A hi hk hx hf hT t62
    have t4 := (hT 4 (by omega)).trans q4
    have t5 := (hT 5 (by omega)).trans q5
    have t6 := (hT 6 (by omega)).trans q6
    have t14 := (hT 14 (by omega)).trans q14
    have t60 := (hT 60 (by omega)).trans q60
    have t61 := (hT 61 (by omega)).trans q61
    have ko : ∀ z b, z < x → A0.get z = some b → A.get z = some b := fun z b hz h => by rw [hk.2 z (Hp.lt_of_get h) (by omega)]; exact h
    have hyA := ko y _ hyx hy
    have c4 := ko b4 _ h4 hb4
    have c5 := ko b5 _ h5 hb5
    have c6 := ko b6 _ h6 hb6
    have hyn := Hp.lt_of_get hyA
    have hnA := hk.1
    have n4 := Hp.lt_of_get c4
    have n5 := Hp.lt_of_get c5
    have n6 := Hp.lt_of_get c6
    have hgA : groundOf A P.sl = some P.l := by
      rcases (groundOf_cases hgr).2 with ⟨e1, e2⟩ | ⟨x', cap, ro', e1, e2⟩
      · rw [e1, e2]; rfl
      · have hlt := hgx _ _ _ _ _ e1
        have e3 := ko x' _ hlt e2
        unfold groundOf at hgr ⊢
        rw [e1] at hgr ⊢
        simp only [e2] at hgr
        simp only [e3]
        exact hgr
    obtain ⟨S, hS⟩ : ∃ S, S = srcAt ss (i + 1) := ⟨_, rfl⟩
    have f0 : gi ss (5 + i * 5) = S.k := by rw [hS, show 5 + i * 5 = (i + 1) * 5 by omega]; rfl
    have f1 : gi ss (5 + i * 5 + 1) = S.c := by rw [hS, show 5 + i * 5 + 1 = (i + 1) * 5 + 1 by omega]; rfl
    have f2 : gi ss (5 + i * 5 + 2) = S.cl := by rw [hS, show 5 + i * 5 + 2 = (i + 1) * 5 + 2 by omega]; rfl
    have f3 : gi ss (5 + i * 5 + 3) = S.lo := by rw [hS, show 5 + i * 5 + 3 = (i + 1) * 5 + 3 by omega]; rfl
    have f4 : gi ss (5 + i * 5 + 4) = S.hi := by rw [hS, show 5 + i * 5 + 4 = (i + 1) * 5 + 4 by omega]; rfl
    obtain ⟨B, hB⟩ : ∃ B, B = A.push (.cells [.int .i64 S.k, .int .i64 S.c, .int .i64 S.cl, .int .i64 S.lo, .int .i64 S.hi] false) := ⟨_, rfl⟩
    have kB : Ext' A B := by rw [hB]; exact Ext'.push _ _
    have gB : B.get A.n = some (.cells [.int .i64 S.k, .int .i64 S.c, .int .i64 S.cl, .int .i64 S.lo, .int .i64 S.hi] false) := by rw [hB]; exact get_push_new
    have d4 := kB.get c4
    have d5 := kB.get c5
    have d6 := kB.get c6
    have hSe : S.err P.l.length = 0 := by rw [hS]; exact he _ (by omega)
    have hok : SprOk P (srcZ P S) (srcC P S).length := SprOk.mk' (prep_ok hp hs) (src_ok hSe)
    have hcl := srcC_len (P := P) (S := S)
    rw [W_loop]
    simp (disch := as_aux_lemma => first | omega | simp only [hDs] <;> omega | simp [isCell]) [hRs, takeMarks, resA, resAll, resOne, Value.cells, body19b, t61, t62, t60, show (i : Int) < ((n - 1 : Nat) : Int) by omega, idxSA_ok, hyA, ints_5, cellsFrom, storeB_cells, setRange_all, f0, f1, f2, f3, f4]
    rw [← hB]
    simp (disch := as_aux_lemma => first | omega | simp only [hDs] <;> omega | simp [isCell]) [hRs, takeMarks, resA, resAll, resOne, Value.cells, t4, t5, t6, ptrV, d4, d5, d6, gB]
    refine w39 (P := P) (S := S) (groundOf_mono hgA kB.2) (prep_chk hp) hSe fun A1 sv k1 hr1 => ?_
    simp (disch := as_aux_lemma => first | omega | simp only [hDs] <;> omega | simp [isCell]) [hRs, takeMarks, resA, resAll, resOne, Value.cells]
    have n1 := k1.1
    have nB := kB.1
    refine w45 hok (groundOf_mono (groundOf_mono hgA kB.2) k1.2) (by omega) (RdS.low hr1) (by omega) fun A2 z k2 hz g2 hF => ?_
    have kA : Ext' A A2 := (kB.trans k1).trans k2
    simp (disch := as_aux_lemma => first | omega | simp only [hDs] <;> omega | simp [isCell]) [hRs, takeMarks, resA, resAll, resOne, Value.cells]
    refine loop19c (A0 := A2) (a := waveL P ss i) (b := srcB P S) (n := P.l.length) (x := x) (y := z) (cy := P.l.length) (T0 := _) (by omega) (waveL_len i) bounds_len (by omega) hg (fun T' A' k3 h3 hT' => ?_) P.l.length 0 _ A2 (by omega) (Keep.refl _ _) (by rw [mixL_zero (waveL_len i)]; exact kA.get hx) g2 (fun _ _ => rfl) ?_ ?_ ?_ ?_
    · have r4 := hT' 4 (by omega)
      have r5 := hT' 5 (by omega)
      have r6 := hT' 6 (by omega)
      have r14 := hT' 14 (by omega)
      have r60 := hT' 60 (by omega)
      have r61 := hT' 61 (by omega)
      have r62 := hT' 62 (by omega)
      simp at r4 r5 r6 r14 r60 r61 r62
      simp (disch := as_aux_lemma => first | omega | simp only [hDs] <;> omega | simp [isCell]) [hRs, takeMarks, resA, resAll, resOne, Value.cells, r62, t62]
      refine ih (i + 1) _ A' (by omega) ((hk.trans (kA.keep _)).trans k3) ?_ ?_ ?_ ?_
      · rw [h3, hS]; rfl
      · intro j hj
        by_cases e : j = i + 1
        · rw [e, ← hS]; exact ⟨hok, hF⟩
        · exact hf j (by omega)
      · intro j hj
        have : j ≠ 62 := by omega
        have : j ≠ 123 := by omega
        simp only [tget_tset]
        repeat (rw [if_neg (by omega)])
        rcases hj with rfl | rfl | rfl | rfl | rfl | rfl
        · rw [r4, hT 4 (by omega)]
        · rw [r5, hT 5 (by omega)]
        · rw [r6, hT 6 (by omega)]
        · rw [r14, hT 14 (by omega)]
        · rw [r60, hT 60 (by omega)]
        · rw [r61, hT 61 (by omega)]
      · simp [wrId (n := (i : Int) + 1) (by omega) (by omega)]
    · simp [t14]
    all_goals simp
end
end Go.Ab.Wave
namespace Go.Ab.Wave
open Go Go.Ab
def waveE (P : Par) (ss : List Int) (n : Nat) : Int := if prepE P = 0 then (if 256 < n then 9 else srcsE P ss 0 n) else prepE P
noncomputable def waveRes (P : Par) (ss : List Int) (n : Nat) : List Int := if waveE P ss n = 0 then (if n = 0 then bounds P [] 0 else waveL P ss (n - 1)) else []
structure WaveFin (P : Par) (ss : List Int) (n : Nat) : Prop where
  prep : prepE P = 0
  none : n = 0 → SprOk P [] 0 ∧ SprFin P [] 0
  one : ∀ j, j < n → (srcAt ss j).err P.l.length = 0 ∧ SrcFin P (srcAt ss j)
section
variable {g : Nat} {A : Hp} {V : Value → Hp → Prop} {P : Par} {ss : List Int} {n : Nat} {sls : Value}
theorem w19 (hs : P.l.length ≤ 40) (hgr : groundOf A P.sl = some P.l) (hn : n < 1000000) (hr : RdS A 5 n (ints ss) sls) (hg : g ≤ A.n)
    (hQ : ∀ A' sv, Ext' A A' → AccS A.n A' 8 (ints (waveRes P ss n)) sv → (waveE P ss n = 0 → WaveFin P ss n) → V (.tuple ⟨[sv, .int .i64 (waveE P ss n)]⟩) A') :
    WF AP KL g 19 [gridV P.w P.h P.s P.sl, spn P.slo P.shi, modelV P.k0 P.k1 P.l0 P.l1 P.o0 P.o1, sls] A V := by
  have hzl : ss.length = n * 5 := by have := hr.1; rwa [ints_length] at this
  have hlenS := hr.len
  obtain ⟨B, hB⟩ : ∃ B, B = ((A.push (.cells [.int .i64 P.w, .int .i64 P.h, .int .i64 P.s, P.sl] false)).push (.cells [.int .i64 P.slo, .int .i64 P.shi] false)).push (.cells [.int .i64 P.k0, .int .i64 P.k1, .int .i64 P.l0, .int .i64 P.l1, .int .i64 P.o0, .int .i64 P.o1] false) := ⟨_, rfl⟩
  have kB : Ext' A B := by rw [hB]; exact ((Ext'.push _ _).trans (Ext'.push _ _)).trans (Ext'.push _ _)
  have b4 : B.get A.n = some (.cells [.int .i64 P.w, .int .i64 P.h, .int .i64 P.s, P.sl] false) := by rw [hB]; exact push3_a
  have b5 : B.get (A.n + 1) = some (.cells [.int .i64 P.slo, .int .i64 P.shi] false) := by rw [hB]; exact push3_b
  have b6 : B.get (A.n + 2) = some (.cells [.int .i64 P.k0, .int .i64 P.k1, .int .i64 P.l0, .int .i64 P.l1, .int .i64 P.o0, .int .i64 P.o1] false) := by rw [hB]; exact push3_c
  have nB : B.n = A.n + 3 := by rw [hB]; rfl
  have hgB := groundOf_mono hgr kB.2
  have bad : ∀ A' e, Ext' A A' → waveE P ss n = e → e ≠ 0 → V (.tuple ⟨[.slice none 0 0, .int .i64 e]⟩) A' := by
    intro A' e k h h0
    have := hQ A' (.slice none 0 0) k (.inl ⟨rfl, by unfold waveRes; rw [if_neg (by rw [h]; exact h0)]; rfl⟩) (fun h' => absurd (h ▸ h') h0)
    rw [h] at this
    exact this
  rw [WF_body rfl (show AP 19 = some F19 from rfl)]
  simp (disch := as_aux_lemma => first | omega | simp only [hDs] <;> omega | simp [isCell]) [hRs, takeMarks, resA, resAll, resOne, Value.cells, gridV, spn, modelV, J]
  rw [← hB]
  refine w44 hgB (by omega) fun A1 k1 => ?_
  have c4 := k1.get b4
  have c5 := k1.get b5
  have c6 := k1.get b6
  have n1 := k1.1
  by_cases h1 : prepE P = 0
  · by_cases h2 : 256 < n
    · simp (disch := as_aux_lemma => first | omega | simp only [hDs] <;> omega | simp [isCell]) [hRs, takeMarks, resA, resAll, resOne, Value.cells, h1, hlenS, show (256 : Int) < n by omega]
      exact bad _ 9 (kB.trans k1) (by unfold waveE; rw [if_pos h1, if_pos h2]) (by omega)
    · have he : waveE P ss n = srcsE P ss 0 n := by unfold waveE; rw [if_pos h1, if_neg h2]
      simp (disch := as_aux_lemma => first | omega | simp only [hDs] <;> omega | simp [isCell]) [hRs, takeMarks, resA, resAll, resOne, Value.cells, h1, hlenS, show ¬ (256 : Int) < n by omega]
      refine loop19a (A0 := A1) (b4 := A.n) hn (groundOf_mono hgB k1.2) (by omega) c4 (hr.mono (kB.trans k1).2) (fun T' A2 k2 h3 hT => ?_) (fun T' A2 k2 h3 h8 h9 => ?_) n 0 _ A1 (by omega) (Ext'.refl _) rfl (fun _ _ => rfl) ?_ ?_ ?_ ?_
      · have q4 := hT 4 (by omega)
        have q5 := hT 5 (by omega)
        have q6 := hT 6 (by omega)
        have q3 := hT 3 (by omega)
        simp at q4 q5 q6 q3
        have d4 := k2.get c4
        have d5 := k2.get c5
        have d6 := k2.get c6
        have n2 := k2.1
        have kA := (kB.trans k1).trans k2
        have hg2 := groundOf_mono hgr kA.2
        have h0 : waveE P ss n = 0 := by rw [he]; exact h3
        have hpos : 0 < P.l.length := (prep_ok h1 hs).pos
        by_cases hn0 : n = 0
        · subst hn0
          have hok : SprOk P [] 0 := SprOk.mk' (prep_ok h1 hs) ⟨rfl, fun i hi => by omega, fun i hi => by omega, fun i hi => by omega⟩
          simp (disch := as_aux_lemma => first | omega | simp only [hDs] <;> omega | simp [isCell]) [hRs, takeMarks, resA, resAll, resOne, Value.cells, q4, q5, q6, q3, d4, d5, d6, hlenS]
          refine w45 hok hg2 (by omega) ⟨rfl, .inl ⟨rfl, rfl⟩⟩ (by omega) fun A3 x k3 hx g3 hF => ?_
          simp (disch := as_aux_lemma => first | omega | simp only [hDs] <;> omega | simp [isCell]) [hRs, takeMarks, resA, resAll, resOne, Value.cells]
          have hlb : (ints (bounds P [] 0)).length = P.l.length * 8 := by rw [ints_length]; exact bounds_len
          have := hQ A3 (.slice (some ⟨x, 0, some 8⟩) P.l.length P.l.length) (kA.trans k3) (by
            unfold waveRes
            rw [if_pos h0, if_pos rfl]
            exact .inr ⟨x, P.l.length, rfl, g3, by have := kA.1; omega, hlb, hpos⟩) fun _ => ⟨h1, fun _ => ⟨hok, hF⟩, fun j hj => by omega⟩
          rw [h0] at this
          exact this
        · obtain ⟨y, cap, ro, hsl, hy0⟩ := hr.at (i := 0) (by omega)
          have hy := kA.get hy0
          have hyn := Hp.lt_of_get hy0
          have hz : ∀ j, j < n → (srcAt ss j).err P.l.length = 0 := fun j hj => srcsE_zero h3 j (by omega) (by omega)
          obtain ⟨S, hS⟩ : ∃ S, S = srcAt ss 0 := ⟨_, rfl⟩
          have f0 : gi ss 0 = S.k := by rw [hS]; rfl
          have f1 : gi ss 1 = S.c := by rw [hS]; rfl
          have f2 : gi ss 2 = S.cl := by rw [hS]; rfl
          have f3 : gi ss 3 = S.lo := by rw [hS]; rfl
          have f4 : gi ss 4 = S.hi := by rw [hS]; rfl
          have hSe : S.err P.l.length = 0 := by rw [hS]; exact hz _ (by omega)
          have hok : SprOk P (srcZ P S) (srcC P S).length := SprOk.mk' (prep_ok h1 hs) (src_ok hSe)
          have hcl := srcC_len (P := P) (S := S)
          have rs : ∀ T : List Value, resliceA 5 (.slice (some ⟨y, 0, some 5⟩) n cap) (boundA T 0 (some (.k (.int .i64 1)))) (fun m => boundA T m none) = some (.slice (some ⟨y, 5, some 5⟩) (n - 1) (Max.max n cap - 1)) := fun T => resliceA_from (T := T) (b := y) (o := 0) (n := n) (c := cap) (esz := 5) (i := 1) (by omega) (by omega)
          simp (disch := as_aux_lemma => first | omega | simp only [hDs] <;> omega | simp [isCell]) [hRs, takeMarks, resA, resAll, resOne, Value.cells, q4, q5, q6, q3, d4, d5, d6, hlenS, hn0, hsl, idxSA_ok, show (0 : Int) < n by omega, hy, ints_5, cellsFrom, f0, f1, f2, f3, f4]
          refine w39 (P := P) (S := S) hg2 (prep_chk h1) hSe fun A3 sv k3 hr3 => ?_
          simp (disch := as_aux_lemma => first | omega | simp only [hDs] <;> omega | simp [isCell]) [hRs, takeMarks, resA, resAll, resOne, Value.cells]
          have n3 := k3.1
          refine w45 hok (groundOf_mono hg2 k3.2) (by omega) (RdS.low hr3) (by omega) fun A4 x k4 hx g4 hF => ?_
          have kC : Ext' A2 A4 := k3.trans k4
          simp (disch := as_aux_lemma => first | omega | simp only [hDs] <;> omega | simp [isCell]) [hRs, takeMarks, resA, resAll, resOne, Value.cells, q3, hsl, rs]
          refine loop19b (A0 := A4) (b4 := A.n) (b5 := A.n + 1) (b6 := A.n + 2) (x := x) (y := y) (cy := Max.max n cap - 1) (ro := ro) (P := P) (ss := ss) (n := n) (T0 := _) hn (by omega) hs h1 hz (groundOf_mono hg2 kC.2) ?_ (by omega) (Hp.lt_of_get g4) (kC.get d4) (kC.get d5) (kC.get d6) (by omega) (by omega) (by omega) (by omega) (kC.get hy) hzl ?_ ?_ ?_ ?_ ?_ ?_ (fun T5 A5 k5 g5 hF5 r14 => ?_) (n - 1) 0 _ A4 (by omega) (Keep.refl _ _) ?_ ?_ (fun _ _ => rfl) ?_
          · intro x' o k nn c e
            rcases (groundOf_cases hgr).2 with ⟨e1, e2⟩ | ⟨x'', cap', ro', e1, e2⟩
            · rw [e1] at e; cases e
            · rw [e1] at e
              cases e
              have := Hp.lt_of_get e2
              omega
          · simp [q4, ptrV]
          · simp [q5, ptrV]
          · simp [q6, ptrV]
          · simp
          · simp
          · simp
          · have r14' := r14
            simp at r14'
            simp (disch := as_aux_lemma => first | omega | simp only [hDs] <;> omega | simp [isCell]) [hRs, takeMarks, resA, resAll, resOne, Value.cells, r14']
            have hlb : (ints (waveL P ss (n - 1))).length = P.l.length * 8 := by rw [ints_length]; exact waveL_len _
            have kD : Ext' A A5 := ⟨by have := kA.1; have := kC.1; have := k5.1; omega, fun z hz => by rw [k5.2 z (by have := kA.1; have := kC.1; omega) (by omega), kC.2 z (by have := kA.1; omega), kA.2 z hz]⟩
            have := hQ A5 (.slice (some ⟨x, 0, some 8⟩) P.l.length P.l.length) kD (by
              unfold waveRes
              rw [if_pos h0, if_neg hn0]
              exact .inr ⟨x, P.l.length, rfl, g5, by have := kA.1; omega, hlb, hpos⟩) fun _ => ⟨h1, fun h => absurd h hn0, fun j hj => ⟨hz j hj, hF5 j hj⟩⟩
            rw [h0] at this
            exact this
          · rw [g4, hS]; rfl
          · intro j hj
            have : j = 0 := by omega
            subst this
            rw [← hS]
            exact ⟨hok, hF⟩
          · simp
      · simp (disch := as_aux_lemma => first | omega | simp only [hDs] <;> omega | simp [isCell]) [hRs, takeMarks, resA, resAll, resOne, Value.cells, h8, h9]
        exact bad A2 _ ((kB.trans k1).trans k2) he h3
      all_goals simp [ptrV]
  · simp (disch := as_aux_lemma => first | omega | simp only [hDs] <;> omega | simp [isCell]) [hRs, takeMarks, resA, resAll, resOne, Value.cells, h1]
    exact bad A1 _ (kB.trans k1) (by unfold waveE; rw [if_neg h1]) h1
end
end Go.Ab.Wave
namespace Go.Ab.Wave
open Go Go.Ab
theorem rootI_unique {n r : Int} (h0 : 0 ≤ n) (hr : 0 ≤ r) (h1 : r * r ≤ n) (h2 : n < (r + 1) * (r + 1)) : rootI n = r := by
  obtain ⟨a0, a1, a2⟩ := rootI_spec h0
  by_cases c1 : rootI n < r
  · have := Int.mul_le_mul (show rootI n + 1 ≤ r by omega) (show rootI n + 1 ≤ r by omega) (by omega) (by omega)
    omega
  · by_cases c2 : r < rootI n
    · have := Int.mul_le_mul (show r + 1 ≤ rootI n by omega) (show r + 1 ≤ rootI n by omega) (by omega) (by omega)
      omega
    · omega
theorem rootUpI_eq {n : Int} (h0 : 0 ≤ n) : rootUpI n = if rootI n * rootI n < n then rootI n + 1 else rootI n := by
  obtain ⟨a0, a1, a2⟩ := rootI_spec h0
  unfold rootUpI
  by_cases h : n = 0
  · subst h
    rw [if_pos rfl]
    have : rootI 0 = 0 := by decide
    rw [this]
    decide
  · rw [if_neg h]
    by_cases hc : rootI n * rootI n < n
    · rw [if_pos hc, rootI_unique (n := n - 1) (r := rootI n) (by omega) a0 (by omega) (by omega)]
    · rw [if_neg hc]
      have hp : 1 ≤ rootI n := by
        by_cases hz : rootI n = 0
        · rw [hz] at a2; omega
        · omega
      have e := rootI_unique (n := n - 1) (r := rootI n - 1) (by omega) (by omega) (by
        have e1 : (rootI n - 1) * (rootI n - 1) = rootI n * rootI n - 2 * rootI n + 1 := by
          rw [Int.sub_mul, Int.mul_sub]; omega
        rw [e1]; omega) (by rw [show rootI n - 1 + 1 = rootI n by omega]; omega)
      rw [e]; omega
section
variable {g : Nat} {A : Hp} {V : Value → Hp → Prop}
theorem loop78 {n : Int} {D : List Nat} {rd : Option Nat} {Q : Ex → St → Prop} (hn0 : 0 ≤ n) (hQ : ∀ T', tget T' 3 = .int .i64 (rootI n) → Q (.exit 0) ⟨T', D, A⟩) :
    ∀ (k : Nat) (T : List Value) (lo hi : Int), hi - lo ≤ k → 0 ≤ lo → lo < hi → hi ≤ 2147483648 → lo * lo ≤ n → n < hi * hi → tget T 0 = .int .i64 n → tget T 3 = .int .i64 lo → tget T 4 = .int .i64 hi → W AP KL g rd (.loop body78) ⟨T, D, A⟩ Q := by
  intro k
  induction k with
  | zero => intro T lo hi h h0 h1; omega
  | succ k ih =>
    intro T lo hi h h0 h1 h2 h3 h4 t0 t3 t4
    rw [W_loop]
    by_cases hc : 1 < hi - lo
    · have hm : lo < (lo + hi).tdiv 2 ∧ (lo + hi).tdiv 2 < hi := by rw [Int.tdiv_eq_ediv_of_nonneg (by omega)]; omega
      obtain ⟨m, hmm⟩ : ∃ m, m = (lo + hi).tdiv 2 := ⟨_, rfl⟩
      rw [← hmm] at hm
      have hsq := sq_le (r := m) (by omega) (by omega)
      by_cases hle : m * m ≤ n
      · simp (disch := as_aux_lemma => first | omega | simp only [hDs] <;> omega | simp [isCell]) [hRs, takeMarks, resA, resAll, resOne, Value.cells, body78, t0, t3, t4, wrId (n := hi - lo) (by omega) (by omega), hc, wrId (n := lo + hi) (by omega) (by omega), binA_quo, ← hmm, wrId (n := m) (by omega) (by omega), wrId (n := m * m) (by omega) (by omega), hle]
        exact ih _ m hi (by omega) (by omega) (by omega) h2 hle h4 (by simp [t0]) (by simp) (by simp [t4])
      · simp (disch := as_aux_lemma => first | omega | simp only [hDs] <;> omega | simp [isCell]) [hRs, takeMarks, resA, resAll, resOne, Value.cells, body78, t0, t3, t4, wrId (n := hi - lo) (by omega) (by omega), hc, wrId (n := lo + hi) (by omega) (by omega), binA_quo, ← hmm, wrId (n := m) (by omega) (by omega), wrId (n := m * m) (by omega) (by omega), hle]
        exact ih _ lo m (by omega) (by omega) (by omega) (by omega) h3 (by omega) (by simp [t0]) (by simp [t3]) (by simp)
    · simp (disch := as_aux_lemma => first | omega | simp only [hDs] <;> omega | simp [isCell]) [hRs, takeMarks, resA, resAll, resOne, Value.cells, body78, t0, t3, t4, wrId (n := hi - lo) (by omega) (by omega), hc]
      have e : hi = lo + 1 := by omega
      subst e
      exact hQ _ (by simp [t3, rootI_unique hn0 h0 h3 h4])
theorem w78 {n : Int} (hn0 : 0 ≤ n) (hn : n < 2305843009213693952) (hQ : V (.int .i64 (rootI n)) A) : WF AP KL g 78 [.int .i64 n] A V := by
  rw [WF_body rfl (show AP 78 = some F78 from rfl)]
  simp (disch := as_aux_lemma => first | omega | simp only [hDs] <;> omega | simp [isCell]) [hRs, takeMarks, resA, resAll, resOne, Value.cells]
  refine loop78 hn0 (fun T' t3 => ?_) 2147483648 _ 0 2147483648 (by omega) (by omega) (by omega) (by omega) (by omega) (by omega) (by simp) (by simp) (by simp)
  simp (disch := as_aux_lemma => first | omega | simp only [hDs] <;> omega | simp [isCell]) [hRs, takeMarks, resA, resAll, resOne, Value.cells, t3]
  exact hQ
theorem rootI_le {n : Int} (hn0 : 0 ≤ n) (hn : n < 2305843009213693952) : 0 ≤ rootI n ∧ rootI n ≤ 2147483648 := by
  have hr := rootI_spec hn0
  refine ⟨hr.1, ?_⟩
  by_cases h' : 2147483648 < rootI n
  · have := Int.mul_le_mul (show (2147483649 : Int) ≤ rootI n by omega) (show (2147483649 : Int) ≤ rootI n by omega) (by omega) (by omega)
    omega
  · omega
theorem w80 {n : Int} (hn0 : 0 ≤ n) (hn : n < 2305843009213693952) (hQ : V (.int .i64 (rootUpI n)) A) : WF AP KL g 80 [.int .i64 n] A V := by
  have hr := rootI_spec hn0
  have hb := rootI_le hn0 hn
  have he := rootUpI_eq hn0
  have hp := Int.mul_nonneg hr.1 hr.1
  rw [WF_body rfl (show AP 80 = some F80 from rfl)]
  simp (disch := as_aux_lemma => first | omega | simp only [hDs] <;> omega | simp [isCell]) [hRs, takeMarks, resA, resAll, resOne, Value.cells]
  refine w78 hn0 hn ?_
  by_cases hc : rootI n * rootI n < n
  · simp (disch := as_aux_lemma => first | omega | simp only [hDs] <;> omega | simp [isCell]) [hRs, takeMarks, resA, resAll, resOne, Value.cells, wrId (n := rootI n * rootI n) (by omega) (by omega), hc, wrId (n := rootI n + 1) (by omega) (by omega)]
    rw [he, if_pos hc] at hQ
    exact hQ
  · simp (disch := as_aux_lemma => first | omega | simp only [hDs] <;> omega | simp [isCell]) [hRs, takeMarks, resA, resAll, resOne, Value.cells, wrId (n := rootI n * rootI n) (by omega) (by omega), hc]
    rw [he, if_neg hc] at hQ
    exact hQ
theorem w81 {a b : Int} (ha : 0 ≤ a) (ha' : a < 4000000000000000000) (hb : 0 < b) (hb' : b < 4000000000000000000) (hQ : V (.int .i64 (upI a b)) A) : WF AP KL g 81 [.int .i64 a, .int .i64 b] A V := by
  have hq : 0 ≤ (a + b - 1).tdiv b ∧ (a + b - 1).tdiv b ≤ a + b - 1 := ⟨Int.tdiv_nonneg (by omega) (by omega), by
    rw [Int.tdiv_eq_ediv_of_nonneg (by omega)]
    exact Int.ediv_le_self _ (by omega)⟩
  rw [WF_body rfl (show AP 81 = some F81 from rfl)]
  simp (disch := as_aux_lemma => first | omega | simp only [hDs] <;> omega | simp [isCell]) [hRs, takeMarks, resA, resAll, resOne, Value.cells, wrId (n := a + b) (by omega) (by omega), wrId (n := a + b - 1) (by omega) (by omega), binA_quo (show b ≠ 0 by omega), wrId (n := (a + b - 1).tdiv b) (by omega) (by omega)]
  exact hQ
theorem wRt {b : Bool} {d : Int} (h1 : 1 ≤ d) (h2 : d ≤ 1220000) (hQ : V (.int .i64 (fourthE b d)) A) : WF AP KL g (if b then 70 else 72) [.int .i64 d] A V := by
  have hb := (fourth_bounds (b := b) h1 h2)
  cases b
  · show WF AP KL g 72 _ A V
    rw [WF_body rfl (show AP 72 = some F72 from rfl)]
    simp (disch := as_aux_lemma => first | omega | simp only [hDs] <;> omega | simp [isCell]) [hRs, takeMarks, resA, resAll, resOne, Value.cells, shl40 h1 h2]
    refine w78 (by omega) (by omega) ?_
    simp (disch := as_aux_lemma => first | omega | simp only [hDs] <;> omega | simp [isCell]) [hRs, takeMarks, resA, resAll, resOne, Value.cells]
    have hb1 : 1048576 ≤ rootI (d * 1099511627776) ∧ rootI (d * 1099511627776) ≤ 1158676480 := hb.1
    refine w78 (by omega) (by omega) ?_
    simp (disch := as_aux_lemma => first | omega | simp only [hDs] <;> omega | simp [isCell]) [hRs, takeMarks, resA, resAll, resOne, Value.cells]
    exact hQ
  · show WF AP KL g 70 _ A V
    rw [WF_body rfl (show AP 70 = some F70 from rfl)]
    simp (disch := as_aux_lemma => first | omega | simp only [hDs] <;> omega | simp [isCell]) [hRs, takeMarks, resA, resAll, resOne, Value.cells, shl40 h1 h2]
    refine w80 (by omega) (by omega) ?_
    simp (disch := as_aux_lemma => first | omega | simp only [hDs] <;> omega | simp [isCell]) [hRs, takeMarks, resA, resAll, resOne, Value.cells]
    have hb1 : 1048576 ≤ rootUpI (d * 1099511627776) ∧ rootUpI (d * 1099511627776) ≤ 1158676480 := hb.1
    refine w80 (by omega) (by omega) ?_
    simp (disch := as_aux_lemma => first | omega | simp only [hDs] <;> omega | simp [isCell]) [hRs, takeMarks, resA, resAll, resOne, Value.cells]
    exact hQ
def crossD (b : Bool) (s d : Int) : Int := rt (!b) (dv (!b) (s * s * 10000000000) (981 * d))
theorem w92 {s d : Int} (hs : 1 ≤ s ∧ s ≤ 10000) (hd : 1 ≤ d ∧ d ≤ 1220000) (hQ : V (.tuple ⟨[.int .i64 (crossD true s d), .int .i64 (crossD false s d)]⟩) A) : WF AP KL g 92 [.int .i64 s, .int .i64 d] A V := by
  have m1 : 0 ≤ s * s ∧ s * s ≤ 100000000 := ⟨Int.mul_nonneg (by omega) (by omega), Int.mul_le_mul hs.2 hs.2 (by omega) (by omega)⟩
  have q1 : 0 ≤ (s * s * 10000000000).tdiv (981 * d) ∧ (s * s * 10000000000).tdiv (981 * d) ≤ 1024000000000000 := by
    rw [Int.tdiv_eq_ediv_of_nonneg (by omega)]
    refine ⟨Int.ediv_nonneg (by omega) (by omega), Int.ediv_le_of_le_mul (by omega) ?_⟩
    omega
  have q2 : 0 ≤ upI (s * s * 10000000000) (981 * d) ∧ upI (s * s * 10000000000) (981 * d) ≤ 1024000000000000 := by
    unfold upI
    rw [Int.tdiv_eq_ediv_of_nonneg (by omega)]
    refine ⟨Int.ediv_nonneg (by omega) (by omega), Int.ediv_le_of_le_mul (by omega) ?_⟩
    omega
  rw [WF_body rfl (show AP 92 = some F92 from rfl)]
  simp (disch := as_aux_lemma => first | omega | simp only [hDs] <;> omega | simp [isCell]) [hRs, takeMarks, resA, resAll, resOne, Value.cells, wrId (n := s * s) (by omega) (by omega), wrId (n := s * s * 10000000000) (by omega) (by omega), wrId (n := 981 * d) (by omega) (by omega), binA_quo (show 981 * d ≠ 0 by omega), wrId (n := (s * s * 10000000000).tdiv (981 * d)) (by omega) (by omega)]
  refine w78 q1.1 (by omega) ?_
  simp (disch := as_aux_lemma => first | omega | simp only [hDs] <;> omega | simp [isCell]) [hRs, takeMarks, resA, resAll, resOne, Value.cells, wrId (n := 981 * d) (by omega) (by omega)]
  refine w81 (by omega) (by omega) (by omega) (by omega) ?_
  simp (disch := as_aux_lemma => first | omega | simp only [hDs] <;> omega | simp [isCell]) [hRs, takeMarks, resA, resAll, resOne, Value.cells]
  refine w80 q2.1 (by omega) ?_
  simp (disch := as_aux_lemma => first | omega | simp only [hDs] <;> omega | simp [isCell]) [hRs, takeMarks, resA, resAll, resOne, Value.cells]
  exact hQ
end
end Go.Ab.Wave
namespace Go.Ab.Wave
open Go Go.Ab
def refNb (w h c : Int) : List Int :=
  (if c.tmod w + 1 < w then [c + 1] else []) ++ (if c.tdiv w + 1 < h then [c + w] else []) ++ (if 0 < c.tmod w then [c - 1] else []) ++ (if 0 < c.tdiv w then [c - w] else [])
theorem cell_xy {w h c : Int} (hw : 1 ≤ w) (hc : 0 ≤ c ∧ c < w * h) : 0 ≤ c.tmod w ∧ c.tmod w < w ∧ 0 ≤ c.tdiv w ∧ c.tdiv w < h ∧ c = c.tdiv w * w + c.tmod w := by
  have e : w * c.tdiv w + c.tmod w = c := Int.mul_tdiv_add_tmod c w
  have h1 : 0 ≤ c.tmod w := Int.tmod_nonneg _ hc.1
  have h2 : c.tmod w < w := Int.tmod_lt_of_pos _ (by omega)
  have h3 : 0 ≤ c.tdiv w := Int.tdiv_nonneg hc.1 (by omega)
  rw [Int.mul_comm] at e
  refine ⟨h1, h2, h3, ?_, e.symm⟩
  by_cases hh : c.tdiv w < h
  · exact hh
  · have := Int.mul_le_mul_of_nonneg_right (show h ≤ c.tdiv w by omega) (show 0 ≤ w by omega)
    rw [Int.mul_comm w h] at hc
    omega
theorem cell_uniq {w x y x' y' : Int} (hx : 0 ≤ x ∧ x < w) (hx' : 0 ≤ x' ∧ x' < w) (h : y * w + x = y' * w + x') : x = x' ∧ y = y' := by
  by_cases h1 : y < y'
  · have := Int.mul_le_mul_of_nonneg_right (show y + 1 ≤ y' by omega) (show 0 ≤ w by omega)
    rw [Int.add_mul] at this
    omega
  · by_cases h2 : y' < y
    · have := Int.mul_le_mul_of_nonneg_right (show y' + 1 ≤ y by omega) (show 0 ≤ w by omega)
      rw [Int.add_mul] at this
      omega
    · have : y = y' := by omega
      subst this
      omega
theorem refNb_mem {w h c d : Int} (hw : 1 ≤ w) (hc : 0 ≤ c ∧ c < w * h) : d ∈ refNb w h c ↔ d ∈ nbrs w h c := by
  obtain ⟨p1, p2, p3, p4, p5⟩ := cell_xy hw hc
  unfold refNb nbrs nbD dirs
  simp only [List.flatMap_cons, List.flatMap_nil, List.append_nil, List.mem_append, List.append_assoc]
  generalize c.tmod w = x at *
  generalize c.tdiv w = y at *
  have e1 : (y + 1) * w = y * w + w := by rw [Int.add_mul, Int.one_mul]
  have e2 : (y + -1) * w = y * w - w := by rw [Int.add_mul, Int.neg_mul, Int.one_mul]; omega
  have f1 : ((0 ≤ x + 1 ∧ x + 1 ≤ w - 1) ∧ 0 ≤ y + 0 ∧ y + 0 ≤ h - 1) ↔ x + 1 < w := by omega
  have f2 : ((0 ≤ x + 0 ∧ x + 0 ≤ w - 1) ∧ 0 ≤ y + 1 ∧ y + 1 ≤ h - 1) ↔ y + 1 < h := by omega
  have f3 : ((0 ≤ x + -1 ∧ x + -1 ≤ w - 1) ∧ 0 ≤ y + 0 ∧ y + 0 ≤ h - 1) ↔ 0 < x := by omega
  have f4 : ((0 ≤ x + 0 ∧ x + 0 ≤ w - 1) ∧ 0 ≤ y + -1 ∧ y + -1 ≤ h - 1) ↔ 0 < y := by omega
  simp only [f1, f2, f3, f4]
  rw [show (y + 0) * w + (x + 1) = c + 1 by rw [Int.add_zero]; omega, show (y + 1) * w + (x + 0) = c + w by omega, show (y + 0) * w + (x + -1) = c - 1 by rw [Int.add_zero]; omega, show (y + -1) * w + (x + 0) = c - w by omega]
theorem nbrs_symm {w h c d : Int} (hw : 1 ≤ w) (hc : 0 ≤ c ∧ c < w * h) (hd : d ∈ nbrs w h c) : (0 ≤ d ∧ d < w * h) ∧ c ∈ nbrs w h d := by
  obtain ⟨p1, p2, p3, p4, p5⟩ := cell_xy hw hc
  rw [← refNb_mem hw hc] at hd
  unfold refNb at hd
  generalize c.tmod w = x at *
  generalize c.tdiv w = y at *
  have e1 : (y + 1) * w = y * w + w := by rw [Int.add_mul, Int.one_mul]
  have e2 : (y - 1) * w = y * w - w := by rw [Int.sub_mul, Int.one_mul]
  have key : ∀ x' y' : Int, 0 ≤ x' → x' < w → 0 ≤ y' → y' < h → d = y' * w + x' → (0 ≤ d ∧ d < w * h) ∧ d.tmod w = x' ∧ d.tdiv w = y' := by
    intro x' y' h1 h2 h3 h4 e
    have m1 := Int.mul_nonneg h3 (show 0 ≤ w by omega)
    have m2 := Int.mul_le_mul_of_nonneg_right (show y' ≤ h - 1 by omega) (show 0 ≤ w by omega)
    rw [Int.sub_mul, Int.one_mul] at m2
    have hb : 0 ≤ d ∧ d < w * h := by rw [Int.mul_comm w h]; omega
    obtain ⟨q1, q2, q3, q4, q5⟩ := cell_xy hw hb
    have := cell_uniq (x := d.tmod w) (y := d.tdiv w) (x' := x') (y' := y') ⟨q1, q2⟩ ⟨h1, h2⟩ (by rw [← q5]; exact e)
    exact ⟨hb, this.1, this.2⟩
  simp only [List.mem_append] at hd
  have fin : ∀ x' y' : Int, 0 ≤ x' → x' < w → 0 ≤ y' → y' < h → d = y' * w + x' → (x' + 1 < w ∧ c = d + 1 ∨ y' + 1 < h ∧ c = d + w ∨ 0 < x' ∧ c = d - 1 ∨ 0 < y' ∧ c = d - w) → (0 ≤ d ∧ d < w * h) ∧ c ∈ nbrs w h d := by
    intro x' y' h1 h2 h3 h4 e hh
    obtain ⟨k1, k2, k3⟩ := key x' y' h1 h2 h3 h4 e
    refine ⟨k1, (refNb_mem hw k1).1 ?_⟩
    unfold refNb
    rw [k2, k3]
    simp only [List.mem_append]
    rcases hh with ⟨a, b⟩ | ⟨a, b⟩ | ⟨a, b⟩ | ⟨a, b⟩
    · rw [if_pos a]; exact .inl (.inl (.inl (by simp [b])))
    · rw [if_pos a]; exact .inl (.inl (.inr (by simp [b])))
    · rw [if_pos a]; exact .inl (.inr (by simp [b]))
    · rw [if_pos a]; exact .inr (by simp [b])
  rcases hd with ((hd | hd) | hd) | hd
  · split at hd
    · rw [List.mem_singleton] at hd
      exact fin (x + 1) y (by omega) (by omega) p3 p4 (by omega) (.inr (.inr (.inl ⟨by omega, by omega⟩)))
    · cases hd
  · split at hd
    · rw [List.mem_singleton] at hd
      exact fin x (y + 1) p1 p2 (by omega) (by omega) (by omega) (.inr (.inr (.inr ⟨by omega, by omega⟩)))
    · cases hd
  · split at hd
    · rw [List.mem_singleton] at hd
      exact fin (x - 1) y (by omega) (by omega) p3 p4 (by omega) (.inl ⟨by omega, by omega⟩)
    · cases hd
  · split at hd
    · rw [List.mem_singleton] at hd
      exact fin x (y - 1) p1 p2 (by omega) (by omega) (by omega) (.inr (.inl ⟨by omega, by omega⟩))
    · cases hd
def refN (P : Par) (c : Nat) : List Nat := (refNb P.w P.h c).map Int.toNat
theorem refN_mem {P : Par} (h : POk P) {a b : Nat} (hb : b < P.l.length) : a ∈ refN P b ↔ (a < P.l.length ∧ b ∈ nbP P a) := by
  obtain ⟨hw, hh, _, hl⟩ := check_parts h.chk
  have hcb : 0 ≤ (b : Int) ∧ (b : Int) < P.w * P.h := ⟨by omega, by rw [← hl]; omega⟩
  constructor
  · intro ha
    obtain ⟨z, hz, hza⟩ := List.mem_map.1 ha
    rw [refNb_mem hw.1 hcb] at hz
    obtain ⟨k1, k2⟩ := nbrs_symm hw.1 hcb hz
    have e : z = (a : Int) := by omega
    rw [e] at k1 k2
    exact ⟨by rw [← hl] at k1; omega, List.mem_map.2 ⟨_, k2, by simp⟩⟩
  · rintro ⟨ha, hb'⟩
    have hca : 0 ≤ (a : Int) ∧ (a : Int) < P.w * P.h := ⟨by omega, by rw [← hl]; omega⟩
    obtain ⟨z, hz, hzb⟩ := List.mem_map.1 hb'
    obtain ⟨k1, k2⟩ := nbrs_symm hw.1 hca hz
    have e : z = (b : Int) := by omega
    rw [e] at k2
    exact List.mem_map.2 ⟨_, (refNb_mem hw.1 hcb).2 k2, by simp⟩
theorem refN_len {P : Par} {c : Nat} : (refN P c).length ≤ 4 := by
  unfold refN refNb
  simp only [List.length_map, List.length_append]
  split <;> split <;> split <;> split <;> simp
end Go.Ab.Wave
namespace Go.Ab.Wave
open Go Go.Ab
def rowS2 (r n : Nat) : Value := .slice (some ⟨r, 0, some 2⟩) n n
def wkCells (P : Par) (rd : Nat) (r : Nat → Nat) : List Value :=
  [.int .i64 P.w, .int .i64 P.h, .int .i64 P.s, P.sl, .int .i64 P.slo, .int .i64 P.shi, .int .i64 P.k0, .int .i64 P.k1, .int .i64 P.l0, .int .i64 P.l1, .int .i64 P.o0, .int .i64 P.o1,
   rowS2 rd P.l.length, rowS1 (r 0) P.l.length, rowS1 (r 1) P.l.length, rowS1 (r 2) P.l.length, rowS1 (r 3) P.l.length, rowS1 (r 4) P.l.length, rowS1 (r 5) P.l.length, rowS1 (r 6) P.l.length, rowS1 (r 7) P.l.length, rowS1 (r 8) P.l.length]
def depI (P : Par) (i : Nat) : List Int := (List.range i).flatMap fun c => [(P.at false).dep c, (P.at true).dep c]
def depL (P : Par) : List Int := depI P P.l.length
theorem depI_succ {P : Par} {i : Nat} : depI P (i + 1) = depI P i ++ [(P.at false).dep i, (P.at true).dep i] := by
  unfold depI
  rw [List.range_succ, List.flatMap_append, List.flatMap_singleton]
theorem depI_len {P : Par} : ∀ {i : Nat}, (depI P i).length = i * 2
  | 0 => rfl
  | i + 1 => by rw [depI_succ, List.length_append, depI_len]; simp; omega
theorem depI_get {P : Par} : ∀ {i c : Nat}, c < i → gi (depI P i) (c * 2) = (P.at false).dep c ∧ gi (depI P i) (c * 2 + 1) = (P.at true).dep c
  | i + 1, c, h => by
    have hl : (depI P i).length = i * 2 := depI_len
    rw [depI_succ]
    by_cases e : c = i
    · subst e
      have e0 : gi (depI P c ++ [(P.at false).dep c, (P.at true).dep c]) (c * 2) = gi [(P.at false).dep c, (P.at true).dep c] 0 := by
        have := gi_pre (pre := depI P c) (j := 0) (l := [(P.at false).dep c, (P.at true).dep c])
        rw [hl] at this
        exact this
      have e1 : gi (depI P c ++ [(P.at false).dep c, (P.at true).dep c]) (c * 2 + 1) = gi [(P.at false).dep c, (P.at true).dep c] 1 := by
        have := gi_pre (pre := depI P c) (j := 1) (l := [(P.at false).dep c, (P.at true).dep c])
        rw [hl] at this
        exact this
      rw [e0, e1]
      exact ⟨rfl, rfl⟩
    · have ih := depI_get (P := P) (i := i) (c := c) (by omega)
      have q : ∀ o, o < i * 2 → gi (depI P i ++ [(P.at false).dep i, (P.at true).dep i]) o = gi (depI P i) o := by
        intro o ho
        unfold gi
        rw [List.getD_eq_getElem?_getD, List.getD_eq_getElem?_getD, List.getElem?_append_left (by omega)]
      rw [q _ (by omega), q _ (by omega)]
      exact ih
structure Work (A : Hp) (P : Par) (X rd : Nat) (r : Nat → Nat) (v : Nat → List Int) : Prop where
  hx : A.get X = some (.cells (wkCells P rd r) false)
  hd : A.get rd = some (.cells (ints (depL P)) false)
  hv : ∀ i, i < 9 → A.get (r i) = some (.cells (ints (v i)) false)
  nv : ∀ i, i < 9 → (v i).length = P.l.length
  hg : groundOf A P.sl = some P.l
  ne : ∀ i j, i < 9 → j < 9 → i ≠ j → r i ≠ r j
  nd : ∀ i, i < 9 → r i ≠ rd ∧ r i ≠ X
  sep : ∀ i x o k n c, i < 9 → P.sl = .slice (some ⟨x, o, k⟩) n c → x ≠ r i
def upd (v : Nat → List Int) (i : Nat) (l : List Int) : Nat → List Int := fun j => if j = i then l else v j
theorem Work.ext {A A' : Hp} {P : Par} {X rd : Nat} {r : Nat → Nat} {v : Nat → List Int} (h : Work A P X rd r v) (e : Ext' A A') : Work A' P X rd r v :=
  ⟨e.get h.hx, e.get h.hd, fun i hi => e.get (h.hv i hi), h.nv, groundOf_mono h.hg e.2, h.ne, h.nd, h.sep⟩
theorem Work.put {A : Hp} {P : Par} {X rd : Nat} {r : Nat → Nat} {v : Nat → List Int} (h : Work A P X rd r v) {i : Nat} (hi : i < 9) {l : List Int} (hl : l.length = P.l.length) : Work (A.set (r i) (some (.cells (ints l) false))) P X rd r (upd v i l) := by
  have hr := Hp.lt_of_get (h.hv i hi)
  have hn := h.nd i hi
  refine ⟨?_, ?_, fun j hj => ?_, fun j hj => ?_, ground_set hr (fun x _ _ _ _ e => h.sep i x _ _ _ _ hi e) h.hg, h.ne, h.nd, h.sep⟩
  · rw [get_set_ne hr (fun e => hn.2 e.symm)]; exact h.hx
  · rw [get_set_ne hr (fun e => hn.1 e.symm)]; exact h.hd
  · unfold upd
    by_cases e : j = i
    · subst e; rw [if_pos rfl]; exact get_set_same (h.hv j hj)
    · rw [if_neg e, get_set_ne hr (h.ne j i hj hi e)]; exact h.hv j hj
  · unfold upd
    by_cases e : j = i
    · rw [if_pos e]; exact hl
    · rw [if_neg e]; exact h.nv j hj
section
variable {g : Nat} {A : Hp} {V : Value → Hp → Prop} {P : Par} {X rd : Nat} {r : Nat → Nat} {v : Nat → List Int} {c : Nat}
theorem Work.dep {P : Par} (hc : c < P.l.length) : ∃ _ : (depL P).length = P.l.length * 2, gi (depL P) (c * 2) = (P.at false).dep c ∧ gi (depL P) (c * 2 + 1) = (P.at true).dep c := ⟨depI_len, depI_get hc⟩
theorem w69 (hW : Work A P X rd r v) (hc : c < P.l.length) (hQ : V (.bool (decide (1 ≤ (P.at true).dep c))) A) : WF AP KL g 69 [ptrV X, .int .i64 c] A V := by
  obtain ⟨hl, e0, e1⟩ := Work.dep hc
  rw [WF_body rfl (show AP 69 = some F69 from rfl)]
  simp (disch := as_aux_lemma => first | omega | simp only [hDs] <;> omega | simp [isCell]) [hRs, takeMarks, resA, resAll, resOne, Value.cells, ptrV, hW.hx, wkCells, rowS2, idxSA_ok, show (c : Int) < P.l.length by omega, hW.hd, ints_get, e1]
  exact hQ
theorem w71 (hW : Work A P X rd r v) (hc : c < P.l.length) (hQ : V (.bool (decide (1 ≤ (P.at false).dep c))) A) : WF AP KL g 71 [ptrV X, .int .i64 c] A V := by
  obtain ⟨hl, e0, e1⟩ := Work.dep hc
  rw [WF_body rfl (show AP 71 = some F71 from rfl)]
  simp (disch := as_aux_lemma => first | omega | simp only [hDs] <;> omega | simp [isCell]) [hRs, takeMarks, resA, resAll, resOne, Value.cells, ptrV, hW.hx, wkCells, rowS2, idxSA_ok, show (c : Int) < P.l.length by omega, hW.hd, ints_get, e0]
  exact hQ
theorem w79 (hW : Work A P X rd r v) (hc : c < P.l.length) (hQ : V (.bool (decide ((P.at true).dep c ≤ 0))) A) : WF AP KL g 79 [ptrV X, .int .i64 c] A V := by
  obtain ⟨hl, e0, e1⟩ := Work.dep hc
  rw [WF_body rfl (show AP 79 = some F79 from rfl)]
  simp (disch := as_aux_lemma => first | omega | simp only [hDs] <;> omega | simp [isCell]) [hRs, takeMarks, resA, resAll, resOne, Value.cells, ptrV, hW.hx, wkCells, rowS2, idxSA_ok, show (c : Int) < P.l.length by omega, hW.hd, ints_get, e1]
  exact hQ
theorem w75 (hW : Work A P X rd r v) (hP : POk (P.at true)) (hc : c < P.l.length) (hst : 0 ≤ gi (v 3) c ∧ gi (v 3) c ≤ 200000000) (hQ : V (.int .i64 ((P.at true).rise (v 3) c)) A) : WF AP KL g 75 [ptrV X, .int .i64 c] A V := by
  obtain ⟨hl, e0, e1⟩ := Work.dep hc
  have h3 := hW.hv 3 (by omega)
  have n3 : c < (v 3).length := by rw [hW.nv 3 (by omega)]; exact hc
  have hlst := hP.lst (c := c) hc
  have el : (P.at false).dep c = (P.at true).lst c := rfl
  obtain ⟨_, f1, f2⟩ := fourth_bounds (b := false) (d := max 1 ((P.at true).lst c)) (by omega) (by omega)
  rw [WF_body rfl (show AP 75 = some F75 from rfl)]
  simp (disch := as_aux_lemma => first | omega | simp only [hDs] <;> omega | simp [isCell]) [hRs, takeMarks, resA, resAll, resOne, Value.cells, ptrV, hW.hx, wkCells, rowS2, rowS1, idxSA_ok, show (c : Int) < P.l.length by omega, hW.hd, h3, ints_get, e0]
  rw [el]
  refine wRt (b := false) (by omega) (by omega) ?_
  simp (disch := as_aux_lemma => first | omega | simp only [hDs] <;> omega | simp [isCell]) [hRs, takeMarks, resA, resAll, resOne, Value.cells]
  refine w81 hst.1 (by omega) (by omega) (by omega) ?_
  simp (disch := as_aux_lemma => first | omega | simp only [hDs] <;> omega | simp [isCell]) [hRs, takeMarks, resA, resAll, resOne, Value.cells]
  exact hQ
theorem w76 (hW : Work A P X rd r v) (hP : POk (P.at false)) (hc : c < P.l.length) (hd : 1 ≤ (P.at false).lst c) (hst : 0 ≤ gi (v 2) c ∧ gi (v 2) c ≤ 200000000) (hQ : V (.int .i64 ((P.at false).rise (v 2) c)) A) : WF AP KL g 76 [ptrV X, .int .i64 c] A V := by
  obtain ⟨hl, e0, e1⟩ := Work.dep hc
  have h3 := hW.hv 2 (by omega)
  have n3 : c < (v 2).length := by rw [hW.nv 2 (by omega)]; exact hc
  have hlst := hP.lst (c := c) hc
  have el : (P.at true).dep c = (P.at false).lst c := rfl
  obtain ⟨_, f1, f2⟩ := fourth_bounds (b := true) (d := (P.at false).lst c) hd (by omega)
  have hq : 0 ≤ (gi (v 2) c).tdiv (fourthE true ((P.at false).lst c)) ∧ (gi (v 2) c).tdiv (fourthE true ((P.at false).lst c)) ≤ gi (v 2) c := by
    rw [Int.tdiv_eq_ediv_of_nonneg hst.1]
    exact ⟨Int.ediv_nonneg hst.1 (by omega), Int.ediv_le_self _ hst.1⟩
  rw [WF_body rfl (show AP 76 = some F76 from rfl)]
  simp (disch := as_aux_lemma => first | omega | simp only [hDs] <;> omega | simp [isCell]) [hRs, takeMarks, resA, resAll, resOne, Value.cells, ptrV, hW.hx, wkCells, rowS2, rowS1, idxSA_ok, show (c : Int) < P.l.length by omega, hW.hd, h3, ints_get, e1]
  rw [el]
  refine wRt (b := true) hd (by omega) ?_
  simp (disch := as_aux_lemma => first | omega | simp only [hDs] <;> omega | simp [isCell]) [hRs, takeMarks, resA, resAll, resOne, Value.cells, binA_quo (show fourthE true ((P.at false).lst c) ≠ 0 by omega), wrId (n := (gi (v 2) c).tdiv (fourthE true ((P.at false).lst c))) (by omega) (by omega)]
  exact hQ
end
end Go.Ab.Wave
namespace Go.Ab.Wave
open Go Go.Ab
def p73a : ACode := (.seq
 (.ops [
oM 16 6,
oC 17 .add 16 1,
oF 18 2 0,
oL 19 18,
oB 20 .lss 17 19])
 (.cond (.t 20)
 (.ops [
oM 21 5,
oM 22 1,
oC 23 .add 22 1,
oP 24 (.slit 1 1 [.int .i64 0] [(0, .t 23)]),
oP 25 (.append (.t 21) (.t 24) 1 8),
oM 5 25])
 .skip))
def p73b : ACode := (.seq
 (.ops [
oM 26 7,
oC 27 .add 26 1,
oF 28 2 1,
oL 29 28,
oB 30 .lss 27 29])
 (.cond (.t 30)
 (.ops [
oM 31 5,
oM 32 1,
oF 33 2 0,
oL 34 33,
oB 35 .add 32 34,
oP 36 (.slit 1 1 [.int .i64 0] [(0, .t 35)]),
oP 37 (.append (.t 31) (.t 36) 1 8),
oM 5 37])
 .skip))
def p73c : ACode := (.seq
 (.ops [
oM 38 6,
oC 39 .gtr 38 0])
 (.cond (.t 39)
 (.ops [
oM 40 5,
oM 41 1,
oC 42 .sub 41 1,
oP 43 (.slit 1 1 [.int .i64 0] [(0, .t 42)]),
oP 44 (.append (.t 40) (.t 43) 1 8),
oM 5 44])
 .skip))
def p73d : ACode := (.seq
 (.ops [
oM 45 7,
oC 46 .gtr 45 0])
 (.cond (.t 46)
 (.ops [
oM 47 5,
oM 48 1,
oF 49 2 0,
oL 50 49,
oB 51 .sub 48 50,
oP 52 (.slit 1 1 [.int .i64 0] [(0, .t 51)]),
oP 53 (.append (.t 47) (.t 52) 1 8),
oM 5 53])
 .skip))
def h73 : ACode := .seq (.ops [
oP 2 (.box (.t 0)),
oP 4 (.move (.k (.slice none 0 0)))]) (.seq (.ops [
oP 5 (.move (.k (.slice none 0 0)))]) (.seq (.ops [
oM 8 1,
oF 9 2 0,
oL 10 9,
oB 11 .rem 8 10,
oM 12 1,
oF 13 2 0,
oL 14 13,
oB 15 .quo 12 14,
oM 6 11,
oM 7 15]) (.seq p73a (.seq p73b (.seq p73c (.seq p73d (.seq
 (.ops [
oM 54 5,
oM 4 54])
 .ret)))))))
theorem AP73 : AP 73 = some (.fn 55 [.tmp 4] h73) := rfl
section
variable {g : Nat} {A : Hp} {V : Value → Hp → Prop}
structure N73 (g : Nat) (A0 : Hp) (w h c : Int) (b : Nat) (N : Nat) (l : List Int) (T : List Value) (A : Hp) : Prop where
  acc : ∃ sv, tget T 5 = sv ∧ AccS N A 1 (ints l) sv
  old : ∀ x, x < N → A.get x = A0.get x
  n : N ≤ A.n
  t1 : tget T 1 = .int .i64 c
  t2 : tget T 2 = ptrV b
  t6 : tget T 6 = .int .i64 (c.tmod w)
  t7 : tget T 7 = .int .i64 (c.tdiv w)
  len : l.length < 10
theorem N73.add {A0 : Hp} {w h c : Int} {b N : Nat} {l : List Int} {T : List Value} (hN : N73 g A0 w h c b N l T A) (hg : g ≤ N) (z : Int) :
    ∃ sv sv' A', tget T 5 = sv ∧ appendA g (A.push (.cells [.int .i64 z] false)) 1 8 sv (.slice (some ⟨A.n, 0, some 1⟩) 1 1) = some (sv', A') ∧ AccS N A' 1 (ints (l ++ [z])) sv' ∧ (∀ x, x < N → A'.get x = A0.get x) ∧ N ≤ A'.n := by
  obtain ⟨sv, h5, hacc⟩ := hN.acc
  have hl := hN.len
  obtain ⟨sv', A', e, h1, h2, h3⟩ := hacc.add (g := g) (bytes := 8) (new := [.int .i64 z]) (ro := false) (n := l.length) hg hN.n rfl (by decide) rfl (by simp) (by unfold room; omega)
  refine ⟨sv, sv', A', h5, e, ?_, fun x hx => by rw [h2 x hx, hN.old x hx], by have := hN.n; omega⟩
  rw [ints_append]; exact h1
theorem r73a {A0 : Hp} {w h c s : Int} {sl : Value} {b N : Nat} {l : List Int} {T : List Value} {D : List Nat} {rd : Option Nat} (hN : N73 g A0 w h c b N l T A) (hb : b < N) (hgb : A0.get b = some (.cells [.int .i64 w, .int .i64 h, .int .i64 s, sl] false)) (hg : g ≤ N) (hw : 1 ≤ w ∧ w ≤ 24) (hh : 1 ≤ h ∧ h ≤ 24) (hc : 0 ≤ c ∧ c < 1000) (hll : l.length < 9) :
    W AP KL g rd p73a ⟨T, D, A⟩ (fun ex st => ex = .normal ∧ st.D = D ∧ N73 g A0 w h c b N (l ++ (if c.tmod w + 1 < w then [c + 1] else [])) st.T st.A) := by
  have gb := (hN.old b hb).trans hgb
  have hbn := Hp.lt_of_get gb
  have t1 := hN.t1
  have t2 := hN.t2
  have t6 := hN.t6
  have t7 := hN.t7
  have x0 : 0 ≤ c.tmod w ∧ c.tmod w < w := ⟨Int.tmod_nonneg _ hc.1, Int.tmod_lt_of_pos _ (by omega)⟩
  have y0 : 0 ≤ c.tdiv w ∧ c.tdiv w ≤ c := ⟨Int.tdiv_nonneg hc.1 (by omega), by rw [Int.tdiv_eq_ediv_of_nonneg hc.1]; exact Int.ediv_le_self _ hc.1⟩
  by_cases hq : c.tmod w + 1 < w
  · obtain ⟨sv, sv', A', h5, e, h1, h2, h3⟩ := hN.add hg (c + 1)
    have hn := hN.n
    simp (disch := as_aux_lemma => first | omega | simp only [hDs] <;> omega | simp [isCell]) [hRs, takeMarks, resA, resAll, resOne, Value.cells, p73a, t1, t2, t6, t7, ptrV, gb, wrId (n := c.tmod w + 1) (by omega) (by omega), wrId (n := c.tdiv w + 1) (by omega) (by omega), hq, h5, wrId (n := c + 1) (by omega) (by omega), slitA, fillA, setRange, e]
    refine ⟨⟨_, by simp, h1⟩, h2, h3, by simp [t1], by simp [t2, ptrV], by simp [t6], by simp [t7], by simp; omega⟩
  · simp (disch := as_aux_lemma => first | omega | simp only [hDs] <;> omega | simp [isCell]) [hRs, takeMarks, resA, resAll, resOne, Value.cells, p73a, t1, t2, t6, t7, ptrV, gb, wrId (n := c.tmod w + 1) (by omega) (by omega), wrId (n := c.tdiv w + 1) (by omega) (by omega), hq]
    obtain ⟨sv, h5, hacc⟩ := hN.acc
    refine ⟨⟨sv, by simp [h5], hacc⟩, hN.old, hN.n, by simp [t1], by simp [t2, ptrV], by simp [t6], by simp [t7], hN.len⟩
theorem r73b {A0 : Hp} {w h c s : Int} {sl : Value} {b N : Nat} {l : List Int} {T : List Value} {D : List Nat} {rd : Option Nat} (hN : N73 g A0 w h c b N l T A) (hb : b < N) (hgb : A0.get b = some (.cells [.int .i64 w, .int .i64 h, .int .i64 s, sl] false)) (hg : g ≤ N) (hw : 1 ≤ w ∧ w ≤ 24) (hh : 1 ≤ h ∧ h ≤ 24) (hc : 0 ≤ c ∧ c < 1000) (hll : l.length < 9) :
    W AP KL g rd p73b ⟨T, D, A⟩ (fun ex st => ex = .normal ∧ st.D = D ∧ N73 g A0 w h c b N (l ++ (if c.tdiv w + 1 < h then [c + w] else [])) st.T st.A) := by
  have gb := (hN.old b hb).trans hgb
  have hbn := Hp.lt_of_get gb
  have t1 := hN.t1
  have t2 := hN.t2
  have t6 := hN.t6
  have t7 := hN.t7
  have x0 : 0 ≤ c.tmod w ∧ c.tmod w < w := ⟨Int.tmod_nonneg _ hc.1, Int.tmod_lt_of_pos _ (by omega)⟩
  have y0 : 0 ≤ c.tdiv w ∧ c.tdiv w ≤ c := ⟨Int.tdiv_nonneg hc.1 (by omega), by rw [Int.tdiv_eq_ediv_of_nonneg hc.1]; exact Int.ediv_le_self _ hc.1⟩
  by_cases hq : c.tdiv w + 1 < h
  · obtain ⟨sv, sv', A', h5, e, h1, h2, h3⟩ := hN.add hg (c + w)
    have hn := hN.n
    simp (disch := as_aux_lemma => first | omega | simp only [hDs] <;> omega | simp [isCell]) [hRs, takeMarks, resA, resAll, resOne, Value.cells, p73b, t1, t2, t6, t7, ptrV, gb, wrId (n := c.tmod w + 1) (by omega) (by omega), wrId (n := c.tdiv w + 1) (by omega) (by omega), hq, h5, wrId (n := c + w) (by omega) (by omega), slitA, fillA, setRange, e]
    refine ⟨⟨_, by simp, h1⟩, h2, h3, by simp [t1], by simp [t2, ptrV], by simp [t6], by simp [t7], by simp; omega⟩
  · simp (disch := as_aux_lemma => first | omega | simp only [hDs] <;> omega | simp [isCell]) [hRs, takeMarks, resA, resAll, resOne, Value.cells, p73b, t1, t2, t6, t7, ptrV, gb, wrId (n := c.tmod w + 1) (by omega) (by omega), wrId (n := c.tdiv w + 1) (by omega) (by omega), hq]
    obtain ⟨sv, h5, hacc⟩ := hN.acc
    refine ⟨⟨sv, by simp [h5], hacc⟩, hN.old, hN.n, by simp [t1], by simp [t2, ptrV], by simp [t6], by simp [t7], hN.len⟩
theorem r73c {A0 : Hp} {w h c s : Int} {sl : Value} {b N : Nat} {l : List Int} {T : List Value} {D : List Nat} {rd : Option Nat} (hN : N73 g A0 w h c b N l T A) (hb : b < N) (hgb : A0.get b = some (.cells [.int .i64 w, .int .i64 h, .int .i64 s, sl] false)) (hg : g ≤ N) (hw : 1 ≤ w ∧ w ≤ 24) (hh : 1 ≤ h ∧ h ≤ 24) (hc : 0 ≤ c ∧ c < 1000) (hll : l.length < 9) :
    W AP KL g rd p73c ⟨T, D, A⟩ (fun ex st => ex = .normal ∧ st.D = D ∧ N73 g A0 w h c b N (l ++ (if 0 < c.tmod w then [c - 1] else [])) st.T st.A) := by
  have gb := (hN.old b hb).trans hgb
  have hbn := Hp.lt_of_get gb
  have t1 := hN.t1
  have t2 := hN.t2
  have t6 := hN.t6
  have t7 := hN.t7
  have x0 : 0 ≤ c.tmod w ∧ c.tmod w < w := ⟨Int.tmod_nonneg _ hc.1, Int.tmod_lt_of_pos _ (by omega)⟩
  have y0 : 0 ≤ c.tdiv w ∧ c.tdiv w ≤ c := ⟨Int.tdiv_nonneg hc.1 (by omega), by rw [Int.tdiv_eq_ediv_of_nonneg hc.1]; exact Int.ediv_le_self _ hc.1⟩
  by_cases hq : 0 < c.tmod w
  · obtain ⟨sv, sv', A', h5, e, h1, h2, h3⟩ := hN.add hg (c - 1)
    have hn := hN.n
    simp (disch := as_aux_lemma => first | omega | simp only [hDs] <;> omega | simp [isCell]) [hRs, takeMarks, resA, resAll, resOne, Value.cells, p73c, t1, t2, t6, t7, ptrV, gb, wrId (n := c.tmod w + 1) (by omega) (by omega), wrId (n := c.tdiv w + 1) (by omega) (by omega), hq, h5, wrId (n := c - 1) (by omega) (by omega), slitA, fillA, setRange, e]
    refine ⟨⟨_, by simp, h1⟩, h2, h3, by simp [t1], by simp [t2, ptrV], by simp [t6], by simp [t7], by simp; omega⟩
  · simp (disch := as_aux_lemma => first | omega | simp only [hDs] <;> omega | simp [isCell]) [hRs, takeMarks, resA, resAll, resOne, Value.cells, p73c, t1, t2, t6, t7, ptrV, gb, wrId (n := c.tmod w + 1) (by omega) (by omega), wrId (n := c.tdiv w + 1) (by omega) (by omega), hq]
    obtain ⟨sv, h5, hacc⟩ := hN.acc
    refine ⟨⟨sv, by simp [h5], hacc⟩, hN.old, hN.n, by simp [t1], by simp [t2, ptrV], by simp [t6], by simp [t7], hN.len⟩
theorem r73d {A0 : Hp} {w h c s : Int} {sl : Value} {b N : Nat} {l : List Int} {T : List Value} {D : List Nat} {rd : Option Nat} (hN : N73 g A0 w h c b N l T A) (hb : b < N) (hgb : A0.get b = some (.cells [.int .i64 w, .int .i64 h, .int .i64 s, sl] false)) (hg : g ≤ N) (hw : 1 ≤ w ∧ w ≤ 24) (hh : 1 ≤ h ∧ h ≤ 24) (hc : 0 ≤ c ∧ c < 1000) (hll : l.length < 9) :
    W AP KL g rd p73d ⟨T, D, A⟩ (fun ex st => ex = .normal ∧ st.D = D ∧ N73 g A0 w h c b N (l ++ (if 0 < c.tdiv w then [c - w] else [])) st.T st.A) := by
  have gb := (hN.old b hb).trans hgb
  have hbn := Hp.lt_of_get gb
  have t1 := hN.t1
  have t2 := hN.t2
  have t6 := hN.t6
  have t7 := hN.t7
  have x0 : 0 ≤ c.tmod w ∧ c.tmod w < w := ⟨Int.tmod_nonneg _ hc.1, Int.tmod_lt_of_pos _ (by omega)⟩
  have y0 : 0 ≤ c.tdiv w ∧ c.tdiv w ≤ c := ⟨Int.tdiv_nonneg hc.1 (by omega), by rw [Int.tdiv_eq_ediv_of_nonneg hc.1]; exact Int.ediv_le_self _ hc.1⟩
  by_cases hq : 0 < c.tdiv w
  · obtain ⟨sv, sv', A', h5, e, h1, h2, h3⟩ := hN.add hg (c - w)
    have hn := hN.n
    simp (disch := as_aux_lemma => first | omega | simp only [hDs] <;> omega | simp [isCell]) [hRs, takeMarks, resA, resAll, resOne, Value.cells, p73d, t1, t2, t6, t7, ptrV, gb, wrId (n := c.tmod w + 1) (by omega) (by omega), wrId (n := c.tdiv w + 1) (by omega) (by omega), hq, h5, wrId (n := c - w) (by omega) (by omega), slitA, fillA, setRange, e]
    refine ⟨⟨_, by simp, h1⟩, h2, h3, by simp [t1], by simp [t2, ptrV], by simp [t6], by simp [t7], by simp; omega⟩
  · simp (disch := as_aux_lemma => first | omega | simp only [hDs] <;> omega | simp [isCell]) [hRs, takeMarks, resA, resAll, resOne, Value.cells, p73d, t1, t2, t6, t7, ptrV, gb, wrId (n := c.tmod w + 1) (by omega) (by omega), wrId (n := c.tdiv w + 1) (by omega) (by omega), hq]
    obtain ⟨sv, h5, hacc⟩ := hN.acc
    refine ⟨⟨sv, by simp [h5], hacc⟩, hN.old, hN.n, by simp [t1], by simp [t2, ptrV], by simp [t6], by simp [t7], hN.len⟩
theorem w73 {w h s c : Int} {sl : Value} (hw : 1 ≤ w ∧ w ≤ 24) (hh : 1 ≤ h ∧ h ≤ 24) (hc : 0 ≤ c ∧ c < 1000) (hg : g ≤ A.n) (hQ : ∀ A' sv, Ext' A A' → AccS A.n A' 1 (ints (refNb w h c)) sv → V sv A') :
    WF AP KL g 73 [gridV w h s sl, .int .i64 c] A V := by
  have x0 : 0 ≤ c.tmod w ∧ c.tmod w < w := ⟨Int.tmod_nonneg _ hc.1, Int.tmod_lt_of_pos _ (by omega)⟩
  have y0 : 0 ≤ c.tdiv w ∧ c.tdiv w ≤ c := ⟨Int.tdiv_nonneg hc.1 (by omega), by rw [Int.tdiv_eq_ediv_of_nonneg hc.1]; exact Int.ediv_le_self _ hc.1⟩
  obtain ⟨B, hB⟩ : ∃ B, B = A.push (.cells [.int .i64 w, .int .i64 h, .int .i64 s, sl] false) := ⟨_, rfl⟩
  have kB : Ext' A B := by rw [hB]; exact Ext'.push _ _
  have gB : B.get A.n = some (.cells [.int .i64 w, .int .i64 h, .int .i64 s, sl] false) := by rw [hB]; exact get_push_new
  have nB : B.n = A.n + 1 := by rw [hB]; rfl
  rw [WF_body rfl AP73]
  simp (disch := as_aux_lemma => first | omega | simp only [hDs] <;> omega | simp [isCell]) [hRs, takeMarks, resA, resAll, resOne, Value.cells, h73, gridV, J, binA_rem (show w ≠ 0 by omega), binA_quo (show w ≠ 0 by omega), wrId (n := c.tdiv w) (by omega) (by omega)]
  rw [← hB]
  refine W_mono (r73a (A0 := B) (b := A.n) (N := A.n + 1) (l := []) ⟨⟨.slice none 0 0, by simp, AccS.nil⟩, fun _ _ => rfl, by omega, by simp, by simp [ptrV], by simp, by simp, by simp⟩ (by omega) gB (by omega) hw hh hc (by simp)) ?_
  rintro _ ⟨T1, D1, A1⟩ ⟨rfl, rfl, h1⟩
  simp (disch := as_aux_lemma => first | omega | simp only [hDs] <;> omega | simp [isCell]) [hRs, takeMarks, resA, resAll, resOne, Value.cells]
  refine W_mono (r73b h1 (by omega) gB (by omega) hw hh hc (by split <;> simp)) ?_
  rintro _ ⟨T2, D2, A2⟩ ⟨rfl, rfl, h2⟩
  simp (disch := as_aux_lemma => first | omega | simp only [hDs] <;> omega | simp [isCell]) [hRs, takeMarks, resA, resAll, resOne, Value.cells]
  refine W_mono (r73c h2 (by omega) gB (by omega) hw hh hc (by split <;> split <;> simp)) ?_
  rintro _ ⟨T3, D3, A3⟩ ⟨rfl, rfl, h3⟩
  simp (disch := as_aux_lemma => first | omega | simp only [hDs] <;> omega | simp [isCell]) [hRs, takeMarks, resA, resAll, resOne, Value.cells]
  refine W_mono (r73d h3 (by omega) gB (by omega) hw hh hc (by split <;> split <;> split <;> simp)) ?_
  rintro _ ⟨T4, D4, A4⟩ ⟨rfl, rfl, h4⟩
  obtain ⟨sv, h5, hacc⟩ := h4.acc
  simp (disch := as_aux_lemma => first | omega | simp only [hDs] <;> omega | simp [isCell]) [hRs, takeMarks, resA, resAll, resOne, Value.cells, h5]
  have hn4 : A.n + 1 ≤ A4.n := h4.n
  refine hQ A4 sv ⟨by omega, fun x hx => by rw [h4.old x (by omega), kB.2 x hx]⟩ ?_
  exact hacc.weaken (by omega)
end
end Go.Ab.Wave
namespace Go.Ab.Wave
open Go Go.Ab
def p74a : ACode := (.seq
 (.ops [
oM 41 0,
oM 42 1,
oA 43 69 [.t 41, .t 42] false,
oM 44 43,
oN 45 44 true 0,
oN 46 44 true 2,
oQ 47 44 true (.call (.k (.func (.func 69) ⟨[]⟩ ⟨[]⟩)) [.t 45, .t 46] false),
oP 48 (.pick (.t 44) (.t 47) (.k (.bool false))),
oM 49 48,
oN 50 49 true 0,
oQ 51 49 true (.nilCheck (.t 50)),
oQ 52 49 true (.fieldAddr (.t 51) 13),
oQ 53 49 true (.load (.t 52) none),
oN 54 49 true 1,
oQ 55 49 true (.idxS (.t 53) (.t 54) 1),
oQ 56 49 true (.load (.t 55) none),
oQ 57 49 true (.bin .lss (.t 56) (oK 1099511627776)),
oP 58 (.pick (.t 49) (.t 57) (.k (.bool false)))])
 (.cond (.t 58)
 (.seq
 (.ops [
oM 60 0,
oP 61 (.nilCheck (.t 60)),
oF 62 61 0,
oF 63 62 2,
oL 64 63,
oM 65 0,
oP 66 (.nilCheck (.t 65)),
oF 67 66 12,
oL 68 67,
oM 69 1,
oI 70 68 69 2,
oF 71 70 1,
oL 72 71,
oM 73 0,
oP 74 (.nilCheck (.t 73)),
oF 75 74 12,
oL 76 75,
oM 77 2,
oI 78 76 77 2,
oF 79 78 1,
oL 80 79,
oP 81 (.min [.t 72, .t 80]),
oA 82 92 [.t 64, .t 81] false,
oM 59 82,
oX 83 59 0,
oX 84 59 1,
oM 8 83,
oM 9 84])
 (.seq
 (.ops [
oM 85 0,
oP 86 (.nilCheck (.t 85)),
oF 87 86 13,
oL 88 87,
oM 89 2,
oM 90 0,
oP 91 (.nilCheck (.t 90)),
oF 92 91 13,
oL 93 92,
oM 94 2,
oI 95 93 94 1,
oL 96 95,
oM 97 0,
oP 98 (.nilCheck (.t 97)),
oF 99 98 13,
oL 100 99,
oM 101 1,
oI 102 100 101 1,
oL 103 102,
oM 104 8,
oB 105 .add 103 104,
oP 106 (.min [.t 96, .t 105]),
oI 107 88 89 1,
oT 107 106 1])
 (.ops [
oM 108 0,
oP 109 (.nilCheck (.t 108)),
oF 110 109 16,
oL 111 110,
oM 112 2,
oM 113 0,
oP 114 (.nilCheck (.t 113)),
oF 115 114 16,
oL 116 115,
oM 117 2,
oI 118 116 117 1,
oL 119 118,
oM 120 0,
oP 121 (.nilCheck (.t 120)),
oF 122 121 16,
oL 123 122,
oM 124 1,
oI 125 123 124 1,
oL 126 125,
oM 127 0,
oP 128 (.nilCheck (.t 127)),
oF 129 128 6,
oF 130 129 0,
oF 131 130 1,
oL 132 131,
oB 133 .mul 126 132,
oA 134 81 [.t 133, .k (.int .i64 1024)] true,
oP 135 (.max [.t 119, .t 134]),
oI 136 111 112 1,
oT 136 135 1])))
 .skip))
def p74b : ACode := (.seq
 (.ops [
oM 137 0,
oM 138 1,
oA 139 71 [.t 137, .t 138] false,
oM 140 139,
oN 141 140 true 0,
oN 142 140 true 2,
oQ 143 140 true (.call (.k (.func (.func 71) ⟨[]⟩ ⟨[]⟩)) [.t 141, .t 142] false),
oP 144 (.pick (.t 140) (.t 143) (.k (.bool false))),
oM 145 144,
oN 146 145 true 0,
oQ 147 145 true (.nilCheck (.t 146)),
oQ 148 145 true (.fieldAddr (.t 147) 14),
oQ 149 145 true (.load (.t 148) none),
oN 150 145 true 1,
oQ 151 145 true (.idxS (.t 149) (.t 150) 1),
oQ 152 145 true (.load (.t 151) none),
oQ 153 145 true (.bin .lss (.t 152) (oK 1099511627776)),
oP 154 (.pick (.t 145) (.t 153) (.k (.bool false)))])
 (.cond (.t 154)
 (.seq
 (.ops [
oM 156 0,
oP 157 (.nilCheck (.t 156)),
oF 158 157 0,
oF 159 158 2,
oL 160 159,
oM 161 0,
oP 162 (.nilCheck (.t 161)),
oF 163 162 12,
oL 164 163,
oM 165 1,
oI 166 164 165 2,
oF 167 166 0,
oL 168 167,
oM 169 0,
oP 170 (.nilCheck (.t 169)),
oF 171 170 12,
oL 172 171,
oM 173 2,
oI 174 172 173 2,
oF 175 174 0,
oL 176 175,
oP 177 (.min [.t 168, .t 176]),
oA 178 92 [.t 160, .t 177] false,
oM 155 178,
oX 179 155 0,
oX 180 155 1,
oM 10 179,
oM 11 180])
 (.seq
 (.ops [
oM 181 0,
oP 182 (.nilCheck (.t 181)),
oF 183 182 14,
oL 184 183,
oM 185 2,
oM 186 0,
oP 187 (.nilCheck (.t 186)),
oF 188 187 14,
oL 189 188,
oM 190 2,
oI 191 189 190 1,
oL 192 191,
oM 193 0,
oP 194 (.nilCheck (.t 193)),
oF 195 194 14,
oL 196 195,
oM 197 1,
oI 198 196 197 1,
oL 199 198,
oM 200 11,
oB 201 .add 199 200,
oP 202 (.min [.t 192, .t 201]),
oI 203 184 185 1,
oT 203 202 1])
 (.ops [
oM 204 0,
oP 205 (.nilCheck (.t 204)),
oF 206 205 15,
oL 207 206,
oM 208 2,
oM 209 0,
oP 210 (.nilCheck (.t 209)),
oF 211 210 15,
oL 212 211,
oM 213 2,
oI 214 212 213 1,
oL 215 214,
oM 216 0,
oP 217 (.nilCheck (.t 216)),
oF 218 217 15,
oL 219 218,
oM 220 1,
oI 221 219 220 1,
oL 222 221,
oM 223 0,
oP 224 (.nilCheck (.t 223)),
oF 225 224 6,
oF 226 225 0,
oF 227 226 0,
oL 228 227,
oB 229 .mul 222 228,
oC 230 .quo 229 1024,
oP 231 (.max [.t 215, .t 230]),
oI 232 207 208 1,
oT 232 231 1])))
 .skip))
def h74 : ACode := .seq (.ops [
oP 6 (.move (.k (.bool false)))]) (.seq (.ops [
oM 12 0,
oP 13 (.nilCheck (.t 12)),
oF 14 13 13,
oL 15 14,
oM 16 2,
oI 17 15 16 1,
oL 18 17,
oM 19 0,
oP 20 (.nilCheck (.t 19)),
oF 21 20 14,
oL 22 21,
oM 23 2,
oI 24 22 23 1,
oL 25 24,
oM 26 0,
oP 27 (.nilCheck (.t 26)),
oF 28 27 15,
oL 29 28,
oM 30 2,
oI 31 29 30 1,
oL 32 31,
oM 33 0,
oP 34 (.nilCheck (.t 33)),
oF 35 34 16,
oL 36 35,
oM 37 2,
oI 38 36 37 1,
oL 39 38,
oP 40 (.build [.int .i64 0, .int .i64 0, .int .i64 0, .int .i64 0] [(0, 1, .t 18), (1, 1, .t 25), (2, 1, .t 32), (3, 1, .t 39)]),
oP 7 (.alloc [.int .i64 0, .int .i64 0, .int .i64 0, .int .i64 0]),
oT 7 40 4]) (.seq p74a (.seq p74b (.seq
 (.ops [
oD 233 7 4,
oM 234 0,
oP 235 (.nilCheck (.t 234)),
oF 236 235 13,
oL 237 236,
oM 238 2,
oI 239 237 238 1,
oL 240 239,
oM 241 0,
oP 242 (.nilCheck (.t 241)),
oF 243 242 14,
oL 244 243,
oM 245 2,
oI 246 244 245 1,
oL 247 246,
oM 248 0,
oP 249 (.nilCheck (.t 248)),
oF 250 249 15,
oL 251 250,
oM 252 2,
oI 253 251 252 1,
oL 254 253,
oM 255 0,
oP 256 (.nilCheck (.t 255)),
oF 257 256 16,
oL 258 257,
oM 259 2,
oI 260 258 259 1,
oL 261 260,
oP 262 (.build [.int .i64 0, .int .i64 0, .int .i64 0, .int .i64 0] [(0, 1, .t 240), (1, 1, .t 247), (2, 1, .t 254), (3, 1, .t 261)]),
oP 263 (.eqv true [false, false, false, false] (.t 233) (.t 262)),
oM 6 263])
 .ret))))
theorem AP74 : AP 74 = some (.fn 264 [.tmp 6] h74) := rfl
def passA (P : Par) (va vs : List Int) (a b : Nat) : List Int × List Int :=
  if P.open a b = true ∧ gi va a < Never then (va.set b (min (gi va b) (gi va a + P.cross a b)), vs.set b (max (gi vs b) (dv P.up (gi vs a * ofE P.up P.k0 P.k1) 1024))) else (va, vs)
def passU (P : Par) (a b : Nat) (v : Nat → List Int) : Nat → List Int := upd (upd v 0 (passA (P.at true) (v 0) (v 3) a b).1) 3 (passA (P.at true) (v 0) (v 3) a b).2
def passD (P : Par) (a b : Nat) (v : Nat → List Int) : Nat → List Int := upd (upd v 1 (passA (P.at false) (v 1) (v 2) a b).1) 2 (passA (P.at false) (v 1) (v 2) a b).2
theorem upd_same {v : Nat → List Int} {i : Nat} : upd v i (v i) = v := by
  funext j
  unfold upd
  split
  · rename_i h; rw [h]
  · rfl
def WK (r : Nat → Nat) (y : Nat) : Prop := ∃ i, i < 9 ∧ y = r i
structure VOk (P : Par) (v : Nat → List Int) : Prop where
  a0 : ∀ c, c < P.l.length → 0 ≤ gi (v 0) c ∧ gi (v 0) c ≤ Never
  a1 : ∀ c, c < P.l.length → 0 ≤ gi (v 1) c ∧ gi (v 1) c ≤ Never
  a2 : ∀ c, c < P.l.length → 0 ≤ gi (v 2) c ∧ gi (v 2) c ≤ 200000000
  a3 : ∀ c, c < P.l.length → 0 ≤ gi (v 3) c ∧ gi (v 3) c ≤ 200000000
structure S74 (P : Par) (X rd : Nat) (r : Nat → Nat) (a b B7 : Nat) (bc : List Value) (A0 : Hp) (v : Nat → List Int) (T : List Value) (A : Hp) : Prop where
  w : Work A P X rd r v
  b7 : A.get B7 = some (.cells bc false)
  ne7 : ∀ i, i < 9 → B7 ≠ r i
  k : Keep (WK r) A0 A
  t0 : tget T 0 = ptrV X
  t1 : tget T 1 = .int .i64 a
  t2 : tget T 2 = .int .i64 b
  t7 : tget T 7 = ptrV B7
section
variable {g : Nat} {A : Hp} {V : Value → Hp → Prop} {P : Par} {X rd : Nat} {r : Nat → Nat} {v : Nat → List Int} {a b B7 : Nat} {bc : List Value} {A0 : Hp} {T : List Value} {D : List Nat} {rdd : Option Nat}
theorem S74.ext {A' : Hp} (h : S74 P X rd r a b B7 bc A0 v T A) (e : Ext' A A') : S74 P X rd r a b B7 bc A0 v T A' := ⟨h.w.ext e, e.get h.b7, h.ne7, h.k.trans (e.keep _), h.t0, h.t1, h.t2, h.t7⟩
theorem S74.put {T' : List Value} (h : S74 P X rd r a b B7 bc A0 v T A) {i : Nat} (hi : i < 9) {l : List Int} (hl : l.length = P.l.length) (hT : ∀ j, j < 8 → tget T' j = tget T j) : S74 P X rd r a b B7 bc A0 (upd v i l) T' (A.set (r i) (some (.cells (ints l) false))) :=
  ⟨h.w.put hi hl, by rw [get_set_ne (Hp.lt_of_get (h.w.hv i hi)) (h.ne7 i hi)]; exact h.b7, h.ne7, Keep.put' h.k (Hp.lt_of_get (h.w.hv i hi)) ⟨i, hi, rfl⟩, (hT 0 (by omega)).trans h.t0, (hT 1 (by omega)).trans h.t1, (hT 2 (by omega)).trans h.t2, (hT 7 (by omega)).trans h.t7⟩
theorem S74.same {T' : List Value} (h : S74 P X rd r a b B7 bc A0 v T A) (hT : ∀ j, j < 8 → tget T' j = tget T j) : S74 P X rd r a b B7 bc A0 v T' A :=
  ⟨h.w, h.b7, h.ne7, h.k, (hT 0 (by omega)).trans h.t0, (hT 1 (by omega)).trans h.t1, (hT 2 (by omega)).trans h.t2, (hT 7 (by omega)).trans h.t7⟩
theorem r74a (hP : POk (P.at true)) (hO : VOk P v) (ha : a < P.l.length) (hb : b < P.l.length) (hg : ∀ i, i < 9 → g ≤ r i) (h : S74 P X rd r a b B7 bc A0 v T A) :
    W AP KL g rdd p74a ⟨T, D, A⟩ (fun ex st => ex = .normal ∧ st.D = D ∧ S74 P X rd r a b B7 bc A0 (passU P a b v) st.T st.A) := by
  have t0 := h.t0
  have t1 := h.t1
  have t2 := h.t2
  have hW := h.w
  have hX := hW.hx
  have hd := hW.hd
  have va := hW.hv 0 (by omega)
  have vs := hW.hv 3 (by omega)
  have na : (v 0).length = P.l.length := hW.nv 0 (by omega)
  have ns : (v 3).length = P.l.length := hW.nv 3 (by omega)
  have oa := hO.a0 a ha
  have ob := hO.a0 b hb
  have sa := hO.a3 a ha
  have sb := hO.a3 b hb
  have sm : ∀ z, (A.set (r 0) z).get (r 0) = z := fun z => get_set_same va
  have sx : ∀ z, (A.set (r 0) z).get X = A.get X := fun z => get_set_ne (Hp.lt_of_get va) (fun e => (hW.nd 0 (by omega)).2 e.symm)
  have sv : ∀ z, (A.set (r 0) z).get (r 3) = A.get (r 3) := fun z => get_set_ne (Hp.lt_of_get va) (hW.ne 3 0 (by omega) (by omega) (by omega))
  obtain ⟨hl, da0, da1⟩ := Work.dep ha
  obtain ⟨_, db0, db1⟩ := Work.dep hb
  have hNe : passA (P.at true) (v 0) (v 3) a b = (v 0, v 3) → passU P a b v = v := by
    intro e; unfold passU; rw [e]; simp only [upd_same]
  simp (disch := as_aux_lemma => first | omega | simp only [hDs] <;> omega | simp [isCell]) [hRs, takeMarks, resA, resAll, resOne, Value.cells, p74a, t0, t1, t2]
  refine w69 hW ha ?_
  by_cases ca : 1 ≤ (P.at true).dep a
  · simp (disch := as_aux_lemma => first | omega | simp only [hDs] <;> omega | simp [isCell]) [hRs, takeMarks, resA, resAll, resOne, Value.cells, ca, t0, t1, t2]
    refine w69 hW hb ?_
    by_cases cb : 1 ≤ (P.at true).dep b
    · by_cases cn : gi (v 0) a < 1099511627776
      · have hop : (P.at true).open a b = true := by unfold Par.open; simp [ca, cb]
        have hcr := hP.cross (a := a) (b := b) ca cb
        have hdA := hP.dep (c := a) ha
        have hdB := hP.dep (c := b) hb
        have hs' : 1 ≤ P.s ∧ P.s ≤ 10000 := (check_parts hP.chk).2.2.1
        have hkp := hP.keep
        have hkp' : 1 ≤ P.k0 ∧ P.k0 ≤ P.k1 ∧ P.k1 ≤ 1024 := hkp
        have hpa : passA (P.at true) (v 0) (v 3) a b = ((v 0).set b (min (gi (v 0) b) (gi (v 0) a + (P.at true).cross a b)), (v 3).set b (max (gi (v 3) b) (dv (P.at true).up (gi (v 3) a * ofE (P.at true).up (P.at true).k0 (P.at true).k1) 1024))) := by
          unfold passA; rw [if_pos ⟨hop, cn⟩]
        obtain ⟨m, hm⟩ : ∃ m, m = min ((P.at true).dep a) ((P.at true).dep b) := ⟨_, rfl⟩
        simp (disch := as_aux_lemma => first | omega | simp only [hDs] <;> omega | simp [isCell]) [hRs, takeMarks, resA, resAll, resOne, Value.cells, cb, cn, t0, t1, t2, ptrV, hX, wkCells, rowS2, rowS1, idxSA_ok, show (a : Int) < P.l.length by omega, show (b : Int) < P.l.length by omega, hd, va, ints_get, da1, db1]
        rw [← hm]
        refine w92 hs' (by omega) ?_
        have hcE : crossD true P.s m = (P.at true).cross a b := by rw [hm]; rfl
        have hst := h.put (T' := T) (i := 0) (by omega) (l := (v 0).set b (min (gi (v 0) b) (gi (v 0) a + (P.at true).cross a b))) (by rw [List.length_set]; exact na) (fun _ _ => rfl)
        obtain ⟨A1, hA1⟩ : ∃ A1, A1 = A.set (r 0) (some (.cells (ints ((v 0).set b (min (gi (v 0) b) (gi (v 0) a + (P.at true).cross a b)))) false)) := ⟨_, rfl⟩
        have mk : 0 ≤ gi (v 3) a * P.k1 ∧ gi (v 3) a * P.k1 ≤ 200000000 * 1024 := ⟨Int.mul_nonneg sa.1 (by omega), Int.mul_le_mul sa.2 (by omega) (by omega) (by omega)⟩
        simp (disch := as_aux_lemma => first | omega | simp only [hDs] <;> omega | simp [isCell]) [hRs, takeMarks, resA, resAll, resOne, Value.cells, t0, t1, t2, ptrV, hX, wkCells, rowS2, rowS1, idxSA_ok, show (a : Int) < P.l.length by omega, show (b : Int) < P.l.length by omega, hd, va, ints_get, hcE, wrId (n := gi (v 0) a + (P.at true).cross a b) (by omega) (by omega), storeB_int (show b < (v 0).length by omega) (hg 0 (by omega)), sx, sv, vs, wrId (n := gi (v 3) a * P.k1) (by omega) (by omega)]
        refine w81 mk.1 (by omega) (by omega) (by omega) ?_
        simp (disch := as_aux_lemma => first | omega | simp only [hDs] <;> omega | simp [isCell]) [hRs, takeMarks, resA, resAll, resOne, Value.cells, idxSA_ok, show (b : Int) < P.l.length by omega, sv, vs, storeB_int (show b < (v 3).length by omega) (hg 3 (by omega))]
        have hf := hst.put (T' := T) (i := 3) (by omega) (l := (v 3).set b (max (gi (v 3) b) (dv (P.at true).up (gi (v 3) a * ofE (P.at true).up (P.at true).k0 (P.at true).k1) 1024))) (by rw [List.length_set]; exact ns) (fun _ _ => rfl)
        unfold passU
        rw [hpa]
        refine hf.same fun j hj => ?_
        simp only [tget_tset]
        repeat (rw [if_neg (by omega)])
      · simp (disch := as_aux_lemma => first | omega | simp only [hDs] <;> omega | simp [isCell]) [hRs, takeMarks, resA, resAll, resOne, Value.cells, cb, cn, t0, t1, t2, ptrV, hX, wkCells, rowS2, rowS1, idxSA_ok, show (a : Int) < P.l.length by omega, va, ints_get]
        rw [hNe (by unfold passA; rw [if_neg (fun hh => cn hh.2)])]
        refine h.same fun j hj => ?_
        simp only [tget_tset]
        repeat (rw [if_neg (by omega)])
    · simp (disch := as_aux_lemma => first | omega | simp only [hDs] <;> omega | simp [isCell]) [hRs, takeMarks, resA, resAll, resOne, Value.cells, cb]
      rw [hNe (by unfold passA; rw [if_neg (fun hh => cb (open_dep hh.1).2)])]
      refine h.same fun j hj => ?_
      simp only [tget_tset]
      repeat (rw [if_neg (by omega)])
  · simp (disch := as_aux_lemma => first | omega | simp only [hDs] <;> omega | simp [isCell]) [hRs, takeMarks, resA, resAll, resOne, Value.cells, ca]
    rw [hNe (by unfold passA; rw [if_neg (fun hh => ca (open_dep hh.1).1)])]
    refine h.same fun j hj => ?_
    simp only [tget_tset]
    repeat (rw [if_neg (by omega)])
theorem r74b (hP : POk (P.at false)) (hO : VOk P v) (ha : a < P.l.length) (hb : b < P.l.length) (hg : ∀ i, i < 9 → g ≤ r i) (h : S74 P X rd r a b B7 bc A0 v T A) :
    W AP KL g rdd p74b ⟨T, D, A⟩ (fun ex st => ex = .normal ∧ st.D = D ∧ S74 P X rd r a b B7 bc A0 (passD P a b v) st.T st.A) := by
  have t0 := h.t0
  have t1 := h.t1
  have t2 := h.t2
  have hW := h.w
  have hX := hW.hx
  have hd := hW.hd
  have va := hW.hv 1 (by omega)
  have vs := hW.hv 2 (by omega)
  have na : (v 1).length = P.l.length := hW.nv 1 (by omega)
  have ns : (v 2).length = P.l.length := hW.nv 2 (by omega)
  have oa := hO.a1 a ha
  have ob := hO.a1 b hb
  have sa := hO.a2 a ha
  have sb := hO.a2 b hb
  have sm : ∀ z, (A.set (r 1) z).get (r 1) = z := fun z => get_set_same va
  have sx : ∀ z, (A.set (r 1) z).get X = A.get X := fun z => get_set_ne (Hp.lt_of_get va) (fun e => (hW.nd 1 (by omega)).2 e.symm)
  have sv : ∀ z, (A.set (r 1) z).get (r 2) = A.get (r 2) := fun z => get_set_ne (Hp.lt_of_get va) (hW.ne 2 1 (by omega) (by omega) (by omega))
  obtain ⟨hl, da0, da1⟩ := Work.dep ha
  obtain ⟨_, db0, db1⟩ := Work.dep hb
  have hNe : passA (P.at false) (v 1) (v 2) a b = (v 1, v 2) → passD P a b v = v := by
    intro e; unfold passD; rw [e]; simp only [upd_same]
  simp (disch := as_aux_lemma => first | omega | simp only [hDs] <;> omega | simp [isCell]) [hRs, takeMarks, resA, resAll, resOne, Value.cells, p74b, t0, t1, t2]
  refine w71 hW ha ?_
  by_cases ca : 1 ≤ (P.at false).dep a
  · simp (disch := as_aux_lemma => first | omega | simp only [hDs] <;> omega | simp [isCell]) [hRs, takeMarks, resA, resAll, resOne, Value.cells, ca, t0, t1, t2]
    refine w71 hW hb ?_
    by_cases cb : 1 ≤ (P.at false).dep b
    · by_cases cn : gi (v 1) a < 1099511627776
      · have hop : (P.at false).open a b = true := by unfold Par.open; simp [ca, cb]
        have hcr := hP.cross (a := a) (b := b) ca cb
        have hdA := hP.dep (c := a) ha
        have hdB := hP.dep (c := b) hb
        have hs' : 1 ≤ P.s ∧ P.s ≤ 10000 := (check_parts hP.chk).2.2.1
        have hkp := hP.keep
        have hkp' : 1 ≤ P.k0 ∧ P.k0 ≤ P.k1 ∧ P.k1 ≤ 1024 := hkp
        have hpa : passA (P.at false) (v 1) (v 2) a b = ((v 1).set b (min (gi (v 1) b) (gi (v 1) a + (P.at false).cross a b)), (v 2).set b (max (gi (v 2) b) (dv (P.at false).up (gi (v 2) a * ofE (P.at false).up (P.at false).k0 (P.at false).k1) 1024))) := by
          unfold passA; rw [if_pos ⟨hop, cn⟩]
        obtain ⟨m, hm⟩ : ∃ m, m = min ((P.at false).dep a) ((P.at false).dep b) := ⟨_, rfl⟩
        simp (disch := as_aux_lemma => first | omega | simp only [hDs] <;> omega | simp [isCell]) [hRs, takeMarks, resA, resAll, resOne, Value.cells, cb, cn, t0, t1, t2, ptrV, hX, wkCells, rowS2, rowS1, idxSA_ok, show (a : Int) < P.l.length by omega, show (b : Int) < P.l.length by omega, hd, va, ints_get, da0, db0]
        rw [← hm]
        refine w92 hs' (by omega) ?_
        have hcE : crossD false P.s m = (P.at false).cross a b := by rw [hm]; rfl
        have hst := h.put (T' := T) (i := 1) (by omega) (l := (v 1).set b (min (gi (v 1) b) (gi (v 1) a + (P.at false).cross a b))) (by rw [List.length_set]; exact na) (fun _ _ => rfl)
        obtain ⟨A1, hA1⟩ : ∃ A1, A1 = A.set (r 1) (some (.cells (ints ((v 1).set b (min (gi (v 1) b) (gi (v 1) a + (P.at false).cross a b)))) false)) := ⟨_, rfl⟩
        have mk : 0 ≤ gi (v 2) a * P.k0 ∧ gi (v 2) a * P.k0 ≤ 200000000 * 1024 := ⟨Int.mul_nonneg sa.1 (by omega), Int.mul_le_mul sa.2 (by omega) (by omega) (by omega)⟩
        simp (disch := as_aux_lemma => first | omega | simp only [hDs] <;> omega | simp [isCell]) [hRs, takeMarks, resA, resAll, resOne, Value.cells, t0, t1, t2, ptrV, hX, wkCells, rowS2, rowS1, idxSA_ok, show (a : Int) < P.l.length by omega, show (b : Int) < P.l.length by omega, hd, va, ints_get, hcE, wrId (n := gi (v 1) a + (P.at false).cross a b) (by omega) (by omega), storeB_int (show b < (v 1).length by omega) (hg 1 (by omega)), sx, sv, vs, wrId (n := gi (v 2) a * P.k0) (by omega) (by omega)]
        have hq : 0 ≤ (gi (v 2) a * P.k0).tdiv 1024 ∧ (gi (v 2) a * P.k0).tdiv 1024 ≤ gi (v 2) a * P.k0 := by
          rw [Int.tdiv_eq_ediv_of_nonneg mk.1]
          exact ⟨Int.ediv_nonneg mk.1 (by omega), Int.ediv_le_self _ mk.1⟩
        simp (disch := as_aux_lemma => first | omega | simp only [hDs] <;> omega | simp [isCell]) [hRs, takeMarks, resA, resAll, resOne, Value.cells, binA_quo, wrId (n := (gi (v 2) a * P.k0).tdiv 1024) (by omega) (by omega), idxSA_ok, show (b : Int) < P.l.length by omega, sv, vs, storeB_int (show b < (v 2).length by omega) (hg 2 (by omega))]
        have hf := hst.put (T' := T) (i := 2) (by omega) (l := (v 2).set b (max (gi (v 2) b) (dv (P.at false).up (gi (v 2) a * ofE (P.at false).up (P.at false).k0 (P.at false).k1) 1024))) (by rw [List.length_set]; exact ns) (fun _ _ => rfl)
        unfold passD
        rw [hpa]
        refine hf.same fun j hj => ?_
        simp only [tget_tset]
        repeat (rw [if_neg (by omega)])
      · simp (disch := as_aux_lemma => first | omega | simp only [hDs] <;> omega | simp [isCell]) [hRs, takeMarks, resA, resAll, resOne, Value.cells, cb, cn, t0, t1, t2, ptrV, hX, wkCells, rowS2, rowS1, idxSA_ok, show (a : Int) < P.l.length by omega, va, ints_get]
        rw [hNe (by unfold passA; rw [if_neg (fun hh => cn hh.2)])]
        refine h.same fun j hj => ?_
        simp only [tget_tset]
        repeat (rw [if_neg (by omega)])
    · simp (disch := as_aux_lemma => first | omega | simp only [hDs] <;> omega | simp [isCell]) [hRs, takeMarks, resA, resAll, resOne, Value.cells, cb]
      rw [hNe (by unfold passA; rw [if_neg (fun hh => cb (open_dep hh.1).2)])]
      refine h.same fun j hj => ?_
      simp only [tget_tset]
      repeat (rw [if_neg (by omega)])
  · simp (disch := as_aux_lemma => first | omega | simp only [hDs] <;> omega | simp [isCell]) [hRs, takeMarks, resA, resAll, resOne, Value.cells, ca]
    rw [hNe (by unfold passA; rw [if_neg (fun hh => ca (open_dep hh.1).1)])]
    refine h.same fun j hj => ?_
    simp only [tget_tset]
    repeat (rw [if_neg (by omega)])
end
end Go.Ab.Wave
