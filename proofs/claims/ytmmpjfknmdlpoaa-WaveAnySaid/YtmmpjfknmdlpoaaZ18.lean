/- The coast's grid, sea and model, whole; parts of spans; starts. -/
import Derived.Test.YtmmpjfknmdlpoaaZ17
set_option linter.unusedSimpArgs false
set_option linter.unusedVariables false
set_option linter.unusedSectionVars false
namespace Go.Ab.Wave
open Go Go.Ab
def srcAt (ss : List Int) (i : Nat) : Src := ⟨gi ss (i * 5), gi ss (i * 5 + 1), gi ss (i * 5 + 2), gi ss (i * 5 + 3), gi ss (i * 5 + 4)⟩
def srcsE (P : Par) (ss : List Int) : Nat → Nat → Int
  | _, 0 => 0
  | i, k + 1 => if (srcAt ss i).err P.l.length = 0 then srcsE P ss (i + 1) k else (srcAt ss i).err P.l.length
theorem srcsE_zero {P : Par} {ss : List Int} : ∀ {k i : Nat}, srcsE P ss i k = 0 → ∀ j, i ≤ j → j < i + k → (srcAt ss j).err P.l.length = 0
  | 0, i, _, j, h1, h2 => by omega
  | k + 1, i, h, j, h1, h2 => by
    unfold srcsE at h
    split at h
    · rename_i h0
      by_cases e : j = i
      · rw [e]; exact h0
      · exact srcsE_zero h j (by omega) (by omega)
    · contradiction
noncomputable def srcB (P : Par) (S : Src) : List Int := bounds P (srcZ P S) (srcC P S).length
def SrcFin (P : Par) (S : Src) : Prop := SprOk P (srcZ P S) (srcC P S).length ∧ SprFin P (srcZ P S) (srcC P S).length
noncomputable def waveL (P : Par) (ss : List Int) : Nat → List Int
  | 0 => srcB P (srcAt ss 0)
  | i + 1 => joinL (waveL P ss i) (srcB P (srcAt ss (i + 1))) (P.l.length * 8)
theorem waveL_len {P : Par} {ss : List Int} : ∀ i, (waveL P ss i).length = P.l.length * 8
  | 0 => bounds_len
  | i + 1 => joinL_len
section
variable {g : Nat} {D : List Nat} {rd : Option Nat} {Q : Ex → St → Prop} {P : Par} {ss : List Int} {n : Nat} {sls : Value}
theorem loop19a {A0 : Hp} {b4 : Nat} {T0 : List Value} (hn : n < 1000000) (hgr : groundOf A0 P.sl = some P.l) (hg : g ≤ A0.n)
    (hb : A0.get b4 = some (.cells [.int .i64 P.w, .int .i64 P.h, .int .i64 P.s, P.sl] false)) (hr : RdS A0 5 n (ints ss) sls)
    (hQ : ∀ T' A', Ext' A0 A' → srcsE P ss 0 n = 0 → (∀ i, i < 10 → tget T' i = tget T0 i) → Q (.exit 0) ⟨T', D, A'⟩)
    (hE : ∀ T' A', Ext' A0 A' → srcsE P ss 0 n ≠ 0 → tget T' 8 = .slice none 0 0 → tget T' 9 = .int .i64 (srcsE P ss 0 n) → Q .ret ⟨T', D, A'⟩) :
    ∀ (k i : Nat) (T : List Value) (A : Hp), i + k = n → Ext' A0 A → srcsE P ss 0 n = srcsE P ss i k → (∀ i, i < 10 → tget T i = tget T0 i) → tget T0 4 = ptrV b4 → tget T 30 = sls → tget T 31 = .int .i64 n → tget T 32 = .int .i64 i → W AP KL g rd (.loop body19a) ⟨T, D, A⟩ Q := by
  intro k
  have hzl : ss.length = n * 5 := by have := hr.1; rwa [ints_length] at this
  induction k with
  | zero =>
    intro i T A hi hE0 he hT t4 t30 t31 t32
    have : i = n := by omega
    subst this
    rw [W_loop]
    simp (disch := as_aux_lemma => first | omega | simp only [hDs] <;> omega | simp [isCell]) [hRs, takeMarks, resA, resAll, resOne, Value.cells, body19a, t31, t32]
    refine hQ _ A hE0 (by rw [he]; rfl) fun j hj => ?_
    simp only [tget_tset]
    rw [if_neg (by omega)]
    exact hT j hj
  | succ k ih =>
    intro i T A hi hE0 he hT t4' t30 t31 t32
    have t4 := (hT 4 (by omega)).trans t4'
    obtain ⟨y, cap, ro, hsl, hy⟩ := hr.at (i := i) (by omega)
    have hy := hE0.get hy
    have hyn := Hp.lt_of_get hy
    have hbA := hE0.get hb
    have hbn := Hp.lt_of_get hbA
    have hgA := hE0.1
    obtain ⟨B, hB⟩ : ∃ B, B = A.push (.cells [.int .i64 (gi ss (i * 5)), .int .i64 (gi ss (i * 5 + 1)), .int .i64 (gi ss (i * 5 + 2)), .int .i64 (gi ss (i * 5 + 3)), .int .i64 (gi ss (i * 5 + 4))] false) := ⟨_, rfl⟩
    have kB : Ext' A B := by rw [hB]; exact Ext'.push _ _
    have gB : B.get A.n = some (.cells [.int .i64 (gi ss (i * 5)), .int .i64 (gi ss (i * 5 + 1)), .int .i64 (gi ss (i * 5 + 2)), .int .i64 (gi ss (i * 5 + 3)), .int .i64 (gi ss (i * 5 + 4))] false) := by rw [hB]; exact get_push_new
    have hbB := kB.get hbA
    have hgB := groundOf_mono hgr (hE0.trans kB).2
    have ee : (srcAt ss i).err P.l.length = srcErr P.l.length (gi ss (i * 5)) (gi ss (i * 5 + 1)) (gi ss (i * 5 + 2)) (gi ss (i * 5 + 3)) (gi ss (i * 5 + 4)) := rfl
    rw [W_loop]
    simp (disch := as_aux_lemma => first | omega | simp only [hDs] <;> omega | simp [isCell]) [hRs, takeMarks, resA, resAll, resOne, Value.cells, body19a, t30, t31, t32, hsl, show (i : Int) < (n : Int) by omega, idxSA_ok, hy, ints_5, cellsFrom, storeB_cells, setRange_all]
    rw [← hB]
    by_cases h0 : srcErr P.l.length (gi ss (i * 5)) (gi ss (i * 5 + 1)) (gi ss (i * 5 + 2)) (gi ss (i * 5 + 3)) (gi ss (i * 5 + 4)) = 0
    · simp (disch := as_aux_lemma => first | omega | simp only [hDs] <;> omega | simp [isCell]) [hRs, takeMarks, resA, resAll, resOne, Value.cells, t4, ptrV, hbB, gB, WF_spec (show KL 38 = some S38 from rfl), S38_eq hgB, h0, t32]
      refine ih (i + 1) _ B (by omega) (hE0.trans kB) ?_ ?_ t4' ?_ ?_ ?_
      · rw [he]; show (if (srcAt ss i).err P.l.length = 0 then _ else _) = _; rw [ee, if_pos h0]
      · intro j hj
        simp only [tget_tset]
        repeat (rw [if_neg (by omega)])
        exact hT j hj
      · simp [t30, hsl]
      · simp [t31]
      · simp [wrId (n := (i : Int) + 1) (by omega) (by omega)]
    · simp (disch := as_aux_lemma => first | omega | simp only [hDs] <;> omega | simp [isCell]) [hRs, takeMarks, resA, resAll, resOne, Value.cells, t4, ptrV, hbB, gB, WF_spec (show KL 38 = some S38 from rfl), S38_eq hgB, h0]
      have e : srcsE P ss 0 n = (srcAt ss i).err P.l.length := by rw [he]; unfold srcsE; rw [ee, if_neg h0]
      refine hE _ B (hE0.trans kB) (by rw [e, ee]; exact h0) ?_ ?_
      · simp
      · simp [e, ee]
theorem loop19b {A0 : Hp} {b4 b5 b6 x y cy : Nat} {ro : Bool} {T0 : List Value} (hn : n < 1000000) (h1n : 1 ≤ n) (hs : P.l.length ≤ 40) (hp : prepE P = 0) (he : ∀ j, j < n → (srcAt ss j).err P.l.length = 0)
    (hgr : groundOf A0 P.sl = some P.l) (hgx : ∀ x' o k n c, P.sl = .slice (some ⟨x', o, k⟩) n c → x' < x) (hg : g ≤ x) (hx0 : x < A0.n)
    (hb4 : A0.get b4 = some (.cells [.int .i64 P.w, .int .i64 P.h, .int .i64 P.s, P.sl] false)) (hb5 : A0.get b5 = some (.cells [.int .i64 P.slo, .int .i64 P.shi] false)) (hb6 : A0.get b6 = some (.cells [.int .i64 P.k0, .int .i64 P.k1, .int .i64 P.l0, .int .i64 P.l1, .int .i64 P.o0, .int .i64 P.o1] false))
    (h4 : b4 < x) (h5 : b5 < x) (h6 : b6 < x) (hyx : y < x) (hy : A0.get y = some (.cells (ints ss) ro)) (hzl : ss.length = n * 5)
    (q4 : tget T0 4 = ptrV b4) (q5 : tget T0 5 = ptrV b5) (q6 : tget T0 6 = ptrV b6) (q14 : tget T0 14 = .slice (some ⟨x, 0, some 8⟩) P.l.length P.l.length) (q60 : tget T0 60 = .slice (some ⟨y, 5, some 5⟩) (n - 1) cy) (q61 : tget T0 61 = .int .i64 ((n - 1 : Nat) : Int))
    (hQ : ∀ T' A', Keep (fun z => z = x) A0 A' → A'.get x = some (.cells (ints (waveL P ss (n - 1))) false) → (∀ j, j < n → SrcFin P (srcAt ss j)) → tget T' 14 = tget T0 14 → Q (.exit 2) ⟨T', D, A'⟩) :
    ∀ (k i : Nat) (T : List Value) (A : Hp), i + k = n - 1 → Keep (fun z => z = x) A0 A → A.get x = some (.cells (ints (waveL P ss i)) false) → (∀ j, j ≤ i → SrcFin P (srcAt ss j)) → (∀ i, (i = 4 ∨ i = 5 ∨ i = 6 ∨ i = 14 ∨ i = 60 ∨ i = 61) → tget T i = tget T0 i) → tget T 62 = .int .i64 i → W AP KL g rd (.loop body19b) ⟨T, D, A⟩ Q := by
  intro k
  induction k with
  | zero =>
    intro i T A hi hk hx hf hT t62
    have e : i = n - 1 := by omega
    have t61 := (hT 61 (by omega)).trans q61
    rw [W_loop]
    simp (disch := as_aux_lemma => first | omega | simp only [hDs] <;> omega | simp [isCell]) [hRs, takeMarks, resA, resAll, resOne, Value.cells, body19b, t61, t62, show ¬ (i : Int) < ((n - 1 : Nat) : Int) by omega]
    refine hQ _ A hk (by rw [← e]; exact hx) (fun j hj => hf j (by omega)) ?_
    simp [hT 14 (by omega)]
  | succ k ih =>
    intro i T A hi hk hx hf hT t62
    have t4 := (hT 4 (by omega)).trans q4
    have t5 := (hT 5 (by omega)).trans q5
    have t6 := (hT 6 (by omega)).trans q6
    have t14 := (hT 14 (by omega)).trans q14
    have t60 := (hT 60 (by omega)).trans q60
    have t61 := (hT 61 (by omega)).trans q61
    have ko : ∀ z b, z < x → A0.get z = some b → A.get z = some b := fun z b hz h => by rw [hk.2 z (Hp.lt_of_get h) (by omega)]; exact h
    have hyA := ko y _ hyx hy
    have c4 := ko b4 _ h4 hb4
    have c5 := ko b5 _ h5 hb5
    have c6 := ko b6 _ h6 hb6
    have hyn := Hp.lt_of_get hyA
    have hnA := hk.1
    have n4 := Hp.lt_of_get c4
    have n5 := Hp.lt_of_get c5
    have n6 := Hp.lt_of_get c6
    have hgA : groundOf A P.sl = some P.l := by
      rcases (groundOf_cases hgr).2 with ⟨e1, e2⟩ | ⟨x', cap, ro', e1, e2⟩
      · rw [e1, e2]; rfl
      · have hlt := hgx _ _ _ _ _ e1
        have e3 := ko x' _ hlt e2
        unfold groundOf at hgr ⊢
        rw [e1] at hgr ⊢
        simp only [e2] at hgr
        simp only [e3]
        exact hgr
    obtain ⟨S, hS⟩ : ∃ S, S = srcAt ss (i + 1) := ⟨_, rfl⟩
    have f0 : gi ss (5 + i * 5) = S.k := by rw [hS, show 5 + i * 5 = (i + 1) * 5 by omega]; rfl
    have f1 : gi ss (5 + i * 5 + 1) = S.c := by rw [hS, show 5 + i * 5 + 1 = (i + 1) * 5 + 1 by omega]; rfl
    have f2 : gi ss (5 + i * 5 + 2) = S.cl := by rw [hS, show 5 + i * 5 + 2 = (i + 1) * 5 + 2 by omega]; rfl
    have f3 : gi ss (5 + i * 5 + 3) = S.lo := by rw [hS, show 5 + i * 5 + 3 = (i + 1) * 5 + 3 by omega]; rfl
    have f4 : gi ss (5 + i * 5 + 4) = S.hi := by rw [hS, show 5 + i * 5 + 4 = (i + 1) * 5 + 4 by omega]; rfl
    obtain ⟨B, hB⟩ : ∃ B, B = A.push (.cells [.int .i64 S.k, .int .i64 S.c, .int .i64 S.cl, .int .i64 S.lo, .int .i64 S.hi] false) := ⟨_, rfl⟩
    have kB : Ext' A B := by rw [hB]; exact Ext'.push _ _
    have gB : B.get A.n = some (.cells [.int .i64 S.k, .int .i64 S.c, .int .i64 S.cl, .int .i64 S.lo, .int .i64 S.hi] false) := by rw [hB]; exact get_push_new
    have d4 := kB.get c4
    have d5 := kB.get c5
    have d6 := kB.get c6
    have hSe : S.err P.l.length = 0 := by rw [hS]; exact he _ (by omega)
    have hok : SprOk P (srcZ P S) (srcC P S).length := SprOk.mk' (prep_ok hp hs) (src_ok hSe)
    have hcl := srcC_len (P := P) (S := S)
    rw [W_loop]
    simp (disch := as_aux_lemma => first | omega | simp only [hDs] <;> omega | simp [isCell]) [hRs, takeMarks, resA, resAll, resOne, Value.cells, body19b, t61, t62, t60, show (i : Int) < ((n - 1 : Nat) : Int) by omega, idxSA_ok, hyA, ints_5, cellsFrom, storeB_cells, setRange_all, f0, f1, f2, f3, f4]
    rw [← hB]
    simp (disch := as_aux_lemma => first | omega | simp only [hDs] <;> omega | simp [isCell]) [hRs, takeMarks, resA, resAll, resOne, Value.cells, t4, t5, t6, ptrV, d4, d5, d6, gB]
    refine w39 (P := P) (S := S) (groundOf_mono hgA kB.2) (prep_chk hp) hSe fun A1 sv k1 hr1 => ?_
    simp (disch := as_aux_lemma => first | omega | simp only [hDs] <;> omega | simp [isCell]) [hRs, takeMarks, resA, resAll, resOne, Value.cells]
    have n1 := k1.1
    have nB := kB.1
    refine w45 hok (groundOf_mono (groundOf_mono hgA kB.2) k1.2) (by omega) (RdS.low hr1) (by omega) fun A2 z k2 hz g2 hF => ?_
    have kA : Ext' A A2 := (kB.trans k1).trans k2
    simp (disch := as_aux_lemma => first | omega | simp only [hDs] <;> omega | simp [isCell]) [hRs, takeMarks, resA, resAll, resOne, Value.cells]
    refine loop19c (A0 := A2) (a := waveL P ss i) (b := srcB P S) (n := P.l.length) (x := x) (y := z) (cy := P.l.length) (T0 := _) (by omega) (waveL_len i) bounds_len (by omega) hg (fun T' A' k3 h3 hT' => ?_) P.l.length 0 _ A2 (by omega) (Keep.refl _ _) (by rw [mixL_zero (waveL_len i)]; exact kA.get hx) g2 (fun _ _ => rfl) ?_ ?_ ?_ ?_
    · have r4 := hT' 4 (by omega)
      have r5 := hT' 5 (by omega)
      have r6 := hT' 6 (by omega)
      have r14 := hT' 14 (by omega)
      have r60 := hT' 60 (by omega)
      have r61 := hT' 61 (by omega)
      have r62 := hT' 62 (by omega)
      simp at r4 r5 r6 r14 r60 r61 r62
      simp (disch := as_aux_lemma => first | omega | simp only [hDs] <;> omega | simp [isCell]) [hRs, takeMarks, resA, resAll, resOne, Value.cells, r62, t62]
      refine ih (i + 1) _ A' (by omega) ((hk.trans (kA.keep _)).trans k3) ?_ ?_ ?_ ?_
      · rw [h3, hS]; rfl
      · intro j hj
        by_cases e : j = i + 1
        · rw [e, ← hS]; exact ⟨hok, hF⟩
        · exact hf j (by omega)
      · intro j hj
        have : j ≠ 62 := by omega
        have : j ≠ 123 := by omega
        simp only [tget_tset]
        repeat (rw [if_neg (by omega)])
        rcases hj with rfl | rfl | rfl | rfl | rfl | rfl
        · rw [r4, hT 4 (by omega)]
        · rw [r5, hT 5 (by omega)]
        · rw [r6, hT 6 (by omega)]
        · rw [r14, hT 14 (by omega)]
        · rw [r60, hT 60 (by omega)]
        · rw [r61, hT 61 (by omega)]
      · simp [wrId (n := (i : Int) + 1) (by omega) (by omega)]
    · simp [t14]
    all_goals simp
end
end Go.Ab.Wave
namespace Go.Ab.Wave
open Go Go.Ab
def waveE (P : Par) (ss : List Int) (n : Nat) : Int := if prepE P = 0 then (if 256 < n then 9 else srcsE P ss 0 n) else prepE P
noncomputable def waveRes (P : Par) (ss : List Int) (n : Nat) : List Int := if waveE P ss n = 0 then (if n = 0 then bounds P [] 0 else waveL P ss (n - 1)) else []
structure WaveFin (P : Par) (ss : List Int) (n : Nat) : Prop where
  prep : prepE P = 0
  none : n = 0 → SprOk P [] 0 ∧ SprFin P [] 0
  one : ∀ j, j < n → (srcAt ss j).err P.l.length = 0 ∧ SrcFin P (srcAt ss j)
section
variable {g : Nat} {A : Hp} {V : Value → Hp → Prop} {P : Par} {ss : List Int} {n : Nat} {sls : Value}
theorem w19 (hs : P.l.length ≤ 40) (hgr : groundOf A P.sl = some P.l) (hn : n < 1000000) (hr : RdS A 5 n (ints ss) sls) (hg : g ≤ A.n)
    (hQ : ∀ A' sv, Ext' A A' → AccS A.n A' 8 (ints (waveRes P ss n)) sv → (waveE P ss n = 0 → WaveFin P ss n) → V (.tuple ⟨[sv, .int .i64 (waveE P ss n)]⟩) A') :
    WF AP KL g 19 [gridV P.w P.h P.s P.sl, spn P.slo P.shi, modelV P.k0 P.k1 P.l0 P.l1 P.o0 P.o1, sls] A V := by
  have hzl : ss.length = n * 5 := by have := hr.1; rwa [ints_length] at this
  have hlenS := hr.len
  obtain ⟨B, hB⟩ : ∃ B, B = ((A.push (.cells [.int .i64 P.w, .int .i64 P.h, .int .i64 P.s, P.sl] false)).push (.cells [.int .i64 P.slo, .int .i64 P.shi] false)).push (.cells [.int .i64 P.k0, .int .i64 P.k1, .int .i64 P.l0, .int .i64 P.l1, .int .i64 P.o0, .int .i64 P.o1] false) := ⟨_, rfl⟩
  have kB : Ext' A B := by rw [hB]; exact ((Ext'.push _ _).trans (Ext'.push _ _)).trans (Ext'.push _ _)
  have b4 : B.get A.n = some (.cells [.int .i64 P.w, .int .i64 P.h, .int .i64 P.s, P.sl] false) := by rw [hB]; exact push3_a
  have b5 : B.get (A.n + 1) = some (.cells [.int .i64 P.slo, .int .i64 P.shi] false) := by rw [hB]; exact push3_b
  have b6 : B.get (A.n + 2) = some (.cells [.int .i64 P.k0, .int .i64 P.k1, .int .i64 P.l0, .int .i64 P.l1, .int .i64 P.o0, .int .i64 P.o1] false) := by rw [hB]; exact push3_c
  have nB : B.n = A.n + 3 := by rw [hB]; rfl
  have hgB := groundOf_mono hgr kB.2
  have bad : ∀ A' e, Ext' A A' → waveE P ss n = e → e ≠ 0 → V (.tuple ⟨[.slice none 0 0, .int .i64 e]⟩) A' := by
    intro A' e k h h0
    have := hQ A' (.slice none 0 0) k (.inl ⟨rfl, by unfold waveRes; rw [if_neg (by rw [h]; exact h0)]; rfl⟩) (fun h' => absurd (h ▸ h') h0)
    rw [h] at this
    exact this
  rw [WF_body rfl (show AP 19 = some F19 from rfl)]
  simp (disch := as_aux_lemma => first | omega | simp only [hDs] <;> omega | simp [isCell]) [hRs, takeMarks, resA, resAll, resOne, Value.cells, gridV, spn, modelV, J]
  rw [← hB]
  refine w44 hgB (by omega) fun A1 k1 => ?_
  have c4 := k1.get b4
  have c5 := k1.get b5
  have c6 := k1.get b6
  have n1 := k1.1
  by_cases h1 : prepE P = 0
  · by_cases h2 : 256 < n
    · simp (disch := as_aux_lemma => first | omega | simp only [hDs] <;> omega | simp [isCell]) [hRs, takeMarks, resA, resAll, resOne, Value.cells, h1, hlenS, show (256 : Int) < n by omega]
      exact bad _ 9 (kB.trans k1) (by unfold waveE; rw [if_pos h1, if_pos h2]) (by omega)
    · have he : waveE P ss n = srcsE P ss 0 n := by unfold waveE; rw [if_pos h1, if_neg h2]
      simp (disch := as_aux_lemma => first | omega | simp only [hDs] <;> omega | simp [isCell]) [hRs, takeMarks, resA, resAll, resOne, Value.cells, h1, hlenS, show ¬ (256 : Int) < n by omega]
      refine loop19a (A0 := A1) (b4 := A.n) hn (groundOf_mono hgB k1.2) (by omega) c4 (hr.mono (kB.trans k1).2) (fun T' A2 k2 h3 hT => ?_) (fun T' A2 k2 h3 h8 h9 => ?_) n 0 _ A1 (by omega) (Ext'.refl _) rfl (fun _ _ => rfl) ?_ ?_ ?_ ?_
      · have q4 := hT 4 (by omega)
        have q5 := hT 5 (by omega)
        have q6 := hT 6 (by omega)
        have q3 := hT 3 (by omega)
        simp at q4 q5 q6 q3
        have d4 := k2.get c4
        have d5 := k2.get c5
        have d6 := k2.get c6
        have n2 := k2.1
        have kA := (kB.trans k1).trans k2
        have hg2 := groundOf_mono hgr kA.2
        have h0 : waveE P ss n = 0 := by rw [he]; exact h3
        have hpos : 0 < P.l.length := (prep_ok h1 hs).pos
        by_cases hn0 : n = 0
        · subst hn0
          have hok : SprOk P [] 0 := SprOk.mk' (prep_ok h1 hs) ⟨rfl, fun i hi => by omega, fun i hi => by omega, fun i hi => by omega⟩
          simp (disch := as_aux_lemma => first | omega | simp only [hDs] <;> omega | simp [isCell]) [hRs, takeMarks, resA, resAll, resOne, Value.cells, q4, q5, q6, q3, d4, d5, d6, hlenS]
          refine w45 hok hg2 (by omega) ⟨rfl, .inl ⟨rfl, rfl⟩⟩ (by omega) fun A3 x k3 hx g3 hF => ?_
          simp (disch := as_aux_lemma => first | omega | simp only [hDs] <;> omega | simp [isCell]) [hRs, takeMarks, resA, resAll, resOne, Value.cells]
          have hlb : (ints (bounds P [] 0)).length = P.l.length * 8 := by rw [ints_length]; exact bounds_len
          have := hQ A3 (.slice (some ⟨x, 0, some 8⟩) P.l.length P.l.length) (kA.trans k3) (by
            unfold waveRes
            rw [if_pos h0, if_pos rfl]
            exact .inr ⟨x, P.l.length, rfl, g3, by have := kA.1; omega, hlb, hpos⟩) fun _ => ⟨h1, fun _ => ⟨hok, hF⟩, fun j hj => by omega⟩
          rw [h0] at this
          exact this
        · obtain ⟨y, cap, ro, hsl, hy0⟩ := hr.at (i := 0) (by omega)
          have hy := kA.get hy0
          have hyn := Hp.lt_of_get hy0
          have hz : ∀ j, j < n → (srcAt ss j).err P.l.length = 0 := fun j hj => srcsE_zero h3 j (by omega) (by omega)
          obtain ⟨S, hS⟩ : ∃ S, S = srcAt ss 0 := ⟨_, rfl⟩
          have f0 : gi ss 0 = S.k := by rw [hS]; rfl
          have f1 : gi ss 1 = S.c := by rw [hS]; rfl
          have f2 : gi ss 2 = S.cl := by rw [hS]; rfl
          have f3 : gi ss 3 = S.lo := by rw [hS]; rfl
          have f4 : gi ss 4 = S.hi := by rw [hS]; rfl
          have hSe : S.err P.l.length = 0 := by rw [hS]; exact hz _ (by omega)
          have hok : SprOk P (srcZ P S) (srcC P S).length := SprOk.mk' (prep_ok h1 hs) (src_ok hSe)
          have hcl := srcC_len (P := P) (S := S)
          have rs : ∀ T : List Value, resliceA 5 (.slice (some ⟨y, 0, some 5⟩) n cap) (boundA T 0 (some (.k (.int .i64 1)))) (fun m => boundA T m none) = some (.slice (some ⟨y, 5, some 5⟩) (n - 1) (Max.max n cap - 1)) := fun T => resliceA_from (T := T) (b := y) (o := 0) (n := n) (c := cap) (esz := 5) (i := 1) (by omega) (by omega)
          simp (disch := as_aux_lemma => first | omega | simp only [hDs] <;> omega | simp [isCell]) [hRs, takeMarks, resA, resAll, resOne, Value.cells, q4, q5, q6, q3, d4, d5, d6, hlenS, hn0, hsl, idxSA_ok, show (0 : Int) < n by omega, hy, ints_5, cellsFrom, f0, f1, f2, f3, f4]
          refine w39 (P := P) (S := S) hg2 (prep_chk h1) hSe fun A3 sv k3 hr3 => ?_
          simp (disch := as_aux_lemma => first | omega | simp only [hDs] <;> omega | simp [isCell]) [hRs, takeMarks, resA, resAll, resOne, Value.cells]
          have n3 := k3.1
          refine w45 hok (groundOf_mono hg2 k3.2) (by omega) (RdS.low hr3) (by omega) fun A4 x k4 hx g4 hF => ?_
          have kC : Ext' A2 A4 := k3.trans k4
          simp (disch := as_aux_lemma => first | omega | simp only [hDs] <;> omega | simp [isCell]) [hRs, takeMarks, resA, resAll, resOne, Value.cells, q3, hsl, rs]
          refine loop19b (A0 := A4) (b4 := A.n) (b5 := A.n + 1) (b6 := A.n + 2) (x := x) (y := y) (cy := Max.max n cap - 1) (ro := ro) (P := P) (ss := ss) (n := n) (T0 := _) hn (by omega) hs h1 hz (groundOf_mono hg2 kC.2) ?_ (by omega) (Hp.lt_of_get g4) (kC.get d4) (kC.get d5) (kC.get d6) (by omega) (by omega) (by omega) (by omega) (kC.get hy) hzl ?_ ?_ ?_ ?_ ?_ ?_ (fun T5 A5 k5 g5 hF5 r14 => ?_) (n - 1) 0 _ A4 (by omega) (Keep.refl _ _) ?_ ?_ (fun _ _ => rfl) ?_
          · intro x' o k nn c e
            rcases (groundOf_cases hgr).2 with ⟨e1, e2⟩ | ⟨x'', cap', ro', e1, e2⟩
            · rw [e1] at e; cases e
            · rw [e1] at e
              cases e
              have := Hp.lt_of_get e2
              omega
          · simp [q4, ptrV]
          · simp [q5, ptrV]
          · simp [q6, ptrV]
          · simp
          · simp
          · simp
          · have r14' := r14
            simp at r14'
            simp (disch := as_aux_lemma => first | omega | simp only [hDs] <;> omega | simp [isCell]) [hRs, takeMarks, resA, resAll, resOne, Value.cells, r14']
            have hlb : (ints (waveL P ss (n - 1))).length = P.l.length * 8 := by rw [ints_length]; exact waveL_len _
            have kD : Ext' A A5 := ⟨by have := kA.1; have := kC.1; have := k5.1; omega, fun z hz => by rw [k5.2 z (by have := kA.1; have := kC.1; omega) (by omega), kC.2 z (by have := kA.1; omega), kA.2 z hz]⟩
            have := hQ A5 (.slice (some ⟨x, 0, some 8⟩) P.l.length P.l.length) kD (by
              unfold waveRes
              rw [if_pos h0, if_neg hn0]
              exact .inr ⟨x, P.l.length, rfl, g5, by have := kA.1; omega, hlb, hpos⟩) fun _ => ⟨h1, fun h => absurd h hn0, fun j hj => ⟨hz j hj, hF5 j hj⟩⟩
            rw [h0] at this
            exact this
          · rw [g4, hS]; rfl
          · intro j hj
            have : j = 0 := by omega
            subst this
            rw [← hS]
            exact ⟨hok, hF⟩
          · simp
      · simp (disch := as_aux_lemma => first | omega | simp only [hDs] <;> omega | simp [isCell]) [hRs, takeMarks, resA, resAll, resOne, Value.cells, h8, h9]
        exact bad A2 _ ((kB.trans k1).trans k2) he h3
      all_goals simp [ptrV]
  · simp (disch := as_aux_lemma => first | omega | simp only [hDs] <;> omega | simp [isCell]) [hRs, takeMarks, resA, resAll, resOne, Value.cells, h1]
    exact bad A1 _ (kB.trans k1) (by unfold waveE; rw [if_neg h1]) h1
end
end Go.Ab.Wave
namespace Go.Ab.Wave
open Go Go.Ab
theorem Stl.dom {S T : Stl} {vs0 la0 vs la vs0' : List Int} (hs : S.Fin vs0 la0 vs la) (hn : T.n = S.n) (hnb : ∀ a, a < S.n → ∀ b, b ∈ T.nb a → b ∈ S.nb a) (hlt : ∀ a b, b ∈ S.nb a → b < S.n)
    (h0 : ∀ b, b < S.n → S.key (gi vs0 b) ≤ S.key (gi vs0' b))
    (hst : ∀ a b u, a < S.n → b ∈ S.nb a → S.key (gi vs a) ≤ S.key u → (T.sp a b u).2 = true → ((S.sp a b (gi vs a)).2 = true ∧ S.key (S.sp a b (gi vs a)).1 ≤ S.key (T.sp a b u).1) ∨ S.key (gi vs b) ≤ S.key (T.sp a b u).1) :
    ∀ {b : Nat} {u : Int}, T.Der vs0' b u → S.key (gi vs b) ≤ S.key u := by
  intro b u h
  induction h with
  | init hb => exact Int.le_trans (hs.mid.imp _ (hn ▸ hb)) (h0 _ (hn ▸ hb))
  | step ha _ hb hs' ih =>
    have ha' := hn ▸ ha
    have hb' := hnb _ ha' _ hb
    rcases hst _ _ _ ha' hb' ih hs' with ⟨h1, h2⟩ | h
    · have := (hs.cl _ _ ha' hb' h1).1
      omega
    · exact h
theorem rt_nn {b : Bool} {x : Int} : 0 ≤ x → 0 ≤ rt b x := fun h => le_rt h (by omega) (by omega)
theorem rt_le_le {b b' : Bool} (h : b = true → b' = true) {x y : Int} (hx : 0 ≤ x) (hxy : x ≤ y) : rt b x ≤ rt b' y := by
  have hy : 0 ≤ y := by omega
  have mono : ∀ {x y : Int}, 0 ≤ x → x ≤ y → rootI x ≤ rootI y := fun {x y} hx hxy => by
    unfold rootI
    have := isq_lt (n := y.toNat) (r := isq x.toNat)
    have h1 := (isq_spec x.toNat).1
    have := this.2 (by omega)
    omega
  have up : ∀ {x : Int}, 0 ≤ x → rootI x ≤ rootUpI x := fun {x} hx => by
    have := rt_le (b := false) (n := x) (r := rootUpI x) hx (rt_nn (b := true) hx)
    unfold rootUpI
    split
    · rename_i h0; subst h0; decide
    · have h1 := (isq_spec (x - 1).toNat).2
      have h2 := (isq_spec x.toNat).1
      unfold rootI
      have := isq_lt (n := (x - 1).toNat) (r := isq x.toNat - 1)
      rcases Nat.eq_zero_or_pos (isq x.toNat) with h3 | h3
      · omega
      · have h4 : (isq x.toNat - 1) * (isq x.toNat - 1) ≤ (x - 1).toNat := by
          obtain ⟨r, hr⟩ : ∃ r, isq x.toNat = r + 1 := ⟨isq x.toNat - 1, by omega⟩
          rw [hr] at h2 ⊢
          rw [Nat.add_mul, Nat.mul_add] at h2
          simp only [Nat.add_sub_cancel]
          omega
        have := this.2 h4
        omega
  have upm : ∀ {x y : Int}, 0 ≤ x → x ≤ y → rootUpI x ≤ rootUpI y := fun {x y} hx hxy => by
    unfold rootUpI
    split
    · split
      · omega
      · have : 0 ≤ rootI (y - 1) := by unfold rootI; omega
        omega
    · rw [if_neg (by omega)]
      have := mono (x := x - 1) (y := y - 1) (by omega) (by omega)
      omega
  unfold rt
  cases b <;> cases b'
  · exact mono hx hxy
  · exact Int.le_trans (mono hx hxy) (up hy)
  · exact absurd (h rfl) (by decide)
  · exact upm hx hxy
theorem tdiv_le_of {x y k : Int} (hx : 0 ≤ x) (hy : 0 < y) (h : x < (k + 1) * y) : x.tdiv y ≤ k := by
  rw [Int.tdiv_eq_ediv_of_nonneg hx]
  have := (Int.ediv_lt_iff_lt_mul hy).2 h
  omega
theorem le_tdiv_of {x y k : Int} (hx : 0 ≤ x) (hy : 0 < y) (h : k * y ≤ x) : k ≤ x.tdiv y := by
  rw [Int.tdiv_eq_ediv_of_nonneg hx]
  exact (Int.le_ediv_iff_mul_le hy).2 h
theorem tdiv_mul_le {x y : Int} (hx : 0 ≤ x) (hy : 0 < y) : x.tdiv y * y ≤ x := by
  rw [Int.tdiv_eq_ediv_of_nonneg hx]
  exact Int.ediv_mul_le x (by omega)
theorem dv_le_le {b b' : Bool} (h : b = true → b' = true) {x y x' y' : Int} (hx : 0 ≤ x) (hxx : x ≤ x') (hy' : 0 < y') (hyy : y' ≤ y) : dv b x y ≤ dv b' x' y' := by
  have down : x.tdiv y ≤ x'.tdiv y' := by
    refine le_tdiv_of (by omega) hy' ?_
    have h1 := tdiv_mul_le hx (show 0 < y by omega)
    have h2 : 0 ≤ x.tdiv y := Int.tdiv_nonneg hx (by omega)
    have := Int.mul_le_mul_of_nonneg_left hyy h2
    omega
  have up1 : x'.tdiv y' ≤ upI x' y' := by
    unfold upI
    exact Int.tdiv_le_tdiv hy' (by omega)
  unfold dv
  cases b <;> cases b'
  · exact down
  · exact Int.le_trans down up1
  · exact absurd (h rfl) (by decide)
  · show upI x y ≤ upI x' y'
    unfold upI
    have hc : 0 ≤ x' + y' - 1 := by omega
    refine tdiv_le_of (by omega) (by omega) ?_
    have h3 : x' ≤ (x' + y' - 1).tdiv y' * y' := by
      rw [Int.tdiv_eq_ediv_of_nonneg hc]
      have := Int.emod_add_mul_ediv (x' + y' - 1) y'
      have := Int.emod_lt_of_pos (x' + y' - 1) hy'
      rw [Int.mul_comm]
      omega
    have h4 : 0 ≤ (x' + y' - 1).tdiv y' := Int.tdiv_nonneg hc (by omega)
    have h5 := Int.mul_le_mul_of_nonneg_left hyy h4
    rw [Int.add_mul]
    omega
theorem dv_nn {b : Bool} {x y : Int} (hx : 0 ≤ x) (hy : 0 < y) : 0 ≤ dv b x y := (dv_bounds hx hy).1
theorem fourth_le_le {b b' : Bool} (h : b = true → b' = true) {d d' : Int} (h1 : 0 ≤ d) (h2 : d ≤ d') : fourthE b d ≤ fourthE b' d' :=
  rt_le_le h (rt_nn (by omega)) (rt_le_le h (by omega) (by omega))
structure Dom (P N : Par) : Prop where
  up : N.up = true → P.up = true
  w : P.w = N.w
  h : P.h = N.h
  s : P.s = N.s
  len : P.l.length = N.l.length
  dep : ∀ c, c < P.l.length → N.dep c ≤ P.dep c
  lst : ∀ c, c < P.l.length → P.lst c ≤ N.lst c
  gr : ∀ c, c < P.l.length → agE P.up (P.glo c) (P.ghi c) ≤ agE N.up (N.glo c) (N.ghi c)
  keep : ofE N.up N.k0 N.k1 ≤ ofE P.up P.k0 P.k1
  land : agE P.up P.l0 P.l1 ≤ agE N.up N.l0 N.l1
  loss : agE P.up P.o0 P.o1 ≤ agE N.up N.o0 N.o1
  sea : ofE N.up N.slo N.shi ≤ ofE P.up P.slo P.shi
structure DomZ (P N : Par) (zp zn : List Int) (n : Nat) : Prop where
  cell : ∀ i, i < n → gi zp (i * 5) = gi zn (i * 5)
  time : ∀ i, i < n → agE P.up (gi zp (i * 5 + 1)) (gi zp (i * 5 + 2)) ≤ agE N.up (gi zn (i * 5 + 1)) (gi zn (i * 5 + 2))
  rise : ∀ i, i < n → ofE N.up (gi zn (i * 5 + 3)) (gi zn (i * 5 + 4)) ≤ ofE P.up (gi zp (i * 5 + 3)) (gi zp (i * 5 + 4))
section
variable {P N : Par} {zp zn : List Int} {n : Nat}
theorem Dom.nb (D : Dom P N) (a : Nat) : nbP N a = nbP P a := by unfold nbP; rw [D.w, D.h]
theorem Dom.down (D : Dom P N) : (!P.up) = true → (!N.up) = true := by
  have := D.up
  revert this
  cases P.up <;> cases N.up <;> simp
theorem Dom.open (D : Dom P N) {a b : Nat} (ha : a < P.l.length) (hb : b < P.l.length) (h : N.open a b = true) : P.open a b = true := by
  obtain ⟨h1, h2⟩ := open_dep h
  have := D.dep a ha
  have := D.dep b hb
  unfold Par.open
  simp; omega
theorem Dom.cross (D : Dom P N) (hP : POk P) {a b : Nat} (ha : a < P.l.length) (hb : b < P.l.length) (h : N.open a b = true) : P.cross a b ≤ N.cross a b := by
  obtain ⟨h1, h2⟩ := open_dep h
  have := D.dep a ha
  have := D.dep b hb
  have hn := hP.num
  unfold Par.cross Par.num Par.den
  rw [← D.s]
  have e : 0 ≤ P.s * P.s * 10000000000 := by omega
  exact rt_le_le D.down (dv_nn e (by omega)) (dv_le_le D.down e (Int.le_refl _) (by omega) (by omega))
theorem arr0_len (P : Par) (zs : List Int) (k : Nat) : (arr0 P zs k).length = P.l.length := by
  induction k with
  | zero => simp [arr0]
  | succ k ih =>
    have e : arr0 P zs (k + 1) = stA P zs (arr0 P zs k) k := by unfold arr0; rw [List.range_succ, List.foldl_append]; rfl
    rw [e]; unfold stA; split <;> simp [ih]
theorem str0_len (P : Par) (zs : List Int) (k : Nat) : (str0 P zs k).length = P.l.length := by
  induction k with
  | zero => simp [str0]
  | succ k ih =>
    have e : str0 P zs (k + 1) = stS P zs (str0 P zs k) k := by unfold str0; rw [List.range_succ, List.foldl_append]; rfl
    rw [e]; unfold stS; split <;> simp [ih]
theorem arr0_get {P : Par} {zs : List Int} {k c : Nat} (hc : stC zs k < P.l.length) :
    gi (arr0 P zs (k + 1)) c = if 1 ≤ P.dep (stC zs k) ∧ c = stC zs k then min (gi (arr0 P zs k) c) (agE P.up (gi zs (k * 5 + 1)) (gi zs (k * 5 + 2))) else gi (arr0 P zs k) c := by
  have e : arr0 P zs (k + 1) = stA P zs (arr0 P zs k) k := by unfold arr0; rw [List.range_succ, List.foldl_append]; rfl
  rw [e]
  unfold stA
  by_cases h : 1 ≤ P.dep (stC zs k)
  · rw [if_pos h, gi_set (by rw [arr0_len]; exact hc)]
    by_cases h2 : c = stC zs k
    · subst h2; simp [h]
    · simp [h2]
  · rw [if_neg h, if_neg (fun x => h x.1)]
theorem str0_get {P : Par} {zs : List Int} {k c : Nat} (hc : stC zs k < P.l.length) :
    gi (str0 P zs (k + 1)) c = if 1 ≤ P.dep (stC zs k) ∧ c = stC zs k then max (gi (str0 P zs k) c) (ofE P.up (gi zs (k * 5 + 3)) (gi zs (k * 5 + 4)) * fourthE P.up (P.dep (stC zs k))) else gi (str0 P zs k) c := by
  have e : str0 P zs (k + 1) = stS P zs (str0 P zs k) k := by unfold str0; rw [List.range_succ, List.foldl_append]; rfl
  rw [e]
  unfold stS
  by_cases h : 1 ≤ P.dep (stC zs k)
  · rw [if_pos h, gi_set (by rw [str0_len]; exact hc)]
    by_cases h2 : c = stC zs k
    · subst h2; simp [h]
    · simp [h2]
  · rw [if_neg h, if_neg (fun x => h x.1)]
theorem Dom.arr0 (D : Dom P N) (Z : DomZ P N zp zn n) (hz : StartOk P zp n) : ∀ k, k ≤ n → ∀ c, c < P.l.length → gi (arr0 P zp k) c ≤ gi (arr0 N zn k) c := by
  intro k
  induction k with
  | zero =>
    intro _ c hc
    unfold Wave.arr0
    simp only [List.range_zero, List.foldl_nil]
    rw [gi_replicate hc, gi_replicate (by rw [← D.len]; exact hc)]
    exact Int.le_refl _
  | succ k ih =>
    intro hk c hc
    have h := ih (by omega) c hc
    have hcell := hz.cell k (by omega)
    have ec : stC zn k = stC zp k := by unfold stC; rw [Z.cell k (by omega)]
    have hs : stC zp k < P.l.length := by unfold stC; omega
    have hd := D.dep _ hs
    have ht := Z.time k (by omega)
    rw [arr0_get hs, arr0_get (by rw [ec, ← D.len]; exact hs), ec]
    split <;> split <;> omega
theorem Dom.str0 (D : Dom P N) (Z : DomZ P N zp zn n) (hz : StartOk P zp n) (hn : StartOk N zn n) : ∀ k, k ≤ n → ∀ c, c < P.l.length → gi (str0 N zn k) c ≤ gi (str0 P zp k) c := by
  intro k
  induction k with
  | zero =>
    intro _ c hc
    unfold Wave.str0
    simp only [List.range_zero, List.foldl_nil]
    rw [gi_replicate hc, gi_replicate (by rw [← D.len]; exact hc)]
    exact Int.le_refl _
  | succ k ih =>
    intro hk c hc
    have h := ih (by omega) c hc
    have hcell := hz.cell k (by omega)
    have ec : stC zn k = stC zp k := by unfold stC; rw [Z.cell k (by omega)]
    have hs : stC zp k < P.l.length := by unfold stC; omega
    have hd := D.dep _ hs
    have hr := Z.rise k (by omega)
    have hr0 : 0 ≤ ofE N.up (gi zn (k * 5 + 3)) (gi zn (k * 5 + 4)) := by have := hn.rise k (by omega); unfold ofE; split <;> omega
    rw [str0_get hs, str0_get (by rw [ec, ← D.len]; exact hs), ec]
    by_cases h1 : 1 ≤ N.dep (stC zp k)
    · have h4 := fourth_le_le (d := N.dep (stC zp k)) (d' := P.dep (stC zp k)) D.up (by omega) hd
      have h5 : 0 ≤ fourthE N.up (N.dep (stC zp k)) := rt_nn (rt_nn (by omega))
      have h6 := Int.mul_le_mul hr h4 h5 (by omega)
      split <;> split <;> omega
    · rw [if_neg (c := 1 ≤ N.dep (stC zp k) ∧ _) (fun x => h1 x.1)]
      split <;> omega
theorem Dom.arr (D : Dom P N) (Z : DomZ P N zp zn n) (hP : POk P) (hz : StartOk P zp n) (fP : SheetFin P zp n) (fN : SheetFin N zn n) {c : Nat} (hc : c < P.l.length) : gi (arrF P zp n) c ≤ gi (arrF N zn n) c := by
  refine Stl.dom (S := PA P) (T := PA N) fP.arr D.len.symm (fun a _ b hb => ?_) (fun a b hb => nb_lt hP hb) (fun b hb => D.arr0 Z hz n (Nat.le_refl _) b hb) (fun a b u ha hb hk hs => ?_) (fN.arr.mid.der c (by rw [show (PA N).n = N.l.length from rfl, ← D.len]; exact hc))
  · show b ∈ nbP P a
    rw [← D.nb]; exact hb
  · have hb' : b < P.l.length := nb_lt hP hb
    obtain ⟨h1, h2, h3⟩ := spA_true hs
    have hc := D.cross hP ha hb' h1
    have ho := D.open ha hb' h1
    obtain ⟨d1, d2⟩ := open_dep ho
    have hx := hP.cross d1 d2
    have hk' : gi (arrF P zp n) a ≤ u := hk
    have hv := fP.arr.mid.val b hb'
    have hva := fP.arr.mid.val a ha
    have hva' : 0 ≤ gi (arrF P zp n) a ∧ gi (arrF P zp n) a ≤ Never := hva
    have hv' : 0 ≤ gi (arrF P zp n) b ∧ gi (arrF P zp n) b ≤ Never := hv
    show (((PA P).sp a b (gi (arrF P zp n) a)).2 = true ∧ ((PA P).sp a b (gi (arrF P zp n) a)).1 ≤ ((PA N).sp a b u).1) ∨ gi (arrF P zp n) b ≤ ((PA N).sp a b u).1
    have e1 : ((PA N).sp a b u).1 = u + N.cross a b := h3
    by_cases hN : gi (arrF P zp n) a = Never
    · right; omega
    · left
      have e2 : (PA P).sp a b (gi (arrF P zp n) a) = (gi (arrF P zp n) a + P.cross a b, true) := by
        show P.spA a b _ = _
        unfold Par.spA
        rw [if_pos ⟨ho, hN⟩]
      rw [e2, e1]
      exact ⟨rfl, by show gi (arrF P zp n) a + P.cross a b ≤ u + N.cross a b; omega⟩
theorem Dom.str (D : Dom P N) (Z : DomZ P N zp zn n) (hP : POk P) (hN : POk N) (hz : StartOk P zp n) (hzn : StartOk N zn n) (fP : SheetFin P zp n) (fN : SheetFin N zn n) {c : Nat} (hc : c < P.l.length) : gi (strF N zn n) c ≤ gi (strF P zp n) c := by
  have := Stl.dom (S := PS P) (T := PS N) (vs0' := Wave.str0 N zn n) fP.str D.len.symm (fun a _ b hb => by show b ∈ nbP P a; rw [← D.nb]; exact hb) (fun a b hb => nb_lt hP hb) (fun b hb => by
      have := D.str0 Z hz hzn n (Nat.le_refl _) b hb
      show -gi (Wave.str0 P zp n) b ≤ -gi (Wave.str0 N zn n) b
      omega) (fun a b u ha hb hk hs => by
      have hb' : b < P.l.length := nb_lt hP hb
      have hs' : (N.open a b && decide (0 < u)) = true := hs
      simp only [Bool.and_eq_true, decide_eq_true_eq] at hs'
      have ho := D.open ha hb' hs'.1
      have hk' : -gi (strF P zp n) a ≤ -u := hk
      have kN := hN.keep
      have hk0 : 0 ≤ ofE N.up N.k0 N.k1 := by unfold ofE; split <;> omega
      left
      refine ⟨?_, ?_⟩
      · show (P.open a b && decide (0 < gi (strF P zp n) a)) = true
        rw [ho]; simp; omega
      · show -(dv P.up (gi (strF P zp n) a * ofE P.up P.k0 P.k1) 1024) ≤ -(dv N.up (u * ofE N.up N.k0 N.k1) 1024)
        have hm : u * ofE N.up N.k0 N.k1 ≤ gi (strF P zp n) a * ofE P.up P.k0 P.k1 := Int.mul_le_mul (by omega) D.keep hk0 (by omega)
        have := dv_le_le (x := u * ofE N.up N.k0 N.k1) (y := 1024) (y' := 1024) D.up (Int.mul_nonneg (by omega) hk0) hm (by decide) (Int.le_refl _)
        omega) (fN.str.mid.der c (by rw [show (PS N).n = N.l.length from rfl, ← D.len]; exact hc))
  have h' : -gi (strF P zp n) c ≤ -gi (strF N zn n) c := this
  omega
theorem Dom.under (D : Dom P N) {c : Nat} (hc : c < P.l.length) (h1 : 1 ≤ N.under c) : P.under c ≤ N.under c := by
  have hl := D.lst c hc
  have hu := D.up
  revert hl h1 hu
  unfold Par.under
  cases P.up <;> cases N.up <;> simp <;> omega
theorem Dom.rise (D : Dom P N) {c : Nat} (hc : c < P.l.length) {sp sn : List Int} (h0 : 1 ≤ P.under c) (h1 : 1 ≤ N.under c) (hs0 : 0 ≤ gi sn c) (hs : gi sn c ≤ gi sp c) : N.rise sn c ≤ P.rise sp c := by
  unfold Par.rise
  have hu := D.under hc h1
  have h2 : 0 ≤ fourthE (!P.up) (P.under c) := rt_nn (rt_nn (by omega))
  refine dv_le_le D.up hs0 hs ?_ (fourth_le_le D.down (by omega) hu)
  have : 1 ≤ fourthE (!P.up) (P.under c) := le_rt (rt_nn (by omega)) (by decide) (le_rt (by omega) (by decide) (by omega))
  omega
end
end Go.Ab.Wave
namespace Go.Ab.Wave
open Go Go.Ab
section
variable {P N : Par} {zp zn : List Int} {n : Nat}
theorem Dom.spU (D : Dom P N) (hN : POk N) {a b : Nat} {u v : Int} (hb : b < P.l.length) (h : u ≤ v) (hs : (N.spU a b u).2 = true) : (P.spU a b v).2 = true ∧ (N.spU a b u).1 ≤ (P.spU a b v).1 := by
  obtain ⟨h1, h2, h3⟩ := spU_true hs
  have hl := D.lst b hb
  have hg := D.gr b hb
  have ho := D.loss
  have hgr := hN.ground (c := b) (by rw [← D.len]; exact hb)
  have hga : -1200000 ≤ agE N.up (N.glo b) (N.ghi b) := by unfold agE; split <;> omega
  have hlo := hN.lossE
  have hv : v ≠ -Never := by unfold Never; omega
  unfold Par.spU
  refine ⟨?_, by show u - _ ≤ v - _; omega⟩
  simp only [Bool.and_eq_true, decide_eq_true_eq, Bool.not_eq_true', decide_eq_false_iff_not]
  exact ⟨hv, by omega, by omega⟩
structure Both (P N : Par) (zp zn : List Int) (n : Nat) : Prop where
  D : Dom P N
  Z : DomZ P N zp zn n
  hP : POk P
  hN : POk N
  zP : StartOk P zp n
  zN : StartOk N zn n
  fP : SheetFin P zp n
  fN : SheetFin N zn n
variable (B : Both P N zp zn n)
include B
theorem Both.okP : SailOk P (arrF P zp n) (strF P zp n) := sailOk B.hP B.zP B.fP.arr B.fP.str
theorem Both.okN : SailOk N (arrF N zn n) (strF N zn n) := sailOk B.hN B.zN B.fN.arr B.fN.str
theorem Both.ar {c : Nat} (hc : c < P.l.length) : gi (arrF P zp n) c ≤ gi (arrF N zn n) c := B.D.arr B.Z B.hP B.zP B.fP B.fN hc
theorem Both.st {c : Nat} (hc : c < P.l.length) : gi (strF N zn n) c ≤ gi (strF P zp n) c := B.D.str B.Z B.hP B.hN B.zP B.zN B.fP B.fN hc
theorem Both.lenN {c : Nat} (hc : c < P.l.length) : c < N.l.length := by rw [← B.D.len]; exact hc
theorem Both.ri {c : Nat} (hc : c < P.l.length) (h : 1 ≤ N.dep c) : N.rise (strF N zn n) c ≤ P.rise (strF P zp n) c :=
  B.D.rise hc (B.hP.under hc (Int.le_trans h (B.D.dep c hc))) (B.hN.under (B.lenN hc) h) (B.okN.st c (B.lenN hc)).1 (B.st hc)
theorem Both.ri0 {c : Nat} (hc : c < P.l.length) (h : 1 ≤ N.dep c) : 0 ≤ N.rise (strF N zn n) c := (B.hN.rise (B.lenN hc) (B.hN.under (B.lenN hc) h) (B.okN.st c (B.lenN hc))).1
theorem Both.srf0 {c : Nat} (hc : c < P.l.length) : gi (srfK N (arrF N zn n) (strF N zn n) N.l.length) c ≤ gi (srfK P (arrF P zp n) (strF P zp n) P.l.length) c := by
  have hcN := B.lenN hc
  rw [srfK_get hc, srfK_get hcN]
  have ha := B.ar hc
  have hv := srf_ok B.hP B.okP hc
  by_cases h : gi (arrF N zn n) c < Never
  · rw [if_pos ⟨hcN, h⟩, if_pos ⟨hc, by omega⟩]
    have hd := ((B.okN.ar c hcN).2 h).2
    have := B.ri hc hd
    have := B.D.sea
    omega
  · rw [if_neg (fun x => h x.2)]
    rw [srfK_get hc] at hv
    rcases hv with e | e
    · rw [e]; exact Int.le_refl _
    · have : Never = 1099511627776 := rfl
      omega
theorem Both.srf {c : Nat} (hc : c < P.l.length) : gi (fSu N zn n) c ≤ gi (fSu P zp n) c := by
  have h := Stl.dom (S := PU P) (T := PU N) B.fP.srf B.D.len.symm (fun a _ b hb => by show b ∈ nbP P a; rw [← B.D.nb]; exact hb) (fun a b hb => nb_lt B.hP hb) (fun b hb => by
      have := B.srf0 (c := b) hb
      show -gi (srfK P (arrF P zp n) (strF P zp n) P.l.length) b ≤ -gi (srfK N (arrF N zn n) (strF N zn n) N.l.length) b
      omega) (fun a b u ha hb hk hs => by
      have hb' : b < P.l.length := nb_lt B.hP hb
      have hk' : -gi (fSu P zp n) a ≤ -u := hk
      have := B.D.spU (a := a) B.hN hb' (show u ≤ gi (fSu P zp n) a by omega) hs
      left
      refine ⟨this.1, ?_⟩
      show -(P.spU a b (gi (fSu P zp n) a)).1 ≤ -(N.spU a b u).1
      omega) (B.fN.srf.mid.der c (B.lenN hc))
  have h' : -gi (fSu P zp n) c ≤ -gi (fSu N zn n) c := h
  omega
theorem Both.der {c : Nat} {u : Int} (h : (PU N).Der (srfK N (arrF N zn n) (strF N zn n) N.l.length) c u) : u ≤ gi (fSu P zp n) c := by
  have h := Stl.dom (S := PU P) (T := PU N) B.fP.srf B.D.len.symm (fun a _ b hb => by show b ∈ nbP P a; rw [← B.D.nb]; exact hb) (fun a b hb => nb_lt B.hP hb) (fun b hb => by
      have := B.srf0 (c := b) hb
      show -gi (srfK P (arrF P zp n) (strF P zp n) P.l.length) b ≤ -gi (srfK N (arrF N zn n) (strF N zn n) N.l.length) b
      omega) (fun a b u ha hb hk hs => by
      have hb' : b < P.l.length := nb_lt B.hP hb
      have hk' : -gi (fSu P zp n) a ≤ -u := hk
      have := B.D.spU (a := a) B.hN hb' (show u ≤ gi (fSu P zp n) a by omega) hs
      left
      refine ⟨this.1, ?_⟩
      show -(P.spU a b (gi (fSu P zp n) a)).1 ≤ -(N.spU a b u).1
      omega) h
  have h' : -gi (fSu P zp n) c ≤ -u := h
  omega
theorem Both.step {a c : Nat} {u : Int} (ha : a < P.l.length) (hc : c ∈ nbP P a) (hd : (PU N).Der (srfK N (arrF N zn n) (strF N zn n) N.l.length) a u) (hs : (N.spU a c u).2 = true) :
    (N.spU a c u).1 ≤ gi (fLa P zp n) c ∧ (P.spU a c (gi (fSu P zp n) a)).2 = true := by
  have hc' : c < P.l.length := nb_lt B.hP hc
  obtain ⟨h1, h2⟩ := B.D.spU (a := a) B.hN hc' (B.der hd) hs
  have h3 := (B.fP.srf.cl a c ha hc h1).2 rfl
  have h3' : (P.spU a c (gi (fSu P zp n) a)).1 ≤ gi (fLa P zp n) c := h3
  exact ⟨by omega, h1⟩
theorem Both.lnd {c : Nat} (hc : c < P.l.length) (h : gi (fLa N zn n) c ≠ -Never) : gi (fLa N zn n) c ≤ gi (fLa P zp n) c ∧ gi (fLa N zn n) c > agE N.up (N.glo c) (N.ghi c) ∧ N.lst c ≤ 0 := by
  rcases B.fN.srf.mid.land c (B.lenN hc) with e | ⟨a, u, ha, hd, hb, hs, e⟩
  · have e' : gi (fLa N zn n) c = gi (List.replicate N.l.length (-Never)) c := e
    rw [gi_replicate (B.lenN hc)] at e'
    exact absurd e' h
  · have e' : gi (fLa N zn n) c = (N.spU a c u).1 := e
    have ha' : a < P.l.length := by rw [B.D.len]; exact ha
    have hb' : c ∈ nbP P a := by rw [← B.D.nb]; exact hb
    obtain ⟨h1, h2, h3⟩ := spU_true (show (N.spU a c u).2 = true from hs)
    have h4 : (N.spU a c u).1 = u - agE N.up N.o0 N.o1 := rfl
    exact ⟨by rw [e']; exact (B.step ha' hb' hd hs).1, by omega, h2⟩
theorem Both.srfL {c : Nat} (hc : c < P.l.length) (hd : N.dep c < 1) (h : gi (fSu N zn n) c ≠ -Never) : gi (fSu N zn n) c ≤ gi (fLa P zp n) c ∧ gi (fSu N zn n) c > agE N.up (N.glo c) (N.ghi c) ∧ N.lst c ≤ 0 := by
  have hder := B.fN.srf.mid.der c (B.lenN hc)
  obtain ⟨v, hv⟩ : ∃ v, v = gi (fSu N zn n) c := ⟨_, rfl⟩
  have hder' : (PU N).Der (srfK N (arrF N zn n) (strF N zn n) N.l.length) c (gi (fSu N zn n) c) := hder
  rw [← hv] at hder' h ⊢
  cases hder' with
  | init hb =>
    rw [srfK_get (B.lenN hc)] at h
    by_cases h1 : gi (arrF N zn n) c < Never
    · have := ((B.okN.ar c (B.lenN hc)).2 h1).2
      omega
    · rw [if_neg (fun x => h1 x.2)] at h
      exact absurd rfl h
  | @step a b u ha hd' hb hs =>
    have ha' : a < P.l.length := by rw [B.D.len]; exact ha
    have hb' : c ∈ nbP P a := by rw [← B.D.nb]; exact hb
    obtain ⟨h1, h2, h3⟩ := spU_true (show (N.spU a c u).2 = true from hs)
    exact ⟨(B.step ha' hb' hd' hs).1, h3, h2⟩
theorem Both.arL {c : Nat} (hc : c < P.l.length) : gi (fAr P zp n) c ≤ gi (fAr N zn n) c := by
  refine Stl.dom (S := PL P (fSu P zp n)) (T := PL N (fSu N zn n)) B.fP.lnd B.D.len.symm (fun a _ b hb => ?_) (fun a b hb => nb_lt B.hP hb) (fun b hb => B.ar hb) (fun a b u ha hb hk hs => ?_) (B.fN.lnd.mid.der c (B.lenN hc))
  · show b ∈ nbP P a
    rw [← B.D.nb]; exact hb
  · have hb' : b < P.l.length := nb_lt B.hP hb
    have h1 := B.D.spU (a := a) B.hN hb' (B.srf ha) (show (N.spU a b (gi (fSu N zn n) a)).2 = true from hs)
    left
    refine ⟨h1.1, ?_⟩
    have hk' : gi (fAr P zp n) a ≤ u := hk
    show gi (fAr P zp n) a + agE P.up P.l0 P.l1 * P.s ≤ u + agE N.up N.l0 N.l1 * N.s
    rw [← B.D.s]
    obtain ⟨_, _, hs, _⟩ := check_parts B.hP.chk
    have := Int.mul_le_mul_of_nonneg_right B.D.land (show 0 ≤ P.s by omega)
    omega
end
end Go.Ab.Wave
namespace Go.Ab.Wave
open Go Go.Ab
noncomputable def E1 (P : Par) (zs : List Int) (n : Nat) : Spr := ⟨P, zs, n, 0, 0, 0, 0, 0, 0, 0, 0, 0, 0, 0, 0, 0⟩
theorem flat_get {f : Nat → List Int} (hf : ∀ i, (f i).length = 8) : ∀ {n c r : Nat}, c < n → r < 8 → gi ((List.range n).flatMap f) (c * 8 + r) = gi (f c) r := by
  intro n
  induction n with
  | zero => intro c r h; omega
  | succ n ih =>
    intro c r hc hr
    rw [List.range_succ, List.flatMap_append, List.flatMap_singleton]
    have hl : ((List.range n).flatMap f).length = n * 8 := by
      clear ih hc
      induction n with
      | zero => rfl
      | succ n ih => rw [List.range_succ, List.flatMap_append, List.flatMap_singleton, List.length_append, ih, hf]; omega
    by_cases h : c < n
    · rw [← ih h hr]
      unfold gi
      simp only [List.getD_eq_getElem?_getD]
      rw [List.getElem?_append_left (by omega)]
    · have : c = n := by omega
      subst this
      unfold gi
      simp only [List.getD_eq_getElem?_getD]
      rw [List.getElem?_append_right (by omega), hl]
      simp
theorem bounds_get {P : Par} {zs : List Int} {n c r : Nat} (hc : c < P.l.length) (hr : r < 8) : gi (bounds P zs n) (c * 8 + r) = gi ((E1 P zs n).row c) r := flat_get (f := (E1 P zs n).row) (fun _ => rfl) hc hr
structure In (W N : Par) (zw zn : List Int) (n : Nat) : Prop where
  u : Both (W.at true) (N.at true) zw zn n
  l : Both (N.at false) (W.at false) zn zw n
  m : Both (N.at true) (N.at false) zn zn n
section
variable {W N : Par} {zw zn : List Int} {n c : Nat} (I : In W N zw zn n) (hc : c < W.l.length)
include I hc
theorem In.hcN : c < N.l.length := by have := I.u.D.len; have e : W.l.length = N.l.length := this; omega
structure InAt (W N : Par) (zw zn : List Int) (n c : Nat) : Prop where
  g1 : W.glo c ≤ N.glo c
  g2 : N.glo c ≤ N.ghi c
  g3 : N.ghi c ≤ W.ghi c
  g4 : -1200000 ≤ W.glo c ∧ W.ghi c ≤ 1200000
  s1 : W.slo ≤ N.slo
  s2 : N.slo ≤ N.shi
  s3 : N.shi ≤ W.shi
  s4 : -20000 ≤ W.slo ∧ W.shi ≤ 20000
  a1 : gi (fAr (W.at true) zw n) c ≤ gi (fAr (N.at true) zn n) c
  a2 : gi (fAr (N.at true) zn n) c ≤ gi (fAr (N.at false) zn n) c
  a3 : gi (fAr (N.at false) zn n) c ≤ gi (fAr (W.at false) zw n) c
  r1 : 1 ≤ W.slo - W.ghi c → (E1 W zw n).riL c ≤ (E1 N zn n).riL c
  r2 : 1 ≤ N.slo - N.ghi c → (E1 N zn n).riL c ≤ (E1 N zn n).riH c
  r3 : 1 ≤ N.shi - N.glo c → (E1 N zn n).riH c ≤ (E1 W zw n).riH c
  r0 : (1 ≤ W.slo - W.ghi c → 0 ≤ (E1 W zw n).riL c) ∧ (1 ≤ N.slo - N.ghi c → 0 ≤ (E1 N zn n).riL c) ∧ (1 ≤ N.shi - N.glo c → 0 ≤ (E1 N zn n).riH c)
  u1 : (E1 W zw n).suL c ≤ (E1 N zn n).suL c
  u2 : W.slo - W.ghi c < 1 → (E1 W zw n).suL c ≠ -Never → W.ghi c < (E1 W zw n).suL c ∧ W.shi - W.glo c ≤ 0 ∧ (E1 N zn n).suL c ≠ -Never
  u3 : N.slo - N.ghi c < 1 → (E1 N zn n).suL c ≠ -Never → (E1 N zn n).suL c ≤ (E1 N zn n).laH c ∧ N.ghi c < (E1 N zn n).suL c ∧ N.shi - N.glo c ≤ 0 ∧ (E1 N zn n).laH c ≠ -Never
  l1 : (E1 N zn n).laH c ≠ -Never → (E1 N zn n).laH c ≤ (E1 W zw n).laH c ∧ N.glo c < (E1 N zn n).laH c ∧ N.slo - N.ghi c ≤ 0 ∧ (E1 W zw n).laH c ≠ -Never
  l2 : (E1 W zw n).laH c ≠ -Never → W.glo c < (E1 W zw n).laH c ∧ W.slo - W.ghi c ≤ 0
  rw0 : 1 ≤ W.shi - W.glo c → 0 ≤ (E1 W zw n).riH c
theorem In.at (hW : Both (W.at true) (W.at true) zw zw n) : InAt W N zw zn n c := by
  have hcN := I.hcN hc
  have gW := I.u.hP.ground hc
  have gN := I.u.hN.ground hcN
  have sW := I.u.hP.sea
  have sN := I.u.hN.sea
  have gu := I.u.D.gr c hc
  have gl := I.l.D.gr c hcN
  have su := I.u.D.sea
  have sl := I.l.D.sea
  have nN : Never = 1099511627776 := rfl
  have lw := fun h => I.l.srfL (c := c) hcN h
  have lm := fun h => I.m.srfL (c := c) hcN h
  have uu := fun h => I.u.lnd (c := c) hc h
  have uw := fun h => hW.lnd (c := c) hc h
  refine ⟨gu, gN.2.1, gl, ⟨gW.1, gW.2.2⟩, sl, sN.2.1, su, ⟨sW.1, sW.2.2⟩, I.u.arL hc, I.m.arL hcN, I.l.arL hcN, fun h => I.l.ri hcN h, fun h => I.m.ri hcN h, fun h => I.u.ri hc h,
    ⟨fun h => I.l.ri0 hcN h, fun h => I.m.ri0 hcN h, fun h => I.u.ri0 hc h⟩, I.l.srf hcN, fun h1 h2 => ?_, fun h1 h2 => ?_, fun h => ?_, fun h => ?_, fun h => hW.ri0 hc h⟩
  · obtain ⟨_, q1, q2⟩ := lw h1 h2
    have q1' : W.ghi c < (E1 W zw n).suL c := q1
    have q2' : W.shi - W.glo c ≤ 0 := q2
    have q3 : (E1 W zw n).suL c ≤ (E1 N zn n).suL c := I.l.srf hcN
    have gW1 : -1200000 ≤ W.glo c := gW.1
    have gW2 : W.glo c ≤ W.ghi c := gW.2.1
    exact ⟨q1', q2', by omega⟩
  · obtain ⟨q0, q1, q2⟩ := lm h1 h2
    have q0' : (E1 N zn n).suL c ≤ (E1 N zn n).laH c := q0
    have q1' : N.ghi c < (E1 N zn n).suL c := q1
    have gW1 : -1200000 ≤ N.glo c := gN.1
    have gW2 : N.glo c ≤ N.ghi c := gN.2.1
    exact ⟨q0', q1', q2, by omega⟩
  · obtain ⟨q0, q1, q2⟩ := uu h
    have q0' : (E1 N zn n).laH c ≤ (E1 W zw n).laH c := q0
    have q1' : N.glo c < (E1 N zn n).laH c := q1
    have gW1 : -1200000 ≤ N.glo c := gN.1
    exact ⟨q0', q1', q2, by omega⟩
  · obtain ⟨_, q1, q2⟩ := uw h
    exact ⟨q1, q2⟩
end
theorem root981 {x y : Int} (h0 : 0 ≤ x) (h : x ≤ y) : rootI (981 * x) ≤ rootI (981 * y) ∧ rootI (981 * x) ≤ rootUpI (981 * y) ∧ rootUpI (981 * x) ≤ rootUpI (981 * y) ∧ 0 ≤ rootI (981 * x) :=
  ⟨rt_le_le (b := false) (b' := false) (fun h => h) (by omega) (by omega), rt_le_le (b := false) (b' := true) (fun _ => rfl) (by omega) (by omega), rt_le_le (b := true) (b' := true) (fun h => h) (by omega) (by omega), rt_nn (b := false) (by omega)⟩
theorem sq_mono {x y : Int} (h0 : 0 ≤ x) (h : x ≤ y) : 0 ≤ x * x * 981 ∧ x * x * 981 ≤ y * y * 981 := by
  have h1 := Int.mul_nonneg h0 h0
  have h2 := Int.mul_le_mul h h h0 (by omega)
  omega
theorem flowS {x y a b : Int} (h0 : 0 ≤ x) (h : x ≤ y) (hb : 0 < b) (hab : b ≤ a) :
    rootI ((x * x * 981).tdiv a) ≤ rootI ((y * y * 981).tdiv b) ∧ rootI ((x * x * 981).tdiv a) ≤ rootUpI (upI (y * y * 981) b) ∧ rootUpI (upI (x * x * 981) a) ≤ rootUpI (upI (y * y * 981) b) ∧ 0 ≤ rootI ((x * x * 981).tdiv a) ∧ 0 ≤ rootUpI (upI (x * x * 981) a) := by
  obtain ⟨h1, h2⟩ := sq_mono h0 h
  have n1 : 0 ≤ dv false (x * x * 981) a := dv_nn h1 (by omega)
  have n2 : 0 ≤ dv true (x * x * 981) a := dv_nn h1 (by omega)
  exact ⟨rt_le_le (b := false) (b' := false) (fun h => h) n1 (dv_le_le (b := false) (b' := false) (fun h => h) h1 h2 hb hab), rt_le_le (b := false) (b' := true) (fun _ => rfl) n1 (dv_le_le (b := false) (b' := true) (fun _ => rfl) h1 h2 hb hab),
    rt_le_le (b := true) (b' := true) (fun h => h) n2 (dv_le_le (b := true) (b' := true) (fun h => h) h1 h2 hb hab), rt_nn (b := false) n1, rt_nn (b := true) n2⟩
section
variable {W N : Par} {zw zn : List Int} {n c : Nat}
def within2 (a b : List Int) (o : Nat) : Prop := gi b o ≤ gi a o ∧ gi a o ≤ gi a (o + 1) ∧ gi a (o + 1) ≤ gi b (o + 1)
theorem InAt.rise (h : InAt W N zw zn n c) : (E1 W zw n).r2 c ≤ (E1 N zn n).r2 c ∧ (E1 N zn n).r2 c ≤ (E1 N zn n).l3 c ∧ (E1 N zn n).l3 c ≤ (E1 W zw n).l3 c ∧ 0 ≤ (E1 N zn n).h3 c := by
  obtain ⟨g1, g2, g3, g4, s1, s2, s3, s4, _, _, _, r1, r2, r3, r0, u1, u2, u3, l1, l2, rw0⟩ := h
  have e1 : ((E1 W zw n).P.at false).dep c = W.slo - W.ghi c := rfl
  have e2 : ((E1 N zn n).P.at false).dep c = N.slo - N.ghi c := rfl
  have e3 : ((E1 W zw n).P.at true).dep c = W.shi - W.glo c := rfl
  have e4 : ((E1 N zn n).P.at true).dep c = N.shi - N.glo c := rfl
  have p1 : (E1 W zw n).P.ghi c = W.ghi c := rfl
  have p2 : (E1 N zn n).P.ghi c = N.ghi c := rfl
  have p3 : (E1 W zw n).P.glo c = W.glo c := rfl
  have p4 : (E1 N zn n).P.glo c = N.glo c := rfl
  have nN : Never = 1099511627776 := rfl
  unfold Spr.l3 Spr.h3 Spr.r2
  simp only [e1, e2, e3, e4, p1, p2, p3, p4]
  have hh : (if 1 ≤ N.shi - N.glo c then (E1 N zn n).riH c else 0) ≤ if 1 ≤ W.shi - W.glo c then (E1 W zw n).riH c else 0 := by
    by_cases q1 : 1 ≤ N.shi - N.glo c
    · rw [if_pos q1, if_pos (by omega)]; exact r3 q1
    · rw [if_neg q1]
      split
      · exact rw0 (by omega)
      · exact Int.le_refl _
  refine ⟨?_, ?_, ?_, ?_⟩
  · split <;> split <;> (try split) <;> (try split) <;> omega
  · by_cases q1 : 1 ≤ N.slo - N.ghi c
    · rw [if_pos q1, if_pos (show 1 ≤ N.shi - N.glo c by omega)]
      have := r2 q1
      split <;> omega
    · rw [if_neg q1]
      by_cases q2 : (E1 N zn n).suL c ≠ -Never
      · have := u3 (by omega) q2
        rw [if_pos q2, if_pos this.2.2.2]
        omega
      · rw [if_neg q2]
        have : (0 : Int) ≤ if 1 ≤ N.shi - N.glo c then (E1 N zn n).riH c else 0 := by split <;> omega
        split <;> omega
  · by_cases q1 : (E1 N zn n).laH c ≠ -Never
    · have := l1 q1
      rw [if_pos q1, if_pos this.2.2.2]
      omega
    · rw [if_neg q1]
      split <;> omega
  · split <;> omega
theorem InAt.top (h : InAt W N zw zn n c) : (E1 W zw n).r4 c ≤ (E1 N zn n).r4 c ∧ (E1 N zn n).r4 c ≤ (E1 N zn n).l5 c ∧ (E1 N zn n).l5 c ≤ (E1 W zw n).l5 c := by
  obtain ⟨g1, g2, g3, g4, s1, s2, s3, s4, _, _, _, r1, r2, r3, r0, u1, u2, u3, l1, l2, rw0⟩ := h
  have e1 : ((E1 W zw n).P.at false).dep c = W.slo - W.ghi c := rfl
  have e2 : ((E1 N zn n).P.at false).dep c = N.slo - N.ghi c := rfl
  have e3 : ((E1 W zw n).P.at true).dep c = W.shi - W.glo c := rfl
  have e4 : ((E1 N zn n).P.at true).dep c = N.shi - N.glo c := rfl
  have p1 : (E1 W zw n).P.ghi c = W.ghi c := rfl
  have p2 : (E1 N zn n).P.ghi c = N.ghi c := rfl
  have p3 : (E1 W zw n).P.glo c = W.glo c := rfl
  have p4 : (E1 N zn n).P.glo c = N.glo c := rfl
  have p5 : (E1 W zw n).P.slo = W.slo := rfl
  have p6 : (E1 N zn n).P.slo = N.slo := rfl
  have p7 : (E1 W zw n).P.shi = W.shi := rfl
  have p8 : (E1 N zn n).P.shi = N.shi := rfl
  have nN : Never = 1099511627776 := rfl
  unfold Spr.l5 Spr.h5 Spr.r5 Spr.r4
  simp only [e1, e2, e3, e4, p1, p2, p3, p4, p5, p6, p7, p8]
  refine ⟨?_, ?_, ?_⟩
  · split <;> split <;> (try split) <;> (try split) <;> omega
  · have hh : (if 1 ≤ N.slo - N.ghi c then (-1200000 : Int) else N.ghi c) ≤ if 1 ≤ N.shi - N.glo c then max (if 1 ≤ N.slo - N.ghi c then (-1200000 : Int) else N.ghi c) (N.shi + (E1 N zn n).riH c) else (if 1 ≤ N.slo - N.ghi c then (-1200000 : Int) else N.ghi c) := by split <;> omega
    by_cases q1 : 1 ≤ N.slo - N.ghi c
    · rw [if_pos q1, if_pos q1, if_pos (show 1 ≤ N.shi - N.glo c by omega)]
      have := r2 q1
      split <;> omega
    · rw [if_neg q1] at hh
      rw [if_neg q1, if_neg q1]
      by_cases q2 : (E1 N zn n).suL c ≠ -Never
      · have := u3 (by omega) q2
        rw [if_pos q2, if_pos this.2.2.2]
        omega
      · rw [if_neg q2]
        split <;> omega
  · have hr : (if 1 ≤ N.slo - N.ghi c then (-1200000 : Int) else N.ghi c) ≤ (if 1 ≤ W.slo - W.ghi c then (-1200000 : Int) else W.ghi c) := by split <;> split <;> omega
    obtain ⟨xN, hxN⟩ : ∃ x, x = (if 1 ≤ N.slo - N.ghi c then (-1200000 : Int) else N.ghi c) := ⟨_, rfl⟩
    obtain ⟨xW, hxW⟩ : ∃ x, x = (if 1 ≤ W.slo - W.ghi c then (-1200000 : Int) else W.ghi c) := ⟨_, rfl⟩
    rw [← hxN, ← hxW] at hr ⊢
    have hh : (if 1 ≤ N.shi - N.glo c then max xN (N.shi + (E1 N zn n).riH c) else xN) ≤ if 1 ≤ W.shi - W.glo c then max xW (W.shi + (E1 W zw n).riH c) else xW := by
      by_cases q1 : 1 ≤ N.shi - N.glo c
      · have := r3 q1
        rw [if_pos q1, if_pos (by omega)]; omega
      · rw [if_neg q1]
        split <;> omega
    by_cases q1 : (E1 N zn n).laH c ≠ -Never
    · have := l1 q1
      rw [if_pos q1, if_pos this.2.2.2]
      omega
    · rw [if_neg q1]
      split <;> omega
theorem InAt.flow (h : InAt W N zw zn n c) : (E1 W zw n).r6 c ≤ (E1 N zn n).r6 c ∧ (E1 N zn n).r6 c ≤ (E1 N zn n).l7 c ∧ (E1 N zn n).l7 c ≤ (E1 W zw n).l7 c := by
  obtain ⟨g1, g2, g3, g4, s1, s2, s3, s4, _, _, _, r1, r2, r3, r0, u1, u2, u3, l1, l2, rw0⟩ := h
  have e1 : ((E1 W zw n).P.at false).dep c = W.slo - W.ghi c := rfl
  have e2 : ((E1 N zn n).P.at false).dep c = N.slo - N.ghi c := rfl
  have e3 : ((E1 W zw n).P.at true).dep c = W.shi - W.glo c := rfl
  have e4 : ((E1 N zn n).P.at true).dep c = N.shi - N.glo c := rfl
  have f1 : ((E1 W zw n).P.at false).lst c = W.shi - W.glo c := rfl
  have f2 : ((E1 N zn n).P.at false).lst c = N.shi - N.glo c := rfl
  have f3 : ((E1 W zw n).P.at true).lst c = W.slo - W.ghi c := rfl
  have f4 : ((E1 N zn n).P.at true).lst c = N.slo - N.ghi c := rfl
  have p1 : (E1 W zw n).P.ghi c = W.ghi c := rfl
  have p2 : (E1 N zn n).P.ghi c = N.ghi c := rfl
  have p3 : (E1 W zw n).P.glo c = W.glo c := rfl
  have p4 : (E1 N zn n).P.glo c = N.glo c := rfl
  have nN : Never = 1099511627776 := rfl
  have fa : 1 ≤ W.slo - W.ghi c → _ := fun h => flowS (x := (E1 W zw n).riL c) (y := (E1 N zn n).riL c) (a := W.shi - W.glo c) (b := N.shi - N.glo c) (r0.1 h) (r1 h) (by omega) (by omega)
  have fb : 1 ≤ N.slo - N.ghi c → _ := fun h => flowS (x := (E1 N zn n).riL c) (y := (E1 N zn n).riH c) (a := N.shi - N.glo c) (b := max 1 (N.slo - N.ghi c)) (r0.2.1 h) (r2 h) (by omega) (by omega)
  have fc : 1 ≤ N.shi - N.glo c → _ := fun h => flowS (x := (E1 N zn n).riH c) (y := (E1 W zw n).riH c) (a := max 1 (N.slo - N.ghi c)) (b := max 1 (W.slo - W.ghi c)) (r0.2.2 h) (r3 h) (by omega) (by omega)
  have ra : W.slo - W.ghi c < 1 → (E1 W zw n).suL c ≠ -Never → _ := fun h h2 => root981 (x := (E1 W zw n).suL c - W.ghi c) (y := (E1 N zn n).suL c - N.ghi c) (by have := u2 h h2; omega) (by omega)
  have rb : N.slo - N.ghi c < 1 → (E1 N zn n).suL c ≠ -Never → _ := fun h h2 => root981 (x := (E1 N zn n).suL c - N.ghi c) (y := (E1 N zn n).laH c - N.glo c) (by have := u3 h h2; omega) (by have := u3 h h2; omega)
  have rc : (E1 N zn n).laH c ≠ -Never → _ := fun h => root981 (x := (E1 N zn n).laH c - N.glo c) (y := (E1 W zw n).laH c - W.glo c) (by have := l1 h; omega) (by have := l1 h; omega)
  unfold Spr.l7 Spr.h7 Spr.r6
  simp only [e1, e2, e3, e4, f1, f2, f3, f4, p1, p2, p3, p4]
  refine ⟨?_, ?_, ?_⟩
  · split
    · rename_i h1
      rw [if_pos (by omega)]
      exact (fa h1).1
    · rename_i h1
      by_cases h2 : (E1 W zw n).suL c ≠ -Never
      · rw [if_pos h2]
        have q := u2 (by omega) h2
        rw [if_neg (by omega), if_pos q.2.2]
        exact (ra (by omega) h2).1
      · rw [if_neg h2]
        split
        · rename_i h3; exact (fb h3).2.2.2.1
        · rename_i h3
          split
          · rename_i h4; exact (rb (by omega) h4).2.2.2
          · exact Int.le_refl _
  · have fl : (0 : Int) ≤ if 1 ≤ N.shi - N.glo c then rootUpI (upI ((E1 N zn n).riH c * (E1 N zn n).riH c * 981) (max 1 (N.slo - N.ghi c))) else 0 := by
      split
      · rename_i h3; exact (fc h3).2.2.2.2
      · exact Int.le_refl _
    by_cases h1 : 1 ≤ N.slo - N.ghi c
    · rw [if_pos h1]
      have := (fb h1).2.1
      rw [if_pos (show 1 ≤ N.shi - N.glo c by omega)]
      split <;> omega
    · rw [if_neg h1]
      by_cases h2 : (E1 N zn n).suL c ≠ -Never
      · rw [if_pos h2]
        have q := u3 (by omega) h2
        rw [if_pos q.2.2.2]
        have := (rb (by omega) h2).2.1
        omega
      · rw [if_neg h2]
        split <;> omega
  · have fl : (if 1 ≤ N.shi - N.glo c then rootUpI (upI ((E1 N zn n).riH c * (E1 N zn n).riH c * 981) (max 1 (N.slo - N.ghi c))) else 0) ≤ if 1 ≤ W.shi - W.glo c then rootUpI (upI ((E1 W zw n).riH c * (E1 W zw n).riH c * 981) (max 1 (W.slo - W.ghi c))) else 0 := by
      by_cases h3 : 1 ≤ N.shi - N.glo c
      · rw [if_pos h3, if_pos (by omega)]
        exact (fc h3).2.2.1
      · rw [if_neg h3]
        split
        · rename_i h4
          unfold rootUpI
          split
          · exact Int.le_refl _
          · unfold rootI; omega
        · exact Int.le_refl _
    by_cases h2 : (E1 N zn n).laH c ≠ -Never
    · have q := l1 h2
      rw [if_pos h2, if_pos q.2.2.2]
      have := (rc h2).2.2.1
      omega
    · rw [if_neg h2]
      split <;> omega
theorem InAt.row (h : InAt W N zw zn n c) (r : Nat) (hr : r = 0 ∨ r = 2 ∨ r = 4 ∨ r = 6) : within2 ((E1 N zn n).row c) ((E1 W zw n).row c) r := by
  have h1 := h.rise
  have h2 := h.top
  have h3 := h.flow
  rcases hr with rfl | rfl | rfl | rfl
  · exact ⟨h.a1, h.a2, h.a3⟩
  · exact ⟨h1.1, h1.2.1, h1.2.2.1⟩
  · exact ⟨h2.1, h2.2.1, h2.2.2⟩
  · exact ⟨h3.1, h3.2.1, h3.2.2⟩
end
end Go.Ab.Wave
namespace Go.Ab.Wave
open Go Go.Ab
def kints (k : IntKind) (l : List Int) : List Value := l.map (.int k)
@[simp] theorem kints_length (k : IntKind) (l : List Int) : (kints k l).length = l.length := List.length_map ..
theorem kints_get {k : IntKind} {l : List Int} {o : Nat} (h : o < l.length) : cellAt (kints k l) o = some (.int k (gi l o)) := by simp [kints, cellAt, gi, h]
theorem kints_4 {k : IntKind} {l : List Int} {o : Nat} (h : o + 4 ≤ l.length) : partA (kints k l) o (some 4) = some (.agg ⟨[.int k (gi l o), .int k (gi l (o + 1)), .int k (gi l (o + 2)), .int k (gi l (o + 3))]⟩) := by
  rw [partA_some (by rw [kints_length]; exact h)]
  have e : ∀ s, o + s ≤ l.length → ((kints k l).drop o).take s = (List.range s).map fun i => .int k (gi l (o + i)) := by
    intro s
    induction s with
    | zero => intro _; rfl
    | succ s ih =>
      intro h
      have hs : o + s < l.length := by omega
      have hg : (kints k l)[o + s]? = some (.int k (gi l (o + s))) := kints_get hs
      rw [List.take_add_one, ih (by omega), List.getElem?_drop, hg, List.range_succ, List.map_append]
      rfl
  rw [e 4 h]
  rfl
theorem AccS.set_low {N k x : Nat} {A : Hp} {cs : List Value} {sv : Value} {b : Option ABlk} (h : AccS N A k cs sv) (hx : x < N) (hN : N ≤ A.n) : AccS N (A.set x b) k cs sv := by
  rcases h with h | ⟨y, m, h1, h2, h3, h4, h5⟩
  · exact .inl h
  · exact .inr ⟨y, m, h1, by rw [get_set_ne (by omega) (by omega)]; exact h2, h3, h4, h5⟩
theorem pairsOf_cells2 : ∀ l : List (Int × Int), pairsOf (cellsOf l) = some l
  | [] => rfl
  | p :: l => by
    have e : cellsOf (p :: l) = J p.1 :: J p.2 :: cellsOf l := rfl
    rw [e]
    show (pairsOf (cellsOf l)).map _ = _
    rw [pairsOf_cells2 l]
    rfl
theorem AccS.ground {N : Nat} {A : Hp} {l : List (Int × Int)} {sv : Value} (h : AccS N A 2 (ints (flat2 l)) sv) (hl : l.length < 1000000) : groundOf A sv = some l := by
  rcases h with ⟨h1, h2⟩ | ⟨y, m, h1, h2, h3, h4, h5⟩
  · have h0 : l.length = 0 := by have := congrArg List.length h2; rw [ints_length, flat2_length] at this; have e : l.length * 2 = 0 := this; omega
    rw [h1, List.eq_nil_of_length_eq_zero h0]; rfl
  · rw [ints_length, flat2_length] at h4
    have hm : m = l.length := by omega
    subst hm
    rw [h1]
    unfold groundOf
    rw [← cellsOf_flat] at h2
    simp only [h2, pairsOf_cells2]
    rw [if_pos ⟨trivial, by omega⟩]
theorem tmod_nat {i m : Nat} : (i : Int).tmod (m : Int) = ((i % m : Nat) : Int) := rfl
structure Coast where
  wd : Int
  hg : Int
  lowV : Value
  moreV : Value
  sea : Int
  seaM : Int
  k0 : Int
  k1 : Int
  l0 : Int
  l1 : Int
  o0 : Int
  o1 : Int
  low : List Int
  more : List Int
def Coast.cells (C : Coast) : List Value := [.int .u8 C.wd, .int .u8 C.hg, C.lowV, C.moreV, .int .i8 C.sea, .int .u8 C.seaM, .int .u16 C.k0, .int .u16 C.k1, .int .u16 C.l0, .int .u16 C.l1, .int .u8 C.o0, .int .u8 C.o1]
structure Coast.Ok (C : Coast) : Prop where
  wd : 0 ≤ C.wd ∧ C.wd ≤ 255
  hg : 0 ≤ C.hg ∧ C.hg ≤ 255
  sea : -128 ≤ C.sea ∧ C.sea ≤ 127
  seaM : 0 ≤ C.seaM ∧ C.seaM ≤ 255
  k0 : 0 ≤ C.k0 ∧ C.k0 ≤ 65535
  k1 : 0 ≤ C.k1 ∧ C.k1 ≤ 65535
  l0 : 0 ≤ C.l0 ∧ C.l0 ≤ 65535
  l1 : 0 ≤ C.l1 ∧ C.l1 ≤ 65535
  o0 : 0 ≤ C.o0 ∧ C.o0 ≤ 255
  o1 : 0 ≤ C.o1 ∧ C.o1 ≤ 255
  low : ∀ i, -32768 ≤ gi C.low i ∧ gi C.low i ≤ 32767
  more : ∀ i, 0 ≤ gi C.more i ∧ gi C.more i ≤ 255
  lowN : C.low.length ≤ 9223372036854775807
  moreN : C.more.length ≤ 9223372036854775807
structure Coast.At (A : Hp) (C : Coast) : Prop where
  low : RdS A 1 C.low.length (kints .i16 C.low) C.lowV
  more : RdS A 1 C.more.length (kints .u8 C.more) C.moreV
theorem Coast.At.mono {A A' : Hp} {C : Coast} (h : C.At A) (hA : ∀ x, x < A.n → A'.get x = A.get x) : C.At A' := ⟨h.low.mono hA, h.more.mono hA⟩
def Coast.w (C : Coast) : Int := 1 + C.wd.tmod 4
def Coast.h (C : Coast) : Int := 1 + C.hg.tmod 4
def Coast.n (C : Coast) : Nat := (C.w * C.h).toNat
def Coast.gl (C : Coast) (i : Nat) : Int := if 0 < C.low.length then gi C.low (i % C.low.length) else 0
def Coast.gm (C : Coast) (i : Nat) : Int := if 0 < C.more.length then gi C.more (i % C.more.length) else 0
def Coast.gnd (C : Coast) (i : Nat) : List (Int × Int) := (List.range i).map fun j => (C.gl j, C.gl j + C.gm j)
theorem Coast.gnd_len {C : Coast} {i : Nat} : (C.gnd i).length = i := by simp [Coast.gnd]
theorem Coast.gnd_succ {C : Coast} {i : Nat} : ints (flat2 (C.gnd (i + 1))) = ints (flat2 (C.gnd i)) ++ [.int .i64 (C.gl i), .int .i64 (C.gl i + C.gm i)] := by
  unfold Coast.gnd
  rw [List.range_succ, List.map_append]
  simp [flat2, ints]
theorem Coast.Ok.wh {C : Coast} (h : C.Ok) : (1 ≤ C.w ∧ C.w ≤ 4) ∧ (1 ≤ C.h ∧ C.h ≤ 4) ∧ (C.n : Int) = C.w * C.h ∧ 1 ≤ C.n ∧ C.n ≤ 16 := by
  have h1 := h.wd
  have h2 := h.hg
  have e1 : C.w = 1 + C.wd % 4 := by unfold Coast.w; rw [Int.tmod_eq_emod_of_nonneg h1.1]
  have e2 : C.h = 1 + C.hg % 4 := by unfold Coast.h; rw [Int.tmod_eq_emod_of_nonneg h2.1]
  have hw : 1 ≤ C.w ∧ C.w ≤ 4 := by omega
  have hh : 1 ≤ C.h ∧ C.h ≤ 4 := by omega
  have a1 := Int.mul_le_mul hw.1 hh.1 (by omega) (by omega)
  have a2 := Int.mul_le_mul hw.2 hh.2 (by omega) (by omega)
  unfold Coast.n
  omega
theorem Coast.Ok.g {C : Coast} (h : C.Ok) (i : Nat) : (-32768 ≤ C.gl i ∧ C.gl i ≤ 32767) ∧ (0 ≤ C.gm i ∧ C.gm i ≤ 255) := by
  unfold Coast.gl Coast.gm
  have h1 := h.low (i % C.low.length)
  have h2 := h.more (i % C.more.length)
  split <;> split <;> omega
def ordLo (a b lo m : Int) : Int := lo + min (a.tmod m) (b.tmod m)
def ordHi (a b lo m : Int) : Int := lo + max (a.tmod m) (b.tmod m)
def Coast.P (C : Coast) (sl : Value) : Par := ⟨false, C.w, C.h, 500, sl, C.gnd C.n, C.sea, C.sea + C.seaM.tmod 50, ordLo C.k0 C.k1 1 1024, ordHi C.k0 C.k1 1 1024, ordLo C.l0 C.l1 10 2000, ordHi C.l0 C.l1 10 2000, ordLo C.o0 C.o1 0 256, ordHi C.o0 C.o1 0 256⟩
section
variable {g : Nat} {A : Hp} {V : Value → Hp → Prop}
theorem w25 {a b : Int} (hg : g ≤ A.n) (hQ : ∀ A', Ext' A A' → V (spn a b) A') : WF AP KL g 25 [.int .i64 a, .int .i64 b] A V := by
  rw [WF_body rfl (show AP 25 = some F25 from rfl)]
  simp (disch := as_aux_lemma => first | omega | simp only [hDs] <;> omega | simp [isCell]) [hRs, takeMarks, resA, resAll, resOne, Value.cells, storeB_cells, setRange_all, fillA, setRange, set_push_eq]
  exact hQ _ (Ext'.push _ _)
theorem w49 {a b lo m : Int} (hg : g ≤ A.n) (ha : 0 ≤ a ∧ a ≤ 65535) (hb : 0 ≤ b ∧ b ≤ 65535) (hlo : 0 ≤ lo ∧ lo ≤ 1000) (hm : 1 ≤ m ∧ m ≤ 10000) (hQ : ∀ A', Ext' A A' → V (spn (ordLo a b lo m) (ordHi a b lo m)) A') :
    WF AP KL g 49 [.int .i64 a, .int .i64 b, .int .i64 lo, .int .i64 m] A V := by
  have e1 : 0 ≤ a.tmod m ∧ a.tmod m < m := ⟨Int.tmod_nonneg _ ha.1, Int.tmod_lt_of_pos _ (by omega)⟩
  have e2 : 0 ≤ b.tmod m ∧ b.tmod m < m := ⟨Int.tmod_nonneg _ hb.1, Int.tmod_lt_of_pos _ (by omega)⟩
  rw [WF_body rfl (show AP 49 = some F49 from rfl)]
  simp (disch := as_aux_lemma => first | omega | simp only [hDs] <;> omega | simp [isCell]) [hRs, takeMarks, resA, resAll, resOne, Value.cells, binA_rem (show m ≠ 0 by omega), wrId (n := lo + a.tmod m) (by omega) (by omega), wrId (n := lo + b.tmod m) (by omega) (by omega)]
  refine w25 (by simp; omega) fun A1 k1 => ?_
  have hb := k1.get (get_push_new (A := A) (b := .cells [.int .i64 0, .int .i64 0] false))
  simp (disch := as_aux_lemma => first | omega | simp only [hDs] <;> omega | simp [isCell]) [hRs, takeMarks, resA, resAll, resOne, Value.cells, spn, hb, storeB_cells, setRange_all, get_set_same hb]
  have kk : A.n + 1 ≤ A1.n := k1.1
  refine hQ _ ⟨by show A.n ≤ A1.n; omega, fun x hx => ?_⟩
  rw [get_set_ne (Hp.lt_of_get hb) (Nat.ne_of_lt hx), k1.2 x (by simp; omega), get_push_old hx]
end
section
variable {g : Nat} {D : List Nat} {rd : Option Nat} {Q : Ex → St → Prop}
theorem loop24 {A0 : Hp} {C : Coast} {b1 b5 : Nat} {T0 : List Value} (hC : C.Ok) (hAt : ∀ A, (∀ x, x < b5 → A.get x = A0.get x) → C.At A) (hg : g ≤ b5) (h1 : A0.get b1 = some (.cells C.cells false)) (h15 : b1 < b5) (h5 : b5 < A0.n)
    (hQ : ∀ T' A' sv, A0.n ≤ A'.n → (∀ x, x < A0.n → x ≠ b5 → A'.get x = A0.get x) → A'.get b5 = some (.cells [.int .i64 C.w, .int .i64 C.h, .int .i64 500, sv] false) → AccS A0.n A' 2 (ints (flat2 (C.gnd C.n))) sv → (∀ i, i < 6 → tget T' i = tget T0 i) → Q (.exit 0) ⟨T', D, A'⟩) :
    ∀ (k i : Nat) (T : List Value) (A : Hp) (sv : Value), i + k = C.n → A0.n ≤ A.n → (∀ x, x < A0.n → x ≠ b5 → A.get x = A0.get x) → A.get b5 = some (.cells [.int .i64 C.w, .int .i64 C.h, .int .i64 500, sv] false) → AccS A0.n A 2 (ints (flat2 (C.gnd i))) sv →
      (∀ i, i < 6 → tget T i = tget T0 i) → tget T0 1 = ptrV b1 → tget T0 5 = ptrV b5 → tget T 25 = .int .i64 C.n → tget T 26 = .int .i64 i → W AP KL g rd (.loop body24) ⟨T, D, A⟩ Q := by
  intro k
  have hwh := hC.wh
  induction k with
  | zero =>
    intro i T A sv hi hn hold hb5 hacc hT t1 t5 t25 t26
    have : i = C.n := by omega
    rw [W_loop]
    simp (disch := as_aux_lemma => first | omega | simp only [hDs] <;> omega | simp [isCell]) [hRs, takeMarks, resA, resAll, resOne, Value.cells, body24, t25, t26, show ¬ ((i : Int) < C.n) by omega]
    refine hQ _ A sv hn hold hb5 (by rw [← this]; exact hacc) fun j hj => ?_
    simp only [tget_tset]
    rw [if_neg (by omega)]
    exact hT j hj
  | succ k ih =>
    intro i T A sv hi hn hold hb5 hacc hT t1' t5' t25 t26
    have t1 := (hT 1 (by omega)).trans t1'
    have t5 := (hT 5 (by omega)).trans t5'
    have hAtA : C.At A := hAt A fun x hx => hold x (by omega) (by omega)
    have hb1 : A.get b1 = _ := (hold b1 (by omega) (by omega)).trans h1
    have n1 := Hp.lt_of_get hb1
    have n5 := Hp.lt_of_get hb5
    have hgi := hC.g i
    have hll := hC.lowN
    have hml := hC.moreN
    have lenL := hAtA.low.len
    have lenM := hAtA.more.len
    have fin : ∀ (A1 : Hp) (ro : Bool), (∀ x, x < A.n → A1.get x = A.get x) → A.n ≤ A1.n →
        ∃ sp sm sc A', appendA g (A1.push (.cells [.int .i64 (C.gl i), .int .i64 (C.gl i + C.gm i)] ro)) 2 16 sv (.slice (some ⟨A1.n, 0, some 2⟩) 1 1) = some (.slice sp sm sc, A') ∧ A'.get b5 = some (.cells [.int .i64 C.w, .int .i64 C.h, .int .i64 500, sv] false) ∧
          ∀ (T' : List Value), (∀ i, i < 6 → tget T' i = tget T i) → tget T' 25 = .int .i64 C.n → tget T' 26 = .int .i64 ((i : Int) + 1) → W AP KL g rd (.loop body24) ⟨T', D, A'.set b5 (some (.cells [.int .i64 C.w, .int .i64 C.h, .int .i64 500, .slice sp sm sc] false))⟩ Q := by
      intro A1 ro hA1 hn1
      obtain ⟨sv', A', e, hacc', hold', hn''⟩ := (hacc.mono hA1).add (g := g) (bytes := 16) (new := [.int .i64 (C.gl i), .int .i64 (C.gl i + C.gm i)]) (ro := ro) (n := i) (by omega) (by omega) rfl (by decide) rfl (by rw [ints_length, flat2_length, Coast.gnd_len]) (by unfold room; omega)
      have g5 : A'.get b5 = some (.cells [.int .i64 C.w, .int .i64 C.h, .int .i64 500, sv] false) := by rw [hold' b5 (by omega), hA1 b5 n5]; exact hb5
      have l5 := Hp.lt_of_get g5
      obtain ⟨sp, sm, sc, rfl⟩ := hacc'.isSlice
      refine ⟨sp, sm, sc, A', e, g5, fun T' hT' t25' t26' => ?_⟩
      refine ih (i + 1) T' _ _ (by omega) (by show _ ≤ A'.n; omega) (fun x hx hx5 => ?_) (get_set_same g5) ?_ (fun j hj => (hT' j hj).trans (hT j hj)) t1' t5' t25' (by rw [t26']; simp)
      · rw [get_set_ne l5 hx5, hold' x (by omega), hA1 x (by omega), hold x hx hx5]
      · rw [Coast.gnd_succ]
        exact AccS.set_low hacc' h5 (by omega)
    have go : ∃ sp sm sc A', appendA g ((A.push (.cells [.int .i64 (C.gl i), .int .i64 (C.gl i + C.gm i)] false)).push (.cells [.int .i64 (C.gl i), .int .i64 (C.gl i + C.gm i)] false)) 2 16 sv (.slice (some ⟨A.n + 1, 0, some 2⟩) 1 1) = some (.slice sp sm sc, A') ∧ A'.get b5 = some (.cells [.int .i64 C.w, .int .i64 C.h, .int .i64 500, sv] false) ∧ _ :=
      fin (A.push (.cells [.int .i64 (C.gl i), .int .i64 (C.gl i + C.gm i)] false)) false (fun x hx => get_push_old hx) (Nat.le_succ _)
    obtain ⟨sp, sm, sc, A', e, g5, go⟩ := go
    have n5' := Hp.lt_of_get g5
    have tn : ∀ m : Nat, ((i : Int) % (m : Int)).toNat = i % m := fun m => by rw [← Int.natCast_emod]; exact Int.toNat_natCast _
    have hlow := hC.low
    have hmore := hC.more
    rw [W_loop]
    by_cases hl : 0 < C.low.length
    · obtain ⟨x, cx, rx, hxv, hx⟩ := hAtA.low.at (i := i % C.low.length) (Nat.mod_lt _ hl)
      have nx := Hp.lt_of_get hx
      have eg : C.gl i = gi C.low (i % C.low.length) := by unfold Coast.gl; rw [if_pos hl]
      have ml : i % C.low.length < C.low.length := Nat.mod_lt _ hl
      have ql : 0 ≤ (i : Int) % (C.low.length : Int) ∧ (i : Int) % (C.low.length : Int) < C.low.length := ⟨Int.emod_nonneg _ (by omega), Int.emod_lt_of_pos _ (by omega)⟩
      rw [hxv] at lenL
      by_cases hm : 0 < C.more.length
      · obtain ⟨y, cy, ry, hyv, hy⟩ := hAtA.more.at (i := i % C.more.length) (Nat.mod_lt _ hm)
        have ny := Hp.lt_of_get hy
        have em : C.gm i = gi C.more (i % C.more.length) := by unfold Coast.gm; rw [if_pos hm]
        have mm : i % C.more.length < C.more.length := Nat.mod_lt _ hm
        have qm : 0 ≤ (i : Int) % (C.more.length : Int) ∧ (i : Int) % (C.more.length : Int) < C.more.length := ⟨Int.emod_nonneg _ (by omega), Int.emod_lt_of_pos _ (by omega)⟩
        rw [hyv] at lenM
        rw [eg, em] at e
        simp (disch := as_aux_lemma => first | omega | simp only [hDs] <;> omega | simp [isCell]) [hRs, takeMarks, resA, resAll, resOne, Value.cells, body24, t25, t26, show (i : Int) < C.n by omega, t1, t5, ptrV, hb1, Coast.cells, fillA, storeB_cells, setRange_all, set_push_eq, tmod_nat, tn, idxSA_ok, kints_get, toIntA_int, setRange, hb5, g5, slitA, e, storeB_cells, hxv, lenL, show (0 : Int) < C.low.length by omega, hl, binA_rem, show ¬ ((C.low.length : Int) = 0) by omega, ml, hx, wrId (n := gi C.low (i % C.low.length)) (by have := hlow (i % C.low.length); omega) (by have := hlow (i % C.low.length); omega), hyv, lenM, show (0 : Int) < C.more.length by omega, hm, binA_rem, show ¬ ((C.more.length : Int) = 0) by omega, mm, hy, wrId (n := gi C.more (i % C.more.length)) (by have := hmore (i % C.more.length); omega) (by have := hmore (i % C.more.length); omega), wrId (n := gi C.low (i % C.low.length) + gi C.more (i % C.more.length)) (by omega) (by omega)]
        refine go _ ?_ ?_ ?_
        · intro j hj
          simp only [tget_tset]
          repeat (rw [if_neg (by omega)])
        · simp [t25]
        · simp [wrId (n := (i : Int) + 1) (by omega) (by omega)]
      · have em : C.gm i = 0 := by unfold Coast.gm; rw [if_neg hm]
        have hm0 : C.more.length = 0 := by omega
        rw [hm0] at lenM
        rw [eg, em, Int.add_zero] at e
        simp (disch := as_aux_lemma => first | omega | simp only [hDs] <;> omega | simp [isCell]) [hRs, takeMarks, resA, resAll, resOne, Value.cells, body24, t25, t26, show (i : Int) < C.n by omega, t1, t5, ptrV, hb1, Coast.cells, fillA, storeB_cells, setRange_all, set_push_eq, tmod_nat, tn, idxSA_ok, kints_get, toIntA_int, setRange, hb5, g5, slitA, e, storeB_cells, hxv, lenL, show (0 : Int) < C.low.length by omega, hl, binA_rem, show ¬ ((C.low.length : Int) = 0) by omega, ml, hx, wrId (n := gi C.low (i % C.low.length)) (by have := hlow (i % C.low.length); omega) (by have := hlow (i % C.low.length); omega), lenM, wrId (n := (0 : Int)) (by omega) (by omega)]
        refine go _ ?_ ?_ ?_
        · intro j hj
          simp only [tget_tset]
          repeat (rw [if_neg (by omega)])
        · simp [t25]
        · simp [wrId (n := (i : Int) + 1) (by omega) (by omega)]
    · have eg : C.gl i = 0 := by unfold Coast.gl; rw [if_neg hl]
      have hl0 : C.low.length = 0 := by omega
      rw [hl0] at lenL
      by_cases hm : 0 < C.more.length
      · obtain ⟨y, cy, ry, hyv, hy⟩ := hAtA.more.at (i := i % C.more.length) (Nat.mod_lt _ hm)
        have ny := Hp.lt_of_get hy
        have em : C.gm i = gi C.more (i % C.more.length) := by unfold Coast.gm; rw [if_pos hm]
        have mm : i % C.more.length < C.more.length := Nat.mod_lt _ hm
        have qm : 0 ≤ (i : Int) % (C.more.length : Int) ∧ (i : Int) % (C.more.length : Int) < C.more.length := ⟨Int.emod_nonneg _ (by omega), Int.emod_lt_of_pos _ (by omega)⟩
        rw [hyv] at lenM
        rw [eg, em, Int.zero_add] at e
        simp (disch := as_aux_lemma => first | omega | simp only [hDs] <;> omega | simp [isCell]) [hRs, takeMarks, resA, resAll, resOne, Value.cells, body24, t25, t26, show (i : Int) < C.n by omega, t1, t5, ptrV, hb1, Coast.cells, fillA, storeB_cells, setRange_all, set_push_eq, tmod_nat, tn, idxSA_ok, kints_get, toIntA_int, setRange, hb5, g5, slitA, e, storeB_cells, lenL, hyv, lenM, show (0 : Int) < C.more.length by omega, hm, binA_rem, show ¬ ((C.more.length : Int) = 0) by omega, mm, hy, wrId (n := gi C.more (i % C.more.length)) (by have := hmore (i % C.more.length); omega) (by have := hmore (i % C.more.length); omega), wrId (n := gi C.more (i % C.more.length)) (by omega) (by omega)]
        refine go _ ?_ ?_ ?_
        · intro j hj
          simp only [tget_tset]
          repeat (rw [if_neg (by omega)])
        · simp [t25]
        · simp [wrId (n := (i : Int) + 1) (by omega) (by omega)]
      · have em : C.gm i = 0 := by unfold Coast.gm; rw [if_neg hm]
        have hm0 : C.more.length = 0 := by omega
        rw [hm0] at lenM
        rw [eg, em, Int.add_zero] at e
        simp (disch := as_aux_lemma => first | omega | simp only [hDs] <;> omega | simp [isCell]) [hRs, takeMarks, resA, resAll, resOne, Value.cells, body24, t25, t26, show (i : Int) < C.n by omega, t1, t5, ptrV, hb1, Coast.cells, fillA, storeB_cells, setRange_all, set_push_eq, tmod_nat, tn, idxSA_ok, kints_get, toIntA_int, setRange, hb5, g5, slitA, e, storeB_cells, lenL, lenM, wrId (n := (0 : Int)) (by omega) (by omega)]
        refine go _ ?_ ?_ ?_
        · intro j hj
          simp only [tget_tset]
          repeat (rw [if_neg (by omega)])
        · simp [t25]
        · simp [wrId (n := (i : Int) + 1) (by omega) (by omega)]
end
end Go.Ab.Wave
namespace Go.Ab.Wave
open Go Go.Ab
section
variable {g : Nat} {A : Hp} {V : Value → Hp → Prop}
theorem w24 {C : Coast} (hC : C.Ok) (hAt : C.At A) (hg : g ≤ A.n) (hQ : ∀ A' sv, Ext' A A' → AccS A.n A' 2 (ints (flat2 (C.gnd C.n))) sv → V (.tuple ⟨[gridV C.w C.h 500 sv, spn (C.P sv).slo (C.P sv).shi, modelV (C.P sv).k0 (C.P sv).k1 (C.P sv).l0 (C.P sv).l1 (C.P sv).o0 (C.P sv).o1]⟩) A') :
    WF AP KL g 24 [.agg ⟨C.cells⟩] A V := by
  have hwh := hC.wh
  have h1 := hC.wd
  have h2 := hC.hg
  have h3 := hC.sea
  have h4 := hC.seaM
  have e1 : 0 ≤ C.wd.tmod 4 ∧ C.wd.tmod 4 < 4 := ⟨Int.tmod_nonneg _ h1.1, Int.tmod_lt_of_pos _ (by omega)⟩
  have e2 : 0 ≤ C.hg.tmod 4 ∧ C.hg.tmod 4 < 4 := ⟨Int.tmod_nonneg _ h2.1, Int.tmod_lt_of_pos _ (by omega)⟩
  have e3 : 0 ≤ C.seaM.tmod 50 ∧ C.seaM.tmod 50 < 50 := ⟨Int.tmod_nonneg _ h4.1, Int.tmod_lt_of_pos _ (by omega)⟩
  have hk0 := hC.k0
  have hk1 := hC.k1
  have hl0 := hC.l0
  have hl1 := hC.l1
  have ho0 := hC.o0
  have ho1 := hC.o1
  rw [WF_body rfl (show AP 24 = some F24 from rfl)]
  have ew : 1 + C.wd.tmod 4 = C.w := rfl
  have eh : 1 + C.hg.tmod 4 = C.h := rfl
  obtain ⟨B, hB⟩ : ∃ B, B = ((((A.push (.cells C.cells false)).push (.cells [.int .i64 0, .int .i64 0, .int .i64 0, .slice none 0 0] false)).push (.cells [.int .i64 0, .int .i64 0] false)).push (.cells [.int .i64 0, .int .i64 0, .int .i64 0, .int .i64 0, .int .i64 0, .int .i64 0] false)).push (.cells [.int .i64 C.w, .int .i64 C.h, .int .i64 500, .slice none 0 0] false) := ⟨_, rfl⟩
  have nB : B.n = A.n + 5 := by rw [hB]; rfl
  have bo : ∀ x, x < A.n → B.get x = A.get x := fun x hx => by rw [hB, get_push_old (by simp; omega), push4_old hx]
  have b1 : B.get A.n = some (.cells C.cells false) := by rw [hB, get_push_old (by simp; omega), get_push_old (by simp; omega)]; exact push3_a
  have b2 : B.get (A.n + 1) = some (.cells [.int .i64 0, .int .i64 0, .int .i64 0, .slice none 0 0] false) := by rw [hB, get_push_old (by simp), get_push_old (by simp)]; exact push3_b
  have b3 : B.get (A.n + 2) = some (.cells [.int .i64 0, .int .i64 0] false) := by rw [hB, get_push_old (by simp), get_push_old (by simp)]; exact push3_c
  have b4 : B.get (A.n + 3) = some (.cells [.int .i64 0, .int .i64 0, .int .i64 0, .int .i64 0, .int .i64 0, .int .i64 0] false) := by rw [hB, get_push_old (by simp)]; exact get_push_eq (by simp)
  have b5 : B.get (A.n + 4) = some (.cells [.int .i64 C.w, .int .i64 C.h, .int .i64 500, .slice none 0 0] false) := by rw [hB]; exact get_push_eq (by simp)
  simp (disch := as_aux_lemma => first | omega | simp only [hDs] <;> omega | simp [isCell]) [hRs, takeMarks, resA, resAll, resOne, Value.cells, toIntA_int, wrId (n := C.wd) (by omega) (by omega), wrId (n := C.hg) (by omega) (by omega), binA_rem, ew, eh, wrId (n := C.w) (by omega) (by omega), wrId (n := C.h) (by omega) (by omega), fillA, setRange, storeB_cells, set_push_eq, Coast.cells, wrId (n := C.w * C.h) (by omega) (by omega)]
  have hB' := hB
  unfold Coast.cells at hB'
  rw [← hB']
  refine loop24 (C := C) (A0 := B) (b1 := A.n) (b5 := A.n + 4) (T0 := _) hC (fun A' h => hAt.mono fun x hx => (h x (by omega)).trans (bo x hx)) (by omega) b1 (by omega) (by omega) (fun T' A' sv hn hold h5 hacc hT => ?_) C.n 0 _ B (.slice none 0 0) (by omega) (Nat.le_refl _) (fun _ _ _ => rfl) b5 AccS.nil (fun _ _ => rfl) ?_ ?_ ?_ ?_
  · obtain ⟨sp, sm, sc, rfl⟩ := hacc.isSlice
    have q1 := hT 1 (by omega)
    have q2 := hT 2 (by omega)
    have q3 := hT 3 (by omega)
    have q4 := hT 4 (by omega)
    have q5 := hT 5 (by omega)
    simp at q1 q2 q3 q4 q5
    have c1 := (hold _ (by omega) (by omega)).trans b1
    have c2 := (hold _ (by omega) (by omega)).trans b2
    have c3 := (hold _ (by omega) (by omega)).trans b3
    have c4 := (hold _ (by omega) (by omega)).trans b4
    unfold Coast.cells at c1
    simp (disch := as_aux_lemma => first | omega | simp only [hDs] <;> omega | simp [isCell]) [hRs, takeMarks, resA, resAll, resOne, Value.cells, q1, c1, idxAA_ok, toIntA_int, wrId (n := C.k0) (by omega) (by omega), wrId (n := C.k1) (by omega) (by omega)]
    refine w49 (by omega) hk0 hk1 (by omega) (by omega) fun A1 k1 => ?_
    have d1 := k1.get c1
    simp (disch := as_aux_lemma => first | omega | simp only [hDs] <;> omega | simp [isCell]) [hRs, takeMarks, resA, resAll, resOne, Value.cells, q1, d1, idxAA_ok, toIntA_int, wrId (n := C.l0) (by omega) (by omega), wrId (n := C.l1) (by omega) (by omega)]
    refine w49 (by have := k1.1; omega) hl0 hl1 (by omega) (by omega) fun A2 k2 => ?_
    have d1 := k2.get d1
    simp (disch := as_aux_lemma => first | omega | simp only [hDs] <;> omega | simp [isCell]) [hRs, takeMarks, resA, resAll, resOne, Value.cells, q1, d1, idxAA_ok, toIntA_int, wrId (n := C.o0) (by omega) (by omega), wrId (n := C.o1) (by omega) (by omega)]
    refine w49 (by have := k1.1; have := k2.1; omega) (by omega) (by omega) (by omega) (by omega) fun A3 k3 => ?_
    have d1 := k3.get d1
    have kk := (k1.trans k2).trans k3
    have d5 := kk.get h5
    have n3 := kk.1
    simp (disch := as_aux_lemma => first | omega | simp only [hDs] <;> omega | simp [isCell]) [hRs, takeMarks, resA, resAll, resOne, Value.cells, q1, q2, q3, q4, q5, d1, d5, spn, fillA, setRange, storeB_cells, set_push_eq, toIntA_int, wrId (n := C.sea) (by omega) (by omega), wrId (n := C.seaM) (by omega) (by omega), binA_rem, wrId (n := C.sea + C.seaM.tmod 50) (by omega) (by omega)]
    refine w25 (Nat.le_refl _) fun A4 k4 => ?_
    have e1 := k4.get ((Ext'.push A3 _).get (kk.get c2))
    have e2 := k4.get ((Ext'.push A3 _).get (kk.get c3))
    have e3 := k4.get ((Ext'.push A3 _).get (kk.get c4))
    have e9 := k4.get (get_push_new (A := A3))
    have l1 := Hp.lt_of_get e1
    have l2 := Hp.lt_of_get e2
    have l3 := Hp.lt_of_get e3
    have l9 := Hp.lt_of_get e9
    have s1 : ∀ b0, (A4.set (A.n + 1) b0).get (A.n + 1) = b0 := fun b0 => get_set_same e1
    have s2 : ∀ b0, (A4.set (A.n + 1) b0).get (A.n + 2) = _ := fun b0 => (get_set_ne l1 (by omega)).trans e2
    have s3 : ∀ b0, (A4.set (A.n + 1) b0).get (A.n + 3) = _ := fun b0 => (get_set_ne l1 (by omega)).trans e3
    have s4 : ∀ b0 b1, ((A4.set (A.n + 1) b0).set (A.n + 2) b1).get (A.n + 2) = b1 := fun b0 b1 => get_set_same (s2 b0)
    have s5 : ∀ b0 b1, ((A4.set (A.n + 1) b0).set (A.n + 2) b1).get (A.n + 1) = b0 := fun b0 b1 => (get_set_ne (by show _ < A4.n; omega) (by omega)).trans (s1 b0)
    have s6 : ∀ b0 b1, ((A4.set (A.n + 1) b0).set (A.n + 2) b1).get (A.n + 3) = _ := fun b0 b1 => (get_set_ne (by show _ < A4.n; omega) (by omega)).trans (s3 b0)
    have s7 : ∀ b0 b1 b2, (((A4.set (A.n + 1) b0).set (A.n + 2) b1).set (A.n + 3) b2).get (A.n + 3) = b2 := fun b0 b1 b2 => get_set_same (s6 b0 b1)
    have s8 : ∀ b0 b1 b2, (((A4.set (A.n + 1) b0).set (A.n + 2) b1).set (A.n + 3) b2).get (A.n + 1) = b0 := fun b0 b1 b2 => (get_set_ne (by show _ < A4.n; omega) (by omega)).trans (s5 b0 b1)
    have s9 : ∀ b0 b1 b2, (((A4.set (A.n + 1) b0).set (A.n + 2) b1).set (A.n + 3) b2).get (A.n + 2) = b1 := fun b0 b1 b2 => (get_set_ne (by show _ < A4.n; omega) (by omega)).trans (s4 b0 b1)
    simp (disch := as_aux_lemma => first | omega | simp only [hDs] <;> omega | simp [isCell]) [hRs, takeMarks, resA, resAll, resOne, Value.cells, q1, q2, q3, q4, q5, apartA, spn, e1, e2, e3, e9, storeB_cells, setRange_all, show ¬ (A.n + 1 = A3.n) by omega, show ¬ (A.n + 2 = A3.n) by omega, s2, s6, s7, s8, s9]
    have k44 : ∀ x, x < A.n + 1 → A4.get x = A'.get x := fun x hx => by rw [k4.2 x (by show x < A3.n + 1; omega), get_push_old (by omega), kk.2 x (by omega)]
    have lo : ∀ b0 b1 b2 x, x ≠ A.n + 1 → x ≠ A.n + 2 → x ≠ A.n + 3 → (((A4.set (A.n + 1) b0).set (A.n + 2) b1).set (A.n + 3) b2).get x = A4.get x := fun b0 b1 b2 x h1 h2 h3 => by
      rw [get_set_ne (by show _ < A4.n; omega) h3, get_set_ne (by show _ < A4.n; omega) h2, get_set_ne (by show _ < A4.n; omega) h1]
    refine hQ _ (.slice sp sm sc) ⟨by show A.n ≤ A4.n; omega, fun x hx => ?_⟩ ?_
    · rw [lo _ _ _ x (by omega) (by omega) (by omega), k44 x (by omega), hold x (by omega) (by omega), bo x hx]
    · rcases hacc with hacc | ⟨y, m, h1, h2, h3, h4, h5⟩
      · exact .inl hacc
      · have hy := Hp.lt_of_get h2
        refine .inr ⟨y, m, h1, ?_, by omega, h4, h5⟩
        rw [lo _ _ _ y (by omega) (by omega) (by omega), k4.2 y (by show y < A3.n + 1; omega), get_push_old (by omega), kk.2 y hy]
        exact h2
  all_goals simp [ptrV, hwh.2.2.1]
end
end Go.Ab.Wave
