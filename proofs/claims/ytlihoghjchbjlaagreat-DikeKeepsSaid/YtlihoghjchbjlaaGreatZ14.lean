/- Sills: w269. -/
import Derived.Test.YtlihoghjchbjlaaGreatZ13
set_option linter.unusedSimpArgs false
set_option linter.unusedVariables false
set_option linter.unusedSectionVars false
namespace Go.Ab.Dike
open Go Go.Ab
section
variable {g : Nat} {rd : Option Nat} {T : List Value} {D : List Nat} {A : Hp} {Q : Ex → St → Prop} {V : Value → Hp → Prop}
theorem loop278c {N XH Y i last : Nat} {A0 : Hp} {L : List (Int × Int)} (hH : HpA N XH A0 L) (hlast : L.length = last) (hll : last < 1000000000000) (hi : i = 0 ∨ i < last) {c1 c2 : Int} (hc1 : c1 = ((2 * i + 1 : Nat) : Int)) (hc2 : c2 = ((2 * i + 2 : Nat) : Int)) (hY : A0.get Y = some (.cells [.int .i64 c1, .int .i64 c2] false)) (hg : g ≤ A0.n)
    (hQ : ∀ T' A' (k : Nat), KeepT [0, 2, 3, 4, 5] T T' → tget T' 6 = .int .i64 k → (k = i ∨ (i < k ∧ k < last)) → Ext' A0 A' → Q (.exit 2) ⟨T', D, A'⟩) (t0 : tget T 0 = .pointer (some ⟨XH, 0, none⟩)) (t4 : tget T 4 = .int .i64 last) :
    ∀ (r j : Nat) {T1 : List Value} {A : Hp} (k : Nat), j + r = 2 → KeepT [0, 2, 3, 4, 5] T T1 → (k = i ∨ (i < k ∧ k < last)) → tget T1 6 = .int .i64 k → tget T1 49 = .slice (some ⟨Y, 0, some 1⟩) 2 2 → tget T1 50 = .int .i64 2 → tget T1 51 = .int .i64 j → Ext' A0 A → W AP KL g rd (.loop body278c) ⟨T1, D, A⟩ Q := by
  intro r
  induction r with
  | zero =>
    intro j T1 A k hjr hk hkk t6 t49 t50 t51 he
    have : j = 2 := by omega
    subst this
    rw [W_loop]
    simp (disch := as_aux_lemma => first | omega | simp only [hDs] <;> omega | simp [isCell]) [hRs, takeMarks, resA, resAll, resOne, Value.cells, body278c, t50, t51]
    exact hQ _ _ k (hk.trans (by simp)) (by simp [t6]) hkk he
  | succ r ih =>
    intro j T1 A k hjr hk hkk t6 t49 t50 t51 he
    have u0 := (hk.at 0 rfl).trans t0
    have u4 := (hk.at 4 rfl).trans t4
    have hYA := he.get hY
    have hA0 := he.1
    have e1 := wrId (n := (j : Int) + 1) (by omega) (by omega)
    obtain ⟨c, hc, hci⟩ : ∃ c : Nat, cellAt [Value.int .i64 c1, .int .i64 c2] j = some (.int .i64 (c : Int)) ∧ i < c := by
      have : j = 0 ∨ j = 1 := by omega
      rcases this with rfl | rfl
      · exact ⟨2 * i + 1, by rw [hc1]; rfl, by omega⟩
      · exact ⟨2 * i + 2, by rw [hc2]; rfl, by omega⟩
    rw [W_loop]
    by_cases hcl : c < last
    · obtain ⟨sv, hX, hS⟩ := hH.e
      obtain ⟨b, cp, cs, rfl, hb, hcs, hlc, hNb, hat⟩ := hS.row (by omega)
      have hXA := he.get hX
      have hbA := he.get hb
      unfold bef275 at hXA
      rw [hlast] at hXA
      have hkl : k < last := by omega
      have rc := row_part (hat c (by omega)).1 (hat c (by omega)).2
      have rk := row_part (hat k (by omega)).1 (hat k (by omega)).2
      obtain ⟨xc, hxc⟩ : ∃ xc, xc = L.getD c (0, 0) := ⟨_, rfl⟩
      obtain ⟨xk, hxk⟩ : ∃ xk, xk = L.getD k (0, 0) := ⟨_, rfl⟩
      rw [← hxc] at rc
      rw [← hxk] at rk
      have hcI : (c : Int) < last := by omega
      have hkI : (k : Int) < last := by omega
      simp (disch := as_aux_lemma => first | omega | simp only [hDs] <;> omega | simp [isCell]) [hRs, takeMarks, resA, resAll, resOne, Value.cells, body278c, t49, t50, t51, show ((j : Int) < 2) by omega, idxSA_ok, hYA, hc, u4, hcI, hcl, u0, hXA, hbA, rc, t6, hkI, rk]
      refine w275 (by omega) fun A1 e11 => ?_
      by_cases hlt : xc.2 < xk.2
      · simp (disch := as_aux_lemma => first | omega | simp only [hDs] <;> omega | simp [isCell]) [hRs, takeMarks, resA, resAll, resOne, Value.cells, hlt, t51]
        exact ih (j + 1) c (by omega) (hk.trans (by simp)) (.inr ⟨hci, hcl⟩) (by simp) (by simp [t49]) (by simp [t50]) (by simp [e1]) (he.trans e11)
      · simp (disch := as_aux_lemma => first | omega | simp only [hDs] <;> omega | simp [isCell]) [hRs, takeMarks, resA, resAll, resOne, Value.cells, hlt, t51]
        exact ih (j + 1) k (by omega) (hk.trans (by simp)) hkk (by simp [t6]) (by simp [t49]) (by simp [t50]) (by simp [e1]) (he.trans e11)
    · simp (disch := as_aux_lemma => first | omega | simp only [hDs] <;> omega | simp [isCell]) [hRs, takeMarks, resA, resAll, resOne, Value.cells, body278c, t49, t50, t51, show ((j : Int) < 2) by omega, idxSA_ok, hYA, hc, u4, hcl]
      exact ih (j + 1) k (by omega) (hk.trans (by simp)) hkk (by simp [t6]) (by simp [t49]) (by simp [t50]) (by simp [e1, t51]) he
theorem loop278 {N XH X2 X3 last : Nat} {A0 : Hp} {L0 : List (Int × Int)} {x : Int × Int} (hg : g ≤ XH) (hXN : XH < N) (hlast : L0.length = last) (hll : last < 1000000000000) (h23 : X2 ≠ X3) (hX2 : A0.n ≤ X2) (hX3 : A0.n ≤ X3) (hN0 : N ≤ A0.n)
    (hQ : ∀ T' A' L, L.length = last → (∀ y, y ∈ L ↔ y ∈ L0) → HpA N XH A' L → HUp XH A0 A' → A'.get X2 = some (.cells [.int .i64 x.1, .int .i64 x.2] false) → tget T' 2 = .pointer (some ⟨X2, 0, none⟩) → Q .ret ⟨T', D, A'⟩) :
    ∀ (m i : Nat) {T : List Value} {A : Hp} (L : List (Int × Int)), last ≤ i + m → (i = 0 ∨ i < last) → L.length = last → (∀ y, y ∈ L ↔ y ∈ L0) → HpA N XH A L → (∀ sv b, A.get XH = some (.cells [sv, bef275] false) → blkOf sv = some b → b ≠ X2 ∧ b ≠ X3) → HUp XH A0 A → N ≤ A.n → A.get X2 = some (.cells [.int .i64 0, .int .i64 0] false) → A.get X3 = some (.cells [.int .i64 x.1, .int .i64 x.2] false) →
      tget T 0 = .pointer (some ⟨XH, 0, none⟩) → tget T 2 = .pointer (some ⟨X2, 0, none⟩) → tget T 3 = .pointer (some ⟨X3, 0, none⟩) → tget T 4 = .int .i64 last → tget T 5 = .int .i64 i → W AP KL g rd (.loop body278) ⟨T, D, A⟩ Q := by
  intro m
  induction m with
  | zero =>
    intro i T A L him hi hl hmem hH hap hU hN hA2 hA3 t0 t2 t3 t4 t5
    have hi0 : i = 0 ∧ last = 0 := by omega
    obtain ⟨rfl, rfl⟩ := hi0
    obtain ⟨B, hB⟩ : ∃ B, B = A.push (.cells [.int .i64 1, .int .i64 2] false) := ⟨_, rfl⟩
    have hBn : B.n = A.n + 1 := by rw [hB]; rfl
    have eB : Ext' A B := by rw [hB]; exact Ext'.push A _
    have hY : B.get A.n = some (.cells [.int .i64 1, .int .i64 2] false) := by rw [hB, get_push_new]
    have z2 : zeros 2 [Value.int .i64 0] = [.int .i64 0, .int .i64 0] := rfl
    have w1 : wr .i64 (2 * ((0 : Nat) : Int)) = 0 := rfl
    have w2 : wr .i64 (0 + 1) = 1 := rfl
    have w3 : wr .i64 (0 + 2) = 2 := rfl
    have w4 : wr .i64 (2 * 0) = 0 := rfl
    have w5 : wr .i64 1 = 1 := rfl
    have w6 : wr .i64 2 = 2 := rfl
    have w7 : wr .i64 0 = 0 := rfl
    have eH := hH.ext eB
    rw [W_loop]
    simp (disch := as_aux_lemma => first | omega | simp only [hDs] <;> omega | simp [isCell]) [hRs, takeMarks, resA, resAll, resOne, Value.cells, body278, t5, w1, w2, w3, w4, w5, w6, w7, z2, slitA, fillA, setRange, ← hB]
    refine loop278c (N := N) (XH := XH) (Y := A.n) (i := 0) (last := 0) (L := L) eH hl (by omega) (.inl rfl) (c1 := 1) (c2 := 2) rfl rfl hY (by omega) ?_ (T := _) ?_ ?_ 2 0 0 (by omega) (fun _ _ => rfl) (.inl rfl) (by simp) (by simp) (by simp) (by simp) (Ext'.refl _)
    · intro T2 A2' k k2 t6 hk e2
      have hk0 : k = 0 := by omega
      subst hk0
      have v2 := k2.at 2 rfl
      have v3 := k2.at 3 rfl
      have v5 := k2.at 5 rfl
      simp [t2, t3, t5] at v2 v3 v5
      have g2 := (eB.trans e2).get hA2
      have g3 := (eB.trans e2).get hA3
      have hne : ∀ (b' : Option ABlk) z, z ≠ X2 → (A2'.set X2 b').get z = A2'.get z := fun b' z hz => get_set_ne (Hp.lt_of_get g2) hz
      have hHe := hH.ext (eB.trans e2)
      obtain ⟨sv, s1, s2⟩ := hHe.e
      simp (disch := as_aux_lemma => first | omega | simp only [hDs] <;> omega | simp [isCell]) [hRs, takeMarks, resA, resAll, resOne, Value.cells, t6, v2, v3, v5, g2, g3, storeB_cells, setRange]
      refine hQ _ _ L hl hmem ⟨⟨sv, by rw [hne _ _ (by omega)]; exact s1, s2.keep fun b hb => hne _ b ?_⟩, hXN⟩ ((hU.trans (HUp.of (eB.trans e2) (by omega))).new (Y := X2) (by omega) (by omega) (by simp) fun z hz => hne _ z hz) (get_set_same g2) (by simp [v2])
      have hx := hH.e
      obtain ⟨sv0, q1, q2⟩ := hx
      have : A2'.get XH = A.get XH := (eB.trans e2).2 XH (Hp.lt_of_get q1)
      rw [this, q1] at s1
      cases s1
      exact (hap _ b q1 hb).1
    · simp [t0]
    · simp [t4]
  | succ m ih =>
    intro i T A L him hi hl hmem hH hap hU hN hA2 hA3 t0 t2 t3 t4 t5
    obtain ⟨c1, hc1⟩ : ∃ c1 : Int, c1 = ((2 * i + 1 : Nat) : Int) := ⟨_, rfl⟩
    obtain ⟨c2, hc2⟩ : ∃ c2 : Int, c2 = ((2 * i + 2 : Nat) : Int) := ⟨_, rfl⟩
    obtain ⟨B, hB⟩ : ∃ B, B = A.push (.cells [.int .i64 c1, .int .i64 c2] false) := ⟨_, rfl⟩
    have hBn : B.n = A.n + 1 := by rw [hB]; rfl
    have eB : Ext' A B := by rw [hB]; exact Ext'.push A _
    have hY : B.get A.n = some (.cells [.int .i64 c1, .int .i64 c2] false) := by rw [hB, get_push_new]
    have z2 : zeros 2 [Value.int .i64 0] = [.int .i64 0, .int .i64 0] := rfl
    have w1 : wr .i64 (2 * (i : Int)) = 2 * (i : Int) := wrId (by omega) (by omega)
    have w2 : wr .i64 (2 * (i : Int) + 1) = ((2 * i + 1 : Nat) : Int) := by rw [wrId (by omega) (by omega)]; omega
    have w3 : wr .i64 (2 * (i : Int) + 2) = ((2 * i + 2 : Nat) : Int) := by rw [wrId (by omega) (by omega)]; omega
    have eH := hH.ext eB
    rw [← hc1] at w2
    rw [← hc2] at w3
    rw [W_loop]
    simp (disch := as_aux_lemma => first | omega | simp only [hDs] <;> omega | simp [isCell]) [hRs, takeMarks, resA, resAll, resOne, Value.cells, body278, t5, w1, w2, w3, z2, slitA, fillA, setRange, ← hB]
    refine loop278c (N := N) (XH := XH) (Y := A.n) (i := i) (last := last) (L := L) eH hl hll hi hc1 hc2 hY (by omega) ?_ (T := _) ?_ ?_ 2 0 i (by omega) (fun _ _ => rfl) (.inl rfl) (by simp) (by simp) (by simp) (by simp) (Ext'.refl _)
    · intro T2 A2' k k2 t6 hk e2
      have v0 := k2.at 0 rfl
      have v2 := k2.at 2 rfl
      have v3 := k2.at 3 rfl
      have v4 := k2.at 4 rfl
      have v5 := k2.at 5 rfl
      simp [t0, t2, t3, t4, t5] at v0 v2 v3 v4 v5
      have eBB := eB.trans e2
      have nB := eBB.1
      have g2 := eBB.get hA2
      have g3 := eBB.get hA3
      have hHe := hH.ext eBB
      obtain ⟨sv, s1, s2⟩ := hHe.e
      have hsv : A.get XH = some (.cells [sv, bef275] false) := by
        obtain ⟨sv0, q1, q2⟩ := hH.e
        rw [eBB.2 XH (Hp.lt_of_get q1)] at s1
        exact s1
      by_cases hki : k = i
      · subst hki
        have hne : ∀ (b' : Option ABlk) z, z ≠ X2 → (A2'.set X2 b').get z = A2'.get z := fun b' z hz => get_set_ne (Hp.lt_of_get g2) hz
        simp (disch := as_aux_lemma => first | omega | simp only [hDs] <;> omega | simp [isCell]) [hRs, takeMarks, resA, resAll, resOne, Value.cells, t6, v2, v3, v5, g2, g3, storeB_cells, setRange]
        exact hQ _ _ L hl hmem ⟨⟨sv, by rw [hne _ _ (by omega)]; exact s1, s2.keep fun b hb => hne _ b (hap _ b hsv hb).1⟩, hXN⟩ ((hU.trans (HUp.of eBB (by omega))).new (Y := X2) (by omega) (by omega) (by simp) fun z hz => hne _ z hz) (get_set_same g2) (by simp [v2])
      · obtain ⟨hik, hkl⟩ : i < k ∧ k < last := by omega
        obtain ⟨b, cp, cs, rfl, hb, hcs, hlc, hNb, hat⟩ := s2.row (by omega)
        obtain ⟨hbX2, hbX3⟩ := hap _ b hsv rfl
        have hbn := Hp.lt_of_get hb
        have hiL : i < L.length := by omega
        have hkL : k < L.length := by omega
        have ri := row_part (hat i hiL).1 (hat i hiL).2
        have rk := row_part (hat k hkL).1 (hat k hkL).2
        have hrows := two_rows hcs hlc hiL hkL hat
        obtain ⟨xi, hxi⟩ : ∃ xi, xi = L.getD i (0, 0) := ⟨_, rfl⟩
        obtain ⟨xk, hxk⟩ : ∃ xk, xk = L.getD k (0, 0) := ⟨_, rfl⟩
        rw [← hxi] at ri
        rw [← hxk] at rk
        rw [← hxi, ← hxk] at hrows
        rw [hl] at s1
        have s1' := s1
        unfold bef275 at s1'
        have hiI : (i : Int) < last := by omega
        have hkI : (k : Int) < last := by omega
        have l1 : (setRange cs (i * 2) [Value.int .i64 xk.1, .int .i64 xk.2]).length = cs.length := setRange_length (by simp; omega)
        have st1 : storeB (some (.cells cs false)) g A2' b (i * 2) [.int .i64 xk.1, .int .i64 xk.2] 2 = some (undef, A2'.set b (some (.cells (setRange cs (i * 2) [.int .i64 xk.1, .int .i64 xk.2]) false))) := storeB_cells rfl (by omega) (by omega) rfl
        obtain ⟨A3, hA3'⟩ : ∃ A3, A3 = A2'.set b (some (.cells (setRange cs (i * 2) [.int .i64 xk.1, .int .i64 xk.2]) false)) := ⟨_, rfl⟩
        rw [← hA3'] at st1
        have hA3n : A3.n = A2'.n := by rw [hA3']; rfl
        have hb3 : A3.get b = some (.cells (setRange cs (i * 2) [.int .i64 xk.1, .int .i64 xk.2]) false) := by rw [hA3']; exact get_set_same hb
        have o3 : ∀ z, z ≠ b → A3.get z = A2'.get z := fun z hz => by rw [hA3']; exact get_set_ne (by omega) hz
        have st2 : storeB (some (.cells (setRange cs (i * 2) [.int .i64 xk.1, .int .i64 xk.2]) false)) g A3 b (k * 2) [.int .i64 xi.1, .int .i64 xi.2] 2 = some (undef, A3.set b (some (.cells (setRange (setRange cs (i * 2) [.int .i64 xk.1, .int .i64 xk.2]) (k * 2) [.int .i64 xi.1, .int .i64 xi.2]) false))) := storeB_cells rfl (by omega) (by omega) rfl
        have o4 : ∀ (b' : Option ABlk) z, z ≠ b → (A3.set b b').get z = A2'.get z := fun b' z hz => by rw [get_set_ne (by omega) hz, o3 z hz]
        simp (disch := as_aux_lemma => first | omega | simp only [hDs] <;> omega | simp [isCell]) [hRs, takeMarks, resA, resAll, resOne, Value.cells, t6, v0, v5, hki, show ¬ (k : Int) = i by omega, s1', hiI, hkI, idxSA_ok, hb, ri, rk, st1, hb3, st2]
        refine ih k (swp L i k) (by omega) (.inr hkl) (by rw [swp_length]; exact hl) (fun y => (swp_mem hiL hkL).trans (hmem y)) ⟨⟨.slice (some ⟨b, 0, some 2⟩) last cp, by rw [o4 _ _ (by omega)]; exact s1, ⟨.inr ⟨b, cp, _, by rw [swp_length, hl], get_set_same hb3, (setRange_length (by simp; omega)).trans (l1.trans hcs), by rw [swp_length]; exact hlc, hNb, hrows⟩⟩⟩, hXN⟩ (fun sv' b' h1 h2 => ?_) ((hU.trans (HUp.of eBB (by omega))).trans (HUp.same (b := b) (by simp; omega) s1 ((o4 _ _ (by omega)).trans s1) rfl rfl fun z _ _ hzb => o4 _ z hzb)) (by simp; omega) (by rw [o4 _ _ (Ne.symm hbX2)]; exact g2) (by rw [o4 _ _ (Ne.symm hbX3)]; exact g3) (by simp [v0]) (by simp [v2]) (by simp [v3]) (by simp [v4]) (by simp)
        rw [o4 _ _ (by omega), s1] at h1
        cases h1
        cases h2
        exact ⟨hbX2, hbX3⟩
    · simp [t0]
    · simp [t4]
end
end Go.Ab.Dike
namespace Go.Ab.Dike
open Go Go.Ab
section
variable {g : Nat} {rd : Option Nat} {T : List Value} {D : List Nat} {A : Hp} {Q : Ex → St → Prop} {V : Value → Hp → Prop}
theorem w278 {N XH : Nat} {L : List (Int × Int)} (hH : HpA N XH A L) (hN : N ≤ A.n) (hg : g ≤ XH) (h0 : 0 < L.length) (hlen : L.length < 1000000000000)
    (hV : ∀ A' L' x y, (x, y) ∈ L → L'.length + 1 = L.length → (∀ z, z ∈ L → z = (x, y) ∨ z ∈ L') → (∀ z, z ∈ L' → z ∈ L) → HpA N XH A' L' → HUp XH A A' → V (.agg ⟨[.int .i64 x, .int .i64 y]⟩) A') : WF AP KL g 278 [.pointer (some ⟨XH, 0, none⟩)] A V := by
  rw [WF_body (show KL 278 = none from rfl) (show AP 278 = some F278 from rfl)]
  obtain ⟨sv, hX, hS⟩ := hH.e
  have hXN := hH.lt
  obtain ⟨b, c, cs, rfl, hb, hc, hlc, hNb, hat⟩ := hS.row h0
  obtain ⟨n, hn⟩ : ∃ n, n = L.length := ⟨_, rfl⟩
  obtain ⟨last, hl⟩ : ∃ last, n = last + 1 := ⟨n - 1, by omega⟩
  have hbn := Hp.lt_of_get hb
  have r0 := row_part (hat 0 h0).1 (hat 0 h0).2
  have rl := row_part (hat last (by omega)).1 (hat last (by omega)).2
  obtain ⟨x0, hx0⟩ : ∃ x0, x0 = L.getD 0 (0, 0) := ⟨_, rfl⟩
  obtain ⟨xl, hxl⟩ : ∃ xl, xl = L.getD last (0, 0) := ⟨_, rfl⟩
  rw [← hx0] at r0
  rw [← hxl] at rl
  rw [← hn] at hX
  obtain ⟨B, hB⟩ : ∃ B, B = (A.push (.cells [.int .i64 0, .int .i64 0] false)).push (.cells [.int .i64 x0.1, .int .i64 x0.2] false) := ⟨_, rfl⟩
  have hBn : B.n = A.n + 2 := by rw [hB]; rfl
  have eB : Ext' A B := by rw [hB]; exact (Ext'.push A _).trans (Ext'.push _ _)
  have hX2 : B.get A.n = some (.cells [.int .i64 0, .int .i64 0] false) := by rw [hB, get_push_old (by simp), get_push_new]
  have hX3 : B.get (A.n + 1) = some (.cells [.int .i64 x0.1, .int .i64 x0.2] false) := by rw [hB, get_push_eq (by simp)]
  have hXB := eB.get hX
  have hbB := eB.get hb
  have hX' := hX
  unfold bef275 at hX' hXB
  have e1 : wr .i64 ((n : Int) - 1) = (last : Int) := by rw [wrId (by omega) (by omega)]; omega
  have hln : (last : Int) < n := by omega
  have h0n : (0 : Int) < n := by omega
  have l1 : (setRange cs 0 [Value.int .i64 xl.1, .int .i64 xl.2]).length = cs.length := setRange_length (by simp; omega)
  have st1 : storeB (some (.cells cs false)) g B b 0 [.int .i64 xl.1, .int .i64 xl.2] 2 = some (undef, B.set b (some (.cells (setRange cs 0 [.int .i64 xl.1, .int .i64 xl.2]) false))) := storeB_cells rfl (by omega) (by omega) rfl
  obtain ⟨A2, hA2⟩ : ∃ A2, A2 = B.set b (some (.cells (setRange cs 0 [.int .i64 xl.1, .int .i64 xl.2]) false)) := ⟨_, rfl⟩
  rw [← hA2] at st1
  have hA2n : A2.n = B.n := by rw [hA2]; rfl
  have hb2 : A2.get b = some (.cells (setRange cs 0 [.int .i64 xl.1, .int .i64 xl.2]) false) := by rw [hA2]; exact get_set_same hbB
  have o2 : ∀ z, z ≠ b → A2.get z = B.get z := fun z hz => by rw [hA2]; exact get_set_ne (by omega) hz
  have hXA2 := (o2 XH (by omega)).trans hXB
  have rs := resl_some (b := b) (k := 2) (n := n) (c := c) (i := last) (by omega)
  have hmx : Nat.max n c = c := Nat.max_eq_right (by omega)
  rw [hmx] at rs
  have hpush : ((A.push (.cells [.int .i64 0, .int .i64 0] false)).push (.cells [.int .i64 x0.1, .int .i64 x0.2] false)) = B := hB.symm
  have ap : ¬ b = A.n + 1 := by omega
  have ap2 : ¬ A.n + 1 = b := by omega
  have hX'' : (A.push (.cells [.int .i64 0, .int .i64 0] false)).get XH = some (.cells [.slice (some ⟨b, 0, some 2⟩) n c, .func (.func 275) ⟨[]⟩ ⟨[]⟩] false) := (Ext'.push A _).get hX'
  have r0' : partA cs 0 (some 2) = some (.agg ⟨[.int .i64 x0.1, .int .i64 x0.2]⟩) := by simpa using r0
  have ap3 : ¬ A.n + 1 = XH := by omega
  have ap4 : ¬ XH = A.n + 1 := by omega
  simp (disch := as_aux_lemma => first | omega | simp only [hDs] <;> omega | simp [isCell]) [hRs, takeMarks, resA, resAll, resOne, Value.cells, F278, hX', h0n, idxSA_ok, hb, r0', e1, apartA, ap, ap2, ap3, ap4, storeB_cells, setRange, set_push_eq, hpush]
  simp (disch := as_aux_lemma => first | omega | simp only [hDs] <;> omega | simp [isCell]) [hRs, takeMarks, resA, resAll, resOne, Value.cells, hXB, hbB, hln, h0n, idxSA_ok, rl, st1, hXA2, intOfA, boundA, rs, storeB_cells, setRange]
  obtain ⟨L', hL'⟩ : ∃ L', L' = (L.set 0 xl).take last := ⟨_, rfl⟩
  have hLl : L'.length = last := by rw [hL', List.length_take, List.length_set]; omega
  have hLg : ∀ q, q < last → L'.getD q (0, 0) = if q = 0 then xl else L.getD q (0, 0) := fun q hq => by
    rw [hL', List.getD_eq_getElem?_getD, List.getElem?_take, if_pos hq, List.getElem?_set]
    by_cases h1 : q = 0
    · subst h1; rw [if_pos rfl, if_pos h0, if_pos rfl]; rfl
    · rw [if_neg (fun h => h1 h.symm), if_neg h1, List.getD_eq_getElem?_getD]
  obtain ⟨A3, hA3⟩ : ∃ A3, A3 = A2.set XH (some (.cells [.slice (some ⟨b, 0, some 2⟩) last c, bef275] false)) := ⟨_, rfl⟩
  have hA3' := hA3.symm
  unfold bef275 at hA3'
  rw [hA3']
  have hA3n : A3.n = A2.n := by rw [hA3]; rfl
  have hXA3 : A3.get XH = some (.cells [.slice (some ⟨b, 0, some 2⟩) last c, bef275] false) := by rw [hA3]; exact get_set_same hXA2
  have o3 : ∀ z, z ≠ XH → A3.get z = A2.get z := fun z hz => by rw [hA3]; exact get_set_ne (Hp.lt_of_get hXA2) hz
  have hb3 := (o3 b (by omega)).trans hb2
  have hH3 : HpA N XH A3 L' := ⟨⟨_, hXA3, ⟨.inr ⟨b, c, _, by rw [hLl], hb3, l1.trans hc, by omega, hNb, fun q hq => ?_⟩⟩⟩, hXN⟩
  · have hU3 : HUp XH A A3 := HUp.same (b := b) (by omega) hX hXA3 rfl rfl fun z hz hx hzb => by rw [o3 z hx, o2 z hzb, eB.2 z hz]
    refine loop278 (N := N) (XH := XH) (X2 := A.n) (X3 := A.n + 1) (last := last) (A0 := A) (L0 := L') (x := x0) hg hXN hLl (by omega) (by omega) (by omega) (by omega) hN ?_ last 0 L' (by omega) (.inl rfl) hLl (fun _ => Iff.rfl) hH3 (fun sv b' h1 h2 => ?_) hU3 (by omega) ?_ ?_ (by simp) (by simp) (by simp) (by simp) (by simp)
    · intro T' A' L2 hl2 hm2 hH2 hU2 hx2 t2
      simp (disch := as_aux_lemma => first | omega | simp only [hDs] <;> omega | simp [isCell]) [hRs, takeMarks, resA, resAll, resOne, Value.cells, t2, hx2]
      refine hV A' L2 x0.1 x0.2 (mem_getD.2 ⟨0, h0, hx0.symm⟩) (by omega) (fun z hz => ?_) (fun z hz => ?_) hH2 hU2
      · obtain ⟨q, hq, e⟩ := mem_getD.1 hz
        by_cases hq0 : q = 0
        · subst hq0; left; rw [← e, hx0]
        · right
          rw [hm2, mem_getD]
          by_cases hql : q = last
          · refine ⟨0, by omega, ?_⟩
            rw [hLg 0 (by omega), if_pos rfl, hxl, ← hql]; exact e
          · exact ⟨q, by omega, by rw [hLg q (by omega), if_neg hq0]; exact e⟩
      · rw [hm2, mem_getD] at hz
        obtain ⟨q, hq, e⟩ := hz
        rw [hLg q (by omega)] at e
        rw [mem_getD]
        split at e
        · exact ⟨last, by omega, by rw [← hxl]; exact e⟩
        · exact ⟨q, by omega, e⟩
    · rw [hXA3] at h1
      cases h1
      cases h2
      omega
    · rw [o3 _ (by omega), o2 _ (by omega)]; exact hX2
    · rw [o3 _ (by omega), o2 _ (by omega)]; exact hX3
  · rw [hLl] at hq
    rw [hLg q hq, setRange_get (by simp; omega), setRange_get (by simp; omega)]
    simp only [List.length_cons, List.length_nil]
    by_cases h1 : q = 0
    · subst h1
      exact ⟨rfl, rfl⟩
    · rw [if_neg h1, if_neg (by omega), if_neg (by omega)]
      exact hat q (by omega)
end
end Go.Ab.Dike
namespace Go.Ab.Dike
open Go Go.Ab
def rowS1 (r n : Nat) : Value := .slice (some ⟨r, 0, some 1⟩) n n
def rep (n : Nat) (v : Int) (i : Nat) : List Int := List.replicate i v ++ List.replicate (n - i) 0
section
variable {g : Nat} {A : Hp} {V : Value → Hp → Prop}
theorem copyA_rows {x y o so m c n sc s k : Nat} {ds cs : List Value} {ro : Bool} (hx : A.get x = some (.cells ds false)) (hy : A.get y = some (.cells cs ro)) (hg : g ≤ x) (hk : Min.min n m = k) (h1 : so + k ≤ cs.length) (h2 : o + k ≤ ds.length) (hc : cs.all isCell = true) :
    copyA g A 1 (.slice (some ⟨x, o, some 1⟩) m c) (.slice (some ⟨y, so, some s⟩) n sc) = some (.int .i64 k, A.set x (some (.cells (setRange ds o ((cs.drop so).take k)) false))) := by
  have hl : ((cs.drop so).take k).length = k := by simp; omega
  have ha : ((cs.drop so).take k).all isCell = true := by
    rw [List.all_eq_true] at hc ⊢
    intro z hz
    exact hc z (List.mem_of_mem_drop (List.mem_of_mem_take hz))
  simp only [copyA, cellsAt, hy, hk, Nat.mul_one, if_pos h1, writeA, if_pos hg, hx, hl]
  rw [if_pos ⟨h2, ha⟩]
  rfl
theorem rep_copy {n i k : Nat} {v : Int} (h1 : k ≤ i) (h2 : i + k ≤ n) : setRange (ints (rep n v i)) i ((ints (rep n v i)).take k) = ints (rep n v (i + k)) := by
  have e : setRange (ints (rep n v i)) i ((ints (rep n v i)).take k) = ints ((rep n v i).take i ++ (rep n v i).take k ++ (rep n v i).drop (i + k)) := by
    unfold setRange ints
    rw [← List.map_take, ← List.map_take, ← List.map_drop, List.map_append, List.map_append]
    congr 3
    simp [rep]; omega
  rw [e]
  congr 1
  unfold rep
  rw [List.take_append_of_le_length (by simp), List.take_append_of_le_length (by simp; omega), List.take_of_length_le (by simp), List.take_replicate, Nat.min_eq_left h1, List.drop_append, List.drop_replicate, List.drop_replicate, List.replicate_append_replicate]
  rw [show i - (i + k) = 0 by omega]
  simp only [List.replicate_zero, List.nil_append, List.length_replicate]
  congr 2
  omega
theorem loop83 {x n : Nat} {v : Int} {D : List Nat} {rd : Option Nat} {Q : Ex → St → Prop} {A0 : Hp} (hn : n < 1000000) (hg : g ≤ x) (hx0 : A0.n = x) (hQ : ∀ T' A', Ext' A0 A' → A'.n = x + 1 → A'.get x = some (.cells (ints (rep n v n)) false) → tget T' 7 = rowS1 x n → Q (.exit 0) ⟨T', D, A'⟩) :
    ∀ (k i : Nat) (T : List Value) (A : Hp), n ≤ i + k → 1 ≤ i → i ≤ n → Ext' A0 A → A.n = x + 1 → A.get x = some (.cells (ints (rep n v i)) false) → tget T 7 = rowS1 x n → tget T 8 = .int .i64 i → W AP KL g rd (.loop body83) ⟨T, D, A⟩ Q := by
  intro k
  induction k with
  | zero =>
    intro i T A h1 h2 h3 hE hN hx t7 t8
    have : i = n := by omega
    subst this
    rw [W_loop]
    simp (disch := as_aux_lemma => first | omega | simp only [hDs] <;> omega | simp [isCell]) [hRs, takeMarks, resA, resAll, resOne, Value.cells, body83, t7, t8, rowS1]
    exact hQ _ A hE hN hx (by simp [t7, rowS1])
  | succ k ih =>
    intro i T A h1 h2 h3 hE hN hx t7 t8
    by_cases hin : i = n
    · subst hin
      rw [W_loop]
      simp (disch := as_aux_lemma => first | omega | simp only [hDs] <;> omega | simp [isCell]) [hRs, takeMarks, resA, resAll, resOne, Value.cells, body83, t7, t8, rowS1]
      exact hQ _ A hE hN hx (by simp [t7, rowS1])
    · obtain ⟨j, hj⟩ : ∃ j, j = Min.min i (n - i) := ⟨_, rfl⟩
      have hlen : (ints (rep n v i)).length = n := by simp [rep]; omega
      have hcp := copyA_rows (g := g) (A := A) (x := x) (y := x) (o := i) (so := 0) (m := n - i) (c := n - i) (n := i) (sc := n) (s := 1) (k := j) hx hx hg (by omega) (by omega) (by omega) (ints_isCell _)
      rw [List.drop_zero, rep_copy (by omega) (by omega)] at hcp
      have r1 : resliceA 1 (.slice (some ⟨x, 0, some 1⟩) n n) (some (i : Int)) (fun m => some (m : Int)) = some (.slice (some ⟨x, i, some 1⟩) (n - i) (n - i)) := by
        simp only [resliceA]
        rw [if_pos ⟨trivial, by omega, by omega, by omega⟩]
        rw [show ((n : Int) - i).toNat = n - i by omega, show Max.max n n - (i : Int).toNat = n - i by omega, show 0 + (i : Int).toNat * 1 = i by omega]
      have r2 : resliceA 1 (.slice (some ⟨x, 0, some 1⟩) n n) (some (0 : Int)) (fun _ => some (i : Int)) = some (.slice (some ⟨x, 0, some 1⟩) i n) := by
        simp only [resliceA]
        rw [if_pos ⟨trivial, by omega, by omega, by omega⟩]
        rw [show ((i : Int) - 0).toNat = i by omega, show Max.max n n - (0 : Int).toNat = n by omega]
        rfl
      have hxn := Hp.lt_of_get hx
      rw [W_loop]
      simp (disch := as_aux_lemma => first | omega | simp only [hDs] <;> omega | simp [isCell]) [hRs, takeMarks, resA, resAll, resOne, Value.cells, body83, t7, t8, rowS1, show (i : Int) < (n : Int) by omega, boundA, intOfA, r1, r2, hcp]
      refine ih (i + j) _ _ (by omega) (by omega) (by omega) ⟨hE.1, fun y hy => ?_⟩ hN (get_set_same hx) ?_ ?_
      · rw [get_set_ne hxn (by omega)]; exact hE.2 y hy
      · simp [t7, rowS1]
      · simp [wrId (n := (i : Int) + j) (by omega) (by omega)]
theorem r93_8 (g : Nat) (A : Hp) : callF AP KL (exec AP KL 3 3) g 93 [.int .u64 1, .int .u64 8] A = some (.tuple ⟨[.int .u64 0, .int .u64 8]⟩, A) := by kernel_rfl
theorem w93 {n : Nat} (hn : n = 8) (hQ : V (.tuple ⟨[.int .u64 0, .int .u64 n]⟩) A) : WF AP KL g 93 [.int .u64 1, .int .u64 n] A V := by
  subst hn
  exact ⟨3, 3, _, _, r93_8 g A, hQ⟩
theorem wrU {n : Nat} (h : n = 8) : wr .u64 (n : Int) = n := by subst h; rfl
theorem toIntA_int {k k' : IntKind} {n : Int} : toIntA k (.int k' n) = some (.int k (wr k n)) := rfl
theorem gtrU {a b : Int} : binA .gtr (.int .u64 a) (.int .u64 b) = some (.bool (decide (b < a))) := rfl
theorem zeros_ints {n : Nat} : zeros n [.int .i64 0] = ints (List.replicate n 0) := by
  unfold zeros ints
  apply List.ext_getElem (by simp)
  intro i h1 h2
  simp [Nat.mod_one]
theorem makeS_ok {n : Nat} (hn : n < 1000000) : makeSA 1 8 [.int .i64 0] (.int .i64 n) (.int .i64 n) A = some (rowS1 A.n n, A.push (.cells (ints (List.replicate n 0)) false)) := by
  unfold makeSA
  simp only
  rw [if_pos ⟨by omega, by omega, by unfold room; omega, by unfold room; omega⟩, zeros_ints]
  rfl
theorem w83 {b n : Nat} {v : Int} {ro : Bool} (hn : n = 8) (hb : A.get b = some (.cells [.int .i64 v] ro)) (hg : g ≤ A.n)
    (hQ : ∀ A', Ext' A A' → A'.n = A.n + 1 → A'.get A.n = some (.cells (ints (List.replicate n v)) false) → V (rowS1 A.n n) A') :
    WF AP KL g 83 [.slice (some ⟨b, 0, some 1⟩) 1 1, .int .i64 n] A V := by
  have hbn := Hp.lt_of_get hb
  rw [WF_body (show KL 83 = none from rfl) (show AP 83 = some F83 from rfl)]
  simp (disch := as_aux_lemma => first | omega | simp only [hDs] <;> omega | simp [isCell]) [hRs, takeMarks, resA, resAll, resOne, Value.cells, F83, show ¬ ((n : Int) < 0) by omega, toIntA_int, wrU hn, show wr .u64 (1 : Int) = 1 from rfl]
  refine w93 hn ?_
  simp (disch := as_aux_lemma => first | omega | simp only [hDs] <;> omega | simp [isCell]) [hRs, takeMarks, resA, resAll, resOne, Value.cells, gtrU, pickA_bool, show ¬ ((9223372036854775807 : Int) < n) by omega, toIntA_int, wrId (n := (n : Int)) (by omega) (by omega), makeS_ok (show n < 1000000 by omega)]
  obtain ⟨B, hB⟩ : ∃ B, B = A.push (.cells (ints (List.replicate n 0)) false) := ⟨_, rfl⟩
  have kB : Ext' A B := by rw [hB]; exact Ext'.push _ _
  have hBx : B.get A.n = some (.cells (ints (List.replicate n 0)) false) := by rw [hB]; exact get_push_new
  have hBn : B.n = A.n + 1 := by rw [hB]; rfl
  rw [← hB]
  have hcp := copyA_rows (g := g) (A := B) (x := A.n) (y := b) (o := 0) (so := 0) (m := n) (c := n) (n := 1) (sc := 1) (s := 1) (k := 1) hBx (kB.get hb) hg (by omega) (by simp) (by simp; omega) rfl
  have e : setRange (ints (List.replicate n 0)) 0 (([.int .i64 v] : List Value).drop 0 |>.take 1) = ints (rep n v 1) := by
    obtain ⟨m, rfl⟩ : ∃ m, n = m + 1 := ⟨n - 1, by omega⟩
    simp [setRange, ints, rep, List.replicate_succ]
  rw [e] at hcp
  simp (disch := as_aux_lemma => first | omega | simp only [hDs] <;> omega | simp [isCell]) [hRs, takeMarks, resA, resAll, resOne, Value.cells, rowS1, hcp]
  refine loop83 (A0 := A) (x := A.n) (n := n) (v := v) (by omega) hg rfl (fun T' A' k1 k2 k3 t7 => ?_) n 1 _ _ (by omega) (by omega) (by omega) ⟨by show A.n ≤ B.n; omega, fun y hy => ?_⟩ hBn (get_set_same hBx) ?_ ?_
  · simp (disch := as_aux_lemma => first | omega | simp only [hDs] <;> omega | simp [isCell]) [hRs, takeMarks, resA, resAll, resOne, Value.cells, t7]
    refine hQ A' k1 k2 ?_
    rw [k3]; unfold rep; simp
  · rw [get_set_ne (by omega) (by omega)]; exact kB.2 y hy
  · simp [rowS1]
  · simp
end
end Go.Ab.Dike
namespace Go.Ab.Dike
open Go Go.Ab
def nbD (w h c : Int) (d : Int × Int) : List Int :=
  if (0 ≤ c.tmod w + d.1 ∧ c.tmod w + d.1 ≤ w - 1) ∧ (0 ≤ c.tdiv w + d.2 ∧ c.tdiv w + d.2 ≤ h - 1) then [(c.tdiv w + d.2) * w + (c.tmod w + d.1)] else []
def dirs : List (Int × Int) := [(1, 0), (0, 1), (-1, 0), (0, -1)]
def nbrs (w h c : Int) : List Int := dirs.flatMap (nbD w h c)
def nbI (w h c : Int) (i : Nat) : List Int := (dirs.take i).flatMap (nbD w h c)
def dirI : List Int := [1, 0, 0, 1, -1, 0, 0, -1]
theorem nbI_succ {w h c : Int} {i : Nat} (hi : i < 4) : nbI w h c (i + 1) = nbI w h c i ++ nbD w h c (gi dirI (i * 2), gi dirI (i * 2 + 1)) := by
  have : i = 0 ∨ i = 1 ∨ i = 2 ∨ i = 3 := by omega
  rcases this with rfl | rfl | rfl | rfl <;> simp [nbI, dirs, dirI, gi]
theorem nbI_four {w h c : Int} : nbI w h c 4 = nbrs w h c := rfl
theorem dir_small {i : Nat} (hi : i < 4) : (-1 ≤ gi dirI (i * 2) ∧ gi dirI (i * 2) ≤ 1) ∧ (-1 ≤ gi dirI (i * 2 + 1) ∧ gi dirI (i * 2 + 1) ≤ 1) := by
  have : i = 0 ∨ i = 1 ∨ i = 2 ∨ i = 3 := by omega
  rcases this with rfl | rfl | rfl | rfl <;> decide
theorem nbD_range {w h c : Int} {d : Int × Int} {v : Int} (hw : 1 ≤ w) (hv : v ∈ nbD w h c d) : 0 ≤ v ∧ v < w * h := by
  unfold nbD at hv
  split at hv
  · rename_i hc
    obtain ⟨⟨a1, a2⟩, b1, b2⟩ := hc
    rw [List.mem_singleton] at hv
    have e7 : 0 ≤ (c.tdiv w + d.2) * w := Int.mul_nonneg b1 (by omega)
    have e6 : (c.tdiv w + d.2) * w ≤ (h - 1) * w := Int.mul_le_mul_of_nonneg_right b2 (by omega)
    rw [Int.sub_mul, Int.one_mul, Int.mul_comm h w] at e6
    omega
  · cases hv
theorem nbrs_range {w h c : Int} {v : Int} (hw : 1 ≤ w) (hv : v ∈ nbrs w h c) : 0 ≤ v ∧ v < w * h := by
  obtain ⟨d, _, hd⟩ := List.mem_flatMap.1 hv
  exact nbD_range hw hd
theorem cell_parts {w h c : Int} (hw : 1 ≤ w) (h0 : 0 ≤ c) (h1 : c < w * h) : (0 ≤ c.tmod w ∧ c.tmod w < w) ∧ (0 ≤ c.tdiv w ∧ c.tdiv w < h) := by
  refine ⟨⟨Int.tmod_nonneg w h0, Int.tmod_lt_of_pos c (by omega)⟩, Int.tdiv_nonneg h0 (by omega), ?_⟩
  rw [Int.tdiv_eq_ediv_of_nonneg h0]
  exact Int.ediv_lt_of_lt_mul (by omega) (by rw [Int.mul_comm]; exact h1)
section
variable {g : Nat} {rd : Option Nat} {T : List Value} {D : List Nat} {A : Hp} {Q : Ex → St → Prop} {V : Value → Hp → Prop}
theorem w55i {n lo hi : Int} : WF AP KL g 55 [.int .i64 n, .int .i64 lo, .int .i64 hi] A V ↔ V (.bool (decide (lo ≤ n) && decide (n ≤ hi))) A := by
  rw [WF_body (show KL 55 = none from rfl) (show AP 55 = some F55 from rfl)]
  by_cases h : lo ≤ n
  · simp (disch := as_aux_lemma => first | omega | simp only [hDs] <;> omega | simp [isCell]) [hRs, takeMarks, resA, resAll, resOne, Value.cells, F55, h]
  · simp (disch := as_aux_lemma => first | omega | simp only [hDs] <;> omega | simp [isCell]) [hRs, takeMarks, resA, resAll, resOne, Value.cells, F55, h]
theorem loop114 {P : List Int → Hp → Prop} {L G R : Nat} {w h c s : Int} {sl : Value} (hw : 1 ≤ w ∧ w ≤ 24) (hh : 1 ≤ h ∧ h ≤ 24) (hcx : 0 ≤ c.tmod w ∧ c.tmod w < w) (hcy : 0 ≤ c.tdiv w ∧ c.tdiv w < h)
    (hG : ∀ done A, P done A → A.get G = some (.cells [.int .i64 w, .int .i64 h, .int .i64 s, sl] false) ∧ A.get R = some (.cells (ints dirI) false) ∧ g ≤ A.n) (hpush : ∀ done A b, P done A → P done (A.push b))
    (hy : ∀ done d A V, P done A → d ∈ nbrs w h c → (∀ A', P (done ++ [d]) A' → V (.bool true) A') → WV AP KL g (.func (.yield L) #[] #[]) [.int .i64 d] A V)
    (hQ : ∀ T' A', P (nbrs w h c) A' → Q (.exit 0) ⟨T', D, A'⟩) :
    ∀ (k i : Nat) {T : List Value} {A : Hp}, i + k = 4 → P (nbI w h c i) A → tget T 0 = .func (.yield L) #[] #[] → tget T 2 = .pointer (some ⟨G, 0, none⟩) → tget T 4 = .int .i64 (c.tmod w) → tget T 5 = .int .i64 (c.tdiv w) → tget T 22 = .slice (some ⟨R, 0, some 2⟩) 4 4 → tget T 23 = .int .i64 4 →
      tget T 24 = .int .i64 i → W AP KL g rd (.loop body114) ⟨T, D, A⟩ Q := by
  intro k
  induction k with
  | zero =>
    intro i T A hi hP t0 t2 t4 t5 t22 t23 t24
    have : i = 4 := by omega
    subst this
    rw [W_loop]
    simp (disch := as_aux_lemma => first | omega | simp only [hDs] <;> omega | simp [isCell]) [hRs, takeMarks, resA, resAll, resOne, Value.cells, body114, t23, t24]
    exact hQ _ _ (by rw [← nbI_four]; exact hP)
  | succ k ih =>
    intro i T A hi hP t0 t2 t4 t5 t22 t23 t24
    have hi4 : i < 4 := by omega
    obtain ⟨hG', hR', hgA⟩ := hG _ _ hP
    have hGn := Hp.lt_of_get hG'
    have hRn := Hp.lt_of_get hR'
    obtain ⟨⟨d1, d2⟩, d3, d4⟩ := dir_small hi4
    have hdl : dirI.length = 8 := rfl
    have hP1 := hpush _ _ (.cells [.int .i64 (gi dirI (i * 2)), .int .i64 (gi dirI (i * 2 + 1))] false) hP
    rw [W_loop]
    have e1 : wr .i64 (c.tmod w + gi dirI (i * 2)) = c.tmod w + gi dirI (i * 2) := wrId (by omega) (by omega)
    have e2 : wr .i64 (c.tdiv w + gi dirI (i * 2 + 1)) = c.tdiv w + gi dirI (i * 2 + 1) := wrId (by omega) (by omega)
    have e3 : wr .i64 (w - 1) = w - 1 := wrId (by omega) (by omega)
    have e4 : wr .i64 (h - 1) = h - 1 := wrId (by omega) (by omega)
    have e5 : wr .i64 ((i : Int) + 1) = ((i + 1 : Nat) : Int) := by rw [wrId (by omega) (by omega)]; simp
    by_cases hx : (0 ≤ c.tmod w + gi dirI (i * 2) ∧ c.tmod w + gi dirI (i * 2) ≤ w - 1)
    · by_cases hy' : (0 ≤ c.tdiv w + gi dirI (i * 2 + 1) ∧ c.tdiv w + gi dirI (i * 2 + 1) ≤ h - 1)
      · have e6 : (c.tdiv w + gi dirI (i * 2 + 1)) * w ≤ 24 * 24 := Int.mul_le_mul (by omega) (by omega) (by omega) (by omega)
        have e7 : 0 ≤ (c.tdiv w + gi dirI (i * 2 + 1)) * w := Int.mul_nonneg (by omega) (by omega)
        have e8 : wr .i64 ((c.tdiv w + gi dirI (i * 2 + 1)) * w) = (c.tdiv w + gi dirI (i * 2 + 1)) * w := wrId (by omega) (by omega)
        have e9 : wr .i64 ((c.tdiv w + gi dirI (i * 2 + 1)) * w + (c.tmod w + gi dirI (i * 2))) = (c.tdiv w + gi dirI (i * 2 + 1)) * w + (c.tmod w + gi dirI (i * 2)) := wrId (by omega) (by omega)
        have hnb : nbD w h c (gi dirI (i * 2), gi dirI (i * 2 + 1)) = [(c.tdiv w + gi dirI (i * 2 + 1)) * w + (c.tmod w + gi dirI (i * 2))] := if_pos ⟨hx, hy'⟩
        have hs4 := nbI_succ (w := w) (h := h) (c := c) hi4
        rw [hnb] at hs4
        simp (disch := as_aux_lemma => first | omega | simp only [hDs] <;> omega | simp [isCell]) [hRs, takeMarks, resA, resAll, resOne, Value.cells, body114, t0, t2, t4, t5, t22, t23, t24, show ((i : Int) < 4) by omega, hi4, idxSA_ok, idxAA_ok, hG', hR', ints_two, hdl, storeB_cells, setRange_all, setRange, set_push_eq, w55i, e1, e2, e3, e4, hx, hy', e8, e9]
        refine hy _ _ _ _ hP1 ?_ fun A' hP' => ?_
        · have hm : (c.tdiv w + gi dirI (i * 2 + 1)) * w + (c.tmod w + gi dirI (i * 2)) ∈ nbD w h c (gi dirI (i * 2), gi dirI (i * 2 + 1)) := by rw [hnb]; exact List.mem_singleton_self _
          have : i = 0 ∨ i = 1 ∨ i = 2 ∨ i = 3 := by omega
          refine List.mem_flatMap.2 ⟨_, ?_, hm⟩
          rcases this with rfl | rfl | rfl | rfl <;> simp [dirs, dirI, gi]
        · simp (disch := as_aux_lemma => first | omega | simp only [hDs] <;> omega | simp [isCell]) [hRs, takeMarks, resA, resAll, resOne, Value.cells, t24, e5]
          refine ih (i + 1) (by omega) (by rw [hs4]; exact hP') ?_ ?_ ?_ ?_ ?_ ?_ ?_
          all_goals simp [t0, t2, t4, t5, t22, t23]
      · have hnb : nbD w h c (gi dirI (i * 2), gi dirI (i * 2 + 1)) = [] := if_neg fun h' => hy' h'.2
        simp (disch := as_aux_lemma => first | omega | simp only [hDs] <;> omega | simp [isCell]) [hRs, takeMarks, resA, resAll, resOne, Value.cells, body114, t0, t2, t4, t5, t22, t23, t24, show ((i : Int) < 4) by omega, hi4, idxSA_ok, idxAA_ok, hG', hR', ints_two, hdl, storeB_cells, setRange_all, setRange, set_push_eq, w55i, e1, e2, e3, e4, hx, show (decide (0 ≤ c.tdiv w + gi dirI (i * 2 + 1)) && decide (c.tdiv w + gi dirI (i * 2 + 1) ≤ h - 1)) = false from by simpa using hy', e5]
        refine ih (i + 1) (by omega) (by rw [nbI_succ hi4, hnb, List.append_nil]; exact hP1) ?_ ?_ ?_ ?_ ?_ ?_ ?_
        all_goals simp [t0, t2, t4, t5, t22, t23]
    · have hnb : nbD w h c (gi dirI (i * 2), gi dirI (i * 2 + 1)) = [] := if_neg fun h' => hx h'.1
      simp (disch := as_aux_lemma => first | omega | simp only [hDs] <;> omega | simp [isCell]) [hRs, takeMarks, resA, resAll, resOne, Value.cells, body114, t0, t2, t4, t5, t22, t23, t24, show ((i : Int) < 4) by omega, hi4, idxSA_ok, idxAA_ok, hG', hR', ints_two, hdl, storeB_cells, setRange_all, setRange, set_push_eq, w55i, e1, e2, e3, e4, show (decide (0 ≤ c.tmod w + gi dirI (i * 2)) && decide (c.tmod w + gi dirI (i * 2) ≤ w - 1)) = false from by simpa using hx, e5]
      refine ih (i + 1) (by omega) (by rw [nbI_succ hi4, hnb, List.append_nil]; exact hP1) ?_ ?_ ?_ ?_ ?_ ?_ ?_
      all_goals simp [t0, t2, t4, t5, t22, t23]
end
end Go.Ab.Dike
namespace Go.Ab.Dike
open Go Go.Ab
def noneV : Int := 1073741824
structure SPar where
  m : Nat
  ht : Nat → Int
  nb : Nat → List Nat
  sea : List Nat
structure SParOk (P : SPar) : Prop where
  nb : ∀ c, c < P.m → ∀ d, d ∈ P.nb c → d < P.m
  sea : ∀ c, c ∈ P.sea → c < P.m
  ht : ∀ c, c < P.m → -2000000 ≤ P.ht c ∧ P.ht c ≤ 2000000
inductive SPar.Der (P : SPar) : Nat → Int → Prop
  | base {c : Nat} : c ∈ P.sea → P.Der c (max (P.ht c) (-1073741824))
  | step {c d : Nat} {v : Int} : P.Der c v → d ∈ P.nb c → P.Der d (max (P.ht d) v)
theorem SPar.Der.lt {P : SPar} (hP : SParOk P) : ∀ {c : Nat} {v : Int}, P.Der c v → c < P.m
  | _, _, .base h => hP.sea _ h
  | _, _, .step h1 h2 => hP.nb _ (SPar.Der.lt hP h1) _ h2
theorem SPar.Der.rng {P : SPar} (hP : SParOk P) : ∀ {c : Nat} {v : Int}, P.Der c v → -2000000 ≤ v ∧ v ≤ 2000000
  | c, _, .base h => by have := hP.ht c (hP.sea _ h); omega
  | d, _, .step h1 h2 => by
    have h3 := SPar.Der.rng hP h1
    have := hP.ht d (hP.nb _ (SPar.Der.lt hP h1) _ h2)
    omega
structure Cur where
  c : Nat
  v : Int
  done : List Nat
def Cur.ok (P : SPar) (o : List Int) (k : Cur) (a : Nat) : Prop := a = k.c ∧ gi o a = k.v ∧ ∀ d, d ∈ k.done → gi o d ≤ max (P.ht d) k.v
structure SMid (P : SPar) (o : List Int) (L : List (Int × Int)) (cur : Option Cur) (q : List Nat) : Prop where
  len : o.length = P.m
  le : ∀ c, c < P.m → -1073741824 ≤ gi o c ∧ gi o c ≤ noneV
  out : ∀ c, c < P.m → gi o c = noneV ∨ P.Der c (gi o c)
  heap : ∀ x, x ∈ L → ∃ c : Nat, x.1 = (c : Int) ∧ P.Der c x.2
  sea : ∀ c, c ∈ q → gi o c ≤ max (P.ht c) (-1073741824)
  cl : ∀ a, a < P.m → gi o a ≠ noneV → ((a : Int), gi o a) ∈ L ∨ (∃ k, cur = some k ∧ k.ok P o a) ∨ ∀ d, d ∈ P.nb a → gi o d ≤ max (P.ht d) (gi o a)
def lowO (P : SPar) (o : List Int) (d : Nat) (over : Int) : List Int := if max (P.ht d) over < gi o d then o.set d (max (P.ht d) over) else o
theorem lowO_length {P : SPar} {o : List Int} {d : Nat} {over : Int} : (lowO P o d over).length = o.length := by unfold lowO; split <;> simp
theorem lowO_get {P : SPar} {o : List Int} {d a : Nat} {over : Int} (hd : d < o.length) : gi (lowO P o d over) a = if a = d ∧ max (P.ht d) over < gi o d then max (P.ht d) over else gi o a := by
  unfold lowO
  by_cases h : max (P.ht d) over < gi o d
  · rw [if_pos h, gi_setI hd]
    by_cases h1 : a = d
    · rw [if_pos h1, if_pos ⟨h1, h⟩]
    · rw [if_neg h1, if_neg fun h' => h1 h'.1]
  · rw [if_neg h, if_neg fun h' => h h'.2]
theorem lowO_le {P : SPar} {o : List Int} {d : Nat} {over : Int} (hd : d < o.length) (a : Nat) : gi (lowO P o d over) a ≤ gi o a := by
  rw [lowO_get hd]
  split
  · rename_i h; rw [h.1]; omega
  · exact Int.le_refl _
theorem lowO_at {P : SPar} {o : List Int} {d : Nat} {over : Int} (hd : d < o.length) : gi (lowO P o d over) d ≤ max (P.ht d) over := by
  rw [lowO_get hd]
  split
  · exact Int.le_refl _
  · rename_i h
    simp only [true_and] at h
    omega
def ReachL (P : SPar) (o : List Int) (L L' : List (Int × Int)) (d : Nat) (over : Int) : Prop :=
  if max (P.ht d) over < gi o d then L'.length = L.length + 1 ∧ ∀ z, z ∈ L' ↔ z ∈ L ∨ z = ((d : Int), max (P.ht d) over) else L' = L
theorem SMid.reach {P : SPar} {o : List Int} {L L' : List (Int × Int)} {cur : Option Cur} {q : List Nat} {d : Nat} {over : Int} (hP : SParOk P) (h : SMid P o L cur q) (hd : d < P.m) (hder : P.Der d (max (P.ht d) over)) (hL : ReachL P o L L' d over) : SMid P (lowO P o d over) L' cur q := by
  have hlen := h.len
  have hdl : d < o.length := by omega
  have rg := hder.rng hP
  refine ⟨by rw [lowO_length]; exact hlen, fun c hc => ?_, fun c hc => ?_, fun x hx => ?_, fun c hc => Int.le_trans (lowO_le hdl c) (h.sea c hc), fun a ha hne => ?_⟩
  · have := h.le c hc
    rw [lowO_get hdl]
    split
    · unfold noneV; omega
    · exact this
  · rw [lowO_get hdl]
    split
    · rename_i h1; rw [h1.1]; exact .inr hder
    · exact h.out c hc
  · unfold ReachL at hL
    split at hL
    · rcases (hL.2 x).1 hx with h1 | rfl
      · exact h.heap x h1
      · exact ⟨d, rfl, hder⟩
    · rw [hL] at hx; exact h.heap x hx
  · by_cases hc : a = d ∧ max (P.ht d) over < gi o d
    · left
      unfold ReachL at hL
      rw [if_pos hc.2] at hL
      rw [lowO_get hdl, if_pos hc, hL.2, hc.1]
      exact .inr rfl
    · have e : gi (lowO P o d over) a = gi o a := by rw [lowO_get hdl, if_neg hc]
      rw [e] at hne ⊢
      rcases h.cl a ha hne with h1 | ⟨k, hk, h1, h2, h3⟩ | h1
      · left
        unfold ReachL at hL
        split at hL
        · exact (hL.2 _).2 (.inl h1)
        · rw [hL]; exact h1
      · exact .inr (.inl ⟨k, hk, h1, by rw [e]; exact h2, fun d' hd' => Int.le_trans (lowO_le hdl d') (h3 d' hd')⟩)
      · exact .inr (.inr fun d' hd' => Int.le_trans (lowO_le hdl d') (h1 d' hd'))
theorem SMid.doneOne {P : SPar} {o : List Int} {L : List (Int × Int)} {c : Nat} {v : Int} {dn : List Nat} {q : List Nat} {d : Nat} (h : SMid P o L (some ⟨c, v, dn⟩) q) (hd : gi o d ≤ max (P.ht d) v) : SMid P o L (some ⟨c, v, dn ++ [d]⟩) q := by
  refine ⟨h.len, h.le, h.out, h.heap, h.sea, fun a ha hne => ?_⟩
  rcases h.cl a ha hne with h1 | ⟨k, hk, h1, h2, h3⟩ | h1
  · exact .inl h1
  · cases hk
    refine .inr (.inl ⟨_, rfl, h1, h2, fun d' hd' => ?_⟩)
    rcases List.mem_append.1 hd' with h4 | h4
    · exact h3 d' h4
    · rw [List.mem_singleton] at h4; rw [h4]; exact hd
  · exact .inr (.inr h1)
theorem SMid.shut {P : SPar} {o : List Int} {L : List (Int × Int)} {c : Nat} {v : Int} {q : List Nat} (h : SMid P o L (some ⟨c, v, P.nb c⟩) q) : SMid P o L none q := by
  refine ⟨h.len, h.le, h.out, h.heap, h.sea, fun a ha hne => ?_⟩
  rcases h.cl a ha hne with h1 | ⟨k, hk, h1, h2, h3⟩ | h1
  · exact .inl h1
  · cases hk
    simp only at h1 h2 h3
    subst h1
    exact .inr (.inr (by rw [h2]; exact h3))
  · exact .inr (.inr h1)
theorem SMid.take {P : SPar} {o : List Int} {L L' : List (Int × Int)} {c : Nat} {v : Int} {q : List Nat} (h : SMid P o L none q) (h1 : ∀ z, z ∈ L → z = ((c : Int), v) ∨ z ∈ L') (h2 : ∀ z, z ∈ L' → z ∈ L) : SMid P o L' (some ⟨c, v, []⟩) q := by
  refine ⟨h.len, h.le, h.out, fun x hx => h.heap x (h2 x hx), h.sea, fun a ha hne => ?_⟩
  rcases h.cl a ha hne with h3 | ⟨k, hk, _⟩ | h3
  · rcases h1 _ h3 with h4 | h4
    · have e1 : a = c := by have := congrArg Prod.fst h4; simp only at this; omega
      have e2 : gi o a = v := congrArg Prod.snd h4
      exact .inr (.inl ⟨_, rfl, e1, e2, fun d hd => by cases hd⟩)
    · exact .inl h4
  · cases hk
  · exact .inr (.inr h3)
theorem SMid.seaOne {P : SPar} {o : List Int} {L : List (Int × Int)} {q : List Nat} {c : Nat} (h : SMid P o L none q) (hc : gi o c ≤ max (P.ht c) (-1073741824)) : SMid P o L none (q ++ [c]) := by
  refine ⟨h.len, h.le, h.out, h.heap, fun d hd => ?_, h.cl⟩
  rcases List.mem_append.1 hd with h1 | h1
  · exact h.sea d h1
  · rw [List.mem_singleton] at h1; rw [h1]; exact hc
theorem SMid.start {P : SPar} : SMid P (List.replicate P.m noneV) [] none [] := by
  have e : ∀ c, c < P.m → gi (List.replicate P.m noneV) c = noneV := fun c hc => by
    unfold gi; rw [List.getD_eq_getElem?_getD, List.getElem?_replicate, if_pos hc]; rfl
  refine ⟨by simp, fun c hc => ?_, fun c hc => .inl (e c hc), fun x hx => (by cases hx), fun c hc => (by cases hc), fun a ha hne => absurd (e a ha) hne⟩
  rw [e c hc]; unfold noneV; omega
structure SFin (P : SPar) (o : List Int) : Prop where
  len : o.length = P.m
  le : ∀ c, c < P.m → -1073741824 ≤ gi o c ∧ gi o c ≤ noneV
  out : ∀ c, c < P.m → gi o c = noneV ∨ P.Der c (gi o c)
  sea : ∀ c, c ∈ P.sea → gi o c ≤ max (P.ht c) (-1073741824)
  cl : ∀ a, a < P.m → gi o a ≠ noneV → ∀ d, d ∈ P.nb a → gi o d ≤ max (P.ht d) (gi o a)
theorem SMid.fin {P : SPar} {o : List Int} (h : SMid P o [] none P.sea) : SFin P o := by
  refine ⟨h.len, h.le, h.out, h.sea, fun a ha hne => ?_⟩
  rcases h.cl a ha hne with h1 | ⟨k, hk, _⟩ | h1
  · cases h1
  · cases hk
  · exact h1
theorem SFin.least {P : SPar} {o : List Int} (hP : SParOk P) (h : SFin P o) : ∀ {c : Nat} {v : Int}, P.Der c v → gi o c ≤ v
  | _, _, .base hc => h.sea _ hc
  | d, _, .step (c := c) (v := v) h1 h2 => by
    have ih := SFin.least hP h h1
    have hcm := h1.lt hP
    by_cases hn : gi o c = noneV
    · have := (h.le d (hP.nb _ hcm _ h2)).2
      omega
    · have := h.cl c hcm hn d h2
      omega
theorem SFin.mono {P P' : SPar} {o o' : List Int} (hP : SParOk P) (hP' : SParOk P') (hm : P.m = P'.m) (hs : P.sea = P'.sea) (hn : ∀ c, c < P.m → P.nb c = P'.nb c) (hh : ∀ c, c < P.m → P.ht c ≤ P'.ht c) (h : SFin P o) (h' : SFin P' o') {c : Nat} (hc : c < P.m) : gi o c ≤ gi o' c := by
  have key : ∀ {a : Nat} {v : Int}, P'.Der a v → ∃ u, u ≤ v ∧ P.Der a u := by
    intro a v hd
    induction hd with
    | @base c hc => exact ⟨_, by have := hh c (by rw [hm]; exact hP'.sea _ hc); omega, .base (hs ▸ hc)⟩
    | @step c d v h1 h2 ih =>
      obtain ⟨u, hu, hd⟩ := ih
      have hcm := hd.lt hP
      have hdm : d < P.m := by rw [hm]; exact hP'.nb _ (by omega) _ h2
      exact ⟨_, by have := hh d hdm; omega, .step hd (by rw [hn c hcm]; exact h2)⟩
  rcases h'.out c (by omega) with e | hd
  · rw [e]; exact (h.le c hc).2
  · obtain ⟨u, hu, hd'⟩ := key hd
    exact Int.le_trans (h.least hP hd') hu
theorem sum_set {f : Int → Nat} : ∀ {l : List Int} {i : Nat} {v : Int}, i < l.length → f v < f (gi l i) → ((l.set i v).map f).sum < (l.map f).sum
  | x :: l, 0, v, _, h => by
    simp only [List.set_cons_zero, List.map_cons, List.sum_cons]
    have : gi (x :: l) 0 = x := rfl
    rw [this] at h
    omega
  | x :: l, i + 1, v, hi, h => by
    have ih := sum_set (f := f) (l := l) (i := i) (v := v) (by simpa using hi) (by simpa [gi] using h)
    simp only [List.set_cons_succ, List.map_cons, List.sum_cons]
    omega
def potS (o : List Int) : Nat := (o.map fun x => (x + 1073741824).toNat).sum
theorem potS_rep (m : Nat) : potS (List.replicate m noneV) = m * 2147483648 := by
  unfold potS
  rw [List.map_replicate]
  simp [noneV]
theorem potS_low {P : SPar} {o : List Int} {d : Nat} {over : Int} (hd : d < o.length) (h0 : -1073741824 ≤ max (P.ht d) over) (hlt : max (P.ht d) over < gi o d) : potS (lowO P o d over) < potS o := by
  unfold lowO
  rw [if_pos hlt]
  exact sum_set hd (by omega)
end Go.Ab.Dike
namespace Go.Ab.Dike
open Go Go.Ab
structure SB where
  N0 : Nat
  N : Nat
  X5 : Nat
  X7 : Nat
  X8 : Nat
  OB : Nat
  hf : Value
structure SB.Ok (b : SB) : Prop where
  n5 : b.N0 ≤ b.X5 ∧ b.X5 < b.N
  n7 : b.N0 ≤ b.X7 ∧ b.X7 < b.N
  n8 : b.N0 ≤ b.X8 ∧ b.X8 < b.N
  nO : b.N0 ≤ b.OB ∧ b.OB < b.N
  n58 : b.X5 ≠ b.X8
  n5O : b.X5 ≠ b.OB
  n78 : b.X7 ≠ b.X8
  n7O : b.X7 ≠ b.OB
  n8O : b.X8 ≠ b.OB
def HtOk (g : Nat) (P : SPar) (A0 : Hp) (N0 : Nat) (hf : Value) : Prop :=
  ∀ (A : Hp) (d : Nat) (V : Value → Hp → Prop), (∀ z, z < N0 → A.get z = A0.get z) → N0 ≤ A.n → d < P.m → (∀ A', Ext' A A' → V (.tuple ⟨[.int .i64 (P.ht d), .bool true]⟩) A') → WV AP KL g hf [.int .i64 d] A V
structure SL (b : SB) (P : SPar) (A0 A : Hp) (o : List Int) (L : List (Int × Int)) : Prop where
  low : ∀ z, z < b.N0 → A.get z = A0.get z
  x5 : A.get b.X5 = some (.cells [b.hf] false)
  x7 : A.get b.X7 = some (.cells [rowS1 b.OB P.m] false)
  ob : A.get b.OB = some (.cells (ints o) false)
  hp : HpA b.N b.X8 A L
  nn : b.N ≤ A.n
theorem SL.ext {b : SB} {P : SPar} {A0 A A' : Hp} {o : List Int} {L : List (Int × Int)} (hb : b.Ok) (h : SL b P A0 A o L) (he : Ext' A A') : SL b P A0 A' o L := by
  have := hb.n5
  have := h.nn
  have := he.1
  exact ⟨fun z hz => by rw [he.2 z (by omega), h.low z hz], he.get h.x5, he.get h.x7, he.get h.ob, h.hp.ext he, by omega⟩
structure SUp (b : SB) (A A' : Hp) : Prop where
  n : A.n ≤ A'.n
  o : ∀ z, z < A.n → z ≠ b.X8 → z ≠ b.OB → ¬ HeB A b.X8 z → A'.get z = A.get z
  b : ∀ z, z < A.n → HeB A' b.X8 z → HeB A b.X8 z
theorem SUp.of {b : SB} {A A' : Hp} (h : Ext' A A') (hX : b.X8 < A.n) : SUp b A A' := ⟨h.1, fun z hz _ _ _ => h.2 z hz, (HUp.of h hX).b⟩
theorem SUp.heap {b : SB} {A A' : Hp} (h : HUp b.X8 A A') : SUp b A A' := ⟨h.n, fun z hz h1 _ h3 => h.o z hz h1 h3, h.b⟩
theorem SUp.row {b : SB} {A A' : Hp} (hn : A'.n = A.n) (hO : b.X8 ≠ b.OB) (ho : ∀ z, z ≠ b.OB → A'.get z = A.get z) : SUp b A A' := ⟨by omega, fun z _ _ h2 _ => ho z h2, fun z _ hB => by
  obtain ⟨sv, h1, h2⟩ := hB
  exact ⟨sv, by rw [← ho _ hO]; exact h1, h2⟩⟩
theorem SUp.trans {b : SB} {A A' A'' : Hp} (h : SUp b A A') (h' : SUp b A' A'') : SUp b A A'' :=
  ⟨Nat.le_trans h.n h'.n, fun z hz h1 h2 hb => (h'.o z (Nat.lt_of_lt_of_le hz h.n) h1 h2 fun hb' => hb (h.b z hz hb')).trans (h.o z hz h1 h2 hb), fun z hz hb => h.b z hz (h'.b z (Nat.lt_of_lt_of_le hz h.n) hb)⟩
section
variable {g : Nat} {rd : Option Nat} {T : List Value} {D : List Nat} {A : Hp} {Q : Ex → St → Prop} {V : Value → Hp → Prop}
theorem w276 {b : SB} {P : SPar} {A0 : Hp} {o : List Int} {L : List (Int × Int)} {d : Nat} {over : Int} (hb : b.Ok) (hP : SParOk P) (hh : HtOk g P A0 b.N0 b.hf) (h : SL b P A0 A o L) (hlen : o.length = P.m) (hm : P.m < 1000) (hd : d < P.m) (ho : -1073741824 ≤ over ∧ over ≤ 2000000) (hL : L.length + 1 < 1000000000000) (hg : g ≤ b.N0)
    (hV : ∀ v A' L', SL b P A0 A' (lowO P o d over) L' → ReachL P o L L' d over → SUp b A A' → V v A') : WF AP KL g 276 [.int .i64 d, .int .i64 over, .pointer (some ⟨b.X5, 0, none⟩), .pointer (some ⟨b.X7, 0, none⟩), .pointer (some ⟨b.X8, 0, none⟩)] A V := by
  rw [WF_body (show KL 276 = none from rfl) (show AP 276 = some F276 from rfl)]
  have k5 := hb.n5
  have k7 := hb.n7
  have k8 := hb.n8
  have kO := hb.nO
  have k58 := hb.n58
  have k5O := hb.n5O
  have k78 := hb.n78
  have k7O := hb.n7O
  have k8O := hb.n8O
  have hnn := h.nn
  have hht := hP.ht d hd
  obtain ⟨m, hm'⟩ : ∃ m, m = P.m := ⟨_, rfl⟩
  obtain ⟨ht, hht'⟩ : ∃ ht, ht = P.ht d := ⟨_, rfl⟩
  rw [← hht'] at hht
  simp (disch := as_aux_lemma => first | omega | simp only [hDs] <;> omega | simp [isCell]) [hRs, takeMarks, resA, resAll, resOne, Value.cells, F276, h.x5]
  refine hh A d _ h.low (by omega) hd fun A1 e1 => ?_
  have n1 := e1.1
  have h1 := h.ext hb e1
  rw [← hht']
  have x7 := h1.x7
  unfold rowS1 at x7
  rw [← hm'] at x7 hd hlen
  have hdI : (d : Int) < m := by omega
  have hp := ints_get (l := o) (o := d) (by omega)
  have hU1 := SUp.of (b := b) e1 (by omega)
  by_cases hlt : max ht over < gi o d
  · have st1 : storeB (some (.cells (ints o) false)) g A1 b.OB d [.int .i64 (max ht over)] 1 = some (undef, A1.set b.OB (some (.cells (ints (o.set d (max ht over))) false))) := by
      have := storeB_cells (A := A1) (g := g) (k := b.OB) (o := d) (size := 1) (cs := ints o) (vs := [.int .i64 (max ht over)]) rfl (by omega) (by rw [ints_length]; omega) rfl
      rwa [setRange_intsI (by omega)] at this
    obtain ⟨A2, hA2⟩ : ∃ A2, A2 = A1.set b.OB (some (.cells (ints (o.set d (max ht over))) false)) := ⟨_, rfl⟩
    rw [← hA2] at st1
    have hA2n : A2.n = A1.n := by rw [hA2]; rfl
    have hOn := Hp.lt_of_get h1.ob
    have o2 : ∀ z, z ≠ b.OB → A2.get z = A1.get z := fun z hz => by rw [hA2]; exact get_set_ne hOn hz
    have x72 := (o2 b.X7 k7O).trans x7
    have ob2 : A2.get b.OB = some (.cells (ints (o.set d (max ht over))) false) := by rw [hA2]; exact get_set_same h1.ob
    have hp2 := ints_get (l := o.set d (max ht over)) (o := d) (by rw [List.length_set]; omega)
    rw [gi_setI (by omega), if_pos rfl] at hp2
    have hH2 : HpA b.N b.X8 A2 L := by
      obtain ⟨sv, s1, s2⟩ := h1.hp.e
      exact ⟨⟨sv, (o2 _ k8O).trans s1, s2.keep fun z hz => o2 z (by have := (s2.blk hz).1; omega)⟩, h1.hp.lt⟩
    simp (disch := as_aux_lemma => first | omega | simp only [hDs] <;> omega | simp [isCell]) [hRs, takeMarks, resA, resAll, resOne, Value.cells, x7, h1.ob, hdI, idxSA_ok, hp, hlt, st1, x72, ob2, hp2, fillA, setRange]
    refine w277 hH2 (by omega) (by omega) hL fun v A3 L' hl hmem hH3 hU3 => ?_
    simp (disch := as_aux_lemma => first | omega | simp only [hDs] <;> omega | simp [isCell]) [hRs, takeMarks, resA, resAll, resOne, Value.cells]
    have hlow : lowO P o d over = o.set d (max ht over) := by unfold lowO; rw [← hht', if_pos hlt]
    have hnB : ∀ z, z < b.N → ¬ HeB A2 b.X8 z := fun z hz hB => by
      obtain ⟨sv, s1, s2⟩ := hB
      obtain ⟨sv', q1, q2⟩ := hH2.e
      rw [q1] at s1
      cases s1
      have := (q2.blk s2).1
      omega
    refine hV _ A3 L' ⟨fun z hz => ?_, ?_, ?_, ?_, hH3, ?_⟩ ?_ ((hU1.trans (SUp.row (by omega) k8O o2)).trans (SUp.heap hU3))
    · rw [hU3.o z (by omega) (by omega) (hnB z (by omega)), o2 z (by omega), h1.low z hz]
    · rw [hU3.o _ (by omega) k58 (hnB _ (by omega)), o2 _ k5O]; exact h1.x5
    · rw [hU3.o _ (by omega) k78 (hnB _ (by omega)), o2 _ k7O]; exact h1.x7
    · rw [hU3.o _ (by omega) (Ne.symm k8O) (hnB _ (by omega)), hlow]; exact ob2
    · have := hU3.n; omega
    · unfold ReachL
      rw [← hht', if_pos hlt]
      exact ⟨hl, hmem⟩
  · have hlow : lowO P o d over = o := by unfold lowO; rw [← hht', if_neg hlt]
    simp (disch := as_aux_lemma => first | omega | simp only [hDs] <;> omega | simp [isCell]) [hRs, takeMarks, resA, resAll, resOne, Value.cells, x7, h1.ob, hdI, idxSA_ok, hp, hlt]
    refine hV _ A1 L (by rw [hlow]; exact h1) ?_ hU1
    unfold ReachL
    rw [← hht', if_neg hlt]
end
end Go.Ab.Dike
namespace Go.Ab.Dike
open Go Go.Ab
def asg269 : ACode := (.ops [
oM 13 40])
def body269r : ACode := (.block 5
 (.ops [
oL 41 9,
oM 42 13,
oF 43 12 1,
oL 44 43,
oP 45 (.call (.t 41) [.t 42, .t 44] false)]))
structure SafeB (b : SB) (A : Hp) (z : Nat) (k : ABlk) : Prop where
  at_ : A.get z = some k
  lo : b.N ≤ z
  no : ¬ HeB A b.X8 z
theorem SafeB.up {b : SB} {A A' : Hp} {z : Nat} {k : ABlk} (hb : b.Ok) (h : SafeB b A z k) (u : SUp b A A') : SafeB b A' z k := by
  have h8 := hb.n8
  have hO := hb.nO
  have hl := h.lo
  have hz := Hp.lt_of_get h.at_
  exact ⟨(u.o z hz (by omega) (by omega) h.no).trans h.at_, hl, fun hB => h.no (u.b z hz hB)⟩
theorem SafeB.new {b : SB} {A A' : Hp} {z : Nat} {k : ABlk} {L : List (Int × Int)} (hp : HpA b.N b.X8 A L) (hN : b.N ≤ A.n) (he : Ext' A A') (hz : A.n ≤ z) (hk : A'.get z = some k) : SafeB b A' z k := by
  refine ⟨hk, by omega, fun hB => ?_⟩
  obtain ⟨sv, s1, s2⟩ := hB
  obtain ⟨sv', q1, q2⟩ := hp.e
  rw [he.get q1] at s1
  cases s1
  have := (q2.blk s2).2
  omega
theorem SafeB.set {b : SB} {A : Hp} {z : Nat} {k : ABlk} (hb : b.Ok) (h : SafeB b A z k) (k' : ABlk) : SafeB b (A.set z (some k')) z k' := by
  refine ⟨get_set_same h.at_, h.lo, fun hB => h.no ?_⟩
  obtain ⟨sv, s1, s2⟩ := hB
  have h8 := hb.n8
  have hl := h.lo
  rw [get_set_ne (Hp.lt_of_get h.at_) (by omega)] at s1
  exact ⟨sv, s1, s2⟩
theorem SafeB.set_ne {b : SB} {A : Hp} {z y : Nat} {k ky : ABlk} {k' : Option ABlk} (hb : b.Ok) (hy : SafeB b A y ky) (hz : SafeB b A z k) (hyz : y ≠ z) : SafeB b (A.set z k') y ky := by
  have h8 := hb.n8
  have hl := hz.lo
  refine ⟨(get_set_ne (Hp.lt_of_get hz.at_) hyz).trans hy.at_, hy.lo, fun hB => hy.no ?_⟩
  obtain ⟨sv, s1, s2⟩ := hB
  rw [get_set_ne (Hp.lt_of_get hz.at_) (by omega)] at s1
  exact ⟨sv, s1, s2⟩
theorem SL.set {b : SB} {P : SPar} {A0 A : Hp} {o : List Int} {L : List (Int × Int)} {z : Nat} {k : ABlk} {k' : Option ABlk} (hb : b.Ok) (h : SL b P A0 A o L) (hz : SafeB b A z k) : SL b P A0 (A.set z k') o L := by
  have h5 := hb.n5
  have h7 := hb.n7
  have h8 := hb.n8
  have hO := hb.nO
  have hl := hz.lo
  have e : ∀ y, y ≠ z → (A.set z k').get y = A.get y := fun y hy => get_set_ne (Hp.lt_of_get hz.at_) hy
  refine ⟨fun y hy => (e y (by omega)).trans (h.low y hy), (e _ (by omega)).trans h.x5, (e _ (by omega)).trans h.x7, (e _ (by omega)).trans h.ob, ?_, h.nn⟩
  obtain ⟨sv, s1, s2⟩ := h.hp.e
  exact ⟨⟨sv, (e _ (by omega)).trans s1, s2.keep fun y hy => e y fun hyz => hz.no ⟨sv, s1, by rw [← hyz]; exact hy⟩⟩, h.hp.lt⟩
structure GoR (b : SB) (P : SPar) (A0 : Hp) (K0 : Nat) (q : List Nat) (F : List (Nat × ABlk)) (k : Option Cur) (A : Hp) : Prop where
  e : ∃ o L, SL b P A0 A o L ∧ SMid P o L k q ∧ 2 * potS o + L.length ≤ K0
  F : ∀ x, x ∈ F → SafeB b A x.1 x.2
theorem GoR.ext {b : SB} {P : SPar} {A0 A A' : Hp} {K0 : Nat} {q : List Nat} {F : List (Nat × ABlk)} {k : Option Cur} (hb : b.Ok) (h : GoR b P A0 K0 q F k A) (he : Ext' A A') : GoR b P A0 K0 q F k A' := by
  obtain ⟨o, L, h1, h2, h3⟩ := h.e
  have h8 := hb.n8
  have := h1.nn
  exact ⟨⟨o, L, h1.ext hb he, h2, h3⟩, fun x hx => (h.F x hx).up hb (SUp.of he (by omega))⟩
theorem GoR.nn {b : SB} {P : SPar} {A0 A : Hp} {K0 : Nat} {q : List Nat} {F : List (Nat × ABlk)} {k : Option Cur} (h : GoR b P A0 K0 q F k A) : b.N ≤ A.n := by
  obtain ⟨o, L, h1, _⟩ := h.e
  exact h1.nn
theorem GoR.new {b : SB} {P : SPar} {A0 A A' : Hp} {K0 : Nat} {q : List Nat} {F : List (Nat × ABlk)} {k : Option Cur} {z : Nat} {kz : ABlk} (h : GoR b P A0 K0 q F k A) (he : Ext' A A') (hz : A.n ≤ z) (hk : A'.get z = some kz) : SafeB b A' z kz := by
  obtain ⟨o, L, h1, _⟩ := h.e
  exact SafeB.new h1.hp h1.nn he hz hk
def f276 (b : SB) : Value := .func (.func 276) ⟨[]⟩ ⟨[.pointer (some ⟨b.X5, 0, none⟩), .pointer (some ⟨b.X7, 0, none⟩), .pointer (some ⟨b.X8, 0, none⟩)]⟩
section
variable {g : Nat} {rd : Option Nat} {T : List Value} {D : List Nat} {A : Hp} {Q : Ex → St → Prop} {V : Value → Hp → Prop}
theorem y269 {b : SB} {P : SPar} {A0 : Hp} {K0 : Nat} {q : List Nat} {F : List (Nat × ABlk)} {c d : Nat} {v : Int} {dn : List Nat} {T1 : List Value} {X9 B12 Lr : Nat} (hb : b.Ok) (hP : SParOk P) (hh : HtOk g P A0 b.N0 b.hf) (hm : P.m < 1000) (hK : K0 + 1 < 1000000000000) (hg : g ≤ b.N0)
    (h : GoR b P A0 K0 q F (some ⟨c, v, dn⟩) A) (hd : d ∈ P.nb c) (hder : P.Der c v) (h9 : (X9, ABlk.cells [f276 b] false) ∈ F) (h12 : (B12, ABlk.cells [.int .i64 c, .int .i64 v] false) ∈ F) (hLr : SafeB b A Lr (recL T1 [40] asg269 body269r)) (hFL : ∀ x, x ∈ F → x.1 ≠ Lr)
    (t9 : tget T1 9 = .pointer (some ⟨X9, 0, none⟩)) (t12 : tget T1 12 = .pointer (some ⟨B12, 0, none⟩))
    (hV : ∀ A', GoR b P A0 K0 q F (some ⟨c, v, dn ++ [d]⟩) A' → SafeB b A' Lr (recL T1 [40] asg269 body269r) → V (.bool true) A') :
    WV AP KL g (.func (.yield Lr) #[] #[]) [.int .i64 d] A V := by
  obtain ⟨o, L, h1, h2, h3⟩ := h.e
  have n5 := hb.n5
  have hnn := h1.nn
  have hl := hLr.lo
  refine WV_yield hLr.at_ (by omega) ?_
  obtain ⟨B, hB⟩ : ∃ B, B = A.set Lr (some (.loop { state := .busy, pending := none, tmps := T1, params := [40], assign := .ops [oM 13 40], body := body269r })) := ⟨_, rfl⟩
  rw [← hB]
  have hBS : SL b P A0 B o L := by rw [hB]; exact h1.set hb hLr
  have hBL : SafeB b B Lr (.loop { state := .busy, pending := none, tmps := T1, params := [40], assign := .ops [oM 13 40], body := body269r }) := by rw [hB]; exact hLr.set hb _
  have hBF : ∀ x, x ∈ F → SafeB b B x.1 x.2 := fun x hx => by rw [hB]; exact (h.F x hx).set_ne hb hLr (hFL x hx)
  have b9 := (hBF _ h9).at_
  have b12 := (hBF _ h12).at_
  unfold f276 at b9
  have hr := hder.rng hP
  simp (disch := as_aux_lemma => first | omega | simp only [hDs] <;> omega | simp [isCell]) [hRs, takeMarks, resA, resAll, resOne, Value.cells, body269r, t9, t12, b9, b12]
  refine w276 hb hP hh hBS h2.len hm (hP.nb c (hder.lt hP) d hd) (by omega) (by omega) hg fun v' A' L' k1 k2 k3 => ?_
  have hLr' := hBL.up hb k3
  have hder' := hder.step hd
  have hdm := hder'.lt hP
  simp (disch := as_aux_lemma => first | omega | simp only [hDs] <;> omega | simp [isCell]) [hRs, takeMarks, resA, resAll, resOne, Value.cells, RoundQ, hLr'.at_]
  refine ⟨rfl, hV _ ⟨⟨lowO P o d v, L', k1.set hb hLr', (h2.reach hP hdm hder' k2).doneOne (lowO_at (by rw [h2.len]; exact hdm)), ?_⟩, fun x hx => ((hBF x hx).up hb k3).set_ne hb hLr' (hFL x hx)⟩ (hLr'.set hb _)⟩
  by_cases hlt : max (P.ht d) v < gi o d
  · have := potS_low (P := P) (o := o) (d := d) (over := v) (by rw [h2.len]; exact hdm) (by omega) hlt
    unfold ReachL at k2
    rw [if_pos hlt] at k2
    omega
  · unfold ReachL at k2
    rw [if_neg hlt] at k2
    unfold lowO
    rw [if_neg hlt, k2]
    exact h3
end
end Go.Ab.Dike
namespace Go.Ab.Dike
open Go Go.Ab
theorem GoR.mono {b : SB} {P : SPar} {A0 A : Hp} {K0 : Nat} {q : List Nat} {F F' : List (Nat × ABlk)} {k : Option Cur} (h : GoR b P A0 K0 q F k A) (hF : ∀ x, x ∈ F' → x ∈ F) : GoR b P A0 K0 q F' k A := ⟨h.e, fun x hx => h.F x (hF x hx)⟩
section
variable {g : Nat} {rd : Option Nat} {T : List Value} {D : List Nat} {A : Hp} {Q : Ex → St → Prop} {V : Value → Hp → Prop}
theorem range269 {b : SB} {P : SPar} {A0 C0 : Hp} {K0 : Nat} {q : List Nat} {F : List (Nat × ABlk)} {c : Nat} {v w h s : Int} {sl : Value} {T1 : List Value} {X9 B12 gb cb : Nat} (hb : b.Ok) (hP : SParOk P) (hh : HtOk g P A0 b.N0 b.hf) (hm : P.m < 1000) (hK : K0 + 1 < 1000000000000) (hg : g ≤ b.N0)
    (hw : 1 ≤ w ∧ w ≤ 24) (hh' : 1 ≤ h ∧ h ≤ 24) (hcw : (c : Int) < w * h) (hnb : P.nb c = (nbrs w h c).map Int.toNat)
    (hR : GoR b P A0 K0 q F (some ⟨c, v, []⟩) C0) (hder : P.Der c v) (h9 : (X9, ABlk.cells [f276 b] false) ∈ F) (h12 : (B12, ABlk.cells [.int .i64 c, .int .i64 v] false) ∈ F) (hgb : (gb, ABlk.cells [.int .i64 w, .int .i64 h, .int .i64 s, sl] false) ∈ F) (hcb : (cb, ABlk.cells [.int .i64 c] false) ∈ F)
    (t9 : tget T1 9 = .pointer (some ⟨X9, 0, none⟩)) (t12 : tget T1 12 = .pointer (some ⟨B12, 0, none⟩)) (t39 : tget T1 39 = .func (.func 114) ⟨[]⟩ ⟨[.pointer (some ⟨cb, 0, none⟩), .pointer (some ⟨gb, 0, none⟩)]⟩)
    (hQ : ∀ A', GoR b P A0 K0 q ((C0.n, .marks) :: F) none A' → Q .normal ⟨T1, C0.n :: D, A'⟩) :
    W AP KL g none (.rangeF (.t 39) [40] asg269 body269r) ⟨T1, D, C0⟩ Q := by
  refine W_range (h := 114) (first := []) (captured := [.pointer (some ⟨cb, 0, none⟩), .pointer (some ⟨gb, 0, none⟩)]) t39 ?_
  rw [WF_body (show KL 114 = none from rfl) (show AP 114 = some F114 from rfl)]
  have n5 := hb.n5
  have hnn := hR.nn
  obtain ⟨C, hC⟩ : ∃ C, C = (C0.push .marks).push (recL T1 [40] asg269 body269r) := ⟨_, rfl⟩
  rw [← hC]
  have hCn : C.n = C0.n + 2 := by rw [hC]; rfl
  have eC : Ext' C0 C := by rw [hC]; exact (Ext'.push C0 _).trans (Ext'.push _ _)
  have hCm : C.get C0.n = some .marks := by rw [hC, get_push_old (by simp), get_push_new]
  have hCL : C.get (C0.n + 1) = some (recL T1 [40] asg269 body269r) := by rw [hC, get_push_eq (by simp)]
  have hRC := hR.ext hb eC
  have hcb' := (hRC.F _ hcb).at_
  have hgb' := (hRC.F _ hgb).at_
  obtain ⟨⟨p1, p2⟩, p3, p4⟩ := cell_parts hw.1 (show (0 : Int) ≤ (c : Int) by omega) hcw
  have z4 : zeros 4 [Value.int .i64 0, .int .i64 0] = [.int .i64 0, .int .i64 0, .int .i64 0, .int .i64 0, .int .i64 0, .int .i64 0, .int .i64 0, .int .i64 0] := rfl
  have e1 : wr .i64 ((c : Int).tdiv w) = (c : Int).tdiv w := wrId (by omega) (by omega)
  have c24 : w * h ≤ 24 * 24 := Int.mul_le_mul hw.2 hh'.2 (by omega) (by omega)
  have e2 : wr .i64 ((c : Int).tmod w) = (c : Int).tmod w := wrId (by omega) (by omega)
  have e1' : wr .i64 ((c : Int) / w) = (c : Int) / w := by rwa [Int.tdiv_eq_ediv_of_nonneg (by omega)] at e1
  have hcbn := Hp.lt_of_get hcb'
  have hgbn := Hp.lt_of_get hgb'
  simp (disch := as_aux_lemma => first | omega | simp only [hDs] <;> omega | simp [isCell]) [hRs, takeMarks, resA, resAll, resOne, Value.cells, F114, hcb', hgb', binA_rem (show w ≠ 0 by omega), binA_quo (show w ≠ 0 by omega), e1, e2, slitA, fillA, setRange, z4]
  obtain ⟨B, hB⟩ : ∃ B, B = C.push (.cells (ints dirI) false) := ⟨_, rfl⟩
  have hB' := hB.symm
  simp only [dirI, ints, List.map_cons, List.map_nil] at hB'
  rw [hB']
  have eB : Ext' C B := by rw [hB]; exact Ext'.push C _
  have hBr : B.get C.n = some (.cells (ints dirI) false) := by rw [hB, get_push_new]
  obtain ⟨F', hF'⟩ : ∃ F', F' = (C.n, ABlk.cells (ints dirI) false) :: (C0.n, .marks) :: F := ⟨_, rfl⟩
  have hF : GoR b P A0 K0 q F' (some ⟨c, v, []⟩) B := by
    refine ⟨(hRC.ext hb eB).e, fun x hx => ?_⟩
    rw [hF'] at hx
    rcases List.mem_cons.1 hx with rfl | hx
    · exact hRC.new eB (Nat.le_refl _) hBr
    · rcases List.mem_cons.1 hx with rfl | hx
      · exact hR.new (eC.trans eB) (Nat.le_refl _) (eB.get hCm)
      · exact (hRC.ext hb eB).F x hx
  have hFr : ∀ x, x ∈ F' → x.1 ≠ C0.n + 1 := fun x hx => by
    rw [hF'] at hx
    rcases List.mem_cons.1 hx with rfl | hx
    · simp only; omega
    · rcases List.mem_cons.1 hx with rfl | hx
      · simp only; omega
      · have := Hp.lt_of_get (hR.F x hx).at_; omega
  have hLr : SafeB b B (C0.n + 1) (recL T1 [40] asg269 body269r) := hR.new (eC.trans eB) (by omega) (eB.get hCL)
  have m9 : (X9, ABlk.cells [f276 b] false) ∈ F' := by rw [hF']; exact List.mem_cons_of_mem _ (List.mem_cons_of_mem _ h9)
  have m12 : (B12, ABlk.cells [.int .i64 c, .int .i64 v] false) ∈ F' := by rw [hF']; exact List.mem_cons_of_mem _ (List.mem_cons_of_mem _ h12)
  have mgb : (gb, ABlk.cells [.int .i64 w, .int .i64 h, .int .i64 s, sl] false) ∈ F' := by rw [hF']; exact List.mem_cons_of_mem _ (List.mem_cons_of_mem _ hgb)
  have mr : (C.n, ABlk.cells (ints dirI) false) ∈ F' := by rw [hF']; exact List.mem_cons_self ..
  refine loop114 (P := fun dn A => GoR b P A0 K0 q F' (some ⟨c, v, dn.map Int.toNat⟩) A ∧ SafeB b A (C0.n + 1) (recL T1 [40] asg269 body269r)) (L := C0.n + 1) (G := gb) (R := C.n) (w := w) (h := h) (c := c) (s := s) (sl := sl) hw hh' ⟨p1, p2⟩ ⟨p3, p4⟩
    (fun dn A hPA => ⟨(hPA.1.F _ mgb).at_, (hPA.1.F _ mr).at_, by have := hPA.1.nn; omega⟩) (fun dn A bl hPA => ⟨hPA.1.ext hb (Ext'.push A bl), hPA.2.up hb (SUp.of (Ext'.push A bl) (by have := hPA.1.nn; have := hb.n8; omega))⟩) (fun dn d A V hPA hd hV => ?_) (fun T' A' hPA => ?_) 4 0 (by omega) ⟨hF, hLr⟩ ?_ ?_ ?_ ?_ ?_ ?_ ?_
  · obtain ⟨d0, d1⟩ := nbrs_range hw.1 hd
    obtain ⟨dN, rfl⟩ : ∃ dN : Nat, d = (dN : Int) := ⟨d.toNat, by omega⟩
    refine y269 (c := c) (v := v) hb hP hh hm hK hg hPA.1 (d := dN) ?_ hder m9 m12 hPA.2 hFr t9 t12 fun A' k1 k2 => hV A' ⟨?_, k2⟩
    · rw [hnb]
      exact List.mem_map.2 ⟨_, hd, by simp⟩
    · rw [List.map_append]; exact k1
  · obtain ⟨o, L, k1, k2, k3⟩ := hPA.1.e
    have hL := hPA.2.at_
    simp (disch := as_aux_lemma => first | omega | simp only [hDs] <;> omega | simp [isCell]) [hRs, takeMarks, resA, resAll, resOne, Value.cells, EndQ, hL, recL]
    refine hQ _ ⟨⟨o, L, k1.set hb hPA.2, ?_, k3⟩, fun x hx => ?_⟩
    · rw [← hnb] at k2
      exact k2.shut
    · have hx' : x ∈ F' := by rw [hF']; exact List.mem_cons_of_mem _ hx
      exact (hPA.1.F x hx').set_ne hb hPA.2 (hFr x hx')
  all_goals simp [e1']
end
end Go.Ab.Dike
namespace Go.Ab.Dike
open Go Go.Ab
theorem takeMarks_all : ∀ (D : List Nat) (A : Hp), D.Nodup → (∀ x, x ∈ D → A.get x = some .marks) → ∃ A', takeMarks A D = some A' ∧ A'.n = A.n ∧ ∀ x, x ∉ D → A'.get x = A.get x
  | [], A, _, _ => ⟨A, rfl, rfl, fun _ _ => rfl⟩
  | y :: D, A, hD, h => by
    have hy := h y (by simp)
    have hyn := Hp.lt_of_get hy
    obtain ⟨hyD, hD'⟩ := List.nodup_cons.1 hD
    obtain ⟨A', h1, h2, h3⟩ := takeMarks_all D (A.set y none) hD' (fun x hx => by rw [get_set_ne hyn (fun e => hyD (e ▸ hx))]; exact h x (by simp [hx]))
    refine ⟨A', by simp only [takeMarks, hy]; exact h1, h2, fun x hx => ?_⟩
    simp at hx
    rw [h3 x hx.2, get_set_ne hyn hx.1]
def fD (D : List Nat) (F : List (Nat × ABlk)) : List (Nat × ABlk) := D.map (fun x => (x, ABlk.marks)) ++ F
section
variable {g : Nat} {rd : Option Nat} {T : List Value} {D : List Nat} {A : Hp} {Q : Ex → St → Prop} {V : Value → Hp → Prop}
theorem loop269b {b : SB} {P : SPar} {A0 : Hp} {q : List Nat} {w h s : Int} {sl : Value} {X9 X3 : Nat} (hb : b.Ok) (hP : SParOk P) (hh : HtOk g P A0 b.N0 b.hf) (hm : P.m < 1000) (hg : g ≤ b.N0)
    (hw : 1 ≤ w ∧ w ≤ 24) (hh' : 1 ≤ h ∧ h ≤ 24) (hcw : (P.m : Int) = w * h) (hnb : ∀ c, c < P.m → P.nb c = (nbrs w h c).map Int.toNat) (hX3 : A0.get X3 = some (.cells [.int .i64 w, .int .i64 h, .int .i64 s, sl] false)) (h3N : X3 < b.N0)
    (hQ : ∀ T' A' D' K0, GoR b P A0 K0 q (fD D' [(X9, ABlk.cells [f276 b] false)]) none A' → D'.Nodup → (∃ o, SL b P A0 A' o [] ∧ SMid P o [] none q) → tget T' 7 = .pointer (some ⟨b.X7, 0, none⟩) → Q (.exit 2) ⟨T', D', A'⟩) :
    ∀ (K0 : Nat) {T : List Value} {A : Hp} {D : List Nat}, K0 + 1 < 1000000000000 → GoR b P A0 K0 q (fD D [(X9, ABlk.cells [f276 b] false)]) none A → D.Nodup → tget T 3 = .pointer (some ⟨X3, 0, none⟩) → tget T 7 = .pointer (some ⟨b.X7, 0, none⟩) → tget T 8 = .pointer (some ⟨b.X8, 0, none⟩) → tget T 9 = .pointer (some ⟨X9, 0, none⟩) →
      W AP KL g none (.loop body269b) ⟨T, D, A⟩ Q := by
  intro K0
  induction K0 with
  | zero =>
    intro T A D hK hG hD t3 t7 t8 t9
    obtain ⟨o, L, h1, h2, h3⟩ := hG.e
    have hl : L.length = 0 := by omega
    have hL : L = [] := List.eq_nil_of_length_eq_zero hl
    subst hL
    obtain ⟨sv, s1, s2⟩ := h1.hp.e
    have s3 := s2.len
    unfold bef275 at s1
    rw [W_loop]
    simp (disch := as_aux_lemma => first | omega | simp only [hDs] <;> omega | simp [isCell]) [hRs, takeMarks, resA, resAll, resOne, Value.cells, body269b, t8, s1, s3]
    exact hQ _ _ _ _ hG hD ⟨o, h1, h2⟩ (by simp [t7])
  | succ K0 ih =>
    intro T A D hK hG hD t3 t7 t8 t9
    obtain ⟨o, L, h1, h2, h3⟩ := hG.e
    obtain ⟨sv, s1, s2⟩ := h1.hp.e
    have s3 := s2.len
    unfold bef275 at s1
    by_cases hl : L.length = 0
    · have hL : L = [] := List.eq_nil_of_length_eq_zero hl
      subst hL
      rw [W_loop]
      simp (disch := as_aux_lemma => first | omega | simp only [hDs] <;> omega | simp [isCell]) [hRs, takeMarks, resA, resAll, resOne, Value.cells, body269b, t8, s1, s3]
      exact hQ _ _ _ _ hG hD ⟨o, h1, h2⟩ (by simp [t7])
    have h8 := hb.n8
    rw [W_loop]
    simp (disch := as_aux_lemma => first | omega | simp only [hDs] <;> omega | simp [isCell]) [hRs, takeMarks, resA, resAll, resOne, Value.cells, body269b, t8, s1, s3, show (0 : Int) < L.length by omega, show 0 < L.length by omega]
    refine w278 h1.hp h1.nn (by omega) (by omega) (by omega) fun A1 L' x y m1 m2 m3 m4 m5 m6 => ?_
    obtain ⟨c, hc, hder⟩ := h2.heap _ m1
    simp only at hc hder
    subst hc
    have hcm := hder.lt hP
    have u1 : SUp b A A1 := SUp.heap m6
    have hnn := h1.nn
    have k5 := hb.n5
    have k7 := hb.n7
    have kO := hb.nO
    have hnB : ∀ z, z < b.N → ¬ HeB A b.X8 z := fun z hz hB => by
      obtain ⟨sv', q1, q2⟩ := hB
      obtain ⟨sv2, q3, q4⟩ := h1.hp.e
      rw [q3] at q1
      cases q1
      have := (q4.blk q2).1
      omega
    have sl1 : SL b P A0 A1 o L' := by
      refine ⟨fun z hz => ?_, ?_, ?_, ?_, m5, by have := m6.n; omega⟩
      · rw [m6.o z (by omega) (by omega) (hnB z (by omega)), h1.low z hz]
      · rw [m6.o _ (by omega) hb.n58 (hnB _ (by omega))]; exact h1.x5
      · rw [m6.o _ (by omega) hb.n78 (hnB _ (by omega))]; exact h1.x7
      · rw [m6.o _ (by omega) (Ne.symm hb.n8O) (hnB _ (by omega))]; exact h1.ob
    have g1 : GoR b P A0 K0 q (fD D [(X9, ABlk.cells [f276 b] false)]) (some ⟨c, y, []⟩) A1 := ⟨⟨o, L', sl1, h2.take m3 m4, by omega⟩, fun z hz => (hG.F z hz).up hb u1⟩
    obtain ⟨B, hB⟩ : ∃ B, B = A1.push (.cells [.int .i64 c, .int .i64 y] false) := ⟨_, rfl⟩
    have eB : Ext' A1 B := by rw [hB]; exact Ext'.push A1 _
    have hBn : B.n = A1.n + 1 := by rw [hB]; rfl
    have m6n := m6.n
    have gB := g1.ext hb eB
    have x3 : B.get X3 = some (.cells [.int .i64 w, .int .i64 h, .int .i64 s, sl] false) := by rw [eB.2 _ (by have := m6.n; omega), sl1.low _ h3N]; exact hX3
    have b12 : B.get A1.n = some (.cells [.int .i64 c, .int .i64 y] false) := by rw [hB, get_push_new]
    simp (disch := as_aux_lemma => first | omega | simp only [hDs] <;> omega | simp [isCell]) [hRs, takeMarks, resA, resAll, resOne, Value.cells, t3, storeB_cells, setRange, set_push_eq, ← hB, x3, b12, WF_body (K := KL) rfl (show AP 112 = some F112 from rfl), F112]
    obtain ⟨C, hC⟩ : ∃ C, C = (B.push (.cells [.int .i64 w, .int .i64 h, .int .i64 s, sl] false)).push (.cells [.int .i64 c] false) := ⟨_, rfl⟩
    have eC : Ext' B C := by rw [hC]; exact (Ext'.push B _).trans (Ext'.push _ _)
    have hCn : C.n = B.n + 2 := by rw [hC]; rfl
    have cgb : C.get B.n = some (.cells [.int .i64 w, .int .i64 h, .int .i64 s, sl] false) := by rw [hC, get_push_old (by simp), get_push_new]
    have ccb : C.get (B.n + 1) = some (.cells [.int .i64 c] false) := by rw [hC, get_push_eq (by simp)]
    rw [← hC]
    obtain ⟨F, hF⟩ : ∃ F, F = fD D [(X9, ABlk.cells [f276 b] false)] := ⟨_, rfl⟩
    rw [← hF] at g1 gB
    have gC : GoR b P A0 K0 q ((A1.n, ABlk.cells [.int .i64 c, .int .i64 y] false) :: (B.n, ABlk.cells [.int .i64 w, .int .i64 h, .int .i64 s, sl] false) :: (B.n + 1, ABlk.cells [.int .i64 c] false) :: F) (some ⟨c, y, []⟩) C := by
      refine ⟨(gB.ext hb eC).e, fun x hx => ?_⟩
      rcases List.mem_cons.1 hx with rfl | hx
      · exact g1.new (eB.trans eC) (Nat.le_refl _) (eC.get b12)
      · rcases List.mem_cons.1 hx with rfl | hx
        · exact gB.new eC (Nat.le_refl _) cgb
        · rcases List.mem_cons.1 hx with rfl | hx
          · exact gB.new eC (Nat.le_succ _) ccb
          · exact (gB.ext hb eC).F x hx
    have hcI : (c : Int) < w * h := by rw [← hcw]; omega
    have m9 : (X9, ABlk.cells [f276 b] false) ∈ F := by rw [hF]; unfold fD; simp
    refine range269 (b := b) (c := c) (v := y) (w := w) (h := h) (s := s) (sl := sl) (X9 := X9) (B12 := A1.n) (gb := B.n) (cb := B.n + 1) (T1 := _) hb hP hh hm (by omega) hg hw hh' hcI (hnb c hcm) gC hder (by simp [m9]) (by simp) (by simp) (by simp) ?_ ?_ ?_ fun A2 gA2 => ?_
    · simp [t9]
    · simp
    · simp
    · simp (disch := as_aux_lemma => first | omega | simp only [hDs] <;> omega | simp [isCell]) [hRs, takeMarks, resA, resAll, resOne, Value.cells]
      refine ih (by omega) (D := C.n :: D) (gA2.mono fun x hx => ?_) ?_ ?_ ?_ ?_ ?_
      · unfold fD at hx
        rw [List.map_cons, List.cons_append] at hx
        rcases List.mem_cons.1 hx with rfl | hx
        · exact List.mem_cons_self ..
        · have hx' : x ∈ F := by rw [hF]; exact hx
          simp [hx']
      · refine List.nodup_cons.2 ⟨fun hmem => ?_, hD⟩
        have : (C.n, ABlk.marks) ∈ fD D [(X9, ABlk.cells [f276 b] false)] := by unfold fD; simp [hmem]
        have := Hp.lt_of_get (hG.F _ this).at_
        have := m6.n
        simp only at *
        omega
      · simp [t3]
      · simp [t7]
      · simp [t8]
      · simp [t9]
end
end Go.Ab.Dike
namespace Go.Ab.Dike
open Go Go.Ab
structure SLine (P : SPar) (w h : Int) : Prop where
  ok : SParOk P
  m : P.m = 8
  sea : P.sea = [0]
  wr : 1 ≤ w ∧ w ≤ 24
  hr : 1 ≤ h ∧ h ≤ 24
  wh : w * h = 8
  nb : ∀ c, c < P.m → P.nb c = (nbrs w h c).map Int.toNat
section
variable {g : Nat} {rd : Option Nat} {T : List Value} {D : List Nat} {A : Hp} {Q : Ex → St → Prop} {V : Value → Hp → Prop}
theorem w269 {P : SPar} {w h s : Int} {sl hf : Value} {z : Nat} {ro : Bool} (hL : SLine P w h) (hlen : lenV sl = some (.int .i64 8)) (hz : A.get z = some (.cells [.int .i64 0] ro)) (hf' : hf.cells.toList = [hf]) (hh : HtOk g P A A.n hf) (hg : g ≤ A.n)
    (hV : ∀ A' o OB, SFin P o → Ext' A A' → A.n ≤ OB → A'.get OB = some (.cells (ints o) false) → V (rowS1 OB 8) A') : WF AP KL g 269 [gridV w h s sl, .slice (some ⟨z, 0, some 1⟩) 1 1, hf] A V := by
  rw [WF_body (show KL 269 = none from rfl) (show AP 269 = some F269 from rfl)]
  have hzn := Hp.lt_of_get hz
  obtain ⟨A0, hA0⟩ : ∃ A0, A0 = A.push (.cells [.int .i64 w, .int .i64 h, .int .i64 s, sl] false) := ⟨_, rfl⟩
  have e0 : Ext' A A0 := by rw [hA0]; exact Ext'.push A _
  have n0 : A0.n = A.n + 1 := by rw [hA0]; rfl
  have x3 : A0.get A.n = some (.cells [.int .i64 w, .int .i64 h, .int .i64 s, sl] false) := by rw [hA0, get_push_new]
  obtain ⟨A1, hA1⟩ : ∃ A1, A1 = (A0.push (.cells [hf] false)).push (.cells [.int .i64 1073741824] false) := ⟨_, rfl⟩
  have e1 : Ext' A0 A1 := by rw [hA1]; exact (Ext'.push A0 _).trans (Ext'.push _ _)
  have n1 : A1.n = A.n + 3 := by rw [hA1]; simp [n0]
  have x5 : A1.get (A.n + 1) = some (.cells [hf] false) := by rw [hA1, get_push_old (by simp; omega), get_push_eq ⟨by omega, by omega⟩]
  have x6 : A1.get (A.n + 2) = some (.cells [.int .i64 1073741824] false) := by rw [hA1, get_push_eq (by simp; omega)]
  have x31 := e1.get x3
  unfold Value.cells at hf'
  simp (disch := as_aux_lemma => first | omega | simp only [hDs] <;> omega | simp [isCell]) [hRs, takeMarks, resA, resAll, resOne, Value.cells, F269, gridV, slitA, fillA, setRange, n0, ← hA0, hlen, hf']
  rw [← hA1]
  simp (disch := as_aux_lemma => first | omega | simp only [hDs] <;> omega | simp [isCell]) [hRs, takeMarks, resA, resAll, resOne, Value.cells, x3, hlen]
  refine w83 (n := 8) rfl (b := A.n + 2) x6 (by omega) fun A2 e2 n2 ob2 => ?_
  rw [n1] at n2 ob2
  obtain ⟨A3, hA3⟩ : ∃ A3, A3 = ((A2.push (.cells [rowS1 (A.n + 3) 8] false)).push (.cells [.slice none 0 0, bef275] false)).push (.cells [f276 ⟨A.n + 1, A.n + 6, A.n + 1, A.n + 4, A.n + 5, A.n + 3, hf⟩] false) := ⟨_, rfl⟩
  have e3 : Ext' A2 A3 := by rw [hA3]; exact ((Ext'.push A2 _).trans (Ext'.push _ _)).trans (Ext'.push _ _)
  have n3 : A3.n = A.n + 7 := by rw [hA3]; simp [n2]
  have x7 : A3.get (A.n + 4) = some (.cells [rowS1 (A.n + 3) 8] false) := by rw [hA3, get_push_old (by simp; omega), get_push_old (by simp; omega), get_push_eq ⟨by omega, by omega⟩]
  have x8 : A3.get (A.n + 5) = some (.cells [.slice none 0 0, bef275] false) := by rw [hA3, get_push_old (by simp; omega), get_push_eq (by simp; omega)]
  have x9 : A3.get (A.n + 6) = some (.cells [f276 ⟨A.n + 1, A.n + 6, A.n + 1, A.n + 4, A.n + 5, A.n + 3, hf⟩] false) := by rw [hA3, get_push_eq (by simp; omega)]
  obtain ⟨b, hb⟩ : ∃ b : SB, b = ⟨A.n + 1, A.n + 6, A.n + 1, A.n + 4, A.n + 5, A.n + 3, hf⟩ := ⟨_, rfl⟩
  rw [← hb] at x9
  have hA3' := hA3.symm
  have hO : b.Ok := by rw [hb]; exact ⟨by simp, by simp, by simp, by simp, by simp, by simp, by simp, by simp, by simp⟩
  simp only [f276, rowS1, bef275] at hA3'
  have n83 : A2.n = A.n + 4 := by omega
  simp (disch := as_aux_lemma => first | omega | simp only [hDs] <;> omega | simp [isCell]) [hRs, takeMarks, resA, resAll, resOne, Value.cells, n1, rowS1, storeB_cells, set_push_eq, setRange_all, setRange, fillA, n83, hA3']
  obtain ⟨bN0, bN, b5, b7, b8, bO, bf⟩ : b.N0 = A.n + 1 ∧ b.N = A.n + 6 ∧ b.X5 = A.n + 1 ∧ b.X7 = A.n + 4 ∧ b.X8 = A.n + 5 ∧ b.OB = A.n + 3 ∧ b.hf = hf := by rw [hb]; exact ⟨rfl, rfl, rfl, rfl, rfl, rfl, rfl⟩
  have hP := hL.ok
  have hm := hL.m
  have e23 := e2.trans e3
  have hh' : HtOk g P A0 b.N0 b.hf := fun B d V h1 h2 h3 h4 => by
    rw [bf]
    refine hh B d V (fun y hy => ?_) (by omega) h3 h4
    rw [h1 y (by omega), e0.2 y hy]
  have sl0 : SL b P A0 A3 (List.replicate P.m noneV) [] := by
    refine ⟨fun y hy => ?_, ?_, ?_, ?_, ⟨⟨.slice none 0 0, by rw [b8]; exact x8, ⟨.inl ⟨rfl, rfl⟩⟩⟩, by omega⟩, by omega⟩
    · rw [(e1.trans e23).2 y (by omega)]
    · rw [b5, bf]; exact e23.get x5
    · rw [b7, bO, hm]; exact x7
    · rw [bO, hm]; exact e3.get ob2
  have G0 : GoR b P A0 (2 * potS (List.replicate P.m noneV)) [] [(A.n + 6, .cells [f276 b] false)] none A3 := by
    refine ⟨⟨_, [], sl0, SMid.start, by simp⟩, fun y hy => ?_⟩
    rw [List.mem_singleton] at hy
    subst hy
    refine ⟨x9, by simp only; omega, fun hB => ?_⟩
    obtain ⟨sv, q1, q2⟩ := hB
    rw [b8, x8] at q1
    cases q1
    cases q2
  have hder : P.Der 0 (max (P.ht 0) (-1073741824)) := .base (by rw [hL.sea]; simp)
  have hpot : potS (List.replicate P.m noneV) = 17179869184 := by rw [potS_rep, hm]
  have hz3 : A3.get z = some (.cells [.int .i64 0] ro) := (e0.trans (e1.trans e23)).get hz
  have x9' := x9
  unfold f276 at x9'
  rw [W_loop]
  simp (disch := as_aux_lemma => first | omega | simp only [hDs] <;> omega | simp [isCell]) [hRs, takeMarks, resA, resAll, resOne, Value.cells, body269a, show (0 : Int) < 1 by omega, idxSA_ok, hz3, x9']
  refine w276 (d := 0) (over := -1073741824) hO hP hh' sl0 (by simp) (by omega) (by omega) (by omega) (by simp) (by omega) fun v A4 L4 k1 k2 k3 => ?_
  have hlow : (List.replicate P.m noneV).length = P.m := by simp
  have sm : SMid P (lowO P (List.replicate P.m noneV) 0 (-1073741824)) L4 none [0] := (SMid.start.reach hP (by omega) hder k2).seaOne (lowO_at (by omega))
  have hK : 2 * potS (lowO P (List.replicate P.m noneV) 0 (-1073741824)) + L4.length ≤ 2 * potS (List.replicate P.m noneV) := by
    by_cases hlt : max (P.ht 0) (-1073741824) < gi (List.replicate P.m noneV) 0
    · have := potS_low (P := P) (o := List.replicate P.m noneV) (d := 0) (over := -1073741824) (by omega) (by omega) hlt
      unfold ReachL at k2
      rw [if_pos hlt] at k2
      simp at k2
      omega
    · unfold ReachL at k2
      rw [if_neg hlt] at k2
      unfold lowO
      rw [if_neg hlt, k2]
      simp
  have G4 : GoR b P A0 (2 * potS (List.replicate P.m noneV)) [0] (fD [] [(A.n + 6, .cells [f276 b] false)]) none A4 := ⟨⟨_, L4, k1, sm, hK⟩, fun y hy => (G0.F y hy).up hO k3⟩
  simp (disch := as_aux_lemma => first | omega | simp only [hDs] <;> omega | simp [isCell]) [hRs, takeMarks, resA, resAll, resOne, Value.cells]
  rw [W_loop]
  simp (disch := as_aux_lemma => first | omega | simp only [hDs] <;> omega | simp [isCell]) [hRs, takeMarks, resA, resAll, resOne, Value.cells, body269a, show wr .i64 (1 : Int) = 1 from rfl]
  refine loop269b (b := b) (P := P) (A0 := A0) (q := [0]) (w := w) (h := h) (s := s) (sl := sl) (X9 := A.n + 6) (X3 := A.n) hO hP hh' (by omega) (by omega) hL.wr hL.hr (by rw [hm, hL.wh]; rfl) hL.nb x3 (by omega) (fun T5 A5 D5 K5 hG hD hE t7 => ?_) _ (by omega) G4 List.nodup_nil ?_ ?_ ?_ ?_
  · obtain ⟨o, s1, s2⟩ := hE
    have hmk : ∀ x, x ∈ D5 → SafeB b A5 x .marks := fun x hx => hG.F (x, .marks) (by unfold fD; simp [hx])
    obtain ⟨A6, m1, m2, m3⟩ := takeMarks_all D5 A5 hD fun x hx => (hmk x hx).at_
    have hlo : ∀ y, y < b.N → y ∉ D5 := fun y hy hm => by have := (hmk y hm).lo; omega
    have s7 := s1.x7
    unfold rowS1 at s7
    rw [hm] at s7
    simp (disch := as_aux_lemma => first | omega | simp only [hDs] <;> omega | simp [isCell]) [hRs, takeMarks, resA, resAll, resOne, Value.cells, t7, s7, m1]
    refine hV A6 o b.OB ?_ ⟨?_, fun y hy => ?_⟩ (by omega) ?_
    · rw [← hL.sea] at s2
      exact s2.fin
    · have := s1.nn; omega
    · rw [m3 y (hlo y (by omega)), s1.low y (by omega), e0.2 y hy]
    · rw [m3 _ (hlo _ (by omega))]; exact s1.ob
  all_goals simp [b7, b8]
end
end Go.Ab.Dike
