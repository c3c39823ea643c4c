/- Tighten's sink: the neighbors of a cell, and the heap till it is empty. -/
import Derived.Test.YtmppgcknmmmioaaGreatDoorZ14
import Derived.Test.YtmppgcknmmmioaaGreatDoorZ13
set_option linter.unusedSimpArgs false
set_option linter.unusedVariables false
set_option linter.unusedSectionVars false
set_option maxRecDepth 100000
namespace Go.Ab.Grid
open Go Go.Ab
def bef330 : Value := .func (.func 330) ⟨[]⟩ ⟨[]⟩
structure HpAT (N XH : Nat) (A : Hp) (L : List (Int × Int)) : Prop where
  e : ∃ sv, A.get XH = some (.cells [sv, bef330] false) ∧ HpS N A sv L
  lt : XH < N
def HeBT (A : Hp) (XH z : Nat) : Prop := ∃ sv, A.get XH = some (.cells [sv, bef330] false) ∧ blkOf sv = some z
structure HUpT (XH : Nat) (A A' : Hp) : Prop where
  n : A.n ≤ A'.n
  o : ∀ z, z < A.n → z ≠ XH → ¬ HeBT A XH z → A'.get z = A.get z
  b : ∀ z, z < A.n → HeBT A' XH z → HeBT A XH z
theorem HUpT.refl (XH : Nat) (A : Hp) : HUpT XH A A := ⟨Nat.le_refl _, fun _ _ _ _ => rfl, fun _ _ h => h⟩
theorem HUpT.trans {XH : Nat} {A A' A'' : Hp} (h : HUpT XH A A') (h' : HUpT XH A' A'') : HUpT XH A A'' :=
  ⟨Nat.le_trans h.n h'.n, fun z hz hx hb => (h'.o z (Nat.lt_of_lt_of_le hz h.n) hx fun hb' => hb (h.b z hz hb')).trans (h.o z hz hx hb), fun z hz hb => h.b z hz (h'.b z (Nat.lt_of_lt_of_le hz h.n) hb)⟩
theorem HUpT.of {XH : Nat} {A A' : Hp} (h : Ext' A A') (hX : XH < A.n) : HUpT XH A A' :=
  ⟨h.1, fun z hz _ _ => h.2 z hz, fun z _ hb => by
    obtain ⟨sv, h1, h2⟩ := hb
    exact ⟨sv, by rw [← h.2 XH hX]; exact h1, h2⟩⟩
theorem HUpT.same {XH b : Nat} {A A' : Hp} {sv sv' : Value} (hn : A.n ≤ A'.n) (hX : A.get XH = some (.cells [sv, bef330] false)) (hX' : A'.get XH = some (.cells [sv', bef330] false)) (hb : blkOf sv = some b) (hb' : blkOf sv' = some b) (ho : ∀ z, z < A.n → z ≠ XH → z ≠ b → A'.get z = A.get z) : HUpT XH A A' := by
  refine ⟨hn, fun z hz hx hnb => ho z hz hx fun h => hnb ⟨sv, hX, by rw [h]; exact hb⟩, fun z hz hB => ?_⟩
  obtain ⟨sv2, h1, h2⟩ := hB
  rw [hX'] at h1
  cases h1
  exact ⟨sv, hX, by rw [hb, ← h2, hb']⟩
theorem HUpT.new {XH Y : Nat} {A A' A'' : Hp} (h : HUpT XH A A') (hY : A.n ≤ Y) (hX : Y ≠ XH) (hn : A'.n ≤ A''.n) (ho : ∀ z, z ≠ Y → A''.get z = A'.get z) : HUpT XH A A'' :=
  ⟨Nat.le_trans h.n hn, fun z hz hx hb => (ho z (by omega)).trans (h.o z hz hx hb), fun z hz hB => by
    obtain ⟨sv, h1, h2⟩ := hB
    exact h.b z hz ⟨sv, by rw [← ho XH (Ne.symm hX)]; exact h1, h2⟩⟩
theorem HpAT.ext {N XH : Nat} {A A' : Hp} {L : List (Int × Int)} (h : HpAT N XH A L) (he : Ext' A A') : HpAT N XH A' L := by
  obtain ⟨sv, h1, h2⟩ := h.e
  exact ⟨⟨sv, he.get h1, h2.keep fun b hb => he.2 b (h2.blk hb).2⟩, h.lt⟩
section
variable {g : Nat} {rd : Option Nat} {T : List Value} {D : List Nat} {A : Hp} {Q : Ex → St → Prop} {V : Value → Hp → Prop}
theorem w330 {a b c d : Int} (hg : g ≤ A.n) (hV : ∀ A', Ext' A A' → V (.bool (decide (b < d))) A') : WF AP KL g 330 [.agg ⟨[.int .i64 a, .int .i64 b]⟩, .agg ⟨[.int .i64 c, .int .i64 d]⟩] A V := by
  rw [WF_body (show KL 330 = none from rfl) (show AP 330 = some F330 from rfl)]
  simp (disch := as_aux_lemma => first | omega | simp only [hDs] <;> omega | simp [isCell]) [hRs, takeMarks, resA, resAll, resOne, Value.cells, F330]
  exact hV _ ((Ext'.push A _).trans (Ext'.push _ _))
theorem loop277T {N XH : Nat} {A0 : Hp} {L0 : List (Int × Int)} (hg : g ≤ XH) (hXN : XH < N) (hlen : L0.length < 1000000000000) (hQ : ∀ T' A' L, L.length = L0.length → (∀ x, x ∈ L ↔ x ∈ L0) → HpAT N XH A' L → HUpT XH A0 A' → Q (.exit 0) ⟨T', D, A'⟩) :
    ∀ (m i : Nat) {T : List Value} {A : Hp} (L : List (Int × Int)), i ≤ m → i < L0.length → L.length = L0.length → (∀ x, x ∈ L ↔ x ∈ L0) → HpAT N XH A L → HUpT XH A0 A → N ≤ A.n → tget T 0 = .pointer (some ⟨XH, 0, none⟩) → tget T 4 = .int .i64 i → W AP KL g rd (.loop body277) ⟨T, D, A⟩ Q := by
  intro m
  induction m with
  | zero =>
    intro i T A L him hi hl hmem hH hU hN t0 t4
    have : i = 0 := by omega
    subst this
    rw [W_loop]
    simp (disch := as_aux_lemma => first | omega | simp only [hDs] <;> omega | simp [isCell]) [hRs, takeMarks, resA, resAll, resOne, Value.cells, body277, t4]
    exact hQ _ _ L hl hmem hH hU
  | succ m ih =>
    intro i T A L him hi hl hmem hH hU hN t0 t4
    by_cases h0 : i = 0
    · subst h0
      rw [W_loop]
      simp (disch := as_aux_lemma => first | omega | simp only [hDs] <;> omega | simp [isCell]) [hRs, takeMarks, resA, resAll, resOne, Value.cells, body277, t4]
      exact hQ _ _ L hl hmem hH hU
    obtain ⟨sv, hX, hS⟩ := hH.e
    obtain ⟨b, c, cs, rfl, hb, hc, hlc, hNb, hat⟩ := hS.row (by omega)
    obtain ⟨n, hn⟩ : ∃ n, n = L.length := ⟨_, rfl⟩
    have hiL : i < L.length := by omega
    have hpL : (i - 1) / 2 < L.length := by omega
    obtain ⟨k, hk⟩ : ∃ k, k = (i - 1) / 2 := ⟨_, rfl⟩
    rw [← hk] at hpL
    have hbn := Hp.lt_of_get hb
    have e1 := wrId (n := (i : Int) - 1) (by omega) (by omega)
    have e2 : ((i : Int) - 1).tdiv 2 = (k : Int) := by rw [show (i : Int) - 1 = ((i - 1 : Nat) : Int) by omega, hk]; rfl
    have e3 := wrId (n := (k : Int)) (by omega) (by omega)
    have ri := row_part (hat i hiL).1 (hat i hiL).2
    have rk := row_part (hat k hpL).1 (hat k hpL).2
    obtain ⟨xi, hxi⟩ : ∃ xi, xi = L.getD i (0, 0) := ⟨_, rfl⟩
    obtain ⟨xk, hxk⟩ : ∃ xk, xk = L.getD k (0, 0) := ⟨_, rfl⟩
    have hrows := two_rows hc hlc hiL hpL hat
    rw [← hxi] at ri
    rw [← hxk] at rk
    rw [← hxi, ← hxk] at hrows
    rw [← hn] at hX
    have hX' := hX
    unfold bef330 at hX'
    have hin : (i : Int) < n := by omega
    have hkn : (k : Int) < n := by omega
    have hk0 : (0 : Int) ≤ k := by omega
    rw [W_loop]
    simp (disch := as_aux_lemma => first | omega | simp only [hDs] <;> omega | simp [isCell]) [hRs, takeMarks, resA, resAll, resOne, Value.cells, body277, t0, t4, show (0 : Int) < i by omega, show 0 < i by omega, h0, hX', hin, hkn, idxSA_ok, hb, ri, e1, binA_quo, e2, e3, rk]
    refine w330 (by omega) fun A1 e11 => ?_
    have n1 := e11.1
    have hX1 := e11.get hX'
    have hb1 := e11.get hb
    have hH1 := hH.ext e11
    have hU1 := hU.trans (HUpT.of (XH := XH) e11 (by omega))
    by_cases hlt : xi.2 < xk.2
    · have l1 : (setRange cs (i * 2) [Value.int .i64 xk.1, .int .i64 xk.2]).length = cs.length := setRange_length (by simp; omega)
      have st1 : storeB (some (.cells cs false)) g A1 b (i * 2) [.int .i64 xk.1, .int .i64 xk.2] 2 = some (undef, A1.set b (some (.cells (setRange cs (i * 2) [.int .i64 xk.1, .int .i64 xk.2]) false))) := storeB_cells rfl (by omega) (by omega) rfl
      obtain ⟨A2, hA2⟩ : ∃ A2, A2 = A1.set b (some (.cells (setRange cs (i * 2) [.int .i64 xk.1, .int .i64 xk.2]) false)) := ⟨_, rfl⟩
      rw [← hA2] at st1
      have hA2n : A2.n = A1.n := by rw [hA2]; rfl
      have hb2 : A2.get b = some (.cells (setRange cs (i * 2) [.int .i64 xk.1, .int .i64 xk.2]) false) := by rw [hA2]; exact get_set_same hb1
      have o2 : ∀ z, z ≠ b → A2.get z = A1.get z := fun z hz => by rw [hA2]; exact get_set_ne (by omega) hz
      have hX2 := (o2 XH (by omega)).trans hX1
      have st2 : storeB (some (.cells (setRange cs (i * 2) [.int .i64 xk.1, .int .i64 xk.2]) false)) g A2 b (k * 2) [.int .i64 xi.1, .int .i64 xi.2] 2 = some (undef, A2.set b (some (.cells (setRange (setRange cs (i * 2) [.int .i64 xk.1, .int .i64 xk.2]) (k * 2) [.int .i64 xi.1, .int .i64 xi.2]) false))) := storeB_cells rfl (by omega) (by omega) rfl
      have o3 : ∀ (b' : Option ABlk) z, z ≠ b → (A2.set b b').get z = A1.get z := fun b' z hz => by rw [get_set_ne (by omega) hz, o2 z hz]
      simp (disch := as_aux_lemma => first | omega | simp only [hDs] <;> omega | simp [isCell]) [hRs, takeMarks, resA, resAll, resOne, Value.cells, t0, t4, hlt, hX1, hin, hkn, idxSA_ok, hb1, ri, e1, binA_quo, e2, e3, rk, st1, hX2, hb2, st2]
      refine ih k (swp L i k) (by omega) (by omega) (by rw [swp_length]; exact hl) (fun x => (swp_mem hiL hpL).trans (hmem x)) ⟨⟨.slice (some ⟨b, 0, some 2⟩) n c, ?_, ⟨.inr ⟨b, c, _, by rw [swp_length, ← hn], get_set_same hb2, ?_, by rw [swp_length]; exact hlc, hNb, hrows⟩⟩⟩, hXN⟩ (hU1.trans (HUpT.same (b := b) (by simp; omega) hX1 ((o3 _ _ (by omega)).trans hX1) rfl rfl fun z _ _ hzb => o3 _ z hzb)) (by simp; omega) (by simp [t0]) (by simp [e3, e1, e2])
      · rw [o3 _ _ (by omega)]; exact hX1
      · exact (setRange_length (by simp; omega)).trans (l1.trans hc)
    · simp (disch := as_aux_lemma => first | omega | simp only [hDs] <;> omega | simp [isCell]) [hRs, takeMarks, resA, resAll, resOne, Value.cells, hlt]
      exact hQ _ _ L hl hmem hH1 hU1
theorem w277T {N XH : Nat} {L : List (Int × Int)} {x y : Int} (hH : HpAT N XH A L) (hN : N ≤ A.n) (hg : g ≤ XH) (hlen : L.length + 1 < 1000000000000)
    (hV : ∀ v A' L', L'.length = L.length + 1 → (∀ z, z ∈ L' ↔ z ∈ L ∨ z = (x, y)) → HpAT N XH A' L' → HUpT XH A A' → V v A') : WF AP KL g 277 [.pointer (some ⟨XH, 0, none⟩), .agg ⟨[.int .i64 x, .int .i64 y]⟩] A V := by
  rw [WF_body (show KL 277 = none from rfl) (show AP 277 = some F277 from rfl)]
  obtain ⟨sv, hX, hS⟩ := hH.e
  have hXN := hH.lt
  obtain ⟨B, hB⟩ : ∃ B, B = A.push (.cells [.int .i64 x, .int .i64 y] false) := ⟨_, rfl⟩
  have hBn : B.n = A.n + 1 := by rw [hB]; rfl
  have eB : Ext' A B := by rw [hB]; exact Ext'.push A _
  have h3 : B.get A.n = some (.cells [.int .i64 x, .int .i64 y] false) := by rw [hB, get_push_new]
  have hXB := eB.get hX
  have hSB : HpS N B sv L := hS.keep fun b hb => eB.2 b (hS.blk hb).2
  obtain ⟨sv', A1, ha, hS', ho, hn1, hbk⟩ := hSB.add (g := g) (x := x) (y := y) (ro := false) (by omega) (by omega) (by omega)
  have hsl := hS.len
  have hX1 := (ho XH (by omega) (fun h => by have := (hSB.blk h).1; omega)).trans hXB
  obtain ⟨p', q', r', rfl⟩ : ∃ p q r, sv' = .slice p q r := by
    rcases hS'.e with ⟨rfl, _⟩ | ⟨_, _, _, rfl, _⟩
    · exact ⟨_, _, _, rfl⟩
    · exact ⟨_, _, _, rfl⟩
  unfold bef330 at hXB hX1
  simp (disch := as_aux_lemma => first | omega | simp only [hDs] <;> omega | simp [isCell]) [hRs, takeMarks, resA, resAll, resOne, Value.cells, F277, ← hB, hXB, hsl, h3, slitA, fillA, setRange, ha, hX1, storeB_cells]
  obtain ⟨A2, hA2⟩ : ∃ A2, A2 = A1.set XH (some (.cells [.slice p' q' r', bef330] false)) := ⟨_, rfl⟩
  have hA2' := hA2.symm
  unfold bef330 at hA2'
  rw [hA2']
  have hA2n : A2.n = A1.n := by rw [hA2]; rfl
  have o2 : ∀ z, z ≠ XH → A2.get z = A1.get z := fun z hz => by rw [hA2]; exact get_set_ne (Hp.lt_of_get hX1) hz
  have hH2 : HpAT N XH A2 (L ++ [(x, y)]) := ⟨⟨.slice p' q' r', by rw [hA2]; exact get_set_same hX1, hS'.keep fun b hb => o2 b (by have := (hS'.blk hb).1; omega)⟩, hXN⟩
  have hU2 : HUpT XH A A2 := by
    refine ⟨by omega, fun z hz hx hnb => ?_, fun z hz hB => ?_⟩
    · rw [o2 z hx, ho z (by omega) (fun h => hnb ⟨sv, hX, h⟩), eB.2 z hz]
    · obtain ⟨sv2, h1, h2⟩ := hB
      have hx2 : A2.get XH = some (.cells [.slice p' q' r', bef330] false) := by rw [hA2]; exact get_set_same hX1
      rw [hx2] at h1
      cases h1
      exact ⟨sv, hX, hbk z (by omega) h2⟩
  refine loop277T (N := N) (XH := XH) (A0 := A) (L0 := L ++ [(x, y)]) hg hXN (by simp; omega) ?_ L.length L.length (L ++ [(x, y)]) (Nat.le_refl _) (by simp) rfl (fun _ => Iff.rfl) hH2 hU2 (by omega) (by simp) (by simp)
  intro T' A' L' hl hm hH' hU'
  simp (disch := as_aux_lemma => first | omega | simp only [hDs] <;> omega | simp [isCell]) [hRs, takeMarks, resA, resAll, resOne, Value.cells]
  refine hV _ A' L' (by rw [hl]; simp) (fun z => ?_) hH' hU'
  rw [hm z]; simp
end
section
variable {g : Nat} {rd : Option Nat} {T : List Value} {D : List Nat} {A : Hp} {Q : Ex → St → Prop} {V : Value → Hp → Prop}
theorem loop278cT {N XH Y i last : Nat} {A0 : Hp} {L : List (Int × Int)} (hH : HpAT N XH A0 L) (hlast : L.length = last) (hll : last < 1000000000000) (hi : i = 0 ∨ i < last) {c1 c2 : Int} (hc1 : c1 = ((2 * i + 1 : Nat) : Int)) (hc2 : c2 = ((2 * i + 2 : Nat) : Int)) (hY : A0.get Y = some (.cells [.int .i64 c1, .int .i64 c2] false)) (hg : g ≤ A0.n)
    (hQ : ∀ T' A' (k : Nat), KeepT [0, 2, 3, 4, 5] T T' → tget T' 6 = .int .i64 k → (k = i ∨ (i < k ∧ k < last)) → Ext' A0 A' → Q (.exit 2) ⟨T', D, A'⟩) (t0 : tget T 0 = .pointer (some ⟨XH, 0, none⟩)) (t4 : tget T 4 = .int .i64 last) :
    ∀ (r j : Nat) {T1 : List Value} {A : Hp} (k : Nat), j + r = 2 → KeepT [0, 2, 3, 4, 5] T T1 → (k = i ∨ (i < k ∧ k < last)) → tget T1 6 = .int .i64 k → tget T1 49 = .slice (some ⟨Y, 0, some 1⟩) 2 2 → tget T1 50 = .int .i64 2 → tget T1 51 = .int .i64 j → Ext' A0 A → W AP KL g rd (.loop body278c) ⟨T1, D, A⟩ Q := by
  intro r
  induction r with
  | zero =>
    intro j T1 A k hjr hk hkk t6 t49 t50 t51 he
    have : j = 2 := by omega
    subst this
    rw [W_loop]
    simp (disch := as_aux_lemma => first | omega | simp only [hDs] <;> omega | simp [isCell]) [hRs, takeMarks, resA, resAll, resOne, Value.cells, body278c, t50, t51]
    exact hQ _ _ k (hk.trans (by simp)) (by simp [t6]) hkk he
  | succ r ih =>
    intro j T1 A k hjr hk hkk t6 t49 t50 t51 he
    have u0 := (hk.at 0 rfl).trans t0
    have u4 := (hk.at 4 rfl).trans t4
    have hYA := he.get hY
    have hA0 := he.1
    have e1 := wrId (n := (j : Int) + 1) (by omega) (by omega)
    obtain ⟨c, hc, hci⟩ : ∃ c : Nat, cellAt [Value.int .i64 c1, .int .i64 c2] j = some (.int .i64 (c : Int)) ∧ i < c := by
      have : j = 0 ∨ j = 1 := by omega
      rcases this with rfl | rfl
      · exact ⟨2 * i + 1, by rw [hc1]; rfl, by omega⟩
      · exact ⟨2 * i + 2, by rw [hc2]; rfl, by omega⟩
    rw [W_loop]
    by_cases hcl : c < last
    · obtain ⟨sv, hX, hS⟩ := hH.e
      obtain ⟨b, cp, cs, rfl, hb, hcs, hlc, hNb, hat⟩ := hS.row (by omega)
      have hXA := he.get hX
      have hbA := he.get hb
      unfold bef330 at hXA
      rw [hlast] at hXA
      have hkl : k < last := by omega
      have rc := row_part (hat c (by omega)).1 (hat c (by omega)).2
      have rk := row_part (hat k (by omega)).1 (hat k (by omega)).2
      obtain ⟨xc, hxc⟩ : ∃ xc, xc = L.getD c (0, 0) := ⟨_, rfl⟩
      obtain ⟨xk, hxk⟩ : ∃ xk, xk = L.getD k (0, 0) := ⟨_, rfl⟩
      rw [← hxc] at rc
      rw [← hxk] at rk
      have hcI : (c : Int) < last := by omega
      have hkI : (k : Int) < last := by omega
      simp (disch := as_aux_lemma => first | omega | simp only [hDs] <;> omega | simp [isCell]) [hRs, takeMarks, resA, resAll, resOne, Value.cells, body278c, t49, t50, t51, show ((j : Int) < 2) by omega, idxSA_ok, hYA, hc, u4, hcI, hcl, u0, hXA, hbA, rc, t6, hkI, rk]
      refine w330 (by omega) fun A1 e11 => ?_
      by_cases hlt : xc.2 < xk.2
      · simp (disch := as_aux_lemma => first | omega | simp only [hDs] <;> omega | simp [isCell]) [hRs, takeMarks, resA, resAll, resOne, Value.cells, hlt, t51]
        exact ih (j + 1) c (by omega) (hk.trans (by simp)) (.inr ⟨hci, hcl⟩) (by simp) (by simp [t49]) (by simp [t50]) (by simp [e1]) (he.trans e11)
      · simp (disch := as_aux_lemma => first | omega | simp only [hDs] <;> omega | simp [isCell]) [hRs, takeMarks, resA, resAll, resOne, Value.cells, hlt, t51]
        exact ih (j + 1) k (by omega) (hk.trans (by simp)) hkk (by simp [t6]) (by simp [t49]) (by simp [t50]) (by simp [e1]) (he.trans e11)
    · simp (disch := as_aux_lemma => first | omega | simp only [hDs] <;> omega | simp [isCell]) [hRs, takeMarks, resA, resAll, resOne, Value.cells, body278c, t49, t50, t51, show ((j : Int) < 2) by omega, idxSA_ok, hYA, hc, u4, hcl]
      exact ih (j + 1) k (by omega) (hk.trans (by simp)) hkk (by simp [t6]) (by simp [t49]) (by simp [t50]) (by simp [e1, t51]) he
theorem loop278T {N XH X2 X3 last : Nat} {A0 : Hp} {L0 : List (Int × Int)} {x : Int × Int} (hg : g ≤ XH) (hXN : XH < N) (hlast : L0.length = last) (hll : last < 1000000000000) (h23 : X2 ≠ X3) (hX2 : A0.n ≤ X2) (hX3 : A0.n ≤ X3) (hN0 : N ≤ A0.n)
    (hQ : ∀ T' A' L, L.length = last → (∀ y, y ∈ L ↔ y ∈ L0) → HpAT N XH A' L → HUpT XH A0 A' → A'.get X2 = some (.cells [.int .i64 x.1, .int .i64 x.2] false) → tget T' 2 = .pointer (some ⟨X2, 0, none⟩) → Q .ret ⟨T', D, A'⟩) :
    ∀ (m i : Nat) {T : List Value} {A : Hp} (L : List (Int × Int)), last ≤ i + m → (i = 0 ∨ i < last) → L.length = last → (∀ y, y ∈ L ↔ y ∈ L0) → HpAT N XH A L → (∀ sv b, A.get XH = some (.cells [sv, bef330] false) → blkOf sv = some b → b ≠ X2 ∧ b ≠ X3) → HUpT XH A0 A → N ≤ A.n → A.get X2 = some (.cells [.int .i64 0, .int .i64 0] false) → A.get X3 = some (.cells [.int .i64 x.1, .int .i64 x.2] false) →
      tget T 0 = .pointer (some ⟨XH, 0, none⟩) → tget T 2 = .pointer (some ⟨X2, 0, none⟩) → tget T 3 = .pointer (some ⟨X3, 0, none⟩) → tget T 4 = .int .i64 last → tget T 5 = .int .i64 i → W AP KL g rd (.loop body278) ⟨T, D, A⟩ Q := by
  intro m
  induction m with
  | zero =>
    intro i T A L him hi hl hmem hH hap hU hN hA2 hA3 t0 t2 t3 t4 t5
    have hi0 : i = 0 ∧ last = 0 := by omega
    obtain ⟨rfl, rfl⟩ := hi0
    obtain ⟨B, hB⟩ : ∃ B, B = A.push (.cells [.int .i64 1, .int .i64 2] false) := ⟨_, rfl⟩
    have hBn : B.n = A.n + 1 := by rw [hB]; rfl
    have eB : Ext' A B := by rw [hB]; exact Ext'.push A _
    have hY : B.get A.n = some (.cells [.int .i64 1, .int .i64 2] false) := by rw [hB, get_push_new]
    have z2 : zeros 2 [Value.int .i64 0] = [.int .i64 0, .int .i64 0] := rfl
    have w1 : wr .i64 (2 * ((0 : Nat) : Int)) = 0 := rfl
    have w2 : wr .i64 (0 + 1) = 1 := rfl
    have w3 : wr .i64 (0 + 2) = 2 := rfl
    have w4 : wr .i64 (2 * 0) = 0 := rfl
    have w5 : wr .i64 1 = 1 := rfl
    have w6 : wr .i64 2 = 2 := rfl
    have w7 : wr .i64 0 = 0 := rfl
    have eH := hH.ext eB
    rw [W_loop]
    simp (disch := as_aux_lemma => first | omega | simp only [hDs] <;> omega | simp [isCell]) [hRs, takeMarks, resA, resAll, resOne, Value.cells, body278, t5, w1, w2, w3, w4, w5, w6, w7, z2, slitA, fillA, setRange, ← hB]
    refine loop278cT (N := N) (XH := XH) (Y := A.n) (i := 0) (last := 0) (L := L) eH hl (by omega) (.inl rfl) (c1 := 1) (c2 := 2) rfl rfl hY (by omega) ?_ (T := _) ?_ ?_ 2 0 0 (by omega) (fun _ _ => rfl) (.inl rfl) (by simp) (by simp) (by simp) (by simp) (Ext'.refl _)
    · intro T2 A2' k k2 t6 hk e2
      have hk0 : k = 0 := by omega
      subst hk0
      have v2 := k2.at 2 rfl
      have v3 := k2.at 3 rfl
      have v5 := k2.at 5 rfl
      simp [t2, t3, t5] at v2 v3 v5
      have g2 := (eB.trans e2).get hA2
      have g3 := (eB.trans e2).get hA3
      have hne : ∀ (b' : Option ABlk) z, z ≠ X2 → (A2'.set X2 b').get z = A2'.get z := fun b' z hz => get_set_ne (Hp.lt_of_get g2) hz
      have hHe := hH.ext (eB.trans e2)
      obtain ⟨sv, s1, s2⟩ := hHe.e
      simp (disch := as_aux_lemma => first | omega | simp only [hDs] <;> omega | simp [isCell]) [hRs, takeMarks, resA, resAll, resOne, Value.cells, t6, v2, v3, v5, g2, g3, storeB_cells, setRange]
      refine hQ _ _ L hl hmem ⟨⟨sv, by rw [hne _ _ (by omega)]; exact s1, s2.keep fun b hb => hne _ b ?_⟩, hXN⟩ ((hU.trans (HUpT.of (eB.trans e2) (by omega))).new (Y := X2) (by omega) (by omega) (by simp) fun z hz => hne _ z hz) (get_set_same g2) (by simp [v2])
      have hx := hH.e
      obtain ⟨sv0, q1, q2⟩ := hx
      have : A2'.get XH = A.get XH := (eB.trans e2).2 XH (Hp.lt_of_get q1)
      rw [this, q1] at s1
      cases s1
      exact (hap _ b q1 hb).1
    · simp [t0]
    · simp [t4]
  | succ m ih =>
    intro i T A L him hi hl hmem hH hap hU hN hA2 hA3 t0 t2 t3 t4 t5
    obtain ⟨c1, hc1⟩ : ∃ c1 : Int, c1 = ((2 * i + 1 : Nat) : Int) := ⟨_, rfl⟩
    obtain ⟨c2, hc2⟩ : ∃ c2 : Int, c2 = ((2 * i + 2 : Nat) : Int) := ⟨_, rfl⟩
    obtain ⟨B, hB⟩ : ∃ B, B = A.push (.cells [.int .i64 c1, .int .i64 c2] false) := ⟨_, rfl⟩
    have hBn : B.n = A.n + 1 := by rw [hB]; rfl
    have eB : Ext' A B := by rw [hB]; exact Ext'.push A _
    have hY : B.get A.n = some (.cells [.int .i64 c1, .int .i64 c2] false) := by rw [hB, get_push_new]
    have z2 : zeros 2 [Value.int .i64 0] = [.int .i64 0, .int .i64 0] := rfl
    have w1 : wr .i64 (2 * (i : Int)) = 2 * (i : Int) := wrId (by omega) (by omega)
    have w2 : wr .i64 (2 * (i : Int) + 1) = ((2 * i + 1 : Nat) : Int) := by rw [wrId (by omega) (by omega)]; omega
    have w3 : wr .i64 (2 * (i : Int) + 2) = ((2 * i + 2 : Nat) : Int) := by rw [wrId (by omega) (by omega)]; omega
    have eH := hH.ext eB
    rw [← hc1] at w2
    rw [← hc2] at w3
    rw [W_loop]
    simp (disch := as_aux_lemma => first | omega | simp only [hDs] <;> omega | simp [isCell]) [hRs, takeMarks, resA, resAll, resOne, Value.cells, body278, t5, w1, w2, w3, z2, slitA, fillA, setRange, ← hB]
    refine loop278cT (N := N) (XH := XH) (Y := A.n) (i := i) (last := last) (L := L) eH hl hll hi hc1 hc2 hY (by omega) ?_ (T := _) ?_ ?_ 2 0 i (by omega) (fun _ _ => rfl) (.inl rfl) (by simp) (by simp) (by simp) (by simp) (Ext'.refl _)
    · intro T2 A2' k k2 t6 hk e2
      have v0 := k2.at 0 rfl
      have v2 := k2.at 2 rfl
      have v3 := k2.at 3 rfl
      have v4 := k2.at 4 rfl
      have v5 := k2.at 5 rfl
      simp [t0, t2, t3, t4, t5] at v0 v2 v3 v4 v5
      have eBB := eB.trans e2
      have nB := eBB.1
      have g2 := eBB.get hA2
      have g3 := eBB.get hA3
      have hHe := hH.ext eBB
      obtain ⟨sv, s1, s2⟩ := hHe.e
      have hsv : A.get XH = some (.cells [sv, bef330] false) := by
        obtain ⟨sv0, q1, q2⟩ := hH.e
        rw [eBB.2 XH (Hp.lt_of_get q1)] at s1
        exact s1
      by_cases hki : k = i
      · subst hki
        have hne : ∀ (b' : Option ABlk) z, z ≠ X2 → (A2'.set X2 b').get z = A2'.get z := fun b' z hz => get_set_ne (Hp.lt_of_get g2) hz
        simp (disch := as_aux_lemma => first | omega | simp only [hDs] <;> omega | simp [isCell]) [hRs, takeMarks, resA, resAll, resOne, Value.cells, t6, v2, v3, v5, g2, g3, storeB_cells, setRange]
        exact hQ _ _ L hl hmem ⟨⟨sv, by rw [hne _ _ (by omega)]; exact s1, s2.keep fun b hb => hne _ b (hap _ b hsv hb).1⟩, hXN⟩ ((hU.trans (HUpT.of eBB (by omega))).new (Y := X2) (by omega) (by omega) (by simp) fun z hz => hne _ z hz) (get_set_same g2) (by simp [v2])
      · obtain ⟨hik, hkl⟩ : i < k ∧ k < last := by omega
        obtain ⟨b, cp, cs, rfl, hb, hcs, hlc, hNb, hat⟩ := s2.row (by omega)
        obtain ⟨hbX2, hbX3⟩ := hap _ b hsv rfl
        have hbn := Hp.lt_of_get hb
        have hiL : i < L.length := by omega
        have hkL : k < L.length := by omega
        have ri := row_part (hat i hiL).1 (hat i hiL).2
        have rk := row_part (hat k hkL).1 (hat k hkL).2
        have hrows := two_rows hcs hlc hiL hkL hat
        obtain ⟨xi, hxi⟩ : ∃ xi, xi = L.getD i (0, 0) := ⟨_, rfl⟩
        obtain ⟨xk, hxk⟩ : ∃ xk, xk = L.getD k (0, 0) := ⟨_, rfl⟩
        rw [← hxi] at ri
        rw [← hxk] at rk
        rw [← hxi, ← hxk] at hrows
        rw [hl] at s1
        have s1' := s1
        unfold bef330 at s1'
        have hiI : (i : Int) < last := by omega
        have hkI : (k : Int) < last := by omega
        have l1 : (setRange cs (i * 2) [Value.int .i64 xk.1, .int .i64 xk.2]).length = cs.length := setRange_length (by simp; omega)
        have st1 : storeB (some (.cells cs false)) g A2' b (i * 2) [.int .i64 xk.1, .int .i64 xk.2] 2 = some (undef, A2'.set b (some (.cells (setRange cs (i * 2) [.int .i64 xk.1, .int .i64 xk.2]) false))) := storeB_cells rfl (by omega) (by omega) rfl
        obtain ⟨A3, hA3'⟩ : ∃ A3, A3 = A2'.set b (some (.cells (setRange cs (i * 2) [.int .i64 xk.1, .int .i64 xk.2]) false)) := ⟨_, rfl⟩
        rw [← hA3'] at st1
        have hA3n : A3.n = A2'.n := by rw [hA3']; rfl
        have hb3 : A3.get b = some (.cells (setRange cs (i * 2) [.int .i64 xk.1, .int .i64 xk.2]) false) := by rw [hA3']; exact get_set_same hb
        have o3 : ∀ z, z ≠ b → A3.get z = A2'.get z := fun z hz => by rw [hA3']; exact get_set_ne (by omega) hz
        have st2 : storeB (some (.cells (setRange cs (i * 2) [.int .i64 xk.1, .int .i64 xk.2]) false)) g A3 b (k * 2) [.int .i64 xi.1, .int .i64 xi.2] 2 = some (undef, A3.set b (some (.cells (setRange (setRange cs (i * 2) [.int .i64 xk.1, .int .i64 xk.2]) (k * 2) [.int .i64 xi.1, .int .i64 xi.2]) false))) := storeB_cells rfl (by omega) (by omega) rfl
        have o4 : ∀ (b' : Option ABlk) z, z ≠ b → (A3.set b b').get z = A2'.get z := fun b' z hz => by rw [get_set_ne (by omega) hz, o3 z hz]
        simp (disch := as_aux_lemma => first | omega | simp only [hDs] <;> omega | simp [isCell]) [hRs, takeMarks, resA, resAll, resOne, Value.cells, t6, v0, v5, hki, show ¬ (k : Int) = i by omega, s1', hiI, hkI, idxSA_ok, hb, ri, rk, st1, hb3, st2]
        refine ih k (swp L i k) (by omega) (.inr hkl) (by rw [swp_length]; exact hl) (fun y => (swp_mem hiL hkL).trans (hmem y)) ⟨⟨.slice (some ⟨b, 0, some 2⟩) last cp, by rw [o4 _ _ (by omega)]; exact s1, ⟨.inr ⟨b, cp, _, by rw [swp_length, hl], get_set_same hb3, (setRange_length (by simp; omega)).trans (l1.trans hcs), by rw [swp_length]; exact hlc, hNb, hrows⟩⟩⟩, hXN⟩ (fun sv' b' h1 h2 => ?_) ((hU.trans (HUpT.of eBB (by omega))).trans (HUpT.same (b := b) (by simp; omega) s1 ((o4 _ _ (by omega)).trans s1) rfl rfl fun z _ _ hzb => o4 _ z hzb)) (by simp; omega) (by rw [o4 _ _ (Ne.symm hbX2)]; exact g2) (by rw [o4 _ _ (Ne.symm hbX3)]; exact g3) (by simp [v0]) (by simp [v2]) (by simp [v3]) (by simp [v4]) (by simp)
        rw [o4 _ _ (by omega), s1] at h1
        cases h1
        cases h2
        exact ⟨hbX2, hbX3⟩
    · simp [t0]
    · simp [t4]
end
section
variable {g : Nat} {rd : Option Nat} {T : List Value} {D : List Nat} {A : Hp} {Q : Ex → St → Prop} {V : Value → Hp → Prop}
theorem w278T {N XH : Nat} {L : List (Int × Int)} (hH : HpAT N XH A L) (hN : N ≤ A.n) (hg : g ≤ XH) (h0 : 0 < L.length) (hlen : L.length < 1000000000000)
    (hV : ∀ A' L' x y, (x, y) ∈ L → L'.length + 1 = L.length → (∀ z, z ∈ L → z = (x, y) ∨ z ∈ L') → (∀ z, z ∈ L' → z ∈ L) → HpAT N XH A' L' → HUpT XH A A' → V (.agg ⟨[.int .i64 x, .int .i64 y]⟩) A') : WF AP KL g 278 [.pointer (some ⟨XH, 0, none⟩)] A V := by
  rw [WF_body (show KL 278 = none from rfl) (show AP 278 = some F278 from rfl)]
  obtain ⟨sv, hX, hS⟩ := hH.e
  have hXN := hH.lt
  obtain ⟨b, c, cs, rfl, hb, hc, hlc, hNb, hat⟩ := hS.row h0
  obtain ⟨n, hn⟩ : ∃ n, n = L.length := ⟨_, rfl⟩
  obtain ⟨last, hl⟩ : ∃ last, n = last + 1 := ⟨n - 1, by omega⟩
  have hbn := Hp.lt_of_get hb
  have r0 := row_part (hat 0 h0).1 (hat 0 h0).2
  have rl := row_part (hat last (by omega)).1 (hat last (by omega)).2
  obtain ⟨x0, hx0⟩ : ∃ x0, x0 = L.getD 0 (0, 0) := ⟨_, rfl⟩
  obtain ⟨xl, hxl⟩ : ∃ xl, xl = L.getD last (0, 0) := ⟨_, rfl⟩
  rw [← hx0] at r0
  rw [← hxl] at rl
  rw [← hn] at hX
  obtain ⟨B, hB⟩ : ∃ B, B = (A.push (.cells [.int .i64 0, .int .i64 0] false)).push (.cells [.int .i64 x0.1, .int .i64 x0.2] false) := ⟨_, rfl⟩
  have hBn : B.n = A.n + 2 := by rw [hB]; rfl
  have eB : Ext' A B := by rw [hB]; exact (Ext'.push A _).trans (Ext'.push _ _)
  have hX2 : B.get A.n = some (.cells [.int .i64 0, .int .i64 0] false) := by rw [hB, get_push_old (by simp), get_push_new]
  have hX3 : B.get (A.n + 1) = some (.cells [.int .i64 x0.1, .int .i64 x0.2] false) := by rw [hB, get_push_eq (by simp)]
  have hXB := eB.get hX
  have hbB := eB.get hb
  have hX' := hX
  unfold bef330 at hX' hXB
  have e1 : wr .i64 ((n : Int) - 1) = (last : Int) := by rw [wrId (by omega) (by omega)]; omega
  have hln : (last : Int) < n := by omega
  have h0n : (0 : Int) < n := by omega
  have l1 : (setRange cs 0 [Value.int .i64 xl.1, .int .i64 xl.2]).length = cs.length := setRange_length (by simp; omega)
  have st1 : storeB (some (.cells cs false)) g B b 0 [.int .i64 xl.1, .int .i64 xl.2] 2 = some (undef, B.set b (some (.cells (setRange cs 0 [.int .i64 xl.1, .int .i64 xl.2]) false))) := storeB_cells rfl (by omega) (by omega) rfl
  obtain ⟨A2, hA2⟩ : ∃ A2, A2 = B.set b (some (.cells (setRange cs 0 [.int .i64 xl.1, .int .i64 xl.2]) false)) := ⟨_, rfl⟩
  rw [← hA2] at st1
  have hA2n : A2.n = B.n := by rw [hA2]; rfl
  have hb2 : A2.get b = some (.cells (setRange cs 0 [.int .i64 xl.1, .int .i64 xl.2]) false) := by rw [hA2]; exact get_set_same hbB
  have o2 : ∀ z, z ≠ b → A2.get z = B.get z := fun z hz => by rw [hA2]; exact get_set_ne (by omega) hz
  have hXA2 := (o2 XH (by omega)).trans hXB
  have rs := resl_some (b := b) (k := 2) (n := n) (c := c) (i := last) (by omega)
  have hmx : Nat.max n c = c := Nat.max_eq_right (by omega)
  rw [hmx] at rs
  have hpush : ((A.push (.cells [.int .i64 0, .int .i64 0] false)).push (.cells [.int .i64 x0.1, .int .i64 x0.2] false)) = B := hB.symm
  have ap : ¬ b = A.n + 1 := by omega
  have ap2 : ¬ A.n + 1 = b := by omega
  have hX'' : (A.push (.cells [.int .i64 0, .int .i64 0] false)).get XH = some (.cells [.slice (some ⟨b, 0, some 2⟩) n c, .func (.func 330) ⟨[]⟩ ⟨[]⟩] false) := (Ext'.push A _).get hX'
  have r0' : partA cs 0 (some 2) = some (.agg ⟨[.int .i64 x0.1, .int .i64 x0.2]⟩) := by simpa using r0
  have ap3 : ¬ A.n + 1 = XH := by omega
  have ap4 : ¬ XH = A.n + 1 := by omega
  simp (disch := as_aux_lemma => first | omega | simp only [hDs] <;> omega | simp [isCell]) [hRs, takeMarks, resA, resAll, resOne, Value.cells, F278, hX', h0n, idxSA_ok, hb, r0', e1, apartA, ap, ap2, ap3, ap4, storeB_cells, setRange, set_push_eq, hpush]
  simp (disch := as_aux_lemma => first | omega | simp only [hDs] <;> omega | simp [isCell]) [hRs, takeMarks, resA, resAll, resOne, Value.cells, hXB, hbB, hln, h0n, idxSA_ok, rl, st1, hXA2, intOfA, boundA, rs, storeB_cells, setRange]
  obtain ⟨L', hL'⟩ : ∃ L', L' = (L.set 0 xl).take last := ⟨_, rfl⟩
  have hLl : L'.length = last := by rw [hL', List.length_take, List.length_set]; omega
  have hLg : ∀ q, q < last → L'.getD q (0, 0) = if q = 0 then xl else L.getD q (0, 0) := fun q hq => by
    rw [hL', List.getD_eq_getElem?_getD, List.getElem?_take, if_pos hq, List.getElem?_set]
    by_cases h1 : q = 0
    · subst h1; rw [if_pos rfl, if_pos h0, if_pos rfl]; rfl
    · rw [if_neg (fun h => h1 h.symm), if_neg h1, List.getD_eq_getElem?_getD]
  obtain ⟨A3, hA3⟩ : ∃ A3, A3 = A2.set XH (some (.cells [.slice (some ⟨b, 0, some 2⟩) last c, bef330] false)) := ⟨_, rfl⟩
  have hA3' := hA3.symm
  unfold bef330 at hA3'
  rw [hA3']
  have hA3n : A3.n = A2.n := by rw [hA3]; rfl
  have hXA3 : A3.get XH = some (.cells [.slice (some ⟨b, 0, some 2⟩) last c, bef330] false) := by rw [hA3]; exact get_set_same hXA2
  have o3 : ∀ z, z ≠ XH → A3.get z = A2.get z := fun z hz => by rw [hA3]; exact get_set_ne (Hp.lt_of_get hXA2) hz
  have hb3 := (o3 b (by omega)).trans hb2
  have hH3 : HpAT N XH A3 L' := ⟨⟨_, hXA3, ⟨.inr ⟨b, c, _, by rw [hLl], hb3, l1.trans hc, by omega, hNb, fun q hq => ?_⟩⟩⟩, hXN⟩
  · have hU3 : HUpT XH A A3 := HUpT.same (b := b) (by omega) hX hXA3 rfl rfl fun z hz hx hzb => by rw [o3 z hx, o2 z hzb, eB.2 z hz]
    refine loop278T (N := N) (XH := XH) (X2 := A.n) (X3 := A.n + 1) (last := last) (A0 := A) (L0 := L') (x := x0) hg hXN hLl (by omega) (by omega) (by omega) (by omega) hN ?_ last 0 L' (by omega) (.inl rfl) hLl (fun _ => Iff.rfl) hH3 (fun sv b' h1 h2 => ?_) hU3 (by omega) ?_ ?_ (by simp) (by simp) (by simp) (by simp) (by simp)
    · intro T' A' L2 hl2 hm2 hH2 hU2 hx2 t2
      simp (disch := as_aux_lemma => first | omega | simp only [hDs] <;> omega | simp [isCell]) [hRs, takeMarks, resA, resAll, resOne, Value.cells, t2, hx2]
      refine hV A' L2 x0.1 x0.2 (mem_getD.2 ⟨0, h0, hx0.symm⟩) (by omega) (fun z hz => ?_) (fun z hz => ?_) hH2 hU2
      · obtain ⟨q, hq, e⟩ := mem_getD.1 hz
        by_cases hq0 : q = 0
        · subst hq0; left; rw [← e, hx0]
        · right
          rw [hm2, mem_getD]
          by_cases hql : q = last
          · refine ⟨0, by omega, ?_⟩
            rw [hLg 0 (by omega), if_pos rfl, hxl, ← hql]; exact e
          · exact ⟨q, by omega, by rw [hLg q (by omega), if_neg hq0]; exact e⟩
      · rw [hm2, mem_getD] at hz
        obtain ⟨q, hq, e⟩ := hz
        rw [hLg q (by omega)] at e
        rw [mem_getD]
        split at e
        · exact ⟨last, by omega, by rw [← hxl]; exact e⟩
        · exact ⟨q, by omega, e⟩
    · rw [hXA3] at h1
      cases h1
      cases h2
      omega
    · rw [o3 _ (by omega), o2 _ (by omega)]; exact hX2
    · rw [o3 _ (by omega), o2 _ (by omega)]; exact hX3
  · rw [hLl] at hq
    rw [hLg q hq, setRange_get (by simp; omega), setRange_get (by simp; omega)]
    simp only [List.length_cons, List.length_nil]
    by_cases h1 : q = 0
    · subst h1
      exact ⟨rfl, rfl⟩
    · rw [if_neg h1, if_neg (by omega), if_neg (by omega)]
      exact hat q (by omega)
end
end Go.Ab.Grid
set_option maxRecDepth 100000
namespace Go.Ab.Grid
open Go Go.Ab
def noneV : Int := 1073741824
structure SPar where
  m : Nat
  ht : Nat → Int
  nb : Nat → List Nat
  sea : List Nat
structure SParOk (P : SPar) : Prop where
  nb : ∀ c, c < P.m → ∀ d, d ∈ P.nb c → d < P.m
  sea : ∀ c, c ∈ P.sea → c < P.m
  ht : ∀ c, c < P.m → -2000000 ≤ P.ht c ∧ P.ht c ≤ 1073741824
inductive SPar.Der (P : SPar) : Nat → Int → Prop
  | base {c : Nat} : c ∈ P.sea → P.Der c (max (P.ht c) (-1073741824))
  | step {c d : Nat} {v : Int} : P.Der c v → d ∈ P.nb c → P.Der d (max (P.ht d) v)
theorem SPar.Der.lt {P : SPar} (hP : SParOk P) : ∀ {c : Nat} {v : Int}, P.Der c v → c < P.m
  | _, _, .base h => hP.sea _ h
  | _, _, .step h1 h2 => hP.nb _ (SPar.Der.lt hP h1) _ h2
theorem SPar.Der.rng {P : SPar} (hP : SParOk P) : ∀ {c : Nat} {v : Int}, P.Der c v → -2000000 ≤ v ∧ v ≤ 1073741824
  | c, _, .base h => by have := hP.ht c (hP.sea _ h); omega
  | d, _, .step h1 h2 => by
    have h3 := SPar.Der.rng hP h1
    have := hP.ht d (hP.nb _ (SPar.Der.lt hP h1) _ h2)
    omega
structure Cur where
  c : Nat
  v : Int
  done : List Nat
def Cur.ok (P : SPar) (o : List Int) (k : Cur) (a : Nat) : Prop := a = k.c ∧ gi o a = k.v ∧ ∀ d, d ∈ k.done → gi o d ≤ max (P.ht d) k.v
structure SMid (P : SPar) (o : List Int) (L : List (Int × Int)) (cur : Option Cur) (q : List Nat) : Prop where
  len : o.length = P.m
  le : ∀ c, c < P.m → -1073741824 ≤ gi o c ∧ gi o c ≤ noneV
  out : ∀ c, c < P.m → gi o c = noneV ∨ P.Der c (gi o c)
  heap : ∀ x, x ∈ L → ∃ c : Nat, x.1 = (c : Int) ∧ P.Der c x.2
  sea : ∀ c, c ∈ q → gi o c ≤ max (P.ht c) (-1073741824)
  cl : ∀ a, a < P.m → gi o a ≠ noneV → ((a : Int), gi o a) ∈ L ∨ (∃ k, cur = some k ∧ k.ok P o a) ∨ ∀ d, d ∈ P.nb a → gi o d ≤ max (P.ht d) (gi o a)
def lowO (P : SPar) (o : List Int) (d : Nat) (over : Int) : List Int := if max (P.ht d) over < gi o d then o.set d (max (P.ht d) over) else o
theorem lowO_length {P : SPar} {o : List Int} {d : Nat} {over : Int} : (lowO P o d over).length = o.length := by unfold lowO; split <;> simp
theorem lowO_get {P : SPar} {o : List Int} {d a : Nat} {over : Int} (hd : d < o.length) : gi (lowO P o d over) a = if a = d ∧ max (P.ht d) over < gi o d then max (P.ht d) over else gi o a := by
  unfold lowO
  by_cases h : max (P.ht d) over < gi o d
  · rw [if_pos h, gi_setI hd]
    by_cases h1 : a = d
    · rw [if_pos h1, if_pos ⟨h1, h⟩]
    · rw [if_neg h1, if_neg fun h' => h1 h'.1]
  · rw [if_neg h, if_neg fun h' => h h'.2]
theorem lowO_le {P : SPar} {o : List Int} {d : Nat} {over : Int} (hd : d < o.length) (a : Nat) : gi (lowO P o d over) a ≤ gi o a := by
  rw [lowO_get hd]
  split
  · rename_i h; rw [h.1]; omega
  · exact Int.le_refl _
theorem SMid.shut {P : SPar} {o : List Int} {L : List (Int × Int)} {c : Nat} {v : Int} {q : List Nat} (h : SMid P o L (some ⟨c, v, P.nb c⟩) q) : SMid P o L none q := by
  refine ⟨h.len, h.le, h.out, h.heap, h.sea, fun a ha hne => ?_⟩
  rcases h.cl a ha hne with h1 | ⟨k, hk, h1, h2, h3⟩ | h1
  · exact .inl h1
  · cases hk
    simp only at h1 h2 h3
    subst h1
    exact .inr (.inr (by rw [h2]; exact h3))
  · exact .inr (.inr h1)
theorem SMid.take {P : SPar} {o : List Int} {L L' : List (Int × Int)} {c : Nat} {v : Int} {q : List Nat} (h : SMid P o L none q) (h1 : ∀ z, z ∈ L → z = ((c : Int), v) ∨ z ∈ L') (h2 : ∀ z, z ∈ L' → z ∈ L) : SMid P o L' (some ⟨c, v, []⟩) q := by
  refine ⟨h.len, h.le, h.out, fun x hx => h.heap x (h2 x hx), h.sea, fun a ha hne => ?_⟩
  rcases h.cl a ha hne with h3 | ⟨k, hk, _⟩ | h3
  · rcases h1 _ h3 with h4 | h4
    · have e1 : a = c := by have := congrArg Prod.fst h4; simp only at this; omega
      have e2 : gi o a = v := congrArg Prod.snd h4
      exact .inr (.inl ⟨_, rfl, e1, e2, fun d hd => by cases hd⟩)
    · exact .inl h4
  · cases hk
  · exact .inr (.inr h3)
theorem SMid.start {P : SPar} : SMid P (List.replicate P.m noneV) [] none [] := by
  have e : ∀ c, c < P.m → gi (List.replicate P.m noneV) c = noneV := fun c hc => by
    unfold gi; rw [List.getD_eq_getElem?_getD, List.getElem?_replicate, if_pos hc]; rfl
  refine ⟨by simp, fun c hc => ?_, fun c hc => .inl (e c hc), fun x hx => (by cases hx), fun c hc => (by cases hc), fun a ha hne => absurd (e a ha) hne⟩
  rw [e c hc]; unfold noneV; omega
structure SFin (P : SPar) (o : List Int) : Prop where
  len : o.length = P.m
  le : ∀ c, c < P.m → -1073741824 ≤ gi o c ∧ gi o c ≤ noneV
  out : ∀ c, c < P.m → gi o c = noneV ∨ P.Der c (gi o c)
  sea : ∀ c, c ∈ P.sea → gi o c ≤ max (P.ht c) (-1073741824)
  cl : ∀ a, a < P.m → gi o a ≠ noneV → ∀ d, d ∈ P.nb a → gi o d ≤ max (P.ht d) (gi o a)
theorem SMid.fin {P : SPar} {o : List Int} (h : SMid P o [] none P.sea) : SFin P o := by
  refine ⟨h.len, h.le, h.out, h.sea, fun a ha hne => ?_⟩
  rcases h.cl a ha hne with h1 | ⟨k, hk, _⟩ | h1
  · cases h1
  · cases hk
  · exact h1
theorem SFin.least {P : SPar} {o : List Int} (hP : SParOk P) (h : SFin P o) : ∀ {c : Nat} {v : Int}, P.Der c v → gi o c ≤ v
  | _, _, .base hc => h.sea _ hc
  | d, _, .step (c := c) (v := v) h1 h2 => by
    have ih := SFin.least hP h h1
    have hcm := h1.lt hP
    by_cases hn : gi o c = noneV
    · have := (h.le d (hP.nb _ hcm _ h2)).2
      omega
    · have := h.cl c hcm hn d h2
      omega
theorem SFin.mono {P P' : SPar} {o o' : List Int} (hP : SParOk P) (hP' : SParOk P') (hm : P.m = P'.m) (hs : P.sea = P'.sea) (hn : ∀ c, c < P.m → P.nb c = P'.nb c) (hh : ∀ c, c < P.m → P.ht c ≤ P'.ht c) (h : SFin P o) (h' : SFin P' o') {c : Nat} (hc : c < P.m) : gi o c ≤ gi o' c := by
  have key : ∀ {a : Nat} {v : Int}, P'.Der a v → ∃ u, u ≤ v ∧ P.Der a u := by
    intro a v hd
    induction hd with
    | @base c hc => exact ⟨_, by have := hh c (by rw [hm]; exact hP'.sea _ hc); omega, .base (hs ▸ hc)⟩
    | @step c d v h1 h2 ih =>
      obtain ⟨u, hu, hd⟩ := ih
      have hcm := hd.lt hP
      have hdm : d < P.m := by rw [hm]; exact hP'.nb _ (by omega) _ h2
      exact ⟨_, by have := hh d hdm; omega, .step hd (by rw [hn c hcm]; exact h2)⟩
  rcases h'.out c (by omega) with e | hd
  · rw [e]; exact (h.le c hc).2
  · obtain ⟨u, hu, hd'⟩ := key hd
    exact Int.le_trans (h.least hP hd') hu
theorem sum_set {f : Int → Nat} : ∀ {l : List Int} {i : Nat} {v : Int}, i < l.length → f v < f (gi l i) → ((l.set i v).map f).sum < (l.map f).sum
  | x :: l, 0, v, _, h => by
    simp only [List.set_cons_zero, List.map_cons, List.sum_cons]
    have : gi (x :: l) 0 = x := rfl
    rw [this] at h
    omega
  | x :: l, i + 1, v, hi, h => by
    have ih := sum_set (f := f) (l := l) (i := i) (v := v) (by simpa using hi) (by simpa [gi] using h)
    simp only [List.set_cons_succ, List.map_cons, List.sum_cons]
    omega
def potS (o : List Int) : Nat := (o.map fun x => (x + 1073741824).toNat).sum
theorem potS_low {P : SPar} {o : List Int} {d : Nat} {over : Int} (hd : d < o.length) (h0 : -1073741824 ≤ max (P.ht d) over) (hlt : max (P.ht d) over < gi o d) : potS (lowO P o d over) < potS o := by
  unfold lowO
  rw [if_pos hlt]
  exact sum_set hd (by omega)
structure SB where
  N0 : Nat
  N : Nat
  X5 : Nat
  X7 : Nat
  X8 : Nat
  OB : Nat
  hf : Value
structure SB.Ok (b : SB) : Prop where
  n5 : b.N0 ≤ b.X5 ∧ b.X5 < b.N
  n7 : b.N0 ≤ b.X7 ∧ b.X7 < b.N
  n8 : b.N0 ≤ b.X8 ∧ b.X8 < b.N
  nO : b.N0 ≤ b.OB ∧ b.OB < b.N
  n58 : b.X5 ≠ b.X8
  n5O : b.X5 ≠ b.OB
  n78 : b.X7 ≠ b.X8
  n7O : b.X7 ≠ b.OB
  n8O : b.X8 ≠ b.OB
structure SL (b : SB) (P : SPar) (A0 A : Hp) (o : List Int) (L : List (Int × Int)) : Prop where
  low : ∀ z, z < b.N0 → A.get z = A0.get z
  x5 : A.get b.X5 = some (.cells [b.hf] false)
  x7 : A.get b.X7 = some (.cells [rowS1 b.OB P.m] false)
  ob : A.get b.OB = some (.cells (ints o) false)
  hp : HpA b.N b.X8 A L
  nn : b.N ≤ A.n
theorem SL.ext {b : SB} {P : SPar} {A0 A A' : Hp} {o : List Int} {L : List (Int × Int)} (hb : b.Ok) (h : SL b P A0 A o L) (he : Ext' A A') : SL b P A0 A' o L := by
  have := hb.n5
  have := h.nn
  have := he.1
  exact ⟨fun z hz => by rw [he.2 z (by omega), h.low z hz], he.get h.x5, he.get h.x7, he.get h.ob, h.hp.ext he, by omega⟩
structure SUp (b : SB) (A A' : Hp) : Prop where
  n : A.n ≤ A'.n
  o : ∀ z, z < A.n → z ≠ b.X8 → z ≠ b.OB → ¬ HeB A b.X8 z → A'.get z = A.get z
  b : ∀ z, z < A.n → HeB A' b.X8 z → HeB A b.X8 z
theorem SUp.of {b : SB} {A A' : Hp} (h : Ext' A A') (hX : b.X8 < A.n) : SUp b A A' := ⟨h.1, fun z hz _ _ _ => h.2 z hz, (HUp.of h hX).b⟩
theorem SUp.heap {b : SB} {A A' : Hp} (h : HUp b.X8 A A') : SUp b A A' := ⟨h.n, fun z hz h1 _ h3 => h.o z hz h1 h3, h.b⟩
theorem SUp.row {b : SB} {A A' : Hp} (hn : A'.n = A.n) (hO : b.X8 ≠ b.OB) (ho : ∀ z, z ≠ b.OB → A'.get z = A.get z) : SUp b A A' := ⟨by omega, fun z _ _ h2 _ => ho z h2, fun z _ hB => by
  obtain ⟨sv, h1, h2⟩ := hB
  exact ⟨sv, by rw [← ho _ hO]; exact h1, h2⟩⟩
theorem SUp.trans {b : SB} {A A' A'' : Hp} (h : SUp b A A') (h' : SUp b A' A'') : SUp b A A'' :=
  ⟨Nat.le_trans h.n h'.n, fun z hz h1 h2 hb => (h'.o z (Nat.lt_of_lt_of_le hz h.n) h1 h2 fun hb' => hb (h.b z hz hb')).trans (h.o z hz h1 h2 hb), fun z hz hb => h.b z hz (h'.b z (Nat.lt_of_lt_of_le hz h.n) hb)⟩
section
variable {g : Nat} {rd : Option Nat} {T : List Value} {D : List Nat} {A : Hp} {Q : Ex → St → Prop} {V : Value → Hp → Prop}
end
structure SafeB (b : SB) (A : Hp) (z : Nat) (k : ABlk) : Prop where
  at_ : A.get z = some k
  lo : b.N ≤ z
  no : ¬ HeB A b.X8 z
theorem SafeB.up {b : SB} {A A' : Hp} {z : Nat} {k : ABlk} (hb : b.Ok) (h : SafeB b A z k) (u : SUp b A A') : SafeB b A' z k := by
  have h8 := hb.n8
  have hO := hb.nO
  have hl := h.lo
  have hz := Hp.lt_of_get h.at_
  exact ⟨(u.o z hz (by omega) (by omega) h.no).trans h.at_, hl, fun hB => h.no (u.b z hz hB)⟩
theorem SafeB.new {b : SB} {A A' : Hp} {z : Nat} {k : ABlk} {L : List (Int × Int)} (hp : HpA b.N b.X8 A L) (hN : b.N ≤ A.n) (he : Ext' A A') (hz : A.n ≤ z) (hk : A'.get z = some k) : SafeB b A' z k := by
  refine ⟨hk, by omega, fun hB => ?_⟩
  obtain ⟨sv, s1, s2⟩ := hB
  obtain ⟨sv', q1, q2⟩ := hp.e
  rw [he.get q1] at s1
  cases s1
  have := (q2.blk s2).2
  omega
theorem SafeB.set {b : SB} {A : Hp} {z : Nat} {k : ABlk} (hb : b.Ok) (h : SafeB b A z k) (k' : ABlk) : SafeB b (A.set z (some k')) z k' := by
  refine ⟨get_set_same h.at_, h.lo, fun hB => h.no ?_⟩
  obtain ⟨sv, s1, s2⟩ := hB
  have h8 := hb.n8
  have hl := h.lo
  rw [get_set_ne (Hp.lt_of_get h.at_) (by omega)] at s1
  exact ⟨sv, s1, s2⟩
theorem SafeB.set_ne {b : SB} {A : Hp} {z y : Nat} {k ky : ABlk} {k' : Option ABlk} (hb : b.Ok) (hy : SafeB b A y ky) (hz : SafeB b A z k) (hyz : y ≠ z) : SafeB b (A.set z k') y ky := by
  have h8 := hb.n8
  have hl := hz.lo
  refine ⟨(get_set_ne (Hp.lt_of_get hz.at_) hyz).trans hy.at_, hy.lo, fun hB => hy.no ?_⟩
  obtain ⟨sv, s1, s2⟩ := hB
  rw [get_set_ne (Hp.lt_of_get hz.at_) (by omega)] at s1
  exact ⟨sv, s1, s2⟩
theorem SL.set {b : SB} {P : SPar} {A0 A : Hp} {o : List Int} {L : List (Int × Int)} {z : Nat} {k : ABlk} {k' : Option ABlk} (hb : b.Ok) (h : SL b P A0 A o L) (hz : SafeB b A z k) : SL b P A0 (A.set z k') o L := by
  have h5 := hb.n5
  have h7 := hb.n7
  have h8 := hb.n8
  have hO := hb.nO
  have hl := hz.lo
  have e : ∀ y, y ≠ z → (A.set z k').get y = A.get y := fun y hy => get_set_ne (Hp.lt_of_get hz.at_) hy
  refine ⟨fun y hy => (e y (by omega)).trans (h.low y hy), (e _ (by omega)).trans h.x5, (e _ (by omega)).trans h.x7, (e _ (by omega)).trans h.ob, ?_, h.nn⟩
  obtain ⟨sv, s1, s2⟩ := h.hp.e
  exact ⟨⟨sv, (e _ (by omega)).trans s1, s2.keep fun y hy => e y fun hyz => hz.no ⟨sv, s1, by rw [← hyz]; exact hy⟩⟩, h.hp.lt⟩
structure GoR (b : SB) (P : SPar) (A0 : Hp) (K0 : Nat) (q : List Nat) (F : List (Nat × ABlk)) (k : Option Cur) (A : Hp) : Prop where
  e : ∃ o L, SL b P A0 A o L ∧ SMid P o L k q ∧ 2 * potS o + L.length ≤ K0
  F : ∀ x, x ∈ F → SafeB b A x.1 x.2
theorem GoR.ext {b : SB} {P : SPar} {A0 A A' : Hp} {K0 : Nat} {q : List Nat} {F : List (Nat × ABlk)} {k : Option Cur} (hb : b.Ok) (h : GoR b P A0 K0 q F k A) (he : Ext' A A') : GoR b P A0 K0 q F k A' := by
  obtain ⟨o, L, h1, h2, h3⟩ := h.e
  have h8 := hb.n8
  have := h1.nn
  exact ⟨⟨o, L, h1.ext hb he, h2, h3⟩, fun x hx => (h.F x hx).up hb (SUp.of he (by omega))⟩
theorem GoR.nn {b : SB} {P : SPar} {A0 A : Hp} {K0 : Nat} {q : List Nat} {F : List (Nat × ABlk)} {k : Option Cur} (h : GoR b P A0 K0 q F k A) : b.N ≤ A.n := by
  obtain ⟨o, L, h1, _⟩ := h.e
  exact h1.nn
theorem GoR.new {b : SB} {P : SPar} {A0 A A' : Hp} {K0 : Nat} {q : List Nat} {F : List (Nat × ABlk)} {k : Option Cur} {z : Nat} {kz : ABlk} (h : GoR b P A0 K0 q F k A) (he : Ext' A A') (hz : A.n ≤ z) (hk : A'.get z = some kz) : SafeB b A' z kz := by
  obtain ⟨o, L, h1, _⟩ := h.e
  exact SafeB.new h1.hp h1.nn he hz hk
def f276 (b : SB) : Value := .func (.func 276) ⟨[]⟩ ⟨[.pointer (some ⟨b.X5, 0, none⟩), .pointer (some ⟨b.X7, 0, none⟩), .pointer (some ⟨b.X8, 0, none⟩)]⟩
section
variable {g : Nat} {rd : Option Nat} {T : List Value} {D : List Nat} {A : Hp} {Q : Ex → St → Prop} {V : Value → Hp → Prop}
end
theorem GoR.mono {b : SB} {P : SPar} {A0 A : Hp} {K0 : Nat} {q : List Nat} {F F' : List (Nat × ABlk)} {k : Option Cur} (h : GoR b P A0 K0 q F k A) (hF : ∀ x, x ∈ F' → x ∈ F) : GoR b P A0 K0 q F' k A := ⟨h.e, fun x hx => h.F x (hF x hx)⟩
section
variable {g : Nat} {rd : Option Nat} {T : List Value} {D : List Nat} {A : Hp} {Q : Ex → St → Prop} {V : Value → Hp → Prop}
end
theorem takeMarks_all : ∀ (D : List Nat) (A : Hp), D.Nodup → (∀ x, x ∈ D → A.get x = some .marks) → ∃ A', takeMarks A D = some A' ∧ A'.n = A.n ∧ ∀ x, x ∉ D → A'.get x = A.get x
  | [], A, _, _ => ⟨A, rfl, rfl, fun _ _ => rfl⟩
  | y :: D, A, hD, h => by
    have hy := h y (by simp)
    have hyn := Hp.lt_of_get hy
    obtain ⟨hyD, hD'⟩ := List.nodup_cons.1 hD
    obtain ⟨A', h1, h2, h3⟩ := takeMarks_all D (A.set y none) hD' (fun x hx => by rw [get_set_ne hyn (fun e => hyD (e ▸ hx))]; exact h x (by simp [hx]))
    refine ⟨A', by simp only [takeMarks, hy]; exact h1, h2, fun x hx => ?_⟩
    simp at hx
    rw [h3 x hx.2, get_set_ne hyn hx.1]
def fD (D : List Nat) (F : List (Nat × ABlk)) : List (Nat × ABlk) := D.map (fun x => (x, ABlk.marks)) ++ F
section
variable {g : Nat} {rd : Option Nat} {T : List Value} {D : List Nat} {A : Hp} {Q : Ex → St → Prop} {V : Value → Hp → Prop}
end
structure SLine (P : SPar) (w h : Int) : Prop where
  ok : SParOk P
  m : 1 ≤ P.m ∧ P.m ≤ 60
  wr : 1 ≤ w ∧ w ≤ 24
  hr : 1 ≤ h ∧ h ≤ 24
  wh : w * h = P.m
  nb : ∀ c, c < P.m → P.nb c = (nbrs w h c).map Int.toNat
section
variable {g : Nat} {rd : Option Nat} {T : List Value} {D : List Nat} {A : Hp} {Q : Ex → St → Prop} {V : Value → Hp → Prop}
end
end Go.Ab.Grid
set_option maxRecDepth 100000
namespace Go.Ab.Grid
open Go Go.Ab
def refNb (w h c : Int) : List Int :=
  (if c.tmod w + 1 < w then [c + 1] else []) ++ (if c.tdiv w + 1 < h then [c + w] else []) ++ (if 0 < c.tmod w then [c - 1] else []) ++ (if 0 < c.tdiv w then [c - w] else [])
theorem cell_xy {w h c : Int} (hw : 1 ≤ w) (hc : 0 ≤ c ∧ c < w * h) : 0 ≤ c.tmod w ∧ c.tmod w < w ∧ 0 ≤ c.tdiv w ∧ c.tdiv w < h ∧ c = c.tdiv w * w + c.tmod w := by
  have e : w * c.tdiv w + c.tmod w = c := Int.mul_tdiv_add_tmod c w
  have h1 : 0 ≤ c.tmod w := Int.tmod_nonneg _ hc.1
  have h2 : c.tmod w < w := Int.tmod_lt_of_pos _ (by omega)
  have h3 : 0 ≤ c.tdiv w := Int.tdiv_nonneg hc.1 (by omega)
  rw [Int.mul_comm] at e
  refine ⟨h1, h2, h3, ?_, e.symm⟩
  by_cases hh : c.tdiv w < h
  · exact hh
  · have := Int.mul_le_mul_of_nonneg_right (show h ≤ c.tdiv w by omega) (show 0 ≤ w by omega)
    rw [Int.mul_comm w h] at hc
    omega
theorem refNb_eq {w h c : Int} (hw : 1 ≤ w) (hc : 0 ≤ c ∧ c < w * h) : refNb w h c = nbrs w h c := by
  obtain ⟨p1, p2, p3, p4, p5⟩ := cell_xy hw hc
  unfold refNb nbrs nbD dirs
  simp only [List.flatMap_cons, List.flatMap_nil, List.append_nil, List.append_assoc]
  generalize c.tmod w = x at *
  generalize c.tdiv w = y at *
  have e1 : (y + 1) * w = y * w + w := by rw [Int.add_mul, Int.one_mul]
  have e2 : (y + -1) * w = y * w - w := by rw [Int.add_mul, Int.neg_mul, Int.one_mul]; omega
  have f1 : ((0 ≤ x + 1 ∧ x + 1 ≤ w - 1) ∧ 0 ≤ y + 0 ∧ y + 0 ≤ h - 1) ↔ x + 1 < w := by omega
  have f2 : ((0 ≤ x + 0 ∧ x + 0 ≤ w - 1) ∧ 0 ≤ y + 1 ∧ y + 1 ≤ h - 1) ↔ y + 1 < h := by omega
  have f3 : ((0 ≤ x + -1 ∧ x + -1 ≤ w - 1) ∧ 0 ≤ y + 0 ∧ y + 0 ≤ h - 1) ↔ 0 < x := by omega
  have f4 : ((0 ≤ x + 0 ∧ x + 0 ≤ w - 1) ∧ 0 ≤ y + -1 ∧ y + -1 ≤ h - 1) ↔ 0 < y := by omega
  simp only [f1, f2, f3, f4]
  rw [show (y + 0) * w + (x + 1) = c + 1 by rw [Int.add_zero]; omega, show (y + 1) * w + (x + 0) = c + w by omega, show (y + 0) * w + (x + -1) = c - 1 by rw [Int.add_zero]; omega, show (y + -1) * w + (x + 0) = c - w by omega]
def ptrV (x : Nat) : Value := .pointer (some ⟨x, 0, none⟩)
section
variable {g : Nat} {A : Hp} {V : Value → Hp → Prop}
structure N73 (g : Nat) (A0 : Hp) (w h c : Int) (b : Nat) (N : Nat) (l : List Int) (T : List Value) (A : Hp) : Prop where
  acc : ∃ sv, tget T 5 = sv ∧ AccS N A 1 (ints l) sv
  old : ∀ x, x < N → A.get x = A0.get x
  n : N ≤ A.n
  t1 : tget T 1 = .int .i64 c
  t2 : tget T 2 = ptrV b
  t6 : tget T 6 = .int .i64 (c.tmod w)
  t7 : tget T 7 = .int .i64 (c.tdiv w)
  len : l.length < 10
theorem N73.add {A0 : Hp} {w h c : Int} {b N : Nat} {l : List Int} {T : List Value} (hN : N73 g A0 w h c b N l T A) (hg : g ≤ N) (z : Int) :
    ∃ sv sv' A', tget T 5 = sv ∧ appendA g (A.push (.cells [.int .i64 z] false)) 1 8 sv (.slice (some ⟨A.n, 0, some 1⟩) 1 1) = some (sv', A') ∧ AccS N A' 1 (ints (l ++ [z])) sv' ∧ (∀ x, x < N → A'.get x = A0.get x) ∧ N ≤ A'.n := by
  obtain ⟨sv, h5, hacc⟩ := hN.acc
  have hl := hN.len
  obtain ⟨sv', A', e, h1, h2, h3⟩ := hacc.add (g := g) (bytes := 8) (new := [.int .i64 z]) (ro := false) (n := l.length) hg hN.n rfl (by decide) rfl (by simp) (by unfold room; omega)
  refine ⟨sv, sv', A', h5, e, ?_, fun x hx => by rw [h2 x hx, hN.old x hx], by have := hN.n; omega⟩
  rw [ints_append]; exact h1
end
end Go.Ab.Grid
set_option maxRecDepth 100000
namespace Go.Ab.Grid
open Go Go.Ab
def asg113 : ACode := (.ops [oM 5 7])
def body113 : ACode := (.block 1
 (.ops [
oL 8 2,
oM 9 5,
oP 10 (.slit 1 1 [.int .i64 0] [(0, .t 9)]),
oP 11 (.append (.t 8) (.t 10) 1 8),
oT 2 11 1]))
structure NbP (A0 : Hp) (T1 : List Value) (done : List Int) (A : Hp) : Prop where
  e : Ext' A0 A
  n : A0.n + 4 ≤ A.n
  m : A.get (A0.n + 1) = some .marks
  l : A.get (A0.n + 2) = some (recL T1 [7] asg113 body113)
  r : A.get (A0.n + 3) = some (.cells (ints dirI) false)
  s : ∃ sv, A.get A0.n = some (.cells [sv] false) ∧ AccS (A0.n + 4) A 1 (ints done) sv
theorem NbP.push {A0 A : Hp} {T1 : List Value} {done : List Int} (h : NbP A0 T1 done A) (b : ABlk) : NbP A0 T1 done (A.push b) := by
  obtain ⟨e, n, m, l, r, sv, s1, s2⟩ := h
  have k := Ext'.push A b
  exact ⟨e.trans k, by simp; omega, k.get m, k.get l, k.get r, sv, k.get s1, s2.mono k.2⟩
section
variable {g : Nat} {rd : Option Nat} {T : List Value} {D : List Nat} {A : Hp} {Q : Ex → St → Prop} {V : Value → Hp → Prop}
end
end Go.Ab.Grid
set_option maxRecDepth 100000
namespace Go.Ab.Grid
open Go Go.Ab
theorem _root_.Go.Ab.AccS.rdS {N : Nat} {A : Hp} {k : Nat} {cs : List Value} {sv : Value} (h : AccS N A k cs sv) : ∃ n, RdS A k n cs sv := by
  rcases h with ⟨rfl, rfl⟩ | ⟨b, n, rfl, h2, _, h4, _⟩
  · exact ⟨0, by simp, .inl ⟨rfl, rfl⟩⟩
  · exact ⟨n, h4, .inr ⟨b, n, false, rfl, h2⟩⟩
theorem list_gi {a b : List Int} (h : a.length = b.length) (hx : ∀ i, i < a.length → gi a i = gi b i) : a = b := by
  apply List.ext_getElem h
  intro i h1 h2
  have := hx i h1
  simpa [gi, List.getD, h1, h2] using this
section
variable {g : Nat} {rd : Option Nat} {T : List Value} {D : List Nat} {A : Hp} {Q : Ex → St → Prop} {V : Value → Hp → Prop}
end
end Go.Ab.Grid
set_option maxRecDepth 100000
namespace Go.Ab.Grid
open Go Go.Ab
structure TPar where
  m : Nat
  bs : Nat → Int
  nb : Nat → List Nat
  st : Int
structure TParOk (P : TPar) : Prop where
  nb : ∀ c, c < P.m → ∀ d, d ∈ P.nb c → d < P.m
  bs : ∀ c, c < P.m → -1200000 ≤ P.bs c ∧ P.bs c ≤ 1200000
  st : 0 ≤ P.st ∧ P.st ≤ 2400000
inductive TPar.Der (P : TPar) : Nat → Int → Prop
  | base {c : Nat} : c < P.m → P.Der c (P.bs c)
  | step {c d : Nat} {v : Int} : P.Der c v → d ∈ P.nb c → P.Der d (v + P.st)
theorem TPar.Der.lt {P : TPar} (hP : TParOk P) : ∀ {c : Nat} {v : Int}, P.Der c v → c < P.m
  | _, _, .base h => h
  | _, _, .step h1 h2 => hP.nb _ (TPar.Der.lt hP h1) _ h2
theorem TPar.Der.ge {P : TPar} (hP : TParOk P) : ∀ {c : Nat} {v : Int}, P.Der c v → -1200000 ≤ v
  | _, _, .base h => (hP.bs _ h).1
  | _, _, .step h1 _ => by
    have := TPar.Der.ge hP h1
    have := hP.st
    omega
def TOk (P : TPar) (o : List Int) (k : Cur) (a : Nat) : Prop := a = k.c ∧ gi o a = k.v ∧ ∀ d, d ∈ k.done → gi o d ≤ k.v + P.st
structure TMid (P : TPar) (o : List Int) (L : List (Int × Int)) (cur : Option Cur) : Prop where
  len : o.length = P.m
  bs : ∀ c, c < P.m → gi o c ≤ P.bs c
  out : ∀ c, c < P.m → P.Der c (gi o c)
  heap : ∀ x, x ∈ L → ∃ c : Nat, x.1 = c ∧ P.Der c x.2 ∧ x.2 ≤ 1200000
  cl : ∀ a, a < P.m → ((a : Int), gi o a) ∈ L ∨ (∃ k, cur = some k ∧ TOk P o k a) ∨ ∀ d, d ∈ P.nb a → gi o d ≤ gi o a + P.st
theorem TMid.low {P : TPar} {o : List Int} {L L' : List (Int × Int)} {c d : Nat} {v : Int} {dn : List Nat} (hP : TParOk P) (h : TMid P o L (some ⟨c, v, dn⟩)) (hc : c < P.m) (hv : gi o c = v) (hd : d ∈ P.nb c) (hlt : v + P.st < gi o d) (hL : ∀ z, z ∈ L' ↔ z ∈ L ∨ z = ((d : Int), v + P.st)) :
    TMid P (o.set d (v + P.st)) L' (some ⟨c, v, dn ++ [d]⟩) := by
  have hdm := hP.nb c hc d hd
  have hl := h.len
  have hst := hP.st.1
  have hcd : c ≠ d := fun e => by subst e; omega
  have g : ∀ e, gi (o.set d (v + P.st)) e = if e = d then v + P.st else gi o e := fun e => gi_setI (by omega)
  have der : P.Der d (v + P.st) := by
    have := h.out c hc
    rw [hv] at this
    exact this.step hd
  have mono : ∀ e, gi (o.set d (v + P.st)) e ≤ gi o e := fun e => by
    rw [g]; split
    · rename_i h; subst h; omega
    · exact Int.le_refl _
  refine ⟨by simp [hl], fun e he => Int.le_trans (mono e) (h.bs e he), fun e he => ?_, fun x hx => ?_, fun a ha => ?_⟩
  · rw [g]; split
    · rename_i h; subst h; exact der
    · exact h.out e he
  · rcases (hL x).1 hx with h1 | h1
    · exact h.heap x h1
    · subst h1; exact ⟨d, rfl, der, by have := h.bs d hdm; have := (hP.bs d hdm).2; show v + P.st ≤ 1200000; omega⟩
  · by_cases had : a = d
    · subst had
      rw [g, if_pos rfl]
      exact .inl ((hL _).2 (.inr rfl))
    · have ga : gi (o.set d (v + P.st)) a = gi o a := by rw [g, if_neg had]
      rw [ga]
      rcases h.cl a ha with h1 | ⟨k, hk, h1, h2, h3⟩ | h1
      · exact .inl ((hL _).2 (.inl h1))
      · cases hk
        refine .inr (.inl ⟨_, rfl, h1, by rw [ga]; exact h2, fun e he => ?_⟩)
        rcases List.mem_append.1 he with h4 | h4
        · exact Int.le_trans (mono e) (h3 e h4)
        · rw [List.mem_singleton] at h4
          subst h4
          rw [g, if_pos rfl]
          exact Int.le_refl _
      · exact .inr (.inr fun e he => Int.le_trans (mono e) (h1 e he))
theorem TMid.skip {P : TPar} {o : List Int} {L : List (Int × Int)} {c d : Nat} {v : Int} {dn : List Nat} (h : TMid P o L (some ⟨c, v, dn⟩)) (hd : gi o c = v → gi o d ≤ v + P.st) : TMid P o L (some ⟨c, v, dn ++ [d]⟩) :=
  ⟨h.len, h.bs, h.out, h.heap, fun a ha => by
    rcases h.cl a ha with h1 | ⟨k, hk, h1, h2, h3⟩ | h1
    · exact .inl h1
    · cases hk
      refine .inr (.inl ⟨_, rfl, h1, h2, fun e he => ?_⟩)
      rcases List.mem_append.1 he with h4 | h4
      · exact h3 e h4
      · rw [List.mem_singleton] at h4
        subst h4
        exact hd (by have e1 : a = c := h1; rw [← e1]; exact h2)
    · exact .inr (.inr h1)⟩
theorem TMid.shut {P : TPar} {o : List Int} {L : List (Int × Int)} {c : Nat} {v : Int} (h : TMid P o L (some ⟨c, v, P.nb c⟩)) : TMid P o L none :=
  ⟨h.len, h.bs, h.out, h.heap, fun a ha => by
    rcases h.cl a ha with h1 | ⟨k, hk, h1, h2, h3⟩ | h1
    · exact .inl h1
    · cases hk
      exact .inr (.inr fun e he => by rw [h2]; exact h3 e (by rw [h1] at he; exact he))
    · exact .inr (.inr h1)⟩
theorem TMid.take {P : TPar} {o : List Int} {L L' : List (Int × Int)} {c : Nat} {v : Int} (h : TMid P o L none) (h1 : ∀ z, z ∈ L → z = ((c : Int), v) ∨ z ∈ L') (h2 : ∀ z, z ∈ L' → z ∈ L) : TMid P o L' (some ⟨c, v, []⟩) :=
  ⟨h.len, h.bs, h.out, fun x hx => h.heap x (h2 x hx), fun a ha => by
    rcases h.cl a ha with h3 | ⟨k, hk, _⟩ | h3
    · rcases h1 _ h3 with h4 | h4
      · have e1 : (a : Int) = c := congrArg Prod.fst h4
        have e2 : gi o a = v := congrArg Prod.snd h4
        exact .inr (.inl ⟨_, rfl, by show a = c; omega, e2, fun d hd => absurd hd (by simp)⟩)
      · exact .inl h4
    · cases hk
    · exact .inr (.inr h3)⟩
theorem TMid.start {P : TPar} {o : List Int} {L : List (Int × Int)} (hP : TParOk P) (hl : o.length = P.m) (ho : ∀ c, c < P.m → gi o c = P.bs c) (hL : ∀ z, z ∈ L ↔ ∃ c : Nat, c < P.m ∧ z = ((c : Int), P.bs c)) : TMid P o L none :=
  ⟨hl, fun c hc => by rw [ho c hc]; exact Int.le_refl _, fun c hc => by rw [ho c hc]; exact .base hc, fun x hx => by
    obtain ⟨c, h1, h2⟩ := (hL x).1 hx
    exact ⟨c, by rw [h2], by rw [h2]; exact .base h1, by rw [h2]; exact (hP.bs c h1).2⟩, fun a ha => .inl ((hL _).2 ⟨a, ha, by rw [ho a ha]⟩)⟩
structure TFin (P : TPar) (o : List Int) : Prop where
  len : o.length = P.m
  bs : ∀ c, c < P.m → gi o c ≤ P.bs c
  out : ∀ c, c < P.m → P.Der c (gi o c)
  cl : ∀ a, a < P.m → ∀ d, d ∈ P.nb a → gi o d ≤ gi o a + P.st
theorem TMid.fin {P : TPar} {o : List Int} (h : TMid P o [] none) : TFin P o :=
  ⟨h.len, h.bs, h.out, fun a ha => by
    rcases h.cl a ha with h1 | ⟨k, hk, _⟩ | h1
    · cases h1
    · cases hk
    · exact h1⟩
theorem TFin.least {P : TPar} {o : List Int} (hP : TParOk P) (h : TFin P o) : ∀ {c : Nat} {v : Int}, P.Der c v → gi o c ≤ v
  | _, _, .base hc => h.bs _ hc
  | d, _, .step (c := c) (v := v) h1 h2 => by
    have ih := TFin.least hP h h1
    have := h.cl c (h1.lt hP) d h2
    omega
theorem TFin.uniq {P : TPar} {o o' : List Int} (hP : TParOk P) (h : TFin P o) (h' : TFin P o') : o = o' :=
  list_gi (by rw [h.len, h'.len]) fun i hi => by
    rw [h.len] at hi
    have a := h.least hP (h'.out i hi)
    have b := h'.least hP (h.out i hi)
    omega
theorem TFin.rng {P : TPar} {o : List Int} (hP : TParOk P) (h : TFin P o) {c : Nat} (hc : c < P.m) : -1200000 ≤ gi o c ∧ gi o c ≤ 1200000 := by
  have a := (h.out c hc).ge hP
  have b := h.bs c hc
  have := hP.bs c hc
  omega
def potT (o : List Int) : Nat := (o.map fun x => (x + 1200000).toNat).sum
theorem potT_low {o : List Int} {d : Nat} {v : Int} (hd : d < o.length) (h0 : -1200000 ≤ v) (hlt : v < gi o d) : potT (o.set d v) < potT o := sum_set hd (by omega)
theorem potT_le : ∀ {o : List Int}, (∀ c, c < o.length → gi o c ≤ 1200000) → potT o ≤ o.length * 2400000
  | [], _ => by simp [potT]
  | x :: l, h => by
    have h0 : x ≤ 1200000 := h 0 (by simp)
    have ih := potT_le (o := l) fun c hc => by
      have := h (c + 1) (by simpa using hc)
      simpa [gi] using this
    unfold potT at ih ⊢
    simp only [List.map_cons, List.sum_cons, List.length_cons]
    omega
end Go.Ab.Grid
set_option maxRecDepth 100000
namespace Go.Ab.Grid
open Go Go.Ab
structure TB where
  N0 : Nat
  N : Nat
  X7 : Nat
  X8 : Nat
  OB : Nat
structure TB.Ok (b : TB) : Prop where
  n7 : b.N0 ≤ b.X7 ∧ b.X7 < b.N
  n8 : b.N0 ≤ b.X8 ∧ b.X8 < b.N
  nO : b.N0 ≤ b.OB ∧ b.OB < b.N
  n78 : b.X7 ≠ b.X8
  n7O : b.X7 ≠ b.OB
  n8O : b.X8 ≠ b.OB
structure TL (b : TB) (m : Nat) (A0 A : Hp) (o : List Int) (L : List (Int × Int)) : Prop where
  low : ∀ z, z < b.N0 → A.get z = A0.get z
  x7 : A.get b.X7 = some (.cells [rowS1 b.OB m] false)
  ob : A.get b.OB = some (.cells (ints o) false)
  hp : HpAT b.N b.X8 A L
  nn : b.N ≤ A.n
theorem TL.ext {b : TB} {m : Nat} {A0 A A' : Hp} {o : List Int} {L : List (Int × Int)} (hb : b.Ok) (h : TL b m A0 A o L) (he : Ext' A A') : TL b m A0 A' o L := by
  have := hb.n7
  have := h.nn
  have := he.1
  exact ⟨fun z hz => by rw [he.2 z (by omega), h.low z hz], he.get h.x7, he.get h.ob, h.hp.ext he, by omega⟩
theorem TL.noB {b : TB} {m : Nat} {A0 A : Hp} {o : List Int} {L : List (Int × Int)} (h : TL b m A0 A o L) : ∀ z, z < b.N → ¬ HeBT A b.X8 z := fun z hz hB => by
  obtain ⟨sv', q1, q2⟩ := hB
  obtain ⟨sv2, q3, q4⟩ := h.hp.e
  rw [q3] at q1
  cases q1
  have := (q4.blk q2).1
  omega
structure TUp (b : TB) (A A' : Hp) : Prop where
  n : A.n ≤ A'.n
  o : ∀ z, z < A.n → z ≠ b.X8 → z ≠ b.OB → ¬ HeBT A b.X8 z → A'.get z = A.get z
  b : ∀ z, z < A.n → HeBT A' b.X8 z → HeBT A b.X8 z
theorem TUp.of {b : TB} {A A' : Hp} (h : Ext' A A') (hX : b.X8 < A.n) : TUp b A A' := ⟨h.1, fun z hz _ _ _ => h.2 z hz, (HUpT.of h hX).b⟩
theorem TUp.heap {b : TB} {A A' : Hp} (h : HUpT b.X8 A A') : TUp b A A' := ⟨h.n, fun z hz h1 _ h3 => h.o z hz h1 h3, h.b⟩
theorem TUp.row {b : TB} {A A' : Hp} (hn : A'.n = A.n) (hO : b.X8 ≠ b.OB) (ho : ∀ z, z ≠ b.OB → A'.get z = A.get z) : TUp b A A' := ⟨by omega, fun z _ _ h2 _ => ho z h2, fun z _ hB => by
  obtain ⟨sv, h1, h2⟩ := hB
  exact ⟨sv, by rw [← ho _ hO]; exact h1, h2⟩⟩
theorem TUp.trans {b : TB} {A A' A'' : Hp} (h : TUp b A A') (h' : TUp b A' A'') : TUp b A A'' :=
  ⟨Nat.le_trans h.n h'.n, fun z hz h1 h2 hb => (h'.o z (Nat.lt_of_lt_of_le hz h.n) h1 h2 fun hb' => hb (h.b z hz hb')).trans (h.o z hz h1 h2 hb), fun z hz hb => h.b z hz (h'.b z (Nat.lt_of_lt_of_le hz h.n) hb)⟩
structure SafT (b : TB) (A : Hp) (z : Nat) (k : ABlk) : Prop where
  at_ : A.get z = some k
  lo : b.N ≤ z
  no : ¬ HeBT A b.X8 z
theorem SafT.up {b : TB} {A A' : Hp} {z : Nat} {k : ABlk} (hb : b.Ok) (h : SafT b A z k) (u : TUp b A A') : SafT b A' z k := by
  have h8 := hb.n8
  have hO := hb.nO
  have hl := h.lo
  have hz := Hp.lt_of_get h.at_
  exact ⟨(u.o z hz (by omega) (by omega) h.no).trans h.at_, hl, fun hB => h.no (u.b z hz hB)⟩
theorem SafT.new {b : TB} {A A' : Hp} {z : Nat} {k : ABlk} {L : List (Int × Int)} (hp : HpAT b.N b.X8 A L) (hN : b.N ≤ A.n) (he : Ext' A A') (hz : A.n ≤ z) (hk : A'.get z = some k) : SafT b A' z k := by
  refine ⟨hk, by omega, fun hB => ?_⟩
  obtain ⟨sv, s1, s2⟩ := hB
  obtain ⟨sv', q1, q2⟩ := hp.e
  rw [he.get q1] at s1
  cases s1
  have := (q2.blk s2).2
  omega
theorem SafT.set {b : TB} {A : Hp} {z : Nat} {k : ABlk} (hb : b.Ok) (h : SafT b A z k) (k' : ABlk) : SafT b (A.set z (some k')) z k' := by
  refine ⟨get_set_same h.at_, h.lo, fun hB => h.no ?_⟩
  obtain ⟨sv, s1, s2⟩ := hB
  have h8 := hb.n8
  have hl := h.lo
  rw [get_set_ne (Hp.lt_of_get h.at_) (by omega)] at s1
  exact ⟨sv, s1, s2⟩
theorem SafT.set_ne {b : TB} {A : Hp} {z y : Nat} {k ky : ABlk} {k' : Option ABlk} (hb : b.Ok) (hy : SafT b A y ky) (hz : SafT b A z k) (hyz : y ≠ z) : SafT b (A.set z k') y ky := by
  have h8 := hb.n8
  have hl := hz.lo
  refine ⟨(get_set_ne (Hp.lt_of_get hz.at_) hyz).trans hy.at_, hy.lo, fun hB => hy.no ?_⟩
  obtain ⟨sv, s1, s2⟩ := hB
  rw [get_set_ne (Hp.lt_of_get hz.at_) (by omega)] at s1
  exact ⟨sv, s1, s2⟩
theorem TL.set {b : TB} {m : Nat} {A0 A : Hp} {o : List Int} {L : List (Int × Int)} {z : Nat} {k : ABlk} {k' : Option ABlk} (hb : b.Ok) (h : TL b m A0 A o L) (hz : SafT b A z k) : TL b m A0 (A.set z k') o L := by
  have h7 := hb.n7
  have h8 := hb.n8
  have hO := hb.nO
  have hl := hz.lo
  have e : ∀ y, y ≠ z → (A.set z k').get y = A.get y := fun y hy => get_set_ne (Hp.lt_of_get hz.at_) hy
  refine ⟨fun y hy => (e y (by omega)).trans (h.low y hy), (e _ (by omega)).trans h.x7, (e _ (by omega)).trans h.ob, ?_, h.nn⟩
  obtain ⟨sv, s1, s2⟩ := h.hp.e
  exact ⟨⟨sv, (e _ (by omega)).trans s1, s2.keep fun y hy => e y fun hyz => hz.no ⟨sv, s1, by rw [← hyz]; exact hy⟩⟩, h.hp.lt⟩
theorem TL.row {b : TB} {m : Nat} {A0 A : Hp} {o o' : List Int} {L : List (Int × Int)} (hb : b.Ok) (h : TL b m A0 A o L) : TL b m A0 (A.set b.OB (some (.cells (ints o') false))) o' L ∧ TUp b A (A.set b.OB (some (.cells (ints o') false))) := by
  have h7 := hb.n7
  have h8 := hb.n8
  have hO := hb.nO
  have e : ∀ y, y ≠ b.OB → (A.set b.OB (some (.cells (ints o') false))).get y = A.get y := fun y hy => get_set_ne (Hp.lt_of_get h.ob) hy
  refine ⟨⟨fun y hy => (e y (by omega)).trans (h.low y hy), (e _ hb.n7O).trans h.x7, get_set_same h.ob, ?_, h.nn⟩, TUp.row rfl hb.n8O e⟩
  obtain ⟨sv, s1, s2⟩ := h.hp.e
  exact ⟨⟨sv, (e _ hb.n8O).trans s1, s2.keep fun y hy => e y (by have := (s2.blk hy).1; omega)⟩, h.hp.lt⟩
theorem TL.heap {b : TB} {m : Nat} {A0 A A' : Hp} {o : List Int} {L L' : List (Int × Int)} (hb : b.Ok) (h : TL b m A0 A o L) (hH : HpAT b.N b.X8 A' L') (hU : HUpT b.X8 A A') : TL b m A0 A' o L' := by
  have k7 := hb.n7
  have k8 := hb.n8
  have kO := hb.nO
  have hnn := h.nn
  have hnB := h.noB
  refine ⟨fun z hz => ?_, ?_, ?_, hH, by have := hU.n; omega⟩
  · rw [hU.o z (by omega) (by omega) (hnB z (by omega)), h.low z hz]
  · rw [hU.o _ (by omega) hb.n78 (hnB _ (by omega))]; exact h.x7
  · rw [hU.o _ (by omega) (Ne.symm hb.n8O) (hnB _ (by omega))]; exact h.ob
structure GoT (b : TB) (P : TPar) (A0 : Hp) (K0 : Nat) (F : List (Nat × ABlk)) (k : Option Cur) (A : Hp) : Prop where
  e : ∃ o L, TL b P.m A0 A o L ∧ TMid P o L k ∧ 2 * potT o + L.length ≤ K0
  F : ∀ x, x ∈ F → SafT b A x.1 x.2
theorem GoT.ext {b : TB} {P : TPar} {A0 A A' : Hp} {K0 : Nat} {F : List (Nat × ABlk)} {k : Option Cur} (hb : b.Ok) (h : GoT b P A0 K0 F k A) (he : Ext' A A') : GoT b P A0 K0 F k A' := by
  obtain ⟨o, L, h1, h2, h3⟩ := h.e
  have h8 := hb.n8
  have := h1.nn
  exact ⟨⟨o, L, h1.ext hb he, h2, h3⟩, fun x hx => (h.F x hx).up hb (TUp.of he (by omega))⟩
theorem GoT.nn {b : TB} {P : TPar} {A0 A : Hp} {K0 : Nat} {F : List (Nat × ABlk)} {k : Option Cur} (h : GoT b P A0 K0 F k A) : b.N ≤ A.n := by
  obtain ⟨o, L, h1, _⟩ := h.e
  exact h1.nn
theorem GoT.new {b : TB} {P : TPar} {A0 A A' : Hp} {K0 : Nat} {F : List (Nat × ABlk)} {k : Option Cur} {z : Nat} {kz : ABlk} (h : GoT b P A0 K0 F k A) (he : Ext' A A') (hz : A.n ≤ z) (hk : A'.get z = some kz) : SafT b A' z kz := by
  obtain ⟨o, L, h1, _⟩ := h.e
  exact SafT.new h1.hp h1.nn he hz hk
theorem GoT.mono {b : TB} {P : TPar} {A0 A : Hp} {K0 : Nat} {F F' : List (Nat × ABlk)} {k : Option Cur} (h : GoT b P A0 K0 F k A) (hF : ∀ x, x ∈ F' → x ∈ F) : GoT b P A0 K0 F' k A := ⟨h.e, fun x hx => h.F x (hF x hx)⟩
def asg329 : ACode := (.ops [
oM 11 51])
def body329r : ACode := (.block 5
 (.seq
 (.ops [
oF 52 10 1,
oL 53 52,
oL 54 3,
oB 55 .add 53 54,
oM 12 55])
 (.seq
 (.ops [
oF 56 10 1,
oL 57 56,
oL 58 7,
oF 59 10 0,
oL 60 59,
oI 61 58 60 1,
oL 62 61,
oB 63 .eql 57 62,
oM 64 63,
oN 65 64 true 12,
oQ 66 64 true (.load (.t 7) none),
oN 67 64 true 11,
oQ 68 64 true (.idxS (.t 66) (.t 67) 1),
oQ 69 64 true (.load (.t 68) none),
oQ 70 64 true (.bin .lss (.t 65) (.t 69)),
oP 71 (.pick (.t 64) (.t 70) (.k (.bool false)))])
 (.cond (.t 71)
 (.seq
 (.ops [
oL 72 7,
oM 73 11,
oM 74 12,
oI 75 72 73 1,
oT 75 74 1])
 (.ops [
oM 76 11,
oM 77 12,
oP 78 (.build [.int .i64 0, .int .i64 0] [(0, 1, .t 76), (1, 1, .t 77)]),
oA 79 277 [.t 6, .t 78] false]))
 .skip))))
section
variable {g : Nat} {rd : Option Nat} {T : List Value} {D : List Nat} {A : Hp} {Q : Ex → St → Prop} {V : Value → Hp → Prop}
theorem y329 {b : TB} {P : TPar} {A0 : Hp} {K0 : Nat} {F : List (Nat × ABlk)} {c d : Nat} {v : Int} {dn : List Nat} {T1 : List Value} {B10 Lr XS : Nat} (hb : b.Ok) (hP : TParOk P) (hm : P.m < 1000) (hK : K0 + 1 < 1000000000000) (hg : g ≤ b.N0) (hS : A0.get XS = some (.cells [.int .i64 P.st] false)) (hSN : XS < b.N0)
    (h : GoT b P A0 K0 F (some ⟨c, v, dn⟩) A) (hd : d ∈ P.nb c) (hder : P.Der c v) (hv : v ≤ 1200000) (h10 : (B10, ABlk.cells [.int .i64 c, .int .i64 v] false) ∈ F) (hLr : SafT b A Lr (recL T1 [51] asg329 body329r)) (hFL : ∀ x, x ∈ F → x.1 ≠ Lr)
    (t3 : tget T1 3 = .pointer (some ⟨XS, 0, none⟩)) (t6 : tget T1 6 = .pointer (some ⟨b.X8, 0, none⟩)) (t7 : tget T1 7 = .pointer (some ⟨b.X7, 0, none⟩)) (t10 : tget T1 10 = .pointer (some ⟨B10, 0, none⟩))
    (hV : ∀ A', GoT b P A0 K0 F (some ⟨c, v, dn ++ [d]⟩) A' → SafT b A' Lr (recL T1 [51] asg329 body329r) → V (.bool true) A') :
    WV AP KL g (.func (.yield Lr) #[] #[]) [.int .i64 d] A V := by
  obtain ⟨o, L, h1, h2, h3⟩ := h.e
  have hnn := h1.nn
  have hl := hLr.lo
  have k7 := hb.n7
  have k8 := hb.n8
  have kO := hb.nO
  refine WV_yield hLr.at_ (by omega) ?_
  obtain ⟨B, hB⟩ : ∃ B, B = A.set Lr (some (.loop { state := .busy, pending := none, tmps := T1, params := [51], assign := .ops [oM 11 51], body := body329r })) := ⟨_, rfl⟩
  rw [← hB]
  have hBS : TL b P.m A0 B o L := by rw [hB]; exact h1.set hb hLr
  have hBL : SafT b B Lr (.loop { state := .busy, pending := none, tmps := T1, params := [51], assign := .ops [oM 11 51], body := body329r }) := by rw [hB]; exact hLr.set hb _
  have hBF : ∀ x, x ∈ F → SafT b B x.1 x.2 := fun x hx => by rw [hB]; exact (h.F x hx).set_ne hb hLr (hFL x hx)
  have b10 := (hBF _ h10).at_
  have bS : B.get XS = some (.cells [.int .i64 P.st] false) := by rw [hBS.low _ hSN]; exact hS
  have hcm := hder.lt hP
  have hdm := hP.nb c hcm d hd
  have hvl := hder.ge hP
  have hst := hP.st
  have hol := h2.len
  have e1 : wr .i64 (v + P.st) = v + P.st := wrId (by omega) (by omega)
  obtain ⟨m, hmm⟩ : ∃ m, m = P.m := ⟨_, rfl⟩
  have x7 := hBS.x7
  unfold rowS1 at x7
  rw [← hmm] at x7 hcm hdm hol
  have obs := hBS.ob
  have fin : ∀ {A' : Hp} {o' : List Int} {L' : List (Int × Int)}, TL b P.m A0 A' o' L' → TMid P o' L' (some ⟨c, v, dn ++ [d]⟩) → TUp b B A' → 2 * potT o' + L'.length ≤ K0 →
      (∃ r2, A'.get Lr = some (.loop r2) ∧ r2 = { ({ state := .ready, pending := none, tmps := T1, params := [51], assign := .ops [oM 11 51], body := body329r } : ALoop) with state := .busy }) ∧ V (.bool true) (A'.set Lr (some (recL T1 [51] asg329 body329r))) := fun {A' o' L'} q1 q2 q3 q4 => by
    have hLr' := hBL.up hb q3
    exact ⟨⟨_, hLr'.at_, rfl⟩, hV _ ⟨⟨o', L', q1.set hb hLr', q2, q4⟩, fun x hx => ((hBF x hx).up hb q3).set_ne hb hLr' (hFL x hx)⟩ (hLr'.set hb _)⟩
  by_cases hvo : v = gi o c
  · by_cases hlt : v + P.st < gi o d
    · obtain ⟨R1, R2⟩ := hBS.row (o' := o.set d (v + P.st)) hb
      obtain ⟨A2, hA2⟩ : ∃ A2, A2 = B.set b.OB (some (.cells (ints (o.set d (v + P.st))) false)) := ⟨_, rfl⟩
      have st1 : storeB (some (.cells (ints o) false)) g B b.OB d [.int .i64 (v + P.st)] 1 = some (undef, A2) := by
        have := storeB_cells (A := B) (g := g) (k := b.OB) (o := d) (size := 1) (cs := ints o) (vs := [.int .i64 (v + P.st)]) rfl (by omega) (by rw [ints_length]; omega) rfl
        rw [setRange_intsI (by omega)] at this
        rw [this, hA2]
      rw [← hA2] at R1 R2
      simp (disch := as_aux_lemma => first | omega | simp only [hDs] <;> omega | simp [isCell]) [hRs, takeMarks, resA, resAll, resOne, Value.cells, body329r, t3, t6, t7, t10, b10, bS, x7, obs, e1, idxSA_ok, hcm, hdm, ints_get (show c < o.length by omega), ints_get (show d < o.length by omega), ← hvo, hlt, st1, fillA, setRange]
      refine w277T (x := (d : Int)) (y := v + P.st) R1.hp (by have := R1.nn; omega) (by omega) (by omega) fun v' A3 L' hl' hmem hH hU => ?_
      simp (disch := as_aux_lemma => first | omega | simp only [hDs] <;> omega | simp [isCell]) [hRs, takeMarks, resA, resAll, resOne, Value.cells]
      refine ⟨rfl, fin (R1.heap hb hH hU) (h2.low hP (hder.lt hP) hvo.symm hd hlt hmem) (R2.trans (TUp.heap hU)) ?_⟩
      have := potT_low (o := o) (d := d) (v := v + P.st) (by omega) (by omega) hlt
      omega
    · simp (disch := as_aux_lemma => first | omega | simp only [hDs] <;> omega | simp [isCell]) [hRs, takeMarks, resA, resAll, resOne, Value.cells, body329r, t3, t6, t7, t10, b10, bS, x7, obs, e1, idxSA_ok, hcm, hdm, ints_get (show c < o.length by omega), ints_get (show d < o.length by omega), ← hvo, hlt]
      exact ⟨rfl, fin hBS (h2.skip fun _ => by omega) (TUp.of ⟨Nat.le_refl _, fun _ _ => rfl⟩ (by have := hBS.nn; omega)) h3⟩
  · simp (disch := as_aux_lemma => first | omega | simp only [hDs] <;> omega | simp [isCell]) [hRs, takeMarks, resA, resAll, resOne, Value.cells, body329r, t3, t6, t7, t10, b10, bS, x7, obs, e1, idxSA_ok, hcm, hdm, ints_get (show c < o.length by omega), ints_get (show d < o.length by omega), hvo]
    exact ⟨rfl, fin hBS (h2.skip fun e => absurd e.symm hvo) (TUp.of ⟨Nat.le_refl _, fun _ _ => rfl⟩ (by have := hBS.nn; omega)) h3⟩
end
end Go.Ab.Grid
set_option maxRecDepth 100000
namespace Go.Ab.Grid
open Go Go.Ab
section
variable {g : Nat} {rd : Option Nat} {T : List Value} {D : List Nat} {A : Hp} {Q : Ex → St → Prop} {V : Value → Hp → Prop}
theorem range329 {b : TB} {P : TPar} {A0 C0 : Hp} {K0 : Nat} {F : List (Nat × ABlk)} {c : Nat} {v w h s : Int} {sl : Value} {T1 : List Value} {B10 gb cb XS : Nat} (hb : b.Ok) (hP : TParOk P) (hm : P.m < 1000) (hK : K0 + 1 < 1000000000000) (hg : g ≤ b.N0) (hS : A0.get XS = some (.cells [.int .i64 P.st] false)) (hSN : XS < b.N0)
    (hw : 1 ≤ w ∧ w ≤ 24) (hh' : 1 ≤ h ∧ h ≤ 24) (hcw : (c : Int) < w * h) (hnb : P.nb c = (nbrs w h c).map Int.toNat)
    (hR : GoT b P A0 K0 F (some ⟨c, v, []⟩) C0) (hder : P.Der c v) (hv : v ≤ 1200000) (h10 : (B10, ABlk.cells [.int .i64 c, .int .i64 v] false) ∈ F) (hgb : (gb, ABlk.cells [.int .i64 w, .int .i64 h, .int .i64 s, sl] false) ∈ F) (hcb : (cb, ABlk.cells [.int .i64 c] false) ∈ F)
    (t3 : tget T1 3 = .pointer (some ⟨XS, 0, none⟩)) (t6 : tget T1 6 = .pointer (some ⟨b.X8, 0, none⟩)) (t7 : tget T1 7 = .pointer (some ⟨b.X7, 0, none⟩)) (t10 : tget T1 10 = .pointer (some ⟨B10, 0, none⟩)) (t50 : tget T1 50 = .func (.func 114) ⟨[]⟩ ⟨[.pointer (some ⟨cb, 0, none⟩), .pointer (some ⟨gb, 0, none⟩)]⟩)
    (hQ : ∀ A', GoT b P A0 K0 ((C0.n, .marks) :: F) none A' → Q .normal ⟨T1, C0.n :: D, A'⟩) :
    W AP KL g none (.rangeF (.t 50) [51] asg329 body329r) ⟨T1, D, C0⟩ Q := by
  refine W_range (h := 114) (first := []) (captured := [.pointer (some ⟨cb, 0, none⟩), .pointer (some ⟨gb, 0, none⟩)]) t50 ?_
  rw [WF_body (show KL 114 = none from rfl) (show AP 114 = some F114 from rfl)]
  have n7 := hb.n7
  have hnn := hR.nn
  obtain ⟨C, hC⟩ : ∃ C, C = (C0.push .marks).push (recL T1 [51] asg329 body329r) := ⟨_, rfl⟩
  rw [← hC]
  have hCn : C.n = C0.n + 2 := by rw [hC]; rfl
  have eC : Ext' C0 C := by rw [hC]; exact (Ext'.push C0 _).trans (Ext'.push _ _)
  have hCm : C.get C0.n = some .marks := by rw [hC, get_push_old (by simp), get_push_new]
  have hCL : C.get (C0.n + 1) = some (recL T1 [51] asg329 body329r) := by rw [hC, get_push_eq (by simp)]
  have hRC := hR.ext hb eC
  have hcb' := (hRC.F _ hcb).at_
  have hgb' := (hRC.F _ hgb).at_
  obtain ⟨⟨p1, p2⟩, p3, p4⟩ := cell_parts hw.1 (show (0 : Int) ≤ (c : Int) by omega) hcw
  have z4 : zeros 4 [Value.int .i64 0, .int .i64 0] = [.int .i64 0, .int .i64 0, .int .i64 0, .int .i64 0, .int .i64 0, .int .i64 0, .int .i64 0, .int .i64 0] := rfl
  have e1 : wr .i64 ((c : Int).tdiv w) = (c : Int).tdiv w := wrId (by omega) (by omega)
  have c24 : w * h ≤ 24 * 24 := Int.mul_le_mul hw.2 hh'.2 (by omega) (by omega)
  have e2 : wr .i64 ((c : Int).tmod w) = (c : Int).tmod w := wrId (by omega) (by omega)
  have e1' : wr .i64 ((c : Int) / w) = (c : Int) / w := by rwa [Int.tdiv_eq_ediv_of_nonneg (by omega)] at e1
  have hcbn := Hp.lt_of_get hcb'
  have hgbn := Hp.lt_of_get hgb'
  simp (disch := as_aux_lemma => first | omega | simp only [hDs] <;> omega | simp [isCell]) [hRs, takeMarks, resA, resAll, resOne, Value.cells, F114, hcb', hgb', binA_rem (show w ≠ 0 by omega), binA_quo (show w ≠ 0 by omega), e1, e2, slitA, fillA, setRange, z4]
  obtain ⟨B, hB⟩ : ∃ B, B = C.push (.cells (ints dirI) false) := ⟨_, rfl⟩
  have hB' := hB.symm
  simp only [dirI, ints, List.map_cons, List.map_nil] at hB'
  rw [hB']
  have eB : Ext' C B := by rw [hB]; exact Ext'.push C _
  have hBr : B.get C.n = some (.cells (ints dirI) false) := by rw [hB, get_push_new]
  obtain ⟨F', hF'⟩ : ∃ F', F' = (C.n, ABlk.cells (ints dirI) false) :: (C0.n, .marks) :: F := ⟨_, rfl⟩
  have hF : GoT b P A0 K0 F' (some ⟨c, v, []⟩) B := by
    refine ⟨(hRC.ext hb eB).e, fun x hx => ?_⟩
    rw [hF'] at hx
    rcases List.mem_cons.1 hx with rfl | hx
    · exact hRC.new eB (Nat.le_refl _) hBr
    · rcases List.mem_cons.1 hx with rfl | hx
      · exact hR.new (eC.trans eB) (Nat.le_refl _) (eB.get hCm)
      · exact (hRC.ext hb eB).F x hx
  have hFr : ∀ x, x ∈ F' → x.1 ≠ C0.n + 1 := fun x hx => by
    rw [hF'] at hx
    rcases List.mem_cons.1 hx with rfl | hx
    · simp only; omega
    · rcases List.mem_cons.1 hx with rfl | hx
      · simp only; omega
      · have := Hp.lt_of_get (hR.F x hx).at_; omega
  have hLr : SafT b B (C0.n + 1) (recL T1 [51] asg329 body329r) := hR.new (eC.trans eB) (by omega) (eB.get hCL)
  have m10 : (B10, ABlk.cells [.int .i64 c, .int .i64 v] false) ∈ F' := by rw [hF']; exact List.mem_cons_of_mem _ (List.mem_cons_of_mem _ h10)
  have mgb : (gb, ABlk.cells [.int .i64 w, .int .i64 h, .int .i64 s, sl] false) ∈ F' := by rw [hF']; exact List.mem_cons_of_mem _ (List.mem_cons_of_mem _ hgb)
  have mr : (C.n, ABlk.cells (ints dirI) false) ∈ F' := by rw [hF']; exact List.mem_cons_self ..
  refine loop114 (P := fun dn A => GoT b P A0 K0 F' (some ⟨c, v, dn.map Int.toNat⟩) A ∧ SafT b A (C0.n + 1) (recL T1 [51] asg329 body329r)) (L := C0.n + 1) (G := gb) (R := C.n) (w := w) (h := h) (c := c) (s := s) (sl := sl) hw hh' ⟨p1, p2⟩ ⟨p3, p4⟩
    (fun dn A hPA => ⟨(hPA.1.F _ mgb).at_, (hPA.1.F _ mr).at_, by have := hPA.1.nn; omega⟩) (fun dn A bl hPA => ⟨hPA.1.ext hb (Ext'.push A bl), hPA.2.up hb (TUp.of (Ext'.push A bl) (by have := hPA.1.nn; have := hb.n8; omega))⟩) (fun dn d A V _ hPA hd hV => ?_) (fun T' A' hPA => ?_) 4 0 (by omega) ⟨hF, hLr⟩ ?_ ?_ ?_ ?_ ?_ ?_ ?_
  · obtain ⟨d0, d1⟩ := nbrs_range hw.1 hd
    obtain ⟨dN, rfl⟩ : ∃ dN : Nat, d = (dN : Int) := ⟨d.toNat, by omega⟩
    refine y329 (c := c) (v := v) hb hP hm hK hg hS hSN hPA.1 (d := dN) ?_ hder hv m10 hPA.2 hFr t3 t6 t7 t10 fun A' k1 k2 => hV A' ⟨?_, k2⟩
    · rw [hnb]
      exact List.mem_map.2 ⟨_, hd, by simp⟩
    · rw [List.map_append]; exact k1
  · obtain ⟨o, L, k1, k2, k3⟩ := hPA.1.e
    have hL := hPA.2.at_
    simp (disch := as_aux_lemma => first | omega | simp only [hDs] <;> omega | simp [isCell]) [hRs, takeMarks, resA, resAll, resOne, Value.cells, EndQ, hL, recL]
    refine hQ _ ⟨⟨o, L, k1.set hb hPA.2, ?_, k3⟩, fun x hx => ?_⟩
    · rw [← hnb] at k2
      exact k2.shut
    · have hx' : x ∈ F' := by rw [hF']; exact List.mem_cons_of_mem _ hx
      exact (hPA.1.F x hx').set_ne hb hPA.2 (hFr x hx')
  all_goals simp [e1']
theorem loop329b {b : TB} {P : TPar} {A0 : Hp} {w h s : Int} {sl : Value} {X2 XS : Nat} (hb : b.Ok) (hP : TParOk P) (hm : P.m < 1000) (hg : g ≤ b.N0) (hS : A0.get XS = some (.cells [.int .i64 P.st] false)) (hSN : XS < b.N0)
    (hw : 1 ≤ w ∧ w ≤ 24) (hh' : 1 ≤ h ∧ h ≤ 24) (hcw : (P.m : Int) = w * h) (hnb : ∀ c, c < P.m → P.nb c = (nbrs w h c).map Int.toNat) (hX2 : A0.get X2 = some (.cells [.int .i64 w, .int .i64 h, .int .i64 s, sl] false)) (h2N : X2 < b.N0)
    (hQ : ∀ T' A' D' K0, GoT b P A0 K0 (fD D' []) none A' → D'.Nodup → (∃ o, TL b P.m A0 A' o [] ∧ TMid P o [] none) → tget T' 1 = tget T 1 → tget T' 7 = .pointer (some ⟨b.X7, 0, none⟩) → Q (.exit 2) ⟨T', D', A'⟩) :
    ∀ (K0 : Nat) {T1 : List Value} {A : Hp} {D : List Nat}, K0 + 1 < 1000000000000 → GoT b P A0 K0 (fD D []) none A → D.Nodup → tget T1 1 = tget T 1 → tget T1 2 = .pointer (some ⟨X2, 0, none⟩) → tget T1 3 = .pointer (some ⟨XS, 0, none⟩) → tget T1 6 = .pointer (some ⟨b.X8, 0, none⟩) → tget T1 7 = .pointer (some ⟨b.X7, 0, none⟩) →
      W AP KL g none (.loop body329b) ⟨T1, D, A⟩ Q := by
  intro K0
  induction K0 with
  | zero =>
    intro T1 A D hK hG hD t1 t2 t3 t6 t7
    obtain ⟨o, L, h1, h2, h3⟩ := hG.e
    have hl : L.length = 0 := by omega
    have hL : L = [] := List.eq_nil_of_length_eq_zero hl
    subst hL
    obtain ⟨sv, s1, s2⟩ := h1.hp.e
    have s3 := s2.len
    unfold bef330 at s1
    rw [W_loop]
    simp (disch := as_aux_lemma => first | omega | simp only [hDs] <;> omega | simp [isCell]) [hRs, takeMarks, resA, resAll, resOne, Value.cells, body329b, t6, s1, s3]
    exact hQ _ _ _ _ hG hD ⟨o, h1, h2⟩ (by simp [t1]) (by simp [t7])
  | succ K0 ih =>
    intro T1 A D hK hG hD t1 t2 t3 t6 t7
    obtain ⟨o, L, h1, h2, h3⟩ := hG.e
    obtain ⟨sv, s1, s2⟩ := h1.hp.e
    have s3 := s2.len
    unfold bef330 at s1
    by_cases hl : L.length = 0
    · have hL : L = [] := List.eq_nil_of_length_eq_zero hl
      subst hL
      rw [W_loop]
      simp (disch := as_aux_lemma => first | omega | simp only [hDs] <;> omega | simp [isCell]) [hRs, takeMarks, resA, resAll, resOne, Value.cells, body329b, t6, s1, s3]
      exact hQ _ _ _ _ hG hD ⟨o, h1, h2⟩ (by simp [t1]) (by simp [t7])
    have h8 := hb.n8
    rw [W_loop]
    simp (disch := as_aux_lemma => first | omega | simp only [hDs] <;> omega | simp [isCell]) [hRs, takeMarks, resA, resAll, resOne, Value.cells, body329b, t6, s1, s3, show (0 : Int) < L.length by omega, show 0 < L.length by omega]
    refine w278T h1.hp h1.nn (by omega) (by omega) (by omega) fun A1 L' x y m1 m2 m3 m4 m5 m6 => ?_
    obtain ⟨c, hc, hder, hy⟩ := h2.heap _ m1
    simp only at hc hder hy
    subst hc
    have hcm := hder.lt hP
    have u1 : TUp b A A1 := TUp.heap m6
    have hnn := h1.nn
    have k7 := hb.n7
    have kO := hb.nO
    have sl1 : TL b P.m A0 A1 o L' := h1.heap hb m5 m6
    have g1 : GoT b P A0 K0 (fD D []) (some ⟨c, y, []⟩) A1 := ⟨⟨o, L', sl1, h2.take m3 m4, by omega⟩, fun z hz => (hG.F z hz).up hb u1⟩
    obtain ⟨B, hB⟩ : ∃ B, B = A1.push (.cells [.int .i64 c, .int .i64 y] false) := ⟨_, rfl⟩
    have eB : Ext' A1 B := by rw [hB]; exact Ext'.push A1 _
    have hBn : B.n = A1.n + 1 := by rw [hB]; rfl
    have m6n := m6.n
    have gB := g1.ext hb eB
    have x2 : B.get X2 = some (.cells [.int .i64 w, .int .i64 h, .int .i64 s, sl] false) := by rw [eB.2 _ (by have := m6.n; omega), sl1.low _ h2N]; exact hX2
    have b12 : B.get A1.n = some (.cells [.int .i64 c, .int .i64 y] false) := by rw [hB, get_push_new]
    simp (disch := as_aux_lemma => first | omega | simp only [hDs] <;> omega | simp [isCell]) [hRs, takeMarks, resA, resAll, resOne, Value.cells, t2, storeB_cells, setRange, set_push_eq, ← hB, x2, b12, WF_body (K := KL) rfl (show AP 112 = some F112 from rfl), F112]
    obtain ⟨C, hC⟩ : ∃ C, C = (B.push (.cells [.int .i64 w, .int .i64 h, .int .i64 s, sl] false)).push (.cells [.int .i64 c] false) := ⟨_, rfl⟩
    have eC : Ext' B C := by rw [hC]; exact (Ext'.push B _).trans (Ext'.push _ _)
    have hCn : C.n = B.n + 2 := by rw [hC]; rfl
    have cgb : C.get B.n = some (.cells [.int .i64 w, .int .i64 h, .int .i64 s, sl] false) := by rw [hC, get_push_old (by simp), get_push_new]
    have ccb : C.get (B.n + 1) = some (.cells [.int .i64 c] false) := by rw [hC, get_push_eq (by simp)]
    rw [← hC]
    obtain ⟨F, hF⟩ : ∃ F, F = fD D [] := ⟨_, rfl⟩
    rw [← hF] at g1 gB
    have gC : GoT b P A0 K0 ((A1.n, ABlk.cells [.int .i64 c, .int .i64 y] false) :: (B.n, ABlk.cells [.int .i64 w, .int .i64 h, .int .i64 s, sl] false) :: (B.n + 1, ABlk.cells [.int .i64 c] false) :: F) (some ⟨c, y, []⟩) C := by
      refine ⟨(gB.ext hb eC).e, fun x hx => ?_⟩
      rcases List.mem_cons.1 hx with rfl | hx
      · exact g1.new (eB.trans eC) (Nat.le_refl _) (eC.get b12)
      · rcases List.mem_cons.1 hx with rfl | hx
        · exact gB.new eC (Nat.le_refl _) cgb
        · rcases List.mem_cons.1 hx with rfl | hx
          · exact gB.new eC (Nat.le_succ _) ccb
          · exact (gB.ext hb eC).F x hx
    have hcI : (c : Int) < w * h := by rw [← hcw]; omega
    refine range329 (b := b) (c := c) (v := y) (w := w) (h := h) (s := s) (sl := sl) (B10 := A1.n) (gb := B.n) (cb := B.n + 1) (T1 := _) (XS := XS) hb hP hm (by omega) hg hS hSN hw hh' hcI (hnb c hcm) gC hder hy (by simp) (by simp) (by simp) ?_ ?_ ?_ ?_ ?_ fun A2 gA2 => ?_
    · simp [t3]
    · simp [t6]
    · simp [t7]
    · simp
    · simp
    · simp (disch := as_aux_lemma => first | omega | simp only [hDs] <;> omega | simp [isCell]) [hRs, takeMarks, resA, resAll, resOne, Value.cells]
      refine ih (by omega) (D := C.n :: D) (gA2.mono fun x hx => ?_) ?_ ?_ ?_ ?_ ?_ ?_
      · unfold fD at hx
        rw [List.map_cons, List.cons_append] at hx
        rcases List.mem_cons.1 hx with rfl | hx
        · exact List.mem_cons_self ..
        · have hx' : x ∈ F := by rw [hF]; exact hx
          simp [hx']
      · refine List.nodup_cons.2 ⟨fun hmem => ?_, hD⟩
        have : (C.n, ABlk.marks) ∈ fD D [] := by unfold fD; simp [hmem]
        have := Hp.lt_of_get (hG.F _ this).at_
        have := m6.n
        simp only at *
        omega
      · simp [t1]
      · simp [t2]
      · simp [t3]
      · simp [t6]
      · simp [t7]
end
end Go.Ab.Grid
