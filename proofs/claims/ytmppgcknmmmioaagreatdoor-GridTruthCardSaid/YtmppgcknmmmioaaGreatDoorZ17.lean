/- The plain law: a wall as high as the ground may be bars a cell, and one neighbor at least is reached. -/
import Derived.Test.YtmppgcknmmmioaaGreatDoorZ16
set_option linter.unusedSimpArgs false
set_option linter.unusedVariables false
set_option linter.unusedSectionVars false
set_option maxRecDepth 100000
namespace Go.Ab.Grid
open Go Go.Ab
def outB (m : Nat) (cs : List Int) (i : Nat) : Bool := !(decide (0 ≤ gi cs i) && decide (gi cs i ≤ (m : Int) - 1))
def seaE (w h s : Int) (m : Nat) (zs : List Int) (n : Nat) (cs : List Int) : Int :=
  if gridE w h s m zs = 0 then if n = 0 then 18 else if (List.range n).any (outB m cs) = true then 4 else 0 else gridE w h s m zs
def seaN (cs : List Int) : List Nat := cs.map Int.toNat
theorem seaE_zero {w h s : Int} {m : Nat} {zs : List Int} {n : Nat} {cs : List Int} (hl : cs.length = n) (h0 : seaE w h s m zs n cs = 0) : gridE w h s m zs = 0 ∧ 0 < n ∧ (∀ c, c ∈ seaN cs → c < m) ∧ castS (seaN cs) = cs := by
  unfold seaE at h0
  split at h0
  · rename_i hE
    split at h0
    · cases h0
    · split at h0
      · cases h0
      · rename_i hn ha
        have hall : ∀ i, i < n → 0 ≤ gi cs i ∧ gi cs i ≤ (m : Int) - 1 := fun i hi => by
          have h1 : (List.range n).any (outB m cs) = false := by simpa using ha
          rw [List.any_eq_false] at h1
          have h2 := h1 i (List.mem_range.2 hi)
          unfold outB at h2
          simp only [Bool.not_eq_true', Bool.not_eq_false, Bool.and_eq_true, decide_eq_true_eq] at h2
          exact h2
        have hmem : ∀ x, x ∈ cs → 0 ≤ x ∧ x ≤ (m : Int) - 1 := fun x hx => by
          obtain ⟨i, hi, rfl⟩ := List.getElem_of_mem hx
          have := hall i (by omega)
          rwa [gi_eq hi] at this
        refine ⟨hE, by omega, fun c hc => ?_, ?_⟩
        · obtain ⟨x, hx, rfl⟩ := List.mem_map.1 hc
          have := hmem x hx
          omega
        · unfold castS seaN
          rw [List.map_map]
          conv => rhs; rw [← List.map_id cs]
          refine List.map_congr_left fun x hx => ?_
          have := hmem x hx
          show ((x.toNat : Nat) : Int) = x
          omega
  · rename_i hE; exact absurd h0 hE
section
variable {g : Nat} {rd : Option Nat} {T : List Value} {D : List Nat} {A : Hp} {Q : Ex → St → Prop} {V : Value → Hp → Prop}
theorem w266 {w h s : Int} {zs : List Int} {sl sv0 : Value} {m n : Nat} {cs : List Int} (hm : m < 1000000) (hn : n < 1000000) (hz : RdS A 1 n (ints cs) sv0) (hsl : RdS A 2 m (ints zs) sl)
    (hV : ∀ A', Ext' A A' → V (.int .i64 (seaE w h s m zs n cs)) A') : WF AP KL g 266 [gridV w h s sl, sv0] A V := by
  rw [WF_body (show KL 266 = none from rfl) (show AP 266 = some F266 from rfl)]
  obtain ⟨B, hB⟩ : ∃ B, B = A.push (.cells [.int .i64 w, .int .i64 h, .int .i64 s, sl] false) := ⟨_, rfl⟩
  have eB : Ext' A B := by rw [hB]; exact Ext'.push A _
  have hX : B.get A.n = some (.cells [.int .i64 w, .int .i64 h, .int .i64 s, sl] false) := by rw [hB, get_push_new]
  have hl := hz.len
  have hcl : cs.length = n := by have := hz.1; simpa using this
  simp (disch := as_aux_lemma => first | omega | simp only [hDs] <;> omega | simp [isCell]) [hRs, takeMarks, resA, resAll, resOne, Value.cells, F266, gridV, ← hB, hX]
  refine w37 (eB.rdS hsl) hm fun A1 e1 => ?_
  by_cases hE : gridE w h s m zs = 0
  · by_cases h0 : n = 0
    · have := hV A1 (eB.trans e1)
      rw [seaE, if_pos hE, if_pos h0] at this
      simp (disch := as_aux_lemma => first | omega | simp only [hDs] <;> omega | simp [isCell]) [hRs, takeMarks, resA, resAll, resOne, Value.cells, hE, hl, h0]
      exact this
    · simp (disch := as_aux_lemma => first | omega | simp only [hDs] <;> omega | simp [isCell]) [hRs, takeMarks, resA, resAll, resOne, Value.cells, hE, hl, show ¬ (n : Int) = 0 by omega, h0]
      refine w180 (n := n) (row := ints cs) (val := fun i => .int .i64 (gi cs i)) (p := outB m cs) ((eB.trans e1).rdS hz).rdP (fun i hi => by rw [partA_none, ints_get (by omega)]) (fun i hi A2 V2 e2 hV2 => ?_) hn fun A2 e2 => ?_
      · simp (disch := as_aux_lemma => first | omega | simp only [hDs] <;> omega | simp [isCell]) [hRs, takeMarks, resA, resAll, resOne, Value.cells]
        refine w272 (m := m) hm ((e1.trans e2).get hX) hsl.len ?_
        exact hV2 A2 (Ext'.refl _)
      · have := hV A2 ((eB.trans e1).trans e2)
        cases ha : (List.range n).any (outB m cs) with
        | true =>
          rw [seaE, if_pos hE, if_neg h0, if_pos ha] at this
          simp (disch := as_aux_lemma => first | omega | simp only [hDs] <;> omega | simp [isCell]) [hRs, takeMarks, resA, resAll, resOne, Value.cells, ha]
          exact this
        | false =>
          rw [seaE, if_pos hE, if_neg h0, if_neg (by rw [ha]; decide)] at this
          simp (disch := as_aux_lemma => first | omega | simp only [hDs] <;> omega | simp [isCell]) [hRs, takeMarks, resA, resAll, resOne, Value.cells, ha]
          exact this
  · have := hV A1 (eB.trans e1)
    rw [seaE, if_neg hE] at this
    simp (disch := as_aux_lemma => first | omega | simp only [hDs] <;> omega | simp [isCell]) [hRs, takeMarks, resA, resAll, resOne, Value.cells, hE]
    exact this
def SillV (A : Hp) (w h s : Int) (m : Nat) (zs : List Int) (n : Nat) (cs : List Int) (N : Nat) (sv : Value) (e : Int) : Prop :=
  e = seaE w h s m zs n cs ∧ if e = 0 then ∃ lo up, SFin (sPar false none w h m zs (seaN cs)) lo ∧ SFin (sPar true none w h m zs (seaN cs)) up ∧ RdS A 2 m (ints (pairI lo up m)) sv ∧ ∀ b, blkOf sv = some b → N ≤ b else sv = .slice none 0 0
theorem w265 {w h s : Int} {zs : List Int} {sl sv0 : Value} {m n : Nat} {cs : List Int} (hm60 : m ≤ 60) (hn : n < 1000000) (hz : RdS A 1 n (ints cs) sv0) (hsl : RdS A 2 m (ints zs) sl) (hg : g ≤ A.n)
    (hV : ∀ A' sv e, Ext' A A' → SillV A' w h s m zs n cs A.n sv e → V (.tuple ⟨[sv, .int .i64 e]⟩) A') : WF AP KL g 265 [gridV w h s sl, sv0] A V := by
  rw [WF_body (show KL 265 = none from rfl) (show AP 265 = some F265 from rfl)]
  obtain ⟨pz, cz, rfl⟩ : ∃ p c, sv0 = .slice p n c := by rcases hz with ⟨_, ⟨rfl, rfl⟩ | ⟨_, _, _, rfl, _⟩⟩ <;> exact ⟨_, _, rfl⟩
  obtain ⟨sv0, hsv⟩ : ∃ sv0, sv0 = Value.slice pz n cz := ⟨_, rfl⟩
  have hcl : cs.length = n := by have := hz.1; simpa using this
  obtain ⟨B, hB⟩ : ∃ B, B = (A.push (.cells [.int .i64 w, .int .i64 h, .int .i64 s, sl] false)).push (.cells [.slice pz n cz] false) := ⟨_, rfl⟩
  have eB : Ext' A B := by rw [hB]; exact (Ext'.push A _).trans (Ext'.push _ _)
  have hBn : B.n = A.n + 2 := by rw [hB]; rfl
  have hX : B.get A.n = some (.cells [.int .i64 w, .int .i64 h, .int .i64 s, sl] false) := by rw [hB, get_push_old (by simp), get_push_new]
  have hS : B.get (A.n + 1) = some (.cells [.slice pz n cz] false) := by rw [hB, get_push_eq (by simp)]
  simp (disch := as_aux_lemma => first | omega | simp only [hDs] <;> omega | simp [isCell]) [hRs, takeMarks, resA, resAll, resOne, Value.cells, F265, gridV, ← hB, hX, hS]
  refine w266 (by omega) hn (eB.rdS hz) (eB.rdS hsl) fun A1 e1 => ?_
  have n1 := e1.1
  have hBe := eB.trans e1
  by_cases h0 : seaE w h s m zs n cs = 0
  · obtain ⟨hE, hn0, hsea, hcast⟩ := seaE_zero hcl h0
    have hsl' : (seaN cs).length = n := by simp [seaN, hcl]
    simp (disch := as_aux_lemma => first | omega | simp only [hDs] <;> omega | simp [isCell]) [hRs, takeMarks, resA, resAll, resOne, Value.cells, h0]
    refine w267 (sea := seaN cs) hm60 hsea (by omega) hE (e1.get hX) (e1.get hS) (by rw [hsl', hcast]; exact hBe.rdS hz) (hBe.rdS hsl) (by omega) fun A2 lo up sv k1 k2 k3 k4 k5 => ?_
    simp (disch := as_aux_lemma => first | omega | simp only [hDs] <;> omega | simp [isCell]) [hRs, takeMarks, resA, resAll, resOne, Value.cells]
    refine hV A2 sv 0 (hBe.trans k3) ⟨h0.symm, ?_⟩
    rw [if_pos rfl]
    exact ⟨lo, up, k1, k2, k4, fun b hb => by have := k5 b hb; omega⟩
  · simp (disch := as_aux_lemma => first | omega | simp only [hDs] <;> omega | simp [isCell]) [hRs, takeMarks, resA, resAll, resOne, Value.cells, h0]
    refine hV A1 _ _ hBe ⟨rfl, ?_⟩
    rw [if_neg h0]
end
end Go.Ab.Grid
set_option maxRecDepth 100000
namespace Go.Ab.Grid
open Go Go.Ab
def gB (l : List Bool) (i : Nat) : Bool := l.getD i false
def flS (a : Int) (rs : List Int) (o : Nat) (n : Nat) : List Bool := (List.range n).map fun i => decide (gi rs (i * 2 + o) < a)
theorem flS_succ {a : Int} {rs : List Int} {o n : Nat} : bools (flS a rs o (n + 1)) = bools (flS a rs o n) ++ [.bool (decide (gi rs (n * 2 + o) < a))] := by
  unfold flS bools; rw [List.range_succ]; simp
theorem flS_len {a : Int} {rs : List Int} {o n : Nat} : (bools (flS a rs o n)).length = n := by simp [bools, flS]
section
variable {g : Nat} {rd : Option Nat} {T : List Value} {D : List Nat} {A : Hp} {Q : Ex → St → Prop} {V : Value → Hp → Prop}
theorem w58s {a b : Int} (hV : ∀ A', Ext' A A' → V (.bool (validB a b (-20000) 20000)) A') : WF AP KL g 58 [.agg ⟨[.int .i64 a, .int .i64 b]⟩, .int .i64 20000] A V := by
  rw [WF_body (show KL 58 = none from rfl) (show AP 58 = some F58 from rfl)]
  have e1 : wr .i64 (-20000) = -20000 := by decide
  have hV' := hV _ (Ext'.push A (.cells [.int .i64 a, .int .i64 b] false))
  by_cases h : a ≤ b
  · by_cases h2 : -20000 ≤ a
    · simp (disch := as_aux_lemma => first | omega | simp only [hDs] <;> omega | simp [isCell]) [hRs, takeMarks, resA, resAll, resOne, Value.cells, F58, h, h2, e1]
      simpa [validB, h, h2] using hV'
    · simp (disch := as_aux_lemma => first | omega | simp only [hDs] <;> omega | simp [isCell]) [hRs, takeMarks, resA, resAll, resOne, Value.cells, F58, h, h2, e1]
      simpa [validB, h, h2] using hV'
  · simp (disch := as_aux_lemma => first | omega | simp only [hDs] <;> omega | simp [isCell]) [hRs, takeMarks, resA, resAll, resOne, Value.cells, F58, h]
    simpa [validB, h] using hV'
theorem loop253 {N X5 : Nat} {A0 : Hp} {rs : List Int} {sl : Value} {a b : Int} {m : Nat} (hm60 : m ≤ 60) (hsl : RdS A0 2 m (ints rs) sl) (hX5 : A0.get X5 = some (.cells [.int .i64 a, .int .i64 b] false)) (hN : A0.n = N) (hg : g ≤ N)
    (t5 : tget T 5 = .pointer (some ⟨X5, 0, none⟩)) (t26 : tget T 26 = sl) (t27 : tget T 27 = .int .i64 m)
    (hQ : ∀ T' A' s6 s7, tget T' 6 = s6 → tget T' 7 = s7 → AccS N A' 1 (bools (flS a rs 1 m)) s6 → AccS N A' 1 (bools (flS b rs 0 m)) s7 → Ext' A0 A' → Q (.exit 1) ⟨T', D, A'⟩) :
    ∀ (k i : Nat) {T1 : List Value} {A : Hp} {s6 s7 : Value}, i + k = m → KeepT [5, 26, 27] T T1 → tget T1 6 = s6 → tget T1 7 = s7 → tget T1 28 = .int .i64 i → AccS N A 1 (bools (flS a rs 1 i)) s6 → AccS N A 1 (bools (flS b rs 0 i)) s7 → (∀ z, blkOf s6 = some z → blkOf s7 ≠ some z) → Ext' A0 A → W AP KL g rd (.loop body253) ⟨T1, D, A⟩ Q := by
  intro k
  induction k with
  | zero =>
    intro i T1 A s6 s7 hik hk t6 t7 t28 h6 h7 hd he
    have : i = m := by omega
    subst this
    have u27 := (hk.at 27 rfl).trans t27
    rw [W_loop]
    simp (disch := as_aux_lemma => first | omega | simp only [hDs] <;> omega | simp [isCell]) [hRs, takeMarks, resA, resAll, resOne, Value.cells, body253, u27, t28]
    exact hQ _ A s6 s7 (by simp [t6]) (by simp [t7]) h6 h7 he
  | succ k ih =>
    intro i T1 A s6 s7 hik hk t6 t7 t28 h6 h7 hd he
    have u5 := (hk.at 5 rfl).trans t5
    have u26 := (hk.at 26 rfl).trans t26
    have u27 := (hk.at 27 rfl).trans t27
    obtain ⟨x, c, ro, rfl, hx⟩ := hsl.at (i := i) (by omega)
    have hll := hsl.1
    rw [ints_length] at hll
    have i2 := ints_two (l := rs) (o := i * 2) (by omega)
    have e3 : wr .i64 ((i : Int) + 1) = ((i + 1 : Nat) : Int) := by rw [wrId (by omega) (by omega)]; simp
    have hn := he.1
    have hx5n := Hp.lt_of_get hX5
    obtain ⟨A1, hA1⟩ : ∃ A1, A1 = A.push (.cells [.int .i64 (gi rs (i * 2)), .int .i64 (gi rs (i * 2 + 1))] false) := ⟨_, rfl⟩
    have e1 : Ext' A A1 := by rw [hA1]; exact Ext'.push A _
    have hn1 : A1.n = A.n + 1 := by rw [hA1]; rfl
    have b11 : A1.get A.n = some (.cells [.int .i64 (gi rs (i * 2)), .int .i64 (gi rs (i * 2 + 1))] false) := by rw [hA1, get_push_new]
    have h6a : AccS N A1 1 (bools (flS a rs 1 i)) s6 := h6.mono e1.2
    have h7a : AccS N A1 1 (bools (flS b rs 0 i)) s7 := h7.mono e1.2
    obtain ⟨s6', A2, ha, acc2, hold2, hn2, hb2⟩ := add_keep (g := g) (bytes := 1) (n := i) (ro := false) (new := [.bool (decide (gi rs (i * 2 + 1) < a))]) h6a hg (by omega) rfl (by decide) rfl (by rw [flS_len]; omega) (by unfold room; omega)
    have hX52 : A2.get X5 = some (.cells [.int .i64 a, .int .i64 b] false) := by rw [hold2 X5 (by omega) (fun h => by have := (h6a.blk_ge h).1; omega)]; exact (he.trans e1).get hX5
    have b12 : A2.get A.n = some (.cells [.int .i64 (gi rs (i * 2)), .int .i64 (gi rs (i * 2 + 1))] false) := by rw [hold2 A.n (by omega) (fun h => by have := (h6.blk_ge h).2; omega)]; exact b11
    have acc7 : AccS N A2 1 (bools (flS b rs 0 i)) s7 := AccS.keepB h7a fun z hz => hold2 z (h7a.blk_ge hz).2 fun h => hd z h hz
    obtain ⟨s7', A3, ha3, acc3, hold3, hn3, hb3⟩ := add_keep (g := g) (bytes := 1) (n := i) (ro := false) (new := [.bool (decide (gi rs (i * 2) < b))]) acc7 hg (by omega) rfl (by decide) rfl (by rw [flS_len]; omega) (by unfold room; omega)
    have acc6 : AccS N A3 1 (bools (flS a rs 1 i) ++ [.bool (decide (gi rs (i * 2 + 1) < a))]) s6' := AccS.keepB acc2 fun z hz => hold3 z (acc2.blk_ge hz).2 fun h => by
      have q1 := Option.some.inj (hb2.symm.trans hz)
      have := (h7a.blk_ge h).2
      omega
    have hsf : s6 = .slice none 0 0 ∨ ∃ y m', s6 = .slice (some ⟨y, 0, some 1⟩) m' m' ∧ y ≠ X5 ∧ y ≠ A.n := by
      rcases h6 with ⟨h, _⟩ | ⟨y, m', h, hy, hy2, _⟩
      · exact .inl h
      · have := Hp.lt_of_get hy
        exact .inr ⟨y, m', h, by omega, by omega⟩
    have hfin : ∀ {T'' : List Value}, KeepT [5, 26, 27] T1 T'' → tget T'' 6 = s6' → tget T'' 7 = s7' → tget T'' 28 = .int .i64 ((i + 1 : Nat) : Int) → W AP KL g rd (.loop body253) ⟨T'', D, A3⟩ Q := fun hk2 u6 u7 u28 => by
      refine ih (i + 1) (s6 := s6') (s7 := s7') (by omega) (hk.trans hk2) u6 u7 u28 (by rw [flS_succ]; exact acc6) (by rw [flS_succ]; exact acc3) (fun z hz h => ?_) ⟨by omega, fun z hz => ?_⟩
      · have q1 := Option.some.inj (hb2.symm.trans hz)
        have q2 := Option.some.inj (hb3.symm.trans h)
        have := (acc2.blk_ge hb2).2
        omega
      · rw [hold3 z (by omega) (fun h => by have := (h7a.blk_ge h).1; omega), hold2 z (by omega) (fun h => by have := (h6a.blk_ge h).1; omega), (he.trans e1).2 z (by omega)]
    rw [W_loop]
    rcases hsf with h | ⟨y, m', h, hy1, hy2⟩
    · subst h
      simp (disch := as_aux_lemma => first | omega | simp only [hDs] <;> omega | simp [isCell]) [hRs, takeMarks, resA, resAll, resOne, Value.cells, body253, t6, t7, t28, u5, u26, u27, show (i : Int) < m by omega, show i < m by omega, idxSA_ok, he.get hx, i2, storeB_cells, setRange, set_push_eq, setRange_all, ← hA1, b11, (he.trans e1).get hX5, slitA, fillA, ha, hX52, b12, ha3, apartA, e3]
      exact hfin (by simp) (by simp) (by simp) (by simp)
    · subst h
      simp (disch := as_aux_lemma => first | omega | simp only [hDs] <;> omega | simp [isCell]) [hRs, takeMarks, resA, resAll, resOne, Value.cells, body253, t6, t7, t28, u5, u26, u27, show (i : Int) < m by omega, show i < m by omega, idxSA_ok, he.get hx, i2, storeB_cells, setRange, set_push_eq, setRange_all, ← hA1, b11, (he.trans e1).get hX5, slitA, fillA, ha, hX52, b12, ha3, apartA, e3, hy1, hy2, Ne.symm hy1, Ne.symm hy2]
      exact hfin (by simp) (by simp) (by simp) (by simp)
def floodE (w h s : Int) (m : Nat) (zs : List Int) (n : Nat) (cs : List Int) (a b : Int) : Int := if seaE w h s m zs n cs = 0 then if validB a b (-20000) 20000 = true then 0 else 3 else seaE w h s m zs n cs
def FloodV (A : Hp) (w h s : Int) (m : Nat) (zs : List Int) (n : Nat) (cs : List Int) (a b : Int) (N : Nat) (s6 s7 : Value) (e : Int) : Prop :=
  e = floodE w h s m zs n cs a b ∧ if e = 0 then ∃ lo up, SFin (sPar false none w h m zs (seaN cs)) lo ∧ SFin (sPar true none w h m zs (seaN cs)) up ∧ RdS A 1 m (bools (flS a (pairI lo up m) 1 m)) s6 ∧ RdS A 1 m (bools (flS b (pairI lo up m) 0 m)) s7 ∧ (∀ y, blkOf s6 = some y → N ≤ y) ∧ (∀ y, blkOf s7 = some y → N ≤ y)
    else s6 = .slice none 0 0 ∧ s7 = .slice none 0 0
theorem w253 {w h s : Int} {zs : List Int} {sl sv0 : Value} {m n : Nat} {cs : List Int} {a b : Int} (hm60 : m ≤ 60) (hn : n < 1000000) (hz : RdS A 1 n (ints cs) sv0) (hsl : RdS A 2 m (ints zs) sl) (hg : g ≤ A.n)
    (hV : ∀ A' s6 s7 e, Ext' A A' → FloodV A' w h s m zs n cs a b A.n s6 s7 e → V (.tuple ⟨[s6, s7, .int .i64 e]⟩) A') :
    WF AP KL g 253 [gridV w h s sl, sv0, .agg ⟨[.int .i64 a, .int .i64 b]⟩] A V := by
  rw [WF_body (show KL 253 = none from rfl) (show AP 253 = some F253 from rfl)]
  obtain ⟨B, hB⟩ : ∃ B, B = (A.push (.cells [.int .i64 w, .int .i64 h, .int .i64 s, sl] false)).push (.cells [.int .i64 a, .int .i64 b] false) := ⟨_, rfl⟩
  have eB : Ext' A B := by rw [hB]; exact (Ext'.push A _).trans (Ext'.push _ _)
  have hBn : B.n = A.n + 2 := by rw [hB]; rfl
  have hX : B.get A.n = some (.cells [.int .i64 w, .int .i64 h, .int .i64 s, sl] false) := by rw [hB, get_push_old (by simp), get_push_new]
  have hS : B.get (A.n + 1) = some (.cells [.int .i64 a, .int .i64 b] false) := by rw [hB, get_push_eq (by simp)]
  simp (disch := as_aux_lemma => first | omega | simp only [hDs] <;> omega | simp [isCell]) [hRs, takeMarks, resA, resAll, resOne, Value.cells, F253, gridV, ← hB, hX]
  refine w265 (s := s) (zs := zs) (cs := cs) hm60 hn (eB.rdS hz) (eB.rdS hsl) (by omega) fun A1 sv e k3 hs => ?_
  have n1 := k3.1
  obtain ⟨he, hs⟩ := hs
  by_cases h0 : e = 0
  · subst h0
    rw [if_pos rfl] at hs
    obtain ⟨lo, up, k1, k2, k4, k5⟩ := hs
    have hl4 := k4.len
    simp (disch := as_aux_lemma => first | omega | simp only [hDs] <;> omega | simp [isCell]) [hRs, takeMarks, resA, resAll, resOne, Value.cells, k3.get hS]
    refine w58s fun A2 e2 => ?_
    have n2 := e2.1
    cases hab : validB a b (-20000) 20000 with
    | false =>
      simp (disch := as_aux_lemma => first | omega | simp only [hDs] <;> omega | simp [isCell]) [hRs, takeMarks, resA, resAll, resOne, Value.cells, hab]
      refine hV A2 _ _ 3 (eB.trans (k3.trans e2)) ⟨?_, ?_⟩
      · rw [floodE, if_pos he.symm, hab]; rfl
      · rw [if_neg (by decide)]; exact ⟨rfl, rfl⟩
    | true =>
      simp (disch := as_aux_lemma => first | omega | simp only [hDs] <;> omega | simp [isCell]) [hRs, takeMarks, resA, resAll, resOne, Value.cells, hab, hl4]
      refine loop253 (N := A2.n) (X5 := A.n + 1) (A0 := A2) (rs := pairI lo up m) (sl := sv) (a := a) (b := b) (m := m) hm60 (e2.rdS k4) ((k3.trans e2).get hS) rfl (by omega) (T := _) ?_ ?_ ?_ (fun T' A3 s6 s7 t6 t7 h6 h7 he' => ?_) m 0 (s6 := .slice none 0 0) (s7 := .slice none 0 0) (by omega) (fun _ _ => rfl) ?_ ?_ ?_ ?_ ?_ (fun _ h => by cases h) (Ext'.refl _)
      · simp
      · simp
      · simp [hl4]
      · simp (disch := as_aux_lemma => first | omega | simp only [hDs] <;> omega | simp [isCell]) [hRs, takeMarks, resA, resAll, resOne, Value.cells, t6, t7]
        refine hV A3 s6 s7 0 (eB.trans ((k3.trans e2).trans he')) ⟨?_, ?_⟩
        · rw [floodE, if_pos he.symm, if_pos hab]
        · rw [if_pos rfl]
          exact ⟨lo, up, k1, k2, h6.rd (by rw [flS_len]; omega) (by decide), h7.rd (by rw [flS_len]; omega) (by decide), fun y hy => by have := (h6.blk_ge hy).1; omega, fun y hy => by have := (h7.blk_ge hy).1; omega⟩
      · simp
      · simp
      · simp
      · exact .inl ⟨rfl, rfl⟩
      · exact .inl ⟨rfl, rfl⟩
  · rw [if_neg h0] at hs
    subst hs
    simp (disch := as_aux_lemma => first | omega | simp only [hDs] <;> omega | simp [isCell]) [hRs, takeMarks, resA, resAll, resOne, Value.cells, h0]
    refine hV A1 _ _ e (eB.trans k3) ⟨?_, ?_⟩
    · rw [floodE, if_neg (by rw [← he]; exact h0)]; exact he
    · rw [if_neg h0]; exact ⟨rfl, rfl⟩
end
end Go.Ab.Grid
set_option maxRecDepth 100000
namespace Go.Ab.Grid
open Go Go.Ab
def seasI (m : Nat) (ss : List Int) : Nat → List Int
  | 0 => [0]
  | i + 1 => seasI m ss i ++ [(gi ss i).tmod m]
theorem seasI_len {m : Nat} {ss : List Int} : ∀ {i : Nat}, (seasI m ss i).length = i + 1
  | 0 => rfl
  | i + 1 => by rw [seasI, List.length_append, seasI_len]; simp
theorem seasI_mem {m : Nat} {ss : List Int} (hm : 1 ≤ m) (hs : ∀ i, 0 ≤ gi ss i) : ∀ {i : Nat} {x : Int}, x ∈ seasI m ss i → 0 ≤ x ∧ x < m
  | 0, x, h => by
    have : x = 0 := by simpa [seasI] using h
    omega
  | i + 1, x, h => by
    rw [seasI, List.mem_append] at h
    rcases h with h | h
    · exact seasI_mem hm hs h
    · rw [List.mem_singleton] at h
      rw [h]
      exact ⟨Int.tmod_nonneg _ (hs i), Int.tmod_lt_of_pos _ (by omega)⟩
section
variable {g : Nat} {rd : Option Nat} {T : List Value} {D : List Nat} {A : Hp} {Q : Ex → St → Prop} {V : Value → Hp → Prop}
theorem loop311 {A0 : Hp} {w h s : Int} {sl sn : Value} {m n X2 N : Nat} {ss : List Int} (hm : 1 ≤ m) (hn : n < 1000000) (hs : RdS A0 1 n (kints .u8 ss) sn) (hr : ∀ i, 0 ≤ gi ss i ∧ gi ss i ≤ 255) (hX : A0.get X2 = some (.cells [.int .i64 w, .int .i64 h, .int .i64 s, sl] false)) (hl : lenV sl = some (.int .i64 m)) (hN : A0.n ≥ N) (hg : g ≤ N) (hXN : X2 < N) (hsN : ∀ z, blkOf sn = some z → z < N)
    (hQ : ∀ T' A' sv, (∀ z, z < N → A'.get z = A0.get z) → N ≤ A'.n → AccS N A' 1 (ints (seasI m ss n)) sv → tget T' 5 = sv → Q (.exit 0) ⟨T', D, A'⟩) :
    ∀ (k i : Nat) {T : List Value} {A : Hp} (sv : Value), i + k = n → (∀ z, z < N → A.get z = A0.get z) → N ≤ A.n → AccS N A 1 (ints (seasI m ss i)) sv → tget T 2 = .pointer (some ⟨X2, 0, none⟩) → tget T 5 = sv → tget T 9 = sn → tget T 10 = .int .i64 n → tget T 11 = .int .i64 i → W AP KL g rd (.loop body311) ⟨T, D, A⟩ Q := by
  intro k
  have lc : ss.length = n := by have := hs.1; simpa using this
  induction k with
  | zero =>
    intro i T A sv hi hb hNA hacc t2 t5 t9 t10 t11
    have : i = n := by omega
    subst this
    rw [W_loop]
    simp (disch := as_aux_lemma => first | omega | simp only [hDs] <;> omega | simp [isCell]) [hRs, takeMarks, resA, resAll, resOne, Value.cells, body311, t10, t11]
    exact hQ _ _ sv hb hNA hacc (by simp [t5])
  | succ k ih =>
    intro i T A sv hi hb hNA hacc t2 t5 t9 t10 t11
    have e5 : wr .i64 ((i : Int) + 1) = ((i + 1 : Nat) : Int) := by rw [wrId (by omega) (by omega)]; simp
    obtain ⟨xb, xc, xr, rfl, hxb⟩ := (hs.keepB (A' := A) fun z hz => hb z (hsN z hz)).at (show i < n by omega)
    have aX : A.get X2 = some (.cells [.int .i64 w, .int .i64 h, .int .i64 s, sl] false) := by rw [hb _ hXN]; exact hX
    have hri := hr i
    have f1 : wr .i64 (gi ss i) = gi ss i := wrId (by omega) (by omega)
    obtain ⟨sv', A1, a1, a2, a3, a4⟩ := append_acc (g := g) (bytes := 8) (y := A.n) (A := A.push (.cells [.int .i64 ((gi ss i).tmod m)] false)) (new := [.int .i64 ((gi ss i).tmod m)]) (ro := false) (n := i + 1) (hacc.mono (Ext'.push A _).2) (by omega) (by simp; omega) get_push_new rfl (by decide) rfl (by simp [seasI_len]) (by unfold room; omega)
    rw [show ints (seasI m ss i) ++ [.int .i64 ((gi ss i).tmod m)] = ints (seasI m ss (i + 1)) by rw [seasI, ints_append]; rfl] at a2
    rw [W_loop]
    simp (disch := as_aux_lemma => first | omega | simp only [hDs] <;> omega | simp [isCell]) [hRs, takeMarks, resA, resAll, resOne, Value.cells, body311, t2, t5, t9, t10, t11, show ((i : Int) < n) by omega, show i < n by omega, idxSA_ok, hxb, kints_get (k := .u8) (show i < ss.length by omega), toIntA, f1, aX, hl, binA_rem (show ((m : Nat) : Int) ≠ 0 by omega), slitA, fillA, setRange, zeros, a1, e5]
    refine ih (i + 1) sv' (by omega) (fun z hz => by rw [a3 z hz, get_push_old (by omega), hb z hz]) (by rw [a4]; simp; omega) a2 ?_ ?_ ?_ ?_ ?_
    all_goals simp [t2, t9, t10]
theorem w311 {x : G} {vx sn : Value} {n : Nat} {ss : List Int} (hx : GAt A x vx) (hm : 1 ≤ x.m) (hn : n < 1000000) (hs : RdS A 1 n (kints .u8 ss) sn) (hr : ∀ i, 0 ≤ gi ss i ∧ gi ss i ≤ 255) (hg : g ≤ A.n)
    (hV : ∀ A' sv, Ext' A A' → AccS A.n A' 1 (ints (seasI x.m ss n)) sv → V sv A') : WF AP KL g 311 [vx, sn] A V := by
  obtain ⟨sl, rfl, rx⟩ := hx
  rw [WF_body (show KL 311 = none from rfl) (show AP 311 = some F311 from rfl)]
  obtain ⟨B, hB⟩ : ∃ B, B = A.push (.cells [.int .i64 x.w, .int .i64 x.h, .int .i64 x.s, sl] false) := ⟨_, rfl⟩
  have eB : Ext' A B := by rw [hB]; exact Ext'.push _ _
  have nB : B.n = A.n + 1 := by rw [hB]; rfl
  have b2 : B.get A.n = some (.cells [.int .i64 x.w, .int .i64 x.h, .int .i64 x.s, sl] false) := by rw [hB]; exact get_push_new
  have hl := hs.len
  simp (disch := as_aux_lemma => first | omega | simp only [hDs] <;> omega | simp [isCell]) [hRs, takeMarks, resA, resAll, resOne, Value.cells, F311, gridV, ← hB, slitA, zeros, fillA, setRange, hl]
  obtain ⟨C, hC⟩ : ∃ C, C = B.push (.cells [.int .i64 0] false) := ⟨_, rfl⟩
  rw [← hC]
  have eC : Ext' B C := by rw [hC]; exact Ext'.push _ _
  have nC : C.n = B.n + 1 := by rw [hC]; rfl
  have hacc : AccS B.n C 1 (ints (seasI x.m ss 0)) (.slice (some ⟨B.n, 0, some 1⟩) 1 1) := .inr ⟨B.n, 1, rfl, by rw [hC]; exact get_push_new, Nat.le_refl _, rfl, by omega⟩
  refine loop311 (A0 := C) (N := B.n) (X2 := A.n) (m := x.m) (n := n) (ss := ss) (sn := sn) (w := x.w) (h := x.h) (s := x.s) hm hn ((eB.trans eC).rdS hs) hr (eC.get b2) rx.len (by omega) (by omega) (by omega) (fun z hz => by have := hs.blk_lt hz; omega) (fun T' A' sv hb hNA hacc' t5 => ?_) n 0 _ (by omega) (fun _ _ => rfl) (by omega) hacc ?_ ?_ ?_ ?_ ?_
  · simp (disch := as_aux_lemma => first | omega | simp only [hDs] <;> omega | simp [isCell]) [hRs, takeMarks, resA, resAll, resOne, Value.cells, t5]
    exact hV A' sv ⟨by omega, fun z hz => by rw [hb z (by omega), (eB.trans eC).2 z hz]⟩ (hacc'.weaken (by omega))
  all_goals simp [nB]
theorem w314 {a b c d : Int} (h : c ≤ a ∧ b ≤ d ∧ a ≤ b) (hV : ∀ A', Ext' A A' → V (.bool true) A') : WF AP KL g 314 [.agg ⟨[.int .i64 a, .int .i64 b]⟩, .agg ⟨[.int .i64 c, .int .i64 d]⟩] A V := by
  rw [WF_body (show KL 314 = none from rfl) (show AP 314 = some F314 from rfl)]
  simp (disch := as_aux_lemma => first | omega | simp only [hDs] <;> omega | simp [isCell]) [hRs, takeMarks, resA, resAll, resOne, Value.cells, F314, h.1, h.2.1, h.2.2]
  exact hV _ ((Ext'.push _ _).trans (Ext'.push _ _))
end
end Go.Ab.Grid
set_option maxRecDepth 100000
namespace Go.Ab.Grid
open Go Go.Ab
structure Ord where
  n : Nat
  cs : List Int
  nh : Nat
  hs : List Int
  ne : Nat
  es : List Int
  m : Nat
def Ord.c (o : Ord) (i : Nat) : Int := (gi o.cs i).tmod o.m
def Ord.h (o : Ord) (i : Nat) : Int := gi o.hs (i % o.nh)
def Ord.e (o : Ord) (i : Nat) : Int := gi o.es (i % o.ne)
def Ord.ls (o : Ord) : Nat → List Int
  | 0 => []
  | i + 1 => o.ls i ++ [o.c i, o.h i, o.e i]
def Ord.rv (o : Ord) : Nat → List Int
  | 0 => []
  | i + 1 => [o.c i, o.h i, o.e i] ++ o.rv i
def wset (cur : List Int) (c : Nat) (lo hi : Int) : List Int := (cur.set (c * 2) (max (gi cur (c * 2)) lo)).set (c * 2 + 1) (min (gi cur (c * 2 + 1)) hi)
def Ord.want (o : Ord) (zs : List Int) : Nat → List Int
  | 0 => zs
  | i + 1 => wset (o.want zs i) (o.c i).toNat (o.h i - o.e i) (o.h i + o.e i)
structure Ord.Ok (o : Ord) : Prop where
  n : o.cs.length = o.n ∧ o.n ≤ 12
  nh : o.hs.length = o.nh ∧ 0 < o.nh ∧ o.nh ≤ 9223372036854775807
  ne : o.es.length = o.ne ∧ 0 < o.ne ∧ o.ne ≤ 9223372036854775807
  m : 1 ≤ o.m ∧ o.m ≤ 25
  c : ∀ i, 0 ≤ gi o.cs i ∧ gi o.cs i ≤ 255
  h : ∀ i, -32768 ≤ gi o.hs i ∧ gi o.hs i ≤ 32767
  e : ∀ i, 0 ≤ gi o.es i ∧ gi o.es i ≤ 255
theorem Ord.Ok.cr {o : Ord} (h : o.Ok) (i : Nat) : 0 ≤ o.c i ∧ o.c i < o.m := ⟨Int.tmod_nonneg _ (h.c i).1, Int.tmod_lt_of_pos _ (by have := h.m; omega)⟩
section
variable {g : Nat} {rd : Option Nat} {T : List Value} {D : List Nat} {A : Hp} {Q : Ex → St → Prop} {V : Value → Hp → Prop}
structure OrdI (o : Ord) (zs : List Int) (A0 : Hp) (Y : Nat) (i : Nat) (s10 s11 : Value) (A : Hp) : Prop where
  hb : But Y A0 A
  hY : A.get Y = some (.cells (ints (o.want zs i)) false)
  a10 : AccS A0.n A 3 (ints (o.ls i)) s10
  a11 : RdS A 3 i (ints (o.rv i)) s11
  b11 : ∀ z, blkOf s11 = some z → A0.n ≤ z ∧ blkOf s10 ≠ some z
end
end Go.Ab.Grid
set_option maxRecDepth 100000
namespace Go.Ab.Grid
open Go Go.Ab
section
variable {g : Nat} {rd : Option Nat} {T : List Value} {D : List Nat} {A : Hp} {Q : Ex → St → Prop} {V : Value → Hp → Prop}
end
end Go.Ab.Grid
set_option maxRecDepth 100000
namespace Go.Ab.Grid
open Go Go.Ab
structure NarR (zs : List Int) (m : Nat) (R : Nat → Int → Int → Prop) (cur : List Int) : Prop where
  len : cur.length = m * 2
  lo : ∀ j, j < m → ∀ t, gi cur (j * 2) ≤ t ↔ gi zs (j * 2) ≤ t ∧ ∀ a b, R j a b → a ≤ t
  hi : ∀ j, j < m → ∀ t, t ≤ gi cur (j * 2 + 1) ↔ t ≤ gi zs (j * 2 + 1) ∧ ∀ a b, R j a b → t ≤ b
theorem wset_lo {cur : List Int} {c j : Nat} {lo hi : Int} (h : c * 2 + 2 ≤ cur.length) : gi (wset cur c lo hi) (j * 2) = if j = c then max (gi cur (c * 2)) lo else gi cur (j * 2) := by
  unfold wset
  rw [gi_setI (by simp; omega), if_neg (by omega), gi_setI (by omega)]
  by_cases h' : j = c
  · rw [if_pos (by omega), if_pos h']
  · rw [if_neg (by omega), if_neg h']
theorem wset_hi {cur : List Int} {c j : Nat} {lo hi : Int} (h : c * 2 + 2 ≤ cur.length) : gi (wset cur c lo hi) (j * 2 + 1) = if j = c then min (gi cur (c * 2 + 1)) hi else gi cur (j * 2 + 1) := by
  unfold wset
  rw [gi_setI (by simp; omega)]
  by_cases h' : j = c
  · rw [if_pos (by omega), if_pos h']
  · rw [if_neg (by omega), if_neg h', gi_setI (by omega), if_neg (by omega)]
theorem NarR.start {zs : List Int} {m : Nat} (h : zs.length = m * 2) : NarR zs m (fun _ _ _ => False) zs := ⟨h, fun _ _ _ => by simp, fun _ _ _ => by simp⟩
theorem NarR.congr {zs : List Int} {m : Nat} {R R' : Nat → Int → Int → Prop} {cur : List Int} (h : NarR zs m R cur) (hR : ∀ j a b, R j a b ↔ R' j a b) : NarR zs m R' cur :=
  ⟨h.len, fun j hj t => by rw [h.lo j hj t]; simp only [hR], fun j hj t => by rw [h.hi j hj t]; simp only [hR]⟩
theorem NarR.next {zs : List Int} {m c : Nat} {R : Nat → Int → Int → Prop} {cur : List Int} {x y : Int} (h : NarR zs m R cur) (hc : c < m) : NarR zs m (fun j a b => R j a b ∨ (j = c ∧ a = x ∧ b = y)) (wset cur c x y) := by
  have hl := h.len
  refine ⟨by unfold wset; simp [hl], fun j hj t => ?_, fun j hj t => ?_⟩
  · rw [wset_lo (by omega)]
    have h1 := h.lo j hj t
    by_cases hjc : j = c
    · subst hjc
      rw [if_pos rfl, Int.max_le, h1]
      constructor
      · rintro ⟨⟨p1, p2⟩, p3⟩
        refine ⟨p1, fun a b hr => ?_⟩
        rcases hr with hr | ⟨_, rfl, _⟩
        · exact p2 a b hr
        · exact p3
      · rintro ⟨p1, p2⟩
        exact ⟨⟨p1, fun a b hr => p2 a b (.inl hr)⟩, p2 x y (.inr ⟨rfl, rfl, rfl⟩)⟩
    · rw [if_neg hjc, h1]
      constructor
      · rintro ⟨p1, p2⟩
        refine ⟨p1, fun a b hr => ?_⟩
        rcases hr with hr | ⟨h', _, _⟩
        · exact p2 a b hr
        · exact absurd h' hjc
      · rintro ⟨p1, p2⟩
        exact ⟨p1, fun a b hr => p2 a b (.inl hr)⟩
  · rw [wset_hi (by omega)]
    have h1 := h.hi j hj t
    by_cases hjc : j = c
    · subst hjc
      rw [if_pos rfl, Int.le_min, h1]
      constructor
      · rintro ⟨⟨p1, p2⟩, p3⟩
        refine ⟨p1, fun a b hr => ?_⟩
        rcases hr with hr | ⟨_, _, rfl⟩
        · exact p2 a b hr
        · exact p3
      · rintro ⟨p1, p2⟩
        exact ⟨⟨p1, fun a b hr => p2 a b (.inl hr)⟩, p2 x y (.inr ⟨rfl, rfl, rfl⟩)⟩
    · rw [if_neg hjc, h1]
      constructor
      · rintro ⟨p1, p2⟩
        refine ⟨p1, fun a b hr => ?_⟩
        rcases hr with hr | ⟨h', _, _⟩
        · exact p2 a b hr
        · exact absurd h' hjc
      · rintro ⟨p1, p2⟩
        exact ⟨p1, fun a b hr => p2 a b (.inl hr)⟩
theorem NarR.uniq {zs : List Int} {m : Nat} {R : Nat → Int → Int → Prop} {u v : List Int} (h : NarR zs m R u) (h' : NarR zs m R v) : u = v := by
  refine list_gi (by rw [h.len, h'.len]) fun i hi => ?_
  rw [h.len] at hi
  obtain ⟨j, hj⟩ : ∃ j, i = j * 2 ∨ i = j * 2 + 1 := ⟨i / 2, by omega⟩
  rcases hj with rfl | rfl
  · have a := (h.lo j (by omega) (gi v (j * 2))).2 ((h'.lo j (by omega) _).1 (Int.le_refl _))
    have b := (h'.lo j (by omega) (gi u (j * 2))).2 ((h.lo j (by omega) _).1 (Int.le_refl _))
    omega
  · have a := (h.hi j (by omega) (gi v (j * 2 + 1))).2 ((h'.hi j (by omega) _).1 (Int.le_refl _))
    have b := (h'.hi j (by omega) (gi u (j * 2 + 1))).2 ((h.hi j (by omega) _).1 (Int.le_refl _))
    omega
theorem Land.zs_get {L : Land} : ∀ {n j : Nat}, j < n → gi (L.zs n) (j * 2) = L.lo j ∧ gi (L.zs n) (j * 2 + 1) = L.hi j
  | 0, j, h => by omega
  | n + 1, j, h => by
    have hl : (L.zs n).length = n * 2 := Land.zs_len
    rw [Land.zs]
    by_cases hj : j = n
    · subst hj
      exact ⟨gi_r (j := 0) hl, gi_r (j := 1) hl⟩
    · obtain ⟨a, b⟩ := Land.zs_get (L := L) (n := n) (j := j) (by omega)
      rw [gi_l (by omega), gi_l (by omega)]
      exact ⟨a, b⟩
theorem Land.Ok.rng {L : Land} (h : L.Ok) (i : Nat) : -32768 ≤ L.lo i ∧ L.lo i ≤ L.hi i ∧ L.hi i ≤ 33022 := by
  have a : -32768 ≤ L.lo i ∧ L.lo i ≤ 32767 := by unfold Land.lo; split; exact h.low _; omega
  have b : L.lo i ≤ L.hi i ∧ L.hi i ≤ L.lo i + 255 := by
    unfold Land.hi
    split
    · have := h.more (i % L.nm); omega
    · omega
  omega
theorem Land.Ok.E {L : Land} (h : L.Ok) : L.G.E = 0 := by
  have hw := h.w
  have hh := h.h
  have hn := h.n
  show gridE L.w L.h 100 L.n (L.zs L.n) = 0
  refine gridE_d ?_ (by rw [← hn.1]; exact (wrId (by omega) (by omega)).symm) ?_
  · rw [show (decide (1 ≤ L.w) && decide (L.w ≤ 24)) = true by simp; omega, show (decide (1 ≤ L.h) && decide (L.h ≤ 24)) = true by simp; omega]
    decide
  · rw [List.any_eq_false]
    intro j hj
    rw [List.mem_range] at hj
    obtain ⟨a, b⟩ := Land.zs_get (L := L) hj
    have r := h.rng j
    have : grd (L.zs L.n) j = true := by
      unfold grd validB
      rw [a, b]
      simp
      omega
    rw [this]
    decide
theorem Ord.Ok.snd {o : Ord} (hO : o.Ok) {i j : Nat} {ls : List Int} (h : gi ls (j * 3) = o.c i ∧ gi ls (j * 3 + 1) = o.h i ∧ gi ls (j * 3 + 2) = o.e i) : sndC o.m ls j = 0 := by
  have a := hO.cr i
  have b : -32768 ≤ o.h i ∧ o.h i ≤ 32767 := hO.h _
  have c : 0 ≤ o.e i ∧ o.e i ≤ 255 := hO.e _
  rw [sndC, h.1, h.2.1, h.2.2, if_pos (by simp; omega), if_pos (by simp; omega), if_pos (by simp; omega)]
end Go.Ab.Grid
set_option maxRecDepth 100000
namespace Go.Ab.Grid
open Go Go.Ab
def asg324 : ACode := (.ops [oM 12 23])
def body324 : ACode := (.block 1
 (.ops [
oL 24 11,
oL 25 10,
oM 26 12,
oI 27 25 26 1,
oL 28 27,
oP 29 (.min [.t 24, .t 28]),
oT 11 29 1]))
def leastL (o : List Int) (l : List Int) : Int := l.foldl (fun a d => min a (gi o d.toNat)) 1073741824
theorem leastL_snoc {o l : List Int} {d : Int} : leastL o (l ++ [d]) = min (leastL o l) (gi o d.toNat) := by simp [leastL]
section
variable {g : Nat} {rd : Option Nat} {T : List Value} {D : List Nat} {A : Hp} {Q : Ex → St → Prop} {V : Value → Hp → Prop}
theorem loop199 {n : Nat} {cs : List Int} {sv : Value} {x : Int} (hs : RdS A 1 n (ints cs) sv) (hn : n < 1000000)
    (hQ : ∀ T', x ∉ cs → Q (.exit 0) ⟨T', D, A⟩) (hR : ∀ T' (i : Nat), x ∈ cs → tget T' 4 = .int .i64 i → Q .ret ⟨T', D, A⟩) :
    ∀ (k i : Nat) {T : List Value}, i + k = n → (∀ j, j < i → gi cs j ≠ x) → tget T 0 = sv → tget T 1 = .int .i64 x → tget T 7 = .int .i64 n → tget T 8 = .int .i64 i → W AP KL g rd (.loop body199) ⟨T, D, A⟩ Q := by
  intro k
  have lc : cs.length = n := by have := hs.1; simpa using this
  induction k with
  | zero =>
    intro i T hi hp t0 t1 t7 t8
    rw [W_loop]
    simp (disch := as_aux_lemma => first | omega | simp only [hDs] <;> omega | simp [isCell]) [hRs, takeMarks, resA, resAll, resOne, Value.cells, body199, t7, t8, show ¬ ((i : Int) < n) by omega]
    refine hQ _ fun hx => ?_
    obtain ⟨j, hj, rfl⟩ := List.getElem_of_mem hx
    exact hp j (by omega) (gi_eq hj)
  | succ k ih =>
    intro i T hi hp t0 t1 t7 t8
    have e5 : wr .i64 ((i : Int) + 1) = ((i + 1 : Nat) : Int) := by rw [wrId (by omega) (by omega)]; simp
    obtain ⟨xb, xc, xr, rfl, hxb⟩ := hs.at (show i < n by omega)
    rw [W_loop]
    by_cases he : x = gi cs i
    · have hm : x ∈ cs := by rw [he, gi_eq (show i < cs.length by omega)]; exact List.getElem_mem _
      simp (disch := as_aux_lemma => first | omega | simp only [hDs] <;> omega | simp [isCell]) [hRs, takeMarks, resA, resAll, resOne, Value.cells, body199, t0, t1, t7, t8, show ((i : Int) < n) by omega, show i < n by omega, idxSA_ok, hxb, ints_get, lc, he]
      exact hR _ i hm (by simp)
    · simp (disch := as_aux_lemma => first | omega | simp only [hDs] <;> omega | simp [isCell]) [hRs, takeMarks, resA, resAll, resOne, Value.cells, body199, t0, t1, t7, t8, show ((i : Int) < n) by omega, show i < n by omega, idxSA_ok, hxb, ints_get, lc, he, e5]
      refine ih (i + 1) (by omega) (fun j hj => ?_) ?_ ?_ ?_ ?_
      · by_cases h : j = i
        · rw [h]; exact fun h' => he h'.symm
        · exact hp j (by omega)
      all_goals simp [t0, t1, t7]
theorem w169 {n : Nat} {cs : List Int} {sv : Value} {x : Int} (hs : RdS A 1 n (ints cs) sv) (hn : n < 1000000) (hV : V (.bool (decide (x ∈ cs))) A) : WF AP KL g 169 [sv, .int .i64 x] A V := by
  rw [WF_body (show KL 169 = none from rfl) (show AP 169 = some F169 from rfl)]
  simp (disch := as_aux_lemma => first | omega | simp only [hDs] <;> omega | simp [isCell]) [hRs, takeMarks, resA, resAll, resOne, Value.cells, F169]
  rw [WF_body (show KL 199 = none from rfl) (show AP 199 = some F199 from rfl)]
  have hl := hs.len
  simp (disch := as_aux_lemma => first | omega | simp only [hDs] <;> omega | simp [isCell]) [hRs, takeMarks, resA, resAll, resOne, Value.cells, F199, hl]
  refine loop199 (x := x) hs hn (fun T' hx => ?_) (fun T' i hx t4 => ?_) n 0 (by omega) (fun j hj => by omega) ?_ ?_ ?_ ?_
  · simp (disch := as_aux_lemma => first | omega | simp only [hDs] <;> omega | simp [isCell]) [hRs, takeMarks, resA, resAll, resOne, Value.cells, hx]
    simpa [hx] using hV
  · simp (disch := as_aux_lemma => first | omega | simp only [hDs] <;> omega | simp [isCell]) [hRs, takeMarks, resA, resAll, resOne, Value.cells, t4]
    simpa [hx] using hV
  all_goals simp
structure BrI (A0 : Hp) (X11 : Nat) (T1 : List Value) (o done : List Int) (A : Hp) : Prop where
  e : But X11 A0 A
  n : A0.n + 3 ≤ A.n
  m : A.get A0.n = some .marks
  l : A.get (A0.n + 1) = some (recL T1 [23] asg324 body324)
  r : A.get (A0.n + 2) = some (.cells (ints dirI) false)
  s : A.get X11 = some (.cells [.int .i64 (leastL o done)] false)
theorem BrI.push {A0 A : Hp} {X11 : Nat} {T1 : List Value} {o done : List Int} (h : BrI A0 X11 T1 o done A) (b : ABlk) : BrI A0 X11 T1 o done (A.push b) := by
  obtain ⟨e, n, m, l, r, s⟩ := h
  have k := Ext'.push A b
  exact ⟨e.trans (But.of_ext k), by simp; omega, k.get m, k.get l, k.get r, k.get s⟩
theorem y324 {A0 : Hp} {X10 X11 OB m : Nat} {T1 : List Value} {o done : List Int} {d : Nat} (h : BrI A0 X11 T1 o done A) (hg : g ≤ X11) (hX : X11 < A0.n) (hne : X10 ≠ X11) (hOB : OB ≠ X11) (h10 : A0.get X10 = some (.cells [rowS1 OB m] false)) (ho : A0.get OB = some (.cells (ints o) false)) (hlo : o.length = m) (hd : d < m)
    (t10 : tget T1 10 = .pointer (some ⟨X10, 0, none⟩)) (t11 : tget T1 11 = .pointer (some ⟨X11, 0, none⟩)) (hV : ∀ A', BrI A0 X11 T1 o (done ++ [(d : Int)]) A' → V (.bool true) A') :
    WV AP KL g (.func (.yield (A0.n + 1)) #[] #[]) [.int .i64 d] A V := by
  obtain ⟨e, n, m', l, r, s⟩ := h
  have n10 := Hp.lt_of_get h10
  have nO := Hp.lt_of_get ho
  refine WV_yield l (by omega) ?_
  obtain ⟨B, hB⟩ : ∃ B, B = A.set (A0.n + 1) (some (.loop { state := .busy, pending := none, tmps := T1, params := [23], assign := .ops [oM 12 23], body := body324 })) := ⟨_, rfl⟩
  rw [← hB]
  have nB : B.n = A.n := by rw [hB]; rfl
  have oB : ∀ z, z < A.n → z ≠ A0.n + 1 → B.get z = A.get z := fun z hz hne => by rw [hB, get_set_ne (by omega) hne]
  have lB : B.get (A0.n + 1) = some (.loop { state := .busy, pending := none, tmps := T1, params := [23], assign := .ops [oM 12 23], body := body324 }) := by rw [hB, get_set_same l]
  have b10 : B.get X10 = some (.cells [rowS1 OB m] false) := by rw [oB _ (by omega) (by omega), e.2 _ n10 hne]; exact h10
  have bO : B.get OB = some (.cells (ints o) false) := by rw [oB _ (by omega) (by omega), e.2 _ nO hOB]; exact ho
  have b11 : B.get X11 = some (.cells [.int .i64 (leastL o done)] false) := by rw [oB _ (by omega) (by omega)]; exact s
  unfold rowS1 at b10
  have g2 : ∀ (k : ABlk) z, z ≠ X11 → z < A.n → (B.set X11 (some k)).get z = B.get z := fun k z hz hzn => get_set_ne (by omega) hz
  have l2 : ∀ k, (B.set X11 (some k)).get (A0.n + 1) = some (.loop { state := .busy, pending := none, tmps := T1, params := [23], assign := .ops [oM 12 23], body := body324 }) := fun k => by rw [g2 _ _ (by omega) (by omega)]; exact lB
  simp (disch := as_aux_lemma => first | omega | simp only [hDs] <;> omega | simp [isCell]) [hRs, takeMarks, resA, resAll, resOne, Value.cells, body324, t10, t11, b10, b11, bO, idxSA_ok, hd, ints_get, hlo, storeB_cells, setRange_all, RoundQ]
  unfold body324 at l2
  refine ⟨l2 _, hV _ ?_⟩
  have g3 : ∀ (k k' : ABlk) z, z ≠ X11 → z ≠ A0.n + 1 → z < A.n → ((B.set X11 (some k)).set (A0.n + 1) (some k')).get z = A.get z := fun k k' z h1 h2 hzn => by rw [get_set_ne (by simp; omega) h2, g2 _ _ h1 hzn, oB _ hzn h2]
  refine ⟨⟨by simp; have := e.1; omega, fun z hz hzn => by rw [g3 _ _ z hzn (by omega) (by omega)]; exact e.2 z hz hzn⟩, by simp; omega, ?_, ?_, ?_, ?_⟩
  · rw [g3 _ _ _ (by omega) (by omega) (by omega)]; exact m'
  · exact get_set_same (l2 _)
  · rw [g3 _ _ _ (by omega) (by omega) (by omega)]; exact r
  · rw [get_set_ne (by simp; omega) (by omega), get_set_same b11, leastL_snoc, Int.toNat_natCast]
theorem range324 {A0 : Hp} {X10 X11 OB m gb cb : Nat} {T1 : List Value} {o : List Int} {w h s c : Int} {sl : Value} (hw : 1 ≤ w ∧ w ≤ 24) (hh : 1 ≤ h ∧ h ≤ 24) (hc : 0 ≤ c ∧ c < w * h) (hm : (m : Int) = w * h) (hlo : o.length = m) (hg : g ≤ X11)
    (hgb : A0.get gb = some (.cells [.int .i64 w, .int .i64 h, .int .i64 s, sl] false)) (hcb : A0.get cb = some (.cells [.int .i64 c] false)) (h10 : A0.get X10 = some (.cells [rowS1 OB m] false)) (h11 : A0.get X11 = some (.cells [.int .i64 1073741824] false)) (ho : A0.get OB = some (.cells (ints o) false))
    (n10 : X10 ≠ X11) (nO : OB ≠ X11) (ng : gb ≠ X11) (nc : cb ≠ X11)
    (t10 : tget T1 10 = .pointer (some ⟨X10, 0, none⟩)) (t11 : tget T1 11 = .pointer (some ⟨X11, 0, none⟩)) (t22 : tget T1 22 = .func (.func 114) ⟨[]⟩ ⟨[.pointer (some ⟨cb, 0, none⟩), .pointer (some ⟨gb, 0, none⟩)]⟩)
    (hQ : ∀ A', But X11 A0 A' → A'.get X11 = some (.cells [.int .i64 (leastL o (nbrs w h c))] false) → A'.get A0.n = some .marks → Q .normal ⟨T1, A0.n :: D, A'⟩) :
    W AP KL g none (.rangeF (.t 22) [23] asg324 body324) ⟨T1, D, A0⟩ Q := by
  refine W_range (h := 114) (first := []) (captured := [.pointer (some ⟨cb, 0, none⟩), .pointer (some ⟨gb, 0, none⟩)]) t22 ?_
  rw [WF_body (show KL 114 = none from rfl) (show AP 114 = some F114 from rfl)]
  have gn := Hp.lt_of_get hgb
  have cn := Hp.lt_of_get hcb
  have n11 := Hp.lt_of_get h11
  obtain ⟨C, hC⟩ : ∃ C, C = (A0.push .marks).push (recL T1 [23] asg324 body324) := ⟨_, rfl⟩
  rw [← hC]
  have nC : C.n = A0.n + 2 := by rw [hC]; simp
  have e1 : Ext' A0 C := by rw [hC]; exact (Ext'.push A0 _).trans (Ext'.push _ _)
  have mC : C.get A0.n = some .marks := by rw [hC, get_push_old (by simp), get_push_new]
  have lC : C.get (A0.n + 1) = some (recL T1 [23] asg324 body324) := by rw [hC, get_push_eq (by simp)]
  obtain ⟨⟨p1, p2⟩, p3, p4⟩ := cell_parts hw.1 hc.1 hc.2
  have c24 : w * h ≤ 24 * 24 := Int.mul_le_mul hw.2 hh.2 (by omega) (by omega)
  have z4 : zeros 4 [Value.int .i64 0, .int .i64 0] = [.int .i64 0, .int .i64 0, .int .i64 0, .int .i64 0, .int .i64 0, .int .i64 0, .int .i64 0, .int .i64 0] := rfl
  have q1 : wr .i64 (c.tdiv w) = c.tdiv w := wrId (by omega) (by omega)
  have q2 : wr .i64 (c.tmod w) = c.tmod w := wrId (by omega) (by omega)
  have q1' : wr .i64 (c / w) = c / w := by rwa [Int.tdiv_eq_ediv_of_nonneg hc.1] at q1
  have hcb' := e1.get hcb
  have hgb' := e1.get hgb
  have hcbn := Hp.lt_of_get hcb'
  have hgbn := Hp.lt_of_get hgb'
  simp (disch := as_aux_lemma => first | omega | simp only [hDs] <;> omega | simp [isCell]) [hRs, takeMarks, resA, resAll, resOne, Value.cells, F114, hcb', hgb', binA_rem (show w ≠ 0 by omega), binA_quo (show w ≠ 0 by omega), q1, q2, slitA, fillA, setRange, z4]
  obtain ⟨E0, hE⟩ : ∃ E0, E0 = C.push (.cells (ints dirI) false) := ⟨_, rfl⟩
  have hE' := hE.symm
  simp only [dirI, ints, List.map_cons, List.map_nil] at hE'
  rw [hE']
  have e2 : Ext' C E0 := by rw [hE]; exact Ext'.push C _
  have h0 : BrI A0 X11 T1 o [] E0 := ⟨But.of_ext (e1.trans e2), by rw [hE]; simp [nC], e2.get mC, e2.get lC, by rw [hE]; exact get_push_eq (by omega), (e1.trans e2).get h11⟩
  refine loop114 (P := BrI A0 X11 T1 o) (L := A0.n + 1) (G := gb) (R := A0.n + 2) (w := w) (h := h) (c := c) (s := s) (sl := sl) hw hh ⟨p1, p2⟩ ⟨p3, p4⟩ (fun dn A' hP => ⟨by rw [hP.e.2 _ gn ng]; exact hgb, hP.r, by have := hP.n; omega⟩) (fun dn A' b hP => hP.push b)
    (fun dn d A' V' hl hP hd hV' => ?_) (fun T' A' hP => ?_) 4 0 (by omega) h0 ?_ ?_ ?_ ?_ ?_ ?_ ?_
  · obtain ⟨d0, d1⟩ := nbrs_range hw.1 hd
    obtain ⟨dN, rfl⟩ : ∃ dN : Nat, d = (dN : Int) := ⟨d.toNat, by omega⟩
    exact y324 hP hg n11 n10 nO h10 ho hlo (by omega) t10 t11 hV'
  · obtain ⟨e, n, m', l, r, s'⟩ := hP
    simp (disch := as_aux_lemma => first | omega | simp only [hDs] <;> omega | simp [isCell]) [hRs, takeMarks, resA, resAll, resOne, Value.cells, EndQ, l, recL]
    have g3 : ∀ (k : ABlk) z, z ≠ A0.n + 1 → z < A'.n → (A'.set (A0.n + 1) (some k)).get z = A'.get z := fun k z hz hzn => get_set_ne (by omega) hz
    refine hQ _ ⟨by simp; exact e.1, fun z hz hzn => by rw [g3 _ z (by omega) (by have := e.1; omega)]; exact e.2 z hz hzn⟩ ?_ ?_
    · rw [g3 _ _ (by omega) (by omega)]; exact s'
    · rw [g3 _ _ (by omega) (by omega)]; exact m'
  all_goals simp [nC, q1']
theorem htok349 {up : Bool} {w h s : Int} {zs : List Int} {sl : Value} {m c : Nat} {sea : List Nat} {b1 X X6 : Nat} {r1 r2 r3 : Bool} (hb1 : A.get b1 = some (.cells [endF up] r1)) (hX : A.get X = some (.cells [.int .i64 w, .int .i64 h, .int .i64 s, sl] r2)) (hX6 : A.get X6 = some (.cells [.int .i64 c] r3)) (hsl : RdS A 2 m (ints zs) sl) :
    HtOk g (sPar up (some c) w h m zs sea) A A.n (.func (.func 349) ⟨[]⟩ ⟨[.pointer (some ⟨b1, 0, none⟩), .pointer (some ⟨X, 0, none⟩), .pointer (some ⟨X6, 0, none⟩)]⟩) := by
  intro B d V hB hn hd hV
  have q1 : B.get b1 = some (.cells [endF up] r1) := by rw [hB b1 (Hp.lt_of_get hb1)]; exact hb1
  have q2 : B.get X = some (.cells [.int .i64 w, .int .i64 h, .int .i64 s, sl] r2) := by rw [hB X (Hp.lt_of_get hX)]; exact hX
  have q6 : B.get X6 = some (.cells [.int .i64 c] r3) := by rw [hB X6 (Hp.lt_of_get hX6)]; exact hX6
  have hd8 : d < m := hd
  obtain ⟨z, cc, ro, rfl, hz⟩ := hsl.at hd8
  have q3 := (hB z (Hp.lt_of_get hz)).trans hz
  have hl := hsl.1
  rw [ints_length] at hl
  have i2 := ints_two (l := zs) (o := d * 2) (by omega)
  simp (disch := as_aux_lemma => first | omega | simp only [hDs] <;> omega | simp [isCell]) [hRs, takeMarks, resA, resAll, resOne, Value.cells]
  rw [WF_body (show KL 349 = none from rfl) (show AP 349 = some F349 from rfl)]
  simp (disch := as_aux_lemma => first | omega | simp only [hDs] <;> omega | simp [isCell]) [hRs, takeMarks, resA, resAll, resOne, Value.cells, F349, q1, q2, q3, q6, show (d : Int) < m by omega, hd8, idxSA_ok, i2]
  refine wEnd fun A' e' => ?_
  simp (disch := as_aux_lemma => first | omega | simp only [hDs] <;> omega | simp [isCell]) [hRs, takeMarks, resA, resAll, resOne, Value.cells, e'.get q6]
  by_cases hdc : d = c
  · have := hV A' (if up then gi zs (d * 2 + 1) else gi zs (d * 2)) false e' (.inr ⟨rfl, by simp [sPar, hdc]⟩)
    simpa [hdc] using this
  · have := hV A' (if up then gi zs (d * 2 + 1) else gi zs (d * 2)) true e' (.inl ⟨rfl, by cases up <;> simp [sPar, upN, hdc]⟩)
    have hdc' : ¬ (d : Int) = (c : Int) := by omega
    simpa [hdc, hdc'] using this
def BrinkV (up : Bool) (w h : Int) (m : Nat) (zs : List Int) (cs : List Int) (c : Nat) (v : Value) : Prop :=
  if (c : Int) ∈ cs then v = .tuple ⟨[.int .i64 0, .bool false]⟩ else ∃ o, SFin (sPar up (some c) w h m zs (seaN cs)) o ∧ v = .tuple ⟨[.int .i64 (leastL o (nbrs w h c)), .bool true]⟩
theorem w324 {up : Bool} {w h s : Int} {zs : List Int} {sl sv0 : Value} {m n c : Nat} {cs : List Int} (hm60 : m ≤ 60) (hn : n < 1000000) (hz : RdS A 1 n (ints cs) sv0) (hsl : RdS A 2 m (ints zs) sl) (hg : g ≤ A.n) (h0 : seaE w h s m zs n cs = 0) (hc : c < m)
    (hV : ∀ A' v, Ext' A A' → BrinkV up w h m zs cs c v → V v A') : WF AP KL g 324 [gridV w h s sl, sv0, .int .i64 c, endF up] A V := by
  have hcl : cs.length = n := by have := hz.1; simpa using this
  obtain ⟨hE, hn0, hsea, hcast⟩ := seaE_zero hcl h0
  obtain ⟨gw, gh, gm, _⟩ := gridE_parts hE
  have hsl' : (seaN cs).length = n := by simp [seaN, hcl]
  rw [WF_body (show KL 324 = none from rfl) (show AP 324 = some F324 from rfl)]
  obtain ⟨B, hB⟩ : ∃ B, B = ((A.push (.cells [.int .i64 w, .int .i64 h, .int .i64 s, sl] false)).push (.cells [.int .i64 c] false)).push (.cells [endF up] false) := ⟨_, rfl⟩
  have eB : Ext' A B := by rw [hB]; exact ((Ext'.push _ _).trans (Ext'.push _ _)).trans (Ext'.push _ _)
  have nB : B.n = A.n + 3 := by rw [hB]; rfl
  have b4 : B.get A.n = some (.cells [.int .i64 w, .int .i64 h, .int .i64 s, sl] false) := by rw [hB, get_push_old (by simp; omega), get_push_old (by simp), get_push_eq (by omega)]
  have b6 : B.get (A.n + 1) = some (.cells [.int .i64 c] false) := by rw [hB, get_push_old (by simp), get_push_eq (by simp)]
  have b7 : B.get (A.n + 2) = some (.cells [endF up] false) := by rw [hB, get_push_eq (by simp)]
  have hB' := hB.symm
  unfold endF at hB'
  unfold endF
  simp (disch := as_aux_lemma => first | omega | simp only [hDs] <;> omega | simp [isCell]) [hRs, takeMarks, resA, resAll, resOne, Value.cells, F324, gridV, hB', b6]
  refine w169 (eB.rdS hz) hn ?_
  by_cases hin : (c : Int) ∈ cs
  · simp (disch := as_aux_lemma => first | omega | simp only [hDs] <;> omega | simp [isCell]) [hRs, takeMarks, resA, resAll, resOne, Value.cells, hin]
    exact hV B _ eB (by rw [BrinkV, if_pos hin])
  · simp (disch := as_aux_lemma => first | omega | simp only [hDs] <;> omega | simp [isCell]) [hRs, takeMarks, resA, resAll, resOne, Value.cells, hin, b4]
    refine w269 (P := sPar up (some c) w h m zs (seaN cs)) (sPar_line (up := up) (s := s) hE hm60 hsea) hsl.len (by show RdS B 1 (seaN cs).length (ints (castS (seaN cs))) sv0; rw [hsl', hcast]; exact eB.rdS hz) (by show (seaN cs).length < _; omega) rfl (htok349 (A := B) b7 b4 b6 (eB.rdS hsl)) (by omega) fun A1 o OB k1 k2 k3 k4 => ?_
    have n1 := k2.1
    unfold rowS1
    simp (disch := as_aux_lemma => first | omega | simp only [hDs] <;> omega | simp [isCell]) [hRs, takeMarks, resA, resAll, resOne, Value.cells, storeB_cells, set_push_eq, setRange_all, k2.get b4, k2.get b6]
    rw [WF_body (show KL 112 = none from rfl) (show AP 112 = some F112 from rfl)]
    simp (disch := as_aux_lemma => first | omega | simp only [hDs] <;> omega | simp [isCell]) [hRs, takeMarks, resA, resAll, resOne, Value.cells, F112]
    obtain ⟨C, hC⟩ : ∃ C, C = (((A1.push (.cells [.slice (some ⟨OB, 0, some 1⟩) m m] false)).push (.cells [.int .i64 1073741824] false)).push (.cells [.int .i64 w, .int .i64 h, .int .i64 s, sl] false)).push (.cells [.int .i64 c] false) := ⟨_, rfl⟩
    have hOn := Hp.lt_of_get k4
    have eC : Ext' A1 C := by rw [hC]; exact (((Ext'.push _ _).trans (Ext'.push _ _)).trans (Ext'.push _ _)).trans (Ext'.push _ _)
    have nC : C.n = A1.n + 4 := by rw [hC]; rfl
    have c0 : C.get A1.n = some (.cells [.slice (some ⟨OB, 0, some 1⟩) m m] false) := by rw [hC, get_push_old (by simp <;> omega), get_push_old (by simp <;> omega), get_push_old (by simp), get_push_eq (by omega)]
    have c1 : C.get (A1.n + 1) = some (.cells [.int .i64 1073741824] false) := by rw [hC, get_push_old (by simp <;> omega), get_push_old (by simp), get_push_eq (by simp)]
    have c2 : C.get (A1.n + 2) = some (.cells [.int .i64 w, .int .i64 h, .int .i64 s, sl] false) := by rw [hC, get_push_old (by simp), get_push_eq (by simp)]
    have c3 : C.get (A1.n + 3) = some (.cells [.int .i64 c] false) := by rw [hC, get_push_eq (by simp)]
    show W AP KL g none (.rangeF (.t 22) [23] asg324 body324) ⟨_, [], (((A1.push (.cells [.slice (some ⟨OB, 0, some 1⟩) m m] false)).push (.cells [.int .i64 1073741824] false)).push (.cells [.int .i64 w, .int .i64 h, .int .i64 s, sl] false)).push (.cells [.int .i64 c] false)⟩ _
    rw [← hC]
    refine range324 (A0 := C) (X10 := A1.n) (X11 := A1.n + 1) (OB := OB) (m := m) (gb := A1.n + 2) (cb := A1.n + 3) (o := o) (w := w) (h := h) (s := s) (c := c) (sl := sl) gw gh ⟨by omega, by omega⟩ gm k1.len (by omega) c2 c3 c0 c1 (eC.get k4) (by omega) (by omega) (by omega) (by omega) ?_ ?_ ?_ fun A' hb h11 hmk => ?_
    · simp
    · simp
    · simp
    · have hn' := hb.1
      have hmn := Hp.lt_of_get hmk
      simp (disch := as_aux_lemma => first | omega | simp only [hDs] <;> omega | simp [isCell]) [hRs, takeMarks, resA, resAll, resOne, Value.cells, h11, hmk]
      refine hV _ _ ⟨by simp; have := eB.1; omega, fun z hz => ?_⟩ ?_
      · rw [get_set_ne (by omega) (by have := eB.1; have := k2.1; omega), hb.2 z (by have := eB.1; have := k2.1; omega) (by have := eB.1; have := k2.1; omega), (eB.trans (k2.trans eC)).2 z hz]
      · rw [BrinkV, if_neg hin]
        exact ⟨o, k1, rfl⟩
end
end Go.Ab.Grid
set_option maxRecDepth 100000
namespace Go.Ab.Grid
open Go Go.Ab
def PondC (w h : Int) (m : Nat) (zs cs : List Int) (i : Nat) (a b : Int) : Prop :=
  if (i : Int) ∈ cs then a = 0 ∧ b = 0 else ∃ ol oh, SFin (sPar false (some i) w h m zs (seaN cs)) ol ∧ SFin (sPar true (some i) w h m zs (seaN cs)) oh ∧ a = max 0 (leastL ol (nbrs w h i) - gi zs (i * 2 + 1)) ∧ b = max 0 (leastL oh (nbrs w h i) - gi zs (i * 2))
theorem leastL_rng {o : List Int} (ho : ∀ c, -1073741824 ≤ gi o c ∧ gi o c ≤ 1073741824) (l : List Int) : -1073741824 ≤ leastL o l ∧ leastL o l ≤ 1073741824 := by
  unfold leastL
  suffices h : ∀ a : Int, -1073741824 ≤ a ∧ a ≤ 1073741824 → -1073741824 ≤ l.foldl (fun a d => min a (gi o d.toNat)) a ∧ l.foldl (fun a d => min a (gi o d.toNat)) a ≤ 1073741824 from h _ (by omega)
  induction l with
  | nil => intro a ha; exact ha
  | cons x l ih =>
    intro a ha
    have := ho x.toNat
    exact ih (min a (gi o x.toNat)) (by omega)
theorem zeros2 {n : Nat} : zeros n [.int .i64 0, .int .i64 0] = ints (List.replicate (n * 2) 0) := by
  unfold zeros ints
  apply List.ext_getElem (by simp)
  intro i h1 h2
  have : i % 2 = 0 ∨ i % 2 = 1 := by omega
  rcases this with h | h <;> simp [h]
theorem makeS2_ok {n : Nat} {A : Hp} (hn : n < 1000000) : makeSA 2 16 [.int .i64 0, .int .i64 0] (.int .i64 n) (.int .i64 n) A = some (.slice (some ⟨A.n, 0, some 2⟩) n n, A.push (.cells (ints (List.replicate (n * 2) 0)) false)) := by
  unfold makeSA
  simp only
  rw [if_pos ⟨by omega, by omega, by unfold room; omega, by unfold room; omega⟩, zeros2]
  rfl
section
variable {g : Nat} {rd : Option Nat} {T : List Value} {D : List Nat} {A : Hp} {Q : Ex → St → Prop} {V : Value → Hp → Prop}
theorem SFin.rng {P : SPar} {o : List Int} (h : SFin P o) (c : Nat) : -1073741824 ≤ gi o c ∧ gi o c ≤ 1073741824 := by
  by_cases hc : c < P.m
  · exact h.le c hc
  · have : gi o c = 0 := by simp [gi, List.getD, show o.length ≤ c by have := h.len; omega]
    omega
theorem loop297 {A0 : Hp} {w h s : Int} {zs cs : List Int} {sl sv0 : Value} {m n X2 Y : Nat} (hm60 : m ≤ 60) (hn : n < 1000000) (hz : RdS A0 1 n (ints cs) sv0) (hsl : RdS A0 2 m (ints zs) sl) (hg : g ≤ Y) (h0 : seaE w h s m zs n cs = 0) (hX2 : A0.get X2 = some (.cells [.int .i64 w, .int .i64 h, .int .i64 s, sl] false))
    (hYn : Y < A0.n) (hYz : ∀ z, blkOf sv0 = some z → z ≠ Y) (hYs : ∀ z, blkOf sl = some z → z ≠ Y) (hY2 : X2 ≠ Y)
    (hQ : ∀ T' A' cur, But Y A0 A' → A'.get Y = some (.cells (ints cur) false) → cur.length = m * 2 → (∀ j, j < m → PondC w h m zs cs j (gi cur (j * 2)) (gi cur (j * 2 + 1))) → tget T' 7 = .slice (some ⟨Y, 0, some 2⟩) m m → Q (.exit 0) ⟨T', D, A'⟩) :
    ∀ (k i : Nat) {T : List Value} {A : Hp} (cur : List Int), i + k = m → But Y A0 A → A.get Y = some (.cells (ints cur) false) → cur.length = m * 2 → (∀ j, j < i → PondC w h m zs cs j (gi cur (j * 2)) (gi cur (j * 2 + 1))) → (∀ j, i * 2 ≤ j → gi cur j = 0) →
      tget T 1 = sv0 → tget T 2 = .pointer (some ⟨X2, 0, none⟩) → tget T 7 = .slice (some ⟨Y, 0, some 2⟩) m m → tget T 25 = sl → tget T 26 = .int .i64 m → tget T 27 = .int .i64 i → W AP KL g rd (.loop body297) ⟨T, D, A⟩ Q := by
  intro k
  have lz : zs.length = m * 2 := by have := hsl.1; simpa using this
  have hcl : cs.length = n := by have := hz.1; simpa using this
  have hE := (seaE_zero hcl h0).1
  obtain ⟨gw, gh, gm, gv⟩ := gridE_parts hE
  have hX2n := Hp.lt_of_get hX2
  induction k with
  | zero =>
    intro i T A cur hi hb hA hc hp hz0 t1 t2 t7 t25 t26 t27
    have : i = m := by omega
    subst this
    rw [W_loop]
    simp (disch := as_aux_lemma => first | omega | simp only [hDs] <;> omega | simp [isCell]) [hRs, takeMarks, resA, resAll, resOne, Value.cells, body297, t26, t27]
    exact hQ _ _ cur hb hA hc hp (by simp [t7])
  | succ k ih =>
    intro i T A cur hi hb hA hc hp hz0 t1 t2 t7 t25 t26 t27
    have e5 : wr .i64 ((i : Int) + 1) = ((i + 1 : Nat) : Int) := by rw [wrId (by omega) (by omega)]; simp
    have hAn := hb.1
    have hYA := Hp.lt_of_get hA
    have hzA := hz.keepB (A' := A) fun z hz' => hb.2 z (hz.blk_lt hz') (hYz z hz')
    have hsA := hsl.keepB (A' := A) fun z hz' => hb.2 z (hsl.blk_lt hz') (hYs z hz')
    obtain ⟨xb, xc, xr, rfl, hxb⟩ := hsA.at (show i < m by omega)
    have hxbn := Hp.lt_of_get hxb
    have a2 : A.get X2 = some (.cells [.int .i64 w, .int .i64 h, .int .i64 s, .slice (some ⟨xb, 0, some 2⟩) m xc] false) := by rw [hb.2 _ hX2n hY2]; exact hX2
    have gvi := gv i (by omega)
    rw [W_loop]
    simp (disch := as_aux_lemma => first | omega | simp only [hDs] <;> omega | simp [isCell]) [hRs, takeMarks, resA, resAll, resOne, Value.cells, body297, t1, t2, t7, t25, t26, t27, show ((i : Int) < m) by omega, show i < m by omega, idxSA_ok, hxb, ints_two, lz, storeB_cells, setRange_all, set_push_eq, a2]
    have f1 := Ext'.push A (.cells [.int .i64 (gi zs (i * 2)), .int .i64 (gi zs (i * 2 + 1))] false)
    refine w324 (up := false) (s := s) hm60 hn (f1.rdS hzA) (f1.rdS hsA) (by simp; omega) h0 (show i < m by omega) fun A1 v1 e1 hv1 => ?_
    have e01 := f1.trans e1
    have n01 := e01.1
    unfold BrinkV at hv1
    by_cases hin : (i : Int) ∈ cs
    · rw [if_pos hin] at hv1
      subst hv1
      simp (disch := as_aux_lemma => first | omega | simp only [hDs] <;> omega | simp [isCell]) [hRs, takeMarks, resA, resAll, resOne, Value.cells, t1, t2, e01.get a2]
      refine w324 (up := true) (s := s) hm60 hn (e01.rdS hzA) (e01.rdS hsA) (by omega) h0 (show i < m by omega) fun A2 v2 e2 hv2 => ?_
      unfold BrinkV at hv2
      rw [if_pos hin] at hv2
      subst hv2
      have e02 := e01.trans e2
      simp (disch := as_aux_lemma => first | omega | simp only [hDs] <;> omega | simp [isCell]) [hRs, takeMarks, resA, resAll, resOne, Value.cells, t27, e5]
      refine ih (i + 1) cur (by omega) (hb.trans (But.of_ext e02)) (e02.get hA) hc (fun j hj => ?_) (fun j hj => hz0 j (by omega)) ?_ ?_ ?_ ?_ ?_ ?_
      · by_cases hji : j = i
        · subst hji
          rw [PondC, if_pos hin]
          exact ⟨hz0 _ (by omega), hz0 _ (by omega)⟩
        · exact hp j (by omega)
      all_goals simp [t1, t2, t7, t25, t26]
    · rw [if_neg hin] at hv1
      obtain ⟨ol, s1, rfl⟩ := hv1
      simp (disch := as_aux_lemma => first | omega | simp only [hDs] <;> omega | simp [isCell]) [hRs, takeMarks, resA, resAll, resOne, Value.cells, t1, t2, e01.get a2]
      refine w324 (up := true) (s := s) hm60 hn (e01.rdS hzA) (e01.rdS hsA) (by omega) h0 (show i < m by omega) fun A2 v2 e2 hv2 => ?_
      unfold BrinkV at hv2
      rw [if_neg hin] at hv2
      obtain ⟨oh, s2, rfl⟩ := hv2
      have e02 := e01.trans e2
      have n02 := e02.1
      have b9 : A2.get A.n = some (.cells [.int .i64 (gi zs (i * 2)), .int .i64 (gi zs (i * 2 + 1))] false) := (e1.trans e2).get get_push_new
      have r1 := leastL_rng (o := ol) (fun c => s1.rng c) (nbrs w h i)
      have r2 := leastL_rng (o := oh) (fun c => s2.rng c) (nbrs w h i)
      have u1 : wr .i64 (leastL ol (nbrs w h i) - gi zs (i * 2 + 1)) = leastL ol (nbrs w h i) - gi zs (i * 2 + 1) := wrId (by omega) (by omega)
      have u2 : wr .i64 (leastL oh (nbrs w h i) - gi zs (i * 2)) = leastL oh (nbrs w h i) - gi zs (i * 2) := wrId (by omega) (by omega)
      have hA2 := e02.get hA
      simp (disch := as_aux_lemma => first | omega | simp only [hDs] <;> omega | simp [isCell]) [hRs, takeMarks, resA, resAll, resOne, Value.cells, t7, t27, e5, b9, u1, u2, fillA, setRange, idxSA_ok, show i < m by omega, storeB_cells, hA2, hc]
      have e6 : ∀ a b : Int, List.take (i * 2) (ints cur) ++ .int .i64 a :: .int .i64 b :: List.drop (i * 2 + 2) (ints cur) = ints ((cur.set (i * 2) a).set (i * 2 + 1) b) := fun a b => by
        rw [← setRange_two (by omega)]; simp [setRange]
      rw [e6]
      refine ih (i + 1) _ (by omega) (hb.trans (But.set hYA e02)) (get_set_same hA2) (by simp [hc]) (fun j hj => ?_) (fun j hj => ?_) ?_ ?_ ?_ ?_ ?_ ?_
      · by_cases hji : j = i
        · subst hji
          rw [gi_setI (by simp; omega), if_neg (by omega), gi_setI (by omega), if_pos rfl, gi_setI (by simp; omega), if_pos rfl, PondC, if_neg hin]
          exact ⟨ol, oh, s1, s2, rfl, rfl⟩
        · rw [gi_setI (by simp; omega), if_neg (by omega), gi_setI (by omega), if_neg (by omega), gi_setI (by simp; omega), if_neg (by omega), gi_setI (by omega), if_neg (by omega)]
          exact hp j (by omega)
      · rw [gi_setI (by simp; omega), if_neg (by omega), gi_setI (by omega), if_neg (by omega)]
        exact hz0 j (by omega)
      all_goals simp [t1, t2, t7, t25, t26]
def PondV (A : Hp) (w h s : Int) (m : Nat) (zs : List Int) (n : Nat) (cs : List Int) (N : Nat) (sv : Value) (e : Int) : Prop :=
  e = seaE w h s m zs n cs ∧ if e = 0 then ∃ ps : List Int, ps.length = m * 2 ∧ (∀ j, j < m → PondC w h m zs cs j (gi ps (j * 2)) (gi ps (j * 2 + 1))) ∧ RdS A 2 m (ints ps) sv ∧ ∀ b, blkOf sv = some b → N ≤ b else sv = .slice none 0 0
theorem w297 {w h s : Int} {zs cs : List Int} {sl sv0 : Value} {m n : Nat} (hm60 : m ≤ 60) (hn : n < 1000000) (hz : RdS A 1 n (ints cs) sv0) (hsl : RdS A 2 m (ints zs) sl) (hg : g ≤ A.n)
    (hV : ∀ A' sv e, Ext' A A' → PondV A' w h s m zs n cs A.n sv e → V (.tuple ⟨[sv, .int .i64 e]⟩) A') : WF AP KL g 297 [gridV w h s sl, sv0] A V := by
  rw [WF_body (show KL 297 = none from rfl) (show AP 297 = some F297 from rfl)]
  obtain ⟨B, hB⟩ : ∃ B, B = A.push (.cells [.int .i64 w, .int .i64 h, .int .i64 s, sl] false) := ⟨_, rfl⟩
  have eB : Ext' A B := by rw [hB]; exact Ext'.push _ _
  have nB : B.n = A.n + 1 := by rw [hB]; rfl
  have b2 : B.get A.n = some (.cells [.int .i64 w, .int .i64 h, .int .i64 s, sl] false) := by rw [hB]; exact get_push_new
  have hl := hsl.len
  simp (disch := as_aux_lemma => first | omega | simp only [hDs] <;> omega | simp [isCell]) [hRs, takeMarks, resA, resAll, resOne, Value.cells, F297, gridV, ← hB, b2]
  refine w266 (by omega) hn (eB.rdS hz) (eB.rdS hsl) fun A1 e1 => ?_
  have e01 := eB.trans e1
  have n1 := e1.1
  by_cases h0 : seaE w h s m zs n cs = 0
  · simp (disch := as_aux_lemma => first | omega | simp only [hDs] <;> omega | simp [isCell]) [hRs, takeMarks, resA, resAll, resOne, Value.cells, h0, e1.get b2, hl, makeS2_ok (n := m) (by omega)]
    obtain ⟨C, hC⟩ : ∃ C, C = A1.push (.cells (ints (List.replicate (m * 2) 0)) false) := ⟨_, rfl⟩
    rw [← hC]
    have eC : Ext' A1 C := by rw [hC]; exact Ext'.push _ _
    have nC : C.n = A1.n + 1 := by rw [hC]; rfl
    have cY : C.get A1.n = some (.cells (ints (List.replicate (m * 2) 0)) false) := by rw [hC]; exact get_push_new
    refine loop297 (A0 := C) (X2 := A.n) (Y := A1.n) (w := w) (h := h) (s := s) (zs := zs) (cs := cs) (sl := sl) (sv0 := sv0) hm60 hn ((e01.trans eC).rdS hz) ((e01.trans eC).rdS hsl) (by omega) h0 ((e1.trans eC).get b2) (by omega) (fun z hz' => by have := hz.blk_lt hz'; omega) (fun z hz' => by have := hsl.blk_lt hz'; omega) (by omega)
      (fun T' A' cur hb hA' hc hp t7 => ?_) m 0 (List.replicate (m * 2) 0) (by omega) (But.of_ext ⟨Nat.le_refl _, fun _ _ => rfl⟩) cY (by simp) (fun j hj => by omega) (fun j _ => ?_) ?_ ?_ ?_ ?_ ?_ ?_
    · simp (disch := as_aux_lemma => first | omega | simp only [hDs] <;> omega | simp [isCell]) [hRs, takeMarks, resA, resAll, resOne, Value.cells, t7]
      have hn' := hb.1
      refine hV A' _ 0 ⟨by omega, fun z hz' => by rw [hb.2 z (by omega) (by omega), (e01.trans eC).2 z hz']⟩ ⟨h0.symm, ?_⟩
      rw [if_pos rfl]
      refine ⟨cur, hc, hp, ⟨by simp [hc], .inr ⟨A1.n, m, false, rfl, hA'⟩⟩, fun b hb' => ?_⟩
      have : A1.n = b := by simpa [blkOf] using hb'
      omega
    · unfold gi
      by_cases hj : j < m * 2
      · simp [List.getD, hj]
      · simp [List.getD, hj]
    all_goals simp [hl]
  · simp (disch := as_aux_lemma => first | omega | simp only [hDs] <;> omega | simp [isCell]) [hRs, takeMarks, resA, resAll, resOne, Value.cells, h0]
    refine hV A1 _ _ e01 ⟨rfl, ?_⟩
    rw [if_neg h0]
end
end Go.Ab.Grid
set_option maxRecDepth 100000
namespace Go.Ab.Grid
open Go Go.Ab
def mz (xs ys : List Int) : Nat → List Int
  | 0 => xs
  | i + 1 => wset (mz xs ys i) i (gi ys (i * 2)) (gi ys (i * 2 + 1))
theorem mz_len {xs ys : List Int} : ∀ {i : Nat}, (mz xs ys i).length = xs.length
  | 0 => rfl
  | i + 1 => by rw [mz]; unfold wset; simp [mz_len (i := i)]
theorem mz_get {xs ys : List Int} {m j : Nat} (hx : xs.length = m * 2) : ∀ {i : Nat}, i ≤ m → j < m →
    gi (mz xs ys i) (j * 2) = (if j < i then max (gi xs (j * 2)) (gi ys (j * 2)) else gi xs (j * 2)) ∧ gi (mz xs ys i) (j * 2 + 1) = if j < i then min (gi xs (j * 2 + 1)) (gi ys (j * 2 + 1)) else gi xs (j * 2 + 1)
  | 0, _, _ => by simp [mz]
  | i + 1, hi, hj => by
    obtain ⟨a, b⟩ := mz_get (ys := ys) (j := j) hx (i := i) (by omega) hj
    obtain ⟨c, d⟩ := mz_get (ys := ys) (j := i) hx (i := i) (by omega) (by omega)
    have hl : (mz xs ys i).length = m * 2 := by rw [mz_len, hx]
    rw [mz, wset_lo (by omega), wset_hi (by omega)]
    by_cases h : j = i
    · subst h
      rw [if_neg (by omega)] at c d
      rw [if_pos rfl, if_pos rfl, c, d, if_pos (Nat.lt_succ_self _), if_pos (Nat.lt_succ_self _)]
      exact ⟨rfl, rfl⟩
    · rw [if_neg h, if_neg h, a, b]
      by_cases h2 : j < i
      · rw [if_pos h2, if_pos h2, if_pos (by omega), if_pos (by omega)]; exact ⟨rfl, rfl⟩
      · rw [if_neg h2, if_neg h2, if_neg (by omega), if_neg (by omega)]; exact ⟨rfl, rfl⟩
def Fit (xs ys : List Int) (j : Nat) : Prop := max (gi xs (j * 2)) (gi ys (j * 2)) ≤ min (gi xs (j * 2 + 1)) (gi ys (j * 2 + 1))
theorem leastL_mono {o o' : List Int} {l : List Int} (h : ∀ d, d ∈ l → gi o d.toNat ≤ gi o' d.toNat) : leastL o l ≤ leastL o' l := by
  unfold leastL
  have key : ∀ (l : List Int), (∀ d, d ∈ l → gi o d.toNat ≤ gi o' d.toNat) → ∀ a a' : Int, a ≤ a' → l.foldl (fun a d => min a (gi o d.toNat)) a ≤ l.foldl (fun a d => min a (gi o' d.toNat)) a' := by
    intro l
    induction l with
    | nil => intro _ a a' h; exact h
    | cons x l ih =>
      intro hl a a' ha
      simp only [List.foldl_cons]
      have := hl x (List.mem_cons_self ..)
      exact ih (fun d hd => hl d (List.mem_cons_of_mem _ hd)) _ _ (by omega)
  exact key l h _ _ (Int.le_refl _)
section
variable {w h s s' : Int} {m : Nat} {zs zs' : List Int} {sea : List Nat}
theorem sp_mono {up up' : Bool} {bar : Option Nat} {o o' : List Int} (hE : gridE w h s m zs = 0) (hE' : gridE w h s' m zs' = 0) (hm : m ≤ 60) (hsea : ∀ c, c ∈ sea → c < m) (hh : ∀ c, c < m → gi zs (c * 2 + upN up) ≤ gi zs' (c * 2 + upN up'))
    (h1 : SFin (sPar up bar w h m zs sea) o) (h2 : SFin (sPar up' bar w h m zs' sea) o') {c : Nat} (hc : c < m) : gi o c ≤ gi o' c :=
  SFin.mono (sPar_line hE hm hsea).ok (sPar_line hE' hm hsea).ok rfl rfl (fun _ _ => rfl) (fun c hc => by
    show (if some c = bar then (1073741824 : Int) else _) ≤ if some c = bar then (1073741824 : Int) else _
    split
    · exact Int.le_refl _
    · exact hh c hc) h1 h2 hc
theorem PondC.mono {cs : List Int} {i : Nat} {a b a' b' : Int} (hE : gridE w h s m zs = 0) (hE' : gridE w h s' m zs' = 0) (hm : m ≤ 60) (hsea : ∀ c, c ∈ seaN cs → c < m)
    (hh : ∀ j, j < m → gi zs (j * 2) ≤ gi zs' (j * 2) ∧ gi zs' (j * 2) ≤ gi zs' (j * 2 + 1) ∧ gi zs' (j * 2 + 1) ≤ gi zs (j * 2 + 1)) (hi : i < m) (h1 : PondC w h m zs cs i a b) (h2 : PondC w h m zs' cs i a' b') : a ≤ a' ∧ b' ≤ b ∧ a' ≤ b' := by
  unfold PondC at h1 h2
  by_cases hin : (i : Int) ∈ cs
  · rw [if_pos hin] at h1 h2; omega
  · rw [if_neg hin] at h1 h2
    obtain ⟨ol, oh, f1, f2, e1, e2⟩ := h1
    obtain ⟨ol', oh', f1', f2', e1', e2'⟩ := h2
    have hnb : ∀ d, d ∈ nbrs w h i → d.toNat < m := fun d hd => (sPar_line (up := false) (bar := none) hE hm hsea).ok.nb i hi d.toNat (List.mem_map_of_mem hd)
    have a1 := leastL_mono fun d hd => sp_mono (up := false) (up' := false) hE hE' hm hsea (fun c hc => (hh c hc).1) f1 f1' (hnb d hd)
    have a2 := leastL_mono fun d hd => sp_mono (up := true) (up' := true) hE' hE hm hsea (fun c hc => (hh c hc).2.2) f2' f2 (hnb d hd)
    have a3 := leastL_mono fun d hd => sp_mono (up := false) (up' := true) hE' hE' hm hsea (fun c hc => (hh c hc).2.1) f1' f2' (hnb d hd)
    have := hh i hi
    omega
end
structure Met (x y : G) (Z : List Int) : Prop where
  len : Z.length = x.m * 2
  at_ : ∀ j, j < x.m → gi Z (j * 2) = max (gi x.zs (j * 2)) (gi y.zs (j * 2)) ∧ gi Z (j * 2 + 1) = min (gi x.zs (j * 2 + 1)) (gi y.zs (j * 2 + 1)) ∧ gi Z (j * 2) ≤ gi Z (j * 2 + 1)
theorem Met.of {x y : G} (lx : x.zs.length = x.m * 2) (h : ∀ j, j < x.m → Fit x.zs y.zs j) : Met x y (mz x.zs y.zs x.m) :=
  ⟨by rw [mz_len, lx], fun j hj => by
    obtain ⟨a, b⟩ := mz_get (ys := y.zs) lx (Nat.le_refl _) hj
    rw [if_pos hj] at a b
    have := h j hj
    unfold Fit at this
    rw [a, b]
    exact ⟨rfl, rfl, this⟩⟩
theorem Met.E {L : Land} {y : G} {Z : List Int} (hO : L.Ok) (h : Met L.G y Z) : gridE L.w L.h 100 L.n Z = 0 := by
  have hw := hO.w
  have hh := hO.h
  have hn := hO.n
  refine gridE_d ?_ (by rw [← hn.1]; exact (wrId (by omega) (by omega)).symm) ?_
  · rw [show (decide (1 ≤ L.w) && decide (L.w ≤ 24)) = true by simp; omega, show (decide (1 ≤ L.h) && decide (L.h ≤ 24)) = true by simp; omega]
    decide
  · rw [List.any_eq_false]
    intro j hj
    rw [List.mem_range] at hj
    obtain ⟨a, b⟩ := Land.zs_get (L := L) hj
    obtain ⟨c, d, e⟩ := h.at_ j hj
    have r := hO.rng j
    rw [show L.G.zs = L.zs L.n from rfl, a] at c
    rw [show L.G.zs = L.zs L.n from rfl, b] at d
    have : grd Z j = true := by
      unfold grd validB
      simp
      omega
    rw [this]
    decide
end Go.Ab.Grid
set_option maxRecDepth 100000
namespace Go.Ab.Grid
open Go Go.Ab
def nrC (w c d : Int) : Bool := decide ((c.tmod w - d.tmod w) * (c.tmod w - d.tmod w) + (c.tdiv w - d.tdiv w) * (c.tdiv w - d.tdiv w) = 1)
def nearI (w c : Int) : Nat → List Int
  | 0 => []
  | d + 1 => nearI w c d ++ (if nrC w c d = true then [(d : Int)] else [])
theorem nearI_mem {w c x : Int} : ∀ {n : Nat}, x ∈ nearI w c n ↔ ∃ d : Nat, d < n ∧ x = (d : Int) ∧ nrC w c d = true
  | 0 => by simp [nearI]
  | n + 1 => by
    rw [nearI, List.mem_append, nearI_mem]
    constructor
    · rintro (⟨d, h1, h2, h3⟩ | h)
      · exact ⟨d, by omega, h2, h3⟩
      · by_cases hn : nrC w c n = true
        · rw [if_pos hn, List.mem_singleton] at h
          exact ⟨n, by omega, h, hn⟩
        · rw [if_neg hn] at h; cases h
    · rintro ⟨d, h1, h2, h3⟩
      by_cases hd : d = n
      · subst hd
        rw [if_pos h3]
        exact .inr (by rw [h2]; exact List.mem_singleton.2 rfl)
      · exact .inl ⟨d, by omega, h2, h3⟩
theorem nearI_le {w c : Int} : ∀ {n : Nat}, (nearI w c n).length ≤ n
  | 0 => by simp [nearI]
  | n + 1 => by
    rw [nearI, List.length_append]
    have := nearI_le (w := w) (c := c) (n := n)
    split <;> simp <;> omega
def nrTab : Bool := (List.range 5).all fun w => (List.range 5).all fun h => (List.range ((w + 1) * (h + 1))).all fun c => (List.range ((w + 1) * (h + 1))).all fun d =>
  nrC ((w + 1 : Nat) : Int) (c : Int) (d : Int) == (nbrs ((w + 1 : Nat) : Int) ((h + 1 : Nat) : Int) (c : Int)).contains (d : Int)
theorem nrTab_ok : nrTab = true := by kernel_rfl
theorem nr_nbrs {w h : Int} {c d : Nat} (hw : 1 ≤ w ∧ w ≤ 5) (hh : 1 ≤ h ∧ h ≤ 5) (hc : (c : Int) < w * h) (hd : (d : Int) < w * h) : nrC w c d = true ↔ (d : Int) ∈ nbrs w h c := by
  obtain ⟨a, rfl⟩ : ∃ a : Nat, w = ((a + 1 : Nat) : Int) := ⟨w.toNat - 1, by omega⟩
  obtain ⟨b, rfl⟩ : ∃ b : Nat, h = ((b + 1 : Nat) : Int) := ⟨h.toNat - 1, by omega⟩
  have hc' : c < (a + 1) * (b + 1) := by rw [← Int.natCast_mul] at hc; omega
  have hd' : d < (a + 1) * (b + 1) := by rw [← Int.natCast_mul] at hd; omega
  have h1 := nrTab_ok
  unfold nrTab at h1
  have h2 := List.all_eq_true.1 h1 a (List.mem_range.2 (by omega))
  have h3 := List.all_eq_true.1 h2 b (List.mem_range.2 (by omega))
  have h4 := List.all_eq_true.1 h3 c (List.mem_range.2 hc')
  have h5 := List.all_eq_true.1 h4 d (List.mem_range.2 hd')
  rw [beq_iff_eq] at h5
  rw [h5, List.contains_iff_mem]
def gQ (l : List Bool) (i : Nat) : Bool := l.getD i false
theorem gQ_get {l : List Bool} {i : Nat} (h : i < l.length) : cellAt (bools l) i = some (.bool (gQ l i)) := by simp [bools, cellAt, gQ, h]
theorem gQ_set {l : List Bool} {d a : Nat} (h : d < l.length) : gQ (l.set d true) a = if a = d then true else gQ l a := by
  unfold gQ
  rw [List.getD_eq_getElem?_getD, List.getD_eq_getElem?_getD, List.getElem?_set]
  by_cases h' : a = d
  · subst h'; simp [h]
  · rw [if_neg (fun x => h' x.symm), if_neg h']
theorem gQ_rep {m c : Nat} : gQ (List.replicate m false) c = false := by
  unfold gQ
  rw [List.getD_eq_getElem?_getD, List.getElem?_replicate]
  split <;> rfl
structure WetI (P : SPar) (lv : Int) (out : List Bool) (q : List Nat) (cur : Option (Nat × List Nat)) (ss : List Nat) : Prop where
  len : out.length = P.m
  snd : ∀ c, c < P.m → gQ out c = true → ∃ v, v < lv ∧ P.Der c v
  qin : ∀ c, c ∈ q → c < P.m ∧ gQ out c = true
  sea : ∀ c, c ∈ ss → P.ht c < lv → gQ out c = true
  cl : ∀ a, a < P.m → gQ out a = true → a ∈ q ∨ (∃ dn, cur = some (a, dn) ∧ ∀ d, d ∈ dn → P.ht d < lv → gQ out d = true) ∨ (∀ d, d ∈ P.nb a → P.ht d < lv → gQ out d = true)
theorem WetI.start {P : SPar} {lv : Int} : WetI P lv (List.replicate P.m false) [] none [] :=
  ⟨by simp, fun c _ h => absurd h (by rw [gQ_rep]; decide), fun c h => absurd h (by simp), fun c h => absurd h (by simp), fun a _ h => absurd h (by rw [gQ_rep]; decide)⟩
theorem WetI.flag {P : SPar} {lv : Int} {out : List Bool} {q ss : List Nat} {cur : Option (Nat × List Nat)} {d : Nat} {v : Int} (h : WetI P lv out q cur ss) (hd : d < P.m) (hv : v < lv) (hder : P.Der d v) : WetI P lv (out.set d true) (q ++ [d]) cur ss := by
  have hl := h.len
  have mono : ∀ {a}, gQ out a = true → gQ (out.set d true) a = true := fun {a} ha => by
    rw [gQ_set (by omega)]
    split
    · rfl
    · exact ha
  refine ⟨by simp [hl], fun c hc hg => ?_, fun c hc => ?_, fun c hc hh => mono (h.sea c hc hh), fun a ha hg => ?_⟩
  · rw [gQ_set (by omega)] at hg
    by_cases hcd : c = d
    · subst hcd; exact ⟨v, hv, hder⟩
    · rw [if_neg hcd] at hg; exact h.snd c hc hg
  · rcases List.mem_append.1 hc with h1 | h1
    · exact ⟨(h.qin c h1).1, mono (h.qin c h1).2⟩
    · rw [List.mem_singleton] at h1
      subst h1
      exact ⟨hd, by rw [gQ_set (by omega), if_pos rfl]⟩
  · by_cases had : a = d
    · subst had; exact .inl (by simp)
    · rw [gQ_set (by omega), if_neg had] at hg
      rcases h.cl a ha hg with h1 | ⟨dn, h1, h2⟩ | h1
      · exact .inl (List.mem_append.2 (.inl h1))
      · exact .inr (.inl ⟨dn, h1, fun e he hh => mono (h2 e he hh)⟩)
      · exact .inr (.inr fun e he hh => mono (h1 e he hh))
theorem WetI.seaOne {P : SPar} {lv : Int} {out : List Bool} {q ss : List Nat} {c : Nat} (h : WetI P lv out q none ss) (hc : P.ht c < lv → gQ out c = true) : WetI P lv out q none (ss ++ [c]) :=
  ⟨h.len, h.snd, h.qin, fun d hd hh => by
    rcases List.mem_append.1 hd with h1 | h1
    · exact h.sea d h1 hh
    · rw [List.mem_singleton] at h1; subst h1; exact hc hh, h.cl⟩
theorem WetI.take {P : SPar} {lv : Int} {out : List Bool} {q ss : List Nat} {c : Nat} (h : WetI P lv out (c :: q) none ss) : WetI P lv out q (some (c, [])) ss :=
  ⟨h.len, h.snd, fun d hd => h.qin d (List.mem_cons_of_mem _ hd), h.sea, fun a ha hg => by
    rcases h.cl a ha hg with h1 | ⟨dn, h1, _⟩ | h1
    · rcases List.mem_cons.1 h1 with h2 | h2
      · subst h2; exact .inr (.inl ⟨[], rfl, fun d hd => by cases hd⟩)
      · exact .inl h2
    · cases h1
    · exact .inr (.inr h1)⟩
theorem WetI.doneOne {P : SPar} {lv : Int} {out : List Bool} {q ss : List Nat} {c d : Nat} {dn : List Nat} (h : WetI P lv out q (some (c, dn)) ss) (hd : P.ht d < lv → gQ out d = true) : WetI P lv out q (some (c, dn ++ [d])) ss :=
  ⟨h.len, h.snd, h.qin, h.sea, fun a ha hg => by
    rcases h.cl a ha hg with h1 | ⟨dn', h1, h2⟩ | h1
    · exact .inl h1
    · cases h1
      refine .inr (.inl ⟨_, rfl, fun e he hh => ?_⟩)
      rcases List.mem_append.1 he with h3 | h3
      · exact h2 e h3 hh
      · rw [List.mem_singleton] at h3; subst h3; exact hd hh
    · exact .inr (.inr h1)⟩
theorem WetI.shut {P : SPar} {lv : Int} {out : List Bool} {q ss : List Nat} {c : Nat} {dn : List Nat} (h : WetI P lv out q (some (c, dn)) ss) (hdn : ∀ d, d ∈ P.nb c → d ∈ dn) : WetI P lv out q none ss :=
  ⟨h.len, h.snd, h.qin, h.sea, fun a ha hg => by
    rcases h.cl a ha hg with h1 | ⟨dn', h1, h2⟩ | h1
    · exact .inl h1
    · cases h1; exact .inr (.inr fun d hd hh => h2 d (hdn d hd) hh)
    · exact .inr (.inr h1)⟩
theorem WetI.fin {P : SPar} {lv : Int} {out : List Bool} {o : List Int} (hP : SParOk P) (h : WetI P lv out [] none P.sea) (ho : SFin P o) (hlv : lv ≤ 1073741824) {c : Nat} (hc : c < P.m) : gQ out c = decide (gi o c < lv) := by
  have up : ∀ {a : Nat} {v : Int}, P.Der a v → v < lv → gQ out a = true := by
    intro a v hd
    induction hd with
    | base hs => intro hv; exact h.sea _ hs (by omega)
    | step h1 h2 ih =>
      intro hv
      have ha := h1.lt hP
      rcases h.cl _ ha (ih (by omega)) with h3 | ⟨_, h3, _⟩ | h3
      · cases h3
      · cases h3
      · exact h3 _ h2 (by omega)
  by_cases hg : gQ out c = true
  · obtain ⟨v, hv, hd⟩ := h.snd c hc hg
    have := ho.least hP hd
    rw [hg]
    simp
    omega
  · have : ¬ gi o c < lv := fun hlt => by
      rcases ho.out c hc with h1 | h1
      · rw [h1] at hlt; unfold noneV at hlt; omega
      · exact hg (up h1 hlt)
    simp [hg, this]
def dryN (out : List Bool) : Nat := (out.filter fun x => !x).length
theorem dryN_set : ∀ {out : List Bool} {d : Nat}, d < out.length → gQ out d = false → dryN (out.set d true) + 1 = dryN out
  | x :: l, 0, _, h => by
    have hx : x = false := h
    subst hx
    simp [dryN]
  | x :: l, d + 1, hd, h => by
    have := dryN_set (out := l) (d := d) (by simpa using hd) h
    unfold dryN at this ⊢
    cases x <;> simp [List.set_cons_succ] <;> omega
theorem dryN_rep {m : Nat} : dryN (List.replicate m false) = m := by
  unfold dryN
  induction m with
  | zero => rfl
  | succ m ih => rw [List.replicate_succ]; simp [ih]
end Go.Ab.Grid
set_option maxRecDepth 100000
namespace Go.Ab.Grid
open Go Go.Ab
def leastW (o : List Int) (l : List Int) : Int := l.foldl (fun a d => min a (gi o d.toNat)) 1200000
theorem le_fold {f : Int → Int} {t : Int} : ∀ {l : List Int} {a : Int}, t ≤ l.foldl (fun a d => min a (f d)) a ↔ t ≤ a ∧ ∀ d, d ∈ l → t ≤ f d
  | [], a => by simp
  | x :: l, a => by
    rw [List.foldl_cons, le_fold]
    constructor
    · rintro ⟨h1, h2⟩
      refine ⟨by omega, fun d hd => ?_⟩
      rcases List.mem_cons.1 hd with rfl | h3
      · omega
      · exact h2 d h3
    · rintro ⟨h1, h2⟩
      have := h2 x (List.mem_cons_self ..)
      exact ⟨by omega, fun d hd => h2 d (List.mem_cons_of_mem _ hd)⟩
def prTab : Bool := (List.range 5).all fun w => (List.range 5).all fun h => (List.range ((w + 1) * (h + 1))).all fun c =>
  c == 0 || (List.range c).any fun p => (nbrs ((w + 1 : Nat) : Int) ((h + 1 : Nat) : Int) (p : Int)).contains (c : Int) && (nbrs ((w + 1 : Nat) : Int) ((h + 1 : Nat) : Int) (c : Int)).contains (p : Int)
theorem prTab_ok : prTab = true := by kernel_rfl
theorem pr_nbrs {w h : Int} {c : Nat} (hw : 1 ≤ w ∧ w ≤ 5) (hh : 1 ≤ h ∧ h ≤ 5) (hc : (c : Int) < w * h) (h0 : c ≠ 0) : ∃ p : Nat, p < c ∧ (c : Int) ∈ nbrs w h p ∧ (p : Int) ∈ nbrs w h c := by
  obtain ⟨a, rfl⟩ : ∃ a : Nat, w = ((a + 1 : Nat) : Int) := ⟨w.toNat - 1, by omega⟩
  obtain ⟨b, rfl⟩ : ∃ b : Nat, h = ((b + 1 : Nat) : Int) := ⟨h.toNat - 1, by omega⟩
  have hc' : c < (a + 1) * (b + 1) := by rw [← Int.natCast_mul] at hc; omega
  have h1 := prTab_ok
  unfold prTab at h1
  have h2 := List.all_eq_true.1 h1 a (List.mem_range.2 (by omega))
  have h3 := List.all_eq_true.1 h2 b (List.mem_range.2 (by omega))
  have h4 := List.all_eq_true.1 h3 c (List.mem_range.2 hc')
  rw [Bool.or_eq_true] at h4
  rcases h4 with h4 | h4
  · rw [beq_iff_eq] at h4; exact absurd h4 h0
  · obtain ⟨p, hp, hx⟩ := List.any_eq_true.1 h4
    rw [Bool.and_eq_true, List.contains_iff_mem, List.contains_iff_mem] at hx
    exact ⟨p, List.mem_range.1 hp, hx.1, hx.2⟩
section
variable {w h s : Int} {m : Nat} {zs : List Int}
def wallZ (zs : List Int) (c : Nat) : List Int := (zs.set (c * 2) 1200000).set (c * 2 + 1) 1200000
theorem wallZ_len {c : Nat} : (wallZ zs c).length = zs.length := by simp [wallZ]
theorem wallZ_lo {c j : Nat} (h : c * 2 + 1 < zs.length) : gi (wallZ zs c) (j * 2) = if j = c then 1200000 else gi zs (j * 2) := by
  unfold wallZ
  rw [gi_setI (by simp; omega), if_neg (by omega), gi_setI (by omega)]
  by_cases hj : j = c
  · rw [if_pos (by omega), if_pos hj]
  · rw [if_neg (by omega), if_neg hj]
theorem wallZ_hi {c j : Nat} (h : c * 2 + 1 < zs.length) : gi (wallZ zs c) (j * 2 + 1) = if j = c then 1200000 else gi zs (j * 2 + 1) := by
  unfold wallZ
  rw [gi_setI (by simp; omega)]
  by_cases hj : j = c
  · rw [if_pos (by omega), if_pos hj]
  · rw [if_neg (by omega), if_neg hj, gi_setI (by omega), if_neg (by omega)]
theorem wallZ_E {c : Nat} (hl : zs.length = m * 2) (hc : c < m) (hE : gridE w h s m zs = 0) : gridE w h s m (wallZ zs c) = 0 := by
  unfold gridE at hE ⊢
  split at hE
  · exact absurd hE (by decide)
  · split at hE
    · exact absurd hE (by decide)
    · split at hE
      · exact absurd hE (by decide)
      · rename_i h1 h2 h3
        rw [if_neg h1, if_neg h2, if_neg]
        intro ha
        apply h3
        obtain ⟨j, hj, hx⟩ := List.any_eq_true.1 ha
        refine List.any_eq_true.2 ⟨j, hj, ?_⟩
        rw [List.mem_range] at hj
        unfold grd at hx ⊢
        rw [wallZ_lo (by omega), wallZ_hi (by omega)] at hx
        by_cases hjc : j = c
        · rw [if_pos hjc, if_pos hjc] at hx
          exact absurd hx (by decide)
        · rw [if_neg hjc, if_neg hjc] at hx; exact hx
theorem dep_eq {c : Nat} {sea : List Nat} {o o' : List Int} (hw : 1 ≤ w ∧ w ≤ 5) (hh : 1 ≤ h ∧ h ≤ 5) (hm : m ≤ 60) (hl : zs.length = m * 2) (hE : gridE w h s m zs = 0) (hsea : ∀ c, c ∈ sea → c < m) (h0 : 0 ∈ sea) (hcs : c ∉ sea) (hc : c < m) (hlow : ∀ j, j < m → gi zs (j * 2) < 1200000)
    (ho : SFin (sPar false (some c) w h m zs sea) o) (ho' : SFin (sPar false none w h m (wallZ zs c) sea) o') : leastW o' (nearI w c m) = leastL o (nbrs w h c) := by
  have hmw := (gridE_parts hE).2.2.1
  have okP := (sPar_line (up := false) (bar := some c) hE hm hsea).ok
  have okP' := (sPar_line (up := false) (bar := none) (wallZ_E hl hc hE) hm hsea).ok
  have hts : ∀ j, (sPar false (some c) w h m zs sea).ht j = if j = c then 1073741824 else gi zs (j * 2) := fun j => by
    show (if some j = some c then (1073741824 : Int) else gi zs (j * 2 + upN false)) = _
    simp [upN]
  have hts' : ∀ j, (sPar false none w h m (wallZ zs c) sea).ht j = if j = c then 1200000 else gi zs (j * 2) := fun j => by
    show (if some j = none then (1073741824 : Int) else gi (wallZ zs c) (j * 2 + upN false)) = _
    rw [if_neg (by simp), show upN false = 0 from rfl, Nat.add_zero, wallZ_lo (by omega)]
  have i1 : ∀ d, d < m → gi o' d ≤ gi o d := fun d hd => SFin.mono okP' okP rfl rfl (fun _ _ => rfl) (fun j _ => by rw [hts, hts']; split <;> omega) ho' ho hd
  have key : ∀ {d : Nat} {v : Int}, (sPar false none w h m (wallZ zs c) sea).Der d v → v < 1200000 → (sPar false (some c) w h m zs sea).Der d v := by
    intro d v hd
    induction hd with
    | @base a hs =>
      intro hv
      rw [hts'] at hv ⊢
      have hne : a ≠ c := fun h => by rw [if_pos h] at hv; omega
      rw [if_neg hne]
      have := SPar.Der.base (P := sPar false (some c) w h m zs sea) hs
      rw [hts, if_neg hne] at this
      exact this
    | @step a b v h1 h2 ih =>
      intro hv
      rw [hts'] at hv ⊢
      have hne : b ≠ c := fun h => by rw [if_pos h] at hv; omega
      rw [if_neg hne] at hv ⊢
      have := SPar.Der.step (P := sPar false (some c) w h m zs sea) (ih (by omega)) h2
      rw [hts, if_neg hne] at this
      exact this
  have i2 : ∀ d, d < m → gi o' d < 1200000 → gi o d ≤ gi o' d := fun d hd hlt => by
    rcases ho'.out d hd with h1 | h1
    · rw [h1] at hlt; unfold noneV at hlt; omega
    · exact ho.least okP (key h1 hlt)
  have hc0 : c ≠ 0 := fun h => hcs (h ▸ h0)
  have i3 : ∀ (k e : Nat), e < k → e < c → ∃ v, v < 1200000 ∧ (sPar false (some c) w h m zs sea).Der e v := by
    intro k
    induction k with
    | zero => intro e he; omega
    | succ k ih =>
      intro e he hec
      have hz := hlow e (by omega)
      by_cases he0 : e = 0
      · subst he0
        refine ⟨_, ?_, .base h0⟩
        rw [hts, if_neg (by omega)]
        omega
      · obtain ⟨p, hp, h1, _⟩ := pr_nbrs hw hh (c := e) (by omega) he0
        obtain ⟨v, hv, hd⟩ := ih p (by omega) (by omega)
        refine ⟨_, ?_, hd.step (List.mem_map.2 ⟨(e : Int), h1, by simp⟩)⟩
        rw [hts, if_neg (by omega)]
        omega
  obtain ⟨p, hp, _, hpn⟩ := pr_nbrs hw hh (c := c) (by omega) hc0
  obtain ⟨v, hv, hd⟩ := i3 (p + 1) p (by omega) hp
  have i4 := ho.least okP hd
  have nb : ∀ x, x ∈ nbrs w h c → ∃ d : Nat, x = (d : Int) ∧ d < m := fun x hx => by
    have hdm : x.toNat < m := (sPar_line (up := false) (bar := none) hE hm hsea).ok.nb c hc x.toNat (List.mem_map_of_mem hx)
    have := nbrs_back (w := w) (h := h) (c := c) (l := [x]) hw.1 (fun y hy => by rw [List.mem_singleton] at hy; rw [hy]; exact hx)
    simp at this
    exact ⟨x.toNat, by omega, hdm⟩
  have mem : ∀ x, x ∈ nearI w c m ↔ x ∈ nbrs w h c := fun x => by
    constructor
    · intro hx
      obtain ⟨d, h1, rfl, h2⟩ := nearI_mem.1 hx
      exact (nr_nbrs hw hh (by omega) (by omega)).1 h2
    · intro hx
      obtain ⟨d, rfl, h1⟩ := nb x hx
      exact nearI_mem.2 ⟨d, h1, rfl, (nr_nbrs hw hh (by omega) (by omega)).2 hx⟩
  have both : ∀ t, t ≤ leastW o' (nearI w c m) ↔ t ≤ leastL o (nbrs w h c) := fun t => by
    unfold leastW leastL
    rw [le_fold (f := fun d => gi o' d.toNat), le_fold (f := fun d => gi o d.toNat)]
    constructor
    · rintro ⟨h1, h2⟩
      refine ⟨by omega, fun x hx => ?_⟩
      obtain ⟨d, rfl, h3⟩ := nb x hx
      have := i1 d h3
      have := h2 _ ((mem _).2 hx)
      simp at this ⊢
      omega
    · rintro ⟨h1, h2⟩
      have h3 := h2 _ hpn
      simp at h3
      refine ⟨by omega, fun x hx => ?_⟩
      have hx' := (mem x).1 hx
      obtain ⟨d, rfl, h4⟩ := nb x hx'
      have h5 := h2 _ hx'
      simp at h5 ⊢
      by_cases hlt : gi o' d < 1200000
      · have := i2 d h4 hlt; omega
      · omega
  have a := (both _).1 (Int.le_refl _)
  have b := (both _).2 (Int.le_refl _)
  omega
end
end Go.Ab.Grid
